/-
  Texts of one claim, laid together: Geo, Geo2, Geo3, Geo4, Geo5, Own, Al, Mem, Guard, Geo6, Open, Surf, Surf2, Facts, Facts2, Surf1, Surf3, Dig, Surf1b, Surf4, Ref1, Ref2, Ref3, Dig2.
-/
import Derived.LoopN
import Derived.OpenShut
import Derived.Lib.SmallJoins
import Derived.Deep.Slices
import Derived.Test.YtmcgcnpgkkfkoaaGreatDoorProg
import Derived.Test.YtmcgcnpgkkfkoaaGreatDoorM1
set_option maxHeartbeats 8000000
set_option linter.unusedSimpArgs false
set_option linter.unusedVariables false
set_option linter.unusedSectionVars false
namespace Go.Lith
open Go.RowKit
structure P3 where
  x : Int
  y : Int
  z : Int
structure T3 where
  a : P3
  b : P3
  c : P3
namespace P3
def sub (p q : P3) : P3:=⟨p.x - q.x,p.y - q.y,p.z - q.z⟩
def dot (p q : P3) : Int:=p.x * q.x + p.y * q.y + p.z * q.z
def cross (u v : P3) : P3:=⟨u.y * v.z - u.z * v.y,u.z * v.x - u.x * v.z,u.x * v.y - u.y * v.x⟩
end P3
def T3.normal (t : T3) : P3:=(t.b.sub t.a).cross (t.c.sub t.a)
def pt (p : P3) : Go.Value:=.agg #[.int .i64 p.x,.int .i64 p.y,.int .i64 p.z]
def tr (t : T3) : Go.Value:=.agg #[.int .i64 t.a.x,.int .i64 t.a.y,.int .i64 t.a.z,.int .i64 t.b.x,.int .i64 t.b.y,.int .i64 t.b.z,.int .i64 t.c.x,.int .i64 t.c.y,.int .i64 t.c.z]
def wv (v : P3) : Go.Value:=.agg #[.bool (wneg v.x),.string (wmag v.x),.bool (wneg v.y),.string (wmag v.y),.bool (wneg v.z),.string (wmag v.z)]
theorem Bw.up {k m : Nat} {n : Int} [x : Bw k n] (h : k ≤ m:=by decide) : Bd m n:=x.h.mono h
theorem wmag_zero : wmag 0 = ⟨#[]⟩:=by
  have : beBytes 0 = []:=by
    unfold beBytes
    rw [(digs_eq_nil (B:=256) (by omega)).2 rfl]
    rfl
  simp only [wmag,Int.natAbs_zero,this]
theorem W_zero : W 0 = .agg #[.bool false,.string ⟨#[]⟩]:=by simp only [W,wmag_zero]; rfl
class Iw (n : Int) : Prop where
  h : I64 n
class I3 (p : P3) : Prop where
  x : I64 p.x
  y : I64 p.y
  z : I64 p.z
class IT (t : T3) : Prop where
  a : I3 t.a
  b : I3 t.b
  c : I3 t.c
instance {p : P3} [h : I3 p] : Iw p.x:=⟨h.x⟩
instance {p : P3} [h : I3 p] : Iw p.y:=⟨h.y⟩
instance {p : P3} [h : I3 p] : Iw p.z:=⟨h.z⟩
instance {t : T3} [h : IT t] : I3 t.a:=h.a
instance {t : T3} [h : IT t] : I3 t.b:=h.b
instance {t : T3} [h : IT t] : I3 t.c:=h.c
instance {n : Int} [h : Iw n] : Bw 64 n:=⟨h.h.bd⟩
class Bv (k : outParam Nat) (v : P3) : Prop where
  x : Bd k v.x
  y : Bd k v.y
  z : Bd k v.z
instance {k : Nat} {v : P3} [h : Bv k v] : Bw k v.x:=⟨h.x⟩
instance {k : Nat} {v : P3} [h : Bv k v] : Bw k v.y:=⟨h.y⟩
instance {k : Nat} {v : P3} [h : Bv k v] : Bw k v.z:=⟨h.z⟩
theorem Bv.mono {k m : Nat} {v : P3} (h : Bv k v) (hk : k ≤ m) : Bv m v:=⟨h.x.mono hk,h.y.mono hk,h.z.mono hk⟩
theorem Bv.of {k m : Nat} {v : P3} [h : Bv k v] (hk : k ≤ m:=by decide) : Bv m v:=h.mono hk
instance {p q : P3} [a : I3 p] [b : I3 q] : Bv 65 (p.sub q):=⟨a.x.bd.sub b.x.bd,a.y.bd.sub b.y.bd,a.z.bd.sub b.z.bd⟩
theorem bd_prod {k l : Nat} {a b c d : Int} (ha : Bd k a) (hb : Bd l b) (hc : Bd k c) (hd : Bd l d) : Bd (k + l + 1) (a * b - c * d):=by
  have:=(ha.mul hb).sub (hc.mul hd)
  exact this.mono (by omega)
theorem bd_prod' {k l : Nat} {a b c d : Int} (ha : Bd k a) (hb : Bd l b) (hc : Bd k c) (hd : Bd l d) : Bd (k + l + 1) (a * b + c * d):=by
  have:=(ha.mul hb).add (hc.mul hd)
  exact this.mono (by omega)
instance {k l : Nat} {u v : P3} [a : Bv k u] [b : Bv l v] : Bv (k + l + 1) (u.cross v):=⟨bd_prod a.y b.z a.z b.y,bd_prod a.z b.x a.x b.z,bd_prod a.x b.y a.y b.x⟩
instance {k l : Nat} {u v : P3} [a : Bv k u] [b : Bv l v] : Bw (k + l + 2) (u.dot v):=⟨((bd_prod' a.x b.x a.y b.y).add (a.z.mul b.z)).mono (by omega)⟩
instance {t : T3} [h : IT t] : Bv 131 t.normal:=inferInstanceAs (Bv 131 ((t.b.sub t.a).cross (t.c.sub t.a)))
theorem P3.dot0 {u v : P3} : 0 + u.x * v.x + u.y * v.y + u.z * v.z = u.dot v:=by simp only [P3.dot,Int.zero_add]
section
variable {P : Program} {Q : Exit → Act → World → Prop} {a : Act} {w : World} {c : Code} {n : Nat}
theorem rounds_step (h : c.wp P (Exit.then (Code.rounds P c Q n) Q) a w) : Code.rounds P c Q (n + 1) a w:=h
theorem then_rounds (h : c.wp P (Exit.then (Code.rounds P c Q n) Q) a w) : Exit.then (Code.rounds P c Q (n + 1)) Q .normal a w:=h
end
end Go.Lith
namespace Go.Lith
open Go.RowKit
def nv (v : P3) : Go.Value:=.agg #[.int .i64 v.x,.int .i64 v.y,.int .i64 v.z]
def sg (v : P3) : Go.Value:=.agg #[.int .i64 (isign v.x),.int .i64 (isign v.y),.int .i64 (isign v.z)]
class S3 (p : P3) : Prop where
  x : p.x.natAbs < 262144
  y : p.y.natAbs < 262144
  z : p.z.natAbs < 262144
class N3 (p : P3) : Prop where
  x : p.x.natAbs < 524288
  y : p.y.natAbs < 524288
  z : p.z.natAbs < 524288
instance {p q : P3} [a : S3 p] [b : S3 q] : N3 (p.sub q):=⟨by have:=a.x; have:=b.x; simp only [P3.sub]; omega,by have:=a.y; have:=b.y; simp only [P3.sub]; omega,by have:=a.z; have:=b.z; simp only [P3.sub]; omega⟩
theorem mulS {a b : Int} (ha : a.natAbs < 524288) (hb : b.natAbs < 524288) : -274877906944 < a * b ∧ a * b < 274877906944:=by
  have h : (a * b).natAbs ≤ 524287 * 524287:=by rw [Int.natAbs_mul]; exact Nat.mul_le_mul (by omega) (by omega)
  omega
theorem subS {x y : Int} (h : -274877906944 < x ∧ x < 274877906944) (k : -274877906944 < y ∧ y < 274877906944) : IntKind.i64.wrap (x - y) = x - y:=wrap_i64 (by omega) (by omega)
theorem wrapS {x : Int} (h : -274877906944 < x ∧ x < 274877906944) : IntKind.i64.wrap x = x:=wrap_i64 (by omega) (by omega)
theorem abs64 {v : Int} (h : I64 v) : IntKind.u64.wrap (if v < IntKind.i64.wrap (0 - v) then IntKind.i64.wrap (0 - v) else v) = (v.natAbs : Int):=by
  obtain ⟨h1,h2⟩:=h
  rcases Int.lt_or_le (-9223372036854775808) v with h3 | h3
  · rw [wrap_i64 (x:=0 - v) (by omega) (by omega),wrap_u64_emod]
    split <;> omega
  · obtain rfl : v = -9223372036854775808:=by omega
    decide
def len8 : ByteArray:=⟨#[0,1,2,2,3,3,3,3,4,4,4,4,4,4,4,4,5,5,5,5,5,5,5,5,5,5,5,5,5,5,5,5,6,6,6,6,6,6,6,6,6,6,6,6,6,6,6,6,6,6,6,6,6,6,6,6,6,6,6,6,6,6,6,6,7,7,7,7,7,7,7,7,7,7,7,7,7,7,7,7,7,7,7,7,7,7,7,7,7,7,7,7,7,7,7,7,7,7,7,7,7,7,7,7,7,7,7,7,7,7,7,7,7,7,7,7,7,7,7,7,7,7,7,7,7,7,7,7,8,8,8,8,8,8,8,8,8,8,8,8,8,8,8,8,8,8,8,8,8,8,8,8,8,8,8,8,8,8,8,8,8,8,8,8,8,8,8,8,8,8,8,8,8,8,8,8,8,8,8,8,8,8,8,8,8,8,8,8,8,8,8,8,8,8,8,8,8,8,8,8,8,8,8,8,8,8,8,8,8,8,8,8,8,8,8,8,8,8,8,8,8,8,8,8,8,8,8,8,8,8,8,8,8,8,8,8,8,8,8,8,8,8,8,8,8,8,8,8,8,8,8,8,8,8,8,8]⟩
theorem len8_spec : ∀ i,i < 256 → ∃ b : UInt8,len8[i]? = some b ∧ b.toNat ≤ 8 ∧ (b.toNat ≤ 2 → i < 4):=by
  have h : (List.range 256).all (fun i=>match len8[i]? with
    | some b=>decide (b.toNat ≤ 8) && (decide (2 < b.toNat) || decide (i < 4))
    | none=>false) = true:=by decide +kernel
  intro i hi
  have:=List.all_eq_true.1 h i (List.mem_range.2 hi)
  cases hb : len8[i]? with
  | none=>rw [hb] at this; cases this
  | some b =>
    rw [hb] at this
    simp only [Bool.and_eq_true,Bool.or_eq_true,decide_eq_true_eq] at this
    exact ⟨b,rfl,this.1,fun h=>by omega⟩
section
variable {P : Program} {ds : List Deferred} {l : List Value} {x y : Operand} {T ty : TypeId} {ops : Array Oper} {Q : Exit → Act → World → Prop} {rest : List Oper} {d : Nat} {pos : String} {after : Array Edge} {w : World} {k : IntKind}
theorem n_len8 {Y : Nat} (hu : P.underlying T = some .string) (hx : ev l x = .string len8) (hy : ev l y = .int k (Y : Int)) (hY : Y < 256) (h : ∀ b : Nat,b ≤ 8 → (b ≤ 2 → Y < 4) → wpList P ops Q rest (Fr (l.set d (.int .u8 (b : Int))) ds) w) :
    wpList P ops Q (Oper.mk (some d) (.index T x y) ty pos after none :: rest) (Fr l ds) w:=by
  obtain ⟨b,hb,h1,h2⟩:=len8_spec Y hY
  exact n_val (r_indexStr hu hx hy (by omega) (by rw [Int.toNat_natCast]; exact hb)) (h b.toNat h1 h2)
end
theorem shr16n {m : Nat} : (m : Int).fdiv (2 ^ (min (16 : Int).toNat IntKind.u64.bits)) = ((m / 65536 : Nat) : Int):=by
  show (m : Int).fdiv (2 ^ 16) = _
  rw [Int.fdiv_eq_ediv_of_nonneg _ (by decide)]
  omega
theorem shr8n {m : Nat} : (m : Int).fdiv (2 ^ (min (8 : Int).toNat IntKind.u64.bits)) = ((m / 256 : Nat) : Int):=by
  show (m : Int).fdiv (2 ^ 8) = _
  rw [Int.fdiv_eq_ediv_of_nonneg _ (by decide)]
  omega
end Go.Lith
namespace Go.Lith
open Go.RowKit
def segq (x p q : P3) : Rat :=
  if (q.sub p).dot (x.sub p) ≤ 0 then Rat.divInt ((x.sub p).dot (x.sub p)) 1
  else if (q.sub p).dot (q.sub p) ≤ (q.sub p).dot (x.sub p) then Rat.divInt ((q.sub x).dot (q.sub x)) 1
  else Rat.divInt ((x.sub p).dot (x.sub p) * (q.sub p).dot (q.sub p) - (q.sub p).dot (x.sub p) * (q.sub p).dot (x.sub p)) ((q.sub p).dot (q.sub p))
def side (n a b x : P3) : Int:=n.dot ((b.sub a).cross (x.sub a))
def ins (x : P3) (t : T3) : Prop:=0 ≤ side t.normal t.a t.b x ∧ 0 ≤ side t.normal t.b t.c x ∧ 0 ≤ side t.normal t.c t.a x
instance (x : P3) (t : T3) : Decidable (ins x t):=inferInstanceAs (Decidable (_ ∧ _ ∧ _))
def T3.flat (t : T3) : Prop:=t.normal.x = 0 ∧ t.normal.y = 0 ∧ t.normal.z = 0
instance (t : T3) : Decidable t.flat:=inferInstanceAs (Decidable (_ ∧ _ ∧ _))
def minq (m q : Rat) : Rat:=if q < m then q else m
def edgeq (x : P3) (t : T3) : Rat:=minq (minq (segq x t.a t.b) (segq x t.b t.c)) (segq x t.c t.a)
def faceq (x : P3) (t : T3) : Rat:=Rat.divInt (t.normal.dot (x.sub t.a) * t.normal.dot (x.sub t.a)) (t.normal.dot t.normal)
def triq (x : P3) (t : T3) : Rat:=if ¬ t.flat ∧ ins x t then faceq x t else edgeq x t
def farq (x : P3) : List T3 → Rat
  | []=>0
  | t :: ts=>ts.foldl (fun m u=>minq m (triq x u)) (triq x t)
theorem isign_zero_iff {n : Int} : isign n = 0 ↔ n = 0:=by
  unfold isign
  constructor
  · intro h
    split at h
    · cases h
    · split at h
      · cases h
      · omega
  · rintro rfl; rfl
theorem isign_nn {n : Int} : 0 ≤ isign n ↔ 0 ≤ n:=by
  unfold isign
  split
  · constructor <;> intro h <;> omega
  · split <;> constructor <;> intro h <;> omega
theorem isign_gt {n : Int} : 0 < isign n ↔ 0 < n:=by
  unfold isign
  split
  · constructor <;> intro h <;> omega
  · split <;> constructor <;> intro h <;> omega
theorem isign_le {n : Int} : isign n ≤ 0 ↔ n ≤ 0:=by
  have:=@isign_gt n
  omega
theorem flat_isign {t : T3} : (isign t.normal.x = 0 ∧ isign t.normal.y = 0 ∧ isign t.normal.z = 0) ↔ t.flat:=by
  simp only [isign_zero_iff,T3.flat]
theorem sq_nn (a : Int) : 0 ≤ a * a:=by
  rcases Int.le_total 0 a with h | h
  · exact Int.mul_nonneg h h
  · exact Int.mul_nonneg_of_nonpos_of_nonpos h h
theorem sq_pos {a : Int} (h : a ≠ 0) : 0 < a * a:=by
  rcases Int.lt_or_gt_of_ne h with h | h
  · exact Int.mul_pos_of_neg_of_neg h h
  · exact Int.mul_pos h h
theorem dot_nn (u : P3) : 0 ≤ u.dot u:=by
  have:=sq_nn u.x; have:=sq_nn u.y; have:=sq_nn u.z
  simp only [P3.dot]; omega
theorem dot_pos {u : P3} : 0 < u.dot u ↔ ¬ (u.x = 0 ∧ u.y = 0 ∧ u.z = 0):=by
  have h1:=sq_nn u.x; have h2:=sq_nn u.y; have h3:=sq_nn u.z
  constructor
  · rintro h ⟨e1,e2,e3⟩
    simp [P3.dot,e1,e2,e3] at h
  · intro h
    simp only [P3.dot]
    by_cases e1 : u.x = 0
    · by_cases e2 : u.y = 0
      · by_cases e3 : u.z = 0
        · exact absurd ⟨e1,e2,e3⟩ h
        · have:=sq_pos e3; omega
      · have:=sq_pos e2; omega
    · have:=sq_pos e1; omega
theorem flat_dot {t : T3} : 0 < t.normal.dot t.normal ↔ ¬ t.flat:=dot_pos
theorem Bq.mono {k m : Nat} {q : Rat} (h : Bq k q) (hk : k ≤ m) : Bq m q:=⟨h.n.mono hk,h.d.mono hk⟩
theorem bd_11 : Bd 1 1:=by
  show Int.natAbs 1 < 2 ^ 1
  decide
instance : Bw 1 1:=⟨bd_11⟩
theorem bd_one {k : Nat} : Bd (k + 1) 1:=bd_11.mono (by omega)
theorem segq_bq {x p q : P3} [I3 x] [I3 p] [I3 q] : Bq 1000 (segq x p q):=by
  unfold segq
  split
  · exact (Bq.mk' (a:=200) (b:=1) Bw.up bd_11 (by decide)).mono (by decide)
  · split
    · exact (Bq.mk' (a:=200) (b:=1) Bw.up bd_11 (by decide)).mono (by decide)
    · exact (Bq.mk' (a:=400) (b:=200) Bw.up Bw.up (by rename_i h1 h2; have:=dot_nn (q.sub p); omega)).mono (by decide)
theorem minq_bq {m q : Rat} (h : Bq 1000 m) (k : Bq 1000 q) : Bq 1000 (minq m q):=by
  unfold minq
  split
  · exact k
  · exact h
theorem triq_bq {x : P3} {t : T3} [I3 x] [IT t] : Bq 1000 (triq x t):=by
  unfold triq
  split
  · rename_i h
    have:=flat_dot.2 h.1
    exact (Bq.mk' (a:=500) (b:=300) Bw.up Bw.up (by omega)).mono (by decide)
  · exact minq_bq (minq_bq segq_bq segq_bq) segq_bq
theorem foldl_bq {x : P3} [I3 x] : ∀ (ts : List T3) (m : Rat),(∀ t ∈ ts,IT t) → Bq 1000 m → Bq 1000 (ts.foldl (fun m u=>minq m (triq x u)) m)
  | [],m,_,h=>h
  | t :: ts,m,ht,h=>by
    haveI:=ht t (by simp)
    exact foldl_bq ts _ (fun u hu=>ht u (by simp [hu])) (minq_bq h triq_bq)
theorem triq_edge {x : P3} {t : T3} (h : ¬ (¬ t.flat ∧ ins x t)) : edgeq x t = triq x t:=by rw [triq,if_neg h]
theorem triq_face {x : P3} {t : T3} (h : ¬ t.flat ∧ ins x t) : faceq x t = triq x t:=by rw [triq,if_pos h]
theorem no0 {x : P3} {t : T3} (h : false = !decide (isign t.normal.x = 0 ∧ isign t.normal.y = 0 ∧ isign t.normal.z = 0)) : ¬ (¬ t.flat ∧ ins x t):=fun ⟨h0,_⟩=>by
  rw [decide_eq_false (fun e=>h0 (flat_isign.1 e))] at h
  cases h
theorem yes0 {t : T3} (h : true = !decide (isign t.normal.x = 0 ∧ isign t.normal.y = 0 ∧ isign t.normal.z = 0)) : ¬ t.flat:=fun e=>by
  rw [decide_eq_true (flat_isign.2 e)] at h
  cases h
theorem no_side {n : Int} (h : false = decide (0 ≤ isign n)) : ¬ 0 ≤ n:=fun e=>of_decide_eq_false h.symm (isign_nn.2 e)
theorem yes_side {n : Int} (h : true = decide (0 ≤ isign n)) : 0 ≤ n:=isign_nn.1 (of_decide_eq_true h.symm)
theorem Bq.up {k m : Nat} {q : Rat} [h : Bq k q] (hk : k ≤ m:=by decide) : Bq m q:=h.mono hk
instance {x p q : P3} [I3 x] [I3 p] [I3 q] : Bq 1000 (segq x p q):=segq_bq
instance {x : P3} {t : T3} [I3 x] [IT t] : Bq 1000 (triq x t):=triq_bq
theorem farq_bq {x : P3} [I3 x] {ts : List T3} (h : ∀ t ∈ ts,IT t) : Bq 1000 (farq x ts):=by
  cases ts with
  | nil=>exact ⟨(bd_zero 1000),by show Bd 1000 1; exact bd_one⟩
  | cons t ts =>
    haveI:=h t (by simp)
    exact foldl_bq ts _ (fun u hu=>h u (by simp [hu])) triq_bq
theorem farq_one {x : P3} {ts : List T3} {t : T3} (h : ts[0]? = some t) : farq x (ts.take 1) = triq x t:=by
  cases ts with
  | nil=>cases h
  | cons u ts=>cases h; rfl
theorem farq_step {x : P3} {ts : List T3} {t : T3} {k : Nat} (hk : k ≠ 0) (h : ts[k]? = some t) : farq x (ts.take (k + 1)) = minq (farq x (ts.take k)) (triq x t):=by
  cases ts with
  | nil=>cases h
  | cons u ts =>
    obtain ⟨k,rfl⟩ : ∃ j,k = j + 1:=⟨k - 1,by omega⟩
    rw [List.take_succ_cons,List.take_succ_cons,List.take_add_one]
    simp only [List.getElem?_cons_succ] at h
    rw [h]
    simp [farq,List.foldl_append]
structure TrisAt (w : World) (A : Option Addr) (n : Nat) (ts : List T3) : Prop where
  len : ts.length = n
  it : ∀ t ∈ ts,IT t
  row : ∀ i t,ts[i]? = some t → ∃ a,A = some a ∧ Row w (a.add (i * 9)) [.int .i64 t.a.x,.int .i64 t.a.y,.int .i64 t.a.z,.int .i64 t.b.x,.int .i64 t.b.y,.int .i64 t.b.z,.int .i64 t.c.x,.int .i64 t.c.y,.int .i64 t.c.z]
theorem TrisAt.ext {w w' : World} {A : Option Addr} {n : Nat} {ts : List T3} (h : TrisAt w A n ts) (hE : Ext w w') : TrisAt w' A n ts :=
  ⟨h.len,h.it,fun i t hi=>let ⟨a,e,hr⟩:=h.row i t hi; ⟨a,e,hr.ext hE⟩⟩
theorem TrisAt.nil (w : World) (A : Option Addr) : TrisAt w A 0 []:=⟨rfl,fun t h=>(by cases h),fun i t h=>(by cases h)⟩
theorem TrisAt.get {w : World} {A : Option Addr} {n : Nat} {ts : List T3} (h : TrisAt w A n ts) {i : Nat} (hi : i < n) : ∃ t,ts[i]? = some t ∧ IT t ∧ ∃ a,A = some a ∧ Row w (a.add (i * 9)) [.int .i64 t.a.x,.int .i64 t.a.y,.int .i64 t.a.z,.int .i64 t.b.x,.int .i64 t.b.y,.int .i64 t.b.z,.int .i64 t.c.x,.int .i64 t.c.y,.int .i64 t.c.z]:=by
  have hl : i < ts.length:=by rw [h.len]; exact hi
  refine ⟨ts[i],List.getElem?_eq_getElem hl,h.it _ (List.getElem_mem hl),h.row i _ (List.getElem?_eq_getElem hl)⟩
end Go.Lith
namespace Go.Lith
open Go.RowKit
def sumT (f : T3 → Int) (ts : List T3) : Int:=(ts.map f).sum
theorem sumT_step {f : T3 → Int} {ts : List T3} {t : T3} {k : Nat} (h : ts[k]? = some t) : sumT f (ts.take (k + 1)) = sumT f (ts.take k) + f t:=by
  unfold sumT
  rw [List.take_add_one,h]
  simp
theorem sumT_bound {f : T3 → Int} {m : Nat} : ∀ (ts : List T3),(∀ t ∈ ts,Bd m (f t)) → (sumT f ts).natAbs ≤ ts.length * 2 ^ m
  | [],_=>by simp [sumT]
  | t :: ts,h=>by
    have h1:=sumT_bound ts (fun u hu=>h u (by simp [hu]))
    have h2:=h t (by simp)
    unfold Bd at h2
    have e : sumT f (t :: ts) = f t + sumT f ts:=by simp [sumT]
    rw [e,List.length_cons,Nat.add_mul,Nat.one_mul]
    omega
theorem sumT_bd {f : T3 → Int} {m : Nat} {ts : List T3} (h : ∀ t ∈ ts,Bd m (f t)) (hl : ts.length < 2 ^ 64) : Bd (64 + m) (sumT f ts):=by
  have h1:=sumT_bound ts h
  unfold Bd
  rw [Nat.pow_add]
  exact Nat.lt_of_le_of_lt h1 (Nat.mul_lt_mul_of_pos_right hl (Nat.two_pow_pos m))
theorem sumT_bdt {f : T3 → Int} {m k : Nat} {ts : List T3} (h : ∀ t ∈ ts,Bd m (f t)) (hl : ts.length < 2 ^ 64) : Bd (64 + m) (sumT f (ts.take k)) :=
  sumT_bd (fun t ht=>h t (List.mem_of_mem_take ht)) (Nat.lt_of_le_of_lt (by rw [List.length_take]; exact Nat.min_le_right ..) hl)
def nn (t : T3) : Int:=t.normal.dot t.normal
def lowA (t : T3) : Int:=(isqrt (nn t).natAbs : Int)
def highA (t : T3) : Int:=lowA t + if lowA t * lowA t = nn t then 0 else 1
theorem lowA_bd {t : T3} [IT t] : Bd 300 (lowA t):=by
  have h : Bd 300 (nn t):=(Bw.up : Bd 300 (t.normal.dot t.normal))
  refine h.of_le ?_
  simp only [lowA,Int.natAbs_natCast]
  exact isqrt_le _
theorem highA_bd {t : T3} [IT t] : Bd 301 (highA t):=by
  refine (lowA_bd (t:=t)).add ?_ |>.mono (by decide : max 300 1 + 1 ≤ 301)
  split
  · exact bd_zero 1
  · exact bd_11
instance {t : T3} [IT t] : Bw 300 (lowA t):=⟨lowA_bd⟩
instance {t : T3} [IT t] : Bw 301 (highA t):=⟨highA_bd⟩
instance {t : T3} [IT t] : Bw 300 (nn t):=⟨(Bw.up : Bd 300 (t.normal.dot t.normal))⟩
def det (t : T3) : Int:=t.a.dot (t.b.cross t.c)
theorem det_six {a b c : P3} {s : Int} : s + a.x * (b.y * c.z) + a.y * (b.z * c.x) + a.z * (b.x * c.y) - a.x * (b.z * c.y) - a.y * (b.x * c.z) - a.z * (b.y * c.x) = s + det ⟨a,b,c⟩:=by
  simp only [det,P3.dot,P3.cross]
  grind
theorem i3_bv {p : P3} [h : I3 p] : Bv 64 p:=⟨h.x.bd,h.y.bd,h.z.bd⟩
theorem det_bd {t : T3} [IT t] : Bd 200 (det t):=by
  haveI:=i3_bv (p:=t.a)
  haveI:=i3_bv (p:=t.b)
  haveI:=i3_bv (p:=t.c)
  exact (Bw.up : Bd 200 (t.a.dot (t.b.cross t.c)))
instance {t : T3} [IT t] : Bw 200 (det t):=⟨det_bd⟩
def mom (f : P3 → Int) (t : T3) : Int:=det t * f t.a + det t * f t.b + det t * f t.c
theorem det_step {t : T3} {s : Int} : s + t.a.x * (t.b.y * t.c.z) + t.a.y * (t.b.z * t.c.x) + t.a.z * (t.b.x * t.c.y) - t.a.x * (t.b.z * t.c.y) - t.a.y * (t.b.x * t.c.z) - t.a.z * (t.b.y * t.c.x) = s + det t:=det_six
theorem sumT_one {f : T3 → Int} {t : T3} : sumT f [t] = f t:=by simp [sumT]
theorem mom_step {f : P3 → Int} {t : T3} {s : Int} : s + det t * f t.a + det t * f t.b + det t * f t.c = s + mom f t:=by
  simp only [mom,Int.add_assoc]
theorem mom_bd {f : P3 → Int} {t : T3} [IT t] (ha : Bd 64 (f t.a)) (hb : Bd 64 (f t.b)) (hc : Bd 64 (f t.c)) : Bd 300 (mom f t) :=
  (((det_bd.mul ha).add (det_bd.mul hb)).add (det_bd.mul hc)).mono (by decide)
theorem W_eq_iff {a b : Int} : (wneg a = wneg b ∧ wmag a = wmag b) ↔ a = b:=by
  constructor
  · rintro ⟨h1,h2⟩
    exact W_inj (by simp only [W,h1,h2])
  · rintro rfl; exact ⟨rfl,rfl⟩
theorem TrisAt.one {w : World} {g : Nat} {t : T3} {T : TypeId} [h : IT t] (hB : Blk w g [.int .i64 t.a.x,.int .i64 t.a.y,.int .i64 t.a.z,.int .i64 t.b.x,.int .i64 t.b.y,.int .i64 t.b.z,.int .i64 t.c.x,.int .i64 t.c.y,.int .i64 t.c.z] T) : TrisAt w (some ⟨g,0,none⟩) 1 [t]:=by
  refine ⟨rfl,fun u hu=>?_,fun i u hi=>?_⟩
  · obtain rfl:=List.mem_singleton.1 hu
    exact h
  · cases i with
    | zero =>
      cases hi
      exact ⟨_,rfl,hB.row 0⟩
    | succ i=>cases hi
def cq (m v : Int) : Rat:=if v = 0 then 0 else Rat.divInt m (v * 4)
def fv (a b c : Rat) : Go.Value:=.agg #[.bool (wneg a.num),.string (wmag a.num),.bool (wneg (a.den : Int)),.string (wmag (a.den : Int)),.bool (wneg b.num),.string (wmag b.num),.bool (wneg (b.den : Int)),.string (wmag (b.den : Int)),.bool (wneg c.num),.string (wmag c.num),.bool (wneg (c.den : Int)),.string (wmag (c.den : Int))]
theorem highA_ne {t : T3} {s : Int} (h : ¬ lowA t * lowA t = nn t) : s + highA t = s + lowA t + 1:=by rw [highA,if_neg h,Int.add_assoc]
theorem highA_eq {t : T3} {s : Int} (h : lowA t * lowA t = nn t) : s + highA t = s + lowA t:=by rw [highA,if_pos h,Int.add_zero]
theorem TrisAt.at {w : World} {a : Addr} {n i : Nat} {ts : List T3} {t : T3} (h : TrisAt w (some a) n ts) (ht : ts[i]? = some t) : Row w (a.add (i * 9)) [.int .i64 t.a.x,.int .i64 t.a.y,.int .i64 t.a.z,.int .i64 t.b.x,.int .i64 t.b.y,.int .i64 t.b.z,.int .i64 t.c.x,.int .i64 t.c.y,.int .i64 t.c.z]:=by
  obtain ⟨a',ha,hr⟩:=h.row i t ht
  cases ha
  exact hr
end Go.Lith
namespace Go.Lith
open Go.RowKit
def triCells (t : T3) : List Go.Value:=[.int .i64 t.a.x,.int .i64 t.a.y,.int .i64 t.a.z,.int .i64 t.b.x,.int .i64 t.b.y,.int .i64 t.b.z,.int .i64 t.c.x,.int .i64 t.c.y,.int .i64 t.c.z]
theorem Row.pre {w : World} {a : Addr} {xs ys : List Go.Value} (h : Row w a (xs ++ ys)) : Row w a xs:=fun j u hj=>h j u (by
  have hl : j < xs.length:=(List.getElem?_eq_some_iff.1 hj).1
  rw [List.getElem?_append_left hl]; exact hj)
theorem triCells_length (t : T3) : (triCells t).length = 9:=rfl
theorem drop_flat : ∀ (ts : List T3) (i : Nat) (t : T3),ts[i]? = some t → (ts.flatMap triCells).drop (i * 9) = triCells t ++ (ts.drop (i + 1)).flatMap triCells
  | [],i,t,h=>by cases h
  | u :: ts,0,t,h=>by
    cases h
    rfl
  | u :: ts,i + 1,t,h=>by
    rw [List.flatMap_cons,show (i + 1) * 9 = (triCells u).length + i * 9 by rw [triCells_length]; omega,List.drop_append,List.drop_of_length_le (by omega),List.nil_append]
    rw [show (triCells u).length + i * 9 - (triCells u).length = i * 9 by omega]
    exact drop_flat ts i t h
theorem TrisAt.of_cells {w : World} {g n : Nat} {ts : List T3} {T : TypeId} {cs : List Go.Value} (hB : Blk w g cs T) (hc : cs = ts.flatMap triCells) (hn : ts.length = n) (hi : ∀ t ∈ ts,IT t) : TrisAt w (some ⟨g,0,none⟩) n ts:=by
  subst hc
  refine ⟨hn,hi,fun i t ht=>⟨_,rfl,?_⟩⟩
  rw [addr_add_mk,Nat.zero_add]
  have:=hB.row (i * 9)
  rw [drop_flat ts i t ht] at this
  exact this.pre
instance {a b c : Int} [x : Iw a] [y : Iw b] [z : Iw c] : I3 ⟨a,b,c⟩:=⟨x.h,y.h,z.h⟩
instance {a b c : P3} [x : I3 a] [y : I3 b] [z : I3 c] : IT ⟨a,b,c⟩:=⟨x,y,z⟩
end Go.Lith
namespace Go.Lith
open Go.RowKit
abbrev blkOf (A : Option Addr) : Option Nat:=A.map (·.block)
structure Ow (w0 w : World) (S : List (Option Nat)) (E : TypeId) (c : Nat) (A : Option Addr) (n cap : Nat) (xs : List Value) : Prop where
  own : w.ownsRow w0.heap.size E c (.slice A n cap) n xs
  sep : ∀ b,blkOf A = some b → some b ∉ S
  bd : ∀ b,some b ∈ S → b < w.heap.size
structure Wr (w w' : World) (A : Option Addr) : Prop where
  os : w'.os = w.os
  tape : w'.tape = w.tape
  output : w'.output = w.output
  size : w.heap.size ≤ w'.heap.size
  block : ∀ k,k < w.heap.size → blkOf A ≠ some k → w'.heap[k]? = w.heap[k]?
theorem ownsRow_cases {w : World} {base c n cap : Nat} {E : TypeId} {A : Option Addr} {xs : List Value} (h : w.ownsRow base E c (.slice A n cap) n xs) :
    (A = none ∧ n = 0 ∧ cap = 0 ∧ xs = []) ∨ ∃ g cur,A = some ⟨g,0,none⟩ ∧ base ≤ g ∧ w.heap[g]? = some (.cells cur E (0,0)) ∧ n ≤ cap ∧ cap ≤ maxLen ∧ cur.size = cap * c ∧ cur.toList.take (n * c) = xs:=by
  rcases h.2 with ⟨h1,h2⟩ | ⟨g,cap',cur,h1,h2,h3,h4,h5,h6,h7⟩
  · cases h1
    exact .inl ⟨rfl,h2,rfl,List.eq_nil_of_length_eq_zero (by rw [h.1,h2,Nat.zero_mul])⟩
  · cases h1
    exact .inr ⟨g,cur,rfl,h2,h3,h4,h5,h6,h7⟩
section
variable {w0 w w' : World} {S : List (Option Nat)} {E : TypeId} {c n cap : Nat} {A : Option Addr} {xs : List Value}
theorem Ow.cases (h : Ow w0 w S E c A n cap xs) : (A = none ∧ n = 0 ∧ cap = 0 ∧ xs = []) ∨ ∃ g cur,A = some ⟨g,0,none⟩ ∧ w0.heap.size ≤ g ∧ w.heap[g]? = some (.cells cur E (0,0)) ∧ n ≤ cap ∧ cap ≤ maxLen ∧ cur.size = cap * c ∧ cur.toList.take (n * c) = xs:=ownsRow_cases h.own
theorem Ow.lt (h : Ow w0 w S E c A n cap xs) : ∀ b,blkOf A = some b → b < w.heap.size:=fun b hb=>by
  rcases h.cases with ⟨rfl,_⟩ | ⟨g,cur,rfl,_,hg,_⟩
  · cases hb
  · cases hb
    exact (Array.getElem?_eq_some_iff.1 hg).1
theorem Ow.ge (h : Ow w0 w S E c A n cap xs) : ∀ b,blkOf A = some b → w0.heap.size ≤ b:=fun b hb=>by
  rcases h.cases with ⟨rfl,_⟩ | ⟨g,cur,rfl,hg,_⟩
  · cases hb
  · cases hb
    exact hg
theorem Ow.le (h : Ow w0 w S E c A n cap xs) : n ≤ cap:=by
  rcases h.cases with ⟨_,rfl,rfl,_⟩ | ⟨g,cur,_,_,_,h1,_⟩
  · exact Nat.le_refl _
  · exact h1
theorem Ow.some (h : Ow w0 w S E c A n cap xs) (hn : 0 < n) : ∃ g,A = some ⟨g,0,none⟩:=by
  rcases h.cases with ⟨_,rfl,_⟩ | ⟨g,cur,rfl,_⟩
  · omega
  · exact ⟨g,rfl⟩
theorem Ow.keep (h : Ow w0 w S E c A n cap xs) (hs : w.heap.size ≤ w'.heap.size) (hb : ∀ b,blkOf A = Option.some b → w'.heap[b]? = w.heap[b]?) : Ow w0 w' S E c A n cap xs:=by
  refine ⟨⟨h.own.1,?_⟩,h.sep,fun b hb=>Nat.lt_of_lt_of_le (h.bd b hb) hs⟩
  rcases h.cases with ⟨rfl,rfl,rfl,_⟩ | ⟨g,cur,rfl,h1,h2,h3⟩
  · exact .inl ⟨rfl,rfl⟩
  · exact .inr ⟨g,cap,cur,rfl,h1,(hb g rfl).trans h2,h3⟩
theorem Ow.ext (h : Ow w0 w S E c A n cap xs) (hE : Ext w w') : Ow w0 w' S E c A n cap xs:=h.keep hE.size fun b hb=>Below.block hE b (h.lt b hb)
theorem Ow.chg {g : Nat} (h : Ow w0 w S E c A n cap xs) (hC : Chg w w' g) (hg : Option.some g ∈ S) : Ow w0 w' S E c A n cap xs :=
  h.keep (by rw [hC.size]; exact Nat.le_refl _) fun b hb=>hC.block b (fun e=>h.sep b hb (e ▸ hg))
theorem Ow.new {g : Nat} (h : Ow w0 w S E c A n cap xs) (hE : Ext w w') (hg : w.heap.size ≤ g) (hl : g < w'.heap.size) : Ow w0 w' (Option.some g :: S) E c A n cap xs:=by
  refine ⟨(h.ext hE).own,fun b hb hm=>?_,fun b hb=>?_⟩
  · rcases List.mem_cons.1 hm with e | hm
    · cases e
      have:=h.lt _ hb
      omega
    · exact h.sep b hb hm
  · rcases List.mem_cons.1 hb with e | hb
    · cases e; exact hl
    · exact Nat.lt_of_lt_of_le (h.bd b hb) hE.size
theorem Ow.sub {T : List (Option Nat)} (h : Ow w0 w S E c A n cap xs) (hT : ∀ s ∈ T,s ∈ S) : Ow w0 w T E c A n cap xs:=⟨h.own,fun b hb hm=>h.sep b hb (hT _ hm),fun b hb=>h.bd b (hT _ hb)⟩
theorem Ow.base {w1 : World} (h : Ow w0 w S E c A n cap xs) (hX : Ext w1 w0) : Ow w1 w S E c A n cap xs:=by
  refine ⟨⟨h.own.1,?_⟩,h.sep,h.bd⟩
  rcases h.cases with ⟨rfl,rfl,rfl,_⟩ | ⟨g,cur,rfl,h1,h2,h3⟩
  · exact .inl ⟨rfl,rfl⟩
  · exact .inr ⟨g,cap,cur,rfl,Nat.le_trans hX.size h1,h2,h3⟩
theorem Ow.newO {w1 : World} {S2 : List (Option Nat)} {E2 : TypeId} {c2 n2 cap2 : Nat} {A2 : Option Addr} {xs2 : List Value} (h : Ow w0 w S E c A n cap xs) (hE : Ext w w') (h2 : Ow w w' S2 E2 c2 A2 n2 cap2 xs2) : Ow w0 w' (blkOf A2 :: S) E c A n cap xs:=by
  refine ⟨(h.ext hE).own,fun b hb hm=>?_,fun b hb=>?_⟩
  · rcases List.mem_cons.1 hm with e | hm
    · have:=h2.ge b e.symm
      have:=h.lt b hb
      omega
    · exact h.sep b hb hm
  · rcases List.mem_cons.1 hb with e | hb
    · exact h2.lt b e.symm
    · exact Nat.lt_of_lt_of_le (h.bd b hb) hE.size
theorem Ow.wr {A2 : Option Addr} (h : Ow w0 w S E c A n cap xs) (hW : Wr w w' A2) (hm : blkOf A2 ∈ S) : Ow w0 w' S E c A n cap xs :=
  h.keep hW.size fun b hb=>hW.block b (h.lt b hb) (fun e=>h.sep b hb (e ▸ hm))
theorem Blk.wr {g : Nat} {cs : List Value} {t : TypeId} (hB : Blk w g cs t) (hW : Wr w w' A) (h : Ow w0 w S E c A n cap xs) (hm : Option.some g ∈ S) : Blk w' g cs t:=(hW.block g hB.lt (fun e=>h.sep g e hm)).trans hB
theorem Ext.wr {w1 : World} (hX : Ext w1 w) (h : Ow w1 w S E c A n cap xs) (hW : Wr w w' A) : Ext w1 w' :=
  ⟨hW.os.trans hX.os,hW.tape.trans hX.tape,hW.output.trans hX.output,Nat.le_trans hX.size hW.size,fun k hk=>(hW.block k (Nat.lt_of_lt_of_le hk hX.size) (fun e=>by have:=h.ge k e; omega)).trans (Below.block hX k hk)⟩
theorem Ow.row (h : Ow w0 w S E c A n cap xs) : ∀ j u,xs[j]? = Option.some u → ∃ a,A = Option.some a ∧ w.cell? (a.add j) = Option.some u:=fun j u hj=>by
  rcases h.cases with ⟨_,_,_,rfl⟩ | ⟨g,cur,rfl,_,hg,_,_,_,h4⟩
  · cases hj
  · refine ⟨_,rfl,?_⟩
    rw [addr_add_mk,Nat.zero_add,cell_of_row w g j cur E (0,0) hg]
    rw [← h4,List.getElem?_take] at hj
    split at hj
    · simpa using hj
    · cases hj
theorem Ow.rows {g : Nat} (h : Ow w0 w S E c (Option.some ⟨g,0,none⟩) n cap xs) : Row w ⟨g,0,none⟩ xs:=fun j u hj=>by
  obtain ⟨a,e,h1⟩:=h.row j u hj
  cases e
  exact h1
theorem Ow.nil (w0 w : World) (E : TypeId) (c : Nat) : Ow w0 w [] E c none 0 0 []:=⟨World.ownsRow_nil w _ E c,fun _ h=>(by cases h),fun _ h=>(by cases h)⟩
theorem Ow.mk' {g : Nat} {cs : List Value} (hB : Blk w g cs E) (hg : w0.heap.size ≤ g) (hl : cs.length = n * c) (hm : n ≤ maxLen) : Ow w0 w [] E c (Option.some ⟨g,0,none⟩) n n cs :=
  ⟨⟨hl,.inr ⟨g,n,_,rfl,hg,hB,Nat.le_refl _,hm,by simpa using hl,by simp [← hl]⟩⟩,fun _ _ h=>(by cases h),fun _ h=>(by cases h)⟩
theorem Ow.take (h : Ow w0 w S E c A n cap xs) {k : Nat} (hk : k ≤ n) : Ow w0 w S E c A k cap (xs.take (k * c)):=by
  have hl : (xs.take (k * c)).length = k * c:=by
    rw [List.length_take,h.own.1]
    exact Nat.min_eq_left (Nat.mul_le_mul_right _ hk)
  refine ⟨⟨hl,?_⟩,h.sep,h.bd⟩
  rcases h.cases with ⟨rfl,rfl,rfl,_⟩ | ⟨g,cur,rfl,h1,h2,h3,h4,h5,h6⟩
  · obtain rfl : k = 0:=by omega
    exact .inl ⟨rfl,rfl⟩
  · refine .inr ⟨g,cap,cur,rfl,h1,h2,by omega,h4,h5,?_⟩
    rw [← h6,List.take_take,Nat.min_eq_left (Nat.mul_le_mul_right _ hk)]
theorem Ow.as {ys : List Value} (h : Ow w0 w S E c A n cap xs) (e : xs = ys) : Ow w0 w S E c A n cap ys:=e ▸ h
theorem Ow.len (h : Ow w0 w S E c A n cap xs) {m : Nat} (e : n = m) : Ow w0 w S E c A m cap xs:=e ▸ h
end
section
variable {P : Program} {ds : List Deferred} {l : List Value} {x y : Operand} {T ty : TypeId}
variable {ops : Array Oper} {Q : Exit → Act → World → Prop} {rest : List Oper} {d : Nat} {pos : String} {after : Array Edge} {w w0 : World} {S : List (Option Nat)} {E : TypeId} {c n cap m mcap : Nat} {A B : Option Addr} {xs news : List Value}
theorem Wr.refl (w : World) (A : Option Addr) : Wr w w A:=⟨rfl,rfl,rfl,Nat.le_refl _,fun _ _ _=>rfl⟩
theorem run_append_ow {t : TypeId} {i : TypeInfo} {z : Value} {bytes : Nat} (ht : P.underlying t = some (.slice E)) (hi : P.info? E = some i) (hz : i.zero = some z) (hsize : i.size = c) (hby : i.bytes = bytes) (hzs : z.cells.size = c) (hsz : 0 < c)
    (hown : Ow w0 w S E c A n cap xs) (hl : news.length = m * c) (hnews : ∀ j u,news[j]? = some u → ∃ a,B = some a ∧ w.cell? (a.add j) = some u) (h1 : ∀ u ∈ news,u.oneCell' = true)
    (h63 : n + m ≤ maxLen) (hbytes : (n + m) * bytes ≤ 140737488355328) (hbase : w0.heap.size ≤ w.heap.size) :
    ∃ A' cap' w',(Builtin.append_ #[t,t] ty #[.slice A n cap,.slice B m mcap]).run P w = .ok (.slice A' (n + m) cap') w' ∧ Ow w0 w' S E c A' (n + m) cap' (xs ++ news) ∧ Wr w w' A ∧ (A' = A ∨ blkOf A' = some w.heap.size):=by
  subst hsize
  subst hby
  have hsmall : n + m ≤ 9223372036854775807:=by simp only [maxLen] at h63; omega
  have hlen : (xs ++ news).length = (n + m) * i.size:=by rw [List.length_append,hown.own.1,hl,Nat.add_mul]
  have grown : ∀ (old : Nat),old < n + m →
      Ow w0 (w.drew.alloc (.cells (xs.toArray ++ news.toArray ++ Builtin.zeroCells z.cells (grownCap w (n + m) old E - (n + m))) E)) S E i.size
        (some ⟨w.heap.size,0,none⟩) (n + m) (grownCap w (n + m) old E) (xs ++ news) ∧
      Wr w (w.drew.alloc (.cells (xs.toArray ++ news.toArray ++ Builtin.zeroCells z.cells (grownCap w (n + m) old E - (n + m))) E)) A:=by
    intro old ho
    have hge:=grownCap_ge w (n + m) old E
    have hcm : grownCap w (n + m) old E ≤ maxLen:=grownCap_le_maxLen w (n + m) old E h63
    refine ⟨⟨⟨hlen,.inr ⟨w.heap.size,_,_,rfl,hbase,heap_alloc_new w.drew _,hge,hcm,?_,?_⟩⟩,fun b hb hm=>?_,fun b hb=>?_⟩,⟨rfl,rfl,rfl,by simp,fun k hk _=>heap_alloc_old w.drew _ hk⟩⟩
    · simp only [Array.size_append,List.size_toArray,size_zeroCells,hzs,hown.own.1,hl,← Nat.add_mul]
      congr 1
      omega
    · simp only [Array.toList_append,List.append_assoc]
      rw [← List.append_assoc,← hlen]
      exact List.take_left
    · have hb' : w.heap.size = b:=by simpa using hb
      subst hb'
      exact absurd (hown.bd _ hm) (Nat.lt_irrefl _)
    · have:=hown.bd _ hb
      have h2 : (w.drew.alloc (.cells (xs.toArray ++ news.toArray ++ Builtin.zeroCells z.cells (grownCap w (n + m) old E - (n + m))) E)).heap.size = w.heap.size + 1:=by simp
      rw [h2]
      omega
  have hB0 : B = none → m = 0 ∧ news = []:=fun hB=>by
    have hn : news = []:=by
      cases news with
      | nil=>rfl
      | cons u us=>obtain ⟨a,e,_⟩:=hnews 0 u rfl; rw [hB] at e; cases e
    subst hn
    refine ⟨?_,rfl⟩
    rcases Nat.eq_zero_or_pos m with h0 | h0
    · exact h0
    · have:=Nat.mul_pos h0 hsz; simp at hl; omega
  rcases hown.cases with ⟨rfl,rfl,rfl,rfl⟩ | ⟨g,cur,rfl,hbg,hg,hnc,hcm,hcs,htake⟩
  · by_cases hm : m = 0
    · subst hm
      have hn : news = []:=List.eq_nil_of_length_eq_zero (by simpa using hl)
      subst hn
      refine ⟨none,0,w,?_,by simpa using hown,Wr.refl _ _,.inl rfl⟩
      cases B <;> simp [Builtin.append_,run_underlying ht,sizeOf,typeInfo,hi,Builtin.lenOf,Builtin.firstCells,loadCells,loadCellsFrom]
    · cases B with
      | none=>exact absurd (hB0 rfl).1 hm
      | some a =>
        have hr:=run_append_nil (P:=P) w t ty E i z ht hi hz a m mcap news hl (fun j u hj=>by obtain ⟨a',e,h⟩:=hnews j u hj; cases e; exact h) (by omega) (by omega) (by have hb:=hbytes; simp only [Nat.zero_add] at hb; omega)
        have hgr:=grown 0 (by omega)
        simp only [Nat.zero_add,List.nil_append,Array.empty_append] at hgr ⊢
        exact ⟨_,_,_,hr,hgr.1,hgr.2,.inr rfl⟩
  · cases B with
    | none =>
      obtain ⟨rfl,rfl⟩:=hB0 rfl
      refine ⟨some ⟨g,0,none⟩,cap,w,?_,by simpa using hown,Wr.refl _ _,.inl rfl⟩
      simp [Builtin.append_,run_underlying ht,sizeOf,typeInfo,hi,Builtin.lenOf,Builtin.firstCells,hnc,storeCells]
    | some a =>
      have hnews' : ∀ j u,news[j]? = some u → w.cell? (a.add j) = some u:=fun j u hj=>by obtain ⟨a',e,h⟩:=hnews j u hj; cases e; exact h
      by_cases hroom : n + m ≤ cap
      · have hfit : n * i.size + news.length ≤ cur.size:=by rw [hl,hcs,← Nat.add_mul]; exact Nat.mul_le_mul_right _ hroom
        have hr:=run_append_room (P:=P) w t ty E i ht hi g n cap cur hg a m mcap news hl hnews' h1 hroom hfit
        refine ⟨_,_,_,hr,⟨⟨hlen,.inr ⟨g,cap,_,rfl,hbg,setRow_heap w g cur _ E _ hg,hroom,hcm,?_,?_⟩⟩,hown.sep,fun b hb=>by simpa using hown.bd b hb⟩,⟨rfl,rfl,rfl,by simp,fun k _ hk=>setRow_other w g k _ (fun e=>hk (by rw [e]; rfl))⟩,.inl rfl⟩
        · simp only [List.size_toArray,List.length_append,List.length_take,List.length_drop,Array.length_toList]
          omega
        · rw [htake,← hlen]
          exact List.take_left
      · have hr:=run_append_grow (P:=P) w t ty E i z ht hi hz ⟨g,0,none⟩ n cap xs hown.own.1 hown.rows a m mcap news hl hnews' (by omega) (by omega) (growslice_fits (by omega) hbytes)
        have hgr:=grown cap (by omega)
        exact ⟨_,_,_,hr,hgr.1,hgr.2,.inr rfl⟩
theorem n_appendO {b : Nat} {z : Value} {a0 : Array TypeId} (ha : a0 = #[T,T]) (hu : P.underlying T = some (.slice E)) (hi : (P.info? E).map (fun i=>(i.size,i.bytes,i.zero)) = some (c,b,some z)) (hz : z.cells.size = c) (hc : 0 < c) (hX : Ext w0 w)
    (hs : ev l x = .slice A n cap) (hown : Ow w0 w S E c A n cap xs) (hx : ev l y = .slice B m mcap) (hl : news.length = m * c) (hrow : ∀ j u,news[j]? = some u → ∃ a,B = some a ∧ w.cell? (a.add j) = some u) (h1 : ∀ u ∈ news,u.oneCell' = true) (h63 : n + m ≤ 9223372036854775807) (hbytes : (n + m) * b ≤ 140737488355328)
    (h : ∀ A' cap' w',Ow w0 w' S E c A' (n + m) cap' (xs ++ news) → Wr w w' A → (A' = A ∨ blkOf A' = some w.heap.size) → wpList P ops Q rest (Fr (l.set d (.slice A' (n + m) cap')) ds) w') :
    wpList P ops Q (Oper.mk (some d) (.call { callee:=.builtin .append,args:=#[x,y],argTypes:=a0 }) ty pos after none :: rest) (Fr l ds) w:=by
  subst ha
  cases hq : P.info? E with
  | none=>rw [hq] at hi; cases hi
  | some i =>
    rw [hq] at hi
    simp only [Option.map_some,Option.some.injEq,Prod.mk.injEq] at hi
    obtain ⟨e1,e2,e3⟩:=hi
    obtain ⟨A',cap',w',hr,h2,h3,h4⟩:=run_append_ow (P:=P) (w:=w) (ty:=ty) (mcap:=mcap) hu hq e3 e1 e2 hz hc hown hl hrow h1 (by simpa [maxLen] using h63) hbytes hX.size
    exact n_newW (fun o ho hty=>by simp [execOp,ho,hty,resolve,invoke,builtin,ev_eq,hs,hx,hr]) (h A' cap' w' h2 h3 h4)
end
theorem tri_len (ts : List T3) : (ts.flatMap triCells).length = ts.length * 9:=by
  induction ts with
  | nil=>rfl
  | cons t ts ih=>rw [List.flatMap_cons,List.length_append,ih,triCells_length,List.length_cons]; omega
theorem Ow.tris {w0 w : World} {S : List (Option Nat)} {E : TypeId} {A : Option Addr} {n cap : Nat} {ts : List T3} (h : Ow w0 w S E 9 A n cap (ts.flatMap triCells)) (hi : ∀ t ∈ ts,IT t) : TrisAt w A n ts:=by
  refine ⟨?_,hi,fun i t ht=>?_⟩
  · have:=h.own.1; rw [tri_len] at this; omega
  · have hr : ∀ j u,(triCells t)[j]? = Option.some u → (ts.flatMap triCells)[i * 9 + j]? = Option.some u:=fun j u hj=>by
      have hj' : j < (triCells t).length:=(List.getElem?_eq_some_iff.1 hj).1
      rw [← List.getElem?_drop,drop_flat ts i t ht,List.getElem?_append_left hj']
      exact hj
    obtain ⟨a,e,_⟩:=h.row _ _ (hr 0 _ rfl)
    refine ⟨a,e,fun j u hj=>?_⟩
    obtain ⟨a',e',hc⟩:=h.row _ _ (hr j u hj)
    rw [e] at e'
    cases e'
    rw [addr_add_add]
    exact hc
theorem TrisAt.cells {w : World} {A : Option Addr} {n : Nat} {ts : List T3} (h : TrisAt w A n ts) : ∀ j u,(ts.flatMap triCells)[j]? = some u → ∃ a,A = some a ∧ w.cell? (a.add j) = some u:=fun j u hj=>by
  have hl : j < ts.length * 9:=by
    have:=(List.getElem?_eq_some_iff.1 hj).1
    rwa [tri_len] at this
  have hq : j / 9 < ts.length:=by omega
  have ht:=List.getElem?_eq_getElem hq
  obtain ⟨a,e,hr⟩:=h.row _ _ ht
  refine ⟨a,e,?_⟩
  have hd:=drop_flat ts (j / 9) _ ht
  have hj' : (triCells ts[j / 9])[j % 9]? = some u:=by
    have : ((ts.flatMap triCells).drop (j / 9 * 9))[j % 9]? = some u:=by rw [List.getElem?_drop,show j / 9 * 9 + j % 9 = j by omega]; exact hj
    rw [hd,List.getElem?_append_left (by rw [triCells_length]; omega)] at this
    exact this
  have:=hr _ _ hj'
  rwa [addr_add_add,show j / 9 * 9 + j % 9 = j by omega] at this
theorem tri_one : ∀ (t : T3),∀ u ∈ triCells t,u.oneCell' = true:=fun t u hu=>by
  simp only [triCells,List.mem_cons,List.not_mem_nil,or_false] at hu
  rcases hu with rfl | rfl | rfl | rfl | rfl | rfl | rfl | rfl | rfl <;> rfl
theorem tris_one (ts : List T3) : ∀ u ∈ ts.flatMap triCells,u.oneCell' = true:=fun u hu=>by
  obtain ⟨t,_,h⟩:=List.mem_flatMap.1 hu
  exact tri_one t u h
theorem Blk.rowsO {w : World} {g : Nat} {cs : List Value} {t : TypeId} (h : Blk w g cs t) : ∀ j u,cs[j]? = some u → ∃ a,some (⟨g,0,none⟩ : Addr) = some a ∧ w.cell? (a.add j) = some u:=fun j u hj=>⟨_,rfl,by have:=h.row 0; rw [List.drop_zero] at this; exact this j u hj⟩
section
variable {w0 w w' : World} {S : List (Option Nat)} {E : TypeId} {c n cap : Nat} {A : Option Addr} {xs : List Value}
theorem Ow.put {g : Nat} (h : Ow w0 w S E c A n cap xs) (hne : ∀ b,blkOf A = Option.some b → b ≠ g) (hl : g < w.heap.size) : Ow w0 w (Option.some g :: S) E c A n cap xs :=
  ⟨h.own,fun b hb hm=>by
    rcases List.mem_cons.1 hm with e | hm
    · cases e; exact hne _ hb rfl
    · exact h.sep b hb hm,fun b hb=>by
    rcases List.mem_cons.1 hb with e | hb
    · cases e; exact hl
    · exact h.bd b hb⟩
theorem Ow.upd {g : Nat} (h : Ow w0 w S E c A n cap xs) (hU : Upd w w' g) (hm : Option.some g ∈ S) : Ow w0 w' S E c A n cap xs :=
  h.keep hU.size fun b hb=>hU.block b (h.lt b hb) (fun e=>h.sep b hb (e ▸ hm))
end
end Go.Lith
namespace Go.Lith
open Go.RowKit
/-! ### Names that are short -/
theorem zD {α : Type} {x : α} {xs : List α} {n : Nat} {d : α} : (x :: xs).getD (n + 1) d = xs.getD n d:=rfl
theorem zE {α : Type} {x : α} {xs : List α} {d : α} : (x :: xs).getD 0 d = x:=rfl
theorem zF {α : Type} {x : α} {xs : List α} {n : Nat} {a : α} : (x :: xs).set (n + 1) a = x :: xs.set n a:=rfl
theorem zG {α : Type} {x : α} {xs : List α} {a : α} : (x :: xs).set 0 a = a :: xs:=rfl
theorem zH {α : Type} {x : α} {xs : List α} {n : Nat} : (x :: xs).take (n + 1) = x :: xs.take n:=rfl
theorem zI {α : Type} {xs : List α} : xs.take 0 = []:=List.take_zero
theorem zJ {α : Type} {x : α} {xs : List α} {n : Nat} : (x :: xs).drop (n + 1) = xs.drop n:=rfl
theorem zK {α : Type} {xs : List α} : xs.drop 0 = xs:=rfl
theorem zL {α : Type} {x : α} {xs ys : List α} : (x :: xs) ++ ys = x :: (xs ++ ys):=rfl
theorem zM {α : Type} {ys : List α} : [] ++ ys = ys:=rfl
theorem zN {α : Type} {ys : List α} : ys ++ [] = ys:=List.append_nil ys
theorem zO {α : Type} {x : α} {xs : List α} : (x :: xs).length = xs.length + 1:=rfl
theorem zP {α : Type} : ([] : List α).length = 0:=rfl
theorem zQ {α β : Type} {f : α → β} {x : α} {xs : List α} : (x :: xs).map f = f x :: xs.map f:=rfl
theorem zR {α β : Type} {f : α → β} : ([] : List α).map f = []:=rfl
theorem zS {α : Type} {l : List α} {i : Nat} : l.toArray[i]? = l[i]?:=List.getElem?_toArray
theorem zT {α : Type} {x : α} {xs : List α} {n : Nat} : (x :: xs)[n + 1]? = xs[n]?:=rfl
theorem zU {α : Type} {x : α} {xs : List α} : (x :: xs)[0]? = some x:=rfl
theorem zV {α : Type} {x d : α} : (some x).getD d = x:=rfl
end Go.Lith
namespace Go.Lith
open Go.RowKit
structure It where
  id : Option Nat
  P : World → Prop
  lt : ∀ w b,P w → id = some b → b < w.heap.size
  st : ∀ w w',P w → w.heap.size ≤ w'.heap.size → (∀ b,id = some b → w'.heap[b]? = w.heap[b]?) → P w'
def bI (g : Nat) (cs : List Value) (t : TypeId) : It where
  id:=some g
  P w:=Blk w g cs t
  lt w b h e:=by cases e; exact h.lt
  st w w' h _ k:=(k g rfl).trans h
def oI (E : TypeId) (c : Nat) (A : Option Addr) (n cap : Nat) (xs : List Value) : It where
  id:=blkOf A
  P w:=w.ownsRow 0 E c (.slice A n cap) n xs
  lt w b h e:=by
    rcases ownsRow_cases h with ⟨rfl,_⟩ | ⟨g,cur,rfl,_,hg,_⟩
    · cases e
    · cases e; exact (Array.getElem?_eq_some_iff.1 hg).1
  st w w' h _ k:=by
    refine ⟨h.1,?_⟩
    rcases ownsRow_cases h with ⟨rfl,rfl,rfl,_⟩ | ⟨g,cur,rfl,h1,h2,h3⟩
    · exact .inl ⟨rfl,rfl⟩
    · exact .inr ⟨g,cap,cur,rfl,h1,(k g rfl).trans h2,h3⟩
def Ap (i j : It) : Prop:=∀ b,i.id = some b → j.id = some b → False
theorem Ap.symm {i j : It} (h : Ap i j) : Ap j i:=fun b h1 h2=>h b h2 h1
structure Mem (w0 w : World) (is : List It) : Prop where
  ext : Ext w0 w
  all : ∀ i ∈ is,i.P w
  ge : ∀ i ∈ is,∀ b,i.id = some b → w0.heap.size ≤ b
  nd : is.Pairwise Ap
def selB : List Bool → List It → List It
  | true :: bs,i :: is=>i :: selB bs is
  | false :: bs,_ :: is=>selB bs is
  | _,_=>[]
theorem selB_sub : ∀ (bs : List Bool) (is : List It),(selB bs is).Sublist is
  | true :: bs,i :: is=>(selB_sub bs is).cons_cons i
  | false :: bs,i :: is=>(selB_sub bs is).cons i
  | [],is=>List.nil_sublist _
  | true :: bs,[]=>List.nil_sublist _
  | false :: bs,[]=>List.nil_sublist _
section
variable {w0 w w' : World} {is : List It}
theorem Mem.refl (w : World) : Mem w w []:=⟨Ext.refl w,fun _ h=>(by cases h),fun _ h=>(by cases h),.nil⟩
theorem Mem.ext' (m : Mem w0 w is) (e : Ext w w') : Mem w0 w' is :=
  ⟨m.ext.trans e,fun i hi=>i.st w w' (m.all i hi) e.size fun b hb=>Below.block e b (i.lt w b (m.all i hi) hb),m.ge,m.nd⟩
theorem Mem.sel (m : Mem w0 w is) (bs : List Bool) : Mem w0 w (selB bs is) :=
  ⟨m.ext,fun i hi=>m.all i ((selB_sub bs is).subset hi),fun i hi=>m.ge i ((selB_sub bs is).subset hi),m.nd.sublist (selB_sub bs is)⟩
theorem Mem.tl {i : It} (m : Mem w0 w (i :: is)) : Mem w0 w is:=⟨m.ext,fun j hj=>m.all j (List.mem_cons_of_mem _ hj),fun j hj=>m.ge j (List.mem_cons_of_mem _ hj),(List.pairwise_cons.1 m.nd).2⟩
theorem Mem.get (m : Mem w0 w is) (k : Nat) {i : It} (hk : is[k]? = some i) : i.P w:=m.all i (List.mem_of_getElem? hk)
theorem Mem.b (m : Mem w0 w is) (k : Nat) {g : Nat} {cs : List Value} {t : TypeId} (hk : is[k]? = some (bI g cs t)) : Blk w g cs t:=m.get k hk
theorem Mem.o (m : Mem w0 w is) (k : Nat) {E : TypeId} {c n cap : Nat} {A : Option Addr} {xs : List Value} (hk : is[k]? = some (oI E c A n cap xs)) : Ow w0 w [] E c A n cap xs:=by
  have h : w.ownsRow 0 E c (.slice A n cap) n xs:=m.get k hk
  refine ⟨⟨h.1,?_⟩,fun _ _ h=>(by cases h),fun _ h=>(by cases h)⟩
  rcases ownsRow_cases h with ⟨rfl,rfl,rfl,_⟩ | ⟨g,cur,rfl,_,h2,h3⟩
  · exact .inl ⟨rfl,rfl⟩
  · exact .inr ⟨g,cap,cur,rfl,m.ge _ (List.mem_of_getElem? hk) g rfl,h2,h3⟩
theorem Mem.bo (m : Mem w0 w is) (k : Nat) {g : Nat} {cs : List Value} {t : TypeId} (hk : is[k]? = some (bI g cs t)) {n c : Nat} (hl : cs.length = n * c) (hm : n ≤ maxLen) : Ow w0 w [] t c (some ⟨g,0,none⟩) n n cs :=
  Ow.mk' (m.b k hk) (m.ge _ (List.mem_of_getElem? hk) g rfl) hl hm
theorem Mem.toO (m : Mem w0 w is) (k : Nat) {g : Nat} {cs : List Value} {t : TypeId} (hk : is[k]? = some (bI g cs t)) {n c : Nat} (hl : cs.length = n * c) (hm : n ≤ maxLen) : ∃ i,i = oI t c (some ⟨g,0,none⟩) n n cs ∧ i.P w:=⟨_,rfl,(m.bo k hk hl hm).own.1,.inr ⟨g,n,_,rfl,Nat.zero_le _,m.b k hk,Nat.le_refl _,hm,by simpa using hl,by simp [← hl]⟩⟩
theorem Mem.new {i : It} (m : Mem w0 w is) (e : Ext w w') (hi : i.P w') (hg : ∀ b,i.id = some b → w.heap.size ≤ b) : Mem w0 w' (i :: is):=by
  have m':=m.ext' e
  refine ⟨m'.ext,fun j hj=>?_,fun j hj=>?_,List.pairwise_cons.2 ⟨fun j hj b h1 h2=>?_,m'.nd⟩⟩
  · rcases List.mem_cons.1 hj with rfl | hj
    · exact hi
    · exact m'.all j hj
  · rcases List.mem_cons.1 hj with rfl | hj
    · exact fun b hb=>Nat.le_trans m.ext.size (hg b hb)
    · exact m'.ge j hj
  · have:=j.lt w b (m.all j hj) h2
    have:=hg b h1
    omega
theorem Mem.newB {g : Nat} {cs : List Value} {t : TypeId} (m : Mem w0 w is) (e : Ext w w') (hg : w.heap.size ≤ g) (hB : Blk w' g cs t) : Mem w0 w' (bI g cs t :: is):=m.new e hB (fun b h=>by cases h; exact hg)
theorem Mem.newO {S : List (Option Nat)} {E : TypeId} {c n cap : Nat} {A : Option Addr} {xs : List Value} (m : Mem w0 w is) (e : Ext w w') (h : Ow w w' S E c A n cap xs) : Mem w0 w' (oI E c A n cap xs :: is):=by
  refine m.new e (i:=oI E c A n cap xs) ?_ h.ge
  refine ⟨h.own.1,?_⟩
  rcases h.cases with ⟨rfl,rfl,rfl,_⟩ | ⟨g,cur,rfl,_,h2,h3⟩
  · exact .inl ⟨rfl,rfl⟩
  · exact .inr ⟨g,cap,cur,rfl,Nat.zero_le _,h2,h3⟩
theorem Mem.nilO (m : Mem w0 w is) (E : TypeId) (c : Nat) : Mem w0 w (oI E c none 0 0 [] :: is):=m.newO (Ext.refl w) (Ow.nil w w E c)
theorem pw_set {i i' : It} : ∀ (is : List It) (k : Nat),is.Pairwise Ap → is[k]? = some i → (∀ x ∈ is,Ap i x → Ap i' x) → (is.set k i').Pairwise Ap
  | [],_,_,h,_=>by cases h
  | j :: is,0,hp,h,hc=>by
    cases h
    rw [List.set_cons_zero]
    have:=List.pairwise_cons.1 hp
    exact List.pairwise_cons.2 ⟨fun x hx=>hc x (List.mem_cons_of_mem _ hx) (this.1 x hx),this.2⟩
  | j :: is,k + 1,hp,h,hc=>by
    rw [List.set_cons_succ]
    have hp':=List.pairwise_cons.1 hp
    have h' : is[k]? = some i:=h
    refine List.pairwise_cons.2 ⟨fun x hx=>?_,pw_set is k hp'.2 h' fun x hx=>hc x (List.mem_cons_of_mem _ hx)⟩
    rcases List.mem_or_eq_of_mem_set hx with hx | rfl
    · exact hp'.1 x hx
    · exact (hc j (List.mem_cons_self ..) (hp'.1 i (List.mem_of_getElem? h')).symm).symm
theorem Mem.put {i i' : It} (m : Mem w0 w is) (k : Nat) (hk : is[k]? = some i) (hos : w'.os = w.os) (ht : w'.tape = w.tape) (ho : w'.output = w.output) (hs : w.heap.size ≤ w'.heap.size) (hb : ∀ b,b < w.heap.size → i.id ≠ some b → w'.heap[b]? = w.heap[b]?)
    (hi : i'.P w') (hid : i'.id = i.id ∨ ∀ b,i'.id = some b → w.heap.size ≤ b) : Mem w0 w' (is.set k i'):=by
  have hmem:=List.mem_of_getElem? hk
  refine ⟨⟨hos.trans m.ext.os,ht.trans m.ext.tape,ho.trans m.ext.output,Nat.le_trans m.ext.size hs,fun b hlt=>(hb b (Nat.lt_of_lt_of_le hlt m.ext.size) fun e=>?_).trans (Below.block m.ext b hlt)⟩,fun j hj=>?_,fun j hj b hjb=>?_,pw_set is k m.nd hk fun x hx ha b h1 h2=>?_⟩
  · have:=m.ge i hmem b e
    omega
  · obtain ⟨q,hq,e⟩:=List.getElem_of_mem hj
    rw [List.getElem_set] at e
    split at e
    · subst e; exact hi
    · rename_i hne
      rw [List.length_set] at hq
      have hj' : j ∈ is:=e ▸ List.getElem_mem hq
      have hq' : is[q]? = some j:=by rw [← e]; exact List.getElem?_eq_getElem hq
      refine j.st w w' (m.all j hj') hs fun b hjb=>hb b (j.lt w b (m.all j hj') hjb) fun hib=>?_
      have hklt : k < is.length:=(List.getElem?_eq_some_iff.1 hk).1
      have hki : is[k] = i:=(List.getElem?_eq_some_iff.1 hk).2
      rcases Nat.lt_or_gt_of_ne hne with h | h
      · have:=List.pairwise_iff_getElem.1 m.nd k q hklt hq h
        rw [hki,e] at this
        exact this b hib hjb
      · have:=List.pairwise_iff_getElem.1 m.nd q k hq hklt h
        rw [hki,e] at this
        exact this b hjb hib
  · rcases List.mem_or_eq_of_mem_set hj with hj | rfl
    · exact m.ge j hj b hjb
    · rcases hid with hid | hid
      · exact m.ge i hmem b (hid ▸ hjb)
      · exact Nat.le_trans m.ext.size (hid b hjb)
  · rcases hid with hid | hid
    · exact ha b (hid ▸ h1) h2
    · have:=hid b h1
      have:=x.lt w b (m.all x hx) h2
      omega
theorem Mem.re (m : Mem w0 w is) (k : Nat) {g : Nat} {cs cs' : List Value} {t : TypeId} (hk : is[k]? = some (bI g cs t)) (hB : Blk w g cs' t) : Mem w0 w (is.set k (bI g cs' t)) :=
  m.put k hk rfl rfl rfl (Nat.le_refl _) (fun _ _ _=>rfl) hB (.inl rfl)
theorem Mem.reO (m : Mem w0 w is) (k : Nat) {E : TypeId} {c n cap n' cap' : Nat} {A : Option Addr} {xs xs' : List Value} (hk : is[k]? = some (oI E c A n cap xs)) (h : Ow w0 w [] E c A n' cap' xs') : Mem w0 w (is.set k (oI E c A n' cap' xs')):=by
  refine m.put k hk rfl rfl rfl (Nat.le_refl _) (fun _ _ _=>rfl) ?_ (.inl rfl)
  refine ⟨h.own.1,?_⟩
  rcases h.cases with ⟨rfl,rfl,rfl,_⟩ | ⟨g,cur,rfl,_,h2,h3⟩
  · exact .inl ⟨rfl,rfl⟩
  · exact .inr ⟨g,cap',cur,rfl,Nat.zero_le _,h2,h3⟩
theorem Mem.own (m : Mem w0 w is) (k : Nat) {g : Nat} {cs : List Value} {t : TypeId} (hk : is[k]? = some (bI g cs t)) {n c : Nat} (hl : cs.length = n * c) (hm : n ≤ maxLen) : Mem w0 w (is.set k (oI t c (some ⟨g,0,none⟩) n n cs)):=by
  obtain ⟨i,rfl,h⟩:=m.toO k hk hl hm
  exact m.put k hk rfl rfl rfl (Nat.le_refl _) (fun _ _ _=>rfl) h (.inl rfl)
theorem leT {a b : Nat} (h : Nat.ble a b = true) : a ≤ b:=Nat.le_of_ble_eq_true h
theorem allT {us : List Value} (h : (us.all (·.oneCell')) = true) : ∀ u ∈ us,u.oneCell' = true:=fun u hu=>List.all_eq_true.1 h u hu
end
section
variable {P : Program} {ds : List Deferred} {l : List Value} {x y : Operand} {T ty : TypeId}
variable {ops : Array Oper} {Q : Exit → Act → World → Prop} {rest : List Oper} {d : Nat} {pos : String} {after : Array Edge} {w w0 : World} {is : List It}
theorem mbox {cs : List Value} (m : Mem w0 w is) (hv : (ev l x).cells = cs.toArray) (h : ∀ g u,Mem w0 u (bI g cs T :: is) → wpList P ops Q rest (Fr (l.set d (.pointer (some ⟨g,0,none⟩))) ds) u) :
    wpList P ops Q (Oper.mk (some d) (.box T x) ty pos after none :: rest) (Fr l ds) w:=n_box hv fun u g e hg hB=>h g u (m.newB e hg hB)
theorem malloc {cs : List Value} {z : Value} (m : Mem w0 w is) (hZ : Zero P T z) (hv : z.cells = cs.toArray) (h : ∀ g u,Mem w0 u (bI g cs T :: is) → wpList P ops Q rest (Fr (l.set d (.pointer (some ⟨g,0,none⟩))) ds) u) :
    wpList P ops Q (Oper.mk (some d) (.alloc T) ty pos after none :: rest) (Fr l ds) w:=n_alloc hZ hv fun u g e hg hB=>h g u (m.newB e hg hB)
theorem mstore {g off : Nat} {cs us : List Value} {t : TypeId} (m : Mem w0 w is) (k : Nat) (hk : is[k]? = some (bI g cs t)) (hx : ev l x = .pointer (some ⟨g,off,none⟩)) (hv : (ev l y).cells = us.toArray) (hc : Cells P T us.length) (hfit : off + us.length ≤ cs.length) (h1 : (us.all (·.oneCell')) = true)
    (h : ∀ u,Mem w0 u (is.set k (bI g (over cs off us) t)) → wpList P ops Q rest (Fr l ds) u) : wpList P ops Q (Oper.mk none (.store T x y) ty pos after none :: rest) (Fr l ds) w :=
  n_store hx hv hc (m.b k hk) hfit (allT h1) fun u hC hB=>h u (m.put k hk hC.os hC.tape hC.output (by rw [hC.size]; exact Nat.le_refl _) (fun b _ hne=>hC.block b fun e=>hne (by rw [e]; rfl)) hB (.inl rfl))
theorem mcallP {v : Value} {f : FuncId} {fo : Operand} {xs : Array Operand} {args : List Value} {first cap : Array Value} {a0 : Array TypeId} (m : Mem w0 w is) (hf : ev l fo = .func (.func f) first cap) (hxs : first.toList ++ xs.toList.map (ev l) ++ cap.toList = args) (hc : Pure P f args v)
    (h : ∀ u,Mem w0 u is → wpList P ops Q rest (Fr (l.set d v) ds) u) : wpList P ops Q (Oper.mk (some d) (.call { callee:=.value fo,args:=xs,argTypes:=a0 }) ty pos after none :: rest) (Fr l ds) w :=
  n_callP hf hxs hc fun u e=>h u (m.ext' e)
theorem mcall {f : FuncId} {fo : Operand} {xs : Array Operand} {args : List Value} {first cap : Array Value} {a0 : Array TypeId} {R : Value → World → Prop} (m : Mem w0 w is) (hf : ev l fo = .func (.func f) first cap) (hxs : first.toList ++ xs.toList.map (ev l) ++ cap.toList = args) (hc : Does P f args w R)
    (h : ∀ v u,Mem w0 u is → R v u → wpList P ops Q rest (Fr (l.set d v) ds) u) : wpList P ops Q (Oper.mk (some d) (.call { callee:=.value fo,args:=xs,argTypes:=a0 }) ty pos after none :: rest) (Fr l ds) w :=
  n_call hf hxs hc fun v u e hR=>h v u (m.ext' e) hR
theorem mappend {E : TypeId} {c n cap b nm mcap : Nat} {A B : Option Addr} {z : Value} {xs news : List Value} {a0 : Array TypeId} (m : Mem w0 w is) (k : Nat) (hk : is[k]? = some (oI E c A n cap xs)) (ha : a0 = #[T,T]) (hu : P.underlying T = some (.slice E)) (hi : (P.info? E).map (fun i=>(i.size,i.bytes,i.zero)) = some (c,b,some z)) (hz : z.cells.size = c) (hc : 0 < c)
    (hs : ev l x = .slice A n cap) (hx : ev l y = .slice B nm mcap) (hl : news.length = nm * c) (hrow : ∀ j u,news[j]? = some u → ∃ a,B = some a ∧ w.cell? (a.add j) = some u) (h1 : ∀ u ∈ news,u.oneCell' = true) (h63 : n + nm ≤ 9223372036854775807) (hbytes : (n + nm) * b ≤ 140737488355328)
    (h : ∀ A' cap' u,Mem w0 u (is.set k (oI E c A' (n + nm) cap' (xs ++ news))) → wpList P ops Q rest (Fr (l.set d (.slice A' (n + nm) cap')) ds) u) :
    wpList P ops Q (Oper.mk (some d) (.call { callee:=.builtin .append,args:=#[x,y],argTypes:=a0 }) ty pos after none :: rest) (Fr l ds) w :=
  n_appendO ha hu hi hz hc m.ext hs (m.o k hk) hx hl hrow h1 h63 hbytes fun A' cap' u hO hW hF=>h A' cap' u (m.put k hk hW.os hW.tape hW.output hW.size (fun b hb hne=>hW.block b hb hne) (by
    refine ⟨hO.own.1,?_⟩
    rcases hO.cases with ⟨rfl,e1,rfl,_⟩ | ⟨g,cur,rfl,_,h2,h3⟩
    · exact .inl ⟨by rw [e1],e1⟩
    · exact .inr ⟨g,cap',cur,rfl,Nat.zero_le _,h2,h3⟩) (by
    rcases hF with rfl | hF
    · exact .inl rfl
    · exact .inr fun b hb=>by
        have e : blkOf A' = some b:=hb
        rw [hF] at e
        cases e
        exact Nat.le_refl _))
theorem mboxA {cs : List Value} (m : Mem w0 w is) (hv : ev l x = .agg cs.toArray) (h : ∀ g u,Mem w0 u (bI g cs T :: is) → wpList P ops Q rest (Fr (l.set d (.pointer (some ⟨g,0,none⟩))) ds) u) :
    wpList P ops Q (Oper.mk (some d) (.box T x) ty pos after none :: rest) (Fr l ds) w:=mbox m (by rw [hv]; rfl) h
theorem mstoreA {g off : Nat} {cs us : List Value} {t : TypeId} (m : Mem w0 w is) (k : Nat) (hk : is[k]? = some (bI g cs t)) (hx : ev l x = .pointer (some ⟨g,off,none⟩)) (hv : ev l y = .agg us.toArray) (hc : Cells P T us.length) (hfit : off + us.length ≤ cs.length) (h1 : (us.all (·.oneCell')) = true)
    (h : ∀ u,Mem w0 u (is.set k (bI g (over cs off us) t)) → wpList P ops Q rest (Fr l ds) u) : wpList P ops Q (Oper.mk none (.store T x y) ty pos after none :: rest) (Fr l ds) w:=mstore m k hk hx (by rw [hv]; rfl) hc hfit h1 h
theorem mstore1 {g off : Nat} {cs : List Value} {v : Value} {t : TypeId} (m : Mem w0 w is) (k : Nat) (hk : is[k]? = some (bI g cs t)) (hx : ev l x = .pointer (some ⟨g,off,none⟩)) (hv : ev l y = v) (hc : Cells P T 1) (hfit : off + 1 ≤ cs.length) (h1 : v.oneCell' = true ∧ v.cells = #[v])
    (h : ∀ u,Mem w0 u (is.set k (bI g (over cs off [v]) t)) → wpList P ops Q rest (Fr l ds) u) : wpList P ops Q (Oper.mk none (.store T x y) ty pos after none :: rest) (Fr l ds) w:=mstore (us:=[v]) m k hk hx (by rw [hv,h1.2]) hc hfit (by simp [h1.1]) h
theorem Blk.full {g : Nat} {cs : List Value} {t : TypeId} (h : Blk w g cs t) (hA : IsAgg P T true) (hc : Cells P T cs.length) : Lies P w T ⟨g,0,none⟩ (.agg cs.toArray):=by
  have:=h.row 0
  rw [List.drop_zero] at this
  exact this.lies hA hc
theorem Mem.s01 {w0 w : World} {i j : It} {is : List It} (m : Mem w0 w (i :: j :: is)) : Mem w0 w (j :: i :: is):=by
  have h1:=List.pairwise_cons.1 m.nd
  have h2:=List.pairwise_cons.1 h1.2
  refine ⟨m.ext,fun x hx=>m.all x ?_,fun x hx=>m.ge x ?_,List.pairwise_cons.2 ⟨fun x hx=>?_,List.pairwise_cons.2 ⟨fun x hx=>h1.1 x (List.mem_cons_of_mem _ hx),h2.2⟩⟩⟩
  · simp only [List.mem_cons] at hx ⊢; rcases hx with h | h | h <;> simp [h]
  · simp only [List.mem_cons] at hx ⊢; rcases hx with h | h | h <;> simp [h]
  · rcases List.mem_cons.1 hx with rfl | hx
    · exact (h1.1 _ (List.mem_cons_self ..)).symm
    · exact h2.1 x hx
theorem Mem.s12 {w0 w : World} {h i j : It} {is : List It} (m : Mem w0 w (h :: i :: j :: is)) : Mem w0 w (h :: j :: i :: is):=by
  have h1:=List.pairwise_cons.1 m.nd
  have m':=m.tl.s01
  refine ⟨m.ext,fun x hx=>m.all x ?_,fun x hx=>m.ge x ?_,List.pairwise_cons.2 ⟨fun x hx=>h1.1 x ?_,m'.nd⟩⟩
  · simp only [List.mem_cons] at hx ⊢; rcases hx with h | h | h | h <;> simp [h]
  · simp only [List.mem_cons] at hx ⊢; rcases hx with h | h | h | h <;> simp [h]
  · simp only [List.mem_cons] at hx ⊢; rcases hx with h | h | h <;> simp [h]
/-! ### Regions -/
theorem mq_tail {id : Nat} {a : Act} {l : List Oper} (m : Mem w0 w is) (n : Nat) (hm : P.follows .mixedOrders = true) (hB : Region.lexTailB .any l.toArray n = true)
    (h : wpQuiet P l.toArray (fun u=>Mem w0 u is) (fun a'=>∀ u,Mem w0 u is → wpList P l.toArray Q (l.drop n) a' u) (l.take n) a) : (Code.region id l.toArray true).wp P Q a w :=
  wp_region_quiet_tail (C:=fun u=>Mem w0 u is) n hm hB (m.ext' (Ext.refl w).drawn) h
theorem mq {id : Nat} {a : Act} {l : List Oper} (m : Mem w0 w is) (hm : P.follows .mixedOrders = true) (hB : Region.lexB .any l.toArray = true)
    (h : wpQuiet P l.toArray (fun u=>Mem w0 u is) (fun a'=>∀ u,Mem w0 u is → Q .normal a' u) l a) : (Code.region id l.toArray true).wp P Q a w :=
  wp_region_quiet (C:=fun u=>Mem w0 u is) hm hB (m.ext' (Ext.refl w).drawn) (by simpa using h)
theorem mh {id : Nat} {a : Act} {l : List Oper} (m : Mem w0 w is) (bs : List Bool) (o : List (Nat × Bool)) (hm : P.follows .mixedOrders = true) (hB : (Region.noSelect l.toArray && decide (o.length = l.length) && ordB .any l.toArray o (Array.replicate l.toArray.size false)) = true)
    (hQ : ∀ c d v a w,Q (.panic c) (Act.put a d v) w → Q (.panic c) a w) {ol : List (Oper × Bool)} (hol : (o.map fun x=>((l.toArray[x.1]?).getD default,x.2)) = ol)
    (h : ∀ u,Mem w0 u is → wpMixH P l.toArray (fun u=>Mem w0 u (selB bs is)) Q ol a u) : (Code.region id l.toArray true).wp P Q a w :=
  wp_region_held' o hm hB hQ hol fun u e=>⟨fun u=>Mem w0 u (selB bs is),(m.ext' e).sel bs,h u (m.ext' e)⟩
theorem mtree {id : Nat} {a : Act} {l : List Oper} (m : Mem w0 w is) (bs : List Bool) (t : OrdT) (hm : P.follows .mixedOrders = true) (hB : (Region.noSelect l.toArray && t.ok .any l.toArray l.toArray.size (Array.replicate l.toArray.size false)) = true)
    (hQ : ∀ c d v a w,Q (.panic c) (Act.put a d v) w → Q (.panic c) a w)
    (h : ∀ u,Mem w0 u is → wpTree P l.toArray (fun u=>Mem w0 u (selB bs is)) Q t a u) : (Code.region id l.toArray true).wp P Q a w :=
  wp_region_tree t hm hB hQ fun u e=>⟨fun u=>Mem w0 u (selB bs is),(m.ext' e).sel bs,h u (m.ext' e)⟩
theorem mf1 {tl : List Oper} {i d : Nat} {T : TypeId} {cs : List Value} (m : Mem w0 w is) (h : ∀ g u,Mem w0 u (bI g cs T :: is) → wpList P ops Q tl (Fr (l.set d (.pointer (some ⟨g,0,none⟩))) ds) u) :
    ∀ E w',Ext w w' → Laid w.heap.size E [⟨i,d,T,cs⟩] w' → (∀ x ∈ [(⟨i,d,T,cs⟩ : Al)],∃ v,E x.i = some v) → wpList P ops Q tl (applyP E [⟨i,d,T,cs⟩] (Fr l ds)) w' :=
  fresh1 fun u g e hg hB=>h g u (m.newB e hg hB)
theorem Mem.newB2 {w w' : World} {is : List It} {g g2 : Nat} {cs cs2 : List Value} {t t2 : TypeId} (m : Mem w0 w is) (e : Ext w w') (hg : w.heap.size ≤ g) (hg2 : w.heap.size ≤ g2) (hB : Blk w' g cs t) (hB2 : Blk w' g2 cs2 t2) (hne : g2 ≠ g) : Mem w0 w' (bI g2 cs2 t2 :: bI g cs t :: is):=by
  have m1:=m.newB e hg hB
  refine ⟨m1.ext,fun j hj=>?_,fun j hj=>?_,List.pairwise_cons.2 ⟨fun j hj b h1 h2=>?_,m1.nd⟩⟩
  · rcases List.mem_cons.1 hj with rfl | hj
    · exact hB2
    · exact m1.all j hj
  · rcases List.mem_cons.1 hj with rfl | hj
    · exact fun b hb=>by cases hb; exact Nat.le_trans m.ext.size hg2
    · exact m1.ge j hj
  · cases h1
    rcases List.mem_cons.1 hj with rfl | hj
    · cases h2; exact hne rfl
    · have:=j.lt w _ (m.all j hj) h2
      omega
theorem mf2 {tl : List Oper} {i d j e : Nat} {T U : TypeId} {cs us : List Value} (m : Mem w0 w is) (hij : i ≠ j) (h : ∀ g k u,Mem w0 u (bI k us U :: bI g cs T :: is) → wpList P ops Q tl (Fr ((l.set d (.pointer (some ⟨g,0,none⟩))).set e (.pointer (some ⟨k,0,none⟩))) ds) u) :
    ∀ E w',Ext w w' → Laid w.heap.size E [⟨i,d,T,cs⟩,⟨j,e,U,us⟩] w' → (∀ x ∈ [(⟨i,d,T,cs⟩ : Al),⟨j,e,U,us⟩],∃ v,E x.i = some v) → wpList P ops Q tl (applyP E [⟨i,d,T,cs⟩,⟨j,e,U,us⟩] (Fr l ds)) w' :=
  fresh2 hij fun u g k e hg hk hB hK hne=>h g k u (m.newB2 e hg hk hB hK hne)
theorem mcut3 {c : Code} {a : Act} {l : Nat → Nat → Nat → List Value} {c1 c2 c3 : List Value} {T1 T2 T3 : TypeId} (m : Mem w0 w is) (h1 : c.wp P (fun e a' u=>e = .normal ∧ ∃ g k p,a' = Fr (l g k p) ds ∧ Mem w0 u (bI p c3 T3 :: bI k c2 T2 :: bI g c1 T1 :: is)) a w)
    (h2 : ∀ g k p u,Mem w0 u (bI p c3 T3 :: bI k c2 T2 :: bI g c1 T1 :: is) → Q .normal (Fr (l g k p) ds) u) : c.wp P Q a w:=by
  refine Code.wp_mono ?_ h1
  rintro e a' u ⟨rfl,g,k,p,rfl,m'⟩
  exact h2 g k p u m'
end
section
variable {P : Program} {w0 : World} {is : List It} {l : List Value} {x y : Operand} {T ty : TypeId}
variable {ops : Array Oper} {Q : Act → Prop} {rest : List Oper} {d : Nat} {pos : String} {after : Array Edge} {v : Value} {ds : List Deferred}
theorem ql {a : Addr} (hx : ev l x = .pointer (some a)) (hv : ∀ u,Mem w0 u is → Lies P u T a v) (h : wpQuiet P ops (fun u=>Mem w0 u is) Q rest (Fr (l.set d v) ds)) : wpQuiet P ops (fun u=>Mem w0 u is) Q (Oper.mk (some d) (.load T x) ty pos after none :: rest) (Fr l ds) :=
  q_valW (fun u m=>r_load hx (hv u m)) h
theorem qc {f : FuncId} {fo : Operand} {xs : Array Operand} {args : List Value} {first cap : Array Value} {a0 : Array TypeId} (hf : ev l fo = .func (.func f) first cap) (hxs : first.toList ++ xs.toList.map (ev l) ++ cap.toList = args) (hc : ∀ u,Mem w0 u is → Does P f args u fun x _=>x = v)
    (h : wpQuiet P ops (fun u=>Mem w0 u is) Q rest (Fr (l.set d v) ds)) : wpQuiet P ops (fun u=>Mem w0 u is) Q (Oper.mk (some d) (.call { callee:=.value fo,args:=xs,argTypes:=a0 }) ty pos after none :: rest) (Fr l ds):=by
  refine wpQuiet_step fun K hK=>?_
  rw [if_pos (by simp [Region.wanted])]
  refine ⟨v,fun w' hw=>?_,?_⟩
  · unfold Oper.quietAt
    rw [fr_eval,run_call (hc w' hw).1 hf hxs _ rfl]
    refine ⟨rfl,(hc w' hw).2.mono ?_⟩
    rintro e w'' ⟨u,rfl,hE,rfl⟩
    exact ⟨rfl,hw.ext' hE⟩
  · show K ((Fr l ds).put (some d) v)
    rw [fr_put]
    exact hK _ h
theorem qcP {f : FuncId} {fo : Operand} {xs : Array Operand} {args : List Value} {first cap : Array Value} {a0 : Array TypeId} (hf : ev l fo = .func (.func f) first cap) (hxs : first.toList ++ xs.toList.map (ev l) ++ cap.toList = args) (hc : Pure P f args v)
    (h : wpQuiet P ops (fun u=>Mem w0 u is) Q rest (Fr (l.set d v) ds)) : wpQuiet P ops (fun u=>Mem w0 u is) Q (Oper.mk (some d) (.call { callee:=.value fo,args:=xs,argTypes:=a0 }) ty pos after none :: rest) (Fr l ds):=qc hf hxs (fun u _=>hc u) h
end
end Go.Lith
namespace Go.Lith
open Go.RowKit
@[irreducible] def may (c : Bool) (v : Value) : Value:=if c then v else undef
theorem may_t {v : Value} : may true v = v:=by simp [may]
theorem may_f {v : Value} : may false v = undef:=by simp [may]
theorem mayE {c : Bool} {u v : Value} (hb : c = true) (h : u = may c v) : u = v:=by rw [h,hb,may_t]
section
variable {P : Program} {ds : List Deferred} {l : List Value} {x y : Operand} {T ty : TypeId} {b c : Bool} {v : Value}
theorem r_pickAnd {z : Operand} (hz : ev l z = .bool b) (hx : ev l x = may b (.bool c)) (hy : ev l y = .bool false) : Run P l (.pick z x y) ty (.bool (b && c)):=by
  have:=r_pick (P:=P) (ty:=ty) (x:=x) (y:=y) hz
  cases b with
  | false=>simpa [hy] using this
  | true=>simpa [hx,may_t] using this
theorem r_pickOr {z : Operand} (hz : ev l z = .bool b) (hx : ev l x = .bool true) (hy : ev l y = may (!b) (.bool c)) : Run P l (.pick z x y) ty (.bool (b || c)):=by
  have:=r_pick (P:=P) (ty:=ty) (x:=x) (y:=y) hz
  cases b with
  | false=>simpa [hy,may_t] using this
  | true=>simpa [hx] using this
end
section
variable {P : Program} {ops : Array Oper} {Q : Exit → Act → World → Prop} {rest : List Oper} {d j : Nat} {op : Op} {ty : TypeId} {pos : String} {after : Array Edge} {v : Value} {b : Bool} {ds : List Deferred} {l : List Value} {w w0 : World} {is : List It}
theorem n_mayTW (hw : yielded ops l.toArray j = some b) (hr : b = true → RunW P l op ty v w) (h : wpList P ops Q rest (Fr (l.set d (may b v)) ds) w) : wpList P ops Q (Oper.mk (some d) op ty pos after (some (j,true)) :: rest) (Fr l ds) w:=by
  cases b with
  | false=>rw [may_f] at h; exact n_skipT hw h
  | true=>rw [may_t] at h; exact n_want hw (n_valW (hr rfl) h)
theorem n_mayFW (hw : yielded ops l.toArray j = some b) (hr : (!b) = true → RunW P l op ty v w) (h : wpList P ops Q rest (Fr (l.set d (may (!b) v)) ds) w) : wpList P ops Q (Oper.mk (some d) op ty pos after (some (j,false)) :: rest) (Fr l ds) w:=by
  cases b with
  | true=>rw [Bool.not_true,may_f] at h; exact n_skipF hw h
  | false=>rw [Bool.not_false,may_t] at h; exact n_want hw (n_valW (hr rfl) h)
theorem n_mayT (hw : yielded ops l.toArray j = some b) (hr : b = true → Run P l op ty v) (h : wpList P ops Q rest (Fr (l.set d (may b v)) ds) w) : wpList P ops Q (Oper.mk (some d) op ty pos after (some (j,true)) :: rest) (Fr l ds) w:=n_mayTW hw (fun e=>hr e w) h
theorem n_mayF (hw : yielded ops l.toArray j = some b) (hr : (!b) = true → Run P l op ty v) (h : wpList P ops Q rest (Fr (l.set d (may (!b) v)) ds) w) : wpList P ops Q (Oper.mk (some d) op ty pos after (some (j,false)) :: rest) (Fr l ds) w:=n_mayFW hw (fun e=>hr e w) h
end
section
variable {P : Program} {ops : Array Oper} {Q : Act → Prop} {C : World → Prop} {rest : List Oper} {d j : Nat} {op : Op} {ty : TypeId} {pos : String} {after : Array Edge} {v : Value} {b : Bool} {ds : List Deferred} {l : List Value} {w0 : World} {is : List It}
theorem q_mayTW (hw : yielded ops l.toArray j = some b) (hr : b = true → ∀ u,C u → RunW P l op ty v u) (h : wpQuiet P ops C Q rest (Fr (l.set d (may b v)) ds)) : wpQuiet P ops C Q (Oper.mk (some d) op ty pos after (some (j,true)) :: rest) (Fr l ds):=by
  cases b with
  | false=>rw [may_f] at h; exact q_skipT hw h
  | true=>rw [may_t] at h; exact q_want hw (q_valW (hr rfl) h)
theorem q_mayFW (hw : yielded ops l.toArray j = some b) (hr : (!b) = true → ∀ u,C u → RunW P l op ty v u) (h : wpQuiet P ops C Q rest (Fr (l.set d (may (!b) v)) ds)) : wpQuiet P ops C Q (Oper.mk (some d) op ty pos after (some (j,false)) :: rest) (Fr l ds):=by
  cases b with
  | true=>rw [Bool.not_true,may_f] at h; exact q_skipF hw h
  | false=>rw [Bool.not_false,may_t] at h; exact q_want hw (q_valW (hr rfl) h)
theorem q_mayT (hw : yielded ops l.toArray j = some b) (hr : b = true → Run P l op ty v) (h : wpQuiet P ops C Q rest (Fr (l.set d (may b v)) ds)) : wpQuiet P ops C Q (Oper.mk (some d) op ty pos after (some (j,true)) :: rest) (Fr l ds):=q_mayTW hw (fun e u _=>hr e u) h
theorem q_mayF (hw : yielded ops l.toArray j = some b) (hr : (!b) = true → Run P l op ty v) (h : wpQuiet P ops C Q rest (Fr (l.set d (may (!b) v)) ds)) : wpQuiet P ops C Q (Oper.mk (some d) op ty pos after (some (j,false)) :: rest) (Fr l ds):=q_mayFW hw (fun e u _=>hr e u) h
end
section
variable {P : Program} {ops : Array Oper} {S : World → Prop} {Q : Exit → Act → World → Prop} {rest : List (Oper × Bool)} {d j : Nat} {op : Op} {ty : TypeId} {pos : String} {after : Array Edge} {v : Value} {b : Bool} {ds : List Deferred} {l : List Value} {w : World}
end
end Go.Lith
namespace Go.Lith
open Go.RowKit
end Go.Lith
namespace Go.Lith
open Go.RowKit Go.ChangeShapes
variable {H : Type} {enc : TypeId × Value → H} {P : Program} {w : World} {base : Nat} {spare : Nat → Bool} {held : Bool}
def intsOnly (P : Program) : Nat → TypeId → Bool
  | 0,_=>false
  | n + 1,t=>match P.underlying t with
    | some (.int .i64)=>decide (P.cellsOf t = 1)
    | some (.struct fs)=>(fs.toList.all fun f=>intsOnly P n f.type) && (List.range (P.cellsOf t)).all fun i=>fs.toList.any fun f=>decide (f.offset ≤ i) && decide (i < f.offset + P.cellsOf f.type)
    | some (.array m e)=>intsOnly P n e && decide (P.cellsOf t = m * P.cellsOf e)
    | _=>false
theorem i64_of {n : Int} (h : (Lit.int .i64 n).wf = true) : I64 n:=by
  have:=bounds_i64 h
  exact ⟨by omega,by omega⟩
theorem ints_of_trod : ∀ (n : Nat) (t : TypeId) (m : Nat) (cs : List Value) (x : DataW H × List MemPlace),intsOnly P n t = true → DataW.trod enc P w base spare held m t cs = some x →
    cs.length = P.cellsOf t ∧ ∀ v ∈ cs,∃ z,v = .int .i64 z ∧ I64 z
  | 0,t,m,cs,x,h,_=>by cases h
  | n + 1,t,m,cs,x,h,hx=>by
    unfold intsOnly at h
    split at h
    · rename_i hu
      obtain ⟨z,rfl,_,hz⟩:=DataW.trod_int hu hx
      refine ⟨by rw [of_decide_eq_true h]; rfl,fun v hv=>⟨z,by simpa using hv,i64_of hz⟩⟩
    · rename_i fs hu
      simp only [Bool.and_eq_true,List.all_eq_true,List.any_eq_true,decide_eq_true_eq,List.mem_range] at h
      obtain ⟨ys,k,_,_,hl,hlen,hf⟩:=DataW.trod_struct hu hx
      refine ⟨hl,fun v hv=>?_⟩
      obtain ⟨i,hi,rfl⟩:=List.getElem_of_mem hv
      obtain ⟨f,hfm,h1,h2⟩:=h.2 i (by rw [← hl]; exact hi)
      obtain ⟨j,hj,rfl⟩:=List.getElem_of_mem hfm
      have hj' : j < fs.size:=by simpa using hj
      have:=hf j fs[j] (Array.getElem?_eq_getElem hj')
      rw [List.getElem?_eq_getElem (by rw [hlen]; exact hj')] at this
      have hr:=(ints_of_trod n _ _ _ _ (h.1 _ (List.getElem_mem hj)) this).2
      refine hr _ ?_
      simp only [Array.getElem_toList] at h1 h2
      refine List.mem_of_getElem? (i:=i - fs[j].offset) ?_
      rw [List.getElem?_take,if_pos (by omega),List.getElem?_drop,show fs[j].offset + (i - fs[j].offset) = i by omega]
      exact List.getElem?_eq_getElem hi
    · rename_i q e hu
      simp only [Bool.and_eq_true,decide_eq_true_eq] at h
      obtain ⟨ys,k,_,_,hl,hlen,hf⟩:=DataW.trod_array hu hx
      refine ⟨hl,fun v hv=>?_⟩
      obtain ⟨i,hi,rfl⟩:=List.getElem_of_mem hv
      rw [hl,h.2] at hi
      have hc : 0 < P.cellsOf e:=by
        rcases Nat.eq_zero_or_pos (P.cellsOf e) with h0 | h0
        · rw [h0] at hi; omega
        · exact h0
      have hq : i / P.cellsOf e < q:=Nat.div_lt_of_lt_mul (by rw [Nat.mul_comm]; exact hi)
      have:=hf _ hq
      rw [List.getElem?_eq_getElem (by rw [hlen]; exact hq)] at this
      have hr:=(ints_of_trod n _ _ _ _ h.1 this).2
      refine hr _ (List.mem_of_getElem? (i:=i % P.cellsOf e) ?_)
      rw [List.getElem?_take,if_pos (Nat.mod_lt _ hc),List.getElem?_drop,Nat.mul_comm,Nat.div_add_mod]
      exact List.getElem?_eq_getElem _
    · cases h
theorem ints_list : ∀ (n : Nat) (cs : List Value),cs.length = n → (∀ v ∈ cs,∃ z,v = .int .i64 z ∧ I64 z) → ∃ zs : List Int,zs.length = n ∧ cs = zs.map (.int .i64 ·) ∧ ∀ z ∈ zs,I64 z
  | 0,[],_,_=>⟨[],rfl,rfl,fun _ h=>by cases h⟩
  | n + 1,v :: vs,h,hv=>by
    obtain ⟨zs,h1,h2,h3⟩:=ints_list n vs (by simpa using h) (fun u hu=>hv u (by simp [hu]))
    obtain ⟨z,rfl,hz⟩:=hv v (by simp)
    exact ⟨z :: zs,by simp [h1],by simp [h2],fun u hu=>by rcases List.mem_cons.1 hu with rfl | hu; exact hz; exact h3 _ hu⟩
theorem open_ints {r : Reach} {b0 n m : Nat} {t : TypeId} {v : Value} {d : DataW H} {p : List MemPlace} (ha : IsAgg P t true) (hi : intsOnly P n t = true) (hc : P.cellsOf t = m) (hv : Value.okWide P w r b0 t v) (h : DataW.Trod enc P w base spare held t v d p) :
    ∃ zs : List Int,zs.length = m ∧ v = .agg (zs.map (.int .i64 ·)).toArray ∧ ∀ z ∈ zs,I64 z:=by
  obtain ⟨dd,hu,hd⟩:=ha
  obtain ⟨fuel,hf⟩:=h
  unfold Value.okWide at hv
  rw [hu] at hv
  have : ∃ cs,v = .agg cs:=by
    cases dd <;> first | (obtain ⟨cs,rfl,_⟩:=hv; exact ⟨cs,rfl⟩) | (cases hd)
  obtain ⟨cs,rfl⟩:=this
  obtain ⟨h1,h2⟩:=ints_of_trod n t fuel _ _ hi hf
  obtain ⟨zs,h3,h4,h5⟩:=ints_list m cs.toList (by rw [← hc]; exact h1) h2
  exact ⟨zs,h3,by rw [← h4],h5⟩
theorem three {zs : List Int} (h : zs.length = 3) : ∃ a b c,zs = [a,b,c]:=by
  match zs,h with
  | [a,b,c],_=>exact ⟨a,b,c,rfl⟩
theorem open_pt {r : Reach} {b0 n : Nat} {t : TypeId} {v : Value} {d : DataW H} {p : List MemPlace} (ha : IsAgg P t true) (hi : intsOnly P n t = true) (hc : P.cellsOf t = 3) (hv : Value.okWide P w r b0 t v) (h : DataW.Trod enc P w base spare held t v d p) : ∃ q : P3,I3 q ∧ v = pt q:=by
  obtain ⟨zs,h1,rfl,h2⟩:=open_ints ha hi hc hv h
  obtain ⟨a,b,c,rfl⟩:=three h1
  exact ⟨⟨a,b,c⟩,⟨h2 _ (by simp),h2 _ (by simp),h2 _ (by simp)⟩,rfl⟩
structure IntsAt (w : World) (A : Option Addr) (n : Nat) (zs : List Int) : Prop where
  len : zs.length = n
  it : ∀ z ∈ zs,I64 z
  row : ∀ i z,zs[i]? = some z → ∃ a,A = some a ∧ w.cell? (a.add i) = some (.int .i64 z)
theorem IntsAt.ext {w' : World} {A : Option Addr} {n : Nat} {zs : List Int} (h : IntsAt w A n zs) (hE : Ext w w') : IntsAt w' A n zs :=
  ⟨h.len,h.it,fun i z hi=>let ⟨a,e,hr⟩:=h.row i z hi; ⟨a,e,hE.cell hr⟩⟩
theorem IntsAt.get {A : Option Addr} {n : Nat} {zs : List Int} (h : IntsAt w A n zs) {i : Nat} (hi : i < n) : ∃ z,zs[i]? = some z ∧ Iw z ∧ ∃ a,A = some a ∧ w.cell? (a.add i) = some (.int .i64 z):=by
  have hl : i < zs.length:=by rw [h.len]; exact hi
  exact ⟨zs[i],List.getElem?_eq_getElem hl,⟨h.it _ (List.getElem_mem hl)⟩,h.row i _ (List.getElem?_eq_getElem hl)⟩
end Go.Lith
namespace Go.Lith
open Go.RowKit
theorem tm_bd {n m : Int} (hm : 0 < m) : -m < n.tmod m ∧ n.tmod m < m:=by
  have h1:=Int.tmod_lt_of_pos n hm
  have h2:=Int.tmod_lt_of_pos (-n) hm
  rw [Int.neg_tmod] at h2
  omega
/-! ### Hills -/
def hgt (zs : List Int) (x y : Nat) : Int:=(zs[(y * 7 + x) % zs.length]?.getD 0) % 64
def quadT (a b c d : P3) : List T3:=[⟨a,b,c⟩,⟨a,c,d⟩]
theorem flatMap_len {α β : Type} {f : α → List β} {k : Nat} : ∀ (l : List α),(∀ x ∈ l,(f x).length = k) → (l.flatMap f).length = l.length * k
  | [],_=>by simp
  | x :: l,h=>by
    rw [List.flatMap_cons,List.length_append,h x (by simp),flatMap_len l (fun y hy=>h y (by simp [hy])),List.length_cons,Nat.add_mul,Nat.one_mul,Nat.add_comm]
def Sm (k : Int) (p : P3) : Prop:=(0 ≤ p.x ∧ p.x ≤ k) ∧ (0 ≤ p.y ∧ p.y ≤ k) ∧ (0 ≤ p.z ∧ p.z ≤ k)
def SmT (k : Int) (t : T3) : Prop:=Sm k t.a ∧ Sm k t.b ∧ Sm k t.c
theorem Sm.i3 {k : Int} {p : P3} (h : Sm k p) (hk : k < 9223372036854775808) : I3 p:=⟨⟨by have:=h.1; omega,by have:=h.1; omega⟩,⟨by have:=h.2.1; omega,by have:=h.2.1; omega⟩,⟨by have:=h.2.2; omega,by have:=h.2.2; omega⟩⟩
theorem SmT.it {k : Int} {t : T3} (h : SmT k t) (hk : k < 9223372036854775808) : IT t:=⟨h.1.i3 hk,h.2.1.i3 hk,h.2.2.i3 hk⟩
theorem quad_sm {k : Int} {a b c d : P3} (ha : Sm k a) (hb : Sm k b) (hc : Sm k c) (hd : Sm k d) : ∀ t ∈ quadT a b c d,SmT k t:=fun t ht=>by
  simp only [quadT,List.mem_cons,List.not_mem_nil,or_false] at ht
  rcases ht with rfl | rfl
  · exact ⟨ha,hb,hc⟩
  · exact ⟨ha,hc,hd⟩
/-! ### Cubes -/
def cubeC (p : P3) (s : Int) (n : Nat) : P3:=⟨p.x + ((n % 2 : Nat) : Int) * s,p.y + ((n / 2 % 2 : Nat) : Int) * s,p.z + ((n / 4 : Nat) : Int) * s⟩
def cubeT (p : P3) (s : Int) : List T3:=quadT (cubeC p s 0) (cubeC p s 2) (cubeC p s 3) (cubeC p s 1) ++ quadT (cubeC p s 4) (cubeC p s 5) (cubeC p s 7) (cubeC p s 6) ++ quadT (cubeC p s 0) (cubeC p s 1) (cubeC p s 5) (cubeC p s 4)
  ++ quadT (cubeC p s 2) (cubeC p s 6) (cubeC p s 7) (cubeC p s 3) ++ quadT (cubeC p s 0) (cubeC p s 4) (cubeC p s 6) (cubeC p s 2) ++ quadT (cubeC p s 1) (cubeC p s 3) (cubeC p s 7) (cubeC p s 5)
theorem cubeT_length (p : P3) (s : Int) : (cubeT p s).length = 12:=rfl
def vP (n : Nat) : P3:=⟨4 + ((n % 3 : Nat) : Int) * 8,5 + ((n / 3 % 3 : Nat) : Int) * 8,6 + ((n / 9 : Nat) : Int) * 8⟩
def stx (f : Nat) : Int:=if f = 4 then -1 else if f = 5 then 1 else 0
def sty (f : Nat) : Int:=if f = 2 then -1 else if f = 3 then 1 else 0
def stz (f : Nat) : Int:=if f = 0 then -1 else if f = 1 then 1 else 0
def vbit (b : Nat) (n : Nat) : Bool:=decide (b / 2 ^ n % 2 = 1)
def vface (b n f : Nat) : Bool :=
  let u:=((n % 3 : Nat) : Int) + stx f
  let v:=((n / 3 % 3 : Nat) : Int) + sty f
  let w:=((n / 9 : Nat) : Int) + stz f
  !(decide (0 ≤ u) && decide (u < 3) && decide (0 ≤ v) && decide (v < 3) && decide (0 ≤ w) && decide (w < 3)) || !vbit b ((w * 3 + v) * 3 + u).toNat
def vpair (n f : Nat) : List T3:=((cubeT (vP n) 8).drop (2 * f)).take 2
def vfaces (b n f : Nat) : List T3:=(List.range f).flatMap fun f=>if vface b n f then vpair n f else []
def voxPre (b n f : Nat) : List T3:=((List.range n).flatMap fun n=>if vbit b n then vfaces b n 6 else []) ++ vfaces b n f
def voxT (b : Nat) : List T3:=(List.range 27).flatMap fun n=>if vbit b n then vfaces b n 6 else []
theorem voxPre_end {b : Nat} : voxPre b 27 0 = voxT b:=by simp [voxPre,voxT,vfaces]
theorem voxPre_yes {b n : Nat} (h : vbit b n = true) : voxPre b n 6 = voxPre b (n + 1) 0:=by
  simp [voxPre,List.range_succ (n:=n),List.flatMap_append,h,vfaces]
theorem voxPre_no {b n : Nat} (h : vbit b n = false) : voxPre b n 0 = voxPre b (n + 1) 0:=by
  simp [voxPre,List.range_succ (n:=n),List.flatMap_append,h,vfaces]
theorem voxPre_in {b n f : Nat} (h : vface b n f = true) : voxPre b n (f + 1) = voxPre b n f ++ vpair n f:=by
  simp [voxPre,vfaces,List.range_succ (n:=f),List.flatMap_append,h]
theorem voxPre_out {b n f : Nat} (h : vface b n f = false) : voxPre b n (f + 1) = voxPre b n f:=by
  simp [voxPre,vfaces,List.range_succ (n:=f),List.flatMap_append,h]
/-! ### What the walks ask for -/
theorem tmodN {k c : Nat} : (k : Int).tmod (c : Int) = ((k % c : Nat) : Int):=rfl
theorem shrI {b : Nat} {n : Int} (h0 : 0 ≤ n) (h : n ≤ 63) : (b : Int).fdiv (2 ^ (min n.toNat IntKind.i64.bits)) = ((b / 2 ^ n.toNat : Nat) : Int):=by
  have e : min n.toNat IntKind.i64.bits = n.toNat:=Nat.min_eq_left (by show n.toNat ≤ 64; omega)
  rw [e,Int.fdiv_eq_ediv_of_nonneg _ (by exact Int.le_of_lt (Int.pow_pos (by decide)))]
  simp
theorem and1 {x : Nat} (h : x < 9223372036854775808) : IntKind.i64.wrap ((BitVec.ofInt IntKind.i64.bits (x : Int) &&& BitVec.ofInt IntKind.i64.bits 1).toNat : Int) = ((x % 2 : Nat) : Int):=by
  have e : (BitVec.ofInt IntKind.i64.bits (x : Int) &&& BitVec.ofInt IntKind.i64.bits 1).toNat = x % 2:=by
    show (BitVec.ofInt 64 (x : Int) &&& BitVec.ofInt 64 1).toNat = x % 2
    rw [BitVec.toNat_and,BitVec.toNat_ofInt,BitVec.toNat_ofInt]
    have h1 : ((x : Int) % ((2 ^ 64 : Nat) : Int)).toNat = x:=by
      have : ((2 ^ 64 : Nat) : Int) = 18446744073709551616:=rfl
      rw [this]; omega
    have h2 : ((1 : Int) % ((2 ^ 64 : Nat) : Int)).toNat = 1:=rfl
    rw [h1,h2,Nat.and_one_is_mod]
  rw [e]
  exact wrap_i64 (by omega) (by omega)
theorem div_le {b n : Nat} (h : b < 134217728) : b / 2 ^ n < 9223372036854775808:=Nat.lt_of_le_of_lt (Nat.div_le_self _ _) (by omega)
def TS (E : TypeId) (ts : List T3) (w : World) (v : Value) (w' : World) : Prop:=∃ A cap n,n = ts.length ∧ v = .slice A n cap ∧ Ow w w' [] E 9 A n cap (ts.flatMap triCells)
theorem Ow.tri {w0 w : World} {S : List (Option Nat)} {E : TypeId} {n cap g i : Nat} {ts : List T3} {t : T3} (h : Ow w0 w S E 9 (Option.some ⟨g,0,none⟩) n cap (ts.flatMap triCells)) (ht : ts[i]? = Option.some t) : Row w ((⟨g,0,none⟩ : Addr).add (i * 9)) [.int .i64 t.a.x,.int .i64 t.a.y,.int .i64 t.a.z,.int .i64 t.b.x,.int .i64 t.b.y,.int .i64 t.b.z,.int .i64 t.c.x,.int .i64 t.c.y,.int .i64 t.c.z]:=by
  show Row w _ (triCells t)
  intro j u hj
  have hj' : j < (triCells t).length:=(List.getElem?_eq_some_iff.1 hj).1
  rw [addr_add_add]
  refine h.rows _ _ ?_
  rw [← List.getElem?_drop,drop_flat ts i t ht,List.getElem?_append_left hj']
  exact hj
theorem vP_sm {n : Nat} (h : n < 27) : Sm 100 (vP n):=by
  simp only [Sm,vP]
  omega
theorem cubeC_sm {p : P3} {n : Nat} (h : Sm 100 p) (hn : n < 8) : Sm 200 (cubeC p 8 n):=by
  simp only [Sm,cubeC] at h ⊢
  omega
theorem cubeT_sm {p : P3} (h : Sm 100 p) : ∀ t ∈ cubeT p 8,SmT 200 t:=fun t ht=>by
  have c : ∀ n,n < 8 → Sm 200 (cubeC p 8 n):=fun n hn=>cubeC_sm h hn
  simp only [cubeT,List.mem_append] at ht
  rcases ht with ((((ht | ht) | ht) | ht) | ht) | ht <;> exact quad_sm (c _ (by decide)) (c _ (by decide)) (c _ (by decide)) (c _ (by decide)) t ht
theorem vpair_sm {n f : Nat} (h : n < 27) : ∀ t ∈ vpair n f,SmT 200 t:=fun t ht=>cubeT_sm (vP_sm h) t (List.mem_of_mem_drop (List.mem_of_mem_take ht))
theorem vfaces_sm {b n f : Nat} (h : n < 27) : ∀ t ∈ vfaces b n f,SmT 200 t:=fun t ht=>by
  obtain ⟨k,_,h2⟩:=List.mem_flatMap.1 ht
  split at h2
  · exact vpair_sm h t h2
  · cases h2
theorem voxT_sm {b : Nat} : ∀ t ∈ voxT b,SmT 200 t:=fun t ht=>by
  obtain ⟨k,hk,h2⟩:=List.mem_flatMap.1 ht
  split at h2
  · exact vfaces_sm (List.mem_range.1 hk) t h2
  · cases h2
theorem flatMap_le {α β : Type} {f : α → List β} {k : Nat} : ∀ (l : List α),(∀ x ∈ l,(f x).length ≤ k) → (l.flatMap f).length ≤ l.length * k
  | [],_=>by simp
  | x :: l,h=>by
    have h1:=h x (by simp)
    have h2:=flatMap_le l (fun y hy=>h y (by simp [hy]))
    rw [List.flatMap_cons,List.length_append,List.length_cons,Nat.add_mul,Nat.one_mul]
    omega
theorem vpair_le {n f : Nat} : (vpair n f).length ≤ 2:=by unfold vpair; rw [List.length_take]; omega
theorem vfaces_le {b n f : Nat} : (vfaces b n f).length ≤ f * 2:=by
  have:=flatMap_le (f:=fun f=>if vface b n f then vpair n f else []) (k:=2) (List.range f) (fun x _=>by
    show (if vface b n x = true then vpair n x else []).length ≤ 2
    split
    · exact vpair_le
    · exact Nat.zero_le _)
  rwa [List.length_range] at this
theorem voxPre_le {b n f : Nat} (hn : n ≤ 27) (hf : f ≤ 6) : (voxPre b n f).length ≤ 400:=by
  have h1:=flatMap_le (f:=fun n=>if vbit b n then vfaces b n 6 else []) (k:=12) (List.range n) (fun x _=>by
    show (if vbit b x = true then vfaces b x 6 else []).length ≤ 12
    split
    · exact vfaces_le
    · exact Nat.zero_le _)
  have h2:=vfaces_le (b:=b) (n:=n) (f:=f)
  rw [List.length_range] at h1
  unfold voxPre
  rw [List.length_append]
  omega
theorem voxT_le {b : Nat} : (voxT b).length ≤ 400:=by
  rw [← voxPre_end]
  exact voxPre_le (by omega) (by omega)
def stepCells : List Value:=[.int .i64 0,.int .i64 0,.int .i64 (-1),.int .i64 0,.int .i64 0,.int .i64 1,.int .i64 0,.int .i64 (-1),.int .i64 0,.int .i64 0,.int .i64 1,.int .i64 0,.int .i64 (-1),.int .i64 0,.int .i64 0,.int .i64 1,.int .i64 0,.int .i64 0]
theorem st_cases {f : Nat} (h : f < 6) : f = 0 ∨ f = 1 ∨ f = 2 ∨ f = 3 ∨ f = 4 ∨ f = 5:=by omega
theorem stc_x {f : Nat} (h : f < 6) : stepCells[f * 3]? = some (.int .i64 (stx f)):=by rcases st_cases h with rfl | rfl | rfl | rfl | rfl | rfl <;> rfl
theorem stc_y {f : Nat} (h : f < 6) : stepCells[f * 3 + 1]? = some (.int .i64 (sty f)):=by rcases st_cases h with rfl | rfl | rfl | rfl | rfl | rfl <;> rfl
theorem stc_z {f : Nat} (h : f < 6) : stepCells[f * 3 + 2]? = some (.int .i64 (stz f)):=by rcases st_cases h with rfl | rfl | rfl | rfl | rfl | rfl <;> rfl
theorem st_bd (f : Nat) : (-1 ≤ stx f ∧ stx f ≤ 1) ∧ (-1 ≤ sty f ∧ sty f ≤ 1) ∧ (-1 ≤ stz f ∧ stz f ≤ 1):=by
  unfold stx sty stz
  repeat' split
  all_goals omega
theorem vin {u v w : Int} (hb : (!(!(decide (0 ≤ u) && decide (u < 3) && decide (0 ≤ v) && decide (v < 3) && decide (0 ≤ w) && decide (w < 3)))) = true) : (0 ≤ u ∧ u < 3) ∧ (0 ≤ v ∧ v < 3) ∧ 0 ≤ w ∧ w < 3:=by
  simp only [Bool.not_not,Bool.and_eq_true,decide_eq_true_eq] at hb
  omega
theorem vface_eq {b n f : Nat} : (!(decide ((0 : Int) ≤ ((n % 3 : Nat) : Int) + stx f) && decide (((n % 3 : Nat) : Int) + stx f < 3) && decide ((0 : Int) ≤ ((n / 3 % 3 : Nat) : Int) + sty f) && decide (((n / 3 % 3 : Nat) : Int) + sty f < 3) && decide ((0 : Int) ≤ ((n / 9 : Nat) : Int) + stz f) && decide (((n / 9 : Nat) : Int) + stz f < 3)) ||
    decide (((b / 2 ^ (((((n / 9 : Nat) : Int) + stz f) * 3 + (((n / 3 % 3 : Nat) : Int) + sty f)) * 3 + (((n % 3 : Nat) : Int) + stx f)).toNat % 2 : Nat) : Int) = 0)) = vface b n f:=by
  unfold vface vbit
  simp only
  congr 1
  rw [← decide_not]
  congr 1
  apply propext
  constructor <;> intro h <;> omega
theorem vox_at {n f : Nat} (h : f < 6) : ∃ t u,(cubeT (vP n) 8)[2 * f]? = some t ∧ (cubeT (vP n) 8)[2 * f + 1]? = some u ∧ vpair n f = [t,u]:=by
  have h1 : 2 * f < (cubeT (vP n) 8).length:=by rw [cubeT_length]; omega
  have h2 : 2 * f + 1 < (cubeT (vP n) 8).length:=by rw [cubeT_length]; omega
  refine ⟨_,_,List.getElem?_eq_getElem h1,List.getElem?_eq_getElem h2,?_⟩
  unfold vpair
  rw [List.drop_eq_getElem_cons h1,List.drop_eq_getElem_cons h2]
  rfl
theorem vox_cells {b n f : Nat} {t u : T3} (hp : vpair n f = [t,u]) (h : vface b n f = true) : (voxPre b n f).flatMap triCells ++ [.int .i64 t.a.x,.int .i64 t.a.y,.int .i64 t.a.z,.int .i64 t.b.x,.int .i64 t.b.y,.int .i64 t.b.z,.int .i64 t.c.x,.int .i64 t.c.y,.int .i64 t.c.z,.int .i64 u.a.x,.int .i64 u.a.y,.int .i64 u.a.z,.int .i64 u.b.x,.int .i64 u.b.y,.int .i64 u.b.z,.int .i64 u.c.x,.int .i64 u.c.y,.int .i64 u.c.z] = (voxPre b n (f + 1)).flatMap triCells:=by
  rw [voxPre_in h,List.flatMap_append,hp]
  rfl
theorem vox_len {b n f : Nat} (hf : f < 6) (h : vface b n f = true) : (voxPre b n f).length + 2 = (voxPre b n (f + 1)).length:=by
  obtain ⟨t,u,_,_,hp⟩:=vox_at (n:=n) hf
  rw [voxPre_in h,List.length_append,hp]
  rfl
end Go.Lith
namespace Go.Lith
open Go.RowKit
def Pts (ts : List T3) (p : P3) : Prop:=∃ u ∈ ts,p = u.a ∨ p = u.b ∨ p = u.c
def SubT (us ts : List T3) : Prop:=∀ p,Pts us p → Pts ts p
theorem SubT.refl (ts : List T3) : SubT ts ts:=fun _ h=>h
theorem SubT.trans {a b c : List T3} (h : SubT a b) (k : SubT b c) : SubT a c:=fun p hp=>k p (h p hp)
theorem SubT.one {ts : List T3} {a b c : P3} (ha : Pts ts a) (hb : Pts ts b) (hc : Pts ts c) : SubT [⟨a,b,c⟩] ts:=fun p ⟨u,hu,hp⟩=>by
  obtain rfl:=List.mem_singleton.1 hu
  rcases hp with rfl | rfl | rfl
  · exact ha
  · exact hb
  · exact hc
theorem SubT.set {us ts : List T3} {k : Nat} {a b c : P3} (h : SubT us ts) (ha : Pts ts a) (hb : Pts ts b) (hc : Pts ts c) : SubT (us.set k ⟨a,b,c⟩) ts:=fun p ⟨u,hu,hp⟩=>by
  rcases List.mem_or_eq_of_mem_set hu with hu | rfl
  · exact h p ⟨u,hu,hp⟩
  · rcases hp with rfl | rfl | rfl
    · exact ha
    · exact hb
    · exact hc
theorem SubT.it {us ts : List T3} (h : SubT us ts) (hs : ∀ t ∈ ts,IT t) : ∀ t ∈ us,IT t:=fun t ht=>by
  have p : ∀ p,Pts us p → I3 p:=fun p hp=>by
    obtain ⟨u,hu,hp⟩:=h p hp
    have:=hs u hu
    rcases hp with rfl | rfl | rfl
    · exact this.a
    · exact this.b
    · exact this.c
  exact ⟨p _ ⟨t,ht,.inl rfl⟩,p _ ⟨t,ht,.inr (.inl rfl)⟩,p _ ⟨t,ht,.inr (.inr rfl)⟩⟩
def T3.cor (t : T3) (c : Nat) : P3:=if c = 0 then t.a else if c = 1 then t.b else t.c
section
variable {w0 w : World} {S : List (Option Nat)} {E : TypeId} {n cap : Nat} {A : Option Addr} {ts : List T3}
theorem Row.cor {a : Addr} {t : T3} {c : Nat} (h : Row w a (triCells t)) (hc : c < 3) : Row w (a.add (c * 3)) [.int .i64 (t.cor c).x,.int .i64 (t.cor c).y,.int .i64 (t.cor c).z]:=by
  have:=(h.sub (c * 3)).take 3
  have e : c = 0 ∨ c = 1 ∨ c = 2:=by omega
  rcases e with rfl | rfl | rfl <;> exact this
theorem TrisAt.take {N k : Nat} (h : TrisAt w A N ts) (hk : k ≤ N) : TrisAt w A k (ts.take k) :=
  ⟨by rw [List.length_take,h.len]; omega,fun t ht=>h.it t (List.mem_of_mem_take ht),fun i t ht=>h.row i t (by rw [List.getElem?_take] at ht; split at ht; exact ht; cases ht)⟩
end
end Go.Lith
namespace Go.Proofs.YtmcgcnpgkkfkoaaGreatDoor
open Go.RowKit Go.Lith
set_option maxRecDepth 100000
theorem follows_mixed : Tryz.prog.follows .mixedOrders = true:=by kernel_rfl
theorem en_5 : Enters Tryz.prog 5:=⟨_,Tryz.func5,by kernel_rfl,by kernel_rfl⟩
theorem en_10 : Enters Tryz.prog 10:=⟨_,Tryz.func10,by kernel_rfl,by kernel_rfl⟩
theorem en_12 : Enters Tryz.prog 12:=⟨_,Tryz.func12,by kernel_rfl,by kernel_rfl⟩
theorem en_14 : Enters Tryz.prog 14:=⟨_,Tryz.func14,by kernel_rfl,by kernel_rfl⟩
theorem en_16 : Enters Tryz.prog 16:=⟨_,Tryz.func16,by kernel_rfl,by kernel_rfl⟩
theorem en_17 : Enters Tryz.prog 17:=⟨_,Tryz.func17,by kernel_rfl,by kernel_rfl⟩
theorem en_18 : Enters Tryz.prog 18:=⟨_,Tryz.func18,by kernel_rfl,by kernel_rfl⟩
theorem en_19 : Enters Tryz.prog 19:=⟨_,Tryz.func19,by kernel_rfl,by kernel_rfl⟩
theorem en_20 : Enters Tryz.prog 20:=⟨_,Tryz.func20,by kernel_rfl,by kernel_rfl⟩
theorem en_21 : Enters Tryz.prog 21:=⟨_,Tryz.func21,by kernel_rfl,by kernel_rfl⟩
theorem en_22 : Enters Tryz.prog 22:=⟨_,Tryz.func22,by kernel_rfl,by kernel_rfl⟩
theorem en_23 : Enters Tryz.prog 23:=⟨_,Tryz.func23,by kernel_rfl,by kernel_rfl⟩
theorem en_24 : Enters Tryz.prog 24:=⟨_,Tryz.func24,by kernel_rfl,by kernel_rfl⟩
theorem en_25 : Enters Tryz.prog 25:=⟨_,Tryz.func25,by kernel_rfl,by kernel_rfl⟩
theorem en_26 : Enters Tryz.prog 26:=⟨_,Tryz.func26,by kernel_rfl,by kernel_rfl⟩
theorem en_28 : Enters Tryz.prog 28:=⟨_,Tryz.func28,by kernel_rfl,by kernel_rfl⟩
theorem en_29 : Enters Tryz.prog 29:=⟨_,Tryz.func29,by kernel_rfl,by kernel_rfl⟩
theorem en_30 : Enters Tryz.prog 30:=⟨_,Tryz.func30,by kernel_rfl,by kernel_rfl⟩
theorem en_39 : Enters Tryz.prog 39:=⟨_,Tryz.func39,by kernel_rfl,by kernel_rfl⟩
theorem en_42 : Enters Tryz.prog 42:=⟨_,Tryz.func42,by kernel_rfl,by kernel_rfl⟩
theorem en_43 : Enters Tryz.prog 43:=⟨_,Tryz.func43,by kernel_rfl,by kernel_rfl⟩
theorem en_44 : Enters Tryz.prog 44:=⟨_,Tryz.func44,by kernel_rfl,by kernel_rfl⟩
theorem en_47 : Enters Tryz.prog 47:=⟨_,Tryz.func47,by kernel_rfl,by kernel_rfl⟩
theorem en_48 : Enters Tryz.prog 48:=⟨_,Tryz.func48,by kernel_rfl,by kernel_rfl⟩
theorem en_49 : Enters Tryz.prog 49:=⟨_,Tryz.func49,by kernel_rfl,by kernel_rfl⟩
theorem en_50 : Enters Tryz.prog 50:=⟨_,Tryz.func50,by kernel_rfl,by kernel_rfl⟩
theorem en_56 : Enters Tryz.prog 56:=⟨_,Tryz.func56,by kernel_rfl,by kernel_rfl⟩
theorem en_57 : Enters Tryz.prog 57:=⟨_,Tryz.func57,by kernel_rfl,by kernel_rfl⟩
theorem en_58 : Enters Tryz.prog 58:=⟨_,Tryz.func58,by kernel_rfl,by kernel_rfl⟩
theorem en_59 : Enters Tryz.prog 59:=⟨_,Tryz.func59,by kernel_rfl,by kernel_rfl⟩
theorem en_60 : Enters Tryz.prog 60:=⟨_,Tryz.func60,by kernel_rfl,by kernel_rfl⟩
theorem en_61 : Enters Tryz.prog 61:=⟨_,Tryz.func61,by kernel_rfl,by kernel_rfl⟩
theorem en_62 : Enters Tryz.prog 62:=⟨_,Tryz.func62,by kernel_rfl,by kernel_rfl⟩
theorem en_63 : Enters Tryz.prog 63:=⟨_,Tryz.func63,by kernel_rfl,by kernel_rfl⟩
theorem en_64 : Enters Tryz.prog 64:=⟨_,Tryz.func64,by kernel_rfl,by kernel_rfl⟩
theorem en_65 : Enters Tryz.prog 65:=⟨_,Tryz.func65,by kernel_rfl,by kernel_rfl⟩
theorem en_66 : Enters Tryz.prog 66:=⟨_,Tryz.func66,by kernel_rfl,by kernel_rfl⟩
theorem en_67 : Enters Tryz.prog 67:=⟨_,Tryz.func67,by kernel_rfl,by kernel_rfl⟩
theorem en_68 : Enters Tryz.prog 68:=⟨_,Tryz.func68,by kernel_rfl,by kernel_rfl⟩
theorem en_69 : Enters Tryz.prog 69:=⟨_,Tryz.func69,by kernel_rfl,by kernel_rfl⟩
theorem en_71 : Enters Tryz.prog 71:=⟨_,Tryz.func71,by kernel_rfl,by kernel_rfl⟩
theorem en_77 : Enters Tryz.prog 77:=⟨_,Tryz.func77,by kernel_rfl,by kernel_rfl⟩
theorem en_78 : Enters Tryz.prog 78:=⟨_,Tryz.func78,by kernel_rfl,by kernel_rfl⟩
theorem en_79 : Enters Tryz.prog 79:=⟨_,Tryz.func79,by kernel_rfl,by kernel_rfl⟩
theorem en_94 : Enters Tryz.prog 94:=⟨_,Tryz.func94,by kernel_rfl,by kernel_rfl⟩
theorem en_95 : Enters Tryz.prog 95:=⟨_,Tryz.func95,by kernel_rfl,by kernel_rfl⟩
theorem en_96 : Enters Tryz.prog 96:=⟨_,Tryz.func96,by kernel_rfl,by kernel_rfl⟩
theorem en_97 : Enters Tryz.prog 97:=⟨_,Tryz.func97,by kernel_rfl,by kernel_rfl⟩
theorem en_98 : Enters Tryz.prog 98:=⟨_,Tryz.func98,by kernel_rfl,by kernel_rfl⟩
theorem en_99 : Enters Tryz.prog 99:=⟨_,Tryz.func99,by kernel_rfl,by kernel_rfl⟩
theorem en_103 : Enters Tryz.prog 103:=⟨_,Tryz.func103,by kernel_rfl,by kernel_rfl⟩
theorem en_104 : Enters Tryz.prog 104:=⟨_,Tryz.func104,by kernel_rfl,by kernel_rfl⟩
theorem en_105 : Enters Tryz.prog 105:=⟨_,Tryz.func105,by kernel_rfl,by kernel_rfl⟩
theorem en_106 : Enters Tryz.prog 106:=⟨_,Tryz.func106,by kernel_rfl,by kernel_rfl⟩
theorem en_111 : Enters Tryz.prog 111:=⟨_,Tryz.func111,by kernel_rfl,by kernel_rfl⟩
theorem en_115 : Enters Tryz.prog 115:=⟨_,Tryz.func115,by kernel_rfl,by kernel_rfl⟩
theorem en_116 : Enters Tryz.prog 116:=⟨_,Tryz.func116,by kernel_rfl,by kernel_rfl⟩
theorem en_117 : Enters Tryz.prog 117:=⟨_,Tryz.func117,by kernel_rfl,by kernel_rfl⟩
theorem en_118 : Enters Tryz.prog 118:=⟨_,Tryz.func118,by kernel_rfl,by kernel_rfl⟩
theorem en_119 : Enters Tryz.prog 119:=⟨_,Tryz.func119,by kernel_rfl,by kernel_rfl⟩
theorem en_120 : Enters Tryz.prog 120:=⟨_,Tryz.func120,by kernel_rfl,by kernel_rfl⟩
theorem en_121 : Enters Tryz.prog 121:=⟨_,Tryz.func121,by kernel_rfl,by kernel_rfl⟩
theorem en_122 : Enters Tryz.prog 122:=⟨_,Tryz.func122,by kernel_rfl,by kernel_rfl⟩
theorem en_123 : Enters Tryz.prog 123:=⟨_,Tryz.func123,by kernel_rfl,by kernel_rfl⟩
theorem en_124 : Enters Tryz.prog 124:=⟨_,Tryz.func124,by kernel_rfl,by kernel_rfl⟩
theorem en_125 : Enters Tryz.prog 125:=⟨_,Tryz.func125,by kernel_rfl,by kernel_rfl⟩
theorem en_126 : Enters Tryz.prog 126:=⟨_,Tryz.func126,by kernel_rfl,by kernel_rfl⟩
theorem en_127 : Enters Tryz.prog 127:=⟨_,Tryz.func127,by kernel_rfl,by kernel_rfl⟩
theorem en_128 : Enters Tryz.prog 128:=⟨_,Tryz.func128,by kernel_rfl,by kernel_rfl⟩
theorem en_129 : Enters Tryz.prog 129:=⟨_,Tryz.func129,by kernel_rfl,by kernel_rfl⟩
theorem en_130 : Enters Tryz.prog 130:=⟨_,Tryz.func130,by kernel_rfl,by kernel_rfl⟩
theorem en_131 : Enters Tryz.prog 131:=⟨_,Tryz.func131,by kernel_rfl,by kernel_rfl⟩
theorem en_132 : Enters Tryz.prog 132:=⟨_,Tryz.func132,by kernel_rfl,by kernel_rfl⟩
theorem en_133 : Enters Tryz.prog 133:=⟨_,Tryz.func133,by kernel_rfl,by kernel_rfl⟩
theorem en_134 : Enters Tryz.prog 134:=⟨_,Tryz.func134,by kernel_rfl,by kernel_rfl⟩
theorem en_139 : Enters Tryz.prog 139:=⟨_,Tryz.func139,by kernel_rfl,by kernel_rfl⟩
theorem en_148 : Enters Tryz.prog 148:=⟨_,Tryz.func148,by kernel_rfl,by kernel_rfl⟩
theorem en_149 : Enters Tryz.prog 149:=⟨_,Tryz.func149,by kernel_rfl,by kernel_rfl⟩
theorem en_150 : Enters Tryz.prog 150:=⟨_,Tryz.func150,by kernel_rfl,by kernel_rfl⟩
theorem en_151 : Enters Tryz.prog 151:=⟨_,Tryz.func151,by kernel_rfl,by kernel_rfl⟩
theorem en_152 : Enters Tryz.prog 152:=⟨_,Tryz.func152,by kernel_rfl,by kernel_rfl⟩
theorem en_155 : Enters Tryz.prog 155:=⟨_,Tryz.func155,by kernel_rfl,by kernel_rfl⟩
theorem en_159 : Enters Tryz.prog 159:=⟨_,Tryz.func159,by kernel_rfl,by kernel_rfl⟩
theorem en_160 : Enters Tryz.prog 160:=⟨_,Tryz.func160,by kernel_rfl,by kernel_rfl⟩
theorem en_161 : Enters Tryz.prog 161:=⟨_,Tryz.func161,by kernel_rfl,by kernel_rfl⟩
theorem en_162 : Enters Tryz.prog 162:=⟨_,Tryz.func162,by kernel_rfl,by kernel_rfl⟩
theorem en_163 : Enters Tryz.prog 163:=⟨_,Tryz.func163,by kernel_rfl,by kernel_rfl⟩
theorem en_164 : Enters Tryz.prog 164:=⟨_,Tryz.func164,by kernel_rfl,by kernel_rfl⟩
theorem en_165 : Enters Tryz.prog 165:=⟨_,Tryz.func165,by kernel_rfl,by kernel_rfl⟩
theorem en_171 : Enters Tryz.prog 171:=⟨_,Tryz.func171,by kernel_rfl,by kernel_rfl⟩
theorem en_175 : Enters Tryz.prog 175:=⟨_,Tryz.func175,by kernel_rfl,by kernel_rfl⟩
theorem cells_3 : Cells Tryz.prog 3 1:=cells_of (by kernel_rfl)
theorem agg_3 : IsAgg Tryz.prog 3 false:=isAgg_of _ Tryz.underlying3 rfl
theorem inf_3 : (Tryz.prog.info? 3).map (fun i=>(i.size,i.bytes,i.zero)) = some (1,8,some (.int .i64 0)):=by kernel_rfl
theorem cells_4 : Cells Tryz.prog 4 1:=cells_of (by kernel_rfl)
theorem agg_4 : IsAgg Tryz.prog 4 false:=isAgg_of _ Tryz.underlying4 rfl
theorem inf_5 : (Tryz.prog.info? 5).map (fun i=>(i.size,i.bytes,i.zero)) = some (1,1,some (.int .u8 0)):=by kernel_rfl
theorem cells_9 : Cells Tryz.prog 9 1:=cells_of (by kernel_rfl)
theorem agg_9 : IsAgg Tryz.prog 9 false:=isAgg_of _ Tryz.underlying9 rfl
theorem cells_23 : Cells Tryz.prog 23 3:=cells_of (by kernel_rfl)
theorem agg_23 : IsAgg Tryz.prog 23 true:=isAgg_of _ Tryz.underlying23 rfl
theorem zero_23 : Zero Tryz.prog 23 (.agg #[.int .i64 0,.int .i64 0,.int .i64 0]):=zero_of (by kernel_rfl)
theorem cells_28 : Cells Tryz.prog 28 3:=cells_of (by kernel_rfl)
theorem agg_28 : IsAgg Tryz.prog 28 true:=isAgg_of _ Tryz.underlying28 rfl
theorem zero_28 : Zero Tryz.prog 28 (.agg #[.int .i64 0,.int .i64 0,.int .i64 0]):=zero_of (by kernel_rfl)
theorem inf_28 : (Tryz.prog.info? 28).map (fun i=>(i.size,i.bytes,i.zero)) = some (3,24,some (.agg #[.int .i64 0,.int .i64 0,.int .i64 0])):=by kernel_rfl
theorem cells_32 : Cells Tryz.prog 32 2:=cells_of (by kernel_rfl)
theorem agg_32 : IsAgg Tryz.prog 32 true:=isAgg_of _ Tryz.underlying32 rfl
theorem zero_32 : Zero Tryz.prog 32 (.agg #[.bool false,.string ⟨#[]⟩]):=zero_of (by kernel_rfl)
theorem cells_34 : Cells Tryz.prog 34 4:=cells_of (by kernel_rfl)
theorem agg_34 : IsAgg Tryz.prog 34 true:=isAgg_of _ Tryz.underlying34 rfl
theorem zero_34 : Zero Tryz.prog 34 (.agg #[.bool false,.string ⟨#[]⟩,.bool false,.string ⟨#[]⟩]):=zero_of (by kernel_rfl)
theorem cells_49 : Cells Tryz.prog 49 12:=cells_of (by kernel_rfl)
theorem agg_49 : IsAgg Tryz.prog 49 true:=isAgg_of _ Tryz.underlying49 rfl
theorem zero_49 : Zero Tryz.prog 49 (.agg #[.bool false,.string ⟨#[]⟩,.bool false,.string ⟨#[]⟩,.bool false,.string ⟨#[]⟩,.bool false,.string ⟨#[]⟩,.bool false,.string ⟨#[]⟩,.bool false,.string ⟨#[]⟩]):=zero_of (by kernel_rfl)
theorem cells_59 : Cells Tryz.prog 59 9:=cells_of (by kernel_rfl)
theorem agg_59 : IsAgg Tryz.prog 59 true:=isAgg_of _ Tryz.underlying59 rfl
theorem zero_59 : Zero Tryz.prog 59 (.agg #[.int .i64 0,.int .i64 0,.int .i64 0,.int .i64 0,.int .i64 0,.int .i64 0,.int .i64 0,.int .i64 0,.int .i64 0]):=zero_of (by kernel_rfl)
theorem inf_59 : (Tryz.prog.info? 59).map (fun i=>(i.size,i.bytes,i.zero)) = some (9,72,some (.agg #[.int .i64 0,.int .i64 0,.int .i64 0,.int .i64 0,.int .i64 0,.int .i64 0,.int .i64 0,.int .i64 0,.int .i64 0])):=by kernel_rfl
theorem cells_75 : Cells Tryz.prog 75 6:=cells_of (by kernel_rfl)
theorem agg_75 : IsAgg Tryz.prog 75 true:=isAgg_of _ Tryz.underlying75 rfl
theorem zero_75 : Zero Tryz.prog 75 (.agg #[.bool false,.string ⟨#[]⟩,.bool false,.string ⟨#[]⟩,.bool false,.string ⟨#[]⟩]):=zero_of (by kernel_rfl)
theorem cells_76 : Cells Tryz.prog 76 6:=cells_of (by kernel_rfl)
theorem agg_76 : IsAgg Tryz.prog 76 true:=isAgg_of _ Tryz.underlying76 rfl
theorem zero_76 : Zero Tryz.prog 76 (.agg #[.bool false,.string ⟨#[]⟩,.bool false,.string ⟨#[]⟩,.bool false,.string ⟨#[]⟩]):=zero_of (by kernel_rfl)
theorem cells_88 : Cells Tryz.prog 88 1:=cells_of (by kernel_rfl)
theorem agg_88 : IsAgg Tryz.prog 88 false:=isAgg_of _ Tryz.underlying88 rfl
theorem inf_88 : (Tryz.prog.info? 88).map (fun i=>(i.size,i.bytes,i.zero)) = some (1,8,some (.int .u64 0)):=by kernel_rfl
theorem cells_91 : Cells Tryz.prog 91 18:=cells_of (by kernel_rfl)
theorem zero_91 : Zero Tryz.prog 91 (.agg #[.int .i64 0,.int .i64 0,.int .i64 0,.int .i64 0,.int .i64 0,.int .i64 0,.int .i64 0,.int .i64 0,.int .i64 0,.int .i64 0,.int .i64 0,.int .i64 0,.int .i64 0,.int .i64 0,.int .i64 0,.int .i64 0,.int .i64 0,.int .i64 0]):=zero_of (by kernel_rfl)
theorem cells_94 : Cells Tryz.prog 94 1:=cells_of (by kernel_rfl)
theorem agg_94 : IsAgg Tryz.prog 94 false:=isAgg_of _ Tryz.underlying94 rfl
theorem cells_95 : Cells Tryz.prog 95 3:=cells_of (by kernel_rfl)
theorem agg_95 : IsAgg Tryz.prog 95 true:=isAgg_of _ Tryz.underlying95 rfl
theorem zero_95 : Zero Tryz.prog 95 (.agg #[.nilFunc,.nilFunc,.nilFunc]):=zero_of (by kernel_rfl)
theorem cells_112 : Cells Tryz.prog 112 6:=cells_of (by kernel_rfl)
theorem agg_112 : IsAgg Tryz.prog 112 true:=isAgg_of _ Tryz.underlying112 rfl
theorem zero_112 : Zero Tryz.prog 112 (.agg #[.bool false,.string ⟨#[]⟩,.bool false,.string ⟨#[]⟩,.bool false,.string ⟨#[]⟩]):=zero_of (by kernel_rfl)
theorem cells_143 : Cells Tryz.prog 143 1:=cells_of (by kernel_rfl)
theorem agg_143 : IsAgg Tryz.prog 143 false:=isAgg_of _ Tryz.underlying143 rfl
theorem zero_143 : Zero Tryz.prog 143 (.slice none 0 0):=zero_of (by kernel_rfl)
theorem zero_148 : Zero Tryz.prog 148 (.agg #[.int .i64 0,.int .i64 0,.int .i64 0,.int .i64 0,.int .i64 0,.int .i64 0,.int .i64 0,.int .i64 0,.int .i64 0,.int .i64 0,.int .i64 0,.int .i64 0,.int .i64 0,.int .i64 0,.int .i64 0,.int .i64 0,.int .i64 0,.int .i64 0,.int .i64 0,.int .i64 0,.int .i64 0,.int .i64 0,.int .i64 0,.int .i64 0]):=zero_of (by kernel_rfl)
theorem cells_153 : Cells Tryz.prog 153 6:=cells_of (by kernel_rfl)
theorem agg_153 : IsAgg Tryz.prog 153 true:=isAgg_of _ Tryz.underlying153 rfl
theorem zero_153 : Zero Tryz.prog 153 (.agg #[.int .i64 0,.int .i64 0,.int .i64 0,.int .i64 0,.int .i64 0,.int .i64 0]):=zero_of (by kernel_rfl)
theorem inf_153 : (Tryz.prog.info? 153).map (fun i=>(i.size,i.bytes,i.zero)) = some (6,48,some (.agg #[.int .i64 0,.int .i64 0,.int .i64 0,.int .i64 0,.int .i64 0,.int .i64 0])):=by kernel_rfl
theorem cells_161 : Cells Tryz.prog 161 3:=cells_of (by kernel_rfl)
theorem agg_161 : IsAgg Tryz.prog 161 true:=isAgg_of _ Tryz.underlying161 rfl
theorem zero_161 : Zero Tryz.prog 161 (.agg #[.int .i64 0,.int .i64 0,.int .i64 0]):=zero_of (by kernel_rfl)
theorem cells_167 : Cells Tryz.prog 167 1:=cells_of (by kernel_rfl)
theorem agg_167 : IsAgg Tryz.prog 167 false:=isAgg_of _ Tryz.underlying167 rfl
theorem cells_168 : Cells Tryz.prog 168 3:=cells_of (by kernel_rfl)
theorem agg_168 : IsAgg Tryz.prog 168 true:=isAgg_of _ Tryz.underlying168 rfl
theorem zero_168 : Zero Tryz.prog 168 (.agg #[.nilFunc,.nilFunc,.nilFunc]):=zero_of (by kernel_rfl)
theorem b_23_  (w : World) : (Instr.build 23 #[]).run Tryz.prog w = .ok (.agg #[(.int .i64 0),(.int .i64 0),(.int .i64 0)]) w:=run_build_array Tryz.underlying23 zero_23 cells_3 (by simp [Instr.fill,agg_cells]) w
theorem r_build_23_ {l : List Value} {ty : TypeId}  : Run Tryz.prog l (.build 23 #[]) ty (.agg #[(.int .i64 0),(.int .i64 0),(.int .i64 0)]):=r_build (vs:=#[]) (by simp) fun w=>b_23_  w
theorem b_23_0_1_2 {v0 v1 v2 : Value} {c0_0 : Value} (h0 : v0.cells = #[c0_0]) {c1_0 : Value} (h1 : v1.cells = #[c1_0]) {c2_0 : Value} (h2 : v2.cells = #[c2_0])  (w : World) : (Instr.build 23 #[(0,v0),(1,v1),(2,v2)]).run Tryz.prog w = .ok (.agg #[c0_0,c1_0,c2_0]) w:=run_build_array Tryz.underlying23 zero_23 cells_3 (by simp [Instr.fill,agg_cells,h0,h1,h2]) w
theorem r_build_23_0_1_2 {l : List Value} {ty : TypeId} {x0 x1 x2 : Operand} {c0_0 : Value} (h0 : (ev l x0).cells = #[c0_0]) {c1_0 : Value} (h1 : (ev l x1).cells = #[c1_0]) {c2_0 : Value} (h2 : (ev l x2).cells = #[c2_0]) : Run Tryz.prog l (.build 23 #[(0,x0),(1,x1),(2,x2)]) ty (.agg #[c0_0,c1_0,c2_0]):=r_build (vs:=#[(0,ev l x0),(1,ev l x1),(2,ev l x2)]) (by simp) fun w=>b_23_0_1_2 h0 h1 h2 w
theorem places_28 (w : World) : ((#[{ name := "X", type:=3,offset:=0,embedded:=false,tag := "", pkgPath := "", byteOffset:=0 },{ name := "Y", type:=3,offset:=1,embedded:=false,tag := "", pkgPath := "", byteOffset:=8 },{ name := "Z", type:=3,offset:=2,embedded:=false,tag := "", pkgPath := "", byteOffset:=16 }] : Array Field).mapM fun f=>do pure (f.offset,← sizeOf f.type) : Sem (Array (Nat × Nat))).run Tryz.prog w = .ok #[(0,1),(1,1),(2,1)] w:=by
  simp [Array.mapM_eq_mapM_toList,size_run cells_3]
theorem b_28_  (w : World) : (Instr.build 28 #[]).run Tryz.prog w = .ok (.agg #[(.int .i64 0),(.int .i64 0),(.int .i64 0)]) w:=run_build_struct Tryz.underlying28 zero_28 places_28 (by simp [Instr.fill,agg_cells]) w
theorem r_build_28_ {l : List Value} {ty : TypeId}  : Run Tryz.prog l (.build 28 #[]) ty (.agg #[(.int .i64 0),(.int .i64 0),(.int .i64 0)]):=r_build (vs:=#[]) (by simp) fun w=>b_28_  w
theorem b_28_0 {v0 : Value} {c0_0 : Value} (h0 : v0.cells = #[c0_0])  (w : World) : (Instr.build 28 #[(0,v0)]).run Tryz.prog w = .ok (.agg #[c0_0,(.int .i64 0),(.int .i64 0)]) w:=run_build_struct Tryz.underlying28 zero_28 places_28 (by simp [Instr.fill,agg_cells,h0]) w
theorem r_build_28_0 {l : List Value} {ty : TypeId} {x0 : Operand} {c0_0 : Value} (h0 : (ev l x0).cells = #[c0_0]) : Run Tryz.prog l (.build 28 #[(0,x0)]) ty (.agg #[c0_0,(.int .i64 0),(.int .i64 0)]):=r_build (vs:=#[(0,ev l x0)]) (by simp) fun w=>b_28_0 h0 w
theorem b_28_0_1 {v0 v1 : Value} {c0_0 : Value} (h0 : v0.cells = #[c0_0]) {c1_0 : Value} (h1 : v1.cells = #[c1_0])  (w : World) : (Instr.build 28 #[(0,v0),(1,v1)]).run Tryz.prog w = .ok (.agg #[c0_0,c1_0,(.int .i64 0)]) w:=run_build_struct Tryz.underlying28 zero_28 places_28 (by simp [Instr.fill,agg_cells,h0,h1]) w
theorem r_build_28_0_1 {l : List Value} {ty : TypeId} {x0 x1 : Operand} {c0_0 : Value} (h0 : (ev l x0).cells = #[c0_0]) {c1_0 : Value} (h1 : (ev l x1).cells = #[c1_0]) : Run Tryz.prog l (.build 28 #[(0,x0),(1,x1)]) ty (.agg #[c0_0,c1_0,(.int .i64 0)]):=r_build (vs:=#[(0,ev l x0),(1,ev l x1)]) (by simp) fun w=>b_28_0_1 h0 h1 w
theorem b_28_0_1_2 {v0 v1 v2 : Value} {c0_0 : Value} (h0 : v0.cells = #[c0_0]) {c1_0 : Value} (h1 : v1.cells = #[c1_0]) {c2_0 : Value} (h2 : v2.cells = #[c2_0])  (w : World) : (Instr.build 28 #[(0,v0),(1,v1),(2,v2)]).run Tryz.prog w = .ok (.agg #[c0_0,c1_0,c2_0]) w:=run_build_struct Tryz.underlying28 zero_28 places_28 (by simp [Instr.fill,agg_cells,h0,h1,h2]) w
theorem r_build_28_0_1_2 {l : List Value} {ty : TypeId} {x0 x1 x2 : Operand} {c0_0 : Value} (h0 : (ev l x0).cells = #[c0_0]) {c1_0 : Value} (h1 : (ev l x1).cells = #[c1_0]) {c2_0 : Value} (h2 : (ev l x2).cells = #[c2_0]) : Run Tryz.prog l (.build 28 #[(0,x0),(1,x1),(2,x2)]) ty (.agg #[c0_0,c1_0,c2_0]):=r_build (vs:=#[(0,ev l x0),(1,ev l x1),(2,ev l x2)]) (by simp) fun w=>b_28_0_1_2 h0 h1 h2 w
theorem b_28_1 {v1 : Value} {c1_0 : Value} (h1 : v1.cells = #[c1_0])  (w : World) : (Instr.build 28 #[(1,v1)]).run Tryz.prog w = .ok (.agg #[(.int .i64 0),c1_0,(.int .i64 0)]) w:=run_build_struct Tryz.underlying28 zero_28 places_28 (by simp [Instr.fill,agg_cells,h1]) w
theorem r_build_28_1 {l : List Value} {ty : TypeId} {x1 : Operand} {c1_0 : Value} (h1 : (ev l x1).cells = #[c1_0]) : Run Tryz.prog l (.build 28 #[(1,x1)]) ty (.agg #[(.int .i64 0),c1_0,(.int .i64 0)]):=r_build (vs:=#[(1,ev l x1)]) (by simp) fun w=>b_28_1 h1 w
theorem b_28_1_2 {v1 v2 : Value} {c1_0 : Value} (h1 : v1.cells = #[c1_0]) {c2_0 : Value} (h2 : v2.cells = #[c2_0])  (w : World) : (Instr.build 28 #[(1,v1),(2,v2)]).run Tryz.prog w = .ok (.agg #[(.int .i64 0),c1_0,c2_0]) w:=run_build_struct Tryz.underlying28 zero_28 places_28 (by simp [Instr.fill,agg_cells,h1,h2]) w
theorem r_build_28_1_2 {l : List Value} {ty : TypeId} {x1 x2 : Operand} {c1_0 : Value} (h1 : (ev l x1).cells = #[c1_0]) {c2_0 : Value} (h2 : (ev l x2).cells = #[c2_0]) : Run Tryz.prog l (.build 28 #[(1,x1),(2,x2)]) ty (.agg #[(.int .i64 0),c1_0,c2_0]):=r_build (vs:=#[(1,ev l x1),(2,ev l x2)]) (by simp) fun w=>b_28_1_2 h1 h2 w
theorem b_28_2 {v2 : Value} {c2_0 : Value} (h2 : v2.cells = #[c2_0])  (w : World) : (Instr.build 28 #[(2,v2)]).run Tryz.prog w = .ok (.agg #[(.int .i64 0),(.int .i64 0),c2_0]) w:=run_build_struct Tryz.underlying28 zero_28 places_28 (by simp [Instr.fill,agg_cells,h2]) w
theorem r_build_28_2 {l : List Value} {ty : TypeId} {x2 : Operand} {c2_0 : Value} (h2 : (ev l x2).cells = #[c2_0]) : Run Tryz.prog l (.build 28 #[(2,x2)]) ty (.agg #[(.int .i64 0),(.int .i64 0),c2_0]):=r_build (vs:=#[(2,ev l x2)]) (by simp) fun w=>b_28_2 h2 w
theorem places_32 (w : World) : ((#[{ name := "Neg", type:=4,offset:=0,embedded:=false,tag := "", pkgPath := "", byteOffset:=0 },{ name := "Mag", type:=9,offset:=1,embedded:=false,tag := "", pkgPath := "", byteOffset:=8 }] : Array Field).mapM fun f=>do pure (f.offset,← sizeOf f.type) : Sem (Array (Nat × Nat))).run Tryz.prog w = .ok #[(0,1),(1,1)] w:=by
  simp [Array.mapM_eq_mapM_toList,size_run cells_4,size_run cells_9]
theorem b_32_  (w : World) : (Instr.build 32 #[]).run Tryz.prog w = .ok (.agg #[(.bool false),(.string ⟨#[]⟩)]) w:=run_build_struct Tryz.underlying32 zero_32 places_32 (by simp [Instr.fill,agg_cells]) w
theorem r_build_32_ {l : List Value} {ty : TypeId}  : Run Tryz.prog l (.build 32 #[]) ty (.agg #[(.bool false),(.string ⟨#[]⟩)]):=r_build (vs:=#[]) (by simp) fun w=>b_32_  w
theorem b_32_0_1 {v0 v1 : Value} {c0_0 : Value} (h0 : v0.cells = #[c0_0]) {c1_0 : Value} (h1 : v1.cells = #[c1_0])  (w : World) : (Instr.build 32 #[(0,v0),(1,v1)]).run Tryz.prog w = .ok (.agg #[c0_0,c1_0]) w:=run_build_struct Tryz.underlying32 zero_32 places_32 (by simp [Instr.fill,agg_cells,h0,h1]) w
theorem r_build_32_0_1 {l : List Value} {ty : TypeId} {x0 x1 : Operand} {c0_0 : Value} (h0 : (ev l x0).cells = #[c0_0]) {c1_0 : Value} (h1 : (ev l x1).cells = #[c1_0]) : Run Tryz.prog l (.build 32 #[(0,x0),(1,x1)]) ty (.agg #[c0_0,c1_0]):=r_build (vs:=#[(0,ev l x0),(1,ev l x1)]) (by simp) fun w=>b_32_0_1 h0 h1 w
theorem places_34 (w : World) : ((#[{ name := "N", type:=32,offset:=0,embedded:=false,tag := "", pkgPath := "", byteOffset:=0 },{ name := "D", type:=32,offset:=2,embedded:=false,tag := "", pkgPath := "", byteOffset:=24 }] : Array Field).mapM fun f=>do pure (f.offset,← sizeOf f.type) : Sem (Array (Nat × Nat))).run Tryz.prog w = .ok #[(0,2),(2,2)] w:=by
  simp [Array.mapM_eq_mapM_toList,size_run cells_32]
theorem b_34_0_1 {v0 v1 : Value} {c0_0 c0_1 : Value} (h0 : v0.cells = #[c0_0,c0_1]) {c1_0 c1_1 : Value} (h1 : v1.cells = #[c1_0,c1_1])  (w : World) : (Instr.build 34 #[(0,v0),(1,v1)]).run Tryz.prog w = .ok (.agg #[c0_0,c0_1,c1_0,c1_1]) w:=run_build_struct Tryz.underlying34 zero_34 places_34 (by simp [Instr.fill,agg_cells,h0,h1]) w
theorem r_build_34_0_1 {l : List Value} {ty : TypeId} {x0 x1 : Operand} {c0_0 c0_1 : Value} (h0 : (ev l x0).cells = #[c0_0,c0_1]) {c1_0 c1_1 : Value} (h1 : (ev l x1).cells = #[c1_0,c1_1]) : Run Tryz.prog l (.build 34 #[(0,x0),(1,x1)]) ty (.agg #[c0_0,c0_1,c1_0,c1_1]):=r_build (vs:=#[(0,ev l x0),(1,ev l x1)]) (by simp) fun w=>b_34_0_1 h0 h1 w
theorem b_49_0_1_2 {v0 v1 v2 : Value} {c0_0 c0_1 c0_2 c0_3 : Value} (h0 : v0.cells = #[c0_0,c0_1,c0_2,c0_3]) {c1_0 c1_1 c1_2 c1_3 : Value} (h1 : v1.cells = #[c1_0,c1_1,c1_2,c1_3]) {c2_0 c2_1 c2_2 c2_3 : Value} (h2 : v2.cells = #[c2_0,c2_1,c2_2,c2_3])  (w : World) : (Instr.build 49 #[(0,v0),(1,v1),(2,v2)]).run Tryz.prog w = .ok (.agg #[c0_0,c0_1,c0_2,c0_3,c1_0,c1_1,c1_2,c1_3,c2_0,c2_1,c2_2,c2_3]) w:=run_build_array Tryz.underlying49 zero_49 cells_34 (by simp [Instr.fill,agg_cells,h0,h1,h2]) w
theorem r_build_49_0_1_2 {l : List Value} {ty : TypeId} {x0 x1 x2 : Operand} {c0_0 c0_1 c0_2 c0_3 : Value} (h0 : (ev l x0).cells = #[c0_0,c0_1,c0_2,c0_3]) {c1_0 c1_1 c1_2 c1_3 : Value} (h1 : (ev l x1).cells = #[c1_0,c1_1,c1_2,c1_3]) {c2_0 c2_1 c2_2 c2_3 : Value} (h2 : (ev l x2).cells = #[c2_0,c2_1,c2_2,c2_3]) : Run Tryz.prog l (.build 49 #[(0,x0),(1,x1),(2,x2)]) ty (.agg #[c0_0,c0_1,c0_2,c0_3,c1_0,c1_1,c1_2,c1_3,c2_0,c2_1,c2_2,c2_3]):=r_build (vs:=#[(0,ev l x0),(1,ev l x1),(2,ev l x2)]) (by simp) fun w=>b_49_0_1_2 h0 h1 h2 w
theorem b_59_0_1_2 {v0 v1 v2 : Value} {c0_0 c0_1 c0_2 : Value} (h0 : v0.cells = #[c0_0,c0_1,c0_2]) {c1_0 c1_1 c1_2 : Value} (h1 : v1.cells = #[c1_0,c1_1,c1_2]) {c2_0 c2_1 c2_2 : Value} (h2 : v2.cells = #[c2_0,c2_1,c2_2])  (w : World) : (Instr.build 59 #[(0,v0),(1,v1),(2,v2)]).run Tryz.prog w = .ok (.agg #[c0_0,c0_1,c0_2,c1_0,c1_1,c1_2,c2_0,c2_1,c2_2]) w:=run_build_array Tryz.underlying59 zero_59 cells_28 (by simp [Instr.fill,agg_cells,h0,h1,h2]) w
theorem r_build_59_0_1_2 {l : List Value} {ty : TypeId} {x0 x1 x2 : Operand} {c0_0 c0_1 c0_2 : Value} (h0 : (ev l x0).cells = #[c0_0,c0_1,c0_2]) {c1_0 c1_1 c1_2 : Value} (h1 : (ev l x1).cells = #[c1_0,c1_1,c1_2]) {c2_0 c2_1 c2_2 : Value} (h2 : (ev l x2).cells = #[c2_0,c2_1,c2_2]) : Run Tryz.prog l (.build 59 #[(0,x0),(1,x1),(2,x2)]) ty (.agg #[c0_0,c0_1,c0_2,c1_0,c1_1,c1_2,c2_0,c2_1,c2_2]):=r_build (vs:=#[(0,ev l x0),(1,ev l x1),(2,ev l x2)]) (by simp) fun w=>b_59_0_1_2 h0 h1 h2 w
theorem b_91_0_1_2_3_4_5 {v0 v1 v2 v3 v4 v5 : Value} {c0_0 c0_1 c0_2 : Value} (h0 : v0.cells = #[c0_0,c0_1,c0_2]) {c1_0 c1_1 c1_2 : Value} (h1 : v1.cells = #[c1_0,c1_1,c1_2]) {c2_0 c2_1 c2_2 : Value} (h2 : v2.cells = #[c2_0,c2_1,c2_2]) {c3_0 c3_1 c3_2 : Value} (h3 : v3.cells = #[c3_0,c3_1,c3_2]) {c4_0 c4_1 c4_2 : Value} (h4 : v4.cells = #[c4_0,c4_1,c4_2]) {c5_0 c5_1 c5_2 : Value} (h5 : v5.cells = #[c5_0,c5_1,c5_2])  (w : World) : (Instr.build 91 #[(0,v0),(1,v1),(2,v2),(3,v3),(4,v4),(5,v5)]).run Tryz.prog w = .ok (.agg #[c0_0,c0_1,c0_2,c1_0,c1_1,c1_2,c2_0,c2_1,c2_2,c3_0,c3_1,c3_2,c4_0,c4_1,c4_2,c5_0,c5_1,c5_2]) w:=run_build_array Tryz.underlying91 zero_91 cells_23 (by simp [Instr.fill,agg_cells,h0,h1,h2,h3,h4,h5]) w
theorem r_build_91_0_1_2_3_4_5 {l : List Value} {ty : TypeId} {x0 x1 x2 x3 x4 x5 : Operand} {c0_0 c0_1 c0_2 : Value} (h0 : (ev l x0).cells = #[c0_0,c0_1,c0_2]) {c1_0 c1_1 c1_2 : Value} (h1 : (ev l x1).cells = #[c1_0,c1_1,c1_2]) {c2_0 c2_1 c2_2 : Value} (h2 : (ev l x2).cells = #[c2_0,c2_1,c2_2]) {c3_0 c3_1 c3_2 : Value} (h3 : (ev l x3).cells = #[c3_0,c3_1,c3_2]) {c4_0 c4_1 c4_2 : Value} (h4 : (ev l x4).cells = #[c4_0,c4_1,c4_2]) {c5_0 c5_1 c5_2 : Value} (h5 : (ev l x5).cells = #[c5_0,c5_1,c5_2]) : Run Tryz.prog l (.build 91 #[(0,x0),(1,x1),(2,x2),(3,x3),(4,x4),(5,x5)]) ty (.agg #[c0_0,c0_1,c0_2,c1_0,c1_1,c1_2,c2_0,c2_1,c2_2,c3_0,c3_1,c3_2,c4_0,c4_1,c4_2,c5_0,c5_1,c5_2]):=r_build (vs:=#[(0,ev l x0),(1,ev l x1),(2,ev l x2),(3,ev l x3),(4,ev l x4),(5,ev l x5)]) (by simp) fun w=>b_91_0_1_2_3_4_5 h0 h1 h2 h3 h4 h5 w
theorem b_95_0_1_2 {v0 v1 v2 : Value} {c0_0 : Value} (h0 : v0.cells = #[c0_0]) {c1_0 : Value} (h1 : v1.cells = #[c1_0]) {c2_0 : Value} (h2 : v2.cells = #[c2_0])  (w : World) : (Instr.build 95 #[(0,v0),(1,v1),(2,v2)]).run Tryz.prog w = .ok (.agg #[c0_0,c1_0,c2_0]) w:=run_build_array Tryz.underlying95 zero_95 cells_94 (by simp [Instr.fill,agg_cells,h0,h1,h2]) w
theorem r_build_95_0_1_2 {l : List Value} {ty : TypeId} {x0 x1 x2 : Operand} {c0_0 : Value} (h0 : (ev l x0).cells = #[c0_0]) {c1_0 : Value} (h1 : (ev l x1).cells = #[c1_0]) {c2_0 : Value} (h2 : (ev l x2).cells = #[c2_0]) : Run Tryz.prog l (.build 95 #[(0,x0),(1,x1),(2,x2)]) ty (.agg #[c0_0,c1_0,c2_0]):=r_build (vs:=#[(0,ev l x0),(1,ev l x1),(2,ev l x2)]) (by simp) fun w=>b_95_0_1_2 h0 h1 h2 w
theorem b_153_0_1 {v0 v1 : Value} {c0_0 c0_1 c0_2 : Value} (h0 : v0.cells = #[c0_0,c0_1,c0_2]) {c1_0 c1_1 c1_2 : Value} (h1 : v1.cells = #[c1_0,c1_1,c1_2])  (w : World) : (Instr.build 153 #[(0,v0),(1,v1)]).run Tryz.prog w = .ok (.agg #[c0_0,c0_1,c0_2,c1_0,c1_1,c1_2]) w:=run_build_array Tryz.underlying153 zero_153 cells_28 (by simp [Instr.fill,agg_cells,h0,h1]) w
theorem r_build_153_0_1 {l : List Value} {ty : TypeId} {x0 x1 : Operand} {c0_0 c0_1 c0_2 : Value} (h0 : (ev l x0).cells = #[c0_0,c0_1,c0_2]) {c1_0 c1_1 c1_2 : Value} (h1 : (ev l x1).cells = #[c1_0,c1_1,c1_2]) : Run Tryz.prog l (.build 153 #[(0,x0),(1,x1)]) ty (.agg #[c0_0,c0_1,c0_2,c1_0,c1_1,c1_2]):=r_build (vs:=#[(0,ev l x0),(1,ev l x1)]) (by simp) fun w=>b_153_0_1 h0 h1 w
theorem b_161_0_1_2 {v0 v1 v2 : Value} {c0_0 : Value} (h0 : v0.cells = #[c0_0]) {c1_0 : Value} (h1 : v1.cells = #[c1_0]) {c2_0 : Value} (h2 : v2.cells = #[c2_0])  (w : World) : (Instr.build 161 #[(0,v0),(1,v1),(2,v2)]).run Tryz.prog w = .ok (.agg #[c0_0,c1_0,c2_0]) w:=run_build_array Tryz.underlying161 zero_161 cells_3 (by simp [Instr.fill,agg_cells,h0,h1,h2]) w
theorem r_build_161_0_1_2 {l : List Value} {ty : TypeId} {x0 x1 x2 : Operand} {c0_0 : Value} (h0 : (ev l x0).cells = #[c0_0]) {c1_0 : Value} (h1 : (ev l x1).cells = #[c1_0]) {c2_0 : Value} (h2 : (ev l x2).cells = #[c2_0]) : Run Tryz.prog l (.build 161 #[(0,x0),(1,x1),(2,x2)]) ty (.agg #[c0_0,c1_0,c2_0]):=r_build (vs:=#[(0,ev l x0),(1,ev l x1),(2,ev l x2)]) (by simp) fun w=>b_161_0_1_2 h0 h1 h2 w
theorem b_168_0_1_2 {v0 v1 v2 : Value} {c0_0 : Value} (h0 : v0.cells = #[c0_0]) {c1_0 : Value} (h1 : v1.cells = #[c1_0]) {c2_0 : Value} (h2 : v2.cells = #[c2_0])  (w : World) : (Instr.build 168 #[(0,v0),(1,v1),(2,v2)]).run Tryz.prog w = .ok (.agg #[c0_0,c1_0,c2_0]) w:=run_build_array Tryz.underlying168 zero_168 cells_167 (by simp [Instr.fill,agg_cells,h0,h1,h2]) w
theorem r_build_168_0_1_2 {l : List Value} {ty : TypeId} {x0 x1 x2 : Operand} {c0_0 : Value} (h0 : (ev l x0).cells = #[c0_0]) {c1_0 : Value} (h1 : (ev l x1).cells = #[c1_0]) {c2_0 : Value} (h2 : (ev l x2).cells = #[c2_0]) : Run Tryz.prog l (.build 168 #[(0,x0),(1,x1),(2,x2)]) ty (.agg #[c0_0,c1_0,c2_0]):=r_build (vs:=#[(0,ev l x0),(1,ev l x1),(2,ev l x2)]) (by simp) fun w=>b_168_0_1_2 h0 h1 h2 w
theorem r_field_34_0 {l : List Value} {ty : TypeId} {x : Operand} {cs us : Array Value} (hx : ev l x = .agg cs) (hv : cs.extract 0 (0 + 2) = us) : Run Tryz.prog l (.field 34 x 0) ty (.agg us):=r_fieldA Tryz.underlying34 rfl agg_32 cells_32 hx hv
theorem eqr_23 (d : Nat) {x0 y0 : Int} {x1 y1 : Int} {x2 y2 : Int} : EqR Tryz.prog (d + 2) 23 (.agg #[.int .i64 x0,.int .i64 x1,.int .i64 x2]) (.agg #[.int .i64 y0,.int .i64 y1,.int .i64 y2]) (x0 = y0 ∧ x1 = y1 ∧ x2 = y2):=(EqR.array Tryz.underlying23 cells_3 (ItmR.cons (part_one agg_3 rfl) (part_one agg_3 rfl) (EqR.int (d:=d + 0) Tryz.underlying3) (ItmR.cons (part_one agg_3 rfl) (part_one agg_3 rfl) (EqR.int (d:=d + 0) Tryz.underlying3) (ItmR.cons (part_one agg_3 rfl) (part_one agg_3 rfl) (EqR.int (d:=d + 0) Tryz.underlying3) ItmR.nil)))).iff (by simp only [and_assoc,and_true])
theorem eq_eql_23 {l : List Value} {ty T' : TypeId} {x y : Operand} {x0 y0 : Int} {x1 y1 : Int} {x2 y2 : Int} (hx : ev l x = (.agg #[.int .i64 x0,.int .i64 x1,.int .i64 x2])) (hy : ev l y = (.agg #[.int .i64 y0,.int .i64 y1,.int .i64 y2])) : Run Tryz.prog l (.binOp .eql 23 x y T') ty (.bool (decide (x0 = y0 ∧ x1 = y1 ∧ x2 = y2))):=r_eqlR (by kernel_rfl) hx hy (eqr_23 9998)
theorem eqr_28 (d : Nat) {x0 y0 : Int} {x1 y1 : Int} {x2 y2 : Int} : EqR Tryz.prog (d + 2) 28 (.agg #[.int .i64 x0,.int .i64 x1,.int .i64 x2]) (.agg #[.int .i64 y0,.int .i64 y1,.int .i64 y2]) (x0 = y0 ∧ x1 = y1 ∧ x2 = y2):=(EqR.struct Tryz.underlying28 (by kernel_rfl) (FldR.cons (by decide) (part_one agg_3 rfl) (part_one agg_3 rfl) (EqR.int (d:=d + 0) Tryz.underlying3) (FldR.cons (by decide) (part_one agg_3 rfl) (part_one agg_3 rfl) (EqR.int (d:=d + 0) Tryz.underlying3) (FldR.cons (by decide) (part_one agg_3 rfl) (part_one agg_3 rfl) (EqR.int (d:=d + 0) Tryz.underlying3) FldR.nil)))).iff (by simp only [and_assoc,and_true])
theorem eq_eql_28 {l : List Value} {ty T' : TypeId} {x y : Operand} {x0 y0 : Int} {x1 y1 : Int} {x2 y2 : Int} (hx : ev l x = (.agg #[.int .i64 x0,.int .i64 x1,.int .i64 x2])) (hy : ev l y = (.agg #[.int .i64 y0,.int .i64 y1,.int .i64 y2])) : Run Tryz.prog l (.binOp .eql 28 x y T') ty (.bool (decide (x0 = y0 ∧ x1 = y1 ∧ x2 = y2))):=r_eqlR (by kernel_rfl) hx hy (eqr_28 9998)
theorem eq_neq_28 {l : List Value} {ty T' : TypeId} {x y : Operand} {x0 y0 : Int} {x1 y1 : Int} {x2 y2 : Int} (hx : ev l x = (.agg #[.int .i64 x0,.int .i64 x1,.int .i64 x2])) (hy : ev l y = (.agg #[.int .i64 y0,.int .i64 y1,.int .i64 y2])) : Run Tryz.prog l (.binOp .neq 28 x y T') ty (.bool (decide (¬ (x0 = y0 ∧ x1 = y1 ∧ x2 = y2)))):=r_neqR (by kernel_rfl) hx hy (eqr_28 9998)
theorem eqr_32 (d : Nat) {x0 y0 : Bool} {x1 y1 : ByteArray} : EqR Tryz.prog (d + 2) 32 (.agg #[.bool x0,.string x1]) (.agg #[.bool y0,.string y1]) (x0 = y0 ∧ x1 = y1):=(EqR.struct Tryz.underlying32 (by kernel_rfl) (FldR.cons (by decide) (part_one agg_4 rfl) (part_one agg_4 rfl) (EqR.bool (d:=d + 0) Tryz.underlying4) (FldR.cons (by decide) (part_one agg_9 rfl) (part_one agg_9 rfl) (EqR.str (d:=d + 0) Tryz.underlying9) FldR.nil))).iff (by simp only [and_assoc,and_true])
theorem eq_eql_32 {l : List Value} {ty T' : TypeId} {x y : Operand} {x0 y0 : Bool} {x1 y1 : ByteArray} (hx : ev l x = (.agg #[.bool x0,.string x1])) (hy : ev l y = (.agg #[.bool y0,.string y1])) : Run Tryz.prog l (.binOp .eql 32 x y T') ty (.bool (decide (x0 = y0 ∧ x1 = y1))):=r_eqlR (by kernel_rfl) hx hy (eqr_32 9998)
theorem eq_neq_32 {l : List Value} {ty T' : TypeId} {x y : Operand} {x0 y0 : Bool} {x1 y1 : ByteArray} (hx : ev l x = (.agg #[.bool x0,.string x1])) (hy : ev l y = (.agg #[.bool y0,.string y1])) : Run Tryz.prog l (.binOp .neq 32 x y T') ty (.bool (decide (¬ (x0 = y0 ∧ x1 = y1)))):=r_neqR (by kernel_rfl) hx hy (eqr_32 9998)
theorem eqr_34 (d : Nat) {x0 y0 : Bool} {x1 y1 : ByteArray} {x2 y2 : Bool} {x3 y3 : ByteArray} : EqR Tryz.prog (d + 3) 34 (.agg #[.bool x0,.string x1,.bool x2,.string x3]) (.agg #[.bool y0,.string y1,.bool y2,.string y3]) (x0 = y0 ∧ x1 = y1 ∧ x2 = y2 ∧ x3 = y3):=(EqR.struct Tryz.underlying34 (by kernel_rfl) (FldR.cons (by decide) (part_agg agg_32 cells_32 rfl) (part_agg agg_32 cells_32 rfl) (eqr_32 (d + 0)) (FldR.cons (by decide) (part_agg agg_32 cells_32 rfl) (part_agg agg_32 cells_32 rfl) (eqr_32 (d + 0)) FldR.nil))).iff (by simp only [and_assoc,and_true])
theorem eq_eql_34 {l : List Value} {ty T' : TypeId} {x y : Operand} {x0 y0 : Bool} {x1 y1 : ByteArray} {x2 y2 : Bool} {x3 y3 : ByteArray} (hx : ev l x = (.agg #[.bool x0,.string x1,.bool x2,.string x3])) (hy : ev l y = (.agg #[.bool y0,.string y1,.bool y2,.string y3])) : Run Tryz.prog l (.binOp .eql 34 x y T') ty (.bool (decide (x0 = y0 ∧ x1 = y1 ∧ x2 = y2 ∧ x3 = y3))):=r_eqlR (by kernel_rfl) hx hy (eqr_34 9997)
theorem eq_neq_34 {l : List Value} {ty T' : TypeId} {x y : Operand} {x0 y0 : Bool} {x1 y1 : ByteArray} {x2 y2 : Bool} {x3 y3 : ByteArray} (hx : ev l x = (.agg #[.bool x0,.string x1,.bool x2,.string x3])) (hy : ev l y = (.agg #[.bool y0,.string y1,.bool y2,.string y3])) : Run Tryz.prog l (.binOp .neq 34 x y T') ty (.bool (decide (¬ (x0 = y0 ∧ x1 = y1 ∧ x2 = y2 ∧ x3 = y3)))):=r_neqR (by kernel_rfl) hx hy (eqr_34 9997)
theorem eqr_49 (d : Nat) {x0 y0 : Bool} {x1 y1 : ByteArray} {x2 y2 : Bool} {x3 y3 : ByteArray} {x4 y4 : Bool} {x5 y5 : ByteArray} {x6 y6 : Bool} {x7 y7 : ByteArray} {x8 y8 : Bool} {x9 y9 : ByteArray} {x10 y10 : Bool} {x11 y11 : ByteArray} : EqR Tryz.prog (d + 4) 49 (.agg #[.bool x0,.string x1,.bool x2,.string x3,.bool x4,.string x5,.bool x6,.string x7,.bool x8,.string x9,.bool x10,.string x11]) (.agg #[.bool y0,.string y1,.bool y2,.string y3,.bool y4,.string y5,.bool y6,.string y7,.bool y8,.string y9,.bool y10,.string y11]) (x0 = y0 ∧ x1 = y1 ∧ x2 = y2 ∧ x3 = y3 ∧ x4 = y4 ∧ x5 = y5 ∧ x6 = y6 ∧ x7 = y7 ∧ x8 = y8 ∧ x9 = y9 ∧ x10 = y10 ∧ x11 = y11):=(EqR.array Tryz.underlying49 cells_34 (ItmR.cons (part_agg agg_34 cells_34 rfl) (part_agg agg_34 cells_34 rfl) (eqr_34 (d + 0)) (ItmR.cons (part_agg agg_34 cells_34 rfl) (part_agg agg_34 cells_34 rfl) (eqr_34 (d + 0)) (ItmR.cons (part_agg agg_34 cells_34 rfl) (part_agg agg_34 cells_34 rfl) (eqr_34 (d + 0)) ItmR.nil)))).iff (by simp only [and_assoc,and_true])
theorem eq_eql_49 {l : List Value} {ty T' : TypeId} {x y : Operand} {x0 y0 : Bool} {x1 y1 : ByteArray} {x2 y2 : Bool} {x3 y3 : ByteArray} {x4 y4 : Bool} {x5 y5 : ByteArray} {x6 y6 : Bool} {x7 y7 : ByteArray} {x8 y8 : Bool} {x9 y9 : ByteArray} {x10 y10 : Bool} {x11 y11 : ByteArray} (hx : ev l x = (.agg #[.bool x0,.string x1,.bool x2,.string x3,.bool x4,.string x5,.bool x6,.string x7,.bool x8,.string x9,.bool x10,.string x11])) (hy : ev l y = (.agg #[.bool y0,.string y1,.bool y2,.string y3,.bool y4,.string y5,.bool y6,.string y7,.bool y8,.string y9,.bool y10,.string y11])) : Run Tryz.prog l (.binOp .eql 49 x y T') ty (.bool (decide (x0 = y0 ∧ x1 = y1 ∧ x2 = y2 ∧ x3 = y3 ∧ x4 = y4 ∧ x5 = y5 ∧ x6 = y6 ∧ x7 = y7 ∧ x8 = y8 ∧ x9 = y9 ∧ x10 = y10 ∧ x11 = y11))):=r_eqlR (by kernel_rfl) hx hy (eqr_49 9996)
theorem eqr_153 (d : Nat) {x0 y0 : Int} {x1 y1 : Int} {x2 y2 : Int} {x3 y3 : Int} {x4 y4 : Int} {x5 y5 : Int} : EqR Tryz.prog (d + 3) 153 (.agg #[.int .i64 x0,.int .i64 x1,.int .i64 x2,.int .i64 x3,.int .i64 x4,.int .i64 x5]) (.agg #[.int .i64 y0,.int .i64 y1,.int .i64 y2,.int .i64 y3,.int .i64 y4,.int .i64 y5]) (x0 = y0 ∧ x1 = y1 ∧ x2 = y2 ∧ x3 = y3 ∧ x4 = y4 ∧ x5 = y5):=(EqR.array Tryz.underlying153 cells_28 (ItmR.cons (part_agg agg_28 cells_28 rfl) (part_agg agg_28 cells_28 rfl) (eqr_28 (d + 0)) (ItmR.cons (part_agg agg_28 cells_28 rfl) (part_agg agg_28 cells_28 rfl) (eqr_28 (d + 0)) ItmR.nil))).iff (by simp only [and_assoc,and_true])
theorem eq_eql_153 {l : List Value} {ty T' : TypeId} {x y : Operand} {x0 y0 : Int} {x1 y1 : Int} {x2 y2 : Int} {x3 y3 : Int} {x4 y4 : Int} {x5 y5 : Int} (hx : ev l x = (.agg #[.int .i64 x0,.int .i64 x1,.int .i64 x2,.int .i64 x3,.int .i64 x4,.int .i64 x5])) (hy : ev l y = (.agg #[.int .i64 y0,.int .i64 y1,.int .i64 y2,.int .i64 y3,.int .i64 y4,.int .i64 y5])) : Run Tryz.prog l (.binOp .eql 153 x y T') ty (.bool (decide (x0 = y0 ∧ x1 = y1 ∧ x2 = y2 ∧ x3 = y3 ∧ x4 = y4 ∧ x5 = y5))):=r_eqlR (by kernel_rfl) hx hy (eqr_153 9997)
end Go.Proofs.YtmcgcnpgkkfkoaaGreatDoor
namespace Go.Proofs.YtmcgcnpgkkfkoaaGreatDoor
open Go.RowKit Go.Lith
theorem r_index_23_0 {l : List Value} {ty : TypeId} {x y : Operand} {k : IntKind} {c0 c1 c2 : Value} (hx : ev l x = .agg #[c0,c1,c2]) (hy : ev l y = .int k 0) : Run Tryz.prog l (.index 23 x y) ty c0:=r_index1 Tryz.underlying23 agg_3 cells_3 hx hy (by decide) (by decide) rfl
theorem r_index_23_1 {l : List Value} {ty : TypeId} {x y : Operand} {k : IntKind} {c0 c1 c2 : Value} (hx : ev l x = .agg #[c0,c1,c2]) (hy : ev l y = .int k 1) : Run Tryz.prog l (.index 23 x y) ty c1:=r_index1 Tryz.underlying23 agg_3 cells_3 hx hy (by decide) (by decide) rfl
theorem r_index_23_2 {l : List Value} {ty : TypeId} {x y : Operand} {k : IntKind} {c0 c1 c2 : Value} (hx : ev l x = .agg #[c0,c1,c2]) (hy : ev l y = .int k 2) : Run Tryz.prog l (.index 23 x y) ty c2:=r_index1 Tryz.underlying23 agg_3 cells_3 hx hy (by decide) (by decide) rfl
theorem r_index_59_0 {l : List Value} {ty : TypeId} {x y : Operand} {k : IntKind} {c0 c1 c2 c3 c4 c5 c6 c7 c8 : Value} (hx : ev l x = .agg #[c0,c1,c2,c3,c4,c5,c6,c7,c8]) (hy : ev l y = .int k 0) : Run Tryz.prog l (.index 59 x y) ty (.agg #[c0,c1,c2]):=r_indexA Tryz.underlying59 agg_28 cells_28 hx hy (by decide) (by decide) rfl
theorem r_index_59_1 {l : List Value} {ty : TypeId} {x y : Operand} {k : IntKind} {c0 c1 c2 c3 c4 c5 c6 c7 c8 : Value} (hx : ev l x = .agg #[c0,c1,c2,c3,c4,c5,c6,c7,c8]) (hy : ev l y = .int k 1) : Run Tryz.prog l (.index 59 x y) ty (.agg #[c3,c4,c5]):=r_indexA Tryz.underlying59 agg_28 cells_28 hx hy (by decide) (by decide) rfl
theorem r_index_59_2 {l : List Value} {ty : TypeId} {x y : Operand} {k : IntKind} {c0 c1 c2 c3 c4 c5 c6 c7 c8 : Value} (hx : ev l x = .agg #[c0,c1,c2,c3,c4,c5,c6,c7,c8]) (hy : ev l y = .int k 2) : Run Tryz.prog l (.index 59 x y) ty (.agg #[c6,c7,c8]):=r_indexA Tryz.underlying59 agg_28 cells_28 hx hy (by decide) (by decide) rfl
theorem r_index_95_0 {l : List Value} {ty : TypeId} {x y : Operand} {k : IntKind} {c0 c1 c2 : Value} (hx : ev l x = .agg #[c0,c1,c2]) (hy : ev l y = .int k 0) : Run Tryz.prog l (.index 95 x y) ty c0:=r_index1 Tryz.underlying95 agg_94 cells_94 hx hy (by decide) (by decide) rfl
theorem r_index_95_1 {l : List Value} {ty : TypeId} {x y : Operand} {k : IntKind} {c0 c1 c2 : Value} (hx : ev l x = .agg #[c0,c1,c2]) (hy : ev l y = .int k 1) : Run Tryz.prog l (.index 95 x y) ty c1:=r_index1 Tryz.underlying95 agg_94 cells_94 hx hy (by decide) (by decide) rfl
theorem r_index_95_2 {l : List Value} {ty : TypeId} {x y : Operand} {k : IntKind} {c0 c1 c2 : Value} (hx : ev l x = .agg #[c0,c1,c2]) (hy : ev l y = .int k 2) : Run Tryz.prog l (.index 95 x y) ty c2:=r_index1 Tryz.underlying95 agg_94 cells_94 hx hy (by decide) (by decide) rfl
theorem r_index_112_0 {l : List Value} {ty : TypeId} {x y : Operand} {k : IntKind} {c0 c1 c2 c3 c4 c5 : Value} (hx : ev l x = .agg #[c0,c1,c2,c3,c4,c5]) (hy : ev l y = .int k 0) : Run Tryz.prog l (.index 112 x y) ty (.agg #[c0,c1]):=r_indexA Tryz.underlying112 agg_32 cells_32 hx hy (by decide) (by decide) rfl
theorem r_index_112_1 {l : List Value} {ty : TypeId} {x y : Operand} {k : IntKind} {c0 c1 c2 c3 c4 c5 : Value} (hx : ev l x = .agg #[c0,c1,c2,c3,c4,c5]) (hy : ev l y = .int k 1) : Run Tryz.prog l (.index 112 x y) ty (.agg #[c2,c3]):=r_indexA Tryz.underlying112 agg_32 cells_32 hx hy (by decide) (by decide) rfl
theorem r_index_112_2 {l : List Value} {ty : TypeId} {x y : Operand} {k : IntKind} {c0 c1 c2 c3 c4 c5 : Value} (hx : ev l x = .agg #[c0,c1,c2,c3,c4,c5]) (hy : ev l y = .int k 2) : Run Tryz.prog l (.index 112 x y) ty (.agg #[c4,c5]):=r_indexA Tryz.underlying112 agg_32 cells_32 hx hy (by decide) (by decide) rfl
theorem r_index_161_0 {l : List Value} {ty : TypeId} {x y : Operand} {k : IntKind} {c0 c1 c2 : Value} (hx : ev l x = .agg #[c0,c1,c2]) (hy : ev l y = .int k 0) : Run Tryz.prog l (.index 161 x y) ty c0:=r_index1 Tryz.underlying161 agg_3 cells_3 hx hy (by decide) (by decide) rfl
theorem r_index_161_1 {l : List Value} {ty : TypeId} {x y : Operand} {k : IntKind} {c0 c1 c2 : Value} (hx : ev l x = .agg #[c0,c1,c2]) (hy : ev l y = .int k 1) : Run Tryz.prog l (.index 161 x y) ty c1:=r_index1 Tryz.underlying161 agg_3 cells_3 hx hy (by decide) (by decide) rfl
theorem r_index_161_2 {l : List Value} {ty : TypeId} {x y : Operand} {k : IntKind} {c0 c1 c2 : Value} (hx : ev l x = .agg #[c0,c1,c2]) (hy : ev l y = .int k 2) : Run Tryz.prog l (.index 161 x y) ty c2:=r_index1 Tryz.underlying161 agg_3 cells_3 hx hy (by decide) (by decide) rfl
theorem r_index_168_0 {l : List Value} {ty : TypeId} {x y : Operand} {k : IntKind} {c0 c1 c2 : Value} (hx : ev l x = .agg #[c0,c1,c2]) (hy : ev l y = .int k 0) : Run Tryz.prog l (.index 168 x y) ty c0:=r_index1 Tryz.underlying168 agg_167 cells_167 hx hy (by decide) (by decide) rfl
theorem r_index_168_1 {l : List Value} {ty : TypeId} {x y : Operand} {k : IntKind} {c0 c1 c2 : Value} (hx : ev l x = .agg #[c0,c1,c2]) (hy : ev l y = .int k 1) : Run Tryz.prog l (.index 168 x y) ty c1:=r_index1 Tryz.underlying168 agg_167 cells_167 hx hy (by decide) (by decide) rfl
theorem r_index_168_2 {l : List Value} {ty : TypeId} {x y : Operand} {k : IntKind} {c0 c1 c2 : Value} (hx : ev l x = .agg #[c0,c1,c2]) (hy : ev l y = .int k 2) : Run Tryz.prog l (.index 168 x y) ty c2:=r_index1 Tryz.underlying168 agg_167 cells_167 hx hy (by decide) (by decide) rfl
theorem n_bs_22_3 {ds : List Deferred} {l : List Value} {ty : TypeId} {ops : Array Oper} {Q : Exit → Act → World → Prop} {rest : List Oper} {d : Nat} {pos : String} {after : Array Edge} {w : World} {x0 x1 x2 : Operand} {c0_0 c1_0 c2_0 : Value} (h0 : (ev l x0).cells = #[c0_0]) (h1 : (ev l x1).cells = #[c1_0]) (h2 : (ev l x2).cells = #[c2_0]) (h : ∀ w' g,Ext w w' → w.heap.size ≤ g → Blk w' g [c0_0,c1_0,c2_0] 3 → wpList Tryz.prog ops Q rest (Fr (l.set d (.slice (some ⟨g,0,none⟩) 3 3)) ds) w') : wpList Tryz.prog ops Q (Oper.mk (some d) (.buildSlice 22 3 #[(0,x0),(1,x1),(2,x2)]) ty pos after none :: rest) (Fr l ds) w :=
  n_buildN (vs:=#[(0,ev l x0),(1,ev l x1),(2,ev l x2)]) (base:=#[.int .i64 0,.int .i64 0,.int .i64 0]) (c:=1) (z:=(.int .i64 0)) Tryz.underlying22 (by kernel_rfl) (by decide) (by decide) (by kernel_rfl) (by simp) (by simp [Instr.fill,h0,h1,h2]) h
theorem n_bs_24_1 {ds : List Deferred} {l : List Value} {ty : TypeId} {ops : Array Oper} {Q : Exit → Act → World → Prop} {rest : List Oper} {d : Nat} {pos : String} {after : Array Edge} {w : World} {x0 : Operand} {c0_0 c0_1 c0_2 c0_3 c0_4 c0_5 c0_6 c0_7 c0_8 : Value} (h0 : (ev l x0).cells = #[c0_0,c0_1,c0_2,c0_3,c0_4,c0_5,c0_6,c0_7,c0_8]) (h : ∀ w' g,Ext w w' → w.heap.size ≤ g → Blk w' g [c0_0,c0_1,c0_2,c0_3,c0_4,c0_5,c0_6,c0_7,c0_8] 59 → wpList Tryz.prog ops Q rest (Fr (l.set d (.slice (some ⟨g,0,none⟩) 1 1)) ds) w') : wpList Tryz.prog ops Q (Oper.mk (some d) (.buildSlice 24 1 #[(0,x0)]) ty pos after none :: rest) (Fr l ds) w :=
  n_buildN (vs:=#[(0,ev l x0)]) (base:=#[.int .i64 0,.int .i64 0,.int .i64 0,.int .i64 0,.int .i64 0,.int .i64 0,.int .i64 0,.int .i64 0,.int .i64 0]) (c:=9) (z:=(.agg #[.int .i64 0,.int .i64 0,.int .i64 0,.int .i64 0,.int .i64 0,.int .i64 0,.int .i64 0,.int .i64 0,.int .i64 0])) Tryz.underlying24 (by kernel_rfl) (by decide) (by decide) (by kernel_rfl) (by simp) (by simp [Instr.fill,h0]) h
theorem n_bs_24_2 {ds : List Deferred} {l : List Value} {ty : TypeId} {ops : Array Oper} {Q : Exit → Act → World → Prop} {rest : List Oper} {d : Nat} {pos : String} {after : Array Edge} {w : World} {x0 x1 : Operand} {c0_0 c0_1 c0_2 c0_3 c0_4 c0_5 c0_6 c0_7 c0_8 c1_0 c1_1 c1_2 c1_3 c1_4 c1_5 c1_6 c1_7 c1_8 : Value} (h0 : (ev l x0).cells = #[c0_0,c0_1,c0_2,c0_3,c0_4,c0_5,c0_6,c0_7,c0_8]) (h1 : (ev l x1).cells = #[c1_0,c1_1,c1_2,c1_3,c1_4,c1_5,c1_6,c1_7,c1_8]) (h : ∀ w' g,Ext w w' → w.heap.size ≤ g → Blk w' g [c0_0,c0_1,c0_2,c0_3,c0_4,c0_5,c0_6,c0_7,c0_8,c1_0,c1_1,c1_2,c1_3,c1_4,c1_5,c1_6,c1_7,c1_8] 59 → wpList Tryz.prog ops Q rest (Fr (l.set d (.slice (some ⟨g,0,none⟩) 2 2)) ds) w') : wpList Tryz.prog ops Q (Oper.mk (some d) (.buildSlice 24 2 #[(0,x0),(1,x1)]) ty pos after none :: rest) (Fr l ds) w :=
  n_buildN (vs:=#[(0,ev l x0),(1,ev l x1)]) (base:=#[.int .i64 0,.int .i64 0,.int .i64 0,.int .i64 0,.int .i64 0,.int .i64 0,.int .i64 0,.int .i64 0,.int .i64 0,.int .i64 0,.int .i64 0,.int .i64 0,.int .i64 0,.int .i64 0,.int .i64 0,.int .i64 0,.int .i64 0,.int .i64 0]) (c:=9) (z:=(.agg #[.int .i64 0,.int .i64 0,.int .i64 0,.int .i64 0,.int .i64 0,.int .i64 0,.int .i64 0,.int .i64 0,.int .i64 0])) Tryz.underlying24 (by kernel_rfl) (by decide) (by decide) (by kernel_rfl) (by simp) (by simp [Instr.fill,h0,h1]) h
theorem n_bs_24_4 {ds : List Deferred} {l : List Value} {ty : TypeId} {ops : Array Oper} {Q : Exit → Act → World → Prop} {rest : List Oper} {d : Nat} {pos : String} {after : Array Edge} {w : World} {x0 x1 x2 x3 : Operand} {c0_0 c0_1 c0_2 c0_3 c0_4 c0_5 c0_6 c0_7 c0_8 c1_0 c1_1 c1_2 c1_3 c1_4 c1_5 c1_6 c1_7 c1_8 c2_0 c2_1 c2_2 c2_3 c2_4 c2_5 c2_6 c2_7 c2_8 c3_0 c3_1 c3_2 c3_3 c3_4 c3_5 c3_6 c3_7 c3_8 : Value} (h0 : (ev l x0).cells = #[c0_0,c0_1,c0_2,c0_3,c0_4,c0_5,c0_6,c0_7,c0_8]) (h1 : (ev l x1).cells = #[c1_0,c1_1,c1_2,c1_3,c1_4,c1_5,c1_6,c1_7,c1_8]) (h2 : (ev l x2).cells = #[c2_0,c2_1,c2_2,c2_3,c2_4,c2_5,c2_6,c2_7,c2_8]) (h3 : (ev l x3).cells = #[c3_0,c3_1,c3_2,c3_3,c3_4,c3_5,c3_6,c3_7,c3_8]) (h : ∀ w' g,Ext w w' → w.heap.size ≤ g → Blk w' g [c0_0,c0_1,c0_2,c0_3,c0_4,c0_5,c0_6,c0_7,c0_8,c1_0,c1_1,c1_2,c1_3,c1_4,c1_5,c1_6,c1_7,c1_8,c2_0,c2_1,c2_2,c2_3,c2_4,c2_5,c2_6,c2_7,c2_8,c3_0,c3_1,c3_2,c3_3,c3_4,c3_5,c3_6,c3_7,c3_8] 59 → wpList Tryz.prog ops Q rest (Fr (l.set d (.slice (some ⟨g,0,none⟩) 4 4)) ds) w') : wpList Tryz.prog ops Q (Oper.mk (some d) (.buildSlice 24 4 #[(0,x0),(1,x1),(2,x2),(3,x3)]) ty pos after none :: rest) (Fr l ds) w :=
  n_buildN (vs:=#[(0,ev l x0),(1,ev l x1),(2,ev l x2),(3,ev l x3)]) (base:=#[.int .i64 0,.int .i64 0,.int .i64 0,.int .i64 0,.int .i64 0,.int .i64 0,.int .i64 0,.int .i64 0,.int .i64 0,.int .i64 0,.int .i64 0,.int .i64 0,.int .i64 0,.int .i64 0,.int .i64 0,.int .i64 0,.int .i64 0,.int .i64 0,.int .i64 0,.int .i64 0,.int .i64 0,.int .i64 0,.int .i64 0,.int .i64 0,.int .i64 0,.int .i64 0,.int .i64 0,.int .i64 0,.int .i64 0,.int .i64 0,.int .i64 0,.int .i64 0,.int .i64 0,.int .i64 0,.int .i64 0,.int .i64 0]) (c:=9) (z:=(.agg #[.int .i64 0,.int .i64 0,.int .i64 0,.int .i64 0,.int .i64 0,.int .i64 0,.int .i64 0,.int .i64 0,.int .i64 0])) Tryz.underlying24 (by kernel_rfl) (by decide) (by decide) (by kernel_rfl) (by simp) (by simp [Instr.fill,h0,h1,h2,h3]) h
theorem n_bs_118_1 {ds : List Deferred} {l : List Value} {ty : TypeId} {ops : Array Oper} {Q : Exit → Act → World → Prop} {rest : List Oper} {d : Nat} {pos : String} {after : Array Edge} {w : World} {x0 : Operand} {c0_0 c0_1 c0_2 : Value} (h0 : (ev l x0).cells = #[c0_0,c0_1,c0_2]) (h : ∀ w' g,Ext w w' → w.heap.size ≤ g → Blk w' g [c0_0,c0_1,c0_2] 28 → wpList Tryz.prog ops Q rest (Fr (l.set d (.slice (some ⟨g,0,none⟩) 1 1)) ds) w') : wpList Tryz.prog ops Q (Oper.mk (some d) (.buildSlice 118 1 #[(0,x0)]) ty pos after none :: rest) (Fr l ds) w :=
  n_buildN (vs:=#[(0,ev l x0)]) (base:=#[.int .i64 0,.int .i64 0,.int .i64 0]) (c:=3) (z:=(.agg #[.int .i64 0,.int .i64 0,.int .i64 0])) Tryz.underlying118 (by kernel_rfl) (by decide) (by decide) (by kernel_rfl) (by simp) (by simp [Instr.fill,h0]) h
theorem n_bs_118_4 {ds : List Deferred} {l : List Value} {ty : TypeId} {ops : Array Oper} {Q : Exit → Act → World → Prop} {rest : List Oper} {d : Nat} {pos : String} {after : Array Edge} {w : World} {x0 x1 x2 x3 : Operand} {c0_0 c0_1 c0_2 c1_0 c1_1 c1_2 c2_0 c2_1 c2_2 c3_0 c3_1 c3_2 : Value} (h0 : (ev l x0).cells = #[c0_0,c0_1,c0_2]) (h1 : (ev l x1).cells = #[c1_0,c1_1,c1_2]) (h2 : (ev l x2).cells = #[c2_0,c2_1,c2_2]) (h3 : (ev l x3).cells = #[c3_0,c3_1,c3_2]) (h : ∀ w' g,Ext w w' → w.heap.size ≤ g → Blk w' g [c0_0,c0_1,c0_2,c1_0,c1_1,c1_2,c2_0,c2_1,c2_2,c3_0,c3_1,c3_2] 28 → wpList Tryz.prog ops Q rest (Fr (l.set d (.slice (some ⟨g,0,none⟩) 4 4)) ds) w') : wpList Tryz.prog ops Q (Oper.mk (some d) (.buildSlice 118 4 #[(0,x0),(1,x1),(2,x2),(3,x3)]) ty pos after none :: rest) (Fr l ds) w :=
  n_buildN (vs:=#[(0,ev l x0),(1,ev l x1),(2,ev l x2),(3,ev l x3)]) (base:=#[.int .i64 0,.int .i64 0,.int .i64 0,.int .i64 0,.int .i64 0,.int .i64 0,.int .i64 0,.int .i64 0,.int .i64 0,.int .i64 0,.int .i64 0,.int .i64 0]) (c:=3) (z:=(.agg #[.int .i64 0,.int .i64 0,.int .i64 0])) Tryz.underlying118 (by kernel_rfl) (by decide) (by decide) (by kernel_rfl) (by simp) (by simp [Instr.fill,h0,h1,h2,h3]) h
theorem n_bs_150_1 {ds : List Deferred} {l : List Value} {ty : TypeId} {ops : Array Oper} {Q : Exit → Act → World → Prop} {rest : List Oper} {d : Nat} {pos : String} {after : Array Edge} {w : World} {x0 : Operand} {c0_0 c0_1 c0_2 c0_3 c0_4 c0_5 : Value} (h0 : (ev l x0).cells = #[c0_0,c0_1,c0_2,c0_3,c0_4,c0_5]) (h : ∀ w' g,Ext w w' → w.heap.size ≤ g → Blk w' g [c0_0,c0_1,c0_2,c0_3,c0_4,c0_5] 153 → wpList Tryz.prog ops Q rest (Fr (l.set d (.slice (some ⟨g,0,none⟩) 1 1)) ds) w') : wpList Tryz.prog ops Q (Oper.mk (some d) (.buildSlice 150 1 #[(0,x0)]) ty pos after none :: rest) (Fr l ds) w :=
  n_buildN (vs:=#[(0,ev l x0)]) (base:=#[.int .i64 0,.int .i64 0,.int .i64 0,.int .i64 0,.int .i64 0,.int .i64 0]) (c:=6) (z:=(.agg #[.int .i64 0,.int .i64 0,.int .i64 0,.int .i64 0,.int .i64 0,.int .i64 0])) Tryz.underlying150 (by kernel_rfl) (by decide) (by decide) (by kernel_rfl) (by simp) (by simp [Instr.fill,h0]) h
theorem n_bs_150_3 {ds : List Deferred} {l : List Value} {ty : TypeId} {ops : Array Oper} {Q : Exit → Act → World → Prop} {rest : List Oper} {d : Nat} {pos : String} {after : Array Edge} {w : World} {x0 x1 x2 : Operand} {c0_0 c0_1 c0_2 c0_3 c0_4 c0_5 c1_0 c1_1 c1_2 c1_3 c1_4 c1_5 c2_0 c2_1 c2_2 c2_3 c2_4 c2_5 : Value} (h0 : (ev l x0).cells = #[c0_0,c0_1,c0_2,c0_3,c0_4,c0_5]) (h1 : (ev l x1).cells = #[c1_0,c1_1,c1_2,c1_3,c1_4,c1_5]) (h2 : (ev l x2).cells = #[c2_0,c2_1,c2_2,c2_3,c2_4,c2_5]) (h : ∀ w' g,Ext w w' → w.heap.size ≤ g → Blk w' g [c0_0,c0_1,c0_2,c0_3,c0_4,c0_5,c1_0,c1_1,c1_2,c1_3,c1_4,c1_5,c2_0,c2_1,c2_2,c2_3,c2_4,c2_5] 153 → wpList Tryz.prog ops Q rest (Fr (l.set d (.slice (some ⟨g,0,none⟩) 3 3)) ds) w') : wpList Tryz.prog ops Q (Oper.mk (some d) (.buildSlice 150 3 #[(0,x0),(1,x1),(2,x2)]) ty pos after none :: rest) (Fr l ds) w :=
  n_buildN (vs:=#[(0,ev l x0),(1,ev l x1),(2,ev l x2)]) (base:=#[.int .i64 0,.int .i64 0,.int .i64 0,.int .i64 0,.int .i64 0,.int .i64 0,.int .i64 0,.int .i64 0,.int .i64 0,.int .i64 0,.int .i64 0,.int .i64 0,.int .i64 0,.int .i64 0,.int .i64 0,.int .i64 0,.int .i64 0,.int .i64 0]) (c:=6) (z:=(.agg #[.int .i64 0,.int .i64 0,.int .i64 0,.int .i64 0,.int .i64 0,.int .i64 0])) Tryz.underlying150 (by kernel_rfl) (by decide) (by decide) (by kernel_rfl) (by simp) (by simp [Instr.fill,h0,h1,h2]) h
theorem n_bs_156_3 {ds : List Deferred} {l : List Value} {ty : TypeId} {ops : Array Oper} {Q : Exit → Act → World → Prop} {rest : List Oper} {d : Nat} {pos : String} {after : Array Edge} {w : World} {x0 x1 x2 : Operand} {c0_0 c0_1 c1_0 c1_1 c2_0 c2_1 : Value} (h0 : (ev l x0).cells = #[c0_0,c0_1]) (h1 : (ev l x1).cells = #[c1_0,c1_1]) (h2 : (ev l x2).cells = #[c2_0,c2_1]) (h : ∀ w' g,Ext w w' → w.heap.size ≤ g → Blk w' g [c0_0,c0_1,c1_0,c1_1,c2_0,c2_1] 32 → wpList Tryz.prog ops Q rest (Fr (l.set d (.slice (some ⟨g,0,none⟩) 3 3)) ds) w') : wpList Tryz.prog ops Q (Oper.mk (some d) (.buildSlice 156 3 #[(0,x0),(1,x1),(2,x2)]) ty pos after none :: rest) (Fr l ds) w :=
  n_buildN (vs:=#[(0,ev l x0),(1,ev l x1),(2,ev l x2)]) (base:=#[.bool false,.string ⟨#[]⟩,.bool false,.string ⟨#[]⟩,.bool false,.string ⟨#[]⟩]) (c:=2) (z:=(.agg #[.bool false,.string ⟨#[]⟩])) Tryz.underlying156 (by kernel_rfl) (by decide) (by decide) (by kernel_rfl) (by simp) (by simp [Instr.fill,h0,h1,h2]) h
end Go.Proofs.YtmcgcnpgkkfkoaaGreatDoor
namespace Go.Proofs.YtmcgcnpgkkfkoaaGreatDoor
open Go.RowKit Go.Lith
set_option maxRecDepth 100000
attribute [local irreducible] wpList wpQuiet wpMix wpMixH wpTree Code.wp
theorem quad_c {a b c d : P3} (w : World) : Does Tryz.prog 119 [pt a,pt b,pt c,pt d] w (TS 59 (quadT a b c d) w):=by
 refine ⟨en_119,?_⟩
 have m:=Mem.refl w
 go_enter Tryz.func119,Tryz.ntmps119
 refine c_seq fun K1 k1=>wp_region_lit (mboxA m rfl ?_)
 clear m; intro g1 u m
 simp only [ev,zD,zE,zF,zG]
 refine mboxA m rfl ?_
 clear m; intro g2 u m
 simp only [ev,zD,zE,zF,zG]
 refine mboxA m rfl ?_
 clear m; intro g3 u m
 simp only [ev,zD,zE,zF,zG]
 refine mboxA m rfl ?_
 clear m; intro g4 u m
 refine n_val (r_assign) (n_nil (k1 _ _ ?_))
 refine c_seq fun K2 k2=>wp_region_lit ?_
 simp only [ev,zD,zE,zF,zG]
 refine n_load rfl ((m.b 3 rfl).full agg_28 cells_28) ?_
 simp only [ev,zD,zE,zF,zG]
 refine n_load rfl ((m.b 2 rfl).full agg_28 cells_28) ?_
 simp only [ev,zD,zE,zF,zG]
 refine n_load rfl ((m.b 1 rfl).full agg_28 cells_28) ?_
 simp only [ev,zD,zE,zF,zG]
 refine n_val (r_build_59_0_1_2 rfl rfl rfl) ?_
 simp only [ev,zD,zE,zF,zG]
 refine n_load rfl ((m.b 3 rfl).full agg_28 cells_28) ?_
 simp only [ev,zD,zE,zF,zG]
 refine n_load rfl ((m.b 1 rfl).full agg_28 cells_28) ?_
 simp only [ev,zD,zE,zF,zG]
 refine n_load rfl ((m.b 0 rfl).full agg_28 cells_28) ?_
 simp only [ev,zD,zE,zF,zG]
 refine n_val (r_build_59_0_1_2 rfl rfl rfl) ?_
 simp only [ev,zD,zE,zF,zG]
 refine n_bs_24_2 rfl rfl ?_
 intro u g5 e hg hB; replace m:=m.newB e hg hB; clear e hg hB
 refine n_val (r_assign) (n_nil (k2 _ _ ?_))
 refine wp_ret ?_
 simp only [ev,zD,zE,zF,zG]
 try simp only [Exit.inBlock,Exit.then,if_true]
 refine fin1 rfl rfl ?_
 try simp only [zD,zE]
 exact ⟨_,rfl,m.ext,⟨_,_,_,rfl,rfl,m.bo 0 rfl rfl (leT rfl)⟩⟩
end Go.Proofs.YtmcgcnpgkkfkoaaGreatDoor
namespace Go.Proofs.YtmcgcnpgkkfkoaaGreatDoor
open Go.RowKit Go.Lith
set_option maxRecDepth 100000
attribute [local irreducible] wpList wpQuiet wpMix wpMixH wpTree Code.wp
end Go.Proofs.YtmcgcnpgkkfkoaaGreatDoor
namespace Go.Lith
open Go.RowKit
abbrev i64v (x : Nat) : Value:=.int .i64 (x : Int)
structure DigAt (w : World) (b : Nat) (A : Option Addr) (n cap : Nat) (xs : List Nat) : Prop where
  eq : n = xs.length
  row : ∀ (i x : Nat),xs[i]? = some x → ∃ a,A = some a ∧ a.block < b ∧ w.cell? (a.add i) = some (.int .i64 (x : Int))
  le : xs.length ≤ cap
  cap : cap ≤ 9223372036854775807
  len : xs.length ≤ 17592186044416
  digs : Digs 65536 xs
structure Base (w : World) (b : Nat) : Prop where
  h : b ≤ w.heap.size
theorem Base.ext {w w' : World} {b : Nat} (h : Base w b) (hE : Ext w w') : Base w' b:=⟨Nat.le_trans h.h hE.size⟩
theorem Base.chg {w w' : World} {b g : Nat} (h : Base w b) (hC : Chg w w' g) (_ : True:=trivial) : Base w' b:=⟨by rw [hC.size]; exact h.h⟩
theorem Base.grew {w w' : World} {b base : Nat} (h : Base w b) (hG : Grew w w' base) (_ : True:=trivial) : Base w' b:=⟨Nat.le_trans h.h hG.size⟩
theorem Ext.base {w0 w : World} (h : Ext w0 w) : ∃ b,b = w.heap.size ∧ w0.heap.size ≤ b:=⟨_,rfl,h.size⟩
theorem Base.of {w0 w : World} {b : Nat} (_ : Ext w0 w) (e : b = w.heap.size) : Base w b:=⟨Nat.le_of_eq e⟩
theorem Owns.nil_of {w0 w : World} (_ : Ext w0 w) (base : Nat) (E : TypeId) (c : Nat) : Owns w base E c (.slice none 0 0) 0 []:=Owns.nil w base E c
theorem Blk.row0 {w : World} {g : Nat} {cs : List Value} {t : TypeId} (h : Blk w g cs t) : Row w ⟨g,0,none⟩ cs:=h.row 0
section
variable {w w' : World} {b : Nat} {A : Option Addr} {n cap : Nat} {xs : List Nat}
theorem DigAt.ext (h : DigAt w b A n cap xs) (hE : Ext w w') : DigAt w' b A n cap xs :=
  ⟨h.eq,fun i x hi=>let ⟨a,e,hb,hc⟩:=h.row i x hi; ⟨a,e,hb,hE.cell hc⟩,h.le,h.cap,h.len,h.digs⟩
theorem DigAt.mono {b' : Nat} (h : DigAt w b A n cap xs) (hb : b ≤ b') : DigAt w b' A n cap xs :=
  ⟨h.eq,fun i x hi=>let ⟨a,e,h1,hc⟩:=h.row i x hi; ⟨a,e,by omega,hc⟩,h.le,h.cap,h.len,h.digs⟩
theorem DigAt.here (h : DigAt w b A n cap xs) : DigAt w w.heap.size A n cap xs :=
  ⟨h.eq,fun i x hi=>by
    obtain ⟨a,e,_,hc⟩:=h.row i x hi
    have:=World.block_lt_of_cell? _ _ hc
    rw [add_block] at this
    exact ⟨a,e,this,hc⟩,h.le,h.cap,h.len,h.digs⟩
theorem DigAt.chg {g : Nat} (h : DigAt w b A n cap xs) (hC : Chg w w' g) (hb : b ≤ g) : DigAt w' b A n cap xs :=
  ⟨h.eq,fun i x hi=>by
    obtain ⟨a,e,h1,hc⟩:=h.row i x hi
    exact ⟨a,e,h1,(hC.cell (by rw [add_block]; omega)).trans hc⟩,h.le,h.cap,h.len,h.digs⟩
theorem DigAt.grew {base : Nat} (h : DigAt w b A n cap xs) (hG : Grew w w' base) (hb : b ≤ base) : DigAt w' b A n cap xs :=
  ⟨h.eq,fun i x hi=>by
    obtain ⟨a,e,h1,hc⟩:=h.row i x hi
    exact ⟨a,e,h1,(World.cell?_of_block (hG.block _ (by rw [add_block]; omega))).trans hc⟩,h.le,h.cap,h.len,h.digs⟩
theorem DigAt.take (h : DigAt w b A n cap xs) (k : Nat) : DigAt w b A (xs.take k).length cap (xs.take k) :=
  ⟨rfl,fun i x hi=>h.row i x (by rw [List.getElem?_take] at hi; split at hi; exact hi; cases hi),Nat.le_trans (by simp; omega) h.le,h.cap,Nat.le_trans (by simp; omega) h.len,h.digs.take k⟩
theorem DigAt.as (h : DigAt w b A n cap xs) {ys : List Nat} (e : xs = ys) : DigAt w b A n cap ys:=e ▸ h
theorem DigAt.get (h : DigAt w b A n cap xs) {i : Nat} (hi : i < xs.length) : ∃ a,A = some a ∧ w.cell? (a.add i) = some (.int .i64 ((xs[i] : Nat) : Int)) ∧ xs[i] < 65536:=by
  obtain ⟨a,e,_,hc⟩:=h.row i xs[i] (List.getElem?_eq_getElem hi)
  exact ⟨a,e,hc,h.digs _ (List.getElem_mem hi)⟩
theorem DigAt.at {a : Addr} (h : DigAt w b (some a) n cap xs) {i : Nat} (hi : i < xs.length) : w.cell? (a.add i) = some (.int .i64 ((xs[i] : Nat) : Int)):=by
  obtain ⟨a',e,hc,_⟩:=h.get hi
  cases e
  exact hc
theorem DigAt.lt (h : DigAt w b A n cap xs) {i : Nat} (hi : i < xs.length) : xs[i] < 65536:=h.digs _ (List.getElem_mem hi)
theorem DigAt.nil (w : World) (b : Nat) : DigAt w b none 0 0 []:=⟨rfl,fun i x hi=>by simp at hi,Nat.le_refl _,by omega,by simp,fun x hx=>by cases hx⟩
theorem DigAt.of_blk {g : Nat} {os : List Nat} {t : TypeId} (h : Blk w g (os.map i64v) t) (hd : Digs 65536 os) (hn : n = os.length) (hl : n ≤ 17592186044416) : DigAt w w.heap.size (some ⟨g,0,none⟩) n n os :=
  ⟨hn,fun i x hi=>⟨_,rfl,h.lt,by rw [addr_add_mk,Nat.zero_add]; exact h.cell (by simp [hi])⟩,by omega,by omega,by omega,hd⟩
theorem DigAt.of_owns {base : Nat} {v : Value} {E : TypeId} (h : Owns w base E 1 v n (xs.map i64v)) (hn : n = xs.length) (hd : Digs 65536 xs) (hl : n ≤ 17592186044416) : ∃ A c,v = .slice A n c ∧ DigAt w w.heap.size A n c xs ∧ ∀ a,A = some a → base ≤ a.block:=by
  rcases h.row with ⟨rfl,rfl,hx⟩ | ⟨g,cap,rfl,hb,h1,h2,hg,hr⟩
  · obtain rfl : xs = []:=by simpa using hx
    exact ⟨none,0,rfl,DigAt.nil _ _,fun _ e=>by cases e⟩
  · exact ⟨_,cap,rfl,⟨hn,fun i x hi=>⟨_,rfl,hg,hr i _ (by simp [hi])⟩,by omega,h2,by omega,hd⟩,fun a e=>by cases e; exact hb⟩
theorem DigAt.rows (h : DigAt w b A n cap xs) : ∀ j u,(xs.map i64v)[j]? = some u → ∃ a,A = some a ∧ w.cell? (a.add j) = some u:=fun j u hj=>by
  rw [List.getElem?_map] at hj
  cases hx : xs[j]? with
  | none=>rw [hx] at hj; cases hj
  | some x =>
    rw [hx] at hj
    cases hj
    obtain ⟨a,e,_,hc⟩:=h.row j x hx
    exact ⟨a,e,hc⟩
theorem Hold.dig {S : World → Prop} (h : DigAt w b A n cap xs) (k : Hold w S) : Hold w (fun w=>DigAt w b A n cap xs ∧ S w):=⟨h,k⟩
end
theorem Owns.snoc {w : World} {b : Nat} {E : TypeId} {v : Value} {os : List Nat} {x : Nat} (h : Owns w b E 1 v (os.length + 1) (os.map i64v ++ [.int .i64 (x : Int)])) : Owns w b E 1 v (os ++ [x]).length ((os ++ [x]).map i64v):=by simpa using h
def DigRes (n : Nat) (v : Value) (w : World) : Prop:=∃ A cap,v = .slice A (digs 65536 n).length cap ∧ DigAt w w.heap.size A (digs 65536 n).length cap (digs 65536 n)
structure DigX (w : World) (g : Nat) (A : Option Addr) (n cap : Nat) (xs : List Nat) : Prop where
  dig : DigAt w w.heap.size A n cap xs
  ne : ∀ a,A = some a → a.block ≠ g
theorem DigX.ext {w w' : World} {g n cap : Nat} {A : Option Addr} {xs : List Nat} (h : DigX w g A n cap xs) (hE : Ext w w') : DigX w' g A n cap xs:=⟨(h.dig.ext hE).here,h.ne⟩
theorem DigX.chg {w w' : World} {g g' n cap : Nat} {A : Option Addr} {xs : List Nat} (h : DigX w g A n cap xs) (hC : Chg w w' g') (e : g' = g) : DigX w' g A n cap xs:=by
  subst e
  refine ⟨⟨h.dig.eq,fun i x hi=>?_,h.dig.le,h.dig.cap,h.dig.len,h.dig.digs⟩,h.ne⟩
  obtain ⟨a,ea,hb,hc⟩:=h.dig.row i x hi
  exact ⟨a,ea,by rw [hC.size]; exact hb,(hC.cell (by rw [add_block]; exact h.ne a ea)).trans hc⟩
theorem DigX.of_trim {w : World} {b g n cap : Nat} {A : Option Addr} {xs ys : List Nat} (h : DigAt w b A n cap xs) (e : trim xs = ys) (hne : ∀ a,A = some a → a.block ≠ g) : DigX w g A ys.length cap ys:=by
  refine ⟨?_,hne⟩
  have:=(h.take (trim xs).length).here
  rw [← trim_eq_take,e] at this
  exact this
theorem DigRes.of_trim {w : World} {b : Nat} {A : Option Addr} {xs : List Nat} {k cap n : Nat} (h : DigAt w b A k cap xs) (hv : val 65536 xs = n) : DigRes n (.slice A (trim xs).length cap) w:=by
  have e : trim xs = digs 65536 n:=trim_eq_digs (by omega) h.digs hv
  refine ⟨A,cap,by rw [e],?_⟩
  rw [← e]
  have:=(h.take (trim xs).length).here
  rwa [← trim_eq_take] at this
theorem DigRes.self {w : World} {b : Nat} {A : Option Addr} {xs : List Nat} {k cap : Nat} (h : DigAt w b A k cap xs) (t : Trimmed xs) : DigRes (val 65536 xs) (.slice A k cap) w:=by
  have e : xs = digs 65536 (val 65536 xs):=by rw [← trim_eq_digs (by omega) h.digs rfl,t]
  refine ⟨A,cap,by rw [h.eq,← e],?_⟩
  rw [← e,← h.eq]
  exact h.here
theorem Blk.digit {w : World} {g : Nat} {os : List Nat} {t : TypeId} (h : Blk w g (os.map i64v) t) {i : Nat} (hi : i < os.length) : w.cell? ⟨g,i,none⟩ = some (.int .i64 ((os[i] : Nat) : Int)) :=
  h.cell (by simp [hi])
theorem quo_i64' {m n : Nat} (h : m < 9223372036854775808) : IntKind.i64.wrap ((m : Int).tdiv (n : Int)) = ((m / n : Nat) : Int):=quo_i64 h
theorem Owns.grew {w w' : World} {base b' : Nat} {E : TypeId} {c n : Nat} {v : Value} {xs : List Value} (h : Owns w base E c v n xs) (hG : Grew w w' b') (hb : ∀ a m k,v = .slice (some a) m k → a.block < b') : Owns w' base E c v n xs:=by
  refine ⟨h.1,?_⟩
  rcases h.2 with h | ⟨g,cap,cur,rfl,hbg,hg,h1,h2,h3,h4⟩
  · exact .inl h
  · exact .inr ⟨g,cap,cur,rfl,hbg,(hG.block g (hb _ _ _ rfl)).trans hg,h1,h2,h3,h4⟩
section
variable {P : Program} {ds : List Deferred} {l : List Value} {T ty : TypeId}
variable {ops : Array Oper} {Q : Exit → Act → World → Prop} {rest : List Oper} {d : Nat} {pos : String} {after : Array Edge} {w : World}
end
end Go.Lith
namespace Go.Proofs.YtmcgcnpgkkfkoaaGreatDoor
open Go.RowKit Go.Lith
set_option maxRecDepth 100000
attribute [local irreducible] wpList wpQuiet wpMix wpMixH wpTree Code.wp
theorem cube_c {p : P3} (w : World) (hp : Sm 100 p) : Does Tryz.prog 62 [pt p,.int .i64 8] w (TS 59 (cubeT p 8) w):=by
 refine ⟨en_62,?_⟩
 have m:=Mem.refl w
 have hp1:=hp.1; have hp2:=hp.2.1; have hp3:=hp.2.2
 go_enter Tryz.func62,Tryz.ntmps62
 refine c_seq fun K1 k1=>wp_region_lit (mboxA m rfl ?_)
 clear m; intro g1 u m
 refine n_val (r_assign) (n_nil (k1 _ _ ?_))
 refine c_seq fun K2 k2=>wp_region_lit ?_
 simp only [ev,zD,zE,zF,zG]
 refine malloc m zero_148 rfl ?_
 clear m; intro g2 u m
 refine n_nil (k2 _ _ ?_)
 refine c_seq fun K3 k3=>c_seq fun K4 k4=>wp_region_lit (n_val (r_assign) (n_nil (k4 _ _ ?_)))
 refine wp_block (wp_loop_rounds 9 (rounds_step (c_seq fun K5 k5=>c_seq fun K6 k6=>wp_region_lit (n_val (r_move) (n_val (r_lssT (m:=0) (n:=8) rfl rfl (by decide)) ?_)))))
 simp only [ev,zD,zE,zF,zG]
 refine n_nil (k6 _ _ ?_)
 refine c_yes rfl (wp_skip (k5 _ _ ?_))
 refine c_seq fun K7 k7=>wp_block (wp_region_lit (n_val (r_move) (n_val (r_fieldAddr (c:=0) Tryz.underlying28 rfl cells_3 rfl rfl) ?_)))
 simp only [ev,zD,zE,zF,zG]
 refine n_load rfl ((m.b 1 rfl).lies1 agg_3 rfl) ?_
 simp only [ev,zD,zE,zF,zG]
 refine n_val (r_move) (n_val (r_rem (m:=0) (n:=2) (r:=0) rfl rfl (by decide) (by decide)) (n_val (r_move) (n_val (r_mul (m:=0) (n:=8) (r:=0) rfl rfl (by decide)) ?_)))
 simp only [ev,zD,zE,zF,zG]
 refine n_val (r_add rfl rfl (wrap_i64 (by omega) (by omega))) (n_val (r_fieldAddr (c:=0) Tryz.underlying28 rfl cells_3 rfl rfl) ?_)
 simp only [ev,zD,zE,zF,zG]
 refine n_load rfl ((m.b 1 rfl).lies1 agg_3 rfl) ?_
 simp only [ev,zD,zE,zF,zG]
 refine n_val (r_move) (n_val (r_quo (m:=0) (n:=2) (r:=0) rfl rfl (by decide) (by decide)) (n_val (r_rem (m:=0) (n:=2) (r:=0) rfl rfl (by decide) (by decide)) (n_val (r_move) ?_)))
 simp only [ev,zD,zE,zF,zG]
 refine n_val (r_mul (m:=0) (n:=8) (r:=0) rfl rfl (by decide)) ?_
 simp only [ev,zD,zE,zF,zG]
 refine n_val (r_add rfl rfl (wrap_i64 (by omega) (by omega))) (n_val (r_fieldAddr (c:=0) Tryz.underlying28 rfl cells_3 rfl rfl) ?_)
 simp only [ev,zD,zE,zF,zG]
 refine n_load rfl ((m.b 1 rfl).lies1 agg_3 rfl) ?_
 simp only [ev,zD,zE,zF,zG]
 refine n_val (r_move) (n_val (r_quo (m:=0) (n:=4) (r:=0) rfl rfl (by decide) (by decide)) (n_val (r_move) (n_val (r_mul (m:=0) (n:=8) (r:=0) rfl rfl (by decide)) ?_)))
 simp only [ev,zD,zE,zF,zG]
 refine n_val (r_add rfl rfl (wrap_i64 (by omega) (by omega))) (n_val (r_build_28_0_1_2 rfl rfl rfl) (n_val (r_indexAddrA Tryz.underlying148 cells_28 rfl rfl (by decide) (by decide) rfl) ?_))
 simp only [ev,zD,zE,zF,zG]
 refine mstoreA m 0 rfl rfl rfl cells_28 (leT rfl) rfl ?_
 clear m; intro u m; simp only [over,zH,zI,zJ,zK,zL,zM,zN,zO,zP,zF,zG,Nat.reduceAdd] at m
 refine n_nil (k7 _ _ ?_)
 refine wp_region_lit (n_val (r_move) (n_val (r_add (m:=0) (n:=1) (r:=1) rfl rfl (by decide)) (n_val (r_assign) (n_nil (then_rounds (c_seq fun K8 k8=>c_seq fun K9 k9=>wp_region_lit (n_val (r_move) ?_)))))))
 simp only [ev,zD,zE,zF,zG]
 refine n_val (r_lssT (m:=1) (n:=8) rfl rfl (by decide)) (n_nil (k9 _ _ ?_))
 refine c_yes rfl (wp_skip (k8 _ _ ?_))
 refine c_seq fun K10 k10=>wp_block (wp_region_lit (n_val (r_move) (n_val (r_fieldAddr (c:=0) Tryz.underlying28 rfl cells_3 rfl rfl) ?_)))
 simp only [ev,zD,zE,zF,zG]
 refine n_load rfl ((m.b 1 rfl).lies1 agg_3 rfl) ?_
 simp only [ev,zD,zE,zF,zG]
 refine n_val (r_move) (n_val (r_rem (m:=1) (n:=2) (r:=1) rfl rfl (by decide) (by decide)) (n_val (r_move) (n_val (r_mul (m:=1) (n:=8) (r:=8) rfl rfl (by decide)) ?_)))
 simp only [ev,zD,zE,zF,zG]
 refine n_val (r_add rfl rfl (wrap_i64 (by omega) (by omega))) (n_val (r_fieldAddr (c:=0) Tryz.underlying28 rfl cells_3 rfl rfl) ?_)
 simp only [ev,zD,zE,zF,zG]
 refine n_load rfl ((m.b 1 rfl).lies1 agg_3 rfl) ?_
 simp only [ev,zD,zE,zF,zG]
 refine n_val (r_move) (n_val (r_quo (m:=1) (n:=2) (r:=0) rfl rfl (by decide) (by decide)) (n_val (r_rem (m:=0) (n:=2) (r:=0) rfl rfl (by decide) (by decide)) (n_val (r_move) ?_)))
 simp only [ev,zD,zE,zF,zG]
 refine n_val (r_mul (m:=0) (n:=8) (r:=0) rfl rfl (by decide)) ?_
 simp only [ev,zD,zE,zF,zG]
 refine n_val (r_add rfl rfl (wrap_i64 (by omega) (by omega))) (n_val (r_fieldAddr (c:=0) Tryz.underlying28 rfl cells_3 rfl rfl) ?_)
 simp only [ev,zD,zE,zF,zG]
 refine n_load rfl ((m.b 1 rfl).lies1 agg_3 rfl) ?_
 simp only [ev,zD,zE,zF,zG]
 refine n_val (r_move) (n_val (r_quo (m:=1) (n:=4) (r:=0) rfl rfl (by decide) (by decide)) (n_val (r_move) (n_val (r_mul (m:=0) (n:=8) (r:=0) rfl rfl (by decide)) ?_)))
 simp only [ev,zD,zE,zF,zG]
 refine n_val (r_add rfl rfl (wrap_i64 (by omega) (by omega))) (n_val (r_build_28_0_1_2 rfl rfl rfl) (n_val (r_indexAddrA Tryz.underlying148 cells_28 rfl rfl (by decide) (by decide) rfl) ?_))
 simp only [ev,zD,zE,zF,zG]
 refine mstoreA m 0 rfl rfl rfl cells_28 (leT rfl) rfl ?_
 clear m; intro u m; simp only [over,zH,zI,zJ,zK,zL,zM,zN,zO,zP,zF,zG,Nat.reduceAdd] at m
 refine n_nil (k10 _ _ ?_)
 refine wp_region_lit (n_val (r_move) (n_val (r_add (m:=1) (n:=1) (r:=2) rfl rfl (by decide)) (n_val (r_assign) (n_nil (then_rounds (c_seq fun K11 k11=>c_seq fun K12 k12=>wp_region_lit (n_val (r_move) ?_)))))))
 simp only [ev,zD,zE,zF,zG]
 refine n_val (r_lssT (m:=2) (n:=8) rfl rfl (by decide)) (n_nil (k12 _ _ ?_))
 refine c_yes rfl (wp_skip (k11 _ _ ?_))
 refine c_seq fun K13 k13=>wp_block (wp_region_lit (n_val (r_move) (n_val (r_fieldAddr (c:=0) Tryz.underlying28 rfl cells_3 rfl rfl) ?_)))
 simp only [ev,zD,zE,zF,zG]
 refine n_load rfl ((m.b 1 rfl).lies1 agg_3 rfl) ?_
 simp only [ev,zD,zE,zF,zG]
 refine n_val (r_move) (n_val (r_rem (m:=2) (n:=2) (r:=0) rfl rfl (by decide) (by decide)) (n_val (r_move) (n_val (r_mul (m:=0) (n:=8) (r:=0) rfl rfl (by decide)) ?_)))
 simp only [ev,zD,zE,zF,zG]
 refine n_val (r_add rfl rfl (wrap_i64 (by omega) (by omega))) (n_val (r_fieldAddr (c:=0) Tryz.underlying28 rfl cells_3 rfl rfl) ?_)
 simp only [ev,zD,zE,zF,zG]
 refine n_load rfl ((m.b 1 rfl).lies1 agg_3 rfl) ?_
 simp only [ev,zD,zE,zF,zG]
 refine n_val (r_move) (n_val (r_quo (m:=2) (n:=2) (r:=1) rfl rfl (by decide) (by decide)) (n_val (r_rem (m:=1) (n:=2) (r:=1) rfl rfl (by decide) (by decide)) (n_val (r_move) ?_)))
 simp only [ev,zD,zE,zF,zG]
 refine n_val (r_mul (m:=1) (n:=8) (r:=8) rfl rfl (by decide)) ?_
 simp only [ev,zD,zE,zF,zG]
 refine n_val (r_add rfl rfl (wrap_i64 (by omega) (by omega))) (n_val (r_fieldAddr (c:=0) Tryz.underlying28 rfl cells_3 rfl rfl) ?_)
 simp only [ev,zD,zE,zF,zG]
 refine n_load rfl ((m.b 1 rfl).lies1 agg_3 rfl) ?_
 simp only [ev,zD,zE,zF,zG]
 refine n_val (r_move) (n_val (r_quo (m:=2) (n:=4) (r:=0) rfl rfl (by decide) (by decide)) (n_val (r_move) (n_val (r_mul (m:=0) (n:=8) (r:=0) rfl rfl (by decide)) ?_)))
 simp only [ev,zD,zE,zF,zG]
 refine n_val (r_add rfl rfl (wrap_i64 (by omega) (by omega))) (n_val (r_build_28_0_1_2 rfl rfl rfl) (n_val (r_indexAddrA Tryz.underlying148 cells_28 rfl rfl (by decide) (by decide) rfl) ?_))
 simp only [ev,zD,zE,zF,zG]
 refine mstoreA m 0 rfl rfl rfl cells_28 (leT rfl) rfl ?_
 clear m; intro u m; simp only [over,zH,zI,zJ,zK,zL,zM,zN,zO,zP,zF,zG,Nat.reduceAdd] at m
 refine n_nil (k13 _ _ ?_)
 refine wp_region_lit (n_val (r_move) (n_val (r_add (m:=2) (n:=1) (r:=3) rfl rfl (by decide)) (n_val (r_assign) (n_nil (then_rounds (c_seq fun K14 k14=>c_seq fun K15 k15=>wp_region_lit (n_val (r_move) ?_)))))))
 simp only [ev,zD,zE,zF,zG]
 refine n_val (r_lssT (m:=3) (n:=8) rfl rfl (by decide)) (n_nil (k15 _ _ ?_))
 refine c_yes rfl (wp_skip (k14 _ _ ?_))
 refine c_seq fun K16 k16=>wp_block (wp_region_lit (n_val (r_move) (n_val (r_fieldAddr (c:=0) Tryz.underlying28 rfl cells_3 rfl rfl) ?_)))
 simp only [ev,zD,zE,zF,zG]
 refine n_load rfl ((m.b 1 rfl).lies1 agg_3 rfl) ?_
 simp only [ev,zD,zE,zF,zG]
 refine n_val (r_move) (n_val (r_rem (m:=3) (n:=2) (r:=1) rfl rfl (by decide) (by decide)) (n_val (r_move) (n_val (r_mul (m:=1) (n:=8) (r:=8) rfl rfl (by decide)) ?_)))
 simp only [ev,zD,zE,zF,zG]
 refine n_val (r_add rfl rfl (wrap_i64 (by omega) (by omega))) (n_val (r_fieldAddr (c:=0) Tryz.underlying28 rfl cells_3 rfl rfl) ?_)
 simp only [ev,zD,zE,zF,zG]
 refine n_load rfl ((m.b 1 rfl).lies1 agg_3 rfl) ?_
 simp only [ev,zD,zE,zF,zG]
 refine n_val (r_move) (n_val (r_quo (m:=3) (n:=2) (r:=1) rfl rfl (by decide) (by decide)) (n_val (r_rem (m:=1) (n:=2) (r:=1) rfl rfl (by decide) (by decide)) (n_val (r_move) ?_)))
 simp only [ev,zD,zE,zF,zG]
 refine n_val (r_mul (m:=1) (n:=8) (r:=8) rfl rfl (by decide)) ?_
 simp only [ev,zD,zE,zF,zG]
 refine n_val (r_add rfl rfl (wrap_i64 (by omega) (by omega))) (n_val (r_fieldAddr (c:=0) Tryz.underlying28 rfl cells_3 rfl rfl) ?_)
 simp only [ev,zD,zE,zF,zG]
 refine n_load rfl ((m.b 1 rfl).lies1 agg_3 rfl) ?_
 simp only [ev,zD,zE,zF,zG]
 refine n_val (r_move) (n_val (r_quo (m:=3) (n:=4) (r:=0) rfl rfl (by decide) (by decide)) (n_val (r_move) (n_val (r_mul (m:=0) (n:=8) (r:=0) rfl rfl (by decide)) ?_)))
 simp only [ev,zD,zE,zF,zG]
 refine n_val (r_add rfl rfl (wrap_i64 (by omega) (by omega))) (n_val (r_build_28_0_1_2 rfl rfl rfl) (n_val (r_indexAddrA Tryz.underlying148 cells_28 rfl rfl (by decide) (by decide) rfl) ?_))
 simp only [ev,zD,zE,zF,zG]
 refine mstoreA m 0 rfl rfl rfl cells_28 (leT rfl) rfl ?_
 clear m; intro u m; simp only [over,zH,zI,zJ,zK,zL,zM,zN,zO,zP,zF,zG,Nat.reduceAdd] at m
 refine n_nil (k16 _ _ ?_)
 refine wp_region_lit (n_val (r_move) (n_val (r_add (m:=3) (n:=1) (r:=4) rfl rfl (by decide)) (n_val (r_assign) (n_nil (then_rounds (c_seq fun K17 k17=>c_seq fun K18 k18=>wp_region_lit (n_val (r_move) ?_)))))))
 simp only [ev,zD,zE,zF,zG]
 refine n_val (r_lssT (m:=4) (n:=8) rfl rfl (by decide)) (n_nil (k18 _ _ ?_))
 refine c_yes rfl (wp_skip (k17 _ _ ?_))
 refine c_seq fun K19 k19=>wp_block (wp_region_lit (n_val (r_move) (n_val (r_fieldAddr (c:=0) Tryz.underlying28 rfl cells_3 rfl rfl) ?_)))
 simp only [ev,zD,zE,zF,zG]
 refine n_load rfl ((m.b 1 rfl).lies1 agg_3 rfl) ?_
 simp only [ev,zD,zE,zF,zG]
 refine n_val (r_move) (n_val (r_rem (m:=4) (n:=2) (r:=0) rfl rfl (by decide) (by decide)) (n_val (r_move) (n_val (r_mul (m:=0) (n:=8) (r:=0) rfl rfl (by decide)) ?_)))
 simp only [ev,zD,zE,zF,zG]
 refine n_val (r_add rfl rfl (wrap_i64 (by omega) (by omega))) (n_val (r_fieldAddr (c:=0) Tryz.underlying28 rfl cells_3 rfl rfl) ?_)
 simp only [ev,zD,zE,zF,zG]
 refine n_load rfl ((m.b 1 rfl).lies1 agg_3 rfl) ?_
 simp only [ev,zD,zE,zF,zG]
 refine n_val (r_move) (n_val (r_quo (m:=4) (n:=2) (r:=2) rfl rfl (by decide) (by decide)) (n_val (r_rem (m:=2) (n:=2) (r:=0) rfl rfl (by decide) (by decide)) (n_val (r_move) ?_)))
 simp only [ev,zD,zE,zF,zG]
 refine n_val (r_mul (m:=0) (n:=8) (r:=0) rfl rfl (by decide)) ?_
 simp only [ev,zD,zE,zF,zG]
 refine n_val (r_add rfl rfl (wrap_i64 (by omega) (by omega))) (n_val (r_fieldAddr (c:=0) Tryz.underlying28 rfl cells_3 rfl rfl) ?_)
 simp only [ev,zD,zE,zF,zG]
 refine n_load rfl ((m.b 1 rfl).lies1 agg_3 rfl) ?_
 simp only [ev,zD,zE,zF,zG]
 refine n_val (r_move) (n_val (r_quo (m:=4) (n:=4) (r:=1) rfl rfl (by decide) (by decide)) (n_val (r_move) (n_val (r_mul (m:=1) (n:=8) (r:=8) rfl rfl (by decide)) ?_)))
 simp only [ev,zD,zE,zF,zG]
 refine n_val (r_add rfl rfl (wrap_i64 (by omega) (by omega))) (n_val (r_build_28_0_1_2 rfl rfl rfl) (n_val (r_indexAddrA Tryz.underlying148 cells_28 rfl rfl (by decide) (by decide) rfl) ?_))
 simp only [ev,zD,zE,zF,zG]
 refine mstoreA m 0 rfl rfl rfl cells_28 (leT rfl) rfl ?_
 clear m; intro u m; simp only [over,zH,zI,zJ,zK,zL,zM,zN,zO,zP,zF,zG,Nat.reduceAdd] at m
 refine n_nil (k19 _ _ ?_)
 refine wp_region_lit (n_val (r_move) (n_val (r_add (m:=4) (n:=1) (r:=5) rfl rfl (by decide)) (n_val (r_assign) (n_nil (then_rounds (c_seq fun K20 k20=>c_seq fun K21 k21=>wp_region_lit (n_val (r_move) ?_)))))))
 simp only [ev,zD,zE,zF,zG]
 refine n_val (r_lssT (m:=5) (n:=8) rfl rfl (by decide)) (n_nil (k21 _ _ ?_))
 refine c_yes rfl (wp_skip (k20 _ _ ?_))
 refine c_seq fun K22 k22=>wp_block (wp_region_lit (n_val (r_move) (n_val (r_fieldAddr (c:=0) Tryz.underlying28 rfl cells_3 rfl rfl) ?_)))
 simp only [ev,zD,zE,zF,zG]
 refine n_load rfl ((m.b 1 rfl).lies1 agg_3 rfl) ?_
 simp only [ev,zD,zE,zF,zG]
 refine n_val (r_move) (n_val (r_rem (m:=5) (n:=2) (r:=1) rfl rfl (by decide) (by decide)) (n_val (r_move) (n_val (r_mul (m:=1) (n:=8) (r:=8) rfl rfl (by decide)) ?_)))
 simp only [ev,zD,zE,zF,zG]
 refine n_val (r_add rfl rfl (wrap_i64 (by omega) (by omega))) (n_val (r_fieldAddr (c:=0) Tryz.underlying28 rfl cells_3 rfl rfl) ?_)
 simp only [ev,zD,zE,zF,zG]
 refine n_load rfl ((m.b 1 rfl).lies1 agg_3 rfl) ?_
 simp only [ev,zD,zE,zF,zG]
 refine n_val (r_move) (n_val (r_quo (m:=5) (n:=2) (r:=2) rfl rfl (by decide) (by decide)) (n_val (r_rem (m:=2) (n:=2) (r:=0) rfl rfl (by decide) (by decide)) (n_val (r_move) ?_)))
 simp only [ev,zD,zE,zF,zG]
 refine n_val (r_mul (m:=0) (n:=8) (r:=0) rfl rfl (by decide)) ?_
 simp only [ev,zD,zE,zF,zG]
 refine n_val (r_add rfl rfl (wrap_i64 (by omega) (by omega))) (n_val (r_fieldAddr (c:=0) Tryz.underlying28 rfl cells_3 rfl rfl) ?_)
 simp only [ev,zD,zE,zF,zG]
 refine n_load rfl ((m.b 1 rfl).lies1 agg_3 rfl) ?_
 simp only [ev,zD,zE,zF,zG]
 refine n_val (r_move) (n_val (r_quo (m:=5) (n:=4) (r:=1) rfl rfl (by decide) (by decide)) (n_val (r_move) (n_val (r_mul (m:=1) (n:=8) (r:=8) rfl rfl (by decide)) ?_)))
 simp only [ev,zD,zE,zF,zG]
 refine n_val (r_add rfl rfl (wrap_i64 (by omega) (by omega))) (n_val (r_build_28_0_1_2 rfl rfl rfl) (n_val (r_indexAddrA Tryz.underlying148 cells_28 rfl rfl (by decide) (by decide) rfl) ?_))
 simp only [ev,zD,zE,zF,zG]
 refine mstoreA m 0 rfl rfl rfl cells_28 (leT rfl) rfl ?_
 clear m; intro u m; simp only [over,zH,zI,zJ,zK,zL,zM,zN,zO,zP,zF,zG,Nat.reduceAdd] at m
 refine n_nil (k22 _ _ ?_)
 refine wp_region_lit (n_val (r_move) (n_val (r_add (m:=5) (n:=1) (r:=6) rfl rfl (by decide)) (n_val (r_assign) (n_nil (then_rounds (c_seq fun K23 k23=>c_seq fun K24 k24=>wp_region_lit (n_val (r_move) ?_)))))))
 simp only [ev,zD,zE,zF,zG]
 refine n_val (r_lssT (m:=6) (n:=8) rfl rfl (by decide)) (n_nil (k24 _ _ ?_))
 refine c_yes rfl (wp_skip (k23 _ _ ?_))
 refine c_seq fun K25 k25=>wp_block (wp_region_lit (n_val (r_move) (n_val (r_fieldAddr (c:=0) Tryz.underlying28 rfl cells_3 rfl rfl) ?_)))
 simp only [ev,zD,zE,zF,zG]
 refine n_load rfl ((m.b 1 rfl).lies1 agg_3 rfl) ?_
 simp only [ev,zD,zE,zF,zG]
 refine n_val (r_move) (n_val (r_rem (m:=6) (n:=2) (r:=0) rfl rfl (by decide) (by decide)) (n_val (r_move) (n_val (r_mul (m:=0) (n:=8) (r:=0) rfl rfl (by decide)) ?_)))
 simp only [ev,zD,zE,zF,zG]
 refine n_val (r_add rfl rfl (wrap_i64 (by omega) (by omega))) (n_val (r_fieldAddr (c:=0) Tryz.underlying28 rfl cells_3 rfl rfl) ?_)
 simp only [ev,zD,zE,zF,zG]
 refine n_load rfl ((m.b 1 rfl).lies1 agg_3 rfl) ?_
 simp only [ev,zD,zE,zF,zG]
 refine n_val (r_move) (n_val (r_quo (m:=6) (n:=2) (r:=3) rfl rfl (by decide) (by decide)) (n_val (r_rem (m:=3) (n:=2) (r:=1) rfl rfl (by decide) (by decide)) (n_val (r_move) ?_)))
 simp only [ev,zD,zE,zF,zG]
 refine n_val (r_mul (m:=1) (n:=8) (r:=8) rfl rfl (by decide)) ?_
 simp only [ev,zD,zE,zF,zG]
 refine n_val (r_add rfl rfl (wrap_i64 (by omega) (by omega))) (n_val (r_fieldAddr (c:=0) Tryz.underlying28 rfl cells_3 rfl rfl) ?_)
 simp only [ev,zD,zE,zF,zG]
 refine n_load rfl ((m.b 1 rfl).lies1 agg_3 rfl) ?_
 simp only [ev,zD,zE,zF,zG]
 refine n_val (r_move) (n_val (r_quo (m:=6) (n:=4) (r:=1) rfl rfl (by decide) (by decide)) (n_val (r_move) (n_val (r_mul (m:=1) (n:=8) (r:=8) rfl rfl (by decide)) ?_)))
 simp only [ev,zD,zE,zF,zG]
 refine n_val (r_add rfl rfl (wrap_i64 (by omega) (by omega))) (n_val (r_build_28_0_1_2 rfl rfl rfl) (n_val (r_indexAddrA Tryz.underlying148 cells_28 rfl rfl (by decide) (by decide) rfl) ?_))
 simp only [ev,zD,zE,zF,zG]
 refine mstoreA m 0 rfl rfl rfl cells_28 (leT rfl) rfl ?_
 clear m; intro u m; simp only [over,zH,zI,zJ,zK,zL,zM,zN,zO,zP,zF,zG,Nat.reduceAdd] at m
 refine n_nil (k25 _ _ ?_)
 refine wp_region_lit (n_val (r_move) (n_val (r_add (m:=6) (n:=1) (r:=7) rfl rfl (by decide)) (n_val (r_assign) (n_nil (then_rounds (c_seq fun K26 k26=>c_seq fun K27 k27=>wp_region_lit (n_val (r_move) ?_)))))))
 simp only [ev,zD,zE,zF,zG]
 refine n_val (r_lssT (m:=7) (n:=8) rfl rfl (by decide)) (n_nil (k27 _ _ ?_))
 refine c_yes rfl (wp_skip (k26 _ _ ?_))
 refine c_seq fun K28 k28=>wp_block (wp_region_lit (n_val (r_move) (n_val (r_fieldAddr (c:=0) Tryz.underlying28 rfl cells_3 rfl rfl) ?_)))
 simp only [ev,zD,zE,zF,zG]
 refine n_load rfl ((m.b 1 rfl).lies1 agg_3 rfl) ?_
 simp only [ev,zD,zE,zF,zG]
 refine n_val (r_move) (n_val (r_rem (m:=7) (n:=2) (r:=1) rfl rfl (by decide) (by decide)) (n_val (r_move) (n_val (r_mul (m:=1) (n:=8) (r:=8) rfl rfl (by decide)) ?_)))
 simp only [ev,zD,zE,zF,zG]
 refine n_val (r_add rfl rfl (wrap_i64 (by omega) (by omega))) (n_val (r_fieldAddr (c:=0) Tryz.underlying28 rfl cells_3 rfl rfl) ?_)
 simp only [ev,zD,zE,zF,zG]
 refine n_load rfl ((m.b 1 rfl).lies1 agg_3 rfl) ?_
 simp only [ev,zD,zE,zF,zG]
 refine n_val (r_move) (n_val (r_quo (m:=7) (n:=2) (r:=3) rfl rfl (by decide) (by decide)) (n_val (r_rem (m:=3) (n:=2) (r:=1) rfl rfl (by decide) (by decide)) (n_val (r_move) ?_)))
 simp only [ev,zD,zE,zF,zG]
 refine n_val (r_mul (m:=1) (n:=8) (r:=8) rfl rfl (by decide)) ?_
 simp only [ev,zD,zE,zF,zG]
 refine n_val (r_add rfl rfl (wrap_i64 (by omega) (by omega))) (n_val (r_fieldAddr (c:=0) Tryz.underlying28 rfl cells_3 rfl rfl) ?_)
 simp only [ev,zD,zE,zF,zG]
 refine n_load rfl ((m.b 1 rfl).lies1 agg_3 rfl) ?_
 simp only [ev,zD,zE,zF,zG]
 refine n_val (r_move) (n_val (r_quo (m:=7) (n:=4) (r:=1) rfl rfl (by decide) (by decide)) (n_val (r_move) (n_val (r_mul (m:=1) (n:=8) (r:=8) rfl rfl (by decide)) ?_)))
 simp only [ev,zD,zE,zF,zG]
 refine n_val (r_add rfl rfl (wrap_i64 (by omega) (by omega))) (n_val (r_build_28_0_1_2 rfl rfl rfl) (n_val (r_indexAddrA Tryz.underlying148 cells_28 rfl rfl (by decide) (by decide) rfl) ?_))
 simp only [ev,zD,zE,zF,zG]
 refine mstoreA m 0 rfl rfl rfl cells_28 (leT rfl) rfl ?_
 clear m; intro u m; simp only [over,zH,zI,zJ,zK,zL,zM,zN,zO,zP,zF,zG,Nat.reduceAdd] at m
 refine n_nil (k28 _ _ ?_)
 refine wp_region_lit (n_val (r_move) (n_val (r_add (m:=7) (n:=1) (r:=8) rfl rfl (by decide)) (n_val (r_assign) (n_nil (then_rounds (c_seq fun K29 k29=>c_seq fun K30 k30=>wp_region_lit (n_val (r_move) ?_)))))))
 simp only [ev,zD,zE,zF,zG]
 refine n_val (r_lssF (m:=8) (n:=8) rfl rfl (by decide)) (n_nil (k30 _ _ ?_))
 refine c_no rfl (wp_exit (k3 _ _ ?_))
 refine c_seq fun K31 k31=>?_
 simp only [ev,zD,zE,zF,zG]
 change Mem w _ [bI g2 [.int .i64 (cubeC p 8 0).x,.int .i64 (cubeC p 8 0).y,.int .i64 (cubeC p 8 0).z,.int .i64 (cubeC p 8 1).x,.int .i64 (cubeC p 8 1).y,.int .i64 (cubeC p 8 1).z,.int .i64 (cubeC p 8 2).x,.int .i64 (cubeC p 8 2).y,.int .i64 (cubeC p 8 2).z,.int .i64 (cubeC p 8 3).x,.int .i64 (cubeC p 8 3).y,.int .i64 (cubeC p 8 3).z,.int .i64 (cubeC p 8 4).x,.int .i64 (cubeC p 8 4).y,.int .i64 (cubeC p 8 4).z,.int .i64 (cubeC p 8 5).x,.int .i64 (cubeC p 8 5).y,.int .i64 (cubeC p 8 5).z,.int .i64 (cubeC p 8 6).x,.int .i64 (cubeC p 8 6).y,.int .i64 (cubeC p 8 6).z,.int .i64 (cubeC p 8 7).x,.int .i64 (cubeC p 8 7).y,.int .i64 (cubeC p 8 7).z] _,_] at m
 refine wp_region_lit (n_val (r_indexAddrA Tryz.underlying148 cells_28 rfl rfl (by decide) (by decide) rfl) ?_)
 simp only [ev,zD,zE,zF,zG]
 refine n_load rfl ((m.b 0 rfl).lies agg_28 cells_28 rfl rfl) ?_
 simp only [ev,zD,zE,zF,zG,zH,zI,zJ,zK,Nat.zero_add,Nat.reduceAdd,Nat.reduceMul,Int.reduceToNat]
 refine n_val (r_indexAddrA Tryz.underlying148 cells_28 rfl rfl (by decide) (by decide) rfl) ?_
 simp only [ev,zD,zE,zF,zG]
 refine n_load rfl ((m.b 0 rfl).lies agg_28 cells_28 rfl rfl) ?_
 simp only [ev,zD,zE,zF,zG,zH,zI,zJ,zK,Nat.zero_add,Nat.reduceAdd,Nat.reduceMul,Int.reduceToNat]
 refine n_val (r_indexAddrA Tryz.underlying148 cells_28 rfl rfl (by decide) (by decide) rfl) ?_
 simp only [ev,zD,zE,zF,zG]
 refine n_load rfl ((m.b 0 rfl).lies agg_28 cells_28 rfl rfl) ?_
 simp only [ev,zD,zE,zF,zG,zH,zI,zJ,zK,Nat.zero_add,Nat.reduceAdd,Nat.reduceMul,Int.reduceToNat]
 refine n_val (r_indexAddrA Tryz.underlying148 cells_28 rfl rfl (by decide) (by decide) rfl) ?_
 simp only [ev,zD,zE,zF,zG]
 refine n_load rfl ((m.b 0 rfl).lies agg_28 cells_28 rfl rfl) ?_
 simp only [ev,zD,zE,zF,zG,zH,zI,zJ,zK,Nat.zero_add,Nat.reduceAdd,Nat.reduceMul,Int.reduceToNat]
 refine n_call rfl rfl (quad_c (a:=cubeC p 8 0) (b:=cubeC p 8 2) (c:=cubeC p 8 3) (d:=cubeC p 8 1) _) ?_
 rintro v u e ⟨A1,cap1,_,rfl,rfl,hN⟩; replace m:=m.newO e hN; clear e hN
 refine n_val (r_assign) (n_nil (k31 _ _ ?_))
 refine c_seq fun K32 k32=>wp_region_lit (n_val (r_move) (n_val (r_indexAddrA Tryz.underlying148 cells_28 rfl rfl (by decide) (by decide) rfl) ?_))
 simp only [ev,zD,zE,zF,zG]
 refine n_load rfl ((m.b 1 rfl).lies agg_28 cells_28 rfl rfl) ?_
 simp only [ev,zD,zE,zF,zG,zH,zI,zJ,zK,Nat.zero_add,Nat.reduceAdd,Nat.reduceMul,Int.reduceToNat]
 refine n_val (r_indexAddrA Tryz.underlying148 cells_28 rfl rfl (by decide) (by decide) rfl) ?_
 simp only [ev,zD,zE,zF,zG]
 refine n_load rfl ((m.b 1 rfl).lies agg_28 cells_28 rfl rfl) ?_
 simp only [ev,zD,zE,zF,zG,zH,zI,zJ,zK,Nat.zero_add,Nat.reduceAdd,Nat.reduceMul,Int.reduceToNat]
 refine n_val (r_indexAddrA Tryz.underlying148 cells_28 rfl rfl (by decide) (by decide) rfl) ?_
 simp only [ev,zD,zE,zF,zG]
 refine n_load rfl ((m.b 1 rfl).lies agg_28 cells_28 rfl rfl) ?_
 simp only [ev,zD,zE,zF,zG,zH,zI,zJ,zK,Nat.zero_add,Nat.reduceAdd,Nat.reduceMul,Int.reduceToNat]
 refine n_val (r_indexAddrA Tryz.underlying148 cells_28 rfl rfl (by decide) (by decide) rfl) ?_
 simp only [ev,zD,zE,zF,zG]
 refine n_load rfl ((m.b 1 rfl).lies agg_28 cells_28 rfl rfl) ?_
 simp only [ev,zD,zE,zF,zG,zH,zI,zJ,zK,Nat.zero_add,Nat.reduceAdd,Nat.reduceMul,Int.reduceToNat]
 refine n_call rfl rfl (quad_c (a:=cubeC p 8 4) (b:=cubeC p 8 5) (c:=cubeC p 8 7) (d:=cubeC p 8 6) _) ?_
 rintro v u e ⟨A2,cap2,_,rfl,rfl,hN⟩; replace m:=m.newO e hN; clear e hN
 simp only [ev,zD,zE,zF,zG]
 refine mappend m 1 rfl rfl Tryz.underlying24 inf_59 rfl (by decide) rfl rfl (m.o 0 rfl).own.1 (m.o 0 rfl).row (tris_one _) (leT rfl) (leT rfl) ?_
 clear m; intro A1 cap1 u m; simp only [zF,zG] at m
 refine n_val (r_assign) (n_nil (k32 _ _ ?_))
 refine c_seq fun K33 k33=>wp_region_lit (n_val (r_move) (n_val (r_indexAddrA Tryz.underlying148 cells_28 rfl rfl (by decide) (by decide) rfl) ?_))
 simp only [ev,zD,zE,zF,zG]
 refine n_load rfl ((m.b 2 rfl).lies agg_28 cells_28 rfl rfl) ?_
 simp only [ev,zD,zE,zF,zG,zH,zI,zJ,zK,Nat.zero_add,Nat.reduceAdd,Nat.reduceMul,Int.reduceToNat]
 refine n_val (r_indexAddrA Tryz.underlying148 cells_28 rfl rfl (by decide) (by decide) rfl) ?_
 simp only [ev,zD,zE,zF,zG]
 refine n_load rfl ((m.b 2 rfl).lies agg_28 cells_28 rfl rfl) ?_
 simp only [ev,zD,zE,zF,zG,zH,zI,zJ,zK,Nat.zero_add,Nat.reduceAdd,Nat.reduceMul,Int.reduceToNat]
 refine n_val (r_indexAddrA Tryz.underlying148 cells_28 rfl rfl (by decide) (by decide) rfl) ?_
 simp only [ev,zD,zE,zF,zG]
 refine n_load rfl ((m.b 2 rfl).lies agg_28 cells_28 rfl rfl) ?_
 simp only [ev,zD,zE,zF,zG,zH,zI,zJ,zK,Nat.zero_add,Nat.reduceAdd,Nat.reduceMul,Int.reduceToNat]
 refine n_val (r_indexAddrA Tryz.underlying148 cells_28 rfl rfl (by decide) (by decide) rfl) ?_
 simp only [ev,zD,zE,zF,zG]
 refine n_load rfl ((m.b 2 rfl).lies agg_28 cells_28 rfl rfl) ?_
 simp only [ev,zD,zE,zF,zG,zH,zI,zJ,zK,Nat.zero_add,Nat.reduceAdd,Nat.reduceMul,Int.reduceToNat]
 refine n_call rfl rfl (quad_c (a:=cubeC p 8 0) (b:=cubeC p 8 1) (c:=cubeC p 8 5) (d:=cubeC p 8 4) _) ?_
 rintro v u e ⟨A3,cap3,_,rfl,rfl,hN⟩; replace m:=m.newO e hN; clear e hN
 simp only [ev,zD,zE,zF,zG]
 refine mappend m 2 rfl rfl Tryz.underlying24 inf_59 rfl (by decide) rfl rfl (m.o 0 rfl).own.1 (m.o 0 rfl).row (tris_one _) (leT rfl) (leT rfl) ?_
 clear m; intro A1 cap1 u m; simp only [zF,zG] at m
 refine n_val (r_assign) (n_nil (k33 _ _ ?_))
 refine c_seq fun K34 k34=>wp_region_lit (n_val (r_move) (n_val (r_indexAddrA Tryz.underlying148 cells_28 rfl rfl (by decide) (by decide) rfl) ?_))
 simp only [ev,zD,zE,zF,zG]
 refine n_load rfl ((m.b 3 rfl).lies agg_28 cells_28 rfl rfl) ?_
 simp only [ev,zD,zE,zF,zG,zH,zI,zJ,zK,Nat.zero_add,Nat.reduceAdd,Nat.reduceMul,Int.reduceToNat]
 refine n_val (r_indexAddrA Tryz.underlying148 cells_28 rfl rfl (by decide) (by decide) rfl) ?_
 simp only [ev,zD,zE,zF,zG]
 refine n_load rfl ((m.b 3 rfl).lies agg_28 cells_28 rfl rfl) ?_
 simp only [ev,zD,zE,zF,zG,zH,zI,zJ,zK,Nat.zero_add,Nat.reduceAdd,Nat.reduceMul,Int.reduceToNat]
 refine n_val (r_indexAddrA Tryz.underlying148 cells_28 rfl rfl (by decide) (by decide) rfl) ?_
 simp only [ev,zD,zE,zF,zG]
 refine n_load rfl ((m.b 3 rfl).lies agg_28 cells_28 rfl rfl) ?_
 simp only [ev,zD,zE,zF,zG,zH,zI,zJ,zK,Nat.zero_add,Nat.reduceAdd,Nat.reduceMul,Int.reduceToNat]
 refine n_val (r_indexAddrA Tryz.underlying148 cells_28 rfl rfl (by decide) (by decide) rfl) ?_
 simp only [ev,zD,zE,zF,zG]
 refine n_load rfl ((m.b 3 rfl).lies agg_28 cells_28 rfl rfl) ?_
 simp only [ev,zD,zE,zF,zG,zH,zI,zJ,zK,Nat.zero_add,Nat.reduceAdd,Nat.reduceMul,Int.reduceToNat]
 refine n_call rfl rfl (quad_c (a:=cubeC p 8 2) (b:=cubeC p 8 6) (c:=cubeC p 8 7) (d:=cubeC p 8 3) _) ?_
 rintro v u e ⟨A4,cap4,_,rfl,rfl,hN⟩; replace m:=m.newO e hN; clear e hN
 simp only [ev,zD,zE,zF,zG]
 refine mappend m 3 rfl rfl Tryz.underlying24 inf_59 rfl (by decide) rfl rfl (m.o 0 rfl).own.1 (m.o 0 rfl).row (tris_one _) (leT rfl) (leT rfl) ?_
 clear m; intro A1 cap1 u m; simp only [zF,zG] at m
 refine n_val (r_assign) (n_nil (k34 _ _ ?_))
 refine c_seq fun K35 k35=>wp_region_lit (n_val (r_move) (n_val (r_indexAddrA Tryz.underlying148 cells_28 rfl rfl (by decide) (by decide) rfl) ?_))
 simp only [ev,zD,zE,zF,zG]
 refine n_load rfl ((m.b 4 rfl).lies agg_28 cells_28 rfl rfl) ?_
 simp only [ev,zD,zE,zF,zG,zH,zI,zJ,zK,Nat.zero_add,Nat.reduceAdd,Nat.reduceMul,Int.reduceToNat]
 refine n_val (r_indexAddrA Tryz.underlying148 cells_28 rfl rfl (by decide) (by decide) rfl) ?_
 simp only [ev,zD,zE,zF,zG]
 refine n_load rfl ((m.b 4 rfl).lies agg_28 cells_28 rfl rfl) ?_
 simp only [ev,zD,zE,zF,zG,zH,zI,zJ,zK,Nat.zero_add,Nat.reduceAdd,Nat.reduceMul,Int.reduceToNat]
 refine n_val (r_indexAddrA Tryz.underlying148 cells_28 rfl rfl (by decide) (by decide) rfl) ?_
 simp only [ev,zD,zE,zF,zG]
 refine n_load rfl ((m.b 4 rfl).lies agg_28 cells_28 rfl rfl) ?_
 simp only [ev,zD,zE,zF,zG,zH,zI,zJ,zK,Nat.zero_add,Nat.reduceAdd,Nat.reduceMul,Int.reduceToNat]
 refine n_val (r_indexAddrA Tryz.underlying148 cells_28 rfl rfl (by decide) (by decide) rfl) ?_
 simp only [ev,zD,zE,zF,zG]
 refine n_load rfl ((m.b 4 rfl).lies agg_28 cells_28 rfl rfl) ?_
 simp only [ev,zD,zE,zF,zG,zH,zI,zJ,zK,Nat.zero_add,Nat.reduceAdd,Nat.reduceMul,Int.reduceToNat]
 refine n_call rfl rfl (quad_c (a:=cubeC p 8 0) (b:=cubeC p 8 4) (c:=cubeC p 8 6) (d:=cubeC p 8 2) _) ?_
 rintro v u e ⟨A5,cap5,_,rfl,rfl,hN⟩; replace m:=m.newO e hN; clear e hN
 simp only [ev,zD,zE,zF,zG]
 refine mappend m 4 rfl rfl Tryz.underlying24 inf_59 rfl (by decide) rfl rfl (m.o 0 rfl).own.1 (m.o 0 rfl).row (tris_one _) (leT rfl) (leT rfl) ?_
 clear m; intro A1 cap1 u m; simp only [zF,zG] at m
 refine n_val (r_assign) (n_nil (k35 _ _ ?_))
 refine c_seq fun K36 k36=>wp_region_lit (n_val (r_move) (n_val (r_indexAddrA Tryz.underlying148 cells_28 rfl rfl (by decide) (by decide) rfl) ?_))
 simp only [ev,zD,zE,zF,zG]
 refine n_load rfl ((m.b 5 rfl).lies agg_28 cells_28 rfl rfl) ?_
 simp only [ev,zD,zE,zF,zG,zH,zI,zJ,zK,Nat.zero_add,Nat.reduceAdd,Nat.reduceMul,Int.reduceToNat]
 refine n_val (r_indexAddrA Tryz.underlying148 cells_28 rfl rfl (by decide) (by decide) rfl) ?_
 simp only [ev,zD,zE,zF,zG]
 refine n_load rfl ((m.b 5 rfl).lies agg_28 cells_28 rfl rfl) ?_
 simp only [ev,zD,zE,zF,zG,zH,zI,zJ,zK,Nat.zero_add,Nat.reduceAdd,Nat.reduceMul,Int.reduceToNat]
 refine n_val (r_indexAddrA Tryz.underlying148 cells_28 rfl rfl (by decide) (by decide) rfl) ?_
 simp only [ev,zD,zE,zF,zG]
 refine n_load rfl ((m.b 5 rfl).lies agg_28 cells_28 rfl rfl) ?_
 simp only [ev,zD,zE,zF,zG,zH,zI,zJ,zK,Nat.zero_add,Nat.reduceAdd,Nat.reduceMul,Int.reduceToNat]
 refine n_val (r_indexAddrA Tryz.underlying148 cells_28 rfl rfl (by decide) (by decide) rfl) ?_
 simp only [ev,zD,zE,zF,zG]
 refine n_load rfl ((m.b 5 rfl).lies agg_28 cells_28 rfl rfl) ?_
 simp only [ev,zD,zE,zF,zG,zH,zI,zJ,zK,Nat.zero_add,Nat.reduceAdd,Nat.reduceMul,Int.reduceToNat]
 refine n_call rfl rfl (quad_c (a:=cubeC p 8 1) (b:=cubeC p 8 3) (c:=cubeC p 8 7) (d:=cubeC p 8 5) _) ?_
 rintro v u e ⟨A6,cap6,_,rfl,rfl,hN⟩; replace m:=m.newO e hN; clear e hN
 simp only [ev,zD,zE,zF,zG]
 refine mappend m 5 rfl rfl Tryz.underlying24 inf_59 rfl (by decide) rfl rfl (m.o 0 rfl).own.1 (m.o 0 rfl).row (tris_one _) (leT rfl) (leT rfl) ?_
 clear m; intro A1 cap1 u m; simp only [zF,zG] at m
 refine n_val (r_assign) (n_nil (k36 _ _ ?_))
 refine wp_ret ?_
 simp only [ev,zD,zE,zF,zG]
 try simp only [Exit.inBlock,Exit.then,if_true]
 refine fin1 rfl rfl ?_
 try simp only [zD,zE]
 exact ⟨_,rfl,m.ext,⟨_,_,_,rfl,rfl,((m.o 5 rfl)).as (by simp only [cubeT,List.flatMap_append])⟩⟩
theorem Voxels_c {b : Nat} (w : World) (hb : b < 134217728) : Does Tryz.prog 19 [.int .i64 (b : Int),.int .i64 8,.agg #[.int .i64 4,.int .i64 5,.int .i64 6]] w (TS 59 (voxT b) w):=by
 refine ⟨en_19,?_⟩
 have m:=Mem.refl w
 have hb0:=hb
 go_enter Tryz.func19,Tryz.ntmps19
 refine c_seq fun K1 k1=>wp_region_lit (mboxA m rfl ?_)
 clear m; intro g1 u m
 refine n_val (r_assign) (n_nil (k1 _ _ ?_))
 refine c_seq fun K2 k2=>wp_region_lit (n_val (r_assign) ?_)
 replace m:=m.nilO 59 9
 refine n_nil (k2 _ _ ?_)
 refine c_seq fun K3 k3=>c_seq fun K4 k4=>wp_region_lit (n_val (r_assign) ?_)
 simp only [ev,zD,zE,zF,zG]
 refine n_nil (k4 _ _ ?_)
 refine wp_block ?_
 try simp only [Nat.zero_add,Nat.reduceAdd,Nat.reduceMul,Int.reduceToNat]
 refine c_loopg [7,8] [9,10,11,12,13,14,15,16,17,18,19,20,21,22,23,24,25,26,27,28,29,30,31,32,33,34,35,36,37,38,39,40,41,42,43,44,45,46,47,48,49,50,51,52,53,54,55,56,57,58,59,60,61,62,63,64,65,66,67,68,69,70,71,72,73,74,75,76,77,78,79,80,81,82,83,84,85,86,87,88,89,90,91,92,93,94,95,96,97,98,99,100,101,102,103,104,105,106,107,108,109,110,111,112,113,114,115,116,117,118,119,120,121,122,123,124,125,126,127,128,129,130,131,132,133,134,135,136,137,138,139] (fun n vs wl=>∃ (A1 : Option Addr) (cap1 k : Nat),vs = [.slice A1 (voxPre b (k) (0)).length cap1,.int .i64 (k:Int)] ∧ Mem w wl [oI 59 9 A1 (voxPre b (k) (0)).length cap1 ((voxPre b (k) (0)).flatMap triCells),bI g1 [.int .i64 4,.int .i64 5,.int .i64 6] 28] ∧ (k ≤ 27) ∧ (n = 27 - k)) ?_ ?_
 ·
  apply Exists.intro
  simp only [zQ,zR,zD,zE]
  exact ⟨none,0,0,rfl,m,Nat.zero_le _,rfl⟩
 ·
  intro n vs wr hI u
  clear m
  obtain ⟨A1,cap1,k,rfl,m,hk,hn⟩:=hI
  simp only [setG_cons,setG_nil,setMany_cons,setMany_nil,zF,zG]
  refine c_seq fun K5 k5=>c_seq fun K6 k6=>wp_region_lit (n_val (r_move) (n_val (r_lss rfl rfl) (n_nil (k6 _ _ ?_))))
  simp only [ev,zD,zE,zF,zG]
  refine c_if rfl (fun hc1=>?_) (fun hc1=>?_)
  ·
   refine wp_skip (k5 _ _ ?_)
   refine c_seq fun K7 k7=>wp_block (c_seq fun K8 k8=>wp_region_lit (n_val (r_move) ?_))
   simp only [ev,zD,zE,zF,zG]
   refine n_val (r_rem rfl rfl (by omega) (tmodN (k:=k) (c:=3))) (n_val (r_assign) (n_nil (k8 _ _ ?_)))
   refine c_seq fun K9 k9=>wp_region_lit (n_val (r_move) ?_)
   simp only [ev,zD,zE,zF,zG]
   refine n_val (r_quo rfl rfl (by omega) (quo_i64' (n:=3) (by omega))) ?_
   simp only [ev,zD,zE,zF,zG]
   refine n_val (r_rem rfl rfl (by omega) (tmodN (k:=k / 3) (c:=3))) (n_val (r_assign) (n_nil (k9 _ _ ?_)))
   refine c_seq fun K10 k10=>wp_region_lit (n_val (r_move) ?_)
   simp only [ev,zD,zE,zF,zG]
   refine n_val (r_quo rfl rfl (by omega) (quo_i64' (n:=9) (by omega))) (n_val (r_assign) (n_nil (k10 _ _ ?_)))
   refine c_seq fun K11 k11=>c_seq fun K12 k12=>wp_region_lit (n_val (r_move) (n_val (r_move) ?_))
   simp only [ev,zD,zE,zF,zG]
   refine n_val (r_conv Tryz.underlying89 Tryz.underlying3 rfl (wrap_u64 (by omega) (by omega))) ?_
   simp only [ev,zD,zE,zF,zG]
   refine n_val (r_shr rfl rfl (by omega) (shrI (by omega) (by omega))) (n_val (r_and rfl rfl (and1 (div_le hb))) (n_val (r_eql rfl rfl) (n_nil (k12 _ _ ?_))))
   simp only [ev,zD,zE,zF,zG]
   refine c_if rfl (fun hc2=>?_) (fun hc2=>?_)
   ·
    have hv : vbit b k = false:=by unfold vbit; exact decide_eq_false (by have:=hc2; simp only [Int.toNat_natCast] at this; omega)
    rw [voxPre_no hv] at m ⊢
    refine wp_exit (k7 _ _ ?_)
    refine wp_region_lit (n_val (r_move) ?_)
    simp only [ev,zD,zE,zF,zG]
    refine n_val (r_add rfl rfl (wrap_i64 (by omega) (by omega))) (n_val (r_assign) (n_nil ?_))
    simp only [ev,zD,zE,zF,zG]
    simp only [Exit.inBlock,Exit.then]
    refine ⟨27 - (k + 1),_,?_,rfl,?_,?_⟩
    · omega
    · simp only [zQ,zR,zD,zE,setG_cons,setG_nil,setMany_cons,setMany_nil,zF,zG]
    ·
     simp only [zQ,zR,zD,zE]
     exact ⟨_,_,k + 1,rfl,m,by omega,rfl⟩
   ·
    have hv : vbit b k = true:=by unfold vbit; exact decide_eq_true (by have:=hc2; simp only [Int.toNat_natCast] at this; omega)
    refine wp_skip (k11 _ _ ?_)
    refine c_seq fun K13 k13=>wp_region_lit (n_val (r_fieldAddr (c:=0) Tryz.underlying28 rfl cells_3 rfl rfl) ?_)
    simp only [ev,zD,zE,zF,zG]
    refine n_load rfl ((m.b 1 rfl).lies1 agg_3 rfl) ?_
    simp only [ev,zD,zE,zF,zG]
    refine n_val (r_move) (n_val (r_move) ?_)
    simp only [ev,zD,zE,zF,zG]
    refine n_val (r_mul rfl rfl (wrap_i64 (by omega) (by omega))) ?_
    simp only [ev,zD,zE,zF,zG]
    refine n_val (r_add rfl rfl (wrap_i64 (by omega) (by omega))) (n_val (r_fieldAddr (c:=0) Tryz.underlying28 rfl cells_3 rfl rfl) ?_)
    simp only [ev,zD,zE,zF,zG]
    refine n_load rfl ((m.b 1 rfl).lies1 agg_3 rfl) ?_
    simp only [ev,zD,zE,zF,zG]
    refine n_val (r_move) (n_val (r_move) ?_)
    simp only [ev,zD,zE,zF,zG]
    refine n_val (r_mul rfl rfl (wrap_i64 (by omega) (by omega))) ?_
    simp only [ev,zD,zE,zF,zG]
    refine n_val (r_add rfl rfl (wrap_i64 (by omega) (by omega))) (n_val (r_fieldAddr (c:=0) Tryz.underlying28 rfl cells_3 rfl rfl) ?_)
    simp only [ev,zD,zE,zF,zG]
    refine n_load rfl ((m.b 1 rfl).lies1 agg_3 rfl) ?_
    simp only [ev,zD,zE,zF,zG]
    refine n_val (r_move) (n_val (r_move) ?_)
    simp only [ev,zD,zE,zF,zG]
    refine n_val (r_mul rfl rfl (wrap_i64 (by omega) (by omega))) ?_
    simp only [ev,zD,zE,zF,zG]
    refine n_val (r_add rfl rfl (wrap_i64 (by omega) (by omega))) (n_val (r_build_28_0_1_2 rfl rfl rfl) ?_)
    simp only [ev,zD,zE,zF,zG]
    refine malloc m zero_28 rfl ?_
    clear m; intro g2 u m
    simp only [ev,zD,zE,zF,zG]
    refine mstoreA m 0 rfl rfl rfl cells_28 (leT rfl) rfl ?_
    clear m; intro u m; simp only [over,zH,zI,zJ,zK,zL,zM,zN,zO,zP,zF,zG,Nat.reduceAdd] at m
    refine n_nil (k13 _ _ ?_)
    refine c_seq fun K14 k14=>wp_region_lit (n_load rfl ((m.b 0 rfl).full agg_28 cells_28) ?_)
    simp only [ev,zD,zE,zF,zG]
    refine n_val (r_move) ?_
    simp only [ev,zD,zE,zF,zG]
    refine n_call rfl rfl (cube_c (p:=vP k) _ (vP_sm (by omega))) ?_
    rintro v u e ⟨A2,cap2,_,rfl,rfl,hN⟩; replace m:=m.newO e hN; clear e hN
    obtain ⟨gc,rfl⟩:=(m.o 0 rfl).some (by rw [cubeT_length]; decide)
    rw [cubeT_length] at m ⊢
    refine n_val (r_assign) (n_nil (k14 _ _ ?_))
    refine c_seq fun K15 k15=>wp_region_lit (n_val (r_build_23_0_1_2 rfl rfl rfl) (n_val (r_build_23_0_1_2 rfl rfl rfl) ?_))
    simp only [ev,zD,zE,zF,zG]
    refine n_val (r_build_23_0_1_2 rfl rfl rfl) (n_val (r_build_23_0_1_2 rfl rfl rfl) (n_val (r_build_23_0_1_2 rfl rfl rfl) (n_val (r_build_23_0_1_2 rfl rfl rfl) ?_)))
    simp only [ev,zD,zE,zF,zG]
    refine n_val (r_build_91_0_1_2_3_4_5 rfl rfl rfl rfl rfl rfl) ?_
    simp only [ev,zD,zE,zF,zG]
    refine malloc m zero_91 rfl ?_
    clear m; intro g3 u m
    simp only [ev,zD,zE,zF,zG]
    refine mstoreA m 0 rfl rfl rfl cells_91 (leT rfl) rfl ?_
    clear m; intro u m; simp only [over,zH,zI,zJ,zK,zL,zM,zN,zO,zP,zF,zG,Nat.reduceAdd] at m
    refine n_nil (k15 _ _ ?_)
    refine c_seq fun K16 k16=>wp_region_lit (n_val (r_assign) (n_nil (k16 _ _ ?_)))
    refine wp_block ?_
    simp only [ev,zD,zE,zF,zG]
    try simp only [Nat.zero_add,Nat.reduceAdd,Nat.reduceMul,Int.reduceToNat]
    refine c_loopg [7,15] [16,17,18,19,66,67,68,69,70,71,72,73,74,75,76,77,78,79,80,81,82,83,84,85,86,87,88,89,90,91,92,93,94,95,96,97,98,99,100,101,102,103,104,105,106,107,108,109,110,111,112,113,114,115,116,117,118,119,120,121,122,123,124,125,126,127,128,129,130,131,132,133,134,135,136,137,138,139] (fun n vs wl=>∃ (A1 : Option Addr) (cap1 f : Nat),vs = [.slice A1 (voxPre b (k) (f)).length cap1,.int .i64 (f:Int)] ∧ Mem w wl [bI g3 stepCells 91,oI 59 9 (some ⟨gc,0,none⟩) 12 cap2 ((cubeT (vP k) 8).flatMap triCells),oI 59 9 A1 (voxPre b (k) (f)).length cap1 ((voxPre b (k) (f)).flatMap triCells),bI g1 [.int .i64 4,.int .i64 5,.int .i64 6] 28] ∧ (f ≤ 6) ∧ (n = 6 - f)) ?_ ?_
    ·
     apply Exists.intro
     simp only [zQ,zR,zD,zE]
     exact ⟨_,_,0,rfl,(m.sel [true,true,false,true,true]),Nat.zero_le _,rfl⟩
    ·
     intro n vs wr hI u
     clear m
     obtain ⟨A1,cap1,f,rfl,m,hf6,hn2⟩:=hI
     simp only [setG_cons,setG_nil,setMany_cons,setMany_nil,zF,zG]
     refine c_seq fun K17 k17=>c_seq fun K18 k18=>wp_region_lit (n_val (r_move) (n_val (r_lss rfl rfl) (n_nil (k18 _ _ ?_))))
     simp only [ev,zD,zE,zF,zG]
     refine c_if rfl (fun hc3=>?_) (fun hc3=>?_)
     ·
      have hf : f < 6:=by omega
      have hs:=st_bd f
      obtain ⟨t,u0,ht,hu,hpr⟩:=vox_at (n:=k) hf
      refine wp_skip (k17 _ _ ?_)
      refine c_seq fun K19 k19=>wp_block (c_seq fun K20 k20=>wp_region_lit (n_val (r_move) (n_val (r_move) ?_)))
      simp only [ev,zD,zE,zF,zG]
      refine n_val (r_indexAddrA Tryz.underlying91 cells_23 rfl rfl (by omega) (by omega) (addrBN (Int.toNat_natCast _))) (n_val (r_indexAddrA Tryz.underlying23 cells_3 rfl rfl (by decide) (by decide) rfl) ?_)
      simp only [ev,zD,zE,zF,zG]
      refine n_load rfl ((m.b 0 rfl).lies1 (i:=f * 3) agg_3 (stc_x hf)) ?_
      simp only [ev,zD,zE,zF,zG]
      refine n_val (r_add rfl rfl (wrap_i64 (by omega) (by omega))) (n_val (r_assign) (n_nil (k20 _ _ ?_)))
      refine c_seq fun K21 k21=>wp_region_lit (n_val (r_move) (n_val (r_move) ?_))
      simp only [ev,zD,zE,zF,zG]
      refine n_val (r_indexAddrA Tryz.underlying91 cells_23 rfl rfl (by omega) (by omega) (addrBN (Int.toNat_natCast _))) (n_val (r_indexAddrA Tryz.underlying23 cells_3 rfl rfl (by decide) (by decide) rfl) ?_)
      simp only [ev,zD,zE,zF,zG]
      refine n_load rfl ((m.b 0 rfl).lies1 (i:=f * 3 + 1) agg_3 (stc_y hf)) ?_
      simp only [ev,zD,zE,zF,zG]
      refine n_val (r_add rfl rfl (wrap_i64 (by omega) (by omega))) (n_val (r_assign) (n_nil (k21 _ _ ?_)))
      refine c_seq fun K22 k22=>wp_region_lit (n_val (r_move) (n_val (r_move) ?_))
      simp only [ev,zD,zE,zF,zG]
      refine n_val (r_indexAddrA Tryz.underlying91 cells_23 rfl rfl (by omega) (by omega) (addrBN (Int.toNat_natCast _))) (n_val (r_indexAddrA Tryz.underlying23 cells_3 rfl rfl (by decide) (by decide) rfl) ?_)
      simp only [ev,zD,zE,zF,zG]
      refine n_load rfl ((m.b 0 rfl).lies1 (i:=f * 3 + 2) agg_3 (stc_z hf)) ?_
      simp only [ev,zD,zE,zF,zG]
      refine n_val (r_add rfl rfl (wrap_i64 (by omega) (by omega))) (n_val (r_assign) (n_nil (k22 _ _ ?_)))
      refine c_seq fun K23 k23=>wp_region_lit (n_val (r_move) (n_val (r_geq rfl rfl) ?_))
      simp only [ev,zD,zE,zF,zG]
      refine n_val (r_move) (n_mayT rfl (fun hb=>r_move) (n_mayT rfl (fun hb=>r_lss (mayE hb rfl) rfl) (n_val (r_pickAnd rfl rfl rfl) ?_)))
      simp only [ev,zD,zE,zF,zG]
      refine n_val (r_move) (n_mayT rfl (fun hb=>r_move) (n_mayT rfl (fun hb=>r_geq (mayE hb rfl) rfl) (n_val (r_pickAnd rfl rfl rfl) ?_)))
      simp only [ev,zD,zE,zF,zG]
      refine n_val (r_move) (n_mayT rfl (fun hb=>r_move) (n_mayT rfl (fun hb=>r_lss (mayE hb rfl) rfl) (n_val (r_pickAnd rfl rfl rfl) ?_)))
      simp only [ev,zD,zE,zF,zG]
      refine n_val (r_move) (n_mayT rfl (fun hb=>r_move) (n_mayT rfl (fun hb=>r_geq (mayE hb rfl) rfl) (n_val (r_pickAnd rfl rfl rfl) ?_)))
      simp only [ev,zD,zE,zF,zG]
      refine n_val (r_move) (n_mayT rfl (fun hb=>r_move) (n_mayT rfl (fun hb=>r_lss (mayE hb rfl) rfl) (n_val (r_pickAnd rfl rfl rfl) ?_)))
      simp only [ev,zD,zE,zF,zG]
      refine n_val (r_assign) (n_nil (k23 _ _ ?_))
      refine c_seq fun K24 k24=>wp_region_lit (n_val (r_move) (n_val (r_not rfl) (n_val (r_move) ?_)))
      simp only [ev,zD,zE,zF,zG]
      refine n_mayF rfl (fun hb=>r_move) (n_mayF rfl (fun hb=>r_move) ?_)
      simp only [ev,zD,zE,zF,zG]
      refine n_mayF rfl (fun hb=>r_mul (mayE hb rfl) rfl (wrap_i64 (by omega) (by omega))) (n_mayF rfl (fun hb=>r_move) ?_)
      simp only [ev,zD,zE,zF,zG]
      refine n_mayF rfl (fun hb=>r_add (mayE hb rfl) (mayE hb rfl) (wrap_i64 (by omega) (by omega))) ?_
      simp only [ev,zD,zE,zF,zG]
      refine n_mayF rfl (fun hb=>r_mul (mayE hb rfl) rfl (wrap_i64 (by omega) (by omega))) (n_mayF rfl (fun hb=>r_move) ?_)
      simp only [ev,zD,zE,zF,zG]
      refine n_mayF rfl (fun hb=>r_add (mayE hb rfl) (mayE hb rfl) (wrap_i64 (by omega) (by omega))) (n_mayF rfl (fun hb=>r_conv Tryz.underlying89 Tryz.underlying3 (mayE hb rfl) (wrap_u64 (by have h:=vin hb; omega) (by have h:=vin hb; omega))) ?_)
      simp only [ev,zD,zE,zF,zG]
      refine n_mayF rfl (fun hb=>r_shr (mayE hb rfl) (mayE hb rfl) (by have h:=vin hb; omega) (shrI (by have h:=vin hb; omega) (by have h:=vin hb; omega))) (n_mayF rfl (fun hb=>r_and (mayE hb rfl) rfl (and1 (div_le hb0))) (n_mayF rfl (fun hb=>r_eql (mayE hb rfl) rfl) (n_val (r_pickOr rfl rfl rfl) ?_)))
      simp only [ev,zD,zE,zF,zG]
      refine n_nil (k24 _ _ ?_)
      refine c_cond rfl (fun hc4=>?_) (fun hc4=>?_)
      ·
       have hvf:=(vface_eq (b:=b) (n:=k) (f:=f)).symm.trans hc4
       refine mh m [true,true,false,true] [(0,true),(1,true),(2,true),(3,true),(4,true),(6,true),(7,true),(8,true),(9,true),(10,true),(5,true),(11,true),(12,false),(13,false),(14,true)] follows_mixed (by kernel_rfl) (panic_put (fun _ _ _ _ _ h=>h)) (ol:=?_) ?hol ?_
       case hol=>simp only [zQ,zR,zS,zT,zU,zV]; try rfl
       clear m; intro u m
       refine h_val (r_move) (h_val (r_move) (h_val (r_move) ?_))
       simp only [ev,zD,zE,zF,zG]
       refine h_val (r_mul rfl rfl (wrap_i64 (by omega) (by omega))) ?_
       simp only [ev,zD,zE,zF,zG]
       refine h_val (r_indexAddrS Tryz.underlying24 cells_59 rfl rfl (by omega) (by omega) (addrN (show _ = 2 * f by omega))) (h_val (r_move) (h_val (r_move) ?_))
       simp only [ev,zD,zE,zF,zG]
       refine h_val (r_mul rfl rfl (wrap_i64 (by omega) (by omega))) ?_
       simp only [ev,zD,zE,zF,zG]
       refine h_val (r_add rfl rfl (wrap_i64 (by omega) (by omega))) ?_
       simp only [ev,zD,zE,zF,zG]
       refine h_val (r_indexAddrS Tryz.underlying24 cells_59 rfl rfl (by omega) (by omega) (addrN (show _ = 2 * f + 1 by omega))) ?_
       simp only [ev,zD,zE,zF,zG]
       refine h_load rfl (fun u m=>(((m.o 1 rfl).tri ht).lies agg_59 cells_59)) ?_
       simp only [ev,zD,zE,zF,zG]
       refine h_load rfl (fun u m=>(((m.o 1 rfl).tri hu).lies agg_59 cells_59)) ?_
       simp only [ev,zD,zE,zF,zG]
       refine h_step (n_bs_24_2 rfl rfl ?_)
       intro u g4 e hg hB; replace m:=m.newB e hg hB; clear e hg hB
       refine n_nil ?_
       refine ⟨m.sel [false,true,true,false,true],?_⟩
       refine h_step ?_
       simp only [ev,zD,zE,zF,zG]
       refine mappend m 3 rfl rfl Tryz.underlying24 inf_59 rfl (by decide) rfl rfl rfl (m.b 0 rfl).rowsO (allT rfl) (by have:=voxPre_le (b:=b) (n:=k) (f:=f) (by omega) (by omega); omega) (by have:=voxPre_le (b:=b) (n:=k) (f:=f) (by omega) (by omega); omega) ?_
       clear m; intro A1 cap1 u m; simp only [zF,zG] at m
       rw [vox_cells hpr hvf,vox_len hf hvf] at m
       rw [vox_len hf hvf]
       refine n_nil ?_
       refine ⟨m.sel [false,true,true,false,true],?_⟩
       refine h_val (r_assign) (h_nil (k19 _ _ ?_))
       refine wp_region_lit (n_val (r_move) ?_)
       simp only [ev,zD,zE,zF,zG]
       refine n_val (r_add rfl rfl (wrap_i64 (by omega) (by omega))) (n_val (r_assign) (n_nil ?_))
       simp only [ev,zD,zE,zF,zG]
       simp only [Exit.inBlock,Exit.then]
       refine ⟨6 - (f + 1),_,?_,rfl,?_,?_⟩
       · omega
       · simp only [zQ,zR,zD,zE,setG_cons,setG_nil,setMany_cons,setMany_nil,zF,zG]
       ·
        simp only [zQ,zR,zD,zE]
        exact ⟨_,_,f + 1,rfl,(m.sel [false,true,true,true,true]),by omega,rfl⟩
      ·
       have hvf:=(vface_eq (b:=b) (n:=k) (f:=f)).symm.trans hc4
       rw [← voxPre_out hvf] at m ⊢
       refine wp_skip (k19 _ _ ?_)
       refine wp_region_lit (n_val (r_move) ?_)
       simp only [ev,zD,zE,zF,zG]
       refine n_val (r_add rfl rfl (wrap_i64 (by omega) (by omega))) (n_val (r_assign) (n_nil ?_))
       simp only [ev,zD,zE,zF,zG]
       simp only [Exit.inBlock,Exit.then]
       refine ⟨6 - (f + 1),_,?_,rfl,?_,?_⟩
       · omega
       · simp only [zQ,zR,zD,zE,setG_cons,setG_nil,setMany_cons,setMany_nil,zF,zG]
       ·
        simp only [zQ,zR,zD,zE]
        exact ⟨_,_,f + 1,rfl,m,by omega,rfl⟩
     ·
      have hfq : f = 6:=by omega
      rw [hfq,voxPre_yes hv] at m ⊢
      refine wp_exit (k7 _ _ ?_)
      refine wp_region_lit (n_val (r_move) ?_)
      simp only [ev,zD,zE,zF,zG]
      refine n_val (r_add rfl rfl (wrap_i64 (by omega) (by omega))) (n_val (r_assign) (n_nil ?_))
      simp only [ev,zD,zE,zF,zG]
      simp only [Exit.inBlock,Exit.then]
      refine ⟨27 - (k + 1),_,?_,rfl,?_,?_⟩
      · omega
      · simp only [zQ,zR,zD,zE,setG_cons,setG_nil,setMany_cons,setMany_nil,zF,zG]
      ·
       simp only [zQ,zR,zD,zE]
       exact ⟨_,_,k + 1,rfl,(m.sel [false,false,true,true]),by omega,rfl⟩
  ·
   have hkq : k = 27:=by omega
   rw [hkq,voxPre_end] at m ⊢
   refine wp_exit (k3 _ _ ?_)
   refine c_seq fun K25 k25=>wp_region_lit (n_val (r_move) (n_val (r_assign) (n_nil (k25 _ _ ?_))))
   refine wp_ret ?_
   simp only [ev,zD,zE,zF,zG]
   try simp only [Exit.inBlock,Exit.then,if_true]
   refine fin1 rfl rfl ?_
   try simp only [zD,zE]
   exact ⟨_,rfl,m.ext,⟨_,_,_,rfl,rfl,(m.o 0 rfl)⟩⟩
end Go.Proofs.YtmcgcnpgkkfkoaaGreatDoor
namespace Go.Proofs.YtmcgcnpgkkfkoaaGreatDoor
open Go.RowKit Go.Lith
set_option maxRecDepth 100000
attribute [local irreducible] wpList wpQuiet wpMix wpMixH wpTree Code.wp
end Go.Proofs.YtmcgcnpgkkfkoaaGreatDoor
namespace Go.Proofs.YtmcgcnpgkkfkoaaGreatDoor
open Go.RowKit Go.Lith
set_option maxRecDepth 100000
attribute [local irreducible] wpList wpQuiet wpMix Code.wp
theorem trim_c {A : Option Addr} {xs : List Nat} {b na cap : Nat} (w : World) (hS : DigAt w b A na cap xs) : Does Tryz.prog 111 [.slice A na cap] w (fun v _=>v = .slice A (trim xs).length cap):=by
 skip
 refine ⟨en_111,?_⟩
 have hX:=Ext.refl w
 obtain rfl:=hS.eq
 have hl:=hS.len
 have hle:=hS.le
 have hcp:=hS.cap
 go_enter Tryz.func111,Tryz.ntmps111
 refine c_seq (fun K1 hK1=>wp_region_lit (n_val (r_assign) ?_))
 simp only [ev,zD,zE,zF,zG]
 refine n_nil ?_
 refine hK1 _ _ ?_
 refine c_seq (fun K2 hK2=>wp_block ?_)
 refine c_loopg [0] [3,4,5,6,7,8,9,10,11,12,13,14,15,16,17,18,19] (fun n vs wl=>∃ (k : Nat),vs = [.slice A k cap] ∧ (Ext w wl) ∧ (k ≤ xs.length) ∧ (trim (xs.take k) = trim xs) ∧ (n = k)) ?_ ?_
 ·
  apply Exists.intro
  simp only [zQ,zR,zD,zE]
  exact ⟨xs.length,rfl,hX,Nat.le_refl _,by rw [List.take_length],rfl⟩
 ·
  intro n vs wr hI u
  obtain ⟨k,rfl,hX,hk,ht,hn⟩:=hI
  simp only [setG_cons,setG_nil,setMany_cons,setMany_nil,zF,zG]
  refine c_seq (fun K3 hK3=>c_seq (fun K4 hK4=>?_))
  by_cases hk0 : 0 < k
  ·
   obtain ⟨a,rfl,hcell,hlt⟩:=(hS.ext hX).get (show k - 1 < xs.length by omega)
   refine wp_region_lit (n_val (r_move) (n_val (r_lenS rfl Tryz.underlying22 rfl) (n_val (r_gtrT rfl rfl (by omega)) ?_)))
   simp only [ev,zD,zE,zF,zG]
   refine n_val (r_move) ?_
   simp only [ev,zD,zE,zF,zG]
   refine n_want rfl (n_val (r_move) ?_)
   simp only [ev,zD,zE,zF,zG]
   refine n_want rfl (n_val (r_move) ?_)
   simp only [ev,zD,zE,zF,zG]
   refine n_want rfl (n_val (r_lenS rfl Tryz.underlying22 rfl) ?_)
   simp only [ev,zD,zE,zF,zG]
   refine n_want rfl (n_val (r_sub rfl rfl (wrap_i64 (by omega) (by omega))) ?_)
   simp only [ev,zD,zE,zF,zG]
   refine n_want rfl (n_val (r_indexAddrS Tryz.underlying22 cells_3 rfl rfl (by omega) (by omega) (addr1 (show _ = k - 1 by omega))) ?_)
   simp only [ev,zD,zE,zF,zG]
   refine n_want rfl ?_
   refine n_load rfl (lies1 hcell agg_3) ?_
   simp only [ev,zD,zE,zF,zG]
   refine n_want rfl (n_val (r_eql rfl rfl) (n_val (r_pickT rfl) ?_))
   simp only [ev,zD,zE,zF,zG]
   refine n_nil ?_
   refine hK4 _ _ ?_
   refine c_if rfl (fun hc1=>?_) (fun hc1=>?_)
   ·
    refine wp_skip ?_
    refine hK3 _ _ ?_
    refine wp_block (wp_region_lit (n_val (r_move) (n_val (r_move) (n_val (r_lenS rfl Tryz.underlying22 rfl) ?_))))
    simp only [ev,zD,zE,zF,zG]
    refine n_val (r_sub rfl rfl (wrap_i64 (by omega) (by omega))) (n_val (r_sliceHi Tryz.underlying22 cells_3 rfl rfl (show _ = k - 1 by omega) (by omega) (by omega)) (n_val (r_assign) ?_))
    simp only [ev,zD,zE,zF,zG]
    refine n_nil ?_
    simp only [Exit.inBlock,Exit.then]
    refine ⟨k - 1,_,?_,rfl,?_,?_⟩
    · omega
    · simp only [zQ,zR,zD,zE,setG_cons,setG_nil,setMany_cons,setMany_nil,zF,zG]
    ·
     simp only [zQ,zR,zD,zE]
     exact ⟨k - 1,rfl,hX,by omega,norm_zero hk0 (by omega) hc1 ht,rfl⟩
   ·
    refine wp_exit ?_
    refine hK2 _ _ ?_
    refine c_seq (fun K5 hK5=>wp_region_lit (n_val (r_move) (n_val (r_assign) ?_)))
    simp only [ev,zD,zE,zF,zG]
    refine n_nil ?_
    refine hK5 _ _ ?_
    refine wp_ret ?_
    try simp only [Exit.inBlock,Exit.then]
    refine fin1 rfl rfl ?_
    try simp only [zD,zE]
    exact ⟨_,rfl,hX,by rw [← norm_pos hk0 (by omega) hc1 ht]⟩
  ·
   obtain rfl : k = 0:=by omega
   refine wp_region_lit (n_val (r_move) (n_val (r_lenS rfl Tryz.underlying22 rfl) (n_val (r_gtrF rfl rfl (by omega)) ?_)))
   simp only [ev,zD,zE,zF,zG]
   refine n_val (r_move) ?_
   simp only [ev,zD,zE,zF,zG]
   refine n_skipT rfl ?_
   simp only [ev,zD,zE,zF,zG]
   refine n_skipT rfl ?_
   simp only [ev,zD,zE,zF,zG]
   refine n_skipT rfl ?_
   simp only [ev,zD,zE,zF,zG]
   refine n_skipT rfl ?_
   simp only [ev,zD,zE,zF,zG]
   refine n_skipT rfl ?_
   simp only [ev,zD,zE,zF,zG]
   refine n_skipT rfl ?_
   simp only [ev,zD,zE,zF,zG]
   refine n_skipT rfl ?_
   simp only [ev,zD,zE,zF,zG]
   refine n_val (r_pickF rfl) ?_
   simp only [ev,zD,zE,zF,zG]
   refine n_nil ?_
   refine hK4 _ _ ?_
   refine c_no rfl (wp_exit ?_)
   refine hK2 _ _ ?_
   refine c_seq (fun K6 hK6=>wp_region_lit (n_val (r_move) (n_val (r_assign) ?_)))
   simp only [ev,zD,zE,zF,zG]
   refine n_nil ?_
   refine hK6 _ _ ?_
   refine wp_ret ?_
   try simp only [Exit.inBlock,Exit.then]
   refine fin1 rfl rfl ?_
   try simp only [zD,zE]
   exact ⟨_,rfl,hX,by rw [← norm_nil ht]⟩
end Go.Proofs.YtmcgcnpgkkfkoaaGreatDoor
namespace Go.Proofs.YtmcgcnpgkkfkoaaGreatDoor
open Go.RowKit Go.Lith
set_option maxRecDepth 100000
attribute [local irreducible] wpList wpQuiet wpMix Code.wp
end Go.Proofs.YtmcgcnpgkkfkoaaGreatDoor
namespace Go.Proofs.YtmcgcnpgkkfkoaaGreatDoor
open Go.RowKit Go.Lith
set_option maxRecDepth 100000
attribute [local irreducible] wpList wpQuiet wpMix Code.wp
end Go.Proofs.YtmcgcnpgkkfkoaaGreatDoor
namespace Go.Lith
open Go.RowKit
def wb2 (x : Nat) : List UInt8:=[UInt8.ofNat (x / 256),UInt8.ofNat x]
theorem val_rev_bytes2 (ys : List Nat) (h : Digs 65536 ys) : val 256 (((ys.reverse.flatMap wb2).reverse).map UInt8.toNat) = val 65536 ys ∧ Digs 256 (((ys.reverse.flatMap wb2).reverse).map UInt8.toNat):=by
  induction ys with
  | nil=>exact ⟨rfl,fun _ h=>by cases h⟩
  | cons y ys ih =>
    have hy:=h y (by simp)
    obtain ⟨i1,i2⟩:=ih (fun x hx=>h x (by simp [hx]))
    have e : (((y :: ys).reverse.flatMap wb2).reverse).map UInt8.toNat = [y % 256,y / 256 % 256] ++ (((ys.reverse.flatMap wb2).reverse).map UInt8.toNat):=by
      simp [List.flatMap_append,wb2,UInt8.toNat_ofNat']
    rw [e]
    refine ⟨?_,?_⟩
    · rw [val_append,i1]
      simp only [val,List.length_cons,List.length_nil]
      omega
    · refine Digs.append ?_ i2
      intro x hx
      simp at hx
      omega
theorem wide_bytes2 {ys : List Nat} (h : Digs 65536 ys) (neg : Bool) : strOf (strip (ys.reverse.flatMap wb2)) = wmag (sgn neg (val 65536 ys)):=by
  obtain ⟨h1,h2⟩:=val_rev_bytes2 ys h
  rw [strip_bytes,trim_eq_digs (by omega) h2 h1,wmag,sgn_natAbs,beBytes]
  rfl
def laid2 (ys : List Nat) (k : Nat) : List UInt8:=strip ((ys.drop k).reverse.flatMap wb2)
theorem strip_append {l m : List UInt8} (h : strip l ≠ []) : strip (l ++ m) = strip l ++ m:=by
  induction l with
  | nil=>exact absurd rfl h
  | cons b l ih =>
    by_cases hb : b = 0
    · subst hb
      have e : strip (0 :: l) = strip l:=by simp [strip]
      have e2 : strip ((0 :: l) ++ m) = strip (l ++ m):=by simp [strip]
      rw [e] at h
      rw [e,e2,ih h]
    · simp [strip,hb]
theorem laid2_next {ys : List Nat} {k : Nat} (hk : 0 < k) (hl : k - 1 < ys.length) (h : laid2 ys k ≠ []) : laid2 ys (k - 1) = laid2 ys k ++ [UInt8.ofNat (ys[k - 1] / 256)] ++ [UInt8.ofNat (ys[k - 1] % 256)] ∧ laid2 ys (k - 1) ≠ []:=by
  have e : laid2 ys (k - 1) = laid2 ys k ++ [UInt8.ofNat (ys[k - 1] / 256)] ++ [UInt8.ofNat (ys[k - 1] % 256)]:=by
    unfold laid2 at *
    rw [List.drop_eq_getElem_cons hl,show k - 1 + 1 = k by omega,List.reverse_cons,List.flatMap_append,strip_append h]
    have : UInt8.ofNat (ys[k - 1] % 256) = UInt8.ofNat (ys[k - 1]):=by
      apply UInt8.toNat_inj.1
      simp [UInt8.toNat_ofNat']
    rw [this]
    simp [wb2]
  exact ⟨e,by rw [e]; simp⟩
theorem laid2_first {ys : List Nat} (hl : ys.length - 1 < ys.length) (h0 : 0 < ys[ys.length - 1]) (h16 : ys[ys.length - 1] < 65536) :
    laid2 ys (ys.length - 1) = (if 256 ≤ ys[ys.length - 1] then [UInt8.ofNat (ys[ys.length - 1] / 256)] else []) ++ [UInt8.ofNat (ys[ys.length - 1] % 256)] ∧ laid2 ys (ys.length - 1) ≠ []:=by
  have e : laid2 ys (ys.length - 1) = strip (wb2 (ys[ys.length - 1])):=by
    unfold laid2
    rw [List.drop_eq_getElem_cons hl,show ys.length - 1 + 1 = ys.length by omega,List.drop_length]
    simp
  generalize ys[ys.length - 1] = x at *
  have hm : UInt8.ofNat (x % 256) = UInt8.ofNat x:=by
    apply UInt8.toNat_inj.1
    simp [UInt8.toNat_ofNat']
  have ez : ∀ y : Nat,y < 256 → (UInt8.ofNat y = 0 ↔ y = 0):=fun y hy=>by
    rw [← UInt8.toNat_inj]
    simp only [UInt8.toNat_ofNat',UInt8.toNat_zero]
    rw [Nat.mod_eq_of_lt (by omega)]
  have e2 : strip (wb2 x) = (if 256 ≤ x then [UInt8.ofNat (x / 256)] else []) ++ [UInt8.ofNat (x % 256)]:=by
    split
    · rename_i h
      have hn : ¬ UInt8.ofNat (x / 256) = 0:=fun e=>by have:=(ez _ (by omega)).1 e; omega
      rw [hm]
      simp [strip,wb2,hn]
    · rename_i h
      have hz : UInt8.ofNat (x / 256) = 0:=(ez _ (by omega)).2 (by omega)
      have hn : ¬ UInt8.ofNat x = 0:=fun e=>by have:=(ez _ (by omega)).1 e; omega
      rw [hm]
      simp [strip,wb2,hz,hn]
  exact ⟨e.trans e2,by rw [e,e2]; simp⟩
theorem laid2_all (ys : List Nat) : laid2 ys ys.length = []:=by unfold laid2; rw [List.drop_length]; rfl
theorem laid2_zero {ys : List Nat} (h : Digs 65536 ys) (neg : Bool) : strOf (laid2 ys 0) = wmag (sgn neg (val 65536 ys)):=by
  unfold laid2; rw [List.drop_zero]; exact wide_bytes2 h neg
theorem laid2_len (ys : List Nat) (k : Nat) : (laid2 ys k).length ≤ 2 * ys.length:=by
  have h1 : ∀ l : List UInt8,(strip l).length ≤ l.length:=fun l=>by
    induction l with
    | nil=>simp [strip]
    | cons b l ih =>
      unfold strip at *
      rw [List.dropWhile_cons]
      split
      · simp; omega
      · simp
  have h2 : ∀ l : List Nat,(l.flatMap wb2).length = 2 * l.length:=fun l=>by
    induction l with
    | nil=>rfl
    | cons x l ih=>rw [List.flatMap_cons,List.length_append,ih]; simp [wb2]; omega
  refine Nat.le_trans (h1 _) ?_
  rw [h2]
  simp
  omega
theorem Owns.snoc8 {w : World} {b : Nat} {E : TypeId} {v : Value} {os : List UInt8} {x : Nat} (h : Owns w b E 1 v (os.length + 1) (os.map u8v ++ [.int .u8 (x : Int)])) (hx : x < 256) : Owns w b E 1 v (os ++ [UInt8.ofNat x]).length ((os ++ [UInt8.ofNat x]).map u8v):=by
  have : u8v (UInt8.ofNat x) = .int .u8 (x : Int):=by simp only [u8v,UInt8.toNat_ofNat',Value.int.injEq,true_and]; rw [Nat.mod_eq_of_lt (by omega)]
  rw [List.map_append,List.map_singleton,this,List.length_append]
  exact h
theorem wrap_u8n {x : Nat} (h : x < 256) : IntKind.u8.wrap (x : Int) = (x : Int):=wrap_u8 (by omega) (by omega)
theorem from_round {os : List Nat} {m V : Nat} (hv : val 65536 os + 65536 ^ os.length * m = V) (hd : Digs 65536 os) (h2 : m < 2 ^ (64 - os.length)) (h3 : os.length ≤ 64) (h0 : 0 < m) :
    val 65536 (os ++ [m % 65536]) + 65536 ^ (os ++ [m % 65536]).length * (m / 65536) = V ∧ Digs 65536 (os ++ [m % 65536]) ∧ m / 65536 < 2 ^ (64 - (os ++ [m % 65536]).length) ∧ (os ++ [m % 65536]).length ≤ 64:=by
  have hl : os.length < 64:=by
    rcases Nat.lt_or_ge os.length 64 with h | h
    · exact h
    · rw [show 64 - os.length = 0 by omega] at h2; omega
  refine ⟨?_,hd.append (digs_cons (Nat.mod_lt _ (by omega)) (digs_nil _)),?_,by simp; omega⟩
  · rw [val_append,List.length_append,List.length_singleton,Nat.pow_succ]
    simp only [val,Nat.mul_zero,Nat.add_zero]
    have e : m = m % 65536 + 65536 * (m / 65536):=by omega
    generalize m / 65536 = q at *
    generalize m % 65536 = r at *
    generalize 65536 ^ os.length = p at *
    subst e
    grind
  · rw [List.length_append,List.length_singleton]
    have e : 2 ^ (64 - os.length) = 2 * 2 ^ (64 - (os.length + 1)):=by rw [← Nat.pow_succ']; congr 1; omega
    rw [e] at h2
    omega
end Go.Lith
