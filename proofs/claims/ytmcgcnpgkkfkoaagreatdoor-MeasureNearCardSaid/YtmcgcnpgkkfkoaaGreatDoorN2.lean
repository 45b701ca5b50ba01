/-
  Texts of one claim, laid together: Geo, Geo2, Geo3, Geo4, Geo5, Own, Al, Mem, Guard, Geo6, Open, Surf, Surf2, Facts, Facts2, Surf1, Surf3, Dig.
-/
import Derived.LoopN
import Derived.OpenShut
import Derived.Lib.SmallJoins
import Derived.Deep.Slices
import Derived.Test.YtmcgcnpgkkfkoaaGreatDoorProg
import Derived.Test.YtmcgcnpgkkfkoaaGreatDoorN1
set_option maxHeartbeats 8000000
set_option linter.unusedSimpArgs false
set_option linter.unusedVariables false
set_option linter.unusedSectionVars false
namespace Go.Lith
open Go.RowKit
structure P3 where
  x : Int
  y : Int
  z : Int
structure T3 where
  a : P3
  b : P3
  c : P3
namespace P3
def sub (p q : P3) : P3:=⟨p.x - q.x,p.y - q.y,p.z - q.z⟩
def dot (p q : P3) : Int:=p.x * q.x + p.y * q.y + p.z * q.z
def cross (u v : P3) : P3:=⟨u.y * v.z - u.z * v.y,u.z * v.x - u.x * v.z,u.x * v.y - u.y * v.x⟩
end P3
def T3.normal (t : T3) : P3:=(t.b.sub t.a).cross (t.c.sub t.a)
def pt (p : P3) : Go.Value:=.agg #[.int .i64 p.x,.int .i64 p.y,.int .i64 p.z]
def tr (t : T3) : Go.Value:=.agg #[.int .i64 t.a.x,.int .i64 t.a.y,.int .i64 t.a.z,.int .i64 t.b.x,.int .i64 t.b.y,.int .i64 t.b.z,.int .i64 t.c.x,.int .i64 t.c.y,.int .i64 t.c.z]
def wv (v : P3) : Go.Value:=.agg #[.bool (wneg v.x),.string (wmag v.x),.bool (wneg v.y),.string (wmag v.y),.bool (wneg v.z),.string (wmag v.z)]
theorem Bw.up {k m : Nat} {n : Int} [x : Bw k n] (h : k ≤ m:=by decide) : Bd m n:=x.h.mono h
theorem wmag_zero : wmag 0 = ⟨#[]⟩:=by
  have : beBytes 0 = []:=by
    unfold beBytes
    rw [(digs_eq_nil (B:=256) (by omega)).2 rfl]
    rfl
  simp only [wmag,Int.natAbs_zero,this]
theorem W_zero : W 0 = .agg #[.bool false,.string ⟨#[]⟩]:=by simp only [W,wmag_zero]; rfl
class Iw (n : Int) : Prop where
  h : I64 n
class I3 (p : P3) : Prop where
  x : I64 p.x
  y : I64 p.y
  z : I64 p.z
class IT (t : T3) : Prop where
  a : I3 t.a
  b : I3 t.b
  c : I3 t.c
instance {p : P3} [h : I3 p] : Iw p.x:=⟨h.x⟩
instance {p : P3} [h : I3 p] : Iw p.y:=⟨h.y⟩
instance {p : P3} [h : I3 p] : Iw p.z:=⟨h.z⟩
instance {t : T3} [h : IT t] : I3 t.a:=h.a
instance {t : T3} [h : IT t] : I3 t.b:=h.b
instance {t : T3} [h : IT t] : I3 t.c:=h.c
instance {n : Int} [h : Iw n] : Bw 64 n:=⟨h.h.bd⟩
class Bv (k : outParam Nat) (v : P3) : Prop where
  x : Bd k v.x
  y : Bd k v.y
  z : Bd k v.z
instance {k : Nat} {v : P3} [h : Bv k v] : Bw k v.x:=⟨h.x⟩
instance {k : Nat} {v : P3} [h : Bv k v] : Bw k v.y:=⟨h.y⟩
instance {k : Nat} {v : P3} [h : Bv k v] : Bw k v.z:=⟨h.z⟩
theorem Bv.mono {k m : Nat} {v : P3} (h : Bv k v) (hk : k ≤ m) : Bv m v:=⟨h.x.mono hk,h.y.mono hk,h.z.mono hk⟩
theorem Bv.of {k m : Nat} {v : P3} [h : Bv k v] (hk : k ≤ m:=by decide) : Bv m v:=h.mono hk
instance {p q : P3} [a : I3 p] [b : I3 q] : Bv 65 (p.sub q):=⟨a.x.bd.sub b.x.bd,a.y.bd.sub b.y.bd,a.z.bd.sub b.z.bd⟩
theorem bd_prod {k l : Nat} {a b c d : Int} (ha : Bd k a) (hb : Bd l b) (hc : Bd k c) (hd : Bd l d) : Bd (k + l + 1) (a * b - c * d):=by
  have:=(ha.mul hb).sub (hc.mul hd)
  exact this.mono (by omega)
theorem bd_prod' {k l : Nat} {a b c d : Int} (ha : Bd k a) (hb : Bd l b) (hc : Bd k c) (hd : Bd l d) : Bd (k + l + 1) (a * b + c * d):=by
  have:=(ha.mul hb).add (hc.mul hd)
  exact this.mono (by omega)
instance {k l : Nat} {u v : P3} [a : Bv k u] [b : Bv l v] : Bv (k + l + 1) (u.cross v):=⟨bd_prod a.y b.z a.z b.y,bd_prod a.z b.x a.x b.z,bd_prod a.x b.y a.y b.x⟩
instance {k l : Nat} {u v : P3} [a : Bv k u] [b : Bv l v] : Bw (k + l + 2) (u.dot v):=⟨((bd_prod' a.x b.x a.y b.y).add (a.z.mul b.z)).mono (by omega)⟩
instance {t : T3} [h : IT t] : Bv 131 t.normal:=inferInstanceAs (Bv 131 ((t.b.sub t.a).cross (t.c.sub t.a)))
theorem P3.dot0 {u v : P3} : 0 + u.x * v.x + u.y * v.y + u.z * v.z = u.dot v:=by simp only [P3.dot,Int.zero_add]
section
variable {P : Program} {Q : Exit → Act → World → Prop} {a : Act} {w : World} {c : Code} {n : Nat}
theorem rounds_step (h : c.wp P (Exit.then (Code.rounds P c Q n) Q) a w) : Code.rounds P c Q (n + 1) a w:=h
theorem then_rounds (h : c.wp P (Exit.then (Code.rounds P c Q n) Q) a w) : Exit.then (Code.rounds P c Q (n + 1)) Q .normal a w:=h
end
end Go.Lith
namespace Go.Lith
open Go.RowKit
def nv (v : P3) : Go.Value:=.agg #[.int .i64 v.x,.int .i64 v.y,.int .i64 v.z]
def sg (v : P3) : Go.Value:=.agg #[.int .i64 (isign v.x),.int .i64 (isign v.y),.int .i64 (isign v.z)]
class S3 (p : P3) : Prop where
  x : p.x.natAbs < 262144
  y : p.y.natAbs < 262144
  z : p.z.natAbs < 262144
class N3 (p : P3) : Prop where
  x : p.x.natAbs < 524288
  y : p.y.natAbs < 524288
  z : p.z.natAbs < 524288
instance {p q : P3} [a : S3 p] [b : S3 q] : N3 (p.sub q):=⟨by have:=a.x; have:=b.x; simp only [P3.sub]; omega,by have:=a.y; have:=b.y; simp only [P3.sub]; omega,by have:=a.z; have:=b.z; simp only [P3.sub]; omega⟩
theorem mulS {a b : Int} (ha : a.natAbs < 524288) (hb : b.natAbs < 524288) : -274877906944 < a * b ∧ a * b < 274877906944:=by
  have h : (a * b).natAbs ≤ 524287 * 524287:=by rw [Int.natAbs_mul]; exact Nat.mul_le_mul (by omega) (by omega)
  omega
theorem subS {x y : Int} (h : -274877906944 < x ∧ x < 274877906944) (k : -274877906944 < y ∧ y < 274877906944) : IntKind.i64.wrap (x - y) = x - y:=wrap_i64 (by omega) (by omega)
theorem wrapS {x : Int} (h : -274877906944 < x ∧ x < 274877906944) : IntKind.i64.wrap x = x:=wrap_i64 (by omega) (by omega)
theorem abs64 {v : Int} (h : I64 v) : IntKind.u64.wrap (if v < IntKind.i64.wrap (0 - v) then IntKind.i64.wrap (0 - v) else v) = (v.natAbs : Int):=by
  obtain ⟨h1,h2⟩:=h
  rcases Int.lt_or_le (-9223372036854775808) v with h3 | h3
  · rw [wrap_i64 (x:=0 - v) (by omega) (by omega),wrap_u64_emod]
    split <;> omega
  · obtain rfl : v = -9223372036854775808:=by omega
    decide
def len8 : ByteArray:=⟨#[0,1,2,2,3,3,3,3,4,4,4,4,4,4,4,4,5,5,5,5,5,5,5,5,5,5,5,5,5,5,5,5,6,6,6,6,6,6,6,6,6,6,6,6,6,6,6,6,6,6,6,6,6,6,6,6,6,6,6,6,6,6,6,6,7,7,7,7,7,7,7,7,7,7,7,7,7,7,7,7,7,7,7,7,7,7,7,7,7,7,7,7,7,7,7,7,7,7,7,7,7,7,7,7,7,7,7,7,7,7,7,7,7,7,7,7,7,7,7,7,7,7,7,7,7,7,7,7,8,8,8,8,8,8,8,8,8,8,8,8,8,8,8,8,8,8,8,8,8,8,8,8,8,8,8,8,8,8,8,8,8,8,8,8,8,8,8,8,8,8,8,8,8,8,8,8,8,8,8,8,8,8,8,8,8,8,8,8,8,8,8,8,8,8,8,8,8,8,8,8,8,8,8,8,8,8,8,8,8,8,8,8,8,8,8,8,8,8,8,8,8,8,8,8,8,8,8,8,8,8,8,8,8,8,8,8,8,8,8,8,8,8,8,8,8,8,8,8,8,8,8,8,8,8,8,8]⟩
theorem len8_spec : ∀ i,i < 256 → ∃ b : UInt8,len8[i]? = some b ∧ b.toNat ≤ 8 ∧ (b.toNat ≤ 2 → i < 4):=by
  have h : (List.range 256).all (fun i=>match len8[i]? with
    | some b=>decide (b.toNat ≤ 8) && (decide (2 < b.toNat) || decide (i < 4))
    | none=>false) = true:=by decide +kernel
  intro i hi
  have:=List.all_eq_true.1 h i (List.mem_range.2 hi)
  cases hb : len8[i]? with
  | none=>rw [hb] at this; cases this
  | some b =>
    rw [hb] at this
    simp only [Bool.and_eq_true,Bool.or_eq_true,decide_eq_true_eq] at this
    exact ⟨b,rfl,this.1,fun h=>by omega⟩
section
variable {P : Program} {ds : List Deferred} {l : List Value} {x y : Operand} {T ty : TypeId} {ops : Array Oper} {Q : Exit → Act → World → Prop} {rest : List Oper} {d : Nat} {pos : String} {after : Array Edge} {w : World} {k : IntKind}
theorem n_len8 {Y : Nat} (hu : P.underlying T = some .string) (hx : ev l x = .string len8) (hy : ev l y = .int k (Y : Int)) (hY : Y < 256) (h : ∀ b : Nat,b ≤ 8 → (b ≤ 2 → Y < 4) → wpList P ops Q rest (Fr (l.set d (.int .u8 (b : Int))) ds) w) :
    wpList P ops Q (Oper.mk (some d) (.index T x y) ty pos after none :: rest) (Fr l ds) w:=by
  obtain ⟨b,hb,h1,h2⟩:=len8_spec Y hY
  exact n_val (r_indexStr hu hx hy (by omega) (by rw [Int.toNat_natCast]; exact hb)) (h b.toNat h1 h2)
end
theorem shr16n {m : Nat} : (m : Int).fdiv (2 ^ (min (16 : Int).toNat IntKind.u64.bits)) = ((m / 65536 : Nat) : Int):=by
  show (m : Int).fdiv (2 ^ 16) = _
  rw [Int.fdiv_eq_ediv_of_nonneg _ (by decide)]
  omega
theorem shr8n {m : Nat} : (m : Int).fdiv (2 ^ (min (8 : Int).toNat IntKind.u64.bits)) = ((m / 256 : Nat) : Int):=by
  show (m : Int).fdiv (2 ^ 8) = _
  rw [Int.fdiv_eq_ediv_of_nonneg _ (by decide)]
  omega
end Go.Lith
namespace Go.Lith
open Go.RowKit
def segq (x p q : P3) : Rat :=
  if (q.sub p).dot (x.sub p) ≤ 0 then Rat.divInt ((x.sub p).dot (x.sub p)) 1
  else if (q.sub p).dot (q.sub p) ≤ (q.sub p).dot (x.sub p) then Rat.divInt ((q.sub x).dot (q.sub x)) 1
  else Rat.divInt ((x.sub p).dot (x.sub p) * (q.sub p).dot (q.sub p) - (q.sub p).dot (x.sub p) * (q.sub p).dot (x.sub p)) ((q.sub p).dot (q.sub p))
def side (n a b x : P3) : Int:=n.dot ((b.sub a).cross (x.sub a))
def ins (x : P3) (t : T3) : Prop:=0 ≤ side t.normal t.a t.b x ∧ 0 ≤ side t.normal t.b t.c x ∧ 0 ≤ side t.normal t.c t.a x
instance (x : P3) (t : T3) : Decidable (ins x t):=inferInstanceAs (Decidable (_ ∧ _ ∧ _))
def T3.flat (t : T3) : Prop:=t.normal.x = 0 ∧ t.normal.y = 0 ∧ t.normal.z = 0
instance (t : T3) : Decidable t.flat:=inferInstanceAs (Decidable (_ ∧ _ ∧ _))
def minq (m q : Rat) : Rat:=if q < m then q else m
def edgeq (x : P3) (t : T3) : Rat:=minq (minq (segq x t.a t.b) (segq x t.b t.c)) (segq x t.c t.a)
def faceq (x : P3) (t : T3) : Rat:=Rat.divInt (t.normal.dot (x.sub t.a) * t.normal.dot (x.sub t.a)) (t.normal.dot t.normal)
def triq (x : P3) (t : T3) : Rat:=if ¬ t.flat ∧ ins x t then faceq x t else edgeq x t
def farq (x : P3) : List T3 → Rat
  | []=>0
  | t :: ts=>ts.foldl (fun m u=>minq m (triq x u)) (triq x t)
theorem isign_zero_iff {n : Int} : isign n = 0 ↔ n = 0:=by
  unfold isign
  constructor
  · intro h
    split at h
    · cases h
    · split at h
      · cases h
      · omega
  · rintro rfl; rfl
theorem isign_nn {n : Int} : 0 ≤ isign n ↔ 0 ≤ n:=by
  unfold isign
  split
  · constructor <;> intro h <;> omega
  · split <;> constructor <;> intro h <;> omega
theorem isign_gt {n : Int} : 0 < isign n ↔ 0 < n:=by
  unfold isign
  split
  · constructor <;> intro h <;> omega
  · split <;> constructor <;> intro h <;> omega
theorem isign_le {n : Int} : isign n ≤ 0 ↔ n ≤ 0:=by
  have:=@isign_gt n
  omega
theorem flat_isign {t : T3} : (isign t.normal.x = 0 ∧ isign t.normal.y = 0 ∧ isign t.normal.z = 0) ↔ t.flat:=by
  simp only [isign_zero_iff,T3.flat]
theorem sq_nn (a : Int) : 0 ≤ a * a:=by
  rcases Int.le_total 0 a with h | h
  · exact Int.mul_nonneg h h
  · exact Int.mul_nonneg_of_nonpos_of_nonpos h h
theorem sq_pos {a : Int} (h : a ≠ 0) : 0 < a * a:=by
  rcases Int.lt_or_gt_of_ne h with h | h
  · exact Int.mul_pos_of_neg_of_neg h h
  · exact Int.mul_pos h h
theorem dot_nn (u : P3) : 0 ≤ u.dot u:=by
  have:=sq_nn u.x; have:=sq_nn u.y; have:=sq_nn u.z
  simp only [P3.dot]; omega
theorem dot_pos {u : P3} : 0 < u.dot u ↔ ¬ (u.x = 0 ∧ u.y = 0 ∧ u.z = 0):=by
  have h1:=sq_nn u.x; have h2:=sq_nn u.y; have h3:=sq_nn u.z
  constructor
  · rintro h ⟨e1,e2,e3⟩
    simp [P3.dot,e1,e2,e3] at h
  · intro h
    simp only [P3.dot]
    by_cases e1 : u.x = 0
    · by_cases e2 : u.y = 0
      · by_cases e3 : u.z = 0
        · exact absurd ⟨e1,e2,e3⟩ h
        · have:=sq_pos e3; omega
      · have:=sq_pos e2; omega
    · have:=sq_pos e1; omega
theorem flat_dot {t : T3} : 0 < t.normal.dot t.normal ↔ ¬ t.flat:=dot_pos
theorem Bq.mono {k m : Nat} {q : Rat} (h : Bq k q) (hk : k ≤ m) : Bq m q:=⟨h.n.mono hk,h.d.mono hk⟩
theorem bd_11 : Bd 1 1:=by
  show Int.natAbs 1 < 2 ^ 1
  decide
instance : Bw 1 1:=⟨bd_11⟩
theorem bd_one {k : Nat} : Bd (k + 1) 1:=bd_11.mono (by omega)
theorem segq_bq {x p q : P3} [I3 x] [I3 p] [I3 q] : Bq 1000 (segq x p q):=by
  unfold segq
  split
  · exact (Bq.mk' (a:=200) (b:=1) Bw.up bd_11 (by decide)).mono (by decide)
  · split
    · exact (Bq.mk' (a:=200) (b:=1) Bw.up bd_11 (by decide)).mono (by decide)
    · exact (Bq.mk' (a:=400) (b:=200) Bw.up Bw.up (by rename_i h1 h2; have:=dot_nn (q.sub p); omega)).mono (by decide)
theorem minq_bq {m q : Rat} (h : Bq 1000 m) (k : Bq 1000 q) : Bq 1000 (minq m q):=by
  unfold minq
  split
  · exact k
  · exact h
theorem triq_bq {x : P3} {t : T3} [I3 x] [IT t] : Bq 1000 (triq x t):=by
  unfold triq
  split
  · rename_i h
    have:=flat_dot.2 h.1
    exact (Bq.mk' (a:=500) (b:=300) Bw.up Bw.up (by omega)).mono (by decide)
  · exact minq_bq (minq_bq segq_bq segq_bq) segq_bq
theorem foldl_bq {x : P3} [I3 x] : ∀ (ts : List T3) (m : Rat),(∀ t ∈ ts,IT t) → Bq 1000 m → Bq 1000 (ts.foldl (fun m u=>minq m (triq x u)) m)
  | [],m,_,h=>h
  | t :: ts,m,ht,h=>by
    haveI:=ht t (by simp)
    exact foldl_bq ts _ (fun u hu=>ht u (by simp [hu])) (minq_bq h triq_bq)
theorem triq_edge {x : P3} {t : T3} (h : ¬ (¬ t.flat ∧ ins x t)) : edgeq x t = triq x t:=by rw [triq,if_neg h]
theorem triq_face {x : P3} {t : T3} (h : ¬ t.flat ∧ ins x t) : faceq x t = triq x t:=by rw [triq,if_pos h]
theorem no0 {x : P3} {t : T3} (h : false = !decide (isign t.normal.x = 0 ∧ isign t.normal.y = 0 ∧ isign t.normal.z = 0)) : ¬ (¬ t.flat ∧ ins x t):=fun ⟨h0,_⟩=>by
  rw [decide_eq_false (fun e=>h0 (flat_isign.1 e))] at h
  cases h
theorem yes0 {t : T3} (h : true = !decide (isign t.normal.x = 0 ∧ isign t.normal.y = 0 ∧ isign t.normal.z = 0)) : ¬ t.flat:=fun e=>by
  rw [decide_eq_true (flat_isign.2 e)] at h
  cases h
theorem no_side {n : Int} (h : false = decide (0 ≤ isign n)) : ¬ 0 ≤ n:=fun e=>of_decide_eq_false h.symm (isign_nn.2 e)
theorem yes_side {n : Int} (h : true = decide (0 ≤ isign n)) : 0 ≤ n:=isign_nn.1 (of_decide_eq_true h.symm)
theorem Bq.up {k m : Nat} {q : Rat} [h : Bq k q] (hk : k ≤ m:=by decide) : Bq m q:=h.mono hk
instance {x p q : P3} [I3 x] [I3 p] [I3 q] : Bq 1000 (segq x p q):=segq_bq
instance {x : P3} {t : T3} [I3 x] [IT t] : Bq 1000 (triq x t):=triq_bq
theorem farq_bq {x : P3} [I3 x] {ts : List T3} (h : ∀ t ∈ ts,IT t) : Bq 1000 (farq x ts):=by
  cases ts with
  | nil=>exact ⟨(bd_zero 1000),by show Bd 1000 1; exact bd_one⟩
  | cons t ts =>
    haveI:=h t (by simp)
    exact foldl_bq ts _ (fun u hu=>h u (by simp [hu])) triq_bq
theorem farq_one {x : P3} {ts : List T3} {t : T3} (h : ts[0]? = some t) : farq x (ts.take 1) = triq x t:=by
  cases ts with
  | nil=>cases h
  | cons u ts=>cases h; rfl
theorem farq_step {x : P3} {ts : List T3} {t : T3} {k : Nat} (hk : k ≠ 0) (h : ts[k]? = some t) : farq x (ts.take (k + 1)) = minq (farq x (ts.take k)) (triq x t):=by
  cases ts with
  | nil=>cases h
  | cons u ts =>
    obtain ⟨k,rfl⟩ : ∃ j,k = j + 1:=⟨k - 1,by omega⟩
    rw [List.take_succ_cons,List.take_succ_cons,List.take_add_one]
    simp only [List.getElem?_cons_succ] at h
    rw [h]
    simp [farq,List.foldl_append]
structure TrisAt (w : World) (A : Option Addr) (n : Nat) (ts : List T3) : Prop where
  len : ts.length = n
  it : ∀ t ∈ ts,IT t
  row : ∀ i t,ts[i]? = some t → ∃ a,A = some a ∧ Row w (a.add (i * 9)) [.int .i64 t.a.x,.int .i64 t.a.y,.int .i64 t.a.z,.int .i64 t.b.x,.int .i64 t.b.y,.int .i64 t.b.z,.int .i64 t.c.x,.int .i64 t.c.y,.int .i64 t.c.z]
theorem TrisAt.ext {w w' : World} {A : Option Addr} {n : Nat} {ts : List T3} (h : TrisAt w A n ts) (hE : Ext w w') : TrisAt w' A n ts :=
  ⟨h.len,h.it,fun i t hi=>let ⟨a,e,hr⟩:=h.row i t hi; ⟨a,e,hr.ext hE⟩⟩
theorem TrisAt.nil (w : World) (A : Option Addr) : TrisAt w A 0 []:=⟨rfl,fun t h=>(by cases h),fun i t h=>(by cases h)⟩
theorem TrisAt.get {w : World} {A : Option Addr} {n : Nat} {ts : List T3} (h : TrisAt w A n ts) {i : Nat} (hi : i < n) : ∃ t,ts[i]? = some t ∧ IT t ∧ ∃ a,A = some a ∧ Row w (a.add (i * 9)) [.int .i64 t.a.x,.int .i64 t.a.y,.int .i64 t.a.z,.int .i64 t.b.x,.int .i64 t.b.y,.int .i64 t.b.z,.int .i64 t.c.x,.int .i64 t.c.y,.int .i64 t.c.z]:=by
  have hl : i < ts.length:=by rw [h.len]; exact hi
  refine ⟨ts[i],List.getElem?_eq_getElem hl,h.it _ (List.getElem_mem hl),h.row i _ (List.getElem?_eq_getElem hl)⟩
end Go.Lith
namespace Go.Lith
open Go.RowKit
def sumT (f : T3 → Int) (ts : List T3) : Int:=(ts.map f).sum
theorem sumT_step {f : T3 → Int} {ts : List T3} {t : T3} {k : Nat} (h : ts[k]? = some t) : sumT f (ts.take (k + 1)) = sumT f (ts.take k) + f t:=by
  unfold sumT
  rw [List.take_add_one,h]
  simp
theorem sumT_bound {f : T3 → Int} {m : Nat} : ∀ (ts : List T3),(∀ t ∈ ts,Bd m (f t)) → (sumT f ts).natAbs ≤ ts.length * 2 ^ m
  | [],_=>by simp [sumT]
  | t :: ts,h=>by
    have h1:=sumT_bound ts (fun u hu=>h u (by simp [hu]))
    have h2:=h t (by simp)
    unfold Bd at h2
    have e : sumT f (t :: ts) = f t + sumT f ts:=by simp [sumT]
    rw [e,List.length_cons,Nat.add_mul,Nat.one_mul]
    omega
theorem sumT_bd {f : T3 → Int} {m : Nat} {ts : List T3} (h : ∀ t ∈ ts,Bd m (f t)) (hl : ts.length < 2 ^ 64) : Bd (64 + m) (sumT f ts):=by
  have h1:=sumT_bound ts h
  unfold Bd
  rw [Nat.pow_add]
  exact Nat.lt_of_le_of_lt h1 (Nat.mul_lt_mul_of_pos_right hl (Nat.two_pow_pos m))
theorem sumT_bdt {f : T3 → Int} {m k : Nat} {ts : List T3} (h : ∀ t ∈ ts,Bd m (f t)) (hl : ts.length < 2 ^ 64) : Bd (64 + m) (sumT f (ts.take k)) :=
  sumT_bd (fun t ht=>h t (List.mem_of_mem_take ht)) (Nat.lt_of_le_of_lt (by rw [List.length_take]; exact Nat.min_le_right ..) hl)
def nn (t : T3) : Int:=t.normal.dot t.normal
def lowA (t : T3) : Int:=(isqrt (nn t).natAbs : Int)
def highA (t : T3) : Int:=lowA t + if lowA t * lowA t = nn t then 0 else 1
theorem lowA_bd {t : T3} [IT t] : Bd 300 (lowA t):=by
  have h : Bd 300 (nn t):=(Bw.up : Bd 300 (t.normal.dot t.normal))
  refine h.of_le ?_
  simp only [lowA,Int.natAbs_natCast]
  exact isqrt_le _
theorem highA_bd {t : T3} [IT t] : Bd 301 (highA t):=by
  refine (lowA_bd (t:=t)).add ?_ |>.mono (by decide : max 300 1 + 1 ≤ 301)
  split
  · exact bd_zero 1
  · exact bd_11
instance {t : T3} [IT t] : Bw 300 (lowA t):=⟨lowA_bd⟩
instance {t : T3} [IT t] : Bw 301 (highA t):=⟨highA_bd⟩
instance {t : T3} [IT t] : Bw 300 (nn t):=⟨(Bw.up : Bd 300 (t.normal.dot t.normal))⟩
def det (t : T3) : Int:=t.a.dot (t.b.cross t.c)
theorem det_six {a b c : P3} {s : Int} : s + a.x * (b.y * c.z) + a.y * (b.z * c.x) + a.z * (b.x * c.y) - a.x * (b.z * c.y) - a.y * (b.x * c.z) - a.z * (b.y * c.x) = s + det ⟨a,b,c⟩:=by
  simp only [det,P3.dot,P3.cross]
  grind
theorem i3_bv {p : P3} [h : I3 p] : Bv 64 p:=⟨h.x.bd,h.y.bd,h.z.bd⟩
theorem det_bd {t : T3} [IT t] : Bd 200 (det t):=by
  haveI:=i3_bv (p:=t.a)
  haveI:=i3_bv (p:=t.b)
  haveI:=i3_bv (p:=t.c)
  exact (Bw.up : Bd 200 (t.a.dot (t.b.cross t.c)))
instance {t : T3} [IT t] : Bw 200 (det t):=⟨det_bd⟩
def mom (f : P3 → Int) (t : T3) : Int:=det t * f t.a + det t * f t.b + det t * f t.c
theorem det_step {t : T3} {s : Int} : s + t.a.x * (t.b.y * t.c.z) + t.a.y * (t.b.z * t.c.x) + t.a.z * (t.b.x * t.c.y) - t.a.x * (t.b.z * t.c.y) - t.a.y * (t.b.x * t.c.z) - t.a.z * (t.b.y * t.c.x) = s + det t:=det_six
theorem sumT_one {f : T3 → Int} {t : T3} : sumT f [t] = f t:=by simp [sumT]
theorem mom_step {f : P3 → Int} {t : T3} {s : Int} : s + det t * f t.a + det t * f t.b + det t * f t.c = s + mom f t:=by
  simp only [mom,Int.add_assoc]
theorem mom_bd {f : P3 → Int} {t : T3} [IT t] (ha : Bd 64 (f t.a)) (hb : Bd 64 (f t.b)) (hc : Bd 64 (f t.c)) : Bd 300 (mom f t) :=
  (((det_bd.mul ha).add (det_bd.mul hb)).add (det_bd.mul hc)).mono (by decide)
theorem W_eq_iff {a b : Int} : (wneg a = wneg b ∧ wmag a = wmag b) ↔ a = b:=by
  constructor
  · rintro ⟨h1,h2⟩
    exact W_inj (by simp only [W,h1,h2])
  · rintro rfl; exact ⟨rfl,rfl⟩
theorem TrisAt.one {w : World} {g : Nat} {t : T3} {T : TypeId} [h : IT t] (hB : Blk w g [.int .i64 t.a.x,.int .i64 t.a.y,.int .i64 t.a.z,.int .i64 t.b.x,.int .i64 t.b.y,.int .i64 t.b.z,.int .i64 t.c.x,.int .i64 t.c.y,.int .i64 t.c.z] T) : TrisAt w (some ⟨g,0,none⟩) 1 [t]:=by
  refine ⟨rfl,fun u hu=>?_,fun i u hi=>?_⟩
  · obtain rfl:=List.mem_singleton.1 hu
    exact h
  · cases i with
    | zero =>
      cases hi
      exact ⟨_,rfl,hB.row 0⟩
    | succ i=>cases hi
def cq (m v : Int) : Rat:=if v = 0 then 0 else Rat.divInt m (v * 4)
def fv (a b c : Rat) : Go.Value:=.agg #[.bool (wneg a.num),.string (wmag a.num),.bool (wneg (a.den : Int)),.string (wmag (a.den : Int)),.bool (wneg b.num),.string (wmag b.num),.bool (wneg (b.den : Int)),.string (wmag (b.den : Int)),.bool (wneg c.num),.string (wmag c.num),.bool (wneg (c.den : Int)),.string (wmag (c.den : Int))]
theorem highA_ne {t : T3} {s : Int} (h : ¬ lowA t * lowA t = nn t) : s + highA t = s + lowA t + 1:=by rw [highA,if_neg h,Int.add_assoc]
theorem highA_eq {t : T3} {s : Int} (h : lowA t * lowA t = nn t) : s + highA t = s + lowA t:=by rw [highA,if_pos h,Int.add_zero]
theorem TrisAt.at {w : World} {a : Addr} {n i : Nat} {ts : List T3} {t : T3} (h : TrisAt w (some a) n ts) (ht : ts[i]? = some t) : Row w (a.add (i * 9)) [.int .i64 t.a.x,.int .i64 t.a.y,.int .i64 t.a.z,.int .i64 t.b.x,.int .i64 t.b.y,.int .i64 t.b.z,.int .i64 t.c.x,.int .i64 t.c.y,.int .i64 t.c.z]:=by
  obtain ⟨a',ha,hr⟩:=h.row i t ht
  cases ha
  exact hr
end Go.Lith
namespace Go.Lith
open Go.RowKit
def triCells (t : T3) : List Go.Value:=[.int .i64 t.a.x,.int .i64 t.a.y,.int .i64 t.a.z,.int .i64 t.b.x,.int .i64 t.b.y,.int .i64 t.b.z,.int .i64 t.c.x,.int .i64 t.c.y,.int .i64 t.c.z]
theorem Row.pre {w : World} {a : Addr} {xs ys : List Go.Value} (h : Row w a (xs ++ ys)) : Row w a xs:=fun j u hj=>h j u (by
  have hl : j < xs.length:=(List.getElem?_eq_some_iff.1 hj).1
  rw [List.getElem?_append_left hl]; exact hj)
theorem triCells_length (t : T3) : (triCells t).length = 9:=rfl
theorem drop_flat : ∀ (ts : List T3) (i : Nat) (t : T3),ts[i]? = some t → (ts.flatMap triCells).drop (i * 9) = triCells t ++ (ts.drop (i + 1)).flatMap triCells
  | [],i,t,h=>by cases h
  | u :: ts,0,t,h=>by
    cases h
    rfl
  | u :: ts,i + 1,t,h=>by
    rw [List.flatMap_cons,show (i + 1) * 9 = (triCells u).length + i * 9 by rw [triCells_length]; omega,List.drop_append,List.drop_of_length_le (by omega),List.nil_append]
    rw [show (triCells u).length + i * 9 - (triCells u).length = i * 9 by omega]
    exact drop_flat ts i t h
theorem TrisAt.of_cells {w : World} {g n : Nat} {ts : List T3} {T : TypeId} {cs : List Go.Value} (hB : Blk w g cs T) (hc : cs = ts.flatMap triCells) (hn : ts.length = n) (hi : ∀ t ∈ ts,IT t) : TrisAt w (some ⟨g,0,none⟩) n ts:=by
  subst hc
  refine ⟨hn,hi,fun i t ht=>⟨_,rfl,?_⟩⟩
  rw [addr_add_mk,Nat.zero_add]
  have:=hB.row (i * 9)
  rw [drop_flat ts i t ht] at this
  exact this.pre
instance {a b c : Int} [x : Iw a] [y : Iw b] [z : Iw c] : I3 ⟨a,b,c⟩:=⟨x.h,y.h,z.h⟩
instance {a b c : P3} [x : I3 a] [y : I3 b] [z : I3 c] : IT ⟨a,b,c⟩:=⟨x,y,z⟩
end Go.Lith
namespace Go.Lith
open Go.RowKit
abbrev blkOf (A : Option Addr) : Option Nat:=A.map (·.block)
structure Ow (w0 w : World) (S : List (Option Nat)) (E : TypeId) (c : Nat) (A : Option Addr) (n cap : Nat) (xs : List Value) : Prop where
  own : w.ownsRow w0.heap.size E c (.slice A n cap) n xs
  sep : ∀ b,blkOf A = some b → some b ∉ S
  bd : ∀ b,some b ∈ S → b < w.heap.size
structure Wr (w w' : World) (A : Option Addr) : Prop where
  os : w'.os = w.os
  tape : w'.tape = w.tape
  output : w'.output = w.output
  size : w.heap.size ≤ w'.heap.size
  block : ∀ k,k < w.heap.size → blkOf A ≠ some k → w'.heap[k]? = w.heap[k]?
theorem ownsRow_cases {w : World} {base c n cap : Nat} {E : TypeId} {A : Option Addr} {xs : List Value} (h : w.ownsRow base E c (.slice A n cap) n xs) :
    (A = none ∧ n = 0 ∧ cap = 0 ∧ xs = []) ∨ ∃ g cur,A = some ⟨g,0,none⟩ ∧ base ≤ g ∧ w.heap[g]? = some (.cells cur E (0,0)) ∧ n ≤ cap ∧ cap ≤ maxLen ∧ cur.size = cap * c ∧ cur.toList.take (n * c) = xs:=by
  rcases h.2 with ⟨h1,h2⟩ | ⟨g,cap',cur,h1,h2,h3,h4,h5,h6,h7⟩
  · cases h1
    exact .inl ⟨rfl,h2,rfl,List.eq_nil_of_length_eq_zero (by rw [h.1,h2,Nat.zero_mul])⟩
  · cases h1
    exact .inr ⟨g,cur,rfl,h2,h3,h4,h5,h6,h7⟩
section
variable {w0 w w' : World} {S : List (Option Nat)} {E : TypeId} {c n cap : Nat} {A : Option Addr} {xs : List Value}
theorem Ow.cases (h : Ow w0 w S E c A n cap xs) : (A = none ∧ n = 0 ∧ cap = 0 ∧ xs = []) ∨ ∃ g cur,A = some ⟨g,0,none⟩ ∧ w0.heap.size ≤ g ∧ w.heap[g]? = some (.cells cur E (0,0)) ∧ n ≤ cap ∧ cap ≤ maxLen ∧ cur.size = cap * c ∧ cur.toList.take (n * c) = xs:=ownsRow_cases h.own
theorem Ow.lt (h : Ow w0 w S E c A n cap xs) : ∀ b,blkOf A = some b → b < w.heap.size:=fun b hb=>by
  rcases h.cases with ⟨rfl,_⟩ | ⟨g,cur,rfl,_,hg,_⟩
  · cases hb
  · cases hb
    exact (Array.getElem?_eq_some_iff.1 hg).1
theorem Ow.ge (h : Ow w0 w S E c A n cap xs) : ∀ b,blkOf A = some b → w0.heap.size ≤ b:=fun b hb=>by
  rcases h.cases with ⟨rfl,_⟩ | ⟨g,cur,rfl,hg,_⟩
  · cases hb
  · cases hb
    exact hg
theorem Ow.le (h : Ow w0 w S E c A n cap xs) : n ≤ cap:=by
  rcases h.cases with ⟨_,rfl,rfl,_⟩ | ⟨g,cur,_,_,_,h1,_⟩
  · exact Nat.le_refl _
  · exact h1
theorem Ow.some (h : Ow w0 w S E c A n cap xs) (hn : 0 < n) : ∃ g,A = some ⟨g,0,none⟩:=by
  rcases h.cases with ⟨_,rfl,_⟩ | ⟨g,cur,rfl,_⟩
  · omega
  · exact ⟨g,rfl⟩
theorem Ow.keep (h : Ow w0 w S E c A n cap xs) (hs : w.heap.size ≤ w'.heap.size) (hb : ∀ b,blkOf A = Option.some b → w'.heap[b]? = w.heap[b]?) : Ow w0 w' S E c A n cap xs:=by
  refine ⟨⟨h.own.1,?_⟩,h.sep,fun b hb=>Nat.lt_of_lt_of_le (h.bd b hb) hs⟩
  rcases h.cases with ⟨rfl,rfl,rfl,_⟩ | ⟨g,cur,rfl,h1,h2,h3⟩
  · exact .inl ⟨rfl,rfl⟩
  · exact .inr ⟨g,cap,cur,rfl,h1,(hb g rfl).trans h2,h3⟩
theorem Ow.ext (h : Ow w0 w S E c A n cap xs) (hE : Ext w w') : Ow w0 w' S E c A n cap xs:=h.keep hE.size fun b hb=>Below.block hE b (h.lt b hb)
theorem Ow.chg {g : Nat} (h : Ow w0 w S E c A n cap xs) (hC : Chg w w' g) (hg : Option.some g ∈ S) : Ow w0 w' S E c A n cap xs :=
  h.keep (by rw [hC.size]; exact Nat.le_refl _) fun b hb=>hC.block b (fun e=>h.sep b hb (e ▸ hg))
theorem Ow.new {g : Nat} (h : Ow w0 w S E c A n cap xs) (hE : Ext w w') (hg : w.heap.size ≤ g) (hl : g < w'.heap.size) : Ow w0 w' (Option.some g :: S) E c A n cap xs:=by
  refine ⟨(h.ext hE).own,fun b hb hm=>?_,fun b hb=>?_⟩
  · rcases List.mem_cons.1 hm with e | hm
    · cases e
      have:=h.lt _ hb
      omega
    · exact h.sep b hb hm
  · rcases List.mem_cons.1 hb with e | hb
    · cases e; exact hl
    · exact Nat.lt_of_lt_of_le (h.bd b hb) hE.size
theorem Ow.sub {T : List (Option Nat)} (h : Ow w0 w S E c A n cap xs) (hT : ∀ s ∈ T,s ∈ S) : Ow w0 w T E c A n cap xs:=⟨h.own,fun b hb hm=>h.sep b hb (hT _ hm),fun b hb=>h.bd b (hT _ hb)⟩
theorem Ow.base {w1 : World} (h : Ow w0 w S E c A n cap xs) (hX : Ext w1 w0) : Ow w1 w S E c A n cap xs:=by
  refine ⟨⟨h.own.1,?_⟩,h.sep,h.bd⟩
  rcases h.cases with ⟨rfl,rfl,rfl,_⟩ | ⟨g,cur,rfl,h1,h2,h3⟩
  · exact .inl ⟨rfl,rfl⟩
  · exact .inr ⟨g,cap,cur,rfl,Nat.le_trans hX.size h1,h2,h3⟩
theorem Ow.newO {w1 : World} {S2 : List (Option Nat)} {E2 : TypeId} {c2 n2 cap2 : Nat} {A2 : Option Addr} {xs2 : List Value} (h : Ow w0 w S E c A n cap xs) (hE : Ext w w') (h2 : Ow w w' S2 E2 c2 A2 n2 cap2 xs2) : Ow w0 w' (blkOf A2 :: S) E c A n cap xs:=by
  refine ⟨(h.ext hE).own,fun b hb hm=>?_,fun b hb=>?_⟩
  · rcases List.mem_cons.1 hm with e | hm
    · have:=h2.ge b e.symm
      have:=h.lt b hb
      omega
    · exact h.sep b hb hm
  · rcases List.mem_cons.1 hb with e | hb
    · exact h2.lt b e.symm
    · exact Nat.lt_of_lt_of_le (h.bd b hb) hE.size
theorem Ow.wr {A2 : Option Addr} (h : Ow w0 w S E c A n cap xs) (hW : Wr w w' A2) (hm : blkOf A2 ∈ S) : Ow w0 w' S E c A n cap xs :=
  h.keep hW.size fun b hb=>hW.block b (h.lt b hb) (fun e=>h.sep b hb (e ▸ hm))
theorem Ow.app {w1 : World} {S2 : List (Option Nat)} {E2 : TypeId} {c2 n2 cap2 : Nat} {A2 A3 : Option Addr} {xs2 : List Value} (h : Ow w0 w S E c A n cap xs) (hW : Wr w w' A2) (hm : blkOf A2 ∈ S) (hF : A3 = A2 ∨ blkOf A3 = Option.some w.heap.size) (h3 : Ow w1 w' S2 E2 c2 A3 n2 cap2 xs2) : Ow w0 w' (blkOf A3 :: S) E c A n cap xs:=by
  refine ⟨(h.wr hW hm).own,fun b hb hm'=>?_,fun b hb=>?_⟩
  · rcases List.mem_cons.1 hm' with e | hm'
    · rcases hF with rfl | hF
      · exact h.sep b hb (e ▸ hm)
      · rw [hF] at e
        cases e
        have:=h.lt _ hb
        omega
    · exact h.sep b hb hm'
  · rcases List.mem_cons.1 hb with e | hb
    · exact h3.lt b e.symm
    · exact Nat.lt_of_lt_of_le (h.bd b hb) hW.size
theorem Blk.wr {g : Nat} {cs : List Value} {t : TypeId} (hB : Blk w g cs t) (hW : Wr w w' A) (h : Ow w0 w S E c A n cap xs) (hm : Option.some g ∈ S) : Blk w' g cs t:=(hW.block g hB.lt (fun e=>h.sep g e hm)).trans hB
theorem Ext.wr {w1 : World} (hX : Ext w1 w) (h : Ow w1 w S E c A n cap xs) (hW : Wr w w' A) : Ext w1 w' :=
  ⟨hW.os.trans hX.os,hW.tape.trans hX.tape,hW.output.trans hX.output,Nat.le_trans hX.size hW.size,fun k hk=>(hW.block k (Nat.lt_of_lt_of_le hk hX.size) (fun e=>by have:=h.ge k e; omega)).trans (Below.block hX k hk)⟩
theorem Ow.row (h : Ow w0 w S E c A n cap xs) : ∀ j u,xs[j]? = Option.some u → ∃ a,A = Option.some a ∧ w.cell? (a.add j) = Option.some u:=fun j u hj=>by
  rcases h.cases with ⟨_,_,_,rfl⟩ | ⟨g,cur,rfl,_,hg,_,_,_,h4⟩
  · cases hj
  · refine ⟨_,rfl,?_⟩
    rw [addr_add_mk,Nat.zero_add,cell_of_row w g j cur E (0,0) hg]
    rw [← h4,List.getElem?_take] at hj
    split at hj
    · simpa using hj
    · cases hj
theorem Ow.rows {g : Nat} (h : Ow w0 w S E c (Option.some ⟨g,0,none⟩) n cap xs) : Row w ⟨g,0,none⟩ xs:=fun j u hj=>by
  obtain ⟨a,e,h1⟩:=h.row j u hj
  cases e
  exact h1
theorem Ow.nil (w0 w : World) (E : TypeId) (c : Nat) : Ow w0 w [] E c none 0 0 []:=⟨World.ownsRow_nil w _ E c,fun _ h=>(by cases h),fun _ h=>(by cases h)⟩
theorem Ow.mk' {g : Nat} {cs : List Value} (hB : Blk w g cs E) (hg : w0.heap.size ≤ g) (hl : cs.length = n * c) (hm : n ≤ maxLen) : Ow w0 w [] E c (Option.some ⟨g,0,none⟩) n n cs :=
  ⟨⟨hl,.inr ⟨g,n,_,rfl,hg,hB,Nat.le_refl _,hm,by simpa using hl,by simp [← hl]⟩⟩,fun _ _ h=>(by cases h),fun _ h=>(by cases h)⟩
theorem Ow.take (h : Ow w0 w S E c A n cap xs) {k : Nat} (hk : k ≤ n) : Ow w0 w S E c A k cap (xs.take (k * c)):=by
  have hl : (xs.take (k * c)).length = k * c:=by
    rw [List.length_take,h.own.1]
    exact Nat.min_eq_left (Nat.mul_le_mul_right _ hk)
  refine ⟨⟨hl,?_⟩,h.sep,h.bd⟩
  rcases h.cases with ⟨rfl,rfl,rfl,_⟩ | ⟨g,cur,rfl,h1,h2,h3,h4,h5,h6⟩
  · obtain rfl : k = 0:=by omega
    exact .inl ⟨rfl,rfl⟩
  · refine .inr ⟨g,cap,cur,rfl,h1,h2,by omega,h4,h5,?_⟩
    rw [← h6,List.take_take,Nat.min_eq_left (Nat.mul_le_mul_right _ hk)]
theorem Ow.as {ys : List Value} (h : Ow w0 w S E c A n cap xs) (e : xs = ys) : Ow w0 w S E c A n cap ys:=e ▸ h
theorem Ow.len (h : Ow w0 w S E c A n cap xs) {m : Nat} (e : n = m) : Ow w0 w S E c A m cap xs:=e ▸ h
end
section
variable {P : Program} {ds : List Deferred} {l : List Value} {x y : Operand} {T ty : TypeId}
variable {ops : Array Oper} {Q : Exit → Act → World → Prop} {rest : List Oper} {d : Nat} {pos : String} {after : Array Edge} {w w0 : World} {S : List (Option Nat)} {E : TypeId} {c n cap m mcap : Nat} {A B : Option Addr} {xs news : List Value}
theorem Wr.refl (w : World) (A : Option Addr) : Wr w w A:=⟨rfl,rfl,rfl,Nat.le_refl _,fun _ _ _=>rfl⟩
theorem run_append_ow {t : TypeId} {i : TypeInfo} {z : Value} {bytes : Nat} (ht : P.underlying t = some (.slice E)) (hi : P.info? E = some i) (hz : i.zero = some z) (hsize : i.size = c) (hby : i.bytes = bytes) (hzs : z.cells.size = c) (hsz : 0 < c)
    (hown : Ow w0 w S E c A n cap xs) (hl : news.length = m * c) (hnews : ∀ j u,news[j]? = some u → ∃ a,B = some a ∧ w.cell? (a.add j) = some u) (h1 : ∀ u ∈ news,u.oneCell' = true)
    (h63 : n + m ≤ maxLen) (hbytes : (n + m) * bytes ≤ 140737488355328) (hbase : w0.heap.size ≤ w.heap.size) :
    ∃ A' cap' w',(Builtin.append_ #[t,t] ty #[.slice A n cap,.slice B m mcap]).run P w = .ok (.slice A' (n + m) cap') w' ∧ Ow w0 w' S E c A' (n + m) cap' (xs ++ news) ∧ Wr w w' A ∧ (A' = A ∨ blkOf A' = some w.heap.size):=by
  subst hsize
  subst hby
  have hsmall : n + m ≤ 9223372036854775807:=by simp only [maxLen] at h63; omega
  have hlen : (xs ++ news).length = (n + m) * i.size:=by rw [List.length_append,hown.own.1,hl,Nat.add_mul]
  have grown : ∀ (old : Nat),old < n + m →
      Ow w0 (w.drew.alloc (.cells (xs.toArray ++ news.toArray ++ Builtin.zeroCells z.cells (grownCap w (n + m) old E - (n + m))) E)) S E i.size
        (some ⟨w.heap.size,0,none⟩) (n + m) (grownCap w (n + m) old E) (xs ++ news) ∧
      Wr w (w.drew.alloc (.cells (xs.toArray ++ news.toArray ++ Builtin.zeroCells z.cells (grownCap w (n + m) old E - (n + m))) E)) A:=by
    intro old ho
    have hge:=grownCap_ge w (n + m) old E
    have hcm : grownCap w (n + m) old E ≤ maxLen:=grownCap_le_maxLen w (n + m) old E h63
    refine ⟨⟨⟨hlen,.inr ⟨w.heap.size,_,_,rfl,hbase,heap_alloc_new w.drew _,hge,hcm,?_,?_⟩⟩,fun b hb hm=>?_,fun b hb=>?_⟩,⟨rfl,rfl,rfl,by simp,fun k hk _=>heap_alloc_old w.drew _ hk⟩⟩
    · simp only [Array.size_append,List.size_toArray,size_zeroCells,hzs,hown.own.1,hl,← Nat.add_mul]
      congr 1
      omega
    · simp only [Array.toList_append,List.append_assoc]
      rw [← List.append_assoc,← hlen]
      exact List.take_left
    · have hb' : w.heap.size = b:=by simpa using hb
      subst hb'
      exact absurd (hown.bd _ hm) (Nat.lt_irrefl _)
    · have:=hown.bd _ hb
      have h2 : (w.drew.alloc (.cells (xs.toArray ++ news.toArray ++ Builtin.zeroCells z.cells (grownCap w (n + m) old E - (n + m))) E)).heap.size = w.heap.size + 1:=by simp
      rw [h2]
      omega
  have hB0 : B = none → m = 0 ∧ news = []:=fun hB=>by
    have hn : news = []:=by
      cases news with
      | nil=>rfl
      | cons u us=>obtain ⟨a,e,_⟩:=hnews 0 u rfl; rw [hB] at e; cases e
    subst hn
    refine ⟨?_,rfl⟩
    rcases Nat.eq_zero_or_pos m with h0 | h0
    · exact h0
    · have:=Nat.mul_pos h0 hsz; simp at hl; omega
  rcases hown.cases with ⟨rfl,rfl,rfl,rfl⟩ | ⟨g,cur,rfl,hbg,hg,hnc,hcm,hcs,htake⟩
  · by_cases hm : m = 0
    · subst hm
      have hn : news = []:=List.eq_nil_of_length_eq_zero (by simpa using hl)
      subst hn
      refine ⟨none,0,w,?_,by simpa using hown,Wr.refl _ _,.inl rfl⟩
      cases B <;> simp [Builtin.append_,run_underlying ht,sizeOf,typeInfo,hi,Builtin.lenOf,Builtin.firstCells,loadCells,loadCellsFrom]
    · cases B with
      | none=>exact absurd (hB0 rfl).1 hm
      | some a =>
        have hr:=run_append_nil (P:=P) w t ty E i z ht hi hz a m mcap news hl (fun j u hj=>by obtain ⟨a',e,h⟩:=hnews j u hj; cases e; exact h) (by omega) (by omega) (by have hb:=hbytes; simp only [Nat.zero_add] at hb; omega)
        have hgr:=grown 0 (by omega)
        simp only [Nat.zero_add,List.nil_append,Array.empty_append] at hgr ⊢
        exact ⟨_,_,_,hr,hgr.1,hgr.2,.inr rfl⟩
  · cases B with
    | none =>
      obtain ⟨rfl,rfl⟩:=hB0 rfl
      refine ⟨some ⟨g,0,none⟩,cap,w,?_,by simpa using hown,Wr.refl _ _,.inl rfl⟩
      simp [Builtin.append_,run_underlying ht,sizeOf,typeInfo,hi,Builtin.lenOf,Builtin.firstCells,hnc,storeCells]
    | some a =>
      have hnews' : ∀ j u,news[j]? = some u → w.cell? (a.add j) = some u:=fun j u hj=>by obtain ⟨a',e,h⟩:=hnews j u hj; cases e; exact h
      by_cases hroom : n + m ≤ cap
      · have hfit : n * i.size + news.length ≤ cur.size:=by rw [hl,hcs,← Nat.add_mul]; exact Nat.mul_le_mul_right _ hroom
        have hr:=run_append_room (P:=P) w t ty E i ht hi g n cap cur hg a m mcap news hl hnews' h1 hroom hfit
        refine ⟨_,_,_,hr,⟨⟨hlen,.inr ⟨g,cap,_,rfl,hbg,setRow_heap w g cur _ E _ hg,hroom,hcm,?_,?_⟩⟩,hown.sep,fun b hb=>by simpa using hown.bd b hb⟩,⟨rfl,rfl,rfl,by simp,fun k _ hk=>setRow_other w g k _ (fun e=>hk (by rw [e]; rfl))⟩,.inl rfl⟩
        · simp only [List.size_toArray,List.length_append,List.length_take,List.length_drop,Array.length_toList]
          omega
        · rw [htake,← hlen]
          exact List.take_left
      · have hr:=run_append_grow (P:=P) w t ty E i z ht hi hz ⟨g,0,none⟩ n cap xs hown.own.1 hown.rows a m mcap news hl hnews' (by omega) (by omega) (growslice_fits (by omega) hbytes)
        have hgr:=grown cap (by omega)
        exact ⟨_,_,_,hr,hgr.1,hgr.2,.inr rfl⟩
theorem n_appendO {b : Nat} {z : Value} {a0 : Array TypeId} (ha : a0 = #[T,T]) (hu : P.underlying T = some (.slice E)) (hi : (P.info? E).map (fun i=>(i.size,i.bytes,i.zero)) = some (c,b,some z)) (hz : z.cells.size = c) (hc : 0 < c) (hX : Ext w0 w)
    (hs : ev l x = .slice A n cap) (hown : Ow w0 w S E c A n cap xs) (hx : ev l y = .slice B m mcap) (hl : news.length = m * c) (hrow : ∀ j u,news[j]? = some u → ∃ a,B = some a ∧ w.cell? (a.add j) = some u) (h1 : ∀ u ∈ news,u.oneCell' = true) (h63 : n + m ≤ 9223372036854775807) (hbytes : (n + m) * b ≤ 140737488355328)
    (h : ∀ A' cap' w',Ow w0 w' S E c A' (n + m) cap' (xs ++ news) → Wr w w' A → (A' = A ∨ blkOf A' = some w.heap.size) → wpList P ops Q rest (Fr (l.set d (.slice A' (n + m) cap')) ds) w') :
    wpList P ops Q (Oper.mk (some d) (.call { callee:=.builtin .append,args:=#[x,y],argTypes:=a0 }) ty pos after none :: rest) (Fr l ds) w:=by
  subst ha
  cases hq : P.info? E with
  | none=>rw [hq] at hi; cases hi
  | some i =>
    rw [hq] at hi
    simp only [Option.map_some,Option.some.injEq,Prod.mk.injEq] at hi
    obtain ⟨e1,e2,e3⟩:=hi
    obtain ⟨A',cap',w',hr,h2,h3,h4⟩:=run_append_ow (P:=P) (w:=w) (ty:=ty) (mcap:=mcap) hu hq e3 e1 e2 hz hc hown hl hrow h1 (by simpa [maxLen] using h63) hbytes hX.size
    exact n_newW (fun o ho hty=>by simp [execOp,ho,hty,resolve,invoke,builtin,ev_eq,hs,hx,hr]) (h A' cap' w' h2 h3 h4)
theorem over_take_own {cur : Array Value} {xs us : List Value} {off k : Nat} (hx : cur.toList.take k = xs) (hl : xs.length = k) (hf : off + us.length ≤ k) : (over cur.toList off us).take k = over xs off us:=by
  subst hx
  have hk : k ≤ cur.toList.length:=by rw [List.length_take] at hl; omega
  unfold over
  apply List.ext_getElem?
  intro j
  rw [List.getElem?_take]
  have e1 : (cur.toList.take off).length = off:=by rw [List.length_take]; omega
  have e2 : ((cur.toList.take k).take off).length = off:=by rw [List.length_take,List.length_take]; omega
  simp only [List.append_assoc]
  by_cases h0 : j < k
  · rw [if_pos h0]
    rcases Nat.lt_or_ge j off with h1 | h1
    · rw [List.getElem?_append_left (by omega),List.getElem?_append_left (by omega),List.take_take,Nat.min_eq_left (by omega)]
    · rw [List.getElem?_append_right (l₁:=cur.toList.take off) (by omega),List.getElem?_append_right (l₁:=(cur.toList.take k).take off) (by omega),e1,e2]
      rcases Nat.lt_or_ge (j - off) us.length with h2 | h2
      · rw [List.getElem?_append_left h2,List.getElem?_append_left h2]
      · rw [List.getElem?_append_right h2,List.getElem?_append_right h2,List.getElem?_drop,List.getElem?_drop,List.getElem?_take,if_pos (by omega)]
  · rw [if_neg h0]
    symm
    apply List.getElem?_eq_none
    simp only [List.length_append,e2,List.length_drop,List.length_take]
    omega
theorem n_storeO {g off : Nat} {us : List Value} (hx : ev l x = .pointer (some ⟨g,off,none⟩)) (hv : (ev l y).cells = us.toArray) (hc : Cells P T us.length) (hO : Ow w0 w S E c (some ⟨g,0,none⟩) n cap xs) (hfit : off + us.length ≤ n * c) (h1 : ∀ u ∈ us,u.oneCell' = true)
    (h : ∀ w',Wr w w' (some ⟨g,0,none⟩) → Ow w0 w' S E c (some ⟨g,0,none⟩) n cap (over xs off us) → wpList P ops Q rest (Fr l ds) w') : wpList P ops Q (Oper.mk none (.store T x y) ty pos after none :: rest) (Fr l ds) w:=by
  rcases hO.cases with ⟨e,_⟩ | ⟨g',cur,e,hbg,hg,hnc,hcm,hcs,htake⟩
  · cases e
  · cases e
    have hfc : off + us.length ≤ cur.toList.length:=by
      have:=Nat.mul_le_mul_right c hnc
      simp; omega
    have hB : Blk w g cur.toList E:=by unfold Blk; simpa using hg
    refine n_store (cs:=cur.toList) (t:=E) hx hv hc hB hfc h1 fun w' hC hB'=>h w' ⟨hC.os,hC.tape,hC.output,by rw [hC.size]; exact Nat.le_refl _,fun k _ hk=>hC.block k (fun e=>hk (by rw [e]; rfl))⟩ ?_
    refine ⟨⟨?_,.inr ⟨g,cap,_,rfl,hbg,hB',hnc,hcm,?_,?_⟩⟩,hO.sep,fun b hb=>by rw [hC.size]; exact hO.bd b hb⟩
    · rw [over_length (by rw [hO.own.1]; exact hfit)]; exact hO.own.1
    · simp only [List.size_toArray]; rw [over_length hfc]; simpa using hcs
    · show ((over cur.toList off us).toArray.toList).take (n * c) = _
      simp only [List.toList_toArray]
      exact over_take_own htake hO.own.1 hfit
end
theorem tri_len (ts : List T3) : (ts.flatMap triCells).length = ts.length * 9:=by
  induction ts with
  | nil=>rfl
  | cons t ts ih=>rw [List.flatMap_cons,List.length_append,ih,triCells_length,List.length_cons]; omega
theorem Ow.tris {w0 w : World} {S : List (Option Nat)} {E : TypeId} {A : Option Addr} {n cap : Nat} {ts : List T3} (h : Ow w0 w S E 9 A n cap (ts.flatMap triCells)) (hi : ∀ t ∈ ts,IT t) : TrisAt w A n ts:=by
  refine ⟨?_,hi,fun i t ht=>?_⟩
  · have:=h.own.1; rw [tri_len] at this; omega
  · have hr : ∀ j u,(triCells t)[j]? = Option.some u → (ts.flatMap triCells)[i * 9 + j]? = Option.some u:=fun j u hj=>by
      have hj' : j < (triCells t).length:=(List.getElem?_eq_some_iff.1 hj).1
      rw [← List.getElem?_drop,drop_flat ts i t ht,List.getElem?_append_left hj']
      exact hj
    obtain ⟨a,e,_⟩:=h.row _ _ (hr 0 _ rfl)
    refine ⟨a,e,fun j u hj=>?_⟩
    obtain ⟨a',e',hc⟩:=h.row _ _ (hr j u hj)
    rw [e] at e'
    cases e'
    rw [addr_add_add]
    exact hc
theorem TrisAt.cells {w : World} {A : Option Addr} {n : Nat} {ts : List T3} (h : TrisAt w A n ts) : ∀ j u,(ts.flatMap triCells)[j]? = some u → ∃ a,A = some a ∧ w.cell? (a.add j) = some u:=fun j u hj=>by
  have hl : j < ts.length * 9:=by
    have:=(List.getElem?_eq_some_iff.1 hj).1
    rwa [tri_len] at this
  have hq : j / 9 < ts.length:=by omega
  have ht:=List.getElem?_eq_getElem hq
  obtain ⟨a,e,hr⟩:=h.row _ _ ht
  refine ⟨a,e,?_⟩
  have hd:=drop_flat ts (j / 9) _ ht
  have hj' : (triCells ts[j / 9])[j % 9]? = some u:=by
    have : ((ts.flatMap triCells).drop (j / 9 * 9))[j % 9]? = some u:=by rw [List.getElem?_drop,show j / 9 * 9 + j % 9 = j by omega]; exact hj
    rw [hd,List.getElem?_append_left (by rw [triCells_length]; omega)] at this
    exact this
  have:=hr _ _ hj'
  rwa [addr_add_add,show j / 9 * 9 + j % 9 = j by omega] at this
theorem tri_one : ∀ (t : T3),∀ u ∈ triCells t,u.oneCell' = true:=fun t u hu=>by
  simp only [triCells,List.mem_cons,List.not_mem_nil,or_false] at hu
  rcases hu with rfl | rfl | rfl | rfl | rfl | rfl | rfl | rfl | rfl <;> rfl
theorem tris_one (ts : List T3) : ∀ u ∈ ts.flatMap triCells,u.oneCell' = true:=fun u hu=>by
  obtain ⟨t,_,h⟩:=List.mem_flatMap.1 hu
  exact tri_one t u h
theorem Blk.rowsO {w : World} {g : Nat} {cs : List Value} {t : TypeId} (h : Blk w g cs t) : ∀ j u,cs[j]? = some u → ∃ a,some (⟨g,0,none⟩ : Addr) = some a ∧ w.cell? (a.add j) = some u:=fun j u hj=>⟨_,rfl,by have:=h.row 0; rw [List.drop_zero] at this; exact this j u hj⟩
section
variable {w0 w w' : World} {S : List (Option Nat)} {E : TypeId} {c n cap : Nat} {A : Option Addr} {xs : List Value}
theorem Ow.put {g : Nat} (h : Ow w0 w S E c A n cap xs) (hne : ∀ b,blkOf A = Option.some b → b ≠ g) (hl : g < w.heap.size) : Ow w0 w (Option.some g :: S) E c A n cap xs :=
  ⟨h.own,fun b hb hm=>by
    rcases List.mem_cons.1 hm with e | hm
    · cases e; exact hne _ hb rfl
    · exact h.sep b hb hm,fun b hb=>by
    rcases List.mem_cons.1 hb with e | hb
    · cases e; exact hl
    · exact h.bd b hb⟩
theorem Ow.upd {g : Nat} (h : Ow w0 w S E c A n cap xs) (hU : Upd w w' g) (hm : Option.some g ∈ S) : Ow w0 w' S E c A n cap xs :=
  h.keep hU.size fun b hb=>hU.block b (h.lt b hb) (fun e=>h.sep b hb (e ▸ hm))
end
end Go.Lith
namespace Go.Lith
open Go.RowKit
/-! ### Names that are short -/
theorem zA {l : List Value} (t : Nat) : ev l (.tmp t) = l.getD t undef:=rfl
theorem zB {l : List Value} (v : Value) : ev l (.const v) = v:=rfl
theorem zC {l : List Value} (f : Nat) : ev l (.func f) = .func (.func f) #[] #[]:=rfl
theorem zD {α : Type} {x : α} {xs : List α} {n : Nat} {d : α} : (x :: xs).getD (n + 1) d = xs.getD n d:=rfl
theorem zE {α : Type} {x : α} {xs : List α} {d : α} : (x :: xs).getD 0 d = x:=rfl
theorem zF {α : Type} {x : α} {xs : List α} {n : Nat} {a : α} : (x :: xs).set (n + 1) a = x :: xs.set n a:=rfl
theorem zG {α : Type} {x : α} {xs : List α} {a : α} : (x :: xs).set 0 a = a :: xs:=rfl
theorem zH {α : Type} {x : α} {xs : List α} {n : Nat} : (x :: xs).take (n + 1) = x :: xs.take n:=rfl
theorem zI {α : Type} {xs : List α} : xs.take 0 = []:=List.take_zero
theorem zJ {α : Type} {x : α} {xs : List α} {n : Nat} : (x :: xs).drop (n + 1) = xs.drop n:=rfl
theorem zK {α : Type} {xs : List α} : xs.drop 0 = xs:=rfl
theorem zL {α : Type} {x : α} {xs ys : List α} : (x :: xs) ++ ys = x :: (xs ++ ys):=rfl
theorem zM {α : Type} {ys : List α} : [] ++ ys = ys:=rfl
theorem zN {α : Type} {ys : List α} : ys ++ [] = ys:=List.append_nil ys
theorem zO {α : Type} {x : α} {xs : List α} : (x :: xs).length = xs.length + 1:=rfl
theorem zP {α : Type} : ([] : List α).length = 0:=rfl
theorem zQ {α β : Type} {f : α → β} {x : α} {xs : List α} : (x :: xs).map f = f x :: xs.map f:=rfl
theorem zR {α β : Type} {f : α → β} : ([] : List α).map f = []:=rfl
theorem zS {α : Type} {l : List α} {i : Nat} : l.toArray[i]? = l[i]?:=List.getElem?_toArray
theorem zT {α : Type} {x : α} {xs : List α} {n : Nat} : (x :: xs)[n + 1]? = xs[n]?:=rfl
theorem zU {α : Type} {x : α} {xs : List α} : (x :: xs)[0]? = some x:=rfl
theorem zV {α : Type} {x d : α} : (some x).getD d = x:=rfl
end Go.Lith
namespace Go.Lith
open Go.RowKit
structure It where
  id : Option Nat
  P : World → Prop
  lt : ∀ w b,P w → id = some b → b < w.heap.size
  st : ∀ w w',P w → w.heap.size ≤ w'.heap.size → (∀ b,id = some b → w'.heap[b]? = w.heap[b]?) → P w'
def bI (g : Nat) (cs : List Value) (t : TypeId) : It where
  id:=some g
  P w:=Blk w g cs t
  lt w b h e:=by cases e; exact h.lt
  st w w' h _ k:=(k g rfl).trans h
def oI (E : TypeId) (c : Nat) (A : Option Addr) (n cap : Nat) (xs : List Value) : It where
  id:=blkOf A
  P w:=w.ownsRow 0 E c (.slice A n cap) n xs
  lt w b h e:=by
    rcases ownsRow_cases h with ⟨rfl,_⟩ | ⟨g,cur,rfl,_,hg,_⟩
    · cases e
    · cases e; exact (Array.getElem?_eq_some_iff.1 hg).1
  st w w' h _ k:=by
    refine ⟨h.1,?_⟩
    rcases ownsRow_cases h with ⟨rfl,rfl,rfl,_⟩ | ⟨g,cur,rfl,h1,h2,h3⟩
    · exact .inl ⟨rfl,rfl⟩
    · exact .inr ⟨g,cap,cur,rfl,h1,(k g rfl).trans h2,h3⟩
def Ap (i j : It) : Prop:=∀ b,i.id = some b → j.id = some b → False
theorem Ap.symm {i j : It} (h : Ap i j) : Ap j i:=fun b h1 h2=>h b h2 h1
structure Mem (w0 w : World) (is : List It) : Prop where
  ext : Ext w0 w
  all : ∀ i ∈ is,i.P w
  ge : ∀ i ∈ is,∀ b,i.id = some b → w0.heap.size ≤ b
  nd : is.Pairwise Ap
def selB : List Bool → List It → List It
  | true :: bs,i :: is=>i :: selB bs is
  | false :: bs,_ :: is=>selB bs is
  | _,_=>[]
theorem selB_sub : ∀ (bs : List Bool) (is : List It),(selB bs is).Sublist is
  | true :: bs,i :: is=>(selB_sub bs is).cons_cons i
  | false :: bs,i :: is=>(selB_sub bs is).cons i
  | [],is=>List.nil_sublist _
  | true :: bs,[]=>List.nil_sublist _
  | false :: bs,[]=>List.nil_sublist _
section
variable {w0 w w' : World} {is : List It}
theorem Mem.refl (w : World) : Mem w w []:=⟨Ext.refl w,fun _ h=>(by cases h),fun _ h=>(by cases h),.nil⟩
theorem Mem.ext' (m : Mem w0 w is) (e : Ext w w') : Mem w0 w' is :=
  ⟨m.ext.trans e,fun i hi=>i.st w w' (m.all i hi) e.size fun b hb=>Below.block e b (i.lt w b (m.all i hi) hb),m.ge,m.nd⟩
theorem Mem.sel (m : Mem w0 w is) (bs : List Bool) : Mem w0 w (selB bs is) :=
  ⟨m.ext,fun i hi=>m.all i ((selB_sub bs is).subset hi),fun i hi=>m.ge i ((selB_sub bs is).subset hi),m.nd.sublist (selB_sub bs is)⟩
theorem Mem.tl {i : It} (m : Mem w0 w (i :: is)) : Mem w0 w is:=⟨m.ext,fun j hj=>m.all j (List.mem_cons_of_mem _ hj),fun j hj=>m.ge j (List.mem_cons_of_mem _ hj),(List.pairwise_cons.1 m.nd).2⟩
theorem Mem.get (m : Mem w0 w is) (k : Nat) {i : It} (hk : is[k]? = some i) : i.P w:=m.all i (List.mem_of_getElem? hk)
theorem Mem.b (m : Mem w0 w is) (k : Nat) {g : Nat} {cs : List Value} {t : TypeId} (hk : is[k]? = some (bI g cs t)) : Blk w g cs t:=m.get k hk
theorem Mem.o (m : Mem w0 w is) (k : Nat) {E : TypeId} {c n cap : Nat} {A : Option Addr} {xs : List Value} (hk : is[k]? = some (oI E c A n cap xs)) : Ow w0 w [] E c A n cap xs:=by
  have h : w.ownsRow 0 E c (.slice A n cap) n xs:=m.get k hk
  refine ⟨⟨h.1,?_⟩,fun _ _ h=>(by cases h),fun _ h=>(by cases h)⟩
  rcases ownsRow_cases h with ⟨rfl,rfl,rfl,_⟩ | ⟨g,cur,rfl,_,h2,h3⟩
  · exact .inl ⟨rfl,rfl⟩
  · exact .inr ⟨g,cap,cur,rfl,m.ge _ (List.mem_of_getElem? hk) g rfl,h2,h3⟩
theorem Mem.bo (m : Mem w0 w is) (k : Nat) {g : Nat} {cs : List Value} {t : TypeId} (hk : is[k]? = some (bI g cs t)) {n c : Nat} (hl : cs.length = n * c) (hm : n ≤ maxLen) : Ow w0 w [] t c (some ⟨g,0,none⟩) n n cs :=
  Ow.mk' (m.b k hk) (m.ge _ (List.mem_of_getElem? hk) g rfl) hl hm
theorem Mem.toO (m : Mem w0 w is) (k : Nat) {g : Nat} {cs : List Value} {t : TypeId} (hk : is[k]? = some (bI g cs t)) {n c : Nat} (hl : cs.length = n * c) (hm : n ≤ maxLen) : ∃ i,i = oI t c (some ⟨g,0,none⟩) n n cs ∧ i.P w:=⟨_,rfl,(m.bo k hk hl hm).own.1,.inr ⟨g,n,_,rfl,Nat.zero_le _,m.b k hk,Nat.le_refl _,hm,by simpa using hl,by simp [← hl]⟩⟩
theorem Mem.new {i : It} (m : Mem w0 w is) (e : Ext w w') (hi : i.P w') (hg : ∀ b,i.id = some b → w.heap.size ≤ b) : Mem w0 w' (i :: is):=by
  have m':=m.ext' e
  refine ⟨m'.ext,fun j hj=>?_,fun j hj=>?_,List.pairwise_cons.2 ⟨fun j hj b h1 h2=>?_,m'.nd⟩⟩
  · rcases List.mem_cons.1 hj with rfl | hj
    · exact hi
    · exact m'.all j hj
  · rcases List.mem_cons.1 hj with rfl | hj
    · exact fun b hb=>Nat.le_trans m.ext.size (hg b hb)
    · exact m'.ge j hj
  · have:=j.lt w b (m.all j hj) h2
    have:=hg b h1
    omega
theorem Mem.newB {g : Nat} {cs : List Value} {t : TypeId} (m : Mem w0 w is) (e : Ext w w') (hg : w.heap.size ≤ g) (hB : Blk w' g cs t) : Mem w0 w' (bI g cs t :: is):=m.new e hB (fun b h=>by cases h; exact hg)
theorem Mem.newO {S : List (Option Nat)} {E : TypeId} {c n cap : Nat} {A : Option Addr} {xs : List Value} (m : Mem w0 w is) (e : Ext w w') (h : Ow w w' S E c A n cap xs) : Mem w0 w' (oI E c A n cap xs :: is):=by
  refine m.new e (i:=oI E c A n cap xs) ?_ h.ge
  refine ⟨h.own.1,?_⟩
  rcases h.cases with ⟨rfl,rfl,rfl,_⟩ | ⟨g,cur,rfl,_,h2,h3⟩
  · exact .inl ⟨rfl,rfl⟩
  · exact .inr ⟨g,cap,cur,rfl,Nat.zero_le _,h2,h3⟩
theorem Mem.nilO (m : Mem w0 w is) (E : TypeId) (c : Nat) : Mem w0 w (oI E c none 0 0 [] :: is):=m.newO (Ext.refl w) (Ow.nil w w E c)
theorem pw_set {i i' : It} : ∀ (is : List It) (k : Nat),is.Pairwise Ap → is[k]? = some i → (∀ x ∈ is,Ap i x → Ap i' x) → (is.set k i').Pairwise Ap
  | [],_,_,h,_=>by cases h
  | j :: is,0,hp,h,hc=>by
    cases h
    rw [List.set_cons_zero]
    have:=List.pairwise_cons.1 hp
    exact List.pairwise_cons.2 ⟨fun x hx=>hc x (List.mem_cons_of_mem _ hx) (this.1 x hx),this.2⟩
  | j :: is,k + 1,hp,h,hc=>by
    rw [List.set_cons_succ]
    have hp':=List.pairwise_cons.1 hp
    have h' : is[k]? = some i:=h
    refine List.pairwise_cons.2 ⟨fun x hx=>?_,pw_set is k hp'.2 h' fun x hx=>hc x (List.mem_cons_of_mem _ hx)⟩
    rcases List.mem_or_eq_of_mem_set hx with hx | rfl
    · exact hp'.1 x hx
    · exact (hc j (List.mem_cons_self ..) (hp'.1 i (List.mem_of_getElem? h')).symm).symm
theorem Mem.put {i i' : It} (m : Mem w0 w is) (k : Nat) (hk : is[k]? = some i) (hos : w'.os = w.os) (ht : w'.tape = w.tape) (ho : w'.output = w.output) (hs : w.heap.size ≤ w'.heap.size) (hb : ∀ b,b < w.heap.size → i.id ≠ some b → w'.heap[b]? = w.heap[b]?)
    (hi : i'.P w') (hid : i'.id = i.id ∨ ∀ b,i'.id = some b → w.heap.size ≤ b) : Mem w0 w' (is.set k i'):=by
  have hmem:=List.mem_of_getElem? hk
  refine ⟨⟨hos.trans m.ext.os,ht.trans m.ext.tape,ho.trans m.ext.output,Nat.le_trans m.ext.size hs,fun b hlt=>(hb b (Nat.lt_of_lt_of_le hlt m.ext.size) fun e=>?_).trans (Below.block m.ext b hlt)⟩,fun j hj=>?_,fun j hj b hjb=>?_,pw_set is k m.nd hk fun x hx ha b h1 h2=>?_⟩
  · have:=m.ge i hmem b e
    omega
  · obtain ⟨q,hq,e⟩:=List.getElem_of_mem hj
    rw [List.getElem_set] at e
    split at e
    · subst e; exact hi
    · rename_i hne
      rw [List.length_set] at hq
      have hj' : j ∈ is:=e ▸ List.getElem_mem hq
      have hq' : is[q]? = some j:=by rw [← e]; exact List.getElem?_eq_getElem hq
      refine j.st w w' (m.all j hj') hs fun b hjb=>hb b (j.lt w b (m.all j hj') hjb) fun hib=>?_
      have hklt : k < is.length:=(List.getElem?_eq_some_iff.1 hk).1
      have hki : is[k] = i:=(List.getElem?_eq_some_iff.1 hk).2
      rcases Nat.lt_or_gt_of_ne hne with h | h
      · have:=List.pairwise_iff_getElem.1 m.nd k q hklt hq h
        rw [hki,e] at this
        exact this b hib hjb
      · have:=List.pairwise_iff_getElem.1 m.nd q k hq hklt h
        rw [hki,e] at this
        exact this b hjb hib
  · rcases List.mem_or_eq_of_mem_set hj with hj | rfl
    · exact m.ge j hj b hjb
    · rcases hid with hid | hid
      · exact m.ge i hmem b (hid ▸ hjb)
      · exact Nat.le_trans m.ext.size (hid b hjb)
  · rcases hid with hid | hid
    · exact ha b (hid ▸ h1) h2
    · have:=hid b h1
      have:=x.lt w b (m.all x hx) h2
      omega
theorem Mem.re (m : Mem w0 w is) (k : Nat) {g : Nat} {cs cs' : List Value} {t : TypeId} (hk : is[k]? = some (bI g cs t)) (hB : Blk w g cs' t) : Mem w0 w (is.set k (bI g cs' t)) :=
  m.put k hk rfl rfl rfl (Nat.le_refl _) (fun _ _ _=>rfl) hB (.inl rfl)
theorem Mem.reO (m : Mem w0 w is) (k : Nat) {E : TypeId} {c n cap n' cap' : Nat} {A : Option Addr} {xs xs' : List Value} (hk : is[k]? = some (oI E c A n cap xs)) (h : Ow w0 w [] E c A n' cap' xs') : Mem w0 w (is.set k (oI E c A n' cap' xs')):=by
  refine m.put k hk rfl rfl rfl (Nat.le_refl _) (fun _ _ _=>rfl) ?_ (.inl rfl)
  refine ⟨h.own.1,?_⟩
  rcases h.cases with ⟨rfl,rfl,rfl,_⟩ | ⟨g,cur,rfl,_,h2,h3⟩
  · exact .inl ⟨rfl,rfl⟩
  · exact .inr ⟨g,cap',cur,rfl,Nat.zero_le _,h2,h3⟩
theorem Mem.own (m : Mem w0 w is) (k : Nat) {g : Nat} {cs : List Value} {t : TypeId} (hk : is[k]? = some (bI g cs t)) {n c : Nat} (hl : cs.length = n * c) (hm : n ≤ maxLen) : Mem w0 w (is.set k (oI t c (some ⟨g,0,none⟩) n n cs)):=by
  obtain ⟨i,rfl,h⟩:=m.toO k hk hl hm
  exact m.put k hk rfl rfl rfl (Nat.le_refl _) (fun _ _ _=>rfl) h (.inl rfl)
theorem leT {a b : Nat} (h : Nat.ble a b = true) : a ≤ b:=Nat.le_of_ble_eq_true h
theorem allT {us : List Value} (h : (us.all (·.oneCell')) = true) : ∀ u ∈ us,u.oneCell' = true:=fun u hu=>List.all_eq_true.1 h u hu
end
section
variable {P : Program} {ds : List Deferred} {l : List Value} {x y : Operand} {T ty : TypeId}
variable {ops : Array Oper} {Q : Exit → Act → World → Prop} {rest : List Oper} {d : Nat} {pos : String} {after : Array Edge} {w w0 : World} {is : List It}
theorem mbox {cs : List Value} (m : Mem w0 w is) (hv : (ev l x).cells = cs.toArray) (h : ∀ g u,Mem w0 u (bI g cs T :: is) → wpList P ops Q rest (Fr (l.set d (.pointer (some ⟨g,0,none⟩))) ds) u) :
    wpList P ops Q (Oper.mk (some d) (.box T x) ty pos after none :: rest) (Fr l ds) w:=n_box hv fun u g e hg hB=>h g u (m.newB e hg hB)
theorem malloc {cs : List Value} {z : Value} (m : Mem w0 w is) (hZ : Zero P T z) (hv : z.cells = cs.toArray) (h : ∀ g u,Mem w0 u (bI g cs T :: is) → wpList P ops Q rest (Fr (l.set d (.pointer (some ⟨g,0,none⟩))) ds) u) :
    wpList P ops Q (Oper.mk (some d) (.alloc T) ty pos after none :: rest) (Fr l ds) w:=n_alloc hZ hv fun u g e hg hB=>h g u (m.newB e hg hB)
theorem mstore {g off : Nat} {cs us : List Value} {t : TypeId} (m : Mem w0 w is) (k : Nat) (hk : is[k]? = some (bI g cs t)) (hx : ev l x = .pointer (some ⟨g,off,none⟩)) (hv : (ev l y).cells = us.toArray) (hc : Cells P T us.length) (hfit : off + us.length ≤ cs.length) (h1 : (us.all (·.oneCell')) = true)
    (h : ∀ u,Mem w0 u (is.set k (bI g (over cs off us) t)) → wpList P ops Q rest (Fr l ds) u) : wpList P ops Q (Oper.mk none (.store T x y) ty pos after none :: rest) (Fr l ds) w :=
  n_store hx hv hc (m.b k hk) hfit (allT h1) fun u hC hB=>h u (m.put k hk hC.os hC.tape hC.output (by rw [hC.size]; exact Nat.le_refl _) (fun b _ hne=>hC.block b fun e=>hne (by rw [e]; rfl)) hB (.inl rfl))
theorem mstoreO {g off : Nat} {us xs : List Value} {E : TypeId} {c n cap : Nat} (m : Mem w0 w is) (k : Nat) (hk : is[k]? = some (oI E c (some ⟨g,0,none⟩) n cap xs)) (hx : ev l x = .pointer (some ⟨g,off,none⟩)) (hv : (ev l y).cells = us.toArray) (hc : Cells P T us.length) (hfit : off + us.length ≤ n * c) (h1 : (us.all (·.oneCell')) = true)
    (h : ∀ u,Mem w0 u (is.set k (oI E c (some ⟨g,0,none⟩) n cap (over xs off us))) → wpList P ops Q rest (Fr l ds) u) : wpList P ops Q (Oper.mk none (.store T x y) ty pos after none :: rest) (Fr l ds) w :=
  n_storeO hx hv hc (m.o k hk) hfit (allT h1) fun u hW hO=>h u (m.put k hk hW.os hW.tape hW.output hW.size (fun b hb hne=>hW.block b hb hne) (by
    refine ⟨hO.own.1,?_⟩
    rcases hO.cases with ⟨e,_⟩ | ⟨g,cur,e,_,h2,h3⟩
    · cases e
    · cases e; exact .inr ⟨_,cap,cur,rfl,Nat.zero_le _,h2,h3⟩) (.inl rfl))
theorem mcallP {v : Value} {f : FuncId} {fo : Operand} {xs : Array Operand} {args : List Value} {first cap : Array Value} {a0 : Array TypeId} (m : Mem w0 w is) (hf : ev l fo = .func (.func f) first cap) (hxs : first.toList ++ xs.toList.map (ev l) ++ cap.toList = args) (hc : Pure P f args v)
    (h : ∀ u,Mem w0 u is → wpList P ops Q rest (Fr (l.set d v) ds) u) : wpList P ops Q (Oper.mk (some d) (.call { callee:=.value fo,args:=xs,argTypes:=a0 }) ty pos after none :: rest) (Fr l ds) w :=
  n_callP hf hxs hc fun u e=>h u (m.ext' e)
theorem mcall {f : FuncId} {fo : Operand} {xs : Array Operand} {args : List Value} {first cap : Array Value} {a0 : Array TypeId} {R : Value → World → Prop} (m : Mem w0 w is) (hf : ev l fo = .func (.func f) first cap) (hxs : first.toList ++ xs.toList.map (ev l) ++ cap.toList = args) (hc : Does P f args w R)
    (h : ∀ v u,Mem w0 u is → R v u → wpList P ops Q rest (Fr (l.set d v) ds) u) : wpList P ops Q (Oper.mk (some d) (.call { callee:=.value fo,args:=xs,argTypes:=a0 }) ty pos after none :: rest) (Fr l ds) w :=
  n_call hf hxs hc fun v u e hR=>h v u (m.ext' e) hR
theorem mappend {E : TypeId} {c n cap b nm mcap : Nat} {A B : Option Addr} {z : Value} {xs news : List Value} {a0 : Array TypeId} (m : Mem w0 w is) (k : Nat) (hk : is[k]? = some (oI E c A n cap xs)) (ha : a0 = #[T,T]) (hu : P.underlying T = some (.slice E)) (hi : (P.info? E).map (fun i=>(i.size,i.bytes,i.zero)) = some (c,b,some z)) (hz : z.cells.size = c) (hc : 0 < c)
    (hs : ev l x = .slice A n cap) (hx : ev l y = .slice B nm mcap) (hl : news.length = nm * c) (hrow : ∀ j u,news[j]? = some u → ∃ a,B = some a ∧ w.cell? (a.add j) = some u) (h1 : ∀ u ∈ news,u.oneCell' = true) (h63 : n + nm ≤ 9223372036854775807) (hbytes : (n + nm) * b ≤ 140737488355328)
    (h : ∀ A' cap' u,Mem w0 u (is.set k (oI E c A' (n + nm) cap' (xs ++ news))) → wpList P ops Q rest (Fr (l.set d (.slice A' (n + nm) cap')) ds) u) :
    wpList P ops Q (Oper.mk (some d) (.call { callee:=.builtin .append,args:=#[x,y],argTypes:=a0 }) ty pos after none :: rest) (Fr l ds) w :=
  n_appendO ha hu hi hz hc m.ext hs (m.o k hk) hx hl hrow h1 h63 hbytes fun A' cap' u hO hW hF=>h A' cap' u (m.put k hk hW.os hW.tape hW.output hW.size (fun b hb hne=>hW.block b hb hne) (by
    refine ⟨hO.own.1,?_⟩
    rcases hO.cases with ⟨rfl,e1,rfl,_⟩ | ⟨g,cur,rfl,_,h2,h3⟩
    · exact .inl ⟨by rw [e1],e1⟩
    · exact .inr ⟨g,cap',cur,rfl,Nat.zero_le _,h2,h3⟩) (by
    rcases hF with rfl | hF
    · exact .inl rfl
    · exact .inr fun b hb=>by
        have e : blkOf A' = some b:=hb
        rw [hF] at e
        cases e
        exact Nat.le_refl _))
theorem mboxA {cs : List Value} (m : Mem w0 w is) (hv : ev l x = .agg cs.toArray) (h : ∀ g u,Mem w0 u (bI g cs T :: is) → wpList P ops Q rest (Fr (l.set d (.pointer (some ⟨g,0,none⟩))) ds) u) :
    wpList P ops Q (Oper.mk (some d) (.box T x) ty pos after none :: rest) (Fr l ds) w:=mbox m (by rw [hv]; rfl) h
theorem mstoreA {g off : Nat} {cs us : List Value} {t : TypeId} (m : Mem w0 w is) (k : Nat) (hk : is[k]? = some (bI g cs t)) (hx : ev l x = .pointer (some ⟨g,off,none⟩)) (hv : ev l y = .agg us.toArray) (hc : Cells P T us.length) (hfit : off + us.length ≤ cs.length) (h1 : (us.all (·.oneCell')) = true)
    (h : ∀ u,Mem w0 u (is.set k (bI g (over cs off us) t)) → wpList P ops Q rest (Fr l ds) u) : wpList P ops Q (Oper.mk none (.store T x y) ty pos after none :: rest) (Fr l ds) w:=mstore m k hk hx (by rw [hv]; rfl) hc hfit h1 h
theorem mstore1 {g off : Nat} {cs : List Value} {v : Value} {t : TypeId} (m : Mem w0 w is) (k : Nat) (hk : is[k]? = some (bI g cs t)) (hx : ev l x = .pointer (some ⟨g,off,none⟩)) (hv : ev l y = v) (hc : Cells P T 1) (hfit : off + 1 ≤ cs.length) (h1 : v.oneCell' = true ∧ v.cells = #[v])
    (h : ∀ u,Mem w0 u (is.set k (bI g (over cs off [v]) t)) → wpList P ops Q rest (Fr l ds) u) : wpList P ops Q (Oper.mk none (.store T x y) ty pos after none :: rest) (Fr l ds) w:=mstore (us:=[v]) m k hk hx (by rw [hv,h1.2]) hc hfit (by simp [h1.1]) h
theorem Blk.full {g : Nat} {cs : List Value} {t : TypeId} (h : Blk w g cs t) (hA : IsAgg P T true) (hc : Cells P T cs.length) : Lies P w T ⟨g,0,none⟩ (.agg cs.toArray):=by
  have:=h.row 0
  rw [List.drop_zero] at this
  exact this.lies hA hc
theorem Mem.s01 {w0 w : World} {i j : It} {is : List It} (m : Mem w0 w (i :: j :: is)) : Mem w0 w (j :: i :: is):=by
  have h1:=List.pairwise_cons.1 m.nd
  have h2:=List.pairwise_cons.1 h1.2
  refine ⟨m.ext,fun x hx=>m.all x ?_,fun x hx=>m.ge x ?_,List.pairwise_cons.2 ⟨fun x hx=>?_,List.pairwise_cons.2 ⟨fun x hx=>h1.1 x (List.mem_cons_of_mem _ hx),h2.2⟩⟩⟩
  · simp only [List.mem_cons] at hx ⊢; rcases hx with h | h | h <;> simp [h]
  · simp only [List.mem_cons] at hx ⊢; rcases hx with h | h | h <;> simp [h]
  · rcases List.mem_cons.1 hx with rfl | hx
    · exact (h1.1 _ (List.mem_cons_self ..)).symm
    · exact h2.1 x hx
theorem Mem.s12 {w0 w : World} {h i j : It} {is : List It} (m : Mem w0 w (h :: i :: j :: is)) : Mem w0 w (h :: j :: i :: is):=by
  have h1:=List.pairwise_cons.1 m.nd
  have m':=m.tl.s01
  refine ⟨m.ext,fun x hx=>m.all x ?_,fun x hx=>m.ge x ?_,List.pairwise_cons.2 ⟨fun x hx=>h1.1 x ?_,m'.nd⟩⟩
  · simp only [List.mem_cons] at hx ⊢; rcases hx with h | h | h | h <;> simp [h]
  · simp only [List.mem_cons] at hx ⊢; rcases hx with h | h | h | h <;> simp [h]
  · simp only [List.mem_cons] at hx ⊢; rcases hx with h | h | h <;> simp [h]
/-! ### Regions -/
theorem mq_tail {id : Nat} {a : Act} {l : List Oper} (m : Mem w0 w is) (n : Nat) (hm : P.follows .mixedOrders = true) (hB : Region.lexTailB .any l.toArray n = true)
    (h : wpQuiet P l.toArray (fun u=>Mem w0 u is) (fun a'=>∀ u,Mem w0 u is → wpList P l.toArray Q (l.drop n) a' u) (l.take n) a) : (Code.region id l.toArray true).wp P Q a w :=
  wp_region_quiet_tail (C:=fun u=>Mem w0 u is) n hm hB (m.ext' (Ext.refl w).drawn) h
theorem mq {id : Nat} {a : Act} {l : List Oper} (m : Mem w0 w is) (hm : P.follows .mixedOrders = true) (hB : Region.lexB .any l.toArray = true)
    (h : wpQuiet P l.toArray (fun u=>Mem w0 u is) (fun a'=>∀ u,Mem w0 u is → Q .normal a' u) l a) : (Code.region id l.toArray true).wp P Q a w :=
  wp_region_quiet (C:=fun u=>Mem w0 u is) hm hB (m.ext' (Ext.refl w).drawn) (by simpa using h)
theorem mh {id : Nat} {a : Act} {l : List Oper} (m : Mem w0 w is) (bs : List Bool) (o : List (Nat × Bool)) (hm : P.follows .mixedOrders = true) (hB : (Region.noSelect l.toArray && decide (o.length = l.length) && ordB .any l.toArray o (Array.replicate l.toArray.size false)) = true)
    (hQ : ∀ c d v a w,Q (.panic c) (Act.put a d v) w → Q (.panic c) a w) {ol : List (Oper × Bool)} (hol : (o.map fun x=>((l.toArray[x.1]?).getD default,x.2)) = ol)
    (h : ∀ u,Mem w0 u is → wpMixH P l.toArray (fun u=>Mem w0 u (selB bs is)) Q ol a u) : (Code.region id l.toArray true).wp P Q a w :=
  wp_region_held' o hm hB hQ hol fun u e=>⟨fun u=>Mem w0 u (selB bs is),(m.ext' e).sel bs,h u (m.ext' e)⟩
theorem mtree {id : Nat} {a : Act} {l : List Oper} (m : Mem w0 w is) (bs : List Bool) (t : OrdT) (hm : P.follows .mixedOrders = true) (hB : (Region.noSelect l.toArray && t.ok .any l.toArray l.toArray.size (Array.replicate l.toArray.size false)) = true)
    (hQ : ∀ c d v a w,Q (.panic c) (Act.put a d v) w → Q (.panic c) a w)
    (h : ∀ u,Mem w0 u is → wpTree P l.toArray (fun u=>Mem w0 u (selB bs is)) Q t a u) : (Code.region id l.toArray true).wp P Q a w :=
  wp_region_tree t hm hB hQ fun u e=>⟨fun u=>Mem w0 u (selB bs is),(m.ext' e).sel bs,h u (m.ext' e)⟩
theorem mf1 {tl : List Oper} {i d : Nat} {T : TypeId} {cs : List Value} (m : Mem w0 w is) (h : ∀ g u,Mem w0 u (bI g cs T :: is) → wpList P ops Q tl (Fr (l.set d (.pointer (some ⟨g,0,none⟩))) ds) u) :
    ∀ E w',Ext w w' → Laid w.heap.size E [⟨i,d,T,cs⟩] w' → (∀ x ∈ [(⟨i,d,T,cs⟩ : Al)],∃ v,E x.i = some v) → wpList P ops Q tl (applyP E [⟨i,d,T,cs⟩] (Fr l ds)) w' :=
  fresh1 fun u g e hg hB=>h g u (m.newB e hg hB)
theorem Mem.newB2 {w w' : World} {is : List It} {g g2 : Nat} {cs cs2 : List Value} {t t2 : TypeId} (m : Mem w0 w is) (e : Ext w w') (hg : w.heap.size ≤ g) (hg2 : w.heap.size ≤ g2) (hB : Blk w' g cs t) (hB2 : Blk w' g2 cs2 t2) (hne : g2 ≠ g) : Mem w0 w' (bI g2 cs2 t2 :: bI g cs t :: is):=by
  have m1:=m.newB e hg hB
  refine ⟨m1.ext,fun j hj=>?_,fun j hj=>?_,List.pairwise_cons.2 ⟨fun j hj b h1 h2=>?_,m1.nd⟩⟩
  · rcases List.mem_cons.1 hj with rfl | hj
    · exact hB2
    · exact m1.all j hj
  · rcases List.mem_cons.1 hj with rfl | hj
    · exact fun b hb=>by cases hb; exact Nat.le_trans m.ext.size hg2
    · exact m1.ge j hj
  · cases h1
    rcases List.mem_cons.1 hj with rfl | hj
    · cases h2; exact hne rfl
    · have:=j.lt w _ (m.all j hj) h2
      omega
theorem mf2 {tl : List Oper} {i d j e : Nat} {T U : TypeId} {cs us : List Value} (m : Mem w0 w is) (hij : i ≠ j) (h : ∀ g k u,Mem w0 u (bI k us U :: bI g cs T :: is) → wpList P ops Q tl (Fr ((l.set d (.pointer (some ⟨g,0,none⟩))).set e (.pointer (some ⟨k,0,none⟩))) ds) u) :
    ∀ E w',Ext w w' → Laid w.heap.size E [⟨i,d,T,cs⟩,⟨j,e,U,us⟩] w' → (∀ x ∈ [(⟨i,d,T,cs⟩ : Al),⟨j,e,U,us⟩],∃ v,E x.i = some v) → wpList P ops Q tl (applyP E [⟨i,d,T,cs⟩,⟨j,e,U,us⟩] (Fr l ds)) w' :=
  fresh2 hij fun u g k e hg hk hB hK hne=>h g k u (m.newB2 e hg hk hB hK hne)
theorem mcut3 {c : Code} {a : Act} {l : Nat → Nat → Nat → List Value} {c1 c2 c3 : List Value} {T1 T2 T3 : TypeId} (m : Mem w0 w is) (h1 : c.wp P (fun e a' u=>e = .normal ∧ ∃ g k p,a' = Fr (l g k p) ds ∧ Mem w0 u (bI p c3 T3 :: bI k c2 T2 :: bI g c1 T1 :: is)) a w)
    (h2 : ∀ g k p u,Mem w0 u (bI p c3 T3 :: bI k c2 T2 :: bI g c1 T1 :: is) → Q .normal (Fr (l g k p) ds) u) : c.wp P Q a w:=by
  refine Code.wp_mono ?_ h1
  rintro e a' u ⟨rfl,g,k,p,rfl,m'⟩
  exact h2 g k p u m'
end
section
variable {P : Program} {w0 : World} {is : List It} {l : List Value} {x y : Operand} {T ty : TypeId}
variable {ops : Array Oper} {Q : Act → Prop} {rest : List Oper} {d : Nat} {pos : String} {after : Array Edge} {v : Value} {ds : List Deferred}
theorem ql {a : Addr} (hx : ev l x = .pointer (some a)) (hv : ∀ u,Mem w0 u is → Lies P u T a v) (h : wpQuiet P ops (fun u=>Mem w0 u is) Q rest (Fr (l.set d v) ds)) : wpQuiet P ops (fun u=>Mem w0 u is) Q (Oper.mk (some d) (.load T x) ty pos after none :: rest) (Fr l ds) :=
  q_valW (fun u m=>r_load hx (hv u m)) h
theorem qc {f : FuncId} {fo : Operand} {xs : Array Operand} {args : List Value} {first cap : Array Value} {a0 : Array TypeId} (hf : ev l fo = .func (.func f) first cap) (hxs : first.toList ++ xs.toList.map (ev l) ++ cap.toList = args) (hc : ∀ u,Mem w0 u is → Does P f args u fun x _=>x = v)
    (h : wpQuiet P ops (fun u=>Mem w0 u is) Q rest (Fr (l.set d v) ds)) : wpQuiet P ops (fun u=>Mem w0 u is) Q (Oper.mk (some d) (.call { callee:=.value fo,args:=xs,argTypes:=a0 }) ty pos after none :: rest) (Fr l ds):=by
  refine wpQuiet_step fun K hK=>?_
  rw [if_pos (by simp [Region.wanted])]
  refine ⟨v,fun w' hw=>?_,?_⟩
  · unfold Oper.quietAt
    rw [fr_eval,run_call (hc w' hw).1 hf hxs _ rfl]
    refine ⟨rfl,(hc w' hw).2.mono ?_⟩
    rintro e w'' ⟨u,rfl,hE,rfl⟩
    exact ⟨rfl,hw.ext' hE⟩
  · show K ((Fr l ds).put (some d) v)
    rw [fr_put]
    exact hK _ h
theorem qcP {f : FuncId} {fo : Operand} {xs : Array Operand} {args : List Value} {first cap : Array Value} {a0 : Array TypeId} (hf : ev l fo = .func (.func f) first cap) (hxs : first.toList ++ xs.toList.map (ev l) ++ cap.toList = args) (hc : Pure P f args v)
    (h : wpQuiet P ops (fun u=>Mem w0 u is) Q rest (Fr (l.set d v) ds)) : wpQuiet P ops (fun u=>Mem w0 u is) Q (Oper.mk (some d) (.call { callee:=.value fo,args:=xs,argTypes:=a0 }) ty pos after none :: rest) (Fr l ds):=qc hf hxs (fun u _=>hc u) h
end
end Go.Lith
namespace Go.Lith
open Go.RowKit
@[irreducible] def may (c : Bool) (v : Value) : Value:=if c then v else undef
theorem may_t {v : Value} : may true v = v:=by simp [may]
theorem may_f {v : Value} : may false v = undef:=by simp [may]
theorem mayE {c : Bool} {u v : Value} (hb : c = true) (h : u = may c v) : u = v:=by rw [h,hb,may_t]
section
variable {P : Program} {ds : List Deferred} {l : List Value} {x y : Operand} {T ty : TypeId} {b c : Bool} {v : Value}
theorem r_pickAnd {z : Operand} (hz : ev l z = .bool b) (hx : ev l x = may b (.bool c)) (hy : ev l y = .bool false) : Run P l (.pick z x y) ty (.bool (b && c)):=by
  have:=r_pick (P:=P) (ty:=ty) (x:=x) (y:=y) hz
  cases b with
  | false=>simpa [hy] using this
  | true=>simpa [hx,may_t] using this
theorem r_pickOr {z : Operand} (hz : ev l z = .bool b) (hx : ev l x = .bool true) (hy : ev l y = may (!b) (.bool c)) : Run P l (.pick z x y) ty (.bool (b || c)):=by
  have:=r_pick (P:=P) (ty:=ty) (x:=x) (y:=y) hz
  cases b with
  | false=>simpa [hy,may_t] using this
  | true=>simpa [hx] using this
end
section
variable {P : Program} {ops : Array Oper} {Q : Exit → Act → World → Prop} {rest : List Oper} {d j : Nat} {op : Op} {ty : TypeId} {pos : String} {after : Array Edge} {v : Value} {b : Bool} {ds : List Deferred} {l : List Value} {w w0 : World} {is : List It}
theorem n_mayTW (hw : yielded ops l.toArray j = some b) (hr : b = true → RunW P l op ty v w) (h : wpList P ops Q rest (Fr (l.set d (may b v)) ds) w) : wpList P ops Q (Oper.mk (some d) op ty pos after (some (j,true)) :: rest) (Fr l ds) w:=by
  cases b with
  | false=>rw [may_f] at h; exact n_skipT hw h
  | true=>rw [may_t] at h; exact n_want hw (n_valW (hr rfl) h)
theorem n_mayFW (hw : yielded ops l.toArray j = some b) (hr : (!b) = true → RunW P l op ty v w) (h : wpList P ops Q rest (Fr (l.set d (may (!b) v)) ds) w) : wpList P ops Q (Oper.mk (some d) op ty pos after (some (j,false)) :: rest) (Fr l ds) w:=by
  cases b with
  | true=>rw [Bool.not_true,may_f] at h; exact n_skipF hw h
  | false=>rw [Bool.not_false,may_t] at h; exact n_want hw (n_valW (hr rfl) h)
theorem n_mayT (hw : yielded ops l.toArray j = some b) (hr : b = true → Run P l op ty v) (h : wpList P ops Q rest (Fr (l.set d (may b v)) ds) w) : wpList P ops Q (Oper.mk (some d) op ty pos after (some (j,true)) :: rest) (Fr l ds) w:=n_mayTW hw (fun e=>hr e w) h
theorem n_mayF (hw : yielded ops l.toArray j = some b) (hr : (!b) = true → Run P l op ty v) (h : wpList P ops Q rest (Fr (l.set d (may (!b) v)) ds) w) : wpList P ops Q (Oper.mk (some d) op ty pos after (some (j,false)) :: rest) (Fr l ds) w:=n_mayFW hw (fun e=>hr e w) h
theorem n_mayTP {f : FuncId} {fo : Operand} {xs : Array Operand} {args : List Value} {first cap : Array Value} {a0 : Array TypeId} (m : Mem w0 w is) (hw : yielded ops l.toArray j = some b) (hf : ev l fo = .func (.func f) first cap) (hxs : b = true → first.toList ++ xs.toList.map (ev l) ++ cap.toList = args) (hc : b = true → Pure P f args v)
    (h : ∀ u,Mem w0 u is → wpList P ops Q rest (Fr (l.set d (may b v)) ds) u) : wpList P ops Q (Oper.mk (some d) (.call { callee:=.value fo,args:=xs,argTypes:=a0 }) ty pos after (some (j,true)) :: rest) (Fr l ds) w:=by
  cases b with
  | false=>simp only [may_f] at h; exact n_skipT hw (h w m)
  | true=>simp only [may_t] at h; exact n_want hw (mcallP m hf (hxs rfl) (hc rfl) h)
end
section
variable {P : Program} {ops : Array Oper} {Q : Act → Prop} {C : World → Prop} {rest : List Oper} {d j : Nat} {op : Op} {ty : TypeId} {pos : String} {after : Array Edge} {v : Value} {b : Bool} {ds : List Deferred} {l : List Value} {w0 : World} {is : List It}
end
section
variable {P : Program} {ops : Array Oper} {S : World → Prop} {Q : Exit → Act → World → Prop} {rest : List (Oper × Bool)} {d j : Nat} {op : Op} {ty : TypeId} {pos : String} {after : Array Edge} {v : Value} {b : Bool} {ds : List Deferred} {l : List Value} {w : World}
end
end Go.Lith
namespace Go.Lith
open Go.RowKit
theorem sub_self' (p : P3) : p.sub p = ⟨0,0,0⟩:=by simp only [P3.sub,Int.sub_self]
theorem dot_zero (u : P3) : u.dot ⟨0,0,0⟩ = 0:=by simp [P3.dot]
theorem zero_dot (u : P3) : P3.dot ⟨0,0,0⟩ u = 0:=by simp [P3.dot]
theorem cross_zero (u : P3) : u.cross ⟨0,0,0⟩ = ⟨0,0,0⟩:=by simp [P3.cross]
theorem seg_deg (x p : P3) : segq x p p = Rat.divInt ((x.sub p).dot (x.sub p)) 1:=by
  rw [segq,if_pos (by rw [sub_self',zero_dot]; exact Int.le_refl _)]
theorem seg_start (p q : P3) : segq p p q = 0:=by
  rw [segq,if_pos (by rw [sub_self',dot_zero]; exact Int.le_refl _),sub_self',dot_zero]
  rfl
theorem seg_end (p q : P3) : segq q p q = 0:=by
  unfold segq
  split
  · rename_i h
    have h0:=dot_nn (q.sub p)
    rw [show (q.sub p).dot (q.sub p) = 0 by omega]
    rfl
  · rw [if_pos (Int.le_refl _),sub_self',dot_zero]
    rfl
end Go.Lith
namespace Go.Lith
open Go.RowKit Go.ChangeShapes
variable {H : Type} {enc : TypeId × Value → H} {P : Program} {w : World} {base : Nat} {spare : Nat → Bool} {held : Bool}
def intsOnly (P : Program) : Nat → TypeId → Bool
  | 0,_=>false
  | n + 1,t=>match P.underlying t with
    | some (.int .i64)=>decide (P.cellsOf t = 1)
    | some (.struct fs)=>(fs.toList.all fun f=>intsOnly P n f.type) && (List.range (P.cellsOf t)).all fun i=>fs.toList.any fun f=>decide (f.offset ≤ i) && decide (i < f.offset + P.cellsOf f.type)
    | some (.array m e)=>intsOnly P n e && decide (P.cellsOf t = m * P.cellsOf e)
    | _=>false
theorem i64_of {n : Int} (h : (Lit.int .i64 n).wf = true) : I64 n:=by
  have:=bounds_i64 h
  exact ⟨by omega,by omega⟩
theorem ints_of_trod : ∀ (n : Nat) (t : TypeId) (m : Nat) (cs : List Value) (x : DataW H × List MemPlace),intsOnly P n t = true → DataW.trod enc P w base spare held m t cs = some x →
    cs.length = P.cellsOf t ∧ ∀ v ∈ cs,∃ z,v = .int .i64 z ∧ I64 z
  | 0,t,m,cs,x,h,_=>by cases h
  | n + 1,t,m,cs,x,h,hx=>by
    unfold intsOnly at h
    split at h
    · rename_i hu
      obtain ⟨z,rfl,_,hz⟩:=DataW.trod_int hu hx
      refine ⟨by rw [of_decide_eq_true h]; rfl,fun v hv=>⟨z,by simpa using hv,i64_of hz⟩⟩
    · rename_i fs hu
      simp only [Bool.and_eq_true,List.all_eq_true,List.any_eq_true,decide_eq_true_eq,List.mem_range] at h
      obtain ⟨ys,k,_,_,hl,hlen,hf⟩:=DataW.trod_struct hu hx
      refine ⟨hl,fun v hv=>?_⟩
      obtain ⟨i,hi,rfl⟩:=List.getElem_of_mem hv
      obtain ⟨f,hfm,h1,h2⟩:=h.2 i (by rw [← hl]; exact hi)
      obtain ⟨j,hj,rfl⟩:=List.getElem_of_mem hfm
      have hj' : j < fs.size:=by simpa using hj
      have:=hf j fs[j] (Array.getElem?_eq_getElem hj')
      rw [List.getElem?_eq_getElem (by rw [hlen]; exact hj')] at this
      have hr:=(ints_of_trod n _ _ _ _ (h.1 _ (List.getElem_mem hj)) this).2
      refine hr _ ?_
      simp only [Array.getElem_toList] at h1 h2
      refine List.mem_of_getElem? (i:=i - fs[j].offset) ?_
      rw [List.getElem?_take,if_pos (by omega),List.getElem?_drop,show fs[j].offset + (i - fs[j].offset) = i by omega]
      exact List.getElem?_eq_getElem hi
    · rename_i q e hu
      simp only [Bool.and_eq_true,decide_eq_true_eq] at h
      obtain ⟨ys,k,_,_,hl,hlen,hf⟩:=DataW.trod_array hu hx
      refine ⟨hl,fun v hv=>?_⟩
      obtain ⟨i,hi,rfl⟩:=List.getElem_of_mem hv
      rw [hl,h.2] at hi
      have hc : 0 < P.cellsOf e:=by
        rcases Nat.eq_zero_or_pos (P.cellsOf e) with h0 | h0
        · rw [h0] at hi; omega
        · exact h0
      have hq : i / P.cellsOf e < q:=Nat.div_lt_of_lt_mul (by rw [Nat.mul_comm]; exact hi)
      have:=hf _ hq
      rw [List.getElem?_eq_getElem (by rw [hlen]; exact hq)] at this
      have hr:=(ints_of_trod n _ _ _ _ h.1 this).2
      refine hr _ (List.mem_of_getElem? (i:=i % P.cellsOf e) ?_)
      rw [List.getElem?_take,if_pos (Nat.mod_lt _ hc),List.getElem?_drop,Nat.mul_comm,Nat.div_add_mod]
      exact List.getElem?_eq_getElem _
    · cases h
theorem ints_list : ∀ (n : Nat) (cs : List Value),cs.length = n → (∀ v ∈ cs,∃ z,v = .int .i64 z ∧ I64 z) → ∃ zs : List Int,zs.length = n ∧ cs = zs.map (.int .i64 ·) ∧ ∀ z ∈ zs,I64 z
  | 0,[],_,_=>⟨[],rfl,rfl,fun _ h=>by cases h⟩
  | n + 1,v :: vs,h,hv=>by
    obtain ⟨zs,h1,h2,h3⟩:=ints_list n vs (by simpa using h) (fun u hu=>hv u (by simp [hu]))
    obtain ⟨z,rfl,hz⟩:=hv v (by simp)
    exact ⟨z :: zs,by simp [h1],by simp [h2],fun u hu=>by rcases List.mem_cons.1 hu with rfl | hu; exact hz; exact h3 _ hu⟩
theorem open_ints {r : Reach} {b0 n m : Nat} {t : TypeId} {v : Value} {d : DataW H} {p : List MemPlace} (ha : IsAgg P t true) (hi : intsOnly P n t = true) (hc : P.cellsOf t = m) (hv : Value.okWide P w r b0 t v) (h : DataW.Trod enc P w base spare held t v d p) :
    ∃ zs : List Int,zs.length = m ∧ v = .agg (zs.map (.int .i64 ·)).toArray ∧ ∀ z ∈ zs,I64 z:=by
  obtain ⟨dd,hu,hd⟩:=ha
  obtain ⟨fuel,hf⟩:=h
  unfold Value.okWide at hv
  rw [hu] at hv
  have : ∃ cs,v = .agg cs:=by
    cases dd <;> first | (obtain ⟨cs,rfl,_⟩:=hv; exact ⟨cs,rfl⟩) | (cases hd)
  obtain ⟨cs,rfl⟩:=this
  obtain ⟨h1,h2⟩:=ints_of_trod n t fuel _ _ hi hf
  obtain ⟨zs,h3,h4,h5⟩:=ints_list m cs.toList (by rw [← hc]; exact h1) h2
  exact ⟨zs,h3,by rw [← h4],h5⟩
theorem three {zs : List Int} (h : zs.length = 3) : ∃ a b c,zs = [a,b,c]:=by
  match zs,h with
  | [a,b,c],_=>exact ⟨a,b,c,rfl⟩
theorem nine {zs : List Int} (h : zs.length = 9) : ∃ a b c d e f g i j,zs = [a,b,c,d,e,f,g,i,j]:=by
  match zs,h with
  | [a,b,c,d,e,f,g,i,j],_=>exact ⟨a,b,c,d,e,f,g,i,j,rfl⟩
theorem open_pt {r : Reach} {b0 n : Nat} {t : TypeId} {v : Value} {d : DataW H} {p : List MemPlace} (ha : IsAgg P t true) (hi : intsOnly P n t = true) (hc : P.cellsOf t = 3) (hv : Value.okWide P w r b0 t v) (h : DataW.Trod enc P w base spare held t v d p) : ∃ q : P3,I3 q ∧ v = pt q:=by
  obtain ⟨zs,h1,rfl,h2⟩:=open_ints ha hi hc hv h
  obtain ⟨a,b,c,rfl⟩:=three h1
  exact ⟨⟨a,b,c⟩,⟨h2 _ (by simp),h2 _ (by simp),h2 _ (by simp)⟩,rfl⟩
theorem cells?_row {a : Addr} {n : Nat} {cs : List Value} (h : w.cells? base a n = some cs) : Row w a cs ∧ base ≤ a.block:=by
  unfold World.cells? at h
  split at h
  · rename_i hb
    refine ⟨fun j u hj=>?_,hb⟩
    have hl:=mapM_some_length h
    have hj' : j < cs.length:=(List.getElem?_eq_some_iff.1 hj).1
    rw [hl] at hj'
    have:=mapM_some_get h j j (List.getElem?_eq_getElem hj' ▸ by simp)
    rw [this,hj]
  · cases h
theorem open_rows {n m : Nat} {t e : TypeId} {fuel : Nat} {cs : List Value} {x : DataW H × List MemPlace} (hu : P.underlying t = some (.slice e)) (hi : intsOnly P n e = true) (hc : P.cellsOf e = m) (h : DataW.trod enc P w base spare held fuel t cs = some x) :
    ∃ (A : Option Addr) (len cap : Nat),cs = [.slice A len cap] ∧ len ≤ cap ∧ cap ≤ maxLen ∧ (A = none → len = 0) ∧ ∀ i,i < len → ∃ (a : Addr) (zs : List Int),A = some a ∧ base ≤ a.block ∧ Row w (a.add (i * m)) (zs.map (Value.int .i64 ·)) ∧ zs.length = m ∧ ∀ z ∈ zs,I64 z:=by
  rcases Deep.open_slice hu h with ⟨rfl,_⟩ | ⟨a,len,cap,k,q,D,Pl,rfl,hb,hl,hm,hk,_,hx⟩
  · exact ⟨none,0,0,rfl,Nat.le_refl _,Nat.zero_le _,fun _=>rfl,fun i hi=>absurd hi (Nat.not_lt_zero _)⟩
  · refine ⟨some a,len,cap,rfl,hl,hm,fun h=>(by cases h),fun i hi'=>?_⟩
    obtain ⟨cs',h1,h2⟩:=hx i (by rw [hk]; split <;> omega)
    obtain ⟨h3,h4⟩:=ints_of_trod n e q _ _ hi h2
    obtain ⟨zs,h5,rfl,h6⟩:=ints_list m cs' (by rw [← hc]; exact h3) h4
    rw [hc] at h1
    exact ⟨a,zs,rfl,hb,(cells?_row h1).1,h5,h6⟩
theorem choose_list {α : Type} {p : Nat → α → Prop} : ∀ (n : Nat),(∀ i,i < n → ∃ x,p i x) → ∃ l : List α,l.length = n ∧ ∀ i x,l[i]? = some x → p i x
  | 0,_=>⟨[],rfl,fun i x h=>by simp at h⟩
  | n + 1,h=>by
    obtain ⟨l,h1,h2⟩:=choose_list n (fun i hi=>h i (by omega))
    obtain ⟨x,hx⟩:=h n (by omega)
    refine ⟨l ++ [x],by simp [h1],fun i y hy=>?_⟩
    rcases Nat.lt_trichotomy i n with hi | hi | hi
    · exact h2 i y (by rwa [List.getElem?_append_left (by omega)] at hy)
    · subst hi
      rw [List.getElem?_append_right (by omega),h1,Nat.sub_self] at hy
      cases hy
      exact hx
    · rw [List.getElem?_append_right (by omega),h1] at hy
      have : i - n ≠ 0:=by omega
      cases hd : i - n with
      | zero=>omega
      | succ j=>rw [hd] at hy; simp at hy
theorem open_tris {n : Nat} {t e : TypeId} {fuel : Nat} {cs : List Value} {x : DataW H × List MemPlace} (hu : P.underlying t = some (.slice e)) (hi : intsOnly P n e = true) (hc : P.cellsOf e = 9) (h : DataW.trod enc P w base spare held fuel t cs = some x) :
    ∃ (A : Option Addr) (len cap : Nat) (ts : List T3),cs = [.slice A len cap] ∧ len ≤ cap ∧ cap ≤ maxLen ∧ (A = none → len = 0) ∧ TrisAt w A len ts:=by
  obtain ⟨A,len,cap,rfl,h1,h2,h3,h4⟩:=open_rows hu hi hc h
  obtain ⟨ts,h5,h6⟩:=choose_list (p:=fun i (t : T3)=>IT t ∧ ∃ a,A = some a ∧ Row w (a.add (i * 9)) (triCells t)) len (fun i hi=>by
    obtain ⟨a,zs,rfl,_,hr,hl,hz⟩:=h4 i hi
    obtain ⟨x1,x2,x3,y1,y2,y3,z1,z2,z3,rfl⟩:=nine hl
    exact ⟨⟨⟨x1,x2,x3⟩,⟨y1,y2,y3⟩,⟨z1,z2,z3⟩⟩,⟨⟨hz _ (by simp),hz _ (by simp),hz _ (by simp)⟩,⟨hz _ (by simp),hz _ (by simp),hz _ (by simp)⟩,⟨hz _ (by simp),hz _ (by simp),hz _ (by simp)⟩⟩,a,rfl,hr⟩)
  refine ⟨A,len,cap,ts,rfl,h1,h2,h3,h5,fun t ht=>?_,fun i t ht=>(h6 i t ht).2⟩
  obtain ⟨i,hi,rfl⟩:=List.getElem_of_mem ht
  exact (h6 i _ (List.getElem?_eq_getElem hi)).1
structure IntsAt (w : World) (A : Option Addr) (n : Nat) (zs : List Int) : Prop where
  len : zs.length = n
  it : ∀ z ∈ zs,I64 z
  row : ∀ i z,zs[i]? = some z → ∃ a,A = some a ∧ w.cell? (a.add i) = some (.int .i64 z)
theorem IntsAt.ext {w' : World} {A : Option Addr} {n : Nat} {zs : List Int} (h : IntsAt w A n zs) (hE : Ext w w') : IntsAt w' A n zs :=
  ⟨h.len,h.it,fun i z hi=>let ⟨a,e,hr⟩:=h.row i z hi; ⟨a,e,hE.cell hr⟩⟩
theorem IntsAt.get {A : Option Addr} {n : Nat} {zs : List Int} (h : IntsAt w A n zs) {i : Nat} (hi : i < n) : ∃ z,zs[i]? = some z ∧ Iw z ∧ ∃ a,A = some a ∧ w.cell? (a.add i) = some (.int .i64 z):=by
  have hl : i < zs.length:=by rw [h.len]; exact hi
  exact ⟨zs[i],List.getElem?_eq_getElem hl,⟨h.it _ (List.getElem_mem hl)⟩,h.row i _ (List.getElem?_eq_getElem hl)⟩
theorem open_intsl {n : Nat} {t e : TypeId} {fuel : Nat} {cs : List Value} {x : DataW H × List MemPlace} (hu : P.underlying t = some (.slice e)) (hi : intsOnly P n e = true) (hc : P.cellsOf e = 1) (h : DataW.trod enc P w base spare held fuel t cs = some x) :
    ∃ (A : Option Addr) (len cap : Nat) (zs : List Int),cs = [.slice A len cap] ∧ len ≤ cap ∧ cap ≤ maxLen ∧ (A = none → len = 0) ∧ IntsAt w A len zs:=by
  obtain ⟨A,len,cap,rfl,h1,h2,h3,h4⟩:=open_rows hu hi hc h
  obtain ⟨zs,h5,h6⟩:=choose_list (p:=fun i (z : Int)=>I64 z ∧ ∃ a,A = some a ∧ w.cell? (a.add i) = some (.int .i64 z)) len (fun i hi=>by
    obtain ⟨a,zs,rfl,_,hr,hl,hz⟩:=h4 i hi
    match zs,hl with
    | [z],_=>exact ⟨z,hz _ (by simp),a,rfl,by have:=hr 0 _ rfl; rwa [Nat.mul_one,addr_add_add,Nat.add_zero] at this⟩)
  refine ⟨A,len,cap,zs,rfl,h1,h2,h3,h5,fun z hz=>?_,fun i z hz=>(h6 i z hz).2⟩
  obtain ⟨i,hi,rfl⟩:=List.getElem_of_mem hz
  exact (h6 i _ (List.getElem?_eq_getElem hi)).1
theorem open_shape {r : Reach} {b0 n : Nat} {t tI tH tQ tM tT : TypeId} {fs : Array Field} {v : Value} {d : DataW H} {p : List MemPlace} (hs : P.underlying t = some (.struct fs)) (hf : fs.map (fun f=>(f.type,f.offset)) = #[(tI,0),(tI,1),(tH,2),(tQ,3),(tM,6)]) (ct : P.cellsOf t = 7)
    (hI : intsOnly P n tI = true) (cI : P.cellsOf tI = 1) (hH : P.underlying tH = some (.slice tI)) (cH : P.cellsOf tH = 1) (hQ : intsOnly P n tQ = true) (cQ : P.cellsOf tQ = 3) (hM : P.underlying tM = some (.slice tT)) (cM : P.cellsOf tM = 1) (hT : intsOnly P n tT = true) (cT : P.cellsOf tT = 9)
    (hv : Value.okWide P w r b0 t v) (h : DataW.Trod enc P w base spare held t v d p) :
    ∃ (kind bits q0 q1 q2 : Int) (HA MA : Option Addr) (HN Hc MN Mc : Nat) (zs : List Int) (ms : List T3),v = .agg #[.int .i64 kind,.int .i64 bits,.slice HA HN Hc,.int .i64 q0,.int .i64 q1,.int .i64 q2,.slice MA MN Mc] ∧
      Iw kind ∧ Iw bits ∧ Iw q0 ∧ Iw q1 ∧ Iw q2 ∧ IntsAt w HA HN zs ∧ TrisAt w MA MN ms ∧ MN ≤ Mc:=by
  obtain ⟨fuel,hfu⟩:=h
  unfold Value.okWide at hv
  rw [hs] at hv
  obtain ⟨cs,rfl,hz,_⟩:=hv
  obtain ⟨xs,m,_,_,hl,hxl,hx⟩:=DataW.trod_struct hs hfu
  have field : ∀ (i : Nat) (ty : TypeId) (off : Nat),(#[(tI,0),(tI,1),(tH,2),(tQ,3),(tM,6)] : Array (TypeId × Nat))[i]? = some (ty,off) → ∃ y,DataW.trod enc P w base spare held m ty ((cs.toList.drop off).take (P.cellsOf ty)) = some y:=fun i ty off hi=>by
    rw [← hf,Array.getElem?_map] at hi
    cases hq : fs[i]? with
    | none=>rw [hq] at hi; cases hi
    | some f =>
      rw [hq] at hi
      simp only [Option.map_some,Option.some.injEq,Prod.mk.injEq] at hi
      obtain ⟨rfl,rfl⟩:=hi
      have hi' : i < fs.size:=(Array.getElem?_eq_some_iff.1 hq).1
      exact ⟨xs[i]'(by omega),(hx i f hq).trans (List.getElem?_eq_getElem (by omega))⟩
  rw [ct] at hz
  obtain ⟨l⟩:=cs
  match l,hz with
  | [c0,c1,c2,c3,c4,c5,c6],_ =>
    obtain ⟨y0,h0⟩:=field 0 tI 0 rfl
    obtain ⟨y1,h1⟩:=field 1 tI 1 rfl
    obtain ⟨y2,h2⟩:=field 2 tH 2 rfl
    obtain ⟨y3,h3⟩:=field 3 tQ 3 rfl
    obtain ⟨y4,h4⟩:=field 4 tM 6 rfl
    simp only [cI,cH,cQ,cM] at h0 h1 h2 h3 h4
    have e0:=(ints_of_trod n tI m [c0] _ hI h0).2
    have e1:=(ints_of_trod n tI m [c1] _ hI h1).2
    have e3:=(ints_of_trod n tQ m [c3,c4,c5] _ hQ h3).2
    obtain ⟨kind,rfl,k0⟩:=e0 c0 (by simp)
    obtain ⟨bits,rfl,k1⟩:=e1 c1 (by simp)
    obtain ⟨q0,rfl,k2⟩:=e3 c3 (by simp)
    obtain ⟨q1,rfl,k3⟩:=e3 c4 (by simp)
    obtain ⟨q2,rfl,k4⟩:=e3 c5 (by simp)
    obtain ⟨HA,HN,Hc,zs,hc2,_,_,_,hZ⟩:=open_intsl (n:=n) (cs:=[c2]) hH hI cI h2
    obtain ⟨MA,MN,Mc,ms,hc6,hle,_,_,hMs⟩:=open_tris (n:=n) (cs:=[c6]) hM hT cT h4
    simp only [List.cons.injEq,and_true] at hc2 hc6
    subst hc2
    subst hc6
    exact ⟨kind,bits,q0,q1,q2,HA,MA,HN,Hc,MN,Mc,zs,ms,rfl,⟨k0⟩,⟨k1⟩,⟨k2⟩,⟨k3⟩,⟨k4⟩,hZ,hMs,hle⟩
end Go.Lith
namespace Go.Lith
open Go.RowKit
theorem tm_bd {n m : Int} (hm : 0 < m) : -m < n.tmod m ∧ n.tmod m < m:=by
  have h1:=Int.tmod_lt_of_pos n hm
  have h2:=Int.tmod_lt_of_pos (-n) hm
  rw [Int.neg_tmod] at h2
  omega
theorem mod_law {n m : Int} (hm : 0 < m) : (n.tmod m + m).tmod m = n % m:=by
  have hb:=tm_bd (n:=n) hm
  rw [Int.tmod_eq_emod_of_nonneg (by omega)]
  rcases Int.le_total 0 n with h | h
  · rw [Int.tmod_eq_emod_of_nonneg h]
    simp
  · have e : n.tmod m = -((-n) % m):=by
      rw [← Int.tmod_eq_emod_of_nonneg (show 0 ≤ -n by omega),Int.neg_tmod,Int.neg_neg]
    rw [e,Int.add_emod_right]
    have h2:=Int.emod_add_mul_ediv (-n) m
    have h3 : -((-n) % m) = n + m * (-n / m):=by omega
    rw [h3,Int.add_mul_emod_self_left]
theorem emod_bd {n m : Int} (hm : 0 < m) : 0 ≤ n % m ∧ n % m < m:=⟨Int.emod_nonneg _ (by omega),Int.emod_lt_of_pos _ hm⟩
/-! ### Hills -/
def hgt (zs : List Int) (x y : Nat) : Int:=(zs[(y * 7 + x) % zs.length]?.getD 0) % 64
theorem hgt_bd (zs : List Int) (x y : Nat) : 0 ≤ hgt zs x y ∧ hgt zs x y < 64:=emod_bd (by decide)
def hillP (s : Int) (zs : List Int) (x y : Nat) : P3:=⟨(x : Int) * s,(y : Int) * s,100 + hgt zs x y⟩
def quadT (a b c d : P3) : List T3:=[⟨a,b,c⟩,⟨a,c,d⟩]
def hillQ (s : Int) (zs : List Int) (y x : Nat) : List T3:=quadT (hillP s zs x y) (hillP s zs (x + 1) y) (hillP s zs (x + 1) (y + 1)) (hillP s zs x (y + 1))
def hillsPre (s : Int) (zs : List Int) (n y x : Nat) : List T3:=((List.range y).flatMap fun y=>(List.range n).flatMap (hillQ s zs y)) ++ (List.range x).flatMap (hillQ s zs y)
def hillsT (s : Int) (zs : List Int) (n : Nat) : List T3:=(List.range n).flatMap fun y=>(List.range n).flatMap (hillQ s zs y)
theorem hillsPre_end {s : Int} {zs : List Int} {n : Nat} : hillsPre s zs n n 0 = hillsT s zs n:=by simp [hillsPre,hillsT]
theorem hillsPre_row {s : Int} {zs : List Int} {n y : Nat} : hillsPre s zs n y n = hillsPre s zs n (y + 1) 0:=by
  simp [hillsPre,List.range_succ,List.flatMap_append]
theorem hillsPre_step {s : Int} {zs : List Int} {n y x : Nat} : hillsPre s zs n y (x + 1) = hillsPre s zs n y x ++ hillQ s zs y x:=by
  simp [hillsPre,List.range_succ,List.flatMap_append]
theorem flatMap_len {α β : Type} {f : α → List β} {k : Nat} : ∀ (l : List α),(∀ x ∈ l,(f x).length = k) → (l.flatMap f).length = l.length * k
  | [],_=>by simp
  | x :: l,h=>by
    rw [List.flatMap_cons,List.length_append,h x (by simp),flatMap_len l (fun y hy=>h y (by simp [hy])),List.length_cons,Nat.add_mul,Nat.one_mul,Nat.add_comm]
theorem hillsPre_length {s : Int} {zs : List Int} {n y x : Nat} : (hillsPre s zs n y x).length = y * (n * 2) + x * 2:=by
  unfold hillsPre
  rw [List.length_append,flatMap_len (k:=n * 2) _ (fun y _=>by rw [flatMap_len (k:=2) _ (fun _ _=>rfl),List.length_range]),flatMap_len (k:=2) _ (fun _ _=>rfl),List.length_range,List.length_range]
def Sm (k : Int) (p : P3) : Prop:=(0 ≤ p.x ∧ p.x ≤ k) ∧ (0 ≤ p.y ∧ p.y ≤ k) ∧ (0 ≤ p.z ∧ p.z ≤ k)
def SmT (k : Int) (t : T3) : Prop:=Sm k t.a ∧ Sm k t.b ∧ Sm k t.c
theorem Sm.i3 {k : Int} {p : P3} (h : Sm k p) (hk : k < 9223372036854775808) : I3 p:=⟨⟨by have:=h.1; omega,by have:=h.1; omega⟩,⟨by have:=h.2.1; omega,by have:=h.2.1; omega⟩,⟨by have:=h.2.2; omega,by have:=h.2.2; omega⟩⟩
theorem SmT.it {k : Int} {t : T3} (h : SmT k t) (hk : k < 9223372036854775808) : IT t:=⟨h.1.i3 hk,h.2.1.i3 hk,h.2.2.i3 hk⟩
theorem quad_sm {k : Int} {a b c d : P3} (ha : Sm k a) (hb : Sm k b) (hc : Sm k c) (hd : Sm k d) : ∀ t ∈ quadT a b c d,SmT k t:=fun t ht=>by
  simp only [quadT,List.mem_cons,List.not_mem_nil,or_false] at ht
  rcases ht with rfl | rfl
  · exact ⟨ha,hb,hc⟩
  · exact ⟨ha,hc,hd⟩
theorem hillP_sm {zs : List Int} {x y : Nat} (hx : x ≤ 6) (hy : y ≤ 6) : Sm 200 (hillP 10 zs x y):=by
  have:=hgt_bd zs x y
  simp only [Sm,hillP]
  omega
theorem hillQ_sm {zs : List Int} {x y : Nat} (hx : x < 6) (hy : y < 6) : ∀ t ∈ hillQ 10 zs y x,SmT 200 t :=
  quad_sm (hillP_sm (by omega) (by omega)) (hillP_sm (by omega) (by omega)) (hillP_sm (by omega) (by omega)) (hillP_sm (by omega) (by omega))
theorem hillsPre_sm {zs : List Int} {n x y : Nat} (hn : n ≤ 6) (hx : x ≤ 6) (hy : y ≤ 6) (hxy : x = 0 ∨ y < 6) : ∀ t ∈ hillsPre 10 zs n y x,SmT 200 t:=fun t ht=>by
  rcases List.mem_append.1 ht with h | h
  · obtain ⟨v,hv,h⟩:=List.mem_flatMap.1 h
    obtain ⟨u,hu,h⟩:=List.mem_flatMap.1 h
    exact hillQ_sm (by have:=List.mem_range.1 hu; omega) (by have:=List.mem_range.1 hv; omega) t h
  · obtain ⟨u,hu,h⟩:=List.mem_flatMap.1 h
    have:=List.mem_range.1 hu
    exact hillQ_sm (by omega) (by omega) t h
/-! ### Cubes -/
def cubeC (p : P3) (s : Int) (n : Nat) : P3:=⟨p.x + ((n % 2 : Nat) : Int) * s,p.y + ((n / 2 % 2 : Nat) : Int) * s,p.z + ((n / 4 : Nat) : Int) * s⟩
def cubeT (p : P3) (s : Int) : List T3:=quadT (cubeC p s 0) (cubeC p s 2) (cubeC p s 3) (cubeC p s 1) ++ quadT (cubeC p s 4) (cubeC p s 5) (cubeC p s 7) (cubeC p s 6) ++ quadT (cubeC p s 0) (cubeC p s 1) (cubeC p s 5) (cubeC p s 4)
  ++ quadT (cubeC p s 2) (cubeC p s 6) (cubeC p s 7) (cubeC p s 3) ++ quadT (cubeC p s 0) (cubeC p s 4) (cubeC p s 6) (cubeC p s 2) ++ quadT (cubeC p s 1) (cubeC p s 3) (cubeC p s 7) (cubeC p s 5)
theorem cubeT_length (p : P3) (s : Int) : (cubeT p s).length = 12:=rfl
def vP (n : Nat) : P3:=⟨4 + ((n % 3 : Nat) : Int) * 8,5 + ((n / 3 % 3 : Nat) : Int) * 8,6 + ((n / 9 : Nat) : Int) * 8⟩
def stx (f : Nat) : Int:=if f = 4 then -1 else if f = 5 then 1 else 0
def sty (f : Nat) : Int:=if f = 2 then -1 else if f = 3 then 1 else 0
def stz (f : Nat) : Int:=if f = 0 then -1 else if f = 1 then 1 else 0
def vbit (b : Nat) (n : Nat) : Bool:=decide (b / 2 ^ n % 2 = 1)
def vface (b n f : Nat) : Bool :=
  let u:=((n % 3 : Nat) : Int) + stx f
  let v:=((n / 3 % 3 : Nat) : Int) + sty f
  let w:=((n / 9 : Nat) : Int) + stz f
  !(decide (0 ≤ u) && decide (u < 3) && decide (0 ≤ v) && decide (v < 3) && decide (0 ≤ w) && decide (w < 3)) || !vbit b ((w * 3 + v) * 3 + u).toNat
def vpair (n f : Nat) : List T3:=((cubeT (vP n) 8).drop (2 * f)).take 2
def vfaces (b n f : Nat) : List T3:=(List.range f).flatMap fun f=>if vface b n f then vpair n f else []
def voxPre (b n f : Nat) : List T3:=((List.range n).flatMap fun n=>if vbit b n then vfaces b n 6 else []) ++ vfaces b n f
def voxT (b : Nat) : List T3:=(List.range 27).flatMap fun n=>if vbit b n then vfaces b n 6 else []
theorem voxPre_end {b : Nat} : voxPre b 27 0 = voxT b:=by simp [voxPre,voxT,vfaces]
theorem voxPre_yes {b n : Nat} (h : vbit b n = true) : voxPre b n 6 = voxPre b (n + 1) 0:=by
  simp [voxPre,List.range_succ (n:=n),List.flatMap_append,h,vfaces]
theorem voxPre_no {b n : Nat} (h : vbit b n = false) : voxPre b n 0 = voxPre b (n + 1) 0:=by
  simp [voxPre,List.range_succ (n:=n),List.flatMap_append,h,vfaces]
theorem voxPre_in {b n f : Nat} (h : vface b n f = true) : voxPre b n (f + 1) = voxPre b n f ++ vpair n f:=by
  simp [voxPre,vfaces,List.range_succ (n:=f),List.flatMap_append,h]
theorem voxPre_out {b n f : Nat} (h : vface b n f = false) : voxPre b n (f + 1) = voxPre b n f:=by
  simp [voxPre,vfaces,List.range_succ (n:=f),List.flatMap_append,h]
/-! ### What the walks ask for -/
theorem tmodN {k c : Nat} : (k : Int).tmod (c : Int) = ((k % c : Nat) : Int):=rfl
theorem shrI {b : Nat} {n : Int} (h0 : 0 ≤ n) (h : n ≤ 63) : (b : Int).fdiv (2 ^ (min n.toNat IntKind.i64.bits)) = ((b / 2 ^ n.toNat : Nat) : Int):=by
  have e : min n.toNat IntKind.i64.bits = n.toNat:=Nat.min_eq_left (by show n.toNat ≤ 64; omega)
  rw [e,Int.fdiv_eq_ediv_of_nonneg _ (by exact Int.le_of_lt (Int.pow_pos (by decide)))]
  simp
theorem and1 {x : Nat} (h : x < 9223372036854775808) : IntKind.i64.wrap ((BitVec.ofInt IntKind.i64.bits (x : Int) &&& BitVec.ofInt IntKind.i64.bits 1).toNat : Int) = ((x % 2 : Nat) : Int):=by
  have e : (BitVec.ofInt IntKind.i64.bits (x : Int) &&& BitVec.ofInt IntKind.i64.bits 1).toNat = x % 2:=by
    show (BitVec.ofInt 64 (x : Int) &&& BitVec.ofInt 64 1).toNat = x % 2
    rw [BitVec.toNat_and,BitVec.toNat_ofInt,BitVec.toNat_ofInt]
    have h1 : ((x : Int) % ((2 ^ 64 : Nat) : Int)).toNat = x:=by
      have : ((2 ^ 64 : Nat) : Int) = 18446744073709551616:=rfl
      rw [this]; omega
    have h2 : ((1 : Int) % ((2 ^ 64 : Nat) : Int)).toNat = 1:=rfl
    rw [h1,h2,Nat.and_one_is_mod]
  rw [e]
  exact wrap_i64 (by omega) (by omega)
theorem div_le {b n : Nat} (h : b < 134217728) : b / 2 ^ n < 9223372036854775808:=Nat.lt_of_le_of_lt (Nat.div_le_self _ _) (by omega)
theorem hgt_some {zs : List Int} {x y N : Nat} {z : Int} (hl : zs.length = N) (hz : zs[(y * 7 + x) % N]? = some z) : hgt zs x y = z % 64:=by
  unfold hgt
  rw [hl,hz]
  rfl
theorem hgt_nil {zs : List Int} {x y N : Nat} (hl : zs.length = N) (h : ¬ (0 : Int) < (N : Int)) : hgt zs x y = 0:=by
  have : zs = []:=List.eq_nil_of_length_eq_zero (by omega)
  subst this
  rfl
theorem hp_cells {s : Int} {zs : List Int} {n y x : Nat} : (hillsPre s zs n y x).flatMap triCells ++ (quadT (hillP s zs x y) (hillP s zs (x + 1) y) (hillP s zs (x + 1) (y + 1)) (hillP s zs x (y + 1))).flatMap triCells = (hillsPre s zs n y (x + 1)).flatMap triCells:=by
  rw [hillsPre_step,List.flatMap_append]
  rfl
theorem hp_len {s : Int} {zs : List Int} {n y x : Nat} {a b c d : P3} : (hillsPre s zs n y x).length + (quadT a b c d).length = (hillsPre s zs n y (x + 1)).length:=by
  rw [hillsPre_length,hillsPre_length]
  show _ + 2 = _
  omega
theorem hillsPre_le {s : Int} {zs : List Int} {n y x : Nat} (hn : n ≤ 6) (hy : y ≤ 6) (hx : x ≤ 6) : (hillsPre s zs n y x).length ≤ 84:=by
  rw [hillsPre_length]
  have : y * (n * 2) ≤ 6 * (6 * 2):=Nat.mul_le_mul hy (by omega)
  omega
theorem hillsT_sm {zs : List Int} {n : Nat} (hn : n ≤ 6) : ∀ t ∈ hillsT 10 zs n,SmT 200 t:=by
  rw [← hillsPre_end]
  exact hillsPre_sm hn (by omega) hn (.inl rfl)
theorem hillsT_le {s : Int} {zs : List Int} {n : Nat} (hn : n ≤ 6) : (hillsT s zs n).length ≤ 84:=by
  rw [← hillsPre_end]
  exact hillsPre_le hn hn (by omega)
def TS (E : TypeId) (ts : List T3) (w : World) (v : Value) (w' : World) : Prop:=∃ A cap n,n = ts.length ∧ v = .slice A n cap ∧ Ow w w' [] E 9 A n cap (ts.flatMap triCells)
theorem Ow.tri {w0 w : World} {S : List (Option Nat)} {E : TypeId} {n cap g i : Nat} {ts : List T3} {t : T3} (h : Ow w0 w S E 9 (Option.some ⟨g,0,none⟩) n cap (ts.flatMap triCells)) (ht : ts[i]? = Option.some t) : Row w ((⟨g,0,none⟩ : Addr).add (i * 9)) [.int .i64 t.a.x,.int .i64 t.a.y,.int .i64 t.a.z,.int .i64 t.b.x,.int .i64 t.b.y,.int .i64 t.b.z,.int .i64 t.c.x,.int .i64 t.c.y,.int .i64 t.c.z]:=by
  show Row w _ (triCells t)
  intro j u hj
  have hj' : j < (triCells t).length:=(List.getElem?_eq_some_iff.1 hj).1
  rw [addr_add_add]
  refine h.rows _ _ ?_
  rw [← List.getElem?_drop,drop_flat ts i t ht,List.getElem?_append_left hj']
  exact hj
theorem vP_sm {n : Nat} (h : n < 27) : Sm 100 (vP n):=by
  simp only [Sm,vP]
  omega
theorem cubeC_sm {p : P3} {n : Nat} (h : Sm 100 p) (hn : n < 8) : Sm 200 (cubeC p 8 n):=by
  simp only [Sm,cubeC] at h ⊢
  omega
theorem cubeT_sm {p : P3} (h : Sm 100 p) : ∀ t ∈ cubeT p 8,SmT 200 t:=fun t ht=>by
  have c : ∀ n,n < 8 → Sm 200 (cubeC p 8 n):=fun n hn=>cubeC_sm h hn
  simp only [cubeT,List.mem_append] at ht
  rcases ht with ((((ht | ht) | ht) | ht) | ht) | ht <;> exact quad_sm (c _ (by decide)) (c _ (by decide)) (c _ (by decide)) (c _ (by decide)) t ht
theorem vpair_sm {n f : Nat} (h : n < 27) : ∀ t ∈ vpair n f,SmT 200 t:=fun t ht=>cubeT_sm (vP_sm h) t (List.mem_of_mem_drop (List.mem_of_mem_take ht))
theorem vfaces_sm {b n f : Nat} (h : n < 27) : ∀ t ∈ vfaces b n f,SmT 200 t:=fun t ht=>by
  obtain ⟨k,_,h2⟩:=List.mem_flatMap.1 ht
  split at h2
  · exact vpair_sm h t h2
  · cases h2
theorem voxT_sm {b : Nat} : ∀ t ∈ voxT b,SmT 200 t:=fun t ht=>by
  obtain ⟨k,hk,h2⟩:=List.mem_flatMap.1 ht
  split at h2
  · exact vfaces_sm (List.mem_range.1 hk) t h2
  · cases h2
theorem flatMap_le {α β : Type} {f : α → List β} {k : Nat} : ∀ (l : List α),(∀ x ∈ l,(f x).length ≤ k) → (l.flatMap f).length ≤ l.length * k
  | [],_=>by simp
  | x :: l,h=>by
    have h1:=h x (by simp)
    have h2:=flatMap_le l (fun y hy=>h y (by simp [hy]))
    rw [List.flatMap_cons,List.length_append,List.length_cons,Nat.add_mul,Nat.one_mul]
    omega
theorem vpair_le {n f : Nat} : (vpair n f).length ≤ 2:=by unfold vpair; rw [List.length_take]; omega
theorem vfaces_le {b n f : Nat} : (vfaces b n f).length ≤ f * 2:=by
  have:=flatMap_le (f:=fun f=>if vface b n f then vpair n f else []) (k:=2) (List.range f) (fun x _=>by
    show (if vface b n x = true then vpair n x else []).length ≤ 2
    split
    · exact vpair_le
    · exact Nat.zero_le _)
  rwa [List.length_range] at this
theorem voxPre_le {b n f : Nat} (hn : n ≤ 27) (hf : f ≤ 6) : (voxPre b n f).length ≤ 400:=by
  have h1:=flatMap_le (f:=fun n=>if vbit b n then vfaces b n 6 else []) (k:=12) (List.range n) (fun x _=>by
    show (if vbit b x = true then vfaces b x 6 else []).length ≤ 12
    split
    · exact vfaces_le
    · exact Nat.zero_le _)
  have h2:=vfaces_le (b:=b) (n:=n) (f:=f)
  rw [List.length_range] at h1
  unfold voxPre
  rw [List.length_append]
  omega
theorem voxT_le {b : Nat} : (voxT b).length ≤ 400:=by
  rw [← voxPre_end]
  exact voxPre_le (by omega) (by omega)
def stepCells : List Value:=[.int .i64 0,.int .i64 0,.int .i64 (-1),.int .i64 0,.int .i64 0,.int .i64 1,.int .i64 0,.int .i64 (-1),.int .i64 0,.int .i64 0,.int .i64 1,.int .i64 0,.int .i64 (-1),.int .i64 0,.int .i64 0,.int .i64 1,.int .i64 0,.int .i64 0]
theorem st_cases {f : Nat} (h : f < 6) : f = 0 ∨ f = 1 ∨ f = 2 ∨ f = 3 ∨ f = 4 ∨ f = 5:=by omega
theorem stc_x {f : Nat} (h : f < 6) : stepCells[f * 3]? = some (.int .i64 (stx f)):=by rcases st_cases h with rfl | rfl | rfl | rfl | rfl | rfl <;> rfl
theorem stc_y {f : Nat} (h : f < 6) : stepCells[f * 3 + 1]? = some (.int .i64 (sty f)):=by rcases st_cases h with rfl | rfl | rfl | rfl | rfl | rfl <;> rfl
theorem stc_z {f : Nat} (h : f < 6) : stepCells[f * 3 + 2]? = some (.int .i64 (stz f)):=by rcases st_cases h with rfl | rfl | rfl | rfl | rfl | rfl <;> rfl
theorem st_bd (f : Nat) : (-1 ≤ stx f ∧ stx f ≤ 1) ∧ (-1 ≤ sty f ∧ sty f ≤ 1) ∧ (-1 ≤ stz f ∧ stz f ≤ 1):=by
  unfold stx sty stz
  repeat' split
  all_goals omega
theorem vin {u v w : Int} (hb : (!(!(decide (0 ≤ u) && decide (u < 3) && decide (0 ≤ v) && decide (v < 3) && decide (0 ≤ w) && decide (w < 3)))) = true) : (0 ≤ u ∧ u < 3) ∧ (0 ≤ v ∧ v < 3) ∧ 0 ≤ w ∧ w < 3:=by
  simp only [Bool.not_not,Bool.and_eq_true,decide_eq_true_eq] at hb
  omega
theorem vface_eq {b n f : Nat} : (!(decide ((0 : Int) ≤ ((n % 3 : Nat) : Int) + stx f) && decide (((n % 3 : Nat) : Int) + stx f < 3) && decide ((0 : Int) ≤ ((n / 3 % 3 : Nat) : Int) + sty f) && decide (((n / 3 % 3 : Nat) : Int) + sty f < 3) && decide ((0 : Int) ≤ ((n / 9 : Nat) : Int) + stz f) && decide (((n / 9 : Nat) : Int) + stz f < 3)) ||
    decide (((b / 2 ^ (((((n / 9 : Nat) : Int) + stz f) * 3 + (((n / 3 % 3 : Nat) : Int) + sty f)) * 3 + (((n % 3 : Nat) : Int) + stx f)).toNat % 2 : Nat) : Int) = 0)) = vface b n f:=by
  unfold vface vbit
  simp only
  congr 1
  rw [← decide_not]
  congr 1
  apply propext
  constructor <;> intro h <;> omega
theorem vox_at {n f : Nat} (h : f < 6) : ∃ t u,(cubeT (vP n) 8)[2 * f]? = some t ∧ (cubeT (vP n) 8)[2 * f + 1]? = some u ∧ vpair n f = [t,u]:=by
  have h1 : 2 * f < (cubeT (vP n) 8).length:=by rw [cubeT_length]; omega
  have h2 : 2 * f + 1 < (cubeT (vP n) 8).length:=by rw [cubeT_length]; omega
  refine ⟨_,_,List.getElem?_eq_getElem h1,List.getElem?_eq_getElem h2,?_⟩
  unfold vpair
  rw [List.drop_eq_getElem_cons h1,List.drop_eq_getElem_cons h2]
  rfl
theorem vox_cells {b n f : Nat} {t u : T3} (hp : vpair n f = [t,u]) (h : vface b n f = true) : (voxPre b n f).flatMap triCells ++ [.int .i64 t.a.x,.int .i64 t.a.y,.int .i64 t.a.z,.int .i64 t.b.x,.int .i64 t.b.y,.int .i64 t.b.z,.int .i64 t.c.x,.int .i64 t.c.y,.int .i64 t.c.z,.int .i64 u.a.x,.int .i64 u.a.y,.int .i64 u.a.z,.int .i64 u.b.x,.int .i64 u.b.y,.int .i64 u.b.z,.int .i64 u.c.x,.int .i64 u.c.y,.int .i64 u.c.z] = (voxPre b n (f + 1)).flatMap triCells:=by
  rw [voxPre_in h,List.flatMap_append,hp]
  rfl
theorem vox_len {b n f : Nat} (hf : f < 6) (h : vface b n f = true) : (voxPre b n f).length + 2 = (voxPre b n (f + 1)).length:=by
  obtain ⟨t,u,_,_,hp⟩:=vox_at (n:=n) hf
  rw [voxPre_in h,List.length_append,hp]
  rfl
def baseT (kind bits : Int) (zs : List Int) : List T3:=if kind % 3 = 0 then voxT (bits % 134217728).toNat else hillsT 10 zs (1 + kind.tdiv 3 % 6).toNat
theorem tdiv3_bd {z : Int} (h : I64 z) : IntKind.i64.wrap (z.tdiv 3) = z.tdiv 3 ∧ I64 (z.tdiv 3):=by
  obtain ⟨h1,h2⟩:=h
  have hb : -9223372036854775808 ≤ z.tdiv 3 ∧ z.tdiv 3 < 9223372036854775808:=by
    rcases Int.le_total 0 z with hz | hz
    · rw [Int.tdiv_eq_ediv_of_nonneg hz]; omega
    · have e : z.tdiv 3 = -((-z) / 3):=by
        rw [← Int.tdiv_eq_ediv_of_nonneg (show 0 ≤ -z by omega),Int.neg_tdiv,Int.neg_neg]
      rw [e]; omega
  exact ⟨wrap_i64 hb.1 hb.2,hb⟩
theorem baseT_sm {kind bits : Int} {zs : List Int} : ∀ t ∈ baseT kind bits zs,SmT 200 t:=by
  unfold baseT
  split
  · exact voxT_sm
  · exact hillsT_sm (by omega)
theorem baseT_le {kind bits : Int} {zs : List Int} : (baseT kind bits zs).length ≤ 400:=by
  unfold baseT
  split
  · exact voxT_le
  · exact Nat.le_trans (hillsT_le (by omega)) (by decide)
end Go.Lith
namespace Go.Lith
open Go.RowKit
def Pts (ts : List T3) (p : P3) : Prop:=∃ u ∈ ts,p = u.a ∨ p = u.b ∨ p = u.c
def SubT (us ts : List T3) : Prop:=∀ p,Pts us p → Pts ts p
theorem SubT.refl (ts : List T3) : SubT ts ts:=fun _ h=>h
theorem SubT.trans {a b c : List T3} (h : SubT a b) (k : SubT b c) : SubT a c:=fun p hp=>k p (h p hp)
theorem SubT.of_sub {us ts : List T3} (h : ∀ u ∈ us,u ∈ ts) : SubT us ts:=fun p ⟨u,hu,hp⟩=>⟨u,h u hu,hp⟩
theorem SubT.app {us vs ts : List T3} (h : SubT us ts) (k : SubT vs ts) : SubT (us ++ vs) ts:=fun p ⟨u,hu,hp⟩=>by
  rcases List.mem_append.1 hu with hu | hu
  · exact h p ⟨u,hu,hp⟩
  · exact k p ⟨u,hu,hp⟩
theorem SubT.one {ts : List T3} {a b c : P3} (ha : Pts ts a) (hb : Pts ts b) (hc : Pts ts c) : SubT [⟨a,b,c⟩] ts:=fun p ⟨u,hu,hp⟩=>by
  obtain rfl:=List.mem_singleton.1 hu
  rcases hp with rfl | rfl | rfl
  · exact ha
  · exact hb
  · exact hc
theorem SubT.set {us ts : List T3} {k : Nat} {a b c : P3} (h : SubT us ts) (ha : Pts ts a) (hb : Pts ts b) (hc : Pts ts c) : SubT (us.set k ⟨a,b,c⟩) ts:=fun p ⟨u,hu,hp⟩=>by
  rcases List.mem_or_eq_of_mem_set hu with hu | rfl
  · exact h p ⟨u,hu,hp⟩
  · rcases hp with rfl | rfl | rfl
    · exact ha
    · exact hb
    · exact hc
theorem pts_a {ts : List T3} {k : Nat} {t : T3} (h : ts[k]? = some t) : Pts ts t.a:=⟨t,List.mem_of_getElem? h,.inl rfl⟩
theorem pts_b {ts : List T3} {k : Nat} {t : T3} (h : ts[k]? = some t) : Pts ts t.b:=⟨t,List.mem_of_getElem? h,.inr (.inl rfl)⟩
theorem pts_c {ts : List T3} {k : Nat} {t : T3} (h : ts[k]? = some t) : Pts ts t.c:=⟨t,List.mem_of_getElem? h,.inr (.inr rfl)⟩
theorem SubT.sm {us ts : List T3} {k : Int} (h : SubT us ts) (hs : ∀ t ∈ ts,SmT k t) : ∀ t ∈ us,SmT k t:=fun t ht=>by
  have p : ∀ p,Pts us p → Sm k p:=fun p hp=>by
    obtain ⟨u,hu,hp⟩:=h p hp
    rcases hp with rfl | rfl | rfl
    · exact (hs u hu).1
    · exact (hs u hu).2.1
    · exact (hs u hu).2.2
  exact ⟨p _ ⟨t,ht,.inl rfl⟩,p _ ⟨t,ht,.inr (.inl rfl)⟩,p _ ⟨t,ht,.inr (.inr rfl)⟩⟩
theorem SubT.it {us ts : List T3} (h : SubT us ts) (hs : ∀ t ∈ ts,IT t) : ∀ t ∈ us,IT t:=fun t ht=>by
  have p : ∀ p,Pts us p → I3 p:=fun p hp=>by
    obtain ⟨u,hu,hp⟩:=h p hp
    have:=hs u hu
    rcases hp with rfl | rfl | rfl
    · exact this.a
    · exact this.b
    · exact this.c
  exact ⟨p _ ⟨t,ht,.inl rfl⟩,p _ ⟨t,ht,.inr (.inl rfl)⟩,p _ ⟨t,ht,.inr (.inr rfl)⟩⟩
theorem flat_take (ts : List T3) (k : Nat) : (ts.take k).flatMap triCells = (ts.flatMap triCells).take (k * 9):=by
  induction ts generalizing k with
  | nil=>simp
  | cons t ts ih =>
    cases k with
    | zero=>simp
    | succ k =>
      rw [List.take_succ_cons,List.flatMap_cons,List.flatMap_cons,ih,List.take_append,triCells_length,List.take_of_length_le (l:=triCells t) (by rw [triCells_length]; omega),show (k + 1) * 9 - 9 = k * 9 by omega]
theorem flat_drop (ts : List T3) (k : Nat) : (ts.drop k).flatMap triCells = (ts.flatMap triCells).drop (k * 9):=by
  induction ts generalizing k with
  | nil=>simp
  | cons t ts ih =>
    cases k with
    | zero=>simp
    | succ k =>
      rw [List.drop_succ_cons,List.flatMap_cons,ih,List.drop_append,triCells_length,List.drop_of_length_le (l:=triCells t) (by rw [triCells_length]; omega),show (k + 1) * 9 - 9 = k * 9 by omega,List.nil_append]
theorem flat_set {ts : List T3} {k : Nat} {t u : T3} (h : ts[k]? = some t) : over (ts.flatMap triCells) (k * 9) (triCells u) = (ts.set k u).flatMap triCells:=by
  induction ts generalizing k with
  | nil=>cases h
  | cons v ts ih =>
    cases k with
    | zero =>
      unfold over
      rw [Nat.zero_mul,List.take_zero,List.nil_append,List.set_cons_zero,List.flatMap_cons,List.flatMap_cons,triCells_length,Nat.zero_add,List.drop_append,triCells_length,List.drop_of_length_le (l:=triCells v) (by rw [triCells_length]; omega)]
      rfl
    | succ k =>
      have:=ih (k:=k) h
      unfold over at this ⊢
      rw [List.set_cons_succ,List.flatMap_cons,List.flatMap_cons,← this,triCells_length]
      rw [List.take_append,triCells_length,List.take_of_length_le (l:=triCells v) (by rw [triCells_length]; omega),show (k + 1) * 9 - 9 = k * 9 by omega,List.drop_append,triCells_length,List.drop_of_length_le (l:=triCells v) (by rw [triCells_length]; omega),show (k + 1) * 9 + 9 - 9 = k * 9 + 9 by omega]
      simp only [List.append_assoc,List.nil_append]
def T3.cor (t : T3) (c : Nat) : P3:=if c = 0 then t.a else if c = 1 then t.b else t.c
def T3.setC (t : T3) (c : Nat) (p : P3) : T3:=if c = 0 then ⟨p,t.b,t.c⟩ else if c = 1 then ⟨t.a,p,t.c⟩ else ⟨t.a,t.b,p⟩
theorem over_in {t : T3} {c : Nat} {p : P3} (hc : c < 3) : over (triCells t) (c * 3) [.int .i64 p.x,.int .i64 p.y,.int .i64 p.z] = triCells (t.setC c p):=by
  have : c = 0 ∨ c = 1 ∨ c = 2:=by omega
  rcases this with rfl | rfl | rfl <;> rfl
theorem over_part {cs us : List Value} {off k d : Nat} (h : off + k ≤ cs.length) (hu : us.length + d ≤ k) : over cs (off + d) us = over cs off (over ((cs.drop off).take k) d us):=by
  have e0 : ((cs.drop off).take k).length = k:=by rw [List.length_take,List.length_drop]; omega
  have e1 : (over ((cs.drop off).take k) d us).length = k:=by rw [over_length (by omega)]; exact e0
  unfold over at e1 ⊢
  rw [e1]
  apply List.ext_getElem?
  intro j
  simp only [List.append_assoc]
  rcases Nat.lt_or_ge j off with h1 | h1
  · rw [List.getElem?_append_left (by rw [List.length_take]; omega),List.getElem?_append_left (by rw [List.length_take]; omega),List.getElem?_take,List.getElem?_take,if_pos (by omega),if_pos h1]
  · rw [List.getElem?_append_right (l₁:=cs.take off) (by rw [List.length_take]; omega)]
    have e2 : (cs.take off).length = off:=by rw [List.length_take]; omega
    have e3 : (cs.take (off + d)).length = off + d:=by rw [List.length_take]; omega
    rw [e2]
    rcases Nat.lt_or_ge j (off + d) with h2 | h2
    · rw [List.getElem?_append_left (by rw [e3]; exact h2),List.getElem?_append_left (by rw [List.length_take,e0]; omega),List.getElem?_take,List.getElem?_take,List.getElem?_take,List.getElem?_drop,if_pos h2,if_pos (by omega),if_pos (by omega),show off + (j - off) = j by omega]
    · rw [List.getElem?_append_right (by rw [e3]; exact h2),e3,List.getElem?_append_right (l₁:=((cs.drop off).take k).take d) (by rw [List.length_take,e0]; omega),List.length_take (l:=(cs.drop off).take k),e0,Nat.min_eq_left (by omega),show j - off - d = j - (off + d) by omega]
      rcases Nat.lt_or_ge (j - (off + d)) us.length with h3 | h3
      · rw [List.getElem?_append_left h3,List.getElem?_append_left h3]
      · rw [List.getElem?_append_right h3,List.getElem?_append_right h3]
        rcases Nat.lt_or_ge j (off + k) with h4 | h4
        · rw [List.getElem?_append_left (by rw [List.length_drop,e0]; omega),List.getElem?_drop,List.getElem?_drop,List.getElem?_take,List.getElem?_drop,if_pos (by omega)]
          congr 1
          omega
        · rw [List.getElem?_append_right (by rw [List.length_drop,e0]; omega),List.getElem?_drop,List.getElem?_drop,List.length_drop,e0]
          congr 1
          omega
theorem flat_cor {ts : List T3} {k c : Nat} {t : T3} {p : P3} (h : ts[k]? = some t) (hc : c < 3) : over (ts.flatMap triCells) (k * 9 + c * 3) [.int .i64 p.x,.int .i64 p.y,.int .i64 p.z] = (ts.set k (t.setC c p)).flatMap triCells:=by
  have hk : k < ts.length:=(List.getElem?_eq_some_iff.1 h).1
  have hd:=drop_flat ts k t h
  rw [over_part (k:=9) (by rw [tri_len]; omega) (by show 3 + _ ≤ 9; omega),hd,List.take_append,triCells_length,List.take_of_length_le (l:=triCells t) (by rw [triCells_length]; omega),show 9 - 9 = 0 from rfl,List.take_zero,List.append_nil,over_in hc,flat_set h]
theorem flat_cor0 {ts : List T3} {k : Nat} {t : T3} {p : P3} (h : ts[k]? = some t) : over (ts.flatMap triCells) (k * 9) [.int .i64 p.x,.int .i64 p.y,.int .i64 p.z] = (ts.set k (t.setC 0 p)).flatMap triCells:=flat_cor (c:=0) h (by decide)
theorem flat_cor1 {ts : List T3} {k : Nat} {t : T3} {p : P3} (h : ts[k]? = some t) : over (ts.flatMap triCells) (k * 9 + 3) [.int .i64 p.x,.int .i64 p.y,.int .i64 p.z] = (ts.set k (t.setC 1 p)).flatMap triCells:=flat_cor (c:=1) h (by decide)
theorem set_cor_sub {us ts : List T3} {k c : Nat} {t : T3} {p : P3} (hs : SubT us ts) (h : us[k]? = some t) (hp : Pts ts p) : SubT (us.set k (t.setC c p)) ts:=by
  have a:=hs _ (pts_a h); have b:=hs _ (pts_b h); have d:=hs _ (pts_c h)
  unfold T3.setC
  split
  · exact hs.set hp b d
  · split
    · exact hs.set a hp d
    · exact hs.set a b hp
section
variable {w0 w : World} {S : List (Option Nat)} {E : TypeId} {n cap : Nat} {A : Option Addr} {ts : List T3}
theorem Ow.takeT (h : Ow w0 w S E 9 A n cap (ts.flatMap triCells)) {k : Nat} (hk : k ≤ n) : Ow w0 w S E 9 A k cap ((ts.take k).flatMap triCells):=(h.take hk).as (flat_take ts k).symm
theorem Ow.dropRow {q : Nat} (h : Ow w0 w S E 9 A n cap (ts.flatMap triCells)) : ∀ j u,((ts.drop q).flatMap triCells)[j]? = Option.some u → ∃ a,(if cap = q then A else A.map (·.add (q * 9))) = Option.some a ∧ w.cell? (a.add j) = Option.some u:=fun j u hj=>by
  rw [flat_drop,List.getElem?_drop] at hj
  have hl : q * 9 + j < (ts.flatMap triCells).length:=(List.getElem?_eq_some_iff.1 hj).1
  obtain ⟨a,rfl,hc⟩:=h.row _ _ hj
  have:=h.own.1
  have:=h.le
  rw [if_neg (by omega)]
  exact ⟨_,rfl,by rw [addr_add_add]; exact hc⟩
theorem Row.cor {a : Addr} {t : T3} {c : Nat} (h : Row w a (triCells t)) (hc : c < 3) : Row w (a.add (c * 3)) [.int .i64 (t.cor c).x,.int .i64 (t.cor c).y,.int .i64 (t.cor c).z]:=by
  have:=(h.sub (c * 3)).take 3
  have e : c = 0 ∨ c = 1 ∨ c = 2:=by omega
  rcases e with rfl | rfl | rfl <;> exact this
theorem TrisAt.take {N k : Nat} (h : TrisAt w A N ts) (hk : k ≤ N) : TrisAt w A k (ts.take k) :=
  ⟨by rw [List.length_take,h.len]; omega,fun t ht=>h.it t (List.mem_of_mem_take ht),fun i t ht=>h.row i t (by rw [List.getElem?_take] at ht; split at ht; exact ht; cases ht)⟩
theorem addrBO {g off c q : Nat} {z : Int} (h : z.toNat = q) : (⟨g,off,none⟩ : Addr).add (z.toNat * c) = ⟨g,off + q * c,none⟩:=by rw [h,addr_add_mk]
theorem get_lt {k : Nat} (h : k < ts.length) : ∃ t,ts[k]? = Option.some t:=⟨_,List.getElem?_eq_getElem h⟩
theorem mod_nat {q : Int} {N : Nat} (h : 0 < N) : ∃ k : Nat,q % (N : Int) = (k : Int) ∧ k < N:=by
  have:=emod_bd (n:=q) (m:=(N : Int)) (by omega)
  exact ⟨(q % (N : Int)).toNat,by omega,by omega⟩
theorem min_law {a b : Nat} : (if (b : Int) < (a : Int) then (b : Int) else (a : Int)) = ((min a b : Nat) : Int):=by
  split <;> omega
end
end Go.Lith
namespace Go.Proofs.YtmcgcnpgkkfkoaaGreatDoor
open Go.RowKit Go.Lith
set_option maxRecDepth 100000
theorem follows_mixed : Tryz.prog.follows .mixedOrders = true:=by kernel_rfl
theorem en_6 : Enters Tryz.prog 6:=⟨_,Tryz.func6,by kernel_rfl,by kernel_rfl⟩
theorem en_10 : Enters Tryz.prog 10:=⟨_,Tryz.func10,by kernel_rfl,by kernel_rfl⟩
theorem en_11 : Enters Tryz.prog 11:=⟨_,Tryz.func11,by kernel_rfl,by kernel_rfl⟩
theorem en_12 : Enters Tryz.prog 12:=⟨_,Tryz.func12,by kernel_rfl,by kernel_rfl⟩
theorem en_14 : Enters Tryz.prog 14:=⟨_,Tryz.func14,by kernel_rfl,by kernel_rfl⟩
theorem en_16 : Enters Tryz.prog 16:=⟨_,Tryz.func16,by kernel_rfl,by kernel_rfl⟩
theorem en_17 : Enters Tryz.prog 17:=⟨_,Tryz.func17,by kernel_rfl,by kernel_rfl⟩
theorem en_18 : Enters Tryz.prog 18:=⟨_,Tryz.func18,by kernel_rfl,by kernel_rfl⟩
theorem en_19 : Enters Tryz.prog 19:=⟨_,Tryz.func19,by kernel_rfl,by kernel_rfl⟩
theorem en_22 : Enters Tryz.prog 22:=⟨_,Tryz.func22,by kernel_rfl,by kernel_rfl⟩
theorem en_24 : Enters Tryz.prog 24:=⟨_,Tryz.func24,by kernel_rfl,by kernel_rfl⟩
theorem en_25 : Enters Tryz.prog 25:=⟨_,Tryz.func25,by kernel_rfl,by kernel_rfl⟩
theorem en_26 : Enters Tryz.prog 26:=⟨_,Tryz.func26,by kernel_rfl,by kernel_rfl⟩
theorem en_27 : Enters Tryz.prog 27:=⟨_,Tryz.func27,by kernel_rfl,by kernel_rfl⟩
theorem en_28 : Enters Tryz.prog 28:=⟨_,Tryz.func28,by kernel_rfl,by kernel_rfl⟩
theorem en_29 : Enters Tryz.prog 29:=⟨_,Tryz.func29,by kernel_rfl,by kernel_rfl⟩
theorem en_30 : Enters Tryz.prog 30:=⟨_,Tryz.func30,by kernel_rfl,by kernel_rfl⟩
theorem en_39 : Enters Tryz.prog 39:=⟨_,Tryz.func39,by kernel_rfl,by kernel_rfl⟩
theorem en_40 : Enters Tryz.prog 40:=⟨_,Tryz.func40,by kernel_rfl,by kernel_rfl⟩
theorem en_41 : Enters Tryz.prog 41:=⟨_,Tryz.func41,by kernel_rfl,by kernel_rfl⟩
theorem en_42 : Enters Tryz.prog 42:=⟨_,Tryz.func42,by kernel_rfl,by kernel_rfl⟩
theorem en_43 : Enters Tryz.prog 43:=⟨_,Tryz.func43,by kernel_rfl,by kernel_rfl⟩
theorem en_44 : Enters Tryz.prog 44:=⟨_,Tryz.func44,by kernel_rfl,by kernel_rfl⟩
theorem en_47 : Enters Tryz.prog 47:=⟨_,Tryz.func47,by kernel_rfl,by kernel_rfl⟩
theorem en_48 : Enters Tryz.prog 48:=⟨_,Tryz.func48,by kernel_rfl,by kernel_rfl⟩
theorem en_49 : Enters Tryz.prog 49:=⟨_,Tryz.func49,by kernel_rfl,by kernel_rfl⟩
theorem en_50 : Enters Tryz.prog 50:=⟨_,Tryz.func50,by kernel_rfl,by kernel_rfl⟩
theorem en_56 : Enters Tryz.prog 56:=⟨_,Tryz.func56,by kernel_rfl,by kernel_rfl⟩
theorem en_57 : Enters Tryz.prog 57:=⟨_,Tryz.func57,by kernel_rfl,by kernel_rfl⟩
theorem en_58 : Enters Tryz.prog 58:=⟨_,Tryz.func58,by kernel_rfl,by kernel_rfl⟩
theorem en_59 : Enters Tryz.prog 59:=⟨_,Tryz.func59,by kernel_rfl,by kernel_rfl⟩
theorem en_60 : Enters Tryz.prog 60:=⟨_,Tryz.func60,by kernel_rfl,by kernel_rfl⟩
theorem en_61 : Enters Tryz.prog 61:=⟨_,Tryz.func61,by kernel_rfl,by kernel_rfl⟩
theorem en_62 : Enters Tryz.prog 62:=⟨_,Tryz.func62,by kernel_rfl,by kernel_rfl⟩
theorem en_64 : Enters Tryz.prog 64:=⟨_,Tryz.func64,by kernel_rfl,by kernel_rfl⟩
theorem en_65 : Enters Tryz.prog 65:=⟨_,Tryz.func65,by kernel_rfl,by kernel_rfl⟩
theorem en_66 : Enters Tryz.prog 66:=⟨_,Tryz.func66,by kernel_rfl,by kernel_rfl⟩
theorem en_67 : Enters Tryz.prog 67:=⟨_,Tryz.func67,by kernel_rfl,by kernel_rfl⟩
theorem en_68 : Enters Tryz.prog 68:=⟨_,Tryz.func68,by kernel_rfl,by kernel_rfl⟩
theorem en_69 : Enters Tryz.prog 69:=⟨_,Tryz.func69,by kernel_rfl,by kernel_rfl⟩
theorem en_70 : Enters Tryz.prog 70:=⟨_,Tryz.func70,by kernel_rfl,by kernel_rfl⟩
theorem en_71 : Enters Tryz.prog 71:=⟨_,Tryz.func71,by kernel_rfl,by kernel_rfl⟩
theorem en_72 : Enters Tryz.prog 72:=⟨_,Tryz.func72,by kernel_rfl,by kernel_rfl⟩
theorem en_73 : Enters Tryz.prog 73:=⟨_,Tryz.func73,by kernel_rfl,by kernel_rfl⟩
theorem en_74 : Enters Tryz.prog 74:=⟨_,Tryz.func74,by kernel_rfl,by kernel_rfl⟩
theorem en_75 : Enters Tryz.prog 75:=⟨_,Tryz.func75,by kernel_rfl,by kernel_rfl⟩
theorem en_76 : Enters Tryz.prog 76:=⟨_,Tryz.func76,by kernel_rfl,by kernel_rfl⟩
theorem en_77 : Enters Tryz.prog 77:=⟨_,Tryz.func77,by kernel_rfl,by kernel_rfl⟩
theorem en_78 : Enters Tryz.prog 78:=⟨_,Tryz.func78,by kernel_rfl,by kernel_rfl⟩
theorem en_79 : Enters Tryz.prog 79:=⟨_,Tryz.func79,by kernel_rfl,by kernel_rfl⟩
theorem en_91 : Enters Tryz.prog 91:=⟨_,Tryz.func91,by kernel_rfl,by kernel_rfl⟩
theorem en_92 : Enters Tryz.prog 92:=⟨_,Tryz.func92,by kernel_rfl,by kernel_rfl⟩
theorem en_93 : Enters Tryz.prog 93:=⟨_,Tryz.func93,by kernel_rfl,by kernel_rfl⟩
theorem en_94 : Enters Tryz.prog 94:=⟨_,Tryz.func94,by kernel_rfl,by kernel_rfl⟩
theorem en_95 : Enters Tryz.prog 95:=⟨_,Tryz.func95,by kernel_rfl,by kernel_rfl⟩
theorem en_96 : Enters Tryz.prog 96:=⟨_,Tryz.func96,by kernel_rfl,by kernel_rfl⟩
theorem en_97 : Enters Tryz.prog 97:=⟨_,Tryz.func97,by kernel_rfl,by kernel_rfl⟩
theorem en_98 : Enters Tryz.prog 98:=⟨_,Tryz.func98,by kernel_rfl,by kernel_rfl⟩
theorem en_99 : Enters Tryz.prog 99:=⟨_,Tryz.func99,by kernel_rfl,by kernel_rfl⟩
theorem en_103 : Enters Tryz.prog 103:=⟨_,Tryz.func103,by kernel_rfl,by kernel_rfl⟩
theorem en_104 : Enters Tryz.prog 104:=⟨_,Tryz.func104,by kernel_rfl,by kernel_rfl⟩
theorem en_105 : Enters Tryz.prog 105:=⟨_,Tryz.func105,by kernel_rfl,by kernel_rfl⟩
theorem en_106 : Enters Tryz.prog 106:=⟨_,Tryz.func106,by kernel_rfl,by kernel_rfl⟩
theorem en_111 : Enters Tryz.prog 111:=⟨_,Tryz.func111,by kernel_rfl,by kernel_rfl⟩
theorem en_115 : Enters Tryz.prog 115:=⟨_,Tryz.func115,by kernel_rfl,by kernel_rfl⟩
theorem en_116 : Enters Tryz.prog 116:=⟨_,Tryz.func116,by kernel_rfl,by kernel_rfl⟩
theorem en_117 : Enters Tryz.prog 117:=⟨_,Tryz.func117,by kernel_rfl,by kernel_rfl⟩
theorem en_118 : Enters Tryz.prog 118:=⟨_,Tryz.func118,by kernel_rfl,by kernel_rfl⟩
theorem en_119 : Enters Tryz.prog 119:=⟨_,Tryz.func119,by kernel_rfl,by kernel_rfl⟩
theorem en_125 : Enters Tryz.prog 125:=⟨_,Tryz.func125,by kernel_rfl,by kernel_rfl⟩
theorem en_126 : Enters Tryz.prog 126:=⟨_,Tryz.func126,by kernel_rfl,by kernel_rfl⟩
theorem en_127 : Enters Tryz.prog 127:=⟨_,Tryz.func127,by kernel_rfl,by kernel_rfl⟩
theorem en_128 : Enters Tryz.prog 128:=⟨_,Tryz.func128,by kernel_rfl,by kernel_rfl⟩
theorem en_129 : Enters Tryz.prog 129:=⟨_,Tryz.func129,by kernel_rfl,by kernel_rfl⟩
theorem en_130 : Enters Tryz.prog 130:=⟨_,Tryz.func130,by kernel_rfl,by kernel_rfl⟩
theorem en_131 : Enters Tryz.prog 131:=⟨_,Tryz.func131,by kernel_rfl,by kernel_rfl⟩
theorem en_132 : Enters Tryz.prog 132:=⟨_,Tryz.func132,by kernel_rfl,by kernel_rfl⟩
theorem en_133 : Enters Tryz.prog 133:=⟨_,Tryz.func133,by kernel_rfl,by kernel_rfl⟩
theorem en_134 : Enters Tryz.prog 134:=⟨_,Tryz.func134,by kernel_rfl,by kernel_rfl⟩
theorem en_135 : Enters Tryz.prog 135:=⟨_,Tryz.func135,by kernel_rfl,by kernel_rfl⟩
theorem en_137 : Enters Tryz.prog 137:=⟨_,Tryz.func137,by kernel_rfl,by kernel_rfl⟩
theorem en_138 : Enters Tryz.prog 138:=⟨_,Tryz.func138,by kernel_rfl,by kernel_rfl⟩
theorem en_139 : Enters Tryz.prog 139:=⟨_,Tryz.func139,by kernel_rfl,by kernel_rfl⟩
theorem en_147 : Enters Tryz.prog 147:=⟨_,Tryz.func147,by kernel_rfl,by kernel_rfl⟩
theorem en_148 : Enters Tryz.prog 148:=⟨_,Tryz.func148,by kernel_rfl,by kernel_rfl⟩
theorem en_149 : Enters Tryz.prog 149:=⟨_,Tryz.func149,by kernel_rfl,by kernel_rfl⟩
theorem en_150 : Enters Tryz.prog 150:=⟨_,Tryz.func150,by kernel_rfl,by kernel_rfl⟩
theorem en_151 : Enters Tryz.prog 151:=⟨_,Tryz.func151,by kernel_rfl,by kernel_rfl⟩
theorem en_152 : Enters Tryz.prog 152:=⟨_,Tryz.func152,by kernel_rfl,by kernel_rfl⟩
theorem en_155 : Enters Tryz.prog 155:=⟨_,Tryz.func155,by kernel_rfl,by kernel_rfl⟩
theorem en_162 : Enters Tryz.prog 162:=⟨_,Tryz.func162,by kernel_rfl,by kernel_rfl⟩
theorem en_163 : Enters Tryz.prog 163:=⟨_,Tryz.func163,by kernel_rfl,by kernel_rfl⟩
theorem en_164 : Enters Tryz.prog 164:=⟨_,Tryz.func164,by kernel_rfl,by kernel_rfl⟩
theorem en_165 : Enters Tryz.prog 165:=⟨_,Tryz.func165,by kernel_rfl,by kernel_rfl⟩
theorem en_171 : Enters Tryz.prog 171:=⟨_,Tryz.func171,by kernel_rfl,by kernel_rfl⟩
theorem cells_3 : Cells Tryz.prog 3 1:=cells_of (by kernel_rfl)
theorem agg_3 : IsAgg Tryz.prog 3 false:=isAgg_of _ Tryz.underlying3 rfl
theorem zero_3 : Zero Tryz.prog 3 (.int .i64 0):=zero_of (by kernel_rfl)
theorem inf_3 : (Tryz.prog.info? 3).map (fun i=>(i.size,i.bytes,i.zero)) = some (1,8,some (.int .i64 0)):=by kernel_rfl
theorem cells_4 : Cells Tryz.prog 4 1:=cells_of (by kernel_rfl)
theorem agg_4 : IsAgg Tryz.prog 4 false:=isAgg_of _ Tryz.underlying4 rfl
theorem zero_4 : Zero Tryz.prog 4 (.bool false):=zero_of (by kernel_rfl)
theorem inf_5 : (Tryz.prog.info? 5).map (fun i=>(i.size,i.bytes,i.zero)) = some (1,1,some (.int .u8 0)):=by kernel_rfl
theorem cells_9 : Cells Tryz.prog 9 1:=cells_of (by kernel_rfl)
theorem agg_9 : IsAgg Tryz.prog 9 false:=isAgg_of _ Tryz.underlying9 rfl
theorem cells_22 : Cells Tryz.prog 22 1:=cells_of (by kernel_rfl)
theorem agg_22 : IsAgg Tryz.prog 22 false:=isAgg_of _ Tryz.underlying22 rfl
theorem cells_23 : Cells Tryz.prog 23 3:=cells_of (by kernel_rfl)
theorem agg_23 : IsAgg Tryz.prog 23 true:=isAgg_of _ Tryz.underlying23 rfl
theorem zero_23 : Zero Tryz.prog 23 (.agg #[.int .i64 0,.int .i64 0,.int .i64 0]):=zero_of (by kernel_rfl)
theorem cells_24 : Cells Tryz.prog 24 1:=cells_of (by kernel_rfl)
theorem agg_24 : IsAgg Tryz.prog 24 false:=isAgg_of _ Tryz.underlying24 rfl
theorem cells_26 : Cells Tryz.prog 26 7:=cells_of (by kernel_rfl)
theorem agg_26 : IsAgg Tryz.prog 26 true:=isAgg_of _ Tryz.underlying26 rfl
theorem cells_28 : Cells Tryz.prog 28 3:=cells_of (by kernel_rfl)
theorem agg_28 : IsAgg Tryz.prog 28 true:=isAgg_of _ Tryz.underlying28 rfl
theorem zero_28 : Zero Tryz.prog 28 (.agg #[.int .i64 0,.int .i64 0,.int .i64 0]):=zero_of (by kernel_rfl)
theorem cells_32 : Cells Tryz.prog 32 2:=cells_of (by kernel_rfl)
theorem agg_32 : IsAgg Tryz.prog 32 true:=isAgg_of _ Tryz.underlying32 rfl
theorem zero_32 : Zero Tryz.prog 32 (.agg #[.bool false,.string ⟨#[]⟩]):=zero_of (by kernel_rfl)
theorem cells_34 : Cells Tryz.prog 34 4:=cells_of (by kernel_rfl)
theorem agg_34 : IsAgg Tryz.prog 34 true:=isAgg_of _ Tryz.underlying34 rfl
theorem zero_34 : Zero Tryz.prog 34 (.agg #[.bool false,.string ⟨#[]⟩,.bool false,.string ⟨#[]⟩]):=zero_of (by kernel_rfl)
theorem cells_49 : Cells Tryz.prog 49 12:=cells_of (by kernel_rfl)
theorem agg_49 : IsAgg Tryz.prog 49 true:=isAgg_of _ Tryz.underlying49 rfl
theorem zero_49 : Zero Tryz.prog 49 (.agg #[.bool false,.string ⟨#[]⟩,.bool false,.string ⟨#[]⟩,.bool false,.string ⟨#[]⟩,.bool false,.string ⟨#[]⟩,.bool false,.string ⟨#[]⟩,.bool false,.string ⟨#[]⟩]):=zero_of (by kernel_rfl)
theorem cells_59 : Cells Tryz.prog 59 9:=cells_of (by kernel_rfl)
theorem agg_59 : IsAgg Tryz.prog 59 true:=isAgg_of _ Tryz.underlying59 rfl
theorem zero_59 : Zero Tryz.prog 59 (.agg #[.int .i64 0,.int .i64 0,.int .i64 0,.int .i64 0,.int .i64 0,.int .i64 0,.int .i64 0,.int .i64 0,.int .i64 0]):=zero_of (by kernel_rfl)
theorem inf_59 : (Tryz.prog.info? 59).map (fun i=>(i.size,i.bytes,i.zero)) = some (9,72,some (.agg #[.int .i64 0,.int .i64 0,.int .i64 0,.int .i64 0,.int .i64 0,.int .i64 0,.int .i64 0,.int .i64 0,.int .i64 0])):=by kernel_rfl
theorem cells_75 : Cells Tryz.prog 75 6:=cells_of (by kernel_rfl)
theorem agg_75 : IsAgg Tryz.prog 75 true:=isAgg_of _ Tryz.underlying75 rfl
theorem zero_75 : Zero Tryz.prog 75 (.agg #[.bool false,.string ⟨#[]⟩,.bool false,.string ⟨#[]⟩,.bool false,.string ⟨#[]⟩]):=zero_of (by kernel_rfl)
theorem cells_76 : Cells Tryz.prog 76 6:=cells_of (by kernel_rfl)
theorem agg_76 : IsAgg Tryz.prog 76 true:=isAgg_of _ Tryz.underlying76 rfl
theorem zero_76 : Zero Tryz.prog 76 (.agg #[.bool false,.string ⟨#[]⟩,.bool false,.string ⟨#[]⟩,.bool false,.string ⟨#[]⟩]):=zero_of (by kernel_rfl)
theorem cells_88 : Cells Tryz.prog 88 1:=cells_of (by kernel_rfl)
theorem agg_88 : IsAgg Tryz.prog 88 false:=isAgg_of _ Tryz.underlying88 rfl
theorem inf_88 : (Tryz.prog.info? 88).map (fun i=>(i.size,i.bytes,i.zero)) = some (1,8,some (.int .u64 0)):=by kernel_rfl
theorem cells_91 : Cells Tryz.prog 91 18:=cells_of (by kernel_rfl)
theorem zero_91 : Zero Tryz.prog 91 (.agg #[.int .i64 0,.int .i64 0,.int .i64 0,.int .i64 0,.int .i64 0,.int .i64 0,.int .i64 0,.int .i64 0,.int .i64 0,.int .i64 0,.int .i64 0,.int .i64 0,.int .i64 0,.int .i64 0,.int .i64 0,.int .i64 0,.int .i64 0,.int .i64 0]):=zero_of (by kernel_rfl)
theorem cells_94 : Cells Tryz.prog 94 1:=cells_of (by kernel_rfl)
theorem agg_94 : IsAgg Tryz.prog 94 false:=isAgg_of _ Tryz.underlying94 rfl
theorem cells_95 : Cells Tryz.prog 95 3:=cells_of (by kernel_rfl)
theorem agg_95 : IsAgg Tryz.prog 95 true:=isAgg_of _ Tryz.underlying95 rfl
theorem zero_95 : Zero Tryz.prog 95 (.agg #[.nilFunc,.nilFunc,.nilFunc]):=zero_of (by kernel_rfl)
theorem cells_112 : Cells Tryz.prog 112 6:=cells_of (by kernel_rfl)
theorem agg_112 : IsAgg Tryz.prog 112 true:=isAgg_of _ Tryz.underlying112 rfl
theorem zero_112 : Zero Tryz.prog 112 (.agg #[.bool false,.string ⟨#[]⟩,.bool false,.string ⟨#[]⟩,.bool false,.string ⟨#[]⟩]):=zero_of (by kernel_rfl)
theorem cells_143 : Cells Tryz.prog 143 1:=cells_of (by kernel_rfl)
theorem agg_143 : IsAgg Tryz.prog 143 false:=isAgg_of _ Tryz.underlying143 rfl
theorem zero_143 : Zero Tryz.prog 143 (.slice none 0 0):=zero_of (by kernel_rfl)
theorem zero_148 : Zero Tryz.prog 148 (.agg #[.int .i64 0,.int .i64 0,.int .i64 0,.int .i64 0,.int .i64 0,.int .i64 0,.int .i64 0,.int .i64 0,.int .i64 0,.int .i64 0,.int .i64 0,.int .i64 0,.int .i64 0,.int .i64 0,.int .i64 0,.int .i64 0,.int .i64 0,.int .i64 0,.int .i64 0,.int .i64 0,.int .i64 0,.int .i64 0,.int .i64 0,.int .i64 0]):=zero_of (by kernel_rfl)
theorem cells_161 : Cells Tryz.prog 161 3:=cells_of (by kernel_rfl)
theorem agg_161 : IsAgg Tryz.prog 161 true:=isAgg_of _ Tryz.underlying161 rfl
theorem zero_161 : Zero Tryz.prog 161 (.agg #[.int .i64 0,.int .i64 0,.int .i64 0]):=zero_of (by kernel_rfl)
theorem cells_167 : Cells Tryz.prog 167 1:=cells_of (by kernel_rfl)
theorem agg_167 : IsAgg Tryz.prog 167 false:=isAgg_of _ Tryz.underlying167 rfl
theorem cells_168 : Cells Tryz.prog 168 3:=cells_of (by kernel_rfl)
theorem agg_168 : IsAgg Tryz.prog 168 true:=isAgg_of _ Tryz.underlying168 rfl
theorem zero_168 : Zero Tryz.prog 168 (.agg #[.nilFunc,.nilFunc,.nilFunc]):=zero_of (by kernel_rfl)
theorem b_23_  (w : World) : (Instr.build 23 #[]).run Tryz.prog w = .ok (.agg #[(.int .i64 0),(.int .i64 0),(.int .i64 0)]) w:=run_build_array Tryz.underlying23 zero_23 cells_3 (by simp [Instr.fill,agg_cells]) w
theorem r_build_23_ {l : List Value} {ty : TypeId}  : Run Tryz.prog l (.build 23 #[]) ty (.agg #[(.int .i64 0),(.int .i64 0),(.int .i64 0)]):=r_build (vs:=#[]) (by simp) fun w=>b_23_  w
theorem b_23_0_1_2 {v0 v1 v2 : Value} {c0_0 : Value} (h0 : v0.cells = #[c0_0]) {c1_0 : Value} (h1 : v1.cells = #[c1_0]) {c2_0 : Value} (h2 : v2.cells = #[c2_0])  (w : World) : (Instr.build 23 #[(0,v0),(1,v1),(2,v2)]).run Tryz.prog w = .ok (.agg #[c0_0,c1_0,c2_0]) w:=run_build_array Tryz.underlying23 zero_23 cells_3 (by simp [Instr.fill,agg_cells,h0,h1,h2]) w
theorem r_build_23_0_1_2 {l : List Value} {ty : TypeId} {x0 x1 x2 : Operand} {c0_0 : Value} (h0 : (ev l x0).cells = #[c0_0]) {c1_0 : Value} (h1 : (ev l x1).cells = #[c1_0]) {c2_0 : Value} (h2 : (ev l x2).cells = #[c2_0]) : Run Tryz.prog l (.build 23 #[(0,x0),(1,x1),(2,x2)]) ty (.agg #[c0_0,c1_0,c2_0]):=r_build (vs:=#[(0,ev l x0),(1,ev l x1),(2,ev l x2)]) (by simp) fun w=>b_23_0_1_2 h0 h1 h2 w
theorem places_28 (w : World) : ((#[{ name := "X", type:=3,offset:=0,embedded:=false,tag := "", pkgPath := "", byteOffset:=0 },{ name := "Y", type:=3,offset:=1,embedded:=false,tag := "", pkgPath := "", byteOffset:=8 },{ name := "Z", type:=3,offset:=2,embedded:=false,tag := "", pkgPath := "", byteOffset:=16 }] : Array Field).mapM fun f=>do pure (f.offset,← sizeOf f.type) : Sem (Array (Nat × Nat))).run Tryz.prog w = .ok #[(0,1),(1,1),(2,1)] w:=by
  simp [Array.mapM_eq_mapM_toList,size_run cells_3]
theorem b_28_  (w : World) : (Instr.build 28 #[]).run Tryz.prog w = .ok (.agg #[(.int .i64 0),(.int .i64 0),(.int .i64 0)]) w:=run_build_struct Tryz.underlying28 zero_28 places_28 (by simp [Instr.fill,agg_cells]) w
theorem r_build_28_ {l : List Value} {ty : TypeId}  : Run Tryz.prog l (.build 28 #[]) ty (.agg #[(.int .i64 0),(.int .i64 0),(.int .i64 0)]):=r_build (vs:=#[]) (by simp) fun w=>b_28_  w
theorem b_28_0 {v0 : Value} {c0_0 : Value} (h0 : v0.cells = #[c0_0])  (w : World) : (Instr.build 28 #[(0,v0)]).run Tryz.prog w = .ok (.agg #[c0_0,(.int .i64 0),(.int .i64 0)]) w:=run_build_struct Tryz.underlying28 zero_28 places_28 (by simp [Instr.fill,agg_cells,h0]) w
theorem r_build_28_0 {l : List Value} {ty : TypeId} {x0 : Operand} {c0_0 : Value} (h0 : (ev l x0).cells = #[c0_0]) : Run Tryz.prog l (.build 28 #[(0,x0)]) ty (.agg #[c0_0,(.int .i64 0),(.int .i64 0)]):=r_build (vs:=#[(0,ev l x0)]) (by simp) fun w=>b_28_0 h0 w
theorem b_28_0_1 {v0 v1 : Value} {c0_0 : Value} (h0 : v0.cells = #[c0_0]) {c1_0 : Value} (h1 : v1.cells = #[c1_0])  (w : World) : (Instr.build 28 #[(0,v0),(1,v1)]).run Tryz.prog w = .ok (.agg #[c0_0,c1_0,(.int .i64 0)]) w:=run_build_struct Tryz.underlying28 zero_28 places_28 (by simp [Instr.fill,agg_cells,h0,h1]) w
theorem r_build_28_0_1 {l : List Value} {ty : TypeId} {x0 x1 : Operand} {c0_0 : Value} (h0 : (ev l x0).cells = #[c0_0]) {c1_0 : Value} (h1 : (ev l x1).cells = #[c1_0]) : Run Tryz.prog l (.build 28 #[(0,x0),(1,x1)]) ty (.agg #[c0_0,c1_0,(.int .i64 0)]):=r_build (vs:=#[(0,ev l x0),(1,ev l x1)]) (by simp) fun w=>b_28_0_1 h0 h1 w
theorem b_28_0_1_2 {v0 v1 v2 : Value} {c0_0 : Value} (h0 : v0.cells = #[c0_0]) {c1_0 : Value} (h1 : v1.cells = #[c1_0]) {c2_0 : Value} (h2 : v2.cells = #[c2_0])  (w : World) : (Instr.build 28 #[(0,v0),(1,v1),(2,v2)]).run Tryz.prog w = .ok (.agg #[c0_0,c1_0,c2_0]) w:=run_build_struct Tryz.underlying28 zero_28 places_28 (by simp [Instr.fill,agg_cells,h0,h1,h2]) w
theorem r_build_28_0_1_2 {l : List Value} {ty : TypeId} {x0 x1 x2 : Operand} {c0_0 : Value} (h0 : (ev l x0).cells = #[c0_0]) {c1_0 : Value} (h1 : (ev l x1).cells = #[c1_0]) {c2_0 : Value} (h2 : (ev l x2).cells = #[c2_0]) : Run Tryz.prog l (.build 28 #[(0,x0),(1,x1),(2,x2)]) ty (.agg #[c0_0,c1_0,c2_0]):=r_build (vs:=#[(0,ev l x0),(1,ev l x1),(2,ev l x2)]) (by simp) fun w=>b_28_0_1_2 h0 h1 h2 w
theorem b_28_1 {v1 : Value} {c1_0 : Value} (h1 : v1.cells = #[c1_0])  (w : World) : (Instr.build 28 #[(1,v1)]).run Tryz.prog w = .ok (.agg #[(.int .i64 0),c1_0,(.int .i64 0)]) w:=run_build_struct Tryz.underlying28 zero_28 places_28 (by simp [Instr.fill,agg_cells,h1]) w
theorem r_build_28_1 {l : List Value} {ty : TypeId} {x1 : Operand} {c1_0 : Value} (h1 : (ev l x1).cells = #[c1_0]) : Run Tryz.prog l (.build 28 #[(1,x1)]) ty (.agg #[(.int .i64 0),c1_0,(.int .i64 0)]):=r_build (vs:=#[(1,ev l x1)]) (by simp) fun w=>b_28_1 h1 w
theorem b_28_1_2 {v1 v2 : Value} {c1_0 : Value} (h1 : v1.cells = #[c1_0]) {c2_0 : Value} (h2 : v2.cells = #[c2_0])  (w : World) : (Instr.build 28 #[(1,v1),(2,v2)]).run Tryz.prog w = .ok (.agg #[(.int .i64 0),c1_0,c2_0]) w:=run_build_struct Tryz.underlying28 zero_28 places_28 (by simp [Instr.fill,agg_cells,h1,h2]) w
theorem r_build_28_1_2 {l : List Value} {ty : TypeId} {x1 x2 : Operand} {c1_0 : Value} (h1 : (ev l x1).cells = #[c1_0]) {c2_0 : Value} (h2 : (ev l x2).cells = #[c2_0]) : Run Tryz.prog l (.build 28 #[(1,x1),(2,x2)]) ty (.agg #[(.int .i64 0),c1_0,c2_0]):=r_build (vs:=#[(1,ev l x1),(2,ev l x2)]) (by simp) fun w=>b_28_1_2 h1 h2 w
theorem b_28_2 {v2 : Value} {c2_0 : Value} (h2 : v2.cells = #[c2_0])  (w : World) : (Instr.build 28 #[(2,v2)]).run Tryz.prog w = .ok (.agg #[(.int .i64 0),(.int .i64 0),c2_0]) w:=run_build_struct Tryz.underlying28 zero_28 places_28 (by simp [Instr.fill,agg_cells,h2]) w
theorem r_build_28_2 {l : List Value} {ty : TypeId} {x2 : Operand} {c2_0 : Value} (h2 : (ev l x2).cells = #[c2_0]) : Run Tryz.prog l (.build 28 #[(2,x2)]) ty (.agg #[(.int .i64 0),(.int .i64 0),c2_0]):=r_build (vs:=#[(2,ev l x2)]) (by simp) fun w=>b_28_2 h2 w
theorem places_32 (w : World) : ((#[{ name := "Neg", type:=4,offset:=0,embedded:=false,tag := "", pkgPath := "", byteOffset:=0 },{ name := "Mag", type:=9,offset:=1,embedded:=false,tag := "", pkgPath := "", byteOffset:=8 }] : Array Field).mapM fun f=>do pure (f.offset,← sizeOf f.type) : Sem (Array (Nat × Nat))).run Tryz.prog w = .ok #[(0,1),(1,1)] w:=by
  simp [Array.mapM_eq_mapM_toList,size_run cells_4,size_run cells_9]
theorem b_32_  (w : World) : (Instr.build 32 #[]).run Tryz.prog w = .ok (.agg #[(.bool false),(.string ⟨#[]⟩)]) w:=run_build_struct Tryz.underlying32 zero_32 places_32 (by simp [Instr.fill,agg_cells]) w
theorem r_build_32_ {l : List Value} {ty : TypeId}  : Run Tryz.prog l (.build 32 #[]) ty (.agg #[(.bool false),(.string ⟨#[]⟩)]):=r_build (vs:=#[]) (by simp) fun w=>b_32_  w
theorem b_32_0_1 {v0 v1 : Value} {c0_0 : Value} (h0 : v0.cells = #[c0_0]) {c1_0 : Value} (h1 : v1.cells = #[c1_0])  (w : World) : (Instr.build 32 #[(0,v0),(1,v1)]).run Tryz.prog w = .ok (.agg #[c0_0,c1_0]) w:=run_build_struct Tryz.underlying32 zero_32 places_32 (by simp [Instr.fill,agg_cells,h0,h1]) w
theorem r_build_32_0_1 {l : List Value} {ty : TypeId} {x0 x1 : Operand} {c0_0 : Value} (h0 : (ev l x0).cells = #[c0_0]) {c1_0 : Value} (h1 : (ev l x1).cells = #[c1_0]) : Run Tryz.prog l (.build 32 #[(0,x0),(1,x1)]) ty (.agg #[c0_0,c1_0]):=r_build (vs:=#[(0,ev l x0),(1,ev l x1)]) (by simp) fun w=>b_32_0_1 h0 h1 w
theorem places_34 (w : World) : ((#[{ name := "N", type:=32,offset:=0,embedded:=false,tag := "", pkgPath := "", byteOffset:=0 },{ name := "D", type:=32,offset:=2,embedded:=false,tag := "", pkgPath := "", byteOffset:=24 }] : Array Field).mapM fun f=>do pure (f.offset,← sizeOf f.type) : Sem (Array (Nat × Nat))).run Tryz.prog w = .ok #[(0,2),(2,2)] w:=by
  simp [Array.mapM_eq_mapM_toList,size_run cells_32]
theorem b_34_0_1 {v0 v1 : Value} {c0_0 c0_1 : Value} (h0 : v0.cells = #[c0_0,c0_1]) {c1_0 c1_1 : Value} (h1 : v1.cells = #[c1_0,c1_1])  (w : World) : (Instr.build 34 #[(0,v0),(1,v1)]).run Tryz.prog w = .ok (.agg #[c0_0,c0_1,c1_0,c1_1]) w:=run_build_struct Tryz.underlying34 zero_34 places_34 (by simp [Instr.fill,agg_cells,h0,h1]) w
theorem r_build_34_0_1 {l : List Value} {ty : TypeId} {x0 x1 : Operand} {c0_0 c0_1 : Value} (h0 : (ev l x0).cells = #[c0_0,c0_1]) {c1_0 c1_1 : Value} (h1 : (ev l x1).cells = #[c1_0,c1_1]) : Run Tryz.prog l (.build 34 #[(0,x0),(1,x1)]) ty (.agg #[c0_0,c0_1,c1_0,c1_1]):=r_build (vs:=#[(0,ev l x0),(1,ev l x1)]) (by simp) fun w=>b_34_0_1 h0 h1 w
theorem b_49_0_1_2 {v0 v1 v2 : Value} {c0_0 c0_1 c0_2 c0_3 : Value} (h0 : v0.cells = #[c0_0,c0_1,c0_2,c0_3]) {c1_0 c1_1 c1_2 c1_3 : Value} (h1 : v1.cells = #[c1_0,c1_1,c1_2,c1_3]) {c2_0 c2_1 c2_2 c2_3 : Value} (h2 : v2.cells = #[c2_0,c2_1,c2_2,c2_3])  (w : World) : (Instr.build 49 #[(0,v0),(1,v1),(2,v2)]).run Tryz.prog w = .ok (.agg #[c0_0,c0_1,c0_2,c0_3,c1_0,c1_1,c1_2,c1_3,c2_0,c2_1,c2_2,c2_3]) w:=run_build_array Tryz.underlying49 zero_49 cells_34 (by simp [Instr.fill,agg_cells,h0,h1,h2]) w
theorem r_build_49_0_1_2 {l : List Value} {ty : TypeId} {x0 x1 x2 : Operand} {c0_0 c0_1 c0_2 c0_3 : Value} (h0 : (ev l x0).cells = #[c0_0,c0_1,c0_2,c0_3]) {c1_0 c1_1 c1_2 c1_3 : Value} (h1 : (ev l x1).cells = #[c1_0,c1_1,c1_2,c1_3]) {c2_0 c2_1 c2_2 c2_3 : Value} (h2 : (ev l x2).cells = #[c2_0,c2_1,c2_2,c2_3]) : Run Tryz.prog l (.build 49 #[(0,x0),(1,x1),(2,x2)]) ty (.agg #[c0_0,c0_1,c0_2,c0_3,c1_0,c1_1,c1_2,c1_3,c2_0,c2_1,c2_2,c2_3]):=r_build (vs:=#[(0,ev l x0),(1,ev l x1),(2,ev l x2)]) (by simp) fun w=>b_49_0_1_2 h0 h1 h2 w
theorem b_59_0_1_2 {v0 v1 v2 : Value} {c0_0 c0_1 c0_2 : Value} (h0 : v0.cells = #[c0_0,c0_1,c0_2]) {c1_0 c1_1 c1_2 : Value} (h1 : v1.cells = #[c1_0,c1_1,c1_2]) {c2_0 c2_1 c2_2 : Value} (h2 : v2.cells = #[c2_0,c2_1,c2_2])  (w : World) : (Instr.build 59 #[(0,v0),(1,v1),(2,v2)]).run Tryz.prog w = .ok (.agg #[c0_0,c0_1,c0_2,c1_0,c1_1,c1_2,c2_0,c2_1,c2_2]) w:=run_build_array Tryz.underlying59 zero_59 cells_28 (by simp [Instr.fill,agg_cells,h0,h1,h2]) w
theorem r_build_59_0_1_2 {l : List Value} {ty : TypeId} {x0 x1 x2 : Operand} {c0_0 c0_1 c0_2 : Value} (h0 : (ev l x0).cells = #[c0_0,c0_1,c0_2]) {c1_0 c1_1 c1_2 : Value} (h1 : (ev l x1).cells = #[c1_0,c1_1,c1_2]) {c2_0 c2_1 c2_2 : Value} (h2 : (ev l x2).cells = #[c2_0,c2_1,c2_2]) : Run Tryz.prog l (.build 59 #[(0,x0),(1,x1),(2,x2)]) ty (.agg #[c0_0,c0_1,c0_2,c1_0,c1_1,c1_2,c2_0,c2_1,c2_2]):=r_build (vs:=#[(0,ev l x0),(1,ev l x1),(2,ev l x2)]) (by simp) fun w=>b_59_0_1_2 h0 h1 h2 w
theorem b_91_0_1_2_3_4_5 {v0 v1 v2 v3 v4 v5 : Value} {c0_0 c0_1 c0_2 : Value} (h0 : v0.cells = #[c0_0,c0_1,c0_2]) {c1_0 c1_1 c1_2 : Value} (h1 : v1.cells = #[c1_0,c1_1,c1_2]) {c2_0 c2_1 c2_2 : Value} (h2 : v2.cells = #[c2_0,c2_1,c2_2]) {c3_0 c3_1 c3_2 : Value} (h3 : v3.cells = #[c3_0,c3_1,c3_2]) {c4_0 c4_1 c4_2 : Value} (h4 : v4.cells = #[c4_0,c4_1,c4_2]) {c5_0 c5_1 c5_2 : Value} (h5 : v5.cells = #[c5_0,c5_1,c5_2])  (w : World) : (Instr.build 91 #[(0,v0),(1,v1),(2,v2),(3,v3),(4,v4),(5,v5)]).run Tryz.prog w = .ok (.agg #[c0_0,c0_1,c0_2,c1_0,c1_1,c1_2,c2_0,c2_1,c2_2,c3_0,c3_1,c3_2,c4_0,c4_1,c4_2,c5_0,c5_1,c5_2]) w:=run_build_array Tryz.underlying91 zero_91 cells_23 (by simp [Instr.fill,agg_cells,h0,h1,h2,h3,h4,h5]) w
theorem r_build_91_0_1_2_3_4_5 {l : List Value} {ty : TypeId} {x0 x1 x2 x3 x4 x5 : Operand} {c0_0 c0_1 c0_2 : Value} (h0 : (ev l x0).cells = #[c0_0,c0_1,c0_2]) {c1_0 c1_1 c1_2 : Value} (h1 : (ev l x1).cells = #[c1_0,c1_1,c1_2]) {c2_0 c2_1 c2_2 : Value} (h2 : (ev l x2).cells = #[c2_0,c2_1,c2_2]) {c3_0 c3_1 c3_2 : Value} (h3 : (ev l x3).cells = #[c3_0,c3_1,c3_2]) {c4_0 c4_1 c4_2 : Value} (h4 : (ev l x4).cells = #[c4_0,c4_1,c4_2]) {c5_0 c5_1 c5_2 : Value} (h5 : (ev l x5).cells = #[c5_0,c5_1,c5_2]) : Run Tryz.prog l (.build 91 #[(0,x0),(1,x1),(2,x2),(3,x3),(4,x4),(5,x5)]) ty (.agg #[c0_0,c0_1,c0_2,c1_0,c1_1,c1_2,c2_0,c2_1,c2_2,c3_0,c3_1,c3_2,c4_0,c4_1,c4_2,c5_0,c5_1,c5_2]):=r_build (vs:=#[(0,ev l x0),(1,ev l x1),(2,ev l x2),(3,ev l x3),(4,ev l x4),(5,ev l x5)]) (by simp) fun w=>b_91_0_1_2_3_4_5 h0 h1 h2 h3 h4 h5 w
theorem b_95_0_1_2 {v0 v1 v2 : Value} {c0_0 : Value} (h0 : v0.cells = #[c0_0]) {c1_0 : Value} (h1 : v1.cells = #[c1_0]) {c2_0 : Value} (h2 : v2.cells = #[c2_0])  (w : World) : (Instr.build 95 #[(0,v0),(1,v1),(2,v2)]).run Tryz.prog w = .ok (.agg #[c0_0,c1_0,c2_0]) w:=run_build_array Tryz.underlying95 zero_95 cells_94 (by simp [Instr.fill,agg_cells,h0,h1,h2]) w
theorem r_build_95_0_1_2 {l : List Value} {ty : TypeId} {x0 x1 x2 : Operand} {c0_0 : Value} (h0 : (ev l x0).cells = #[c0_0]) {c1_0 : Value} (h1 : (ev l x1).cells = #[c1_0]) {c2_0 : Value} (h2 : (ev l x2).cells = #[c2_0]) : Run Tryz.prog l (.build 95 #[(0,x0),(1,x1),(2,x2)]) ty (.agg #[c0_0,c1_0,c2_0]):=r_build (vs:=#[(0,ev l x0),(1,ev l x1),(2,ev l x2)]) (by simp) fun w=>b_95_0_1_2 h0 h1 h2 w
theorem b_161_0_1_2 {v0 v1 v2 : Value} {c0_0 : Value} (h0 : v0.cells = #[c0_0]) {c1_0 : Value} (h1 : v1.cells = #[c1_0]) {c2_0 : Value} (h2 : v2.cells = #[c2_0])  (w : World) : (Instr.build 161 #[(0,v0),(1,v1),(2,v2)]).run Tryz.prog w = .ok (.agg #[c0_0,c1_0,c2_0]) w:=run_build_array Tryz.underlying161 zero_161 cells_3 (by simp [Instr.fill,agg_cells,h0,h1,h2]) w
theorem r_build_161_0_1_2 {l : List Value} {ty : TypeId} {x0 x1 x2 : Operand} {c0_0 : Value} (h0 : (ev l x0).cells = #[c0_0]) {c1_0 : Value} (h1 : (ev l x1).cells = #[c1_0]) {c2_0 : Value} (h2 : (ev l x2).cells = #[c2_0]) : Run Tryz.prog l (.build 161 #[(0,x0),(1,x1),(2,x2)]) ty (.agg #[c0_0,c1_0,c2_0]):=r_build (vs:=#[(0,ev l x0),(1,ev l x1),(2,ev l x2)]) (by simp) fun w=>b_161_0_1_2 h0 h1 h2 w
theorem b_168_0_1_2 {v0 v1 v2 : Value} {c0_0 : Value} (h0 : v0.cells = #[c0_0]) {c1_0 : Value} (h1 : v1.cells = #[c1_0]) {c2_0 : Value} (h2 : v2.cells = #[c2_0])  (w : World) : (Instr.build 168 #[(0,v0),(1,v1),(2,v2)]).run Tryz.prog w = .ok (.agg #[c0_0,c1_0,c2_0]) w:=run_build_array Tryz.underlying168 zero_168 cells_167 (by simp [Instr.fill,agg_cells,h0,h1,h2]) w
theorem r_build_168_0_1_2 {l : List Value} {ty : TypeId} {x0 x1 x2 : Operand} {c0_0 : Value} (h0 : (ev l x0).cells = #[c0_0]) {c1_0 : Value} (h1 : (ev l x1).cells = #[c1_0]) {c2_0 : Value} (h2 : (ev l x2).cells = #[c2_0]) : Run Tryz.prog l (.build 168 #[(0,x0),(1,x1),(2,x2)]) ty (.agg #[c0_0,c1_0,c2_0]):=r_build (vs:=#[(0,ev l x0),(1,ev l x1),(2,ev l x2)]) (by simp) fun w=>b_168_0_1_2 h0 h1 h2 w
theorem eqr_23 (d : Nat) {x0 y0 : Int} {x1 y1 : Int} {x2 y2 : Int} : EqR Tryz.prog (d + 2) 23 (.agg #[.int .i64 x0,.int .i64 x1,.int .i64 x2]) (.agg #[.int .i64 y0,.int .i64 y1,.int .i64 y2]) (x0 = y0 ∧ x1 = y1 ∧ x2 = y2):=(EqR.array Tryz.underlying23 cells_3 (ItmR.cons (part_one agg_3 rfl) (part_one agg_3 rfl) (EqR.int (d:=d + 0) Tryz.underlying3) (ItmR.cons (part_one agg_3 rfl) (part_one agg_3 rfl) (EqR.int (d:=d + 0) Tryz.underlying3) (ItmR.cons (part_one agg_3 rfl) (part_one agg_3 rfl) (EqR.int (d:=d + 0) Tryz.underlying3) ItmR.nil)))).iff (by simp only [and_assoc,and_true])
theorem eq_eql_23 {l : List Value} {ty T' : TypeId} {x y : Operand} {x0 y0 : Int} {x1 y1 : Int} {x2 y2 : Int} (hx : ev l x = (.agg #[.int .i64 x0,.int .i64 x1,.int .i64 x2])) (hy : ev l y = (.agg #[.int .i64 y0,.int .i64 y1,.int .i64 y2])) : Run Tryz.prog l (.binOp .eql 23 x y T') ty (.bool (decide (x0 = y0 ∧ x1 = y1 ∧ x2 = y2))):=r_eqlR (by kernel_rfl) hx hy (eqr_23 9998)
theorem eqr_28 (d : Nat) {x0 y0 : Int} {x1 y1 : Int} {x2 y2 : Int} : EqR Tryz.prog (d + 2) 28 (.agg #[.int .i64 x0,.int .i64 x1,.int .i64 x2]) (.agg #[.int .i64 y0,.int .i64 y1,.int .i64 y2]) (x0 = y0 ∧ x1 = y1 ∧ x2 = y2):=(EqR.struct Tryz.underlying28 (by kernel_rfl) (FldR.cons (by decide) (part_one agg_3 rfl) (part_one agg_3 rfl) (EqR.int (d:=d + 0) Tryz.underlying3) (FldR.cons (by decide) (part_one agg_3 rfl) (part_one agg_3 rfl) (EqR.int (d:=d + 0) Tryz.underlying3) (FldR.cons (by decide) (part_one agg_3 rfl) (part_one agg_3 rfl) (EqR.int (d:=d + 0) Tryz.underlying3) FldR.nil)))).iff (by simp only [and_assoc,and_true])
theorem eq_eql_28 {l : List Value} {ty T' : TypeId} {x y : Operand} {x0 y0 : Int} {x1 y1 : Int} {x2 y2 : Int} (hx : ev l x = (.agg #[.int .i64 x0,.int .i64 x1,.int .i64 x2])) (hy : ev l y = (.agg #[.int .i64 y0,.int .i64 y1,.int .i64 y2])) : Run Tryz.prog l (.binOp .eql 28 x y T') ty (.bool (decide (x0 = y0 ∧ x1 = y1 ∧ x2 = y2))):=r_eqlR (by kernel_rfl) hx hy (eqr_28 9998)
theorem eqr_32 (d : Nat) {x0 y0 : Bool} {x1 y1 : ByteArray} : EqR Tryz.prog (d + 2) 32 (.agg #[.bool x0,.string x1]) (.agg #[.bool y0,.string y1]) (x0 = y0 ∧ x1 = y1):=(EqR.struct Tryz.underlying32 (by kernel_rfl) (FldR.cons (by decide) (part_one agg_4 rfl) (part_one agg_4 rfl) (EqR.bool (d:=d + 0) Tryz.underlying4) (FldR.cons (by decide) (part_one agg_9 rfl) (part_one agg_9 rfl) (EqR.str (d:=d + 0) Tryz.underlying9) FldR.nil))).iff (by simp only [and_assoc,and_true])
theorem eq_eql_32 {l : List Value} {ty T' : TypeId} {x y : Operand} {x0 y0 : Bool} {x1 y1 : ByteArray} (hx : ev l x = (.agg #[.bool x0,.string x1])) (hy : ev l y = (.agg #[.bool y0,.string y1])) : Run Tryz.prog l (.binOp .eql 32 x y T') ty (.bool (decide (x0 = y0 ∧ x1 = y1))):=r_eqlR (by kernel_rfl) hx hy (eqr_32 9998)
theorem eq_neq_32 {l : List Value} {ty T' : TypeId} {x y : Operand} {x0 y0 : Bool} {x1 y1 : ByteArray} (hx : ev l x = (.agg #[.bool x0,.string x1])) (hy : ev l y = (.agg #[.bool y0,.string y1])) : Run Tryz.prog l (.binOp .neq 32 x y T') ty (.bool (decide (¬ (x0 = y0 ∧ x1 = y1)))):=r_neqR (by kernel_rfl) hx hy (eqr_32 9998)
theorem eqr_34 (d : Nat) {x0 y0 : Bool} {x1 y1 : ByteArray} {x2 y2 : Bool} {x3 y3 : ByteArray} : EqR Tryz.prog (d + 3) 34 (.agg #[.bool x0,.string x1,.bool x2,.string x3]) (.agg #[.bool y0,.string y1,.bool y2,.string y3]) (x0 = y0 ∧ x1 = y1 ∧ x2 = y2 ∧ x3 = y3):=(EqR.struct Tryz.underlying34 (by kernel_rfl) (FldR.cons (by decide) (part_agg agg_32 cells_32 rfl) (part_agg agg_32 cells_32 rfl) (eqr_32 (d + 0)) (FldR.cons (by decide) (part_agg agg_32 cells_32 rfl) (part_agg agg_32 cells_32 rfl) (eqr_32 (d + 0)) FldR.nil))).iff (by simp only [and_assoc,and_true])
theorem eq_eql_34 {l : List Value} {ty T' : TypeId} {x y : Operand} {x0 y0 : Bool} {x1 y1 : ByteArray} {x2 y2 : Bool} {x3 y3 : ByteArray} (hx : ev l x = (.agg #[.bool x0,.string x1,.bool x2,.string x3])) (hy : ev l y = (.agg #[.bool y0,.string y1,.bool y2,.string y3])) : Run Tryz.prog l (.binOp .eql 34 x y T') ty (.bool (decide (x0 = y0 ∧ x1 = y1 ∧ x2 = y2 ∧ x3 = y3))):=r_eqlR (by kernel_rfl) hx hy (eqr_34 9997)
theorem eqr_49 (d : Nat) {x0 y0 : Bool} {x1 y1 : ByteArray} {x2 y2 : Bool} {x3 y3 : ByteArray} {x4 y4 : Bool} {x5 y5 : ByteArray} {x6 y6 : Bool} {x7 y7 : ByteArray} {x8 y8 : Bool} {x9 y9 : ByteArray} {x10 y10 : Bool} {x11 y11 : ByteArray} : EqR Tryz.prog (d + 4) 49 (.agg #[.bool x0,.string x1,.bool x2,.string x3,.bool x4,.string x5,.bool x6,.string x7,.bool x8,.string x9,.bool x10,.string x11]) (.agg #[.bool y0,.string y1,.bool y2,.string y3,.bool y4,.string y5,.bool y6,.string y7,.bool y8,.string y9,.bool y10,.string y11]) (x0 = y0 ∧ x1 = y1 ∧ x2 = y2 ∧ x3 = y3 ∧ x4 = y4 ∧ x5 = y5 ∧ x6 = y6 ∧ x7 = y7 ∧ x8 = y8 ∧ x9 = y9 ∧ x10 = y10 ∧ x11 = y11):=(EqR.array Tryz.underlying49 cells_34 (ItmR.cons (part_agg agg_34 cells_34 rfl) (part_agg agg_34 cells_34 rfl) (eqr_34 (d + 0)) (ItmR.cons (part_agg agg_34 cells_34 rfl) (part_agg agg_34 cells_34 rfl) (eqr_34 (d + 0)) (ItmR.cons (part_agg agg_34 cells_34 rfl) (part_agg agg_34 cells_34 rfl) (eqr_34 (d + 0)) ItmR.nil)))).iff (by simp only [and_assoc,and_true])
theorem eq_eql_49 {l : List Value} {ty T' : TypeId} {x y : Operand} {x0 y0 : Bool} {x1 y1 : ByteArray} {x2 y2 : Bool} {x3 y3 : ByteArray} {x4 y4 : Bool} {x5 y5 : ByteArray} {x6 y6 : Bool} {x7 y7 : ByteArray} {x8 y8 : Bool} {x9 y9 : ByteArray} {x10 y10 : Bool} {x11 y11 : ByteArray} (hx : ev l x = (.agg #[.bool x0,.string x1,.bool x2,.string x3,.bool x4,.string x5,.bool x6,.string x7,.bool x8,.string x9,.bool x10,.string x11])) (hy : ev l y = (.agg #[.bool y0,.string y1,.bool y2,.string y3,.bool y4,.string y5,.bool y6,.string y7,.bool y8,.string y9,.bool y10,.string y11])) : Run Tryz.prog l (.binOp .eql 49 x y T') ty (.bool (decide (x0 = y0 ∧ x1 = y1 ∧ x2 = y2 ∧ x3 = y3 ∧ x4 = y4 ∧ x5 = y5 ∧ x6 = y6 ∧ x7 = y7 ∧ x8 = y8 ∧ x9 = y9 ∧ x10 = y10 ∧ x11 = y11))):=r_eqlR (by kernel_rfl) hx hy (eqr_49 9996)
end Go.Proofs.YtmcgcnpgkkfkoaaGreatDoor
namespace Go.Proofs.YtmcgcnpgkkfkoaaGreatDoor
open Go.RowKit Go.Lith
theorem r_index_23_0 {l : List Value} {ty : TypeId} {x y : Operand} {k : IntKind} {c0 c1 c2 : Value} (hx : ev l x = .agg #[c0,c1,c2]) (hy : ev l y = .int k 0) : Run Tryz.prog l (.index 23 x y) ty c0:=r_index1 Tryz.underlying23 agg_3 cells_3 hx hy (by decide) (by decide) rfl
theorem r_index_23_1 {l : List Value} {ty : TypeId} {x y : Operand} {k : IntKind} {c0 c1 c2 : Value} (hx : ev l x = .agg #[c0,c1,c2]) (hy : ev l y = .int k 1) : Run Tryz.prog l (.index 23 x y) ty c1:=r_index1 Tryz.underlying23 agg_3 cells_3 hx hy (by decide) (by decide) rfl
theorem r_index_23_2 {l : List Value} {ty : TypeId} {x y : Operand} {k : IntKind} {c0 c1 c2 : Value} (hx : ev l x = .agg #[c0,c1,c2]) (hy : ev l y = .int k 2) : Run Tryz.prog l (.index 23 x y) ty c2:=r_index1 Tryz.underlying23 agg_3 cells_3 hx hy (by decide) (by decide) rfl
theorem r_index_59_0 {l : List Value} {ty : TypeId} {x y : Operand} {k : IntKind} {c0 c1 c2 c3 c4 c5 c6 c7 c8 : Value} (hx : ev l x = .agg #[c0,c1,c2,c3,c4,c5,c6,c7,c8]) (hy : ev l y = .int k 0) : Run Tryz.prog l (.index 59 x y) ty (.agg #[c0,c1,c2]):=r_indexA Tryz.underlying59 agg_28 cells_28 hx hy (by decide) (by decide) rfl
theorem r_index_59_1 {l : List Value} {ty : TypeId} {x y : Operand} {k : IntKind} {c0 c1 c2 c3 c4 c5 c6 c7 c8 : Value} (hx : ev l x = .agg #[c0,c1,c2,c3,c4,c5,c6,c7,c8]) (hy : ev l y = .int k 1) : Run Tryz.prog l (.index 59 x y) ty (.agg #[c3,c4,c5]):=r_indexA Tryz.underlying59 agg_28 cells_28 hx hy (by decide) (by decide) rfl
theorem r_index_59_2 {l : List Value} {ty : TypeId} {x y : Operand} {k : IntKind} {c0 c1 c2 c3 c4 c5 c6 c7 c8 : Value} (hx : ev l x = .agg #[c0,c1,c2,c3,c4,c5,c6,c7,c8]) (hy : ev l y = .int k 2) : Run Tryz.prog l (.index 59 x y) ty (.agg #[c6,c7,c8]):=r_indexA Tryz.underlying59 agg_28 cells_28 hx hy (by decide) (by decide) rfl
theorem r_index_95_0 {l : List Value} {ty : TypeId} {x y : Operand} {k : IntKind} {c0 c1 c2 : Value} (hx : ev l x = .agg #[c0,c1,c2]) (hy : ev l y = .int k 0) : Run Tryz.prog l (.index 95 x y) ty c0:=r_index1 Tryz.underlying95 agg_94 cells_94 hx hy (by decide) (by decide) rfl
theorem r_index_95_1 {l : List Value} {ty : TypeId} {x y : Operand} {k : IntKind} {c0 c1 c2 : Value} (hx : ev l x = .agg #[c0,c1,c2]) (hy : ev l y = .int k 1) : Run Tryz.prog l (.index 95 x y) ty c1:=r_index1 Tryz.underlying95 agg_94 cells_94 hx hy (by decide) (by decide) rfl
theorem r_index_95_2 {l : List Value} {ty : TypeId} {x y : Operand} {k : IntKind} {c0 c1 c2 : Value} (hx : ev l x = .agg #[c0,c1,c2]) (hy : ev l y = .int k 2) : Run Tryz.prog l (.index 95 x y) ty c2:=r_index1 Tryz.underlying95 agg_94 cells_94 hx hy (by decide) (by decide) rfl
theorem r_index_112_0 {l : List Value} {ty : TypeId} {x y : Operand} {k : IntKind} {c0 c1 c2 c3 c4 c5 : Value} (hx : ev l x = .agg #[c0,c1,c2,c3,c4,c5]) (hy : ev l y = .int k 0) : Run Tryz.prog l (.index 112 x y) ty (.agg #[c0,c1]):=r_indexA Tryz.underlying112 agg_32 cells_32 hx hy (by decide) (by decide) rfl
theorem r_index_112_1 {l : List Value} {ty : TypeId} {x y : Operand} {k : IntKind} {c0 c1 c2 c3 c4 c5 : Value} (hx : ev l x = .agg #[c0,c1,c2,c3,c4,c5]) (hy : ev l y = .int k 1) : Run Tryz.prog l (.index 112 x y) ty (.agg #[c2,c3]):=r_indexA Tryz.underlying112 agg_32 cells_32 hx hy (by decide) (by decide) rfl
theorem r_index_112_2 {l : List Value} {ty : TypeId} {x y : Operand} {k : IntKind} {c0 c1 c2 c3 c4 c5 : Value} (hx : ev l x = .agg #[c0,c1,c2,c3,c4,c5]) (hy : ev l y = .int k 2) : Run Tryz.prog l (.index 112 x y) ty (.agg #[c4,c5]):=r_indexA Tryz.underlying112 agg_32 cells_32 hx hy (by decide) (by decide) rfl
theorem r_index_161_0 {l : List Value} {ty : TypeId} {x y : Operand} {k : IntKind} {c0 c1 c2 : Value} (hx : ev l x = .agg #[c0,c1,c2]) (hy : ev l y = .int k 0) : Run Tryz.prog l (.index 161 x y) ty c0:=r_index1 Tryz.underlying161 agg_3 cells_3 hx hy (by decide) (by decide) rfl
theorem r_index_161_1 {l : List Value} {ty : TypeId} {x y : Operand} {k : IntKind} {c0 c1 c2 : Value} (hx : ev l x = .agg #[c0,c1,c2]) (hy : ev l y = .int k 1) : Run Tryz.prog l (.index 161 x y) ty c1:=r_index1 Tryz.underlying161 agg_3 cells_3 hx hy (by decide) (by decide) rfl
theorem r_index_161_2 {l : List Value} {ty : TypeId} {x y : Operand} {k : IntKind} {c0 c1 c2 : Value} (hx : ev l x = .agg #[c0,c1,c2]) (hy : ev l y = .int k 2) : Run Tryz.prog l (.index 161 x y) ty c2:=r_index1 Tryz.underlying161 agg_3 cells_3 hx hy (by decide) (by decide) rfl
theorem r_index_168_0 {l : List Value} {ty : TypeId} {x y : Operand} {k : IntKind} {c0 c1 c2 : Value} (hx : ev l x = .agg #[c0,c1,c2]) (hy : ev l y = .int k 0) : Run Tryz.prog l (.index 168 x y) ty c0:=r_index1 Tryz.underlying168 agg_167 cells_167 hx hy (by decide) (by decide) rfl
theorem r_index_168_1 {l : List Value} {ty : TypeId} {x y : Operand} {k : IntKind} {c0 c1 c2 : Value} (hx : ev l x = .agg #[c0,c1,c2]) (hy : ev l y = .int k 1) : Run Tryz.prog l (.index 168 x y) ty c1:=r_index1 Tryz.underlying168 agg_167 cells_167 hx hy (by decide) (by decide) rfl
theorem r_index_168_2 {l : List Value} {ty : TypeId} {x y : Operand} {k : IntKind} {c0 c1 c2 : Value} (hx : ev l x = .agg #[c0,c1,c2]) (hy : ev l y = .int k 2) : Run Tryz.prog l (.index 168 x y) ty c2:=r_index1 Tryz.underlying168 agg_167 cells_167 hx hy (by decide) (by decide) rfl
theorem n_bs_22_3 {ds : List Deferred} {l : List Value} {ty : TypeId} {ops : Array Oper} {Q : Exit → Act → World → Prop} {rest : List Oper} {d : Nat} {pos : String} {after : Array Edge} {w : World} {x0 x1 x2 : Operand} {c0_0 c1_0 c2_0 : Value} (h0 : (ev l x0).cells = #[c0_0]) (h1 : (ev l x1).cells = #[c1_0]) (h2 : (ev l x2).cells = #[c2_0]) (h : ∀ w' g,Ext w w' → w.heap.size ≤ g → Blk w' g [c0_0,c1_0,c2_0] 3 → wpList Tryz.prog ops Q rest (Fr (l.set d (.slice (some ⟨g,0,none⟩) 3 3)) ds) w') : wpList Tryz.prog ops Q (Oper.mk (some d) (.buildSlice 22 3 #[(0,x0),(1,x1),(2,x2)]) ty pos after none :: rest) (Fr l ds) w :=
  n_buildN (vs:=#[(0,ev l x0),(1,ev l x1),(2,ev l x2)]) (base:=#[.int .i64 0,.int .i64 0,.int .i64 0]) (c:=1) (z:=(.int .i64 0)) Tryz.underlying22 (by kernel_rfl) (by decide) (by decide) (by kernel_rfl) (by simp) (by simp [Instr.fill,h0,h1,h2]) h
theorem n_bs_24_1 {ds : List Deferred} {l : List Value} {ty : TypeId} {ops : Array Oper} {Q : Exit → Act → World → Prop} {rest : List Oper} {d : Nat} {pos : String} {after : Array Edge} {w : World} {x0 : Operand} {c0_0 c0_1 c0_2 c0_3 c0_4 c0_5 c0_6 c0_7 c0_8 : Value} (h0 : (ev l x0).cells = #[c0_0,c0_1,c0_2,c0_3,c0_4,c0_5,c0_6,c0_7,c0_8]) (h : ∀ w' g,Ext w w' → w.heap.size ≤ g → Blk w' g [c0_0,c0_1,c0_2,c0_3,c0_4,c0_5,c0_6,c0_7,c0_8] 59 → wpList Tryz.prog ops Q rest (Fr (l.set d (.slice (some ⟨g,0,none⟩) 1 1)) ds) w') : wpList Tryz.prog ops Q (Oper.mk (some d) (.buildSlice 24 1 #[(0,x0)]) ty pos after none :: rest) (Fr l ds) w :=
  n_buildN (vs:=#[(0,ev l x0)]) (base:=#[.int .i64 0,.int .i64 0,.int .i64 0,.int .i64 0,.int .i64 0,.int .i64 0,.int .i64 0,.int .i64 0,.int .i64 0]) (c:=9) (z:=(.agg #[.int .i64 0,.int .i64 0,.int .i64 0,.int .i64 0,.int .i64 0,.int .i64 0,.int .i64 0,.int .i64 0,.int .i64 0])) Tryz.underlying24 (by kernel_rfl) (by decide) (by decide) (by kernel_rfl) (by simp) (by simp [Instr.fill,h0]) h
theorem n_bs_24_2 {ds : List Deferred} {l : List Value} {ty : TypeId} {ops : Array Oper} {Q : Exit → Act → World → Prop} {rest : List Oper} {d : Nat} {pos : String} {after : Array Edge} {w : World} {x0 x1 : Operand} {c0_0 c0_1 c0_2 c0_3 c0_4 c0_5 c0_6 c0_7 c0_8 c1_0 c1_1 c1_2 c1_3 c1_4 c1_5 c1_6 c1_7 c1_8 : Value} (h0 : (ev l x0).cells = #[c0_0,c0_1,c0_2,c0_3,c0_4,c0_5,c0_6,c0_7,c0_8]) (h1 : (ev l x1).cells = #[c1_0,c1_1,c1_2,c1_3,c1_4,c1_5,c1_6,c1_7,c1_8]) (h : ∀ w' g,Ext w w' → w.heap.size ≤ g → Blk w' g [c0_0,c0_1,c0_2,c0_3,c0_4,c0_5,c0_6,c0_7,c0_8,c1_0,c1_1,c1_2,c1_3,c1_4,c1_5,c1_6,c1_7,c1_8] 59 → wpList Tryz.prog ops Q rest (Fr (l.set d (.slice (some ⟨g,0,none⟩) 2 2)) ds) w') : wpList Tryz.prog ops Q (Oper.mk (some d) (.buildSlice 24 2 #[(0,x0),(1,x1)]) ty pos after none :: rest) (Fr l ds) w :=
  n_buildN (vs:=#[(0,ev l x0),(1,ev l x1)]) (base:=#[.int .i64 0,.int .i64 0,.int .i64 0,.int .i64 0,.int .i64 0,.int .i64 0,.int .i64 0,.int .i64 0,.int .i64 0,.int .i64 0,.int .i64 0,.int .i64 0,.int .i64 0,.int .i64 0,.int .i64 0,.int .i64 0,.int .i64 0,.int .i64 0]) (c:=9) (z:=(.agg #[.int .i64 0,.int .i64 0,.int .i64 0,.int .i64 0,.int .i64 0,.int .i64 0,.int .i64 0,.int .i64 0,.int .i64 0])) Tryz.underlying24 (by kernel_rfl) (by decide) (by decide) (by kernel_rfl) (by simp) (by simp [Instr.fill,h0,h1]) h
theorem n_bs_24_4 {ds : List Deferred} {l : List Value} {ty : TypeId} {ops : Array Oper} {Q : Exit → Act → World → Prop} {rest : List Oper} {d : Nat} {pos : String} {after : Array Edge} {w : World} {x0 x1 x2 x3 : Operand} {c0_0 c0_1 c0_2 c0_3 c0_4 c0_5 c0_6 c0_7 c0_8 c1_0 c1_1 c1_2 c1_3 c1_4 c1_5 c1_6 c1_7 c1_8 c2_0 c2_1 c2_2 c2_3 c2_4 c2_5 c2_6 c2_7 c2_8 c3_0 c3_1 c3_2 c3_3 c3_4 c3_5 c3_6 c3_7 c3_8 : Value} (h0 : (ev l x0).cells = #[c0_0,c0_1,c0_2,c0_3,c0_4,c0_5,c0_6,c0_7,c0_8]) (h1 : (ev l x1).cells = #[c1_0,c1_1,c1_2,c1_3,c1_4,c1_5,c1_6,c1_7,c1_8]) (h2 : (ev l x2).cells = #[c2_0,c2_1,c2_2,c2_3,c2_4,c2_5,c2_6,c2_7,c2_8]) (h3 : (ev l x3).cells = #[c3_0,c3_1,c3_2,c3_3,c3_4,c3_5,c3_6,c3_7,c3_8]) (h : ∀ w' g,Ext w w' → w.heap.size ≤ g → Blk w' g [c0_0,c0_1,c0_2,c0_3,c0_4,c0_5,c0_6,c0_7,c0_8,c1_0,c1_1,c1_2,c1_3,c1_4,c1_5,c1_6,c1_7,c1_8,c2_0,c2_1,c2_2,c2_3,c2_4,c2_5,c2_6,c2_7,c2_8,c3_0,c3_1,c3_2,c3_3,c3_4,c3_5,c3_6,c3_7,c3_8] 59 → wpList Tryz.prog ops Q rest (Fr (l.set d (.slice (some ⟨g,0,none⟩) 4 4)) ds) w') : wpList Tryz.prog ops Q (Oper.mk (some d) (.buildSlice 24 4 #[(0,x0),(1,x1),(2,x2),(3,x3)]) ty pos after none :: rest) (Fr l ds) w :=
  n_buildN (vs:=#[(0,ev l x0),(1,ev l x1),(2,ev l x2),(3,ev l x3)]) (base:=#[.int .i64 0,.int .i64 0,.int .i64 0,.int .i64 0,.int .i64 0,.int .i64 0,.int .i64 0,.int .i64 0,.int .i64 0,.int .i64 0,.int .i64 0,.int .i64 0,.int .i64 0,.int .i64 0,.int .i64 0,.int .i64 0,.int .i64 0,.int .i64 0,.int .i64 0,.int .i64 0,.int .i64 0,.int .i64 0,.int .i64 0,.int .i64 0,.int .i64 0,.int .i64 0,.int .i64 0,.int .i64 0,.int .i64 0,.int .i64 0,.int .i64 0,.int .i64 0,.int .i64 0,.int .i64 0,.int .i64 0,.int .i64 0]) (c:=9) (z:=(.agg #[.int .i64 0,.int .i64 0,.int .i64 0,.int .i64 0,.int .i64 0,.int .i64 0,.int .i64 0,.int .i64 0,.int .i64 0])) Tryz.underlying24 (by kernel_rfl) (by decide) (by decide) (by kernel_rfl) (by simp) (by simp [Instr.fill,h0,h1,h2,h3]) h
theorem n_bs_118_4 {ds : List Deferred} {l : List Value} {ty : TypeId} {ops : Array Oper} {Q : Exit → Act → World → Prop} {rest : List Oper} {d : Nat} {pos : String} {after : Array Edge} {w : World} {x0 x1 x2 x3 : Operand} {c0_0 c0_1 c0_2 c1_0 c1_1 c1_2 c2_0 c2_1 c2_2 c3_0 c3_1 c3_2 : Value} (h0 : (ev l x0).cells = #[c0_0,c0_1,c0_2]) (h1 : (ev l x1).cells = #[c1_0,c1_1,c1_2]) (h2 : (ev l x2).cells = #[c2_0,c2_1,c2_2]) (h3 : (ev l x3).cells = #[c3_0,c3_1,c3_2]) (h : ∀ w' g,Ext w w' → w.heap.size ≤ g → Blk w' g [c0_0,c0_1,c0_2,c1_0,c1_1,c1_2,c2_0,c2_1,c2_2,c3_0,c3_1,c3_2] 28 → wpList Tryz.prog ops Q rest (Fr (l.set d (.slice (some ⟨g,0,none⟩) 4 4)) ds) w') : wpList Tryz.prog ops Q (Oper.mk (some d) (.buildSlice 118 4 #[(0,x0),(1,x1),(2,x2),(3,x3)]) ty pos after none :: rest) (Fr l ds) w :=
  n_buildN (vs:=#[(0,ev l x0),(1,ev l x1),(2,ev l x2),(3,ev l x3)]) (base:=#[.int .i64 0,.int .i64 0,.int .i64 0,.int .i64 0,.int .i64 0,.int .i64 0,.int .i64 0,.int .i64 0,.int .i64 0,.int .i64 0,.int .i64 0,.int .i64 0]) (c:=3) (z:=(.agg #[.int .i64 0,.int .i64 0,.int .i64 0])) Tryz.underlying118 (by kernel_rfl) (by decide) (by decide) (by kernel_rfl) (by simp) (by simp [Instr.fill,h0,h1,h2,h3]) h
theorem n_bs_156_3 {ds : List Deferred} {l : List Value} {ty : TypeId} {ops : Array Oper} {Q : Exit → Act → World → Prop} {rest : List Oper} {d : Nat} {pos : String} {after : Array Edge} {w : World} {x0 x1 x2 : Operand} {c0_0 c0_1 c1_0 c1_1 c2_0 c2_1 : Value} (h0 : (ev l x0).cells = #[c0_0,c0_1]) (h1 : (ev l x1).cells = #[c1_0,c1_1]) (h2 : (ev l x2).cells = #[c2_0,c2_1]) (h : ∀ w' g,Ext w w' → w.heap.size ≤ g → Blk w' g [c0_0,c0_1,c1_0,c1_1,c2_0,c2_1] 32 → wpList Tryz.prog ops Q rest (Fr (l.set d (.slice (some ⟨g,0,none⟩) 3 3)) ds) w') : wpList Tryz.prog ops Q (Oper.mk (some d) (.buildSlice 156 3 #[(0,x0),(1,x1),(2,x2)]) ty pos after none :: rest) (Fr l ds) w :=
  n_buildN (vs:=#[(0,ev l x0),(1,ev l x1),(2,ev l x2)]) (base:=#[.bool false,.string ⟨#[]⟩,.bool false,.string ⟨#[]⟩,.bool false,.string ⟨#[]⟩]) (c:=2) (z:=(.agg #[.bool false,.string ⟨#[]⟩])) Tryz.underlying156 (by kernel_rfl) (by decide) (by decide) (by kernel_rfl) (by simp) (by simp [Instr.fill,h0,h1,h2]) h
end Go.Proofs.YtmcgcnpgkkfkoaaGreatDoor
namespace Go.Proofs.YtmcgcnpgkkfkoaaGreatDoor
open Go.RowKit Go.Lith
set_option maxRecDepth 100000
attribute [local irreducible] wpList wpQuiet wpMix wpMixH wpTree Code.wp
theorem r4Mod_c {n k : Int} [Iw n] (h0 : 0 < k) (h1 : k < 4611686018427387904) : Pure Tryz.prog 91 [.int .i64 n,.int .i64 k] (.int .i64 (n % k)):=by
 intro w
 refine ⟨en_91,?_⟩
 have m:=Mem.refl w
 have hb:=tm_bd (n:=n) h0
 go_enter Tryz.func91,Tryz.ntmps91
 refine c_seq fun K1 k1=>wp_region_lit (n_val (r_assign) (n_nil (k1 _ _ ?_)))
 refine c_seq fun K2 k2=>wp_region_lit (n_val (r_move) (n_val (r_move) ?_))
 simp only [ev,zD,zE,zF,zG]
 refine n_val (r_rem rfl rfl (by omega) rfl) (n_val (r_move) ?_)
 simp only [ev,zD,zE,zF,zG]
 refine n_val (r_add rfl rfl (wrap_i64 (by omega) (by omega))) (n_val (r_move) ?_)
 simp only [ev,zD,zE,zF,zG]
 refine n_val (r_rem rfl rfl (by omega) (mod_law h0)) (n_val (r_assign) (n_nil (k2 _ _ ?_)))
 refine wp_ret ?_
 simp only [ev,zD,zE,zF,zG]
 try simp only [Exit.inBlock,Exit.then,if_true]
 refine fin1 rfl rfl ?_
 try simp only [zD,zE]
 exact ⟨_,rfl,m.ext,rfl⟩
theorem r1Mod_c {n k : Int} [Iw n] (h0 : 0 < k) (h1 : k < 4611686018427387904) : Pure Tryz.prog 92 [.int .i64 n,.int .i64 k] (.int .i64 (n % k)):=by
 intro w
 refine ⟨en_92,?_⟩
 have m:=Mem.refl w
 have hb:=tm_bd (n:=n) h0
 go_enter Tryz.func92,Tryz.ntmps92
 refine c_seq fun K1 k1=>wp_region_lit (n_val (r_assign) (n_nil (k1 _ _ ?_)))
 refine c_seq fun K2 k2=>wp_region_lit (n_val (r_move) (n_val (r_move) ?_))
 simp only [ev,zD,zE,zF,zG]
 refine n_val (r_rem rfl rfl (by omega) rfl) (n_val (r_move) ?_)
 simp only [ev,zD,zE,zF,zG]
 refine n_val (r_add rfl rfl (wrap_i64 (by omega) (by omega))) (n_val (r_move) ?_)
 simp only [ev,zD,zE,zF,zG]
 refine n_val (r_rem rfl rfl (by omega) (mod_law h0)) (n_val (r_assign) (n_nil (k2 _ _ ?_)))
 refine wp_ret ?_
 simp only [ev,zD,zE,zF,zG]
 try simp only [Exit.inBlock,Exit.then,if_true]
 refine fin1 rfl rfl ?_
 try simp only [zD,zE]
 exact ⟨_,rfl,m.ext,rfl⟩
theorem hill_c {x y N cap : Nat} {A : Option Addr} {zs : List Int} (w : World) (hZ : IntsAt w A N zs) (hx : x ≤ 6) (hy : y ≤ 6) : Does Tryz.prog 147 [.int .i64 (x : Int),.int .i64 (y : Int),.int .i64 10,.slice A N cap] w (fun v _=>v = pt (hillP 10 zs x y)):=by
 refine ⟨en_147,?_⟩
 have m:=Mem.refl w
 go_enter Tryz.func147,Tryz.ntmps147
 refine c_seq fun K1 k1=>wp_region_lit (malloc m zero_28 rfl ?_)
 clear m; intro g1 u m
 refine n_nil (k1 _ _ ?_)
 refine c_seq fun K2 k2=>wp_region_lit (n_val (r_assign) (n_nil (k2 _ _ ?_)))
 refine c_seq fun K3 k3=>c_seq fun K4 k4=>wp_region_lit (n_val (r_move) (n_val (r_lenS rfl Tryz.underlying22 rfl) ?_))
 simp only [ev,zD,zE,zF,zG]
 refine n_val (r_gtr rfl rfl) (n_nil (k4 _ _ ?_))
 simp only [ev,zD,zE,zF,zG]
 refine c_if rfl (fun hc1=>?_) (fun hc1=>?_)
 ·
  have hi : (y * 7 + x) % N < N:=Nat.mod_lt _ (by omega)
  obtain ⟨z,hz,hzI,a,rfl,hcell⟩:=hZ.get hi
  have hz6:=emod_bd (n:=z) (m:=64) (by decide)
  refine wp_region_lit (n_val (r_move) (n_val (r_move) ?_))
  simp only [ev,zD,zE,zF,zG]
  refine n_val (r_mul rfl rfl (wrap_i64 (by omega) (by omega))) (n_val (r_move) ?_)
  simp only [ev,zD,zE,zF,zG]
  refine n_val (r_add rfl rfl (wrap_i64 (by omega) (by omega))) (n_val (r_move) (n_val (r_lenS rfl Tryz.underlying22 rfl) ?_))
  simp only [ev,zD,zE,zF,zG]
  refine n_val (r_rem rfl rfl (by omega) (tmodN (k:=y * 7 + x))) (n_val (r_indexAddrS Tryz.underlying22 cells_3 rfl rfl (Int.natCast_nonneg _) (Int.ofNat_lt.2 hi) (addr1 (Int.toNat_natCast _))) ?_)
  simp only [ev,zD,zE,zF,zG]
  refine n_load rfl (lies1 (m.ext.cell hcell) agg_3) ?_
  simp only [ev,zD,zE,zF,zG]
  refine mcallP m rfl rfl (r4Mod_c (n:=z) (k:=64) (by decide) (by decide)) ?_
  clear m; intro u m
  refine n_val (r_assign) (n_nil (k3 _ _ ?_))
  refine c_seq fun K5 k5=>wp_region_lit (n_val (r_move) (n_val (r_move) ?_))
  simp only [ev,zD,zE,zF,zG]
  refine n_val (r_mul rfl rfl (wrap_i64 (by omega) (by omega))) (n_val (r_move) (n_val (r_move) ?_))
  simp only [ev,zD,zE,zF,zG]
  refine n_val (r_mul rfl rfl (wrap_i64 (by omega) (by omega))) (n_val (r_move) ?_)
  simp only [ev,zD,zE,zF,zG]
  refine n_val (r_add rfl rfl (wrap_i64 (by omega) (by omega))) (n_val (r_build_28_0_1_2 rfl rfl rfl) ?_)
  simp only [ev,zD,zE,zF,zG]
  refine mstoreA m 0 rfl rfl rfl cells_28 (leT rfl) rfl ?_
  clear m; intro u m; simp only [over,zH,zI,zJ,zK,zL,zM,zN,zO,zP,zF,zG,Nat.reduceAdd] at m
  refine n_nil (k5 _ _ ?_)
  refine wp_ret ?_
  try simp only [Exit.inBlock,Exit.then,if_true]
  refine fin1 rfl ⟨_,rfl,((m.b 0 rfl).full agg_28 cells_28)⟩ ?_
  try simp only [zD,zE]
  exact ⟨_,rfl,m.ext,by simp only [pt,hillP,hgt_some hZ.len hz]⟩
 ·
  refine wp_skip (k3 _ _ ?_)
  refine c_seq fun K6 k6=>wp_region_lit (n_val (r_move) (n_val (r_move) ?_))
  simp only [ev,zD,zE,zF,zG]
  refine n_val (r_mul rfl rfl (wrap_i64 (by omega) (by omega))) (n_val (r_move) (n_val (r_move) ?_))
  simp only [ev,zD,zE,zF,zG]
  refine n_val (r_mul rfl rfl (wrap_i64 (by omega) (by omega))) (n_val (r_move) (n_val (r_add (m:=100) (n:=0) (r:=100) rfl rfl (by decide)) (n_val (r_build_28_0_1_2 rfl rfl rfl) ?_)))
  simp only [ev,zD,zE,zF,zG]
  refine mstoreA m 0 rfl rfl rfl cells_28 (leT rfl) rfl ?_
  clear m; intro u m; simp only [over,zH,zI,zJ,zK,zL,zM,zN,zO,zP,zF,zG,Nat.reduceAdd] at m
  refine n_nil (k6 _ _ ?_)
  refine wp_ret ?_
  try simp only [Exit.inBlock,Exit.then,if_true]
  refine fin1 rfl ⟨_,rfl,((m.b 0 rfl).full agg_28 cells_28)⟩ ?_
  try simp only [zD,zE]
  exact ⟨_,rfl,m.ext,by simp [pt,hillP,hgt_nil hZ.len hc1]⟩
theorem quad_c {a b c d : P3} (w : World) : Does Tryz.prog 119 [pt a,pt b,pt c,pt d] w (TS 59 (quadT a b c d) w):=by
 refine ⟨en_119,?_⟩
 have m:=Mem.refl w
 go_enter Tryz.func119,Tryz.ntmps119
 refine c_seq fun K1 k1=>wp_region_lit (mboxA m rfl ?_)
 clear m; intro g1 u m
 simp only [ev,zD,zE,zF,zG]
 refine mboxA m rfl ?_
 clear m; intro g2 u m
 simp only [ev,zD,zE,zF,zG]
 refine mboxA m rfl ?_
 clear m; intro g3 u m
 simp only [ev,zD,zE,zF,zG]
 refine mboxA m rfl ?_
 clear m; intro g4 u m
 refine n_val (r_assign) (n_nil (k1 _ _ ?_))
 refine c_seq fun K2 k2=>wp_region_lit ?_
 simp only [ev,zD,zE,zF,zG]
 refine n_load rfl ((m.b 3 rfl).full agg_28 cells_28) ?_
 simp only [ev,zD,zE,zF,zG]
 refine n_load rfl ((m.b 2 rfl).full agg_28 cells_28) ?_
 simp only [ev,zD,zE,zF,zG]
 refine n_load rfl ((m.b 1 rfl).full agg_28 cells_28) ?_
 simp only [ev,zD,zE,zF,zG]
 refine n_val (r_build_59_0_1_2 rfl rfl rfl) ?_
 simp only [ev,zD,zE,zF,zG]
 refine n_load rfl ((m.b 3 rfl).full agg_28 cells_28) ?_
 simp only [ev,zD,zE,zF,zG]
 refine n_load rfl ((m.b 1 rfl).full agg_28 cells_28) ?_
 simp only [ev,zD,zE,zF,zG]
 refine n_load rfl ((m.b 0 rfl).full agg_28 cells_28) ?_
 simp only [ev,zD,zE,zF,zG]
 refine n_val (r_build_59_0_1_2 rfl rfl rfl) ?_
 simp only [ev,zD,zE,zF,zG]
 refine n_bs_24_2 rfl rfl ?_
 intro u g5 e hg hB; replace m:=m.newB e hg hB; clear e hg hB
 refine n_val (r_assign) (n_nil (k2 _ _ ?_))
 refine wp_ret ?_
 simp only [ev,zD,zE,zF,zG]
 try simp only [Exit.inBlock,Exit.then,if_true]
 refine fin1 rfl rfl ?_
 try simp only [zD,zE]
 exact ⟨_,rfl,m.ext,⟨_,_,_,rfl,rfl,m.bo 0 rfl rfl (leT rfl)⟩⟩
theorem Hills_c {n0 : Int} [Iw n0] {N cap : Nat} {A : Option Addr} {zs : List Int} (w : World) (hZ : IntsAt w A N zs) : Does Tryz.prog 93 [.int .i64 n0,.int .i64 10,.slice A N cap] w (TS 59 (hillsT 10 zs (1 + n0 % 6).toNat) w):=by
 refine ⟨en_93,?_⟩
 have m:=Mem.refl w
 have hb:=emod_bd (n:=n0) (m:=6) (by decide)
 obtain ⟨q,hq⟩ : ∃ q : Nat,q = (1 + n0 % 6).toNat:=⟨_,rfl⟩
 rw [← hq]
 have hq2 : 1 + n0 % 6 = (q : Int):=by omega
 go_enter Tryz.func93,Tryz.ntmps93
 refine c_seq fun K1 k1=>wp_region_lit (n_val (r_assign) (n_nil (k1 _ _ ?_)))
 refine c_seq fun K2 k2=>wp_region_lit (n_val (r_move) ?_)
 simp only [ev,zD,zE,zF,zG]
 refine mcallP m rfl rfl (r4Mod_c (n:=n0) (k:=6) (by decide) (by decide)) ?_
 clear m; intro u m
 simp only [ev,zD,zE,zF,zG]
 refine n_val (r_add rfl rfl (wrap_i64 (by omega) (by omega))) (n_val (r_assign) (n_nil ?_))
 simp only [ev,zD,zE,zF,zG]
 rw [hq2]
 refine k2 _ _ ?_
 refine c_seq fun K3 k3=>wp_region_lit (n_val (r_assign) ?_)
 replace m:=m.nilO 59 9
 refine n_nil (k3 _ _ ?_)
 refine c_seq fun K4 k4=>c_seq fun K5 k5=>wp_region_lit (n_val (r_assign) (n_nil (k5 _ _ ?_)))
 refine wp_block ?_
 simp only [ev,zD,zE,zF,zG]
 try simp only [Nat.zero_add,Nat.reduceAdd,Nat.reduceMul,Int.reduceToNat]
 refine c_loopg [7,8] [9,10,11,12,13,17,18,19,20,21,22,23,24,25,26,27,28,29,30,31,32,33,34,35,36,37,38,39,40,41,42,43,44,45,46,47,48,49,50,51,52,53,54,55,56,57] (fun n vs wl=>∃ (A1 : Option Addr) (cap1 y : Nat),vs = [.slice A1 (hillsPre 10 zs q (y) (0)).length cap1,.int .i64 (y:Int)] ∧ Mem w wl [oI 59 9 A1 (hillsPre 10 zs q (y) (0)).length cap1 ((hillsPre 10 zs q (y) (0)).flatMap triCells)] ∧ (y ≤ q) ∧ (n = q - y)) ?_ ?_
 ·
  apply Exists.intro
  simp only [zQ,zR,zD,zE]
  exact ⟨none,0,0,rfl,m,Nat.zero_le _,rfl⟩
 ·
  intro n vs wr hI u
  clear m
  obtain ⟨A1,cap1,y,rfl,m,hy,hn⟩:=hI
  simp only [setG_cons,setG_nil,setMany_cons,setMany_nil,zF,zG]
  refine c_seq fun K6 k6=>c_seq fun K7 k7=>wp_region_lit (n_val (r_move) (n_val (r_move) (n_val (r_lss rfl rfl) (n_nil (k7 _ _ ?_)))))
  simp only [ev,zD,zE,zF,zG]
  refine c_if rfl (fun hc1=>?_) (fun hc1=>?_)
  ·
   refine wp_skip (k6 _ _ ?_)
   refine c_seq fun K8 k8=>wp_block (c_seq fun K9 k9=>wp_region_lit (n_val (r_assign) (n_nil (k9 _ _ ?_))))
   refine wp_block ?_
   simp only [ev,zD,zE,zF,zG]
   try simp only [Nat.zero_add,Nat.reduceAdd,Nat.reduceMul,Int.reduceToNat]
   refine c_loopg [7,9] [10,11,12,13,22,23,24,25,26,27,28,29,30,31,32,33,34,35,36,37,38,39,40,41,42,43,44,45,46,47,48,49,50,51,52,53,54,55,56,57] (fun n vs wl=>∃ (A1 : Option Addr) (cap1 x : Nat),vs = [.slice A1 (hillsPre 10 zs q (y) (x)).length cap1,.int .i64 (x:Int)] ∧ Mem w wl [oI 59 9 A1 (hillsPre 10 zs q (y) (x)).length cap1 ((hillsPre 10 zs q (y) (x)).flatMap triCells)] ∧ (x ≤ q) ∧ (n = q - x)) ?_ ?_
   ·
    apply Exists.intro
    simp only [zQ,zR,zD,zE]
    exact ⟨_,_,0,rfl,m,Nat.zero_le _,rfl⟩
   ·
    intro n vs wr hI u
    clear m
    obtain ⟨A1,cap1,x,rfl,m,hx,hn2⟩:=hI
    simp only [setG_cons,setG_nil,setMany_cons,setMany_nil,zF,zG]
    refine c_seq fun K10 k10=>c_seq fun K11 k11=>wp_region_lit (n_val (r_move) (n_val (r_move) (n_val (r_lss rfl rfl) (n_nil (k11 _ _ ?_)))))
    simp only [ev,zD,zE,zF,zG]
    refine c_if rfl (fun hc2=>?_) (fun hc2=>?_)
    ·
     refine wp_skip (k10 _ _ ?_)
     refine c_seq fun K12 k12=>wp_block (c_seq fun K13 k13=>wp_region_lit (n_val (r_move) (n_val (r_move) (n_val (r_move) (n_val (r_move) ?_)))))
     simp only [ev,zD,zE,zF,zG]
     refine mcall m rfl rfl (hill_c (x:=x) (y:=y) _ (hZ.ext m.ext) (by omega) (by omega)) ?_
     clear m; rintro v u m rfl
     simp only [ev,zD,zE,zF,zG]
     refine malloc m zero_28 rfl ?_
     clear m; intro g1 u m
     simp only [ev,zD,zE,zF,zG]
     refine mstoreA m 0 rfl rfl rfl cells_28 (leT rfl) rfl ?_
     clear m; intro u m; simp only [over,zH,zI,zJ,zK,zL,zM,zN,zO,zP,zF,zG,Nat.reduceAdd] at m
     refine n_nil (k13 _ _ ?_)
     refine c_seq fun K14 k14=>wp_region_lit (n_val (r_move) ?_)
     simp only [ev,zD,zE,zF,zG]
     refine n_val (r_add rfl rfl (wrap_i64 (by omega) (by omega))) (n_val (r_move) (n_val (r_move) (n_val (r_move) ?_)))
     simp only [ev,zD,zE,zF,zG]
     refine mcall m rfl rfl (hill_c (x:=x + 1) (y:=y) _ (hZ.ext m.ext) (by omega) (by omega)) ?_
     clear m; rintro v u m rfl
     simp only [ev,zD,zE,zF,zG]
     refine malloc m zero_28 rfl ?_
     clear m; intro g2 u m
     simp only [ev,zD,zE,zF,zG]
     refine mstoreA m 0 rfl rfl rfl cells_28 (leT rfl) rfl ?_
     clear m; intro u m; simp only [over,zH,zI,zJ,zK,zL,zM,zN,zO,zP,zF,zG,Nat.reduceAdd] at m
     refine n_nil (k14 _ _ ?_)
     refine c_seq fun K15 k15=>wp_region_lit (n_val (r_move) ?_)
     simp only [ev,zD,zE,zF,zG]
     refine n_val (r_add rfl rfl (wrap_i64 (by omega) (by omega))) (n_val (r_move) ?_)
     simp only [ev,zD,zE,zF,zG]
     refine n_val (r_add rfl rfl (wrap_i64 (by omega) (by omega))) (n_val (r_move) (n_val (r_move) ?_))
     simp only [ev,zD,zE,zF,zG]
     refine mcall m rfl rfl (hill_c (x:=x + 1) (y:=y + 1) _ (hZ.ext m.ext) (by omega) (by omega)) ?_
     clear m; rintro v u m rfl
     simp only [ev,zD,zE,zF,zG]
     refine malloc m zero_28 rfl ?_
     clear m; intro g3 u m
     simp only [ev,zD,zE,zF,zG]
     refine mstoreA m 0 rfl rfl rfl cells_28 (leT rfl) rfl ?_
     clear m; intro u m; simp only [over,zH,zI,zJ,zK,zL,zM,zN,zO,zP,zF,zG,Nat.reduceAdd] at m
     refine n_nil (k15 _ _ ?_)
     refine c_seq fun K16 k16=>wp_region_lit (n_val (r_move) (n_val (r_move) ?_))
     simp only [ev,zD,zE,zF,zG]
     refine n_val (r_add rfl rfl (wrap_i64 (by omega) (by omega))) (n_val (r_move) (n_val (r_move) ?_))
     simp only [ev,zD,zE,zF,zG]
     refine mcall m rfl rfl (hill_c (x:=x) (y:=y + 1) _ (hZ.ext m.ext) (by omega) (by omega)) ?_
     clear m; rintro v u m rfl
     simp only [ev,zD,zE,zF,zG]
     refine malloc m zero_28 rfl ?_
     clear m; intro g4 u m
     simp only [ev,zD,zE,zF,zG]
     refine mstoreA m 0 rfl rfl rfl cells_28 (leT rfl) rfl ?_
     clear m; intro u m; simp only [over,zH,zI,zJ,zK,zL,zM,zN,zO,zP,zF,zG,Nat.reduceAdd] at m
     refine n_nil (k16 _ _ ?_)
     refine wp_region_lit (n_val (r_move) ?_)
     simp only [ev,zD,zE,zF,zG]
     refine n_load rfl ((m.b 3 rfl).full agg_28 cells_28) ?_
     simp only [ev,zD,zE,zF,zG]
     refine n_load rfl ((m.b 2 rfl).full agg_28 cells_28) ?_
     simp only [ev,zD,zE,zF,zG]
     refine n_load rfl ((m.b 1 rfl).full agg_28 cells_28) ?_
     simp only [ev,zD,zE,zF,zG]
     refine n_load rfl ((m.b 0 rfl).full agg_28 cells_28) ?_
     simp only [ev,zD,zE,zF,zG]
     refine n_call rfl rfl (quad_c (a:=hillP 10 zs x y) (b:=hillP 10 zs (x + 1) y) (c:=hillP 10 zs (x + 1) (y + 1)) (d:=hillP 10 zs x (y + 1)) _) ?_
     rintro v u e ⟨A2,cap2,_,rfl,rfl,hN⟩; replace m:=m.newO e hN; clear e hN
     simp only [ev,zD,zE,zF,zG]
     refine mappend m 5 rfl rfl Tryz.underlying24 inf_59 rfl (by decide) rfl rfl (m.o 0 rfl).own.1 (m.o 0 rfl).row (tris_one _) (by have:=hillsPre_le (s:=10) (zs:=zs) (n:=q) (y:=y) (x:=x) (by omega) (by omega) (by omega); show _ + 2 ≤ _; omega) (by have:=hillsPre_le (s:=10) (zs:=zs) (n:=q) (y:=y) (x:=x) (by omega) (by omega) (by omega); show (_ + 2) * 72 ≤ _; omega) ?_
     clear m; intro A1 cap1 u m; simp only [zF,zG] at m
     rw [hp_cells,hp_len] at m
     rw [hp_len]
     refine n_val (r_assign) (n_nil (k12 _ _ ?_))
     refine wp_region_lit (n_val (r_move) ?_)
     simp only [ev,zD,zE,zF,zG]
     refine n_val (r_add rfl rfl (wrap_i64 (by omega) (by omega))) (n_val (r_assign) (n_nil ?_))
     simp only [ev,zD,zE,zF,zG]
     simp only [Exit.inBlock,Exit.then]
     refine ⟨q - (x + 1),_,?_,rfl,?_,?_⟩
     · omega
     · simp only [zQ,zR,zD,zE,setG_cons,setG_nil,setMany_cons,setMany_nil,zF,zG]
     ·
      simp only [zQ,zR,zD,zE]
      exact ⟨_,_,x + 1,rfl,(m.sel [false,false,false,false,false,true]),by omega,rfl⟩
    ·
     have hxq : x = q:=by omega
     rw [hxq,hillsPre_row] at m ⊢
     refine wp_exit (k8 _ _ ?_)
     refine wp_region_lit (n_val (r_move) ?_)
     simp only [ev,zD,zE,zF,zG]
     refine n_val (r_add rfl rfl (wrap_i64 (by omega) (by omega))) (n_val (r_assign) (n_nil ?_))
     simp only [ev,zD,zE,zF,zG]
     simp only [Exit.inBlock,Exit.then]
     refine ⟨q - (y + 1),_,?_,rfl,?_,?_⟩
     · omega
     · simp only [zQ,zR,zD,zE,setG_cons,setG_nil,setMany_cons,setMany_nil,zF,zG]
     ·
      simp only [zQ,zR,zD,zE]
      exact ⟨_,_,y + 1,rfl,m,by omega,rfl⟩
  ·
   have hyq : y = q:=by omega
   rw [hyq,hillsPre_end] at m ⊢
   refine wp_exit (k4 _ _ ?_)
   refine c_seq fun K17 k17=>wp_region_lit (n_val (r_move) (n_val (r_assign) (n_nil (k17 _ _ ?_))))
   refine wp_ret ?_
   simp only [ev,zD,zE,zF,zG]
   try simp only [Exit.inBlock,Exit.then,if_true]
   refine fin1 rfl rfl ?_
   try simp only [zD,zE]
   exact ⟨_,rfl,m.ext,⟨_,_,_,rfl,rfl,(m.o 0 rfl)⟩⟩
end Go.Proofs.YtmcgcnpgkkfkoaaGreatDoor
namespace Go.Proofs.YtmcgcnpgkkfkoaaGreatDoor
open Go.RowKit Go.Lith
set_option maxRecDepth 100000
attribute [local irreducible] wpList wpQuiet wpMix wpMixH wpTree Code.wp
theorem Spoiled_c {ts : List T3} {q0 q1 q2 : Int} [Iw q0] [Iw q1] [Iw q2] {N cap : Nat} {A : Option Addr} (w : World) (hT : TrisAt w A N ts) (hN : N ≤ 100000) : Does Tryz.prog 40 [.slice A N cap,.agg #[.int .i64 q0,.int .i64 q1,.int .i64 q2]] w (fun v w'=>∃ us,TS 59 us w v w' ∧ SubT us ts ∧ us.length ≤ ts.length + 1):=by
 refine ⟨en_40,?_⟩
 have m:=Mem.refl w
 obtain rfl : ts.length = N:=hT.len
 go_enter Tryz.func40,Tryz.ntmps40
 refine c_seq fun K1 k1=>wp_region_lit (mboxA m rfl ?_)
 clear m; intro g1 u m
 refine n_val (r_assign) (n_nil (k1 _ _ ?_))
 refine c_seq fun K2 k2=>wp_region_lit ?_
 simp only [ev,zD,zE,zF,zG]
 refine n_build0 Tryz.underlying24 (c:=9) (by kernel_rfl)  ?_
 intro u g2 e hg hB; replace m:=m.newB e hg hB; clear e hg hB
 simp only [ev,zD,zE,zF,zG]
 replace m:=m.own 0 rfl (n:=0) (c:=9) rfl (leT rfl); simp only [zG] at m
 refine n_val (r_move) ?_
 simp only [ev,zD,zE,zF,zG]
 refine mappend m 0 rfl rfl Tryz.underlying24 inf_59 rfl (by decide) rfl rfl (by rw [tri_len,hT.len]) (TrisAt.cells (hT.ext m.ext)) (tris_one _) (by omega) (by omega) ?_
 clear m; intro A1 cap1 u m; simp only [zF,zG] at m
 rw [List.nil_append,Nat.zero_add] at m
 rw [Nat.zero_add]
 refine n_val (r_assign) (n_nil (k2 _ _ ?_))
 refine c_seq fun K3 k3=>c_seq fun K4 k4=>wp_region_lit (n_val (r_move) (n_val (r_lenS rfl Tryz.underlying24 rfl) ?_))
 simp only [ev,zD,zE,zF,zG]
 refine n_val (r_eql rfl rfl) (n_nil (k4 _ _ ?_))
 simp only [ev,zD,zE,zF,zG]
 refine c_if rfl (fun hc1=>?_) (fun hc1=>?_)
 ·
  refine c_seq fun K5 k5=>wp_region_lit (n_val (r_move) (n_val (r_assign) (n_nil (k5 _ _ ?_))))
  refine wp_ret ?_
  simp only [ev,zD,zE,zF,zG]
  try simp only [Exit.inBlock,Exit.then,if_true]
  refine fin1 rfl rfl ?_
  try simp only [zD,zE]
  exact ⟨_,rfl,m.ext,ts,⟨_,_,_,by simp,rfl,(m.o 0 rfl)⟩,SubT.refl ts,by simp⟩
 ·
  have hpos : 0 < ts.length:=by omega
  obtain ⟨gO,rfl⟩:=(m.o 0 rfl).some hpos
  obtain ⟨k,hk,hkl⟩:=mod_nat (q:=q1) hpos
  obtain ⟨j,hj,hjl⟩:=mod_nat (q:=q2) hpos
  obtain ⟨t,htk⟩:=get_lt hkl
  obtain ⟨t2,htj⟩:=get_lt hjl
  have hle:=(m.o 0 rfl).le
  refine wp_skip (k3 _ _ ?_)
  refine c_seq fun K6 k6=>wp_region_lit (n_val (r_indexAddrA Tryz.underlying23 cells_3 rfl rfl (by decide) (by decide) rfl) ?_)
  simp only [ev,zD,zE,zF,zG]
  refine n_load rfl ((m.b 1 rfl).lies1 agg_3 rfl) ?_
  simp only [ev,zD,zE,zF,zG]
  refine n_val (r_move) (n_val (r_lenS rfl Tryz.underlying24 rfl) ?_)
  simp only [ev,zD,zE,zF,zG]
  refine mcallP m rfl rfl (r4Mod_c (n:=q1) (k:=(ts.length : Int)) (by omega) (by omega)) ?_
  clear m; intro u m
  refine n_val (r_assign) (n_nil ?_)
  simp only [ev,zD,zE,zF,zG]
  rw [hk]
  refine k6 _ _ ?_
  refine c_seq fun K7 k7=>wp_region_lit (n_val (r_indexAddrA Tryz.underlying23 cells_3 rfl rfl (by decide) (by decide) rfl) ?_)
  simp only [ev,zD,zE,zF,zG]
  refine n_load rfl ((m.b 1 rfl).lies1 agg_3 rfl) ?_
  simp only [ev,zD,zE,zF,zG]
  refine n_val (r_move) (n_val (r_lenS rfl Tryz.underlying24 rfl) ?_)
  simp only [ev,zD,zE,zF,zG]
  refine mcallP m rfl rfl (r4Mod_c (n:=q2) (k:=(ts.length : Int)) (by omega) (by omega)) ?_
  clear m; intro u m
  refine n_val (r_assign) (n_nil ?_)
  simp only [ev,zD,zE,zF,zG]
  rw [hj]
  refine k7 _ _ ?_
  refine c_seq fun K8 k8=>wp_region_lit (n_val (r_move) (n_val (r_move) ?_))
  simp only [ev,zD,zE,zF,zG]
  refine n_val (r_indexAddrS Tryz.underlying24 cells_59 rfl rfl (by omega) (by omega) (addrN (Int.toNat_natCast _))) ?_
  simp only [ev,zD,zE,zF,zG]
  refine n_load rfl (((m.o 0 rfl).tri htk).lies agg_59 cells_59) ?_
  simp only [ev,zD,zE,zF,zG]
  refine malloc m zero_59 rfl ?_
  clear m; intro g3 u m
  simp only [ev,zD,zE,zF,zG]
  refine mstoreA m 0 rfl rfl rfl cells_59 (leT rfl) rfl ?_
  clear m; intro u m; simp only [over,zH,zI,zJ,zK,zL,zM,zN,zO,zP,zF,zG,Nat.reduceAdd] at m
  refine n_nil (k8 _ _ ?_)
  refine c_seq fun K9 k9=>c_seq fun K10 k10=>wp_region_lit (n_val (r_indexAddrA Tryz.underlying23 cells_3 rfl rfl (by decide) (by decide) rfl) ?_)
  simp only [ev,zD,zE,zF,zG]
  refine n_load rfl ((m.b 2 rfl).lies1 agg_3 rfl) ?_
  simp only [ev,zD,zE,zF,zG]
  refine mcallP m rfl rfl (r4Mod_c (n:=q0) (k:=12) (by decide) (by decide)) ?_
  clear m; intro u m
  refine n_nil (k10 _ _ ?_)
  refine wp_block (c_seq fun K11 k11=>wp_region_lit (n_val (r_eql rfl rfl) (n_val (r_assign) (n_nil (k11 _ _ ?_)))))
  simp only [ev,zD,zE,zF,zG]
  refine c_if rfl (fun hc2=>?_) (fun hc2=>?_)
  ·
   refine c_seq fun K12 k12=>wp_region_lit (n_val (r_assign) ?_)
   replace m:=m.nilO 59 9
   refine n_nil (k12 _ _ ?_)
   refine c_seq fun K13 k13=>wp_region_lit (n_val (r_move) (n_val (r_move) (n_val (r_move) ?_)))
   simp only [ev,zD,zE,zF,zG]
   refine n_val (r_sliceHi Tryz.underlying24 cells_59 rfl rfl (Int.toNat_natCast _) (by omega) (by omega)) ?_
   simp only [ev,zD,zE,zF,zG]
   refine mappend m 0 rfl rfl Tryz.underlying24 inf_59 rfl (by decide) rfl rfl ((m.o 2 rfl).takeT (Nat.le_of_lt hkl)).own.1 ((m.o 2 rfl).takeT (Nat.le_of_lt hkl)).row (tris_one _) (by omega) (by omega) ?_
   clear m; intro A2 cap2 u m; simp only [zF,zG] at m
   rw [List.nil_append,Nat.zero_add] at m
   rw [Nat.zero_add]
   refine n_val (r_assign) (n_nil (k13 _ _ ?_))
   refine wp_region_lit (n_val (r_move) (n_val (r_move) ?_))
   simp only [ev,zD,zE,zF,zG]
   refine n_val (r_move) ?_
   simp only [ev,zD,zE,zF,zG]
   refine n_val (r_add rfl rfl (wrap_i64 (by omega) (by omega))) ?_
   simp only [ev,zD,zE,zF,zG]
   refine n_val (r_sliceLo Tryz.underlying24 cells_59 rfl rfl (show _ = k + 1 by omega) (by omega) (by omega) rfl) ?_
   simp only [ev,zD,zE,zF,zG]
   refine mappend m 0 rfl rfl Tryz.underlying24 inf_59 rfl (by decide) rfl rfl (by rw [tri_len,List.length_drop]) (m.o 2 rfl).dropRow (tris_one _) (by omega) (by omega) ?_
   clear m; intro A2 cap2 u m; simp only [zF,zG] at m
   rw [← List.flatMap_append] at m
   refine n_val (r_assign) (n_nil (k9 _ _ ?_))
   refine c_seq fun K14 k14=>wp_region_lit (n_val (r_move) (n_val (r_assign) ?_))
   simp only [ev,zD,zE,zF,zG]
   refine n_nil (k14 _ _ ?_)
   refine wp_ret ?_
   try simp only [Exit.inBlock,Exit.then,if_true]
   refine fin1 rfl rfl ?_
   try simp only [zD,zE]
   exact ⟨_,rfl,m.ext,ts.take k ++ ts.drop (k + 1),⟨_,_,_,by simp; omega,rfl,(m.o 0 rfl)⟩,SubT.of_sub (fun u hu=>(List.mem_append.1 hu).elim List.mem_of_mem_take List.mem_of_mem_drop),by simp; omega⟩
  ·
   refine c_seq fun K15 k15=>wp_region_lit (n_val (r_eql rfl rfl) (n_val (r_assign) (n_nil (k15 _ _ ?_))))
   simp only [ev,zD,zE,zF,zG]
   refine c_if rfl (fun hc3=>?_) (fun hc3=>?_)
   ·
    refine wp_region_lit (n_val (r_move) (n_val (r_move) (n_val (r_indexAddrA Tryz.underlying59 cells_28 rfl rfl (by decide) (by decide) rfl) ?_)))
    simp only [ev,zD,zE,zF,zG]
    refine n_load rfl ((m.b 0 rfl).lies agg_28 cells_28 rfl rfl) ?_
    simp only [ev,zD,zE,zF,zG,zH,zI,zJ,zK,Nat.zero_add,Nat.reduceAdd,Nat.reduceMul,Int.reduceToNat]
    refine n_val (r_indexAddrA Tryz.underlying59 cells_28 rfl rfl (by decide) (by decide) rfl) ?_
    simp only [ev,zD,zE,zF,zG]
    refine n_load rfl ((m.b 0 rfl).lies agg_28 cells_28 rfl rfl) ?_
    simp only [ev,zD,zE,zF,zG,zH,zI,zJ,zK,Nat.zero_add,Nat.reduceAdd,Nat.reduceMul,Int.reduceToNat]
    refine n_val (r_indexAddrA Tryz.underlying59 cells_28 rfl rfl (by decide) (by decide) rfl) ?_
    simp only [ev,zD,zE,zF,zG]
    refine n_load rfl ((m.b 0 rfl).lies agg_28 cells_28 rfl rfl) ?_
    simp only [ev,zD,zE,zF,zG,zH,zI,zJ,zK,Nat.zero_add,Nat.reduceAdd,Nat.reduceMul,Int.reduceToNat]
    refine n_val (r_build_59_0_1_2 rfl rfl rfl) ?_
    simp only [ev,zD,zE,zF,zG]
    refine n_val (r_indexAddrS Tryz.underlying24 cells_59 rfl rfl (by omega) (by omega) (addrBN (Int.toNat_natCast _))) ?_
    simp only [ev,zD,zE,zF,zG]
    refine mstoreO m 1 rfl rfl rfl cells_59 (by simp only [List.length_cons,List.length_nil,Nat.zero_add,Nat.reduceAdd,Int.reduceToNat,Nat.reduceMul]; omega) rfl ?_
    clear m; intro u m; simp only [zF,zG] at m
    try simp only [Nat.zero_add] at m
    rw [show over (ts.flatMap triCells) (k * 9) [.int .i64 t.a.x,.int .i64 t.a.y,.int .i64 t.a.z,.int .i64 t.c.x,.int .i64 t.c.y,.int .i64 t.c.z,.int .i64 t.b.x,.int .i64 t.b.y,.int .i64 t.b.z] = (ts.set k (⟨t.a,t.c,t.b⟩ : T3)).flatMap triCells from flat_set (u:=(⟨t.a,t.c,t.b⟩ : T3)) htk] at m
    refine n_nil (k9 _ _ ?_)
    refine c_seq fun K16 k16=>wp_region_lit (n_val (r_move) (n_val (r_assign) (n_nil (k16 _ _ ?_))))
    refine wp_ret ?_
    simp only [ev,zD,zE,zF,zG]
    try simp only [Exit.inBlock,Exit.then,if_true]
    refine fin1 rfl rfl ?_
    try simp only [zD,zE]
    exact ⟨_,rfl,m.ext,ts.set k (⟨t.a,t.c,t.b⟩ : T3),⟨_,_,_,by simp,rfl,(m.o 1 rfl)⟩,(SubT.refl ts).set (pts_a htk) (pts_c htk) (pts_b htk),by simp⟩
   ·
    refine c_seq fun K17 k17=>wp_region_lit (n_val (r_eql rfl rfl) (n_val (r_assign) (n_nil (k17 _ _ ?_))))
    simp only [ev,zD,zE,zF,zG]
    refine c_if rfl (fun hc4=>?_) (fun hc4=>?_)
    ·
     refine wp_region_lit (n_val (r_move) (n_val (r_move) (n_val (r_move) ?_)))
     simp only [ev,zD,zE,zF,zG]
     refine n_val (r_indexAddrS Tryz.underlying24 cells_59 rfl rfl (by omega) (by omega) (addrN (Int.toNat_natCast _))) ?_
     simp only [ev,zD,zE,zF,zG]
     refine n_load rfl (((m.o 1 rfl).tri htj).lies agg_59 cells_59) ?_
     simp only [ev,zD,zE,zF,zG]
     refine n_bs_24_1 rfl ?_
     intro u g4 e hg hB; replace m:=m.newB e hg hB; clear e hg hB
     simp only [ev,zD,zE,zF,zG]
     refine mappend m 2 rfl rfl Tryz.underlying24 inf_59 rfl (by decide) rfl rfl rfl (m.b 0 rfl).rowsO (allT rfl) (by omega) (by omega) ?_
     clear m; intro A1 cap1 u m; simp only [zF,zG] at m
     rw [show ts.flatMap triCells ++ [.int .i64 t2.a.x,.int .i64 t2.a.y,.int .i64 t2.a.z,.int .i64 t2.b.x,.int .i64 t2.b.y,.int .i64 t2.b.z,.int .i64 t2.c.x,.int .i64 t2.c.y,.int .i64 t2.c.z] = (ts ++ [t2]).flatMap triCells by rw [List.flatMap_append]; rfl] at m
     refine n_val (r_assign) (n_nil (k9 _ _ ?_))
     refine c_seq fun K18 k18=>wp_region_lit (n_val (r_move) (n_val (r_assign) ?_))
     simp only [ev,zD,zE,zF,zG]
     refine n_nil (k18 _ _ ?_)
     refine wp_ret ?_
     try simp only [Exit.inBlock,Exit.then,if_true]
     refine fin1 rfl rfl ?_
     try simp only [zD,zE]
     exact ⟨_,rfl,m.ext,ts ++ [t2],⟨_,_,_,by simp,rfl,(m.o 2 rfl)⟩,(SubT.refl ts).app (SubT.of_sub (fun u hu=>by rw [List.mem_singleton.1 hu]; exact List.mem_of_getElem? htj)),by simp⟩
    ·
     refine c_seq fun K19 k19=>wp_region_lit (n_val (r_eql rfl rfl) (n_val (r_assign) (n_nil (k19 _ _ ?_))))
     simp only [ev,zD,zE,zF,zG]
     refine c_if rfl (fun hc5=>?_) (fun hc5=>?_)
     ·
      refine mq_tail m 9 follows_mixed (by kernel_rfl) ?_
      simp only [zH,zI,zJ,zK]
      refine q_val (r_move) (q_val (r_move) (q_val (r_move) (q_val (r_move) ?_)))
      simp only [ev,zD,zE,zF,zG]
      refine q_val (r_indexAddrS Tryz.underlying24 cells_59 rfl rfl (by omega) (by omega) (addrN (Int.toNat_natCast _))) (q_val (r_indexAddrA Tryz.underlying59 cells_28 rfl rfl (by decide) (by decide) rfl) ?_)
      simp only [ev,zD,zE,zF,zG]
      refine ql rfl (fun u m=>((((m.o 1 rfl).tri htj).cor (c:=1) (by decide)).lies agg_28 cells_28)) ?_
      simp only [ev,zD,zE,zF,zG]
      refine q_val (r_indexAddrS Tryz.underlying24 cells_59 rfl rfl (by omega) (by omega) (addrBN (Int.toNat_natCast _))) (q_val (r_indexAddrA Tryz.underlying59 cells_28 rfl rfl (by decide) (by decide) rfl) (q_nil ?_))
      clear m; intro u m
      simp only [ev,zD,zE,zF,zG]
      refine mstoreO m 1 rfl rfl rfl cells_28 (by simp only [List.length_cons,List.length_nil,Nat.zero_add,Nat.reduceAdd,Int.reduceToNat,Nat.reduceMul]; omega) rfl ?_
      clear m; intro u m; simp only [zF,zG] at m
      try simp only [Nat.zero_add] at m
      rw [flat_cor0 (p:=t2.cor 1) htk] at m
      refine n_nil (k9 _ _ ?_)
      refine c_seq fun K20 k20=>wp_region_lit (n_val (r_move) (n_val (r_assign) (n_nil (k20 _ _ ?_))))
      refine wp_ret ?_
      simp only [ev,zD,zE,zF,zG]
      try simp only [Exit.inBlock,Exit.then,if_true]
      refine fin1 rfl rfl ?_
      try simp only [zD,zE]
      exact ⟨_,rfl,m.ext,ts.set k (t.setC 0 (t2.cor 1)),⟨_,_,_,by simp,rfl,(m.o 1 rfl)⟩,set_cor_sub (SubT.refl ts) htk (pts_b htj),by simp⟩
     ·
      refine c_seq fun K21 k21=>wp_region_lit (n_val (r_eql rfl rfl) (n_val (r_assign) (n_nil (k21 _ _ ?_))))
      simp only [ev,zD,zE,zF,zG]
      refine c_if rfl (fun hc6=>?_) (fun hc6=>?_)
      ·
       refine mq_tail m 6 follows_mixed (by kernel_rfl) ?_
       simp only [zH,zI,zJ,zK]
       refine q_val (r_move) (q_val (r_move) (q_val (r_indexAddrA Tryz.underlying59 cells_28 rfl rfl (by decide) (by decide) rfl) ?_))
       simp only [ev,zD,zE,zF,zG]
       refine ql rfl (fun u m=>((m.b 0 rfl).lies agg_28 cells_28 rfl rfl)) ?_
       simp only [ev,zD,zE,zF,zG,zH,zI,zJ,zK,Nat.zero_add,Nat.reduceAdd,Nat.reduceMul,Int.reduceToNat]
       refine q_val (r_indexAddrS Tryz.underlying24 cells_59 rfl rfl (by omega) (by omega) (addrBN (Int.toNat_natCast _))) (q_val (r_indexAddrA Tryz.underlying59 cells_28 rfl rfl (by decide) (by decide) rfl) (q_nil ?_))
       clear m; intro u m
       simp only [ev,zD,zE,zF,zG]
       refine mstoreO m 1 rfl rfl rfl cells_28 (by simp only [List.length_cons,List.length_nil,Nat.zero_add,Nat.reduceAdd,Int.reduceToNat,Nat.reduceMul]; omega) rfl ?_
       clear m; intro u m; simp only [zF,zG] at m
       try simp only [Nat.zero_add,Int.reduceToNat,Nat.reduceMul] at m
       rw [flat_cor1 (p:=t.a) htk] at m
       refine n_nil (k9 _ _ ?_)
       refine c_seq fun K22 k22=>wp_region_lit (n_val (r_move) (n_val (r_assign) (n_nil (k22 _ _ ?_))))
       refine wp_ret ?_
       simp only [ev,zD,zE,zF,zG]
       try simp only [Exit.inBlock,Exit.then,if_true]
       refine fin1 rfl rfl ?_
       try simp only [zD,zE]
       exact ⟨_,rfl,m.ext,ts.set k (t.setC 1 t.a),⟨_,_,_,by simp,rfl,(m.o 1 rfl)⟩,set_cor_sub (SubT.refl ts) htk (pts_a htk),by simp⟩
      ·
       refine c_seq fun K23 k23=>wp_region_lit (n_val (r_eql rfl rfl) (n_val (r_assign) (n_nil (k23 _ _ ?_))))
       simp only [ev,zD,zE,zF,zG]
       refine c_if rfl (fun hc7=>?_) (fun hc7=>?_)
       ·
        refine wp_region_lit (n_val (r_move) (n_val (r_indexAddrA Tryz.underlying59 cells_28 rfl rfl (by decide) (by decide) rfl) ?_))
        simp only [ev,zD,zE,zF,zG]
        refine n_load rfl ((m.b 0 rfl).lies agg_28 cells_28 rfl rfl) ?_
        simp only [ev,zD,zE,zF,zG,zH,zI,zJ,zK,Nat.zero_add,Nat.reduceAdd,Nat.reduceMul,Int.reduceToNat]
        refine n_val (r_indexAddrA Tryz.underlying59 cells_28 rfl rfl (by decide) (by decide) rfl) ?_
        simp only [ev,zD,zE,zF,zG]
        refine n_load rfl ((m.b 0 rfl).lies agg_28 cells_28 rfl rfl) ?_
        simp only [ev,zD,zE,zF,zG,zH,zI,zJ,zK,Nat.zero_add,Nat.reduceAdd,Nat.reduceMul,Int.reduceToNat]
        refine n_val (r_indexAddrA Tryz.underlying59 cells_28 rfl rfl (by decide) (by decide) rfl) ?_
        simp only [ev,zD,zE,zF,zG]
        refine n_load rfl ((m.b 0 rfl).lies agg_28 cells_28 rfl rfl) ?_
        simp only [ev,zD,zE,zF,zG,zH,zI,zJ,zK,Nat.zero_add,Nat.reduceAdd,Nat.reduceMul,Int.reduceToNat]
        refine n_val (r_build_59_0_1_2 rfl rfl rfl) ?_
        simp only [ev,zD,zE,zF,zG]
        refine n_bs_24_1 rfl ?_
        intro u g4 e hg hB; replace m:=m.newB e hg hB; clear e hg hB
        simp only [ev,zD,zE,zF,zG]
        refine mappend m 2 rfl rfl Tryz.underlying24 inf_59 rfl (by decide) rfl rfl rfl (m.b 0 rfl).rowsO (allT rfl) (by omega) (by omega) ?_
        clear m; intro A1 cap1 u m; simp only [zF,zG] at m
        rw [show ts.flatMap triCells ++ [.int .i64 t.a.x,.int .i64 t.a.y,.int .i64 t.a.z,.int .i64 t.c.x,.int .i64 t.c.y,.int .i64 t.c.z,.int .i64 t.b.x,.int .i64 t.b.y,.int .i64 t.b.z] = (ts ++ [(⟨t.a,t.c,t.b⟩ : T3)]).flatMap triCells by rw [List.flatMap_append]; rfl] at m
        refine n_val (r_assign) (n_nil (k9 _ _ ?_))
        refine c_seq fun K24 k24=>wp_region_lit (n_val (r_move) (n_val (r_assign) ?_))
        simp only [ev,zD,zE,zF,zG]
        refine n_nil (k24 _ _ ?_)
        refine wp_ret ?_
        try simp only [Exit.inBlock,Exit.then,if_true]
        refine fin1 rfl rfl ?_
        try simp only [zD,zE]
        exact ⟨_,rfl,m.ext,ts ++ [(⟨t.a,t.c,t.b⟩ : T3)],⟨_,_,_,by simp,rfl,(m.o 2 rfl)⟩,(SubT.refl ts).app (SubT.one (pts_a htk) (pts_c htk) (pts_b htk)),by simp⟩
       ·
        refine c_seq fun K25 k25=>wp_region_lit (n_val (r_eql rfl rfl) (n_val (r_assign) (n_nil (k25 _ _ ?_))))
        simp only [ev,zD,zE,zF,zG]
        refine c_if rfl (fun hc8=>?_) (fun hc8=>?_)
        ·
         refine c_seq fun K26 k26=>wp_region_lit (n_val (r_move) (n_val (r_move) ?_))
         simp only [ev,zD,zE,zF,zG]
         refine n_val (r_indexAddrS Tryz.underlying24 cells_59 rfl rfl (by omega) (by omega) (addrN (Int.toNat_natCast _))) (n_val (r_indexAddrA Tryz.underlying59 cells_28 rfl rfl (by decide) (by decide) rfl) ?_)
         simp only [ev,zD,zE,zF,zG]
         refine n_load rfl ((((m.o 1 rfl).tri htj).cor (c:=2) (by decide)).lies agg_28 cells_28) ?_
         simp only [ev,zD,zE,zF,zG]
         refine malloc m zero_28 rfl ?_
         clear m; intro g4 u m
         simp only [ev,zD,zE,zF,zG]
         refine mstoreA m 0 rfl rfl rfl cells_28 (leT rfl) rfl ?_
         clear m; intro u m; simp only [over,zH,zI,zJ,zK,zL,zM,zN,zO,zP,zF,zG,Nat.reduceAdd] at m
         refine n_nil (k26 _ _ ?_)
         refine c_seq fun K27 k27=>wp_region_lit (n_val (r_assign) (n_nil (k27 _ _ ?_)))
         refine wp_block ?_
         simp only [ev,zD,zE,zF,zG]
         try simp only [Nat.zero_add,Nat.reduceAdd,Nat.reduceMul,Int.reduceToNat]
         refine c_loopg [11] [12,109,110,111,112,113,114,115,116,117,118,119,120,121,122,123,124,125,126,127,128,129,130,131,132,133] (fun n vs wl=>∃ (us : List T3) (i : Nat),vs = [.int .i64 (i:Int)] ∧ Mem w wl [bI g4 [.int .i64 (t2.cor 2).x,.int .i64 (t2.cor 2).y,.int .i64 (t2.cor 2).z] 28,bI g3 [.int .i64 t.a.x,.int .i64 t.a.y,.int .i64 t.a.z,.int .i64 t.b.x,.int .i64 t.b.y,.int .i64 t.b.z,.int .i64 t.c.x,.int .i64 t.c.y,.int .i64 t.c.z] 59,oI 59 9 (some ⟨gO,0,none⟩) ts.length cap1 ((us).flatMap triCells),bI g1 [.int .i64 q0,.int .i64 q1,.int .i64 q2] 23] ∧ (us.length = ts.length) ∧ (SubT us ts) ∧ (i ≤ ts.length) ∧ (n = ts.length - i)) ?_ ?_
         ·
          apply Exists.intro
          simp only [zQ,zR,zD,zE]
          exact ⟨_,0,rfl,m,rfl,SubT.refl ts,Nat.zero_le _,rfl⟩
         ·
          intro n vs wr hI u
          clear m
          obtain ⟨us,i,rfl,m,hul,hsub,hi,hn⟩:=hI
          simp only [setG_cons,setG_nil,setMany_cons,setMany_nil,zF,zG]
          refine c_seq fun K28 k28=>c_seq fun K29 k29=>wp_region_lit (n_val (r_move) (n_val (r_move) (n_val (r_lenS rfl Tryz.underlying24 rfl) (n_val (r_lss rfl rfl) ?_))))
          simp only [ev,zD,zE,zF,zG]
          refine n_nil (k29 _ _ ?_)
          refine c_if rfl (fun hc9=>?_) (fun hc9=>?_)
          ·
           have hil : i < ts.length:=by omega
           refine wp_skip (k28 _ _ ?_)
           refine c_seq fun K30 k30=>wp_block (c_seq fun K31 k31=>wp_region_lit (n_val (r_assign) (n_nil (k31 _ _ ?_))))
           refine wp_block ?_
           simp only [ev,zD,zE,zF,zG]
           try simp only [Nat.zero_add,Nat.reduceAdd,Nat.reduceMul,Int.reduceToNat]
           refine c_loopg [12] [115,116,117,118,119,120,121,122,123,124,125,126,127,128,129,130,131,132,133] (fun n vs wl=>∃ (vs1 : List T3) (c : Nat),vs = [.int .i64 (c:Int)] ∧ Mem w wl [bI g4 [.int .i64 (t2.cor 2).x,.int .i64 (t2.cor 2).y,.int .i64 (t2.cor 2).z] 28,bI g3 [.int .i64 t.a.x,.int .i64 t.a.y,.int .i64 t.a.z,.int .i64 t.b.x,.int .i64 t.b.y,.int .i64 t.b.z,.int .i64 t.c.x,.int .i64 t.c.y,.int .i64 t.c.z] 59,oI 59 9 (some ⟨gO,0,none⟩) ts.length cap1 ((vs1).flatMap triCells),bI g1 [.int .i64 q0,.int .i64 q1,.int .i64 q2] 23] ∧ (vs1.length = ts.length) ∧ (SubT vs1 ts) ∧ (c ≤ 3) ∧ (n = 3 - c)) ?_ ?_
           ·
            apply Exists.intro
            simp only [zQ,zR,zD,zE]
            exact ⟨_,0,rfl,m,hul,hsub,Nat.zero_le _,rfl⟩
           ·
            intro n vs wr hI u
            clear m
            obtain ⟨vs1,c,rfl,m,hvl,hsv,hc,hn2⟩:=hI
            simp only [setG_cons,setG_nil,setMany_cons,setMany_nil,zF,zG]
            refine c_seq fun K32 k32=>c_seq fun K33 k33=>wp_region_lit (n_val (r_move) (n_val (r_lss rfl rfl) (n_nil (k33 _ _ ?_))))
            simp only [ev,zD,zE,zF,zG]
            refine c_if rfl (fun hc10=>?_) (fun hc10=>?_)
            ·
             have hc3 : c < 3:=by omega
             obtain ⟨ti,hti⟩:=get_lt (ts:=vs1) (k:=i) (by omega)
             refine wp_skip (k32 _ _ ?_)
             refine c_seq fun K34 k34=>wp_block (c_seq fun K35 k35=>mq m follows_mixed (by kernel_rfl) (q_val (r_move) (q_val (r_move) (q_val (r_move) ?_))))
             simp only [ev,zD,zE,zF,zG]
             refine q_val (r_indexAddrS Tryz.underlying24 cells_59 rfl rfl (by omega) (by omega) (addrN (Int.toNat_natCast _))) ?_
             simp only [ev,zD,zE,zF,zG]
             refine q_val (r_indexAddrA Tryz.underlying59 cells_28 rfl rfl (by omega) (by omega) (addrN (Int.toNat_natCast _))) ?_
             simp only [ev,zD,zE,zF,zG]
             refine ql rfl (fun u m=>((((m.o 2 rfl).tri hti).cor hc3).lies agg_28 cells_28)) ?_
             simp only [ev,zD,zE,zF,zG]
             refine ql rfl (fun u m=>((m.b 0 rfl).full agg_28 cells_28)) ?_
             simp only [ev,zD,zE,zF,zG]
             refine q_val (eq_eql_28 rfl rfl) (q_nil ?_)
             clear m; intro u m
             refine k35 _ _ ?_
             simp only [ev,zD,zE,zF,zG]
             refine c_if rfl (fun hc11=>?_) (fun hc11=>?_)
             ·
              refine mq_tail m 7 follows_mixed (by kernel_rfl) ?_
              simp only [zH,zI,zJ,zK]
              refine q_val (r_move) (q_val (r_move) (q_val (r_move) (q_val (r_indexAddrA Tryz.underlying59 cells_28 rfl rfl (by decide) (by decide) rfl) ?_)))
              simp only [ev,zD,zE,zF,zG]
              refine ql rfl (fun u m=>((m.b 1 rfl).lies agg_28 cells_28 rfl rfl)) ?_
              simp only [ev,zD,zE,zF,zG,zH,zI,zJ,zK,Nat.zero_add,Nat.reduceAdd,Nat.reduceMul,Int.reduceToNat]
              refine q_val (r_indexAddrS Tryz.underlying24 cells_59 rfl rfl (by omega) (by omega) (addrBN (Int.toNat_natCast _))) ?_
              simp only [ev,zD,zE,zF,zG]
              refine q_val (r_indexAddrA Tryz.underlying59 cells_28 rfl rfl (by omega) (by omega) (addrBO (Int.toNat_natCast _))) (q_nil ?_)
              clear m; intro u m
              simp only [ev,zD,zE,zF,zG]
              refine mstoreO m 2 rfl rfl rfl cells_28 (by simp only [List.length_cons,List.length_nil,Nat.zero_add,Nat.reduceAdd,Int.reduceToNat,Nat.reduceMul]; omega) rfl ?_
              clear m; intro u m; simp only [zF,zG] at m
              try simp only [Nat.zero_add] at m
              rw [flat_cor (p:=t.a) hti hc3] at m
              refine n_nil (k34 _ _ ?_)
              refine wp_region_lit (n_val (r_move) ?_)
              simp only [ev,zD,zE,zF,zG]
              refine n_val (r_add rfl rfl (wrap_i64 (by omega) (by omega))) (n_val (r_assign) (n_nil ?_))
              simp only [ev,zD,zE,zF,zG]
              simp only [Exit.inBlock,Exit.then]
              refine ⟨3 - (c + 1),_,?_,rfl,?_,?_⟩
              · omega
              · simp only [zQ,zR,zD,zE,setG_cons,setG_nil,setMany_cons,setMany_nil,zF,zG]
              ·
               simp only [zQ,zR,zD,zE]
               exact ⟨_,c + 1,rfl,m,by rw [List.length_set]; exact hvl,set_cor_sub hsv hti (pts_a htk),by omega,rfl⟩
             ·
              refine wp_skip (k34 _ _ ?_)
              refine wp_region_lit (n_val (r_move) ?_)
              simp only [ev,zD,zE,zF,zG]
              refine n_val (r_add rfl rfl (wrap_i64 (by omega) (by omega))) (n_val (r_assign) (n_nil ?_))
              simp only [ev,zD,zE,zF,zG]
              simp only [Exit.inBlock,Exit.then]
              refine ⟨3 - (c + 1),_,?_,rfl,?_,?_⟩
              · omega
              · simp only [zQ,zR,zD,zE,setG_cons,setG_nil,setMany_cons,setMany_nil,zF,zG]
              ·
               simp only [zQ,zR,zD,zE]
               exact ⟨_,c + 1,rfl,m,hvl,hsv,by omega,rfl⟩
            ·
             refine wp_exit (k30 _ _ ?_)
             refine wp_region_lit (n_val (r_move) ?_)
             simp only [ev,zD,zE,zF,zG]
             refine n_val (r_add rfl rfl (wrap_i64 (by omega) (by omega))) (n_val (r_assign) (n_nil ?_))
             simp only [ev,zD,zE,zF,zG]
             simp only [Exit.inBlock,Exit.then]
             refine ⟨ts.length - (i + 1),_,?_,rfl,?_,?_⟩
             · omega
             · simp only [zQ,zR,zD,zE,setG_cons,setG_nil,setMany_cons,setMany_nil,zF,zG]
             ·
              simp only [zQ,zR,zD,zE]
              exact ⟨_,i + 1,rfl,m,hvl,hsv,by omega,rfl⟩
          ·
           refine wp_exit (k9 _ _ ?_)
           refine c_seq fun K36 k36=>wp_region_lit (n_val (r_move) (n_val (r_assign) (n_nil (k36 _ _ ?_))))
           refine wp_ret ?_
           simp only [ev,zD,zE,zF,zG]
           try simp only [Exit.inBlock,Exit.then,if_true]
           refine fin1 rfl rfl ?_
           try simp only [zD,zE]
           exact ⟨_,rfl,m.ext,us,⟨_,_,_,hul.symm,rfl,(m.o 2 rfl)⟩,hsub,by omega⟩
        ·
         refine c_seq fun K37 k37=>wp_region_lit (n_val (r_eql rfl rfl) (n_val (r_assign) (n_nil (k37 _ _ ?_))))
         simp only [ev,zD,zE,zF,zG]
         refine c_if rfl (fun hc12=>?_) (fun hc12=>?_)
         ·
          refine wp_region_lit (n_val (r_move) (n_val (r_move) ?_))
          simp only [ev,zD,zE,zF,zG]
          refine n_val (r_add rfl rfl (wrap_i64 (by omega) (by omega))) ?_
          simp only [ev,zD,zE,zF,zG]
          refine n_val (r_sliceHi Tryz.underlying24 cells_59 rfl rfl (show _ = 1 + k by omega) (by omega) (by omega)) (n_val (r_assign) (n_nil (k9 _ _ ?_)))
          refine c_seq fun K38 k38=>wp_region_lit (n_val (r_move) (n_val (r_assign) ?_))
          simp only [ev,zD,zE,zF,zG]
          refine n_nil (k38 _ _ ?_)
          refine wp_ret ?_
          try simp only [Exit.inBlock,Exit.then,if_true]
          refine fin1 rfl rfl ?_
          try simp only [zD,zE]
          exact ⟨_,rfl,m.ext,ts.take (1 + k),⟨_,_,_,by simp; omega,rfl,(m.o 1 rfl).takeT (by omega)⟩,SubT.of_sub (fun u hu=>List.mem_of_mem_take hu),by simp; omega⟩
         ·
          refine c_seq fun K39 k39=>wp_region_lit (n_val (r_eql rfl rfl) (n_val (r_assign) (n_nil (k39 _ _ ?_))))
          simp only [ev,zD,zE,zF,zG]
          refine c_if rfl (fun hc13=>?_) (fun hc13=>?_)
          ·
           refine wp_region_lit (n_val (r_move) (n_val (r_move) (n_val (r_indexAddrA Tryz.underlying59 cells_28 rfl rfl (by decide) (by decide) rfl) ?_)))
           simp only [ev,zD,zE,zF,zG]
           refine n_load rfl ((m.b 0 rfl).lies agg_28 cells_28 rfl rfl) ?_
           simp only [ev,zD,zE,zF,zG,zH,zI,zJ,zK,Nat.zero_add,Nat.reduceAdd,Nat.reduceMul,Int.reduceToNat]
           refine n_val (r_indexAddrA Tryz.underlying59 cells_28 rfl rfl (by decide) (by decide) rfl) ?_
           simp only [ev,zD,zE,zF,zG]
           refine n_load rfl ((m.b 0 rfl).lies agg_28 cells_28 rfl rfl) ?_
           simp only [ev,zD,zE,zF,zG,zH,zI,zJ,zK,Nat.zero_add,Nat.reduceAdd,Nat.reduceMul,Int.reduceToNat]
           refine n_val (r_indexAddrA Tryz.underlying59 cells_28 rfl rfl (by decide) (by decide) rfl) ?_
           simp only [ev,zD,zE,zF,zG]
           refine n_load rfl ((m.b 0 rfl).lies agg_28 cells_28 rfl rfl) ?_
           simp only [ev,zD,zE,zF,zG,zH,zI,zJ,zK,Nat.zero_add,Nat.reduceAdd,Nat.reduceMul,Int.reduceToNat]
           refine n_val (r_build_59_0_1_2 rfl rfl rfl) ?_
           simp only [ev,zD,zE,zF,zG]
           refine n_val (r_indexAddrS Tryz.underlying24 cells_59 rfl rfl (by omega) (by omega) (addrBN (Int.toNat_natCast _))) ?_
           simp only [ev,zD,zE,zF,zG]
           refine mstoreO m 1 rfl rfl rfl cells_59 (by simp only [List.length_cons,List.length_nil,Nat.zero_add,Nat.reduceAdd,Int.reduceToNat,Nat.reduceMul]; omega) rfl ?_
           clear m; intro u m; simp only [zF,zG] at m
           try simp only [Nat.zero_add] at m
           rw [show over (ts.flatMap triCells) (k * 9) [.int .i64 t.c.x,.int .i64 t.c.y,.int .i64 t.c.z,.int .i64 t.a.x,.int .i64 t.a.y,.int .i64 t.a.z,.int .i64 t.b.x,.int .i64 t.b.y,.int .i64 t.b.z] = (ts.set k (⟨t.c,t.a,t.b⟩ : T3)).flatMap triCells from flat_set (u:=(⟨t.c,t.a,t.b⟩ : T3)) htk] at m
           refine n_nil (k9 _ _ ?_)
           refine c_seq fun K40 k40=>wp_region_lit (n_val (r_move) (n_val (r_assign) (n_nil (k40 _ _ ?_))))
           refine wp_ret ?_
           simp only [ev,zD,zE,zF,zG]
           try simp only [Exit.inBlock,Exit.then,if_true]
           refine fin1 rfl rfl ?_
           try simp only [zD,zE]
           exact ⟨_,rfl,m.ext,ts.set k (⟨t.c,t.a,t.b⟩ : T3),⟨_,_,_,by simp,rfl,(m.o 1 rfl)⟩,(SubT.refl ts).set (pts_c htk) (pts_a htk) (pts_b htk),by simp⟩
          ·
           refine wp_skip (k9 _ _ ?_)
           refine c_seq fun K41 k41=>wp_region_lit (n_val (r_move) (n_val (r_assign) (n_nil (k41 _ _ ?_))))
           refine wp_ret ?_
           simp only [ev,zD,zE,zF,zG]
           try simp only [Exit.inBlock,Exit.then,if_true]
           refine fin1 rfl rfl ?_
           try simp only [zD,zE]
           exact ⟨_,rfl,m.ext,ts,⟨_,_,_,by simp,rfl,(m.o 1 rfl)⟩,SubT.refl ts,by simp⟩
end Go.Proofs.YtmcgcnpgkkfkoaaGreatDoor
namespace Go.Lith
open Go.RowKit
abbrev i64v (x : Nat) : Value:=.int .i64 (x : Int)
structure DigAt (w : World) (b : Nat) (A : Option Addr) (n cap : Nat) (xs : List Nat) : Prop where
  eq : n = xs.length
  row : ∀ (i x : Nat),xs[i]? = some x → ∃ a,A = some a ∧ a.block < b ∧ w.cell? (a.add i) = some (.int .i64 (x : Int))
  le : xs.length ≤ cap
  cap : cap ≤ 9223372036854775807
  len : xs.length ≤ 17592186044416
  digs : Digs 65536 xs
structure Base (w : World) (b : Nat) : Prop where
  h : b ≤ w.heap.size
theorem Base.ext {w w' : World} {b : Nat} (h : Base w b) (hE : Ext w w') : Base w' b:=⟨Nat.le_trans h.h hE.size⟩
theorem Base.chg {w w' : World} {b g : Nat} (h : Base w b) (hC : Chg w w' g) (_ : True:=trivial) : Base w' b:=⟨by rw [hC.size]; exact h.h⟩
theorem Base.grew {w w' : World} {b base : Nat} (h : Base w b) (hG : Grew w w' base) (_ : True:=trivial) : Base w' b:=⟨Nat.le_trans h.h hG.size⟩
theorem Ext.base {w0 w : World} (h : Ext w0 w) : ∃ b,b = w.heap.size ∧ w0.heap.size ≤ b:=⟨_,rfl,h.size⟩
theorem Base.of {w0 w : World} {b : Nat} (_ : Ext w0 w) (e : b = w.heap.size) : Base w b:=⟨Nat.le_of_eq e⟩
theorem Owns.nil_of {w0 w : World} (_ : Ext w0 w) (base : Nat) (E : TypeId) (c : Nat) : Owns w base E c (.slice none 0 0) 0 []:=Owns.nil w base E c
theorem Blk.row0 {w : World} {g : Nat} {cs : List Value} {t : TypeId} (h : Blk w g cs t) : Row w ⟨g,0,none⟩ cs:=h.row 0
section
variable {w w' : World} {b : Nat} {A : Option Addr} {n cap : Nat} {xs : List Nat}
theorem DigAt.ext (h : DigAt w b A n cap xs) (hE : Ext w w') : DigAt w' b A n cap xs :=
  ⟨h.eq,fun i x hi=>let ⟨a,e,hb,hc⟩:=h.row i x hi; ⟨a,e,hb,hE.cell hc⟩,h.le,h.cap,h.len,h.digs⟩
theorem DigAt.mono {b' : Nat} (h : DigAt w b A n cap xs) (hb : b ≤ b') : DigAt w b' A n cap xs :=
  ⟨h.eq,fun i x hi=>let ⟨a,e,h1,hc⟩:=h.row i x hi; ⟨a,e,by omega,hc⟩,h.le,h.cap,h.len,h.digs⟩
theorem DigAt.here (h : DigAt w b A n cap xs) : DigAt w w.heap.size A n cap xs :=
  ⟨h.eq,fun i x hi=>by
    obtain ⟨a,e,_,hc⟩:=h.row i x hi
    have:=World.block_lt_of_cell? _ _ hc
    rw [add_block] at this
    exact ⟨a,e,this,hc⟩,h.le,h.cap,h.len,h.digs⟩
theorem DigAt.chg {g : Nat} (h : DigAt w b A n cap xs) (hC : Chg w w' g) (hb : b ≤ g) : DigAt w' b A n cap xs :=
  ⟨h.eq,fun i x hi=>by
    obtain ⟨a,e,h1,hc⟩:=h.row i x hi
    exact ⟨a,e,h1,(hC.cell (by rw [add_block]; omega)).trans hc⟩,h.le,h.cap,h.len,h.digs⟩
theorem DigAt.grew {base : Nat} (h : DigAt w b A n cap xs) (hG : Grew w w' base) (hb : b ≤ base) : DigAt w' b A n cap xs :=
  ⟨h.eq,fun i x hi=>by
    obtain ⟨a,e,h1,hc⟩:=h.row i x hi
    exact ⟨a,e,h1,(World.cell?_of_block (hG.block _ (by rw [add_block]; omega))).trans hc⟩,h.le,h.cap,h.len,h.digs⟩
theorem DigAt.take (h : DigAt w b A n cap xs) (k : Nat) : DigAt w b A (xs.take k).length cap (xs.take k) :=
  ⟨rfl,fun i x hi=>h.row i x (by rw [List.getElem?_take] at hi; split at hi; exact hi; cases hi),Nat.le_trans (by simp; omega) h.le,h.cap,Nat.le_trans (by simp; omega) h.len,h.digs.take k⟩
theorem DigAt.as (h : DigAt w b A n cap xs) {ys : List Nat} (e : xs = ys) : DigAt w b A n cap ys:=e ▸ h
theorem DigAt.get (h : DigAt w b A n cap xs) {i : Nat} (hi : i < xs.length) : ∃ a,A = some a ∧ w.cell? (a.add i) = some (.int .i64 ((xs[i] : Nat) : Int)) ∧ xs[i] < 65536:=by
  obtain ⟨a,e,_,hc⟩:=h.row i xs[i] (List.getElem?_eq_getElem hi)
  exact ⟨a,e,hc,h.digs _ (List.getElem_mem hi)⟩
theorem DigAt.at {a : Addr} (h : DigAt w b (some a) n cap xs) {i : Nat} (hi : i < xs.length) : w.cell? (a.add i) = some (.int .i64 ((xs[i] : Nat) : Int)):=by
  obtain ⟨a',e,hc,_⟩:=h.get hi
  cases e
  exact hc
theorem DigAt.lt (h : DigAt w b A n cap xs) {i : Nat} (hi : i < xs.length) : xs[i] < 65536:=h.digs _ (List.getElem_mem hi)
theorem DigAt.nil (w : World) (b : Nat) : DigAt w b none 0 0 []:=⟨rfl,fun i x hi=>by simp at hi,Nat.le_refl _,by omega,by simp,fun x hx=>by cases hx⟩
theorem DigAt.of_blk {g : Nat} {os : List Nat} {t : TypeId} (h : Blk w g (os.map i64v) t) (hd : Digs 65536 os) (hn : n = os.length) (hl : n ≤ 17592186044416) : DigAt w w.heap.size (some ⟨g,0,none⟩) n n os :=
  ⟨hn,fun i x hi=>⟨_,rfl,h.lt,by rw [addr_add_mk,Nat.zero_add]; exact h.cell (by simp [hi])⟩,by omega,by omega,by omega,hd⟩
theorem DigAt.of_owns {base : Nat} {v : Value} {E : TypeId} (h : Owns w base E 1 v n (xs.map i64v)) (hn : n = xs.length) (hd : Digs 65536 xs) (hl : n ≤ 17592186044416) : ∃ A c,v = .slice A n c ∧ DigAt w w.heap.size A n c xs ∧ ∀ a,A = some a → base ≤ a.block:=by
  rcases h.row with ⟨rfl,rfl,hx⟩ | ⟨g,cap,rfl,hb,h1,h2,hg,hr⟩
  · obtain rfl : xs = []:=by simpa using hx
    exact ⟨none,0,rfl,DigAt.nil _ _,fun _ e=>by cases e⟩
  · exact ⟨_,cap,rfl,⟨hn,fun i x hi=>⟨_,rfl,hg,hr i _ (by simp [hi])⟩,by omega,h2,by omega,hd⟩,fun a e=>by cases e; exact hb⟩
theorem DigAt.rows (h : DigAt w b A n cap xs) : ∀ j u,(xs.map i64v)[j]? = some u → ∃ a,A = some a ∧ w.cell? (a.add j) = some u:=fun j u hj=>by
  rw [List.getElem?_map] at hj
  cases hx : xs[j]? with
  | none=>rw [hx] at hj; cases hj
  | some x =>
    rw [hx] at hj
    cases hj
    obtain ⟨a,e,_,hc⟩:=h.row j x hx
    exact ⟨a,e,hc⟩
theorem Hold.dig {S : World → Prop} (h : DigAt w b A n cap xs) (k : Hold w S) : Hold w (fun w=>DigAt w b A n cap xs ∧ S w):=⟨h,k⟩
end
theorem Owns.snoc {w : World} {b : Nat} {E : TypeId} {v : Value} {os : List Nat} {x : Nat} (h : Owns w b E 1 v (os.length + 1) (os.map i64v ++ [.int .i64 (x : Int)])) : Owns w b E 1 v (os ++ [x]).length ((os ++ [x]).map i64v):=by simpa using h
def DigRes (n : Nat) (v : Value) (w : World) : Prop:=∃ A cap,v = .slice A (digs 65536 n).length cap ∧ DigAt w w.heap.size A (digs 65536 n).length cap (digs 65536 n)
structure DigX (w : World) (g : Nat) (A : Option Addr) (n cap : Nat) (xs : List Nat) : Prop where
  dig : DigAt w w.heap.size A n cap xs
  ne : ∀ a,A = some a → a.block ≠ g
theorem DigX.ext {w w' : World} {g n cap : Nat} {A : Option Addr} {xs : List Nat} (h : DigX w g A n cap xs) (hE : Ext w w') : DigX w' g A n cap xs:=⟨(h.dig.ext hE).here,h.ne⟩
theorem DigX.chg {w w' : World} {g g' n cap : Nat} {A : Option Addr} {xs : List Nat} (h : DigX w g A n cap xs) (hC : Chg w w' g') (e : g' = g) : DigX w' g A n cap xs:=by
  subst e
  refine ⟨⟨h.dig.eq,fun i x hi=>?_,h.dig.le,h.dig.cap,h.dig.len,h.dig.digs⟩,h.ne⟩
  obtain ⟨a,ea,hb,hc⟩:=h.dig.row i x hi
  exact ⟨a,ea,by rw [hC.size]; exact hb,(hC.cell (by rw [add_block]; exact h.ne a ea)).trans hc⟩
theorem DigX.of_trim {w : World} {b g n cap : Nat} {A : Option Addr} {xs ys : List Nat} (h : DigAt w b A n cap xs) (e : trim xs = ys) (hne : ∀ a,A = some a → a.block ≠ g) : DigX w g A ys.length cap ys:=by
  refine ⟨?_,hne⟩
  have:=(h.take (trim xs).length).here
  rw [← trim_eq_take,e] at this
  exact this
theorem DigRes.of_trim {w : World} {b : Nat} {A : Option Addr} {xs : List Nat} {k cap n : Nat} (h : DigAt w b A k cap xs) (hv : val 65536 xs = n) : DigRes n (.slice A (trim xs).length cap) w:=by
  have e : trim xs = digs 65536 n:=trim_eq_digs (by omega) h.digs hv
  refine ⟨A,cap,by rw [e],?_⟩
  rw [← e]
  have:=(h.take (trim xs).length).here
  rwa [← trim_eq_take] at this
theorem DigRes.self {w : World} {b : Nat} {A : Option Addr} {xs : List Nat} {k cap : Nat} (h : DigAt w b A k cap xs) (t : Trimmed xs) : DigRes (val 65536 xs) (.slice A k cap) w:=by
  have e : xs = digs 65536 (val 65536 xs):=by rw [← trim_eq_digs (by omega) h.digs rfl,t]
  refine ⟨A,cap,by rw [h.eq,← e],?_⟩
  rw [← e,← h.eq]
  exact h.here
theorem Blk.digit {w : World} {g : Nat} {os : List Nat} {t : TypeId} (h : Blk w g (os.map i64v) t) {i : Nat} (hi : i < os.length) : w.cell? ⟨g,i,none⟩ = some (.int .i64 ((os[i] : Nat) : Int)) :=
  h.cell (by simp [hi])
theorem quo_i64' {m n : Nat} (h : m < 9223372036854775808) : IntKind.i64.wrap ((m : Int).tdiv (n : Int)) = ((m / n : Nat) : Int):=quo_i64 h
theorem Owns.grew {w w' : World} {base b' : Nat} {E : TypeId} {c n : Nat} {v : Value} {xs : List Value} (h : Owns w base E c v n xs) (hG : Grew w w' b') (hb : ∀ a m k,v = .slice (some a) m k → a.block < b') : Owns w' base E c v n xs:=by
  refine ⟨h.1,?_⟩
  rcases h.2 with h | ⟨g,cap,cur,rfl,hbg,hg,h1,h2,h3,h4⟩
  · exact .inl h
  · exact .inr ⟨g,cap,cur,rfl,hbg,(hG.block g (hb _ _ _ rfl)).trans hg,h1,h2,h3,h4⟩
section
variable {P : Program} {ds : List Deferred} {l : List Value} {T ty : TypeId}
variable {ops : Array Oper} {Q : Exit → Act → World → Prop} {rest : List Oper} {d : Nat} {pos : String} {after : Array Edge} {w : World}
end
end Go.Lith
