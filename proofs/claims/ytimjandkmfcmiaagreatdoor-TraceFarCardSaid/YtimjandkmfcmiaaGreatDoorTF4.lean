/-
 Texts of one claim, laid together: Facts2, Geo, Fresh, Fresh2, Geo2, Geo3, Geo4, Geo5, Own, Mem, Geo1, Exact, Exact2, Geo6, Ray, Grow, Pts, Map0, Map, Map2.
-/
import Derived.LoopN
import Derived.Sort.Grow
import Derived.Deep.Draws
import Derived.Maps.RangeRun
import Derived.Test.YtimjandkmfcmiaaGreatDoorTF3
set_option maxHeartbeats 8000000
set_option linter.unusedSimpArgs false
set_option linter.unusedVariables false
set_option linter.unusedSectionVars false
namespace Go.Proofs.YtimjandkmfcmiaaGreatDoor
open Tryz
open Go.RowKit Go.Lith
abbrev sF:=@underlying155
abbrev xQ:=@underlying183
abbrev sR:=@underlying26
abbrev pZ:=@underlying29
theorem oN {l : List Value} {ty : TypeId} {x y : Operand} {k : IntKind} {c0 c1 c2 : Value} (hx : ev l x = .agg #[c0,c1,c2]) (hy : ev l y = .int k 0) : gQ prog l (.index 23 x y) ty c0:=lI eU aZ aM hx hy (by decide) (by decide) rfl
theorem oO {l : List Value} {ty : TypeId} {x y : Operand} {k : IntKind} {c0 c1 c2 : Value} (hx : ev l x = .agg #[c0,c1,c2]) (hy : ev l y = .int k 1) : gQ prog l (.index 23 x y) ty c1:=lI eU aZ aM hx hy (by decide) (by decide) rfl
theorem oP {l : List Value} {ty : TypeId} {x y : Operand} {k : IntKind} {c0 c1 c2 : Value} (hx : ev l x = .agg #[c0,c1,c2]) (hy : ev l y = .int k 2) : gQ prog l (.index 23 x y) ty c2:=lI eU aZ aM hx hy (by decide) (by decide) rfl
theorem wH {l : List Value} {ty : TypeId} {x y : Operand} {k : IntKind} {c0 c1 c2 c3 c4 c5 c6 c7 c8 : Value} (hx : ev l x = .agg #[c0,c1,c2,c3,c4,c5,c6,c7,c8]) (hy : ev l y = .int k 0) : gQ prog l (.index 58 x y) ty (.agg #[c0,c1,c2]):=qU jS bK aO hx hy (by decide) (by decide) rfl
theorem wI {l : List Value} {ty : TypeId} {x y : Operand} {k : IntKind} {c0 c1 c2 c3 c4 c5 c6 c7 c8 : Value} (hx : ev l x = .agg #[c0,c1,c2,c3,c4,c5,c6,c7,c8]) (hy : ev l y = .int k 1) : gQ prog l (.index 58 x y) ty (.agg #[c3,c4,c5]):=qU jS bK aO hx hy (by decide) (by decide) rfl
theorem wJ {l : List Value} {ty : TypeId} {x y : Operand} {k : IntKind} {c0 c1 c2 c3 c4 c5 c6 c7 c8 : Value} (hx : ev l x = .agg #[c0,c1,c2,c3,c4,c5,c6,c7,c8]) (hy : ev l y = .int k 2) : gQ prog l (.index 58 x y) ty (.agg #[c6,c7,c8]):=qU jS bK aO hx hy (by decide) (by decide) rfl
theorem Dl {l : List Value} {ty : TypeId} {x y : Operand} {k : IntKind} {c0 c1 c2 c3 c4 c5 : Value} (hx : ev l x = .agg #[c0,c1,c2,c3,c4,c5]) (hy : ev l y = .int k 0) : gQ prog l (.index 152 x y) ty (.agg #[c0,c1]):=qU jA aR aG hx hy (by decide) (by decide) rfl
theorem Dm {l : List Value} {ty : TypeId} {x y : Operand} {k : IntKind} {c0 c1 c2 c3 c4 c5 : Value} (hx : ev l x = .agg #[c0,c1,c2,c3,c4,c5]) (hy : ev l y = .int k 1) : gQ prog l (.index 152 x y) ty (.agg #[c2,c3]):=qU jA aR aG hx hy (by decide) (by decide) rfl
theorem Dn {l : List Value} {ty : TypeId} {x y : Operand} {k : IntKind} {c0 c1 c2 c3 c4 c5 : Value} (hx : ev l x = .agg #[c0,c1,c2,c3,c4,c5]) (hy : ev l y = .int k 2) : gQ prog l (.index 152 x y) ty (.agg #[c4,c5]):=qU jA aR aG hx hy (by decide) (by decide) rfl
theorem Do {l : List Value} {ty : TypeId} {x y : Operand} {k : IntKind} {c0 c1 c2 : Value} (hx : ev l x = .agg #[c0,c1,c2]) (hy : ev l y = .int k 0) : gQ prog l (.index 176 x y) ty c0:=lI jU aZ aM hx hy (by decide) (by decide) rfl
theorem Dp {l : List Value} {ty : TypeId} {x y : Operand} {k : IntKind} {c0 c1 c2 : Value} (hx : ev l x = .agg #[c0,c1,c2]) (hy : ev l y = .int k 1) : gQ prog l (.index 176 x y) ty c1:=lI jU aZ aM hx hy (by decide) (by decide) rfl
theorem Dq {l : List Value} {ty : TypeId} {x y : Operand} {k : IntKind} {c0 c1 c2 : Value} (hx : ev l x = .agg #[c0,c1,c2]) (hy : ev l y = .int k 2) : gQ prog l (.index 176 x y) ty c2:=lI jU aZ aM hx hy (by decide) (by decide) rfl
theorem uS {l : List Value} {ty : TypeId} {x y : Operand} {k : IntKind} {c0 c1 c2 : Value} (hx : ev l x = .agg #[c0,c1,c2]) (hy : ev l y = .int k 0) : gQ prog l (.index 181 x y) ty c0:=lI underlying181 Fy tU hx hy (by decide) (by decide) rfl
theorem uT {l : List Value} {ty : TypeId} {x y : Operand} {k : IntKind} {c0 c1 c2 : Value} (hx : ev l x = .agg #[c0,c1,c2]) (hy : ev l y = .int k 1) : gQ prog l (.index 181 x y) ty c1:=lI underlying181 Fy tU hx hy (by decide) (by decide) rfl
theorem uU {l : List Value} {ty : TypeId} {x y : Operand} {k : IntKind} {c0 c1 c2 : Value} (hx : ev l x = .agg #[c0,c1,c2]) (hy : ev l y = .int k 2) : gQ prog l (.index 181 x y) ty c2:=lI underlying181 Fy tU hx hy (by decide) (by decide) rfl
theorem Pc {ds : List Deferred} {l : List Value} {ty : TypeId} {ops : Array Oper} {Q : Exit → Act → World → Prop} {rest : List Oper} {d : Nat} {pos : String} {after : Array Edge} {w : World} {x0 x1 x2 : Operand} {c0_0 c1_0 c2_0 : Value} (h0 : (ev l x0).cells = #[c0_0]) (h1 : (ev l x1).cells = #[c1_0]) (h2 : (ev l x2).cells = #[c2_0]) (h : ∀ w' g,dL w w' → w.heap.size ≤ g → fW w' g [c0_0,c1_0,c2_0] 3 → wpList prog ops Q rest (Fr (l.set d (.slice (some ⟨g,0,none⟩) 3 3)) ds) w') : wpList prog ops Q (Oper.mk (some d) (.buildSlice 22 3 #[(0,x0),(1,x1),(2,x2)]) ty pos after none :: rest) (Fr l ds) w :=
 mV (vs:=#[(0,ev l x0),(1,ev l x1),(2,ev l x2)]) (base:=#[.int .i64 0,.int .i64 0,.int .i64 0]) (c:=1) (z:=(.int .i64 0)) bN (by kernel_rfl) (by decide) (by decide) (by kernel_rfl) (by simp) (by simp [Instr.fill,h0,h1,h2]) h
theorem Pd {ds : List Deferred} {l : List Value} {ty : TypeId} {ops : Array Oper} {Q : Exit → Act → World → Prop} {rest : List Oper} {d : Nat} {pos : String} {after : Array Edge} {w : World} {x0 : Operand} {c0_0 c0_1 c0_2 : Value} (h0 : (ev l x0).cells = #[c0_0,c0_1,c0_2]) (h : ∀ w' g,dL w w' → w.heap.size ≤ g → fW w' g [c0_0,c0_1,c0_2] 56 → wpList prog ops Q rest (Fr (l.set d (.slice (some ⟨g,0,none⟩) 1 1)) ds) w') : wpList prog ops Q (Oper.mk (some d) (.buildSlice 26 1 #[(0,x0)]) ty pos after none :: rest) (Fr l ds) w :=
 mV (vs:=#[(0,ev l x0)]) (base:=#[.int .i64 0,.int .i64 0,.int .i64 0]) (c:=3) (z:=(.agg #[.int .i64 0,.int .i64 0,.int .i64 0])) sR (by kernel_rfl) (by decide) (by decide) (by kernel_rfl) (by simp) (by simp [Instr.fill,h0]) h
theorem En {ds : List Deferred} {l : List Value} {ty : TypeId} {ops : Array Oper} {Q : Exit → Act → World → Prop} {rest : List Oper} {d : Nat} {pos : String} {after : Array Edge} {w : World} {x0 x1 x2 x3 : Operand} {c0_0 c0_1 c0_2 c1_0 c1_1 c1_2 c2_0 c2_1 c2_2 c3_0 c3_1 c3_2 : Value} (h0 : (ev l x0).cells = #[c0_0,c0_1,c0_2]) (h1 : (ev l x1).cells = #[c1_0,c1_1,c1_2]) (h2 : (ev l x2).cells = #[c2_0,c2_1,c2_2]) (h3 : (ev l x3).cells = #[c3_0,c3_1,c3_2]) (h : ∀ w' g,dL w w' → w.heap.size ≤ g → fW w' g [c0_0,c0_1,c0_2,c1_0,c1_1,c1_2,c2_0,c2_1,c2_2,c3_0,c3_1,c3_2] 56 → wpList prog ops Q rest (Fr (l.set d (.slice (some ⟨g,0,none⟩) 4 4)) ds) w') : wpList prog ops Q (Oper.mk (some d) (.buildSlice 26 4 #[(0,x0),(1,x1),(2,x2),(3,x3)]) ty pos after none :: rest) (Fr l ds) w :=
 mV (vs:=#[(0,ev l x0),(1,ev l x1),(2,ev l x2),(3,ev l x3)]) (base:=#[.int .i64 0,.int .i64 0,.int .i64 0,.int .i64 0,.int .i64 0,.int .i64 0,.int .i64 0,.int .i64 0,.int .i64 0,.int .i64 0,.int .i64 0,.int .i64 0]) (c:=3) (z:=(.agg #[.int .i64 0,.int .i64 0,.int .i64 0])) sR (by kernel_rfl) (by decide) (by decide) (by kernel_rfl) (by simp) (by simp [Instr.fill,h0,h1,h2,h3]) h
theorem Pe {ds : List Deferred} {l : List Value} {ty : TypeId} {ops : Array Oper} {Q : Exit → Act → World → Prop} {rest : List Oper} {d : Nat} {pos : String} {after : Array Edge} {w : World} {x0 x1 x2 : Operand} {c0_0 c1_0 c2_0 : Value} (h0 : (ev l x0).cells = #[c0_0]) (h1 : (ev l x1).cells = #[c1_0]) (h2 : (ev l x2).cells = #[c2_0]) (h : ∀ w' g,dL w w' → w.heap.size ≤ g → fW w' g [c0_0,c1_0,c2_0] 48 → wpList prog ops Q rest (Fr (l.set d (.slice (some ⟨g,0,none⟩) 3 3)) ds) w') : wpList prog ops Q (Oper.mk (some d) (.buildSlice 29 3 #[(0,x0),(1,x1),(2,x2)]) ty pos after none :: rest) (Fr l ds) w :=
 mV (vs:=#[(0,ev l x0),(1,ev l x1),(2,ev l x2)]) (base:=#[.slice none 0 0,.slice none 0 0,.slice none 0 0]) (c:=1) (z:=(.slice none 0 0)) pZ (by kernel_rfl) (by decide) (by decide) (by kernel_rfl) (by simp) (by simp [Instr.fill,h0,h1,h2]) h
theorem uD {ds : List Deferred} {l : List Value} {ty : TypeId} {ops : Array Oper} {Q : Exit → Act → World → Prop} {rest : List Oper} {d : Nat} {pos : String} {after : Array Edge} {w : World} {x0 : Operand} {c0_0 c0_1 c0_2 c0_3 c0_4 c0_5 c0_6 c0_7 c0_8 : Value} (h0 : (ev l x0).cells = #[c0_0,c0_1,c0_2,c0_3,c0_4,c0_5,c0_6,c0_7,c0_8]) (h : ∀ w' g,dL w w' → w.heap.size ≤ g → fW w' g [c0_0,c0_1,c0_2,c0_3,c0_4,c0_5,c0_6,c0_7,c0_8] 58 → wpList prog ops Q rest (Fr (l.set d (.slice (some ⟨g,0,none⟩) 1 1)) ds) w') : wpList prog ops Q (Oper.mk (some d) (.buildSlice 48 1 #[(0,x0)]) ty pos after none :: rest) (Fr l ds) w :=
 mV (vs:=#[(0,ev l x0)]) (base:=#[.int .i64 0,.int .i64 0,.int .i64 0,.int .i64 0,.int .i64 0,.int .i64 0,.int .i64 0,.int .i64 0,.int .i64 0]) (c:=9) (z:=(.agg #[.int .i64 0,.int .i64 0,.int .i64 0,.int .i64 0,.int .i64 0,.int .i64 0,.int .i64 0,.int .i64 0,.int .i64 0])) nC (by kernel_rfl) (by decide) (by decide) (by kernel_rfl) (by simp) (by simp [Instr.fill,h0]) h
theorem Lj {ds : List Deferred} {l : List Value} {ty : TypeId} {ops : Array Oper} {Q : Exit → Act → World → Prop} {rest : List Oper} {d : Nat} {pos : String} {after : Array Edge} {w : World} {x0 : Operand} {c0_0 c0_1 c0_2 c0_3 : Value} (h0 : (ev l x0).cells = #[c0_0,c0_1,c0_2,c0_3]) (h : ∀ w' g,dL w w' → w.heap.size ≤ g → fW w' g [c0_0,c0_1,c0_2,c0_3] 37 → wpList prog ops Q rest (Fr (l.set d (.slice (some ⟨g,0,none⟩) 1 1)) ds) w') : wpList prog ops Q (Oper.mk (some d) (.buildSlice 129 1 #[(0,x0)]) ty pos after none :: rest) (Fr l ds) w :=
 mV (vs:=#[(0,ev l x0)]) (base:=#[.bool false,.string ⟨#[]⟩,.bool false,.string ⟨#[]⟩]) (c:=4) (z:=(.agg #[.bool false,.string ⟨#[]⟩,.bool false,.string ⟨#[]⟩])) underlying129 (by kernel_rfl) (by decide) (by decide) (by kernel_rfl) (by simp) (by simp [Instr.fill,h0]) h
theorem Lk {ds : List Deferred} {l : List Value} {ty : TypeId} {ops : Array Oper} {Q : Exit → Act → World → Prop} {rest : List Oper} {d : Nat} {pos : String} {after : Array Edge} {w : World} {x0 x1 : Operand} {c0_0 c0_1 c0_2 c0_3 c1_0 c1_1 c1_2 c1_3 : Value} (h0 : (ev l x0).cells = #[c0_0,c0_1,c0_2,c0_3]) (h1 : (ev l x1).cells = #[c1_0,c1_1,c1_2,c1_3]) (h : ∀ w' g,dL w w' → w.heap.size ≤ g → fW w' g [c0_0,c0_1,c0_2,c0_3,c1_0,c1_1,c1_2,c1_3] 37 → wpList prog ops Q rest (Fr (l.set d (.slice (some ⟨g,0,none⟩) 2 2)) ds) w') : wpList prog ops Q (Oper.mk (some d) (.buildSlice 129 2 #[(0,x0),(1,x1)]) ty pos after none :: rest) (Fr l ds) w :=
 mV (vs:=#[(0,ev l x0),(1,ev l x1)]) (base:=#[.bool false,.string ⟨#[]⟩,.bool false,.string ⟨#[]⟩,.bool false,.string ⟨#[]⟩,.bool false,.string ⟨#[]⟩]) (c:=4) (z:=(.agg #[.bool false,.string ⟨#[]⟩,.bool false,.string ⟨#[]⟩])) underlying129 (by kernel_rfl) (by decide) (by decide) (by kernel_rfl) (by simp) (by simp [Instr.fill,h0,h1]) h
theorem vF {ds : List Deferred} {l : List Value} {ty : TypeId} {ops : Array Oper} {Q : Exit → Act → World → Prop} {rest : List Oper} {d : Nat} {pos : String} {after : Array Edge} {w : World} {x0 : Operand} {c0_0 c0_1 : Value} (h0 : (ev l x0).cells = #[c0_0,c0_1]) (h : ∀ w' g,dL w w' → w.heap.size ≤ g → fW w' g [c0_0,c0_1] 35 → wpList prog ops Q rest (Fr (l.set d (.slice (some ⟨g,0,none⟩) 1 1)) ds) w') : wpList prog ops Q (Oper.mk (some d) (.buildSlice 155 1 #[(0,x0)]) ty pos after none :: rest) (Fr l ds) w :=
 mV (vs:=#[(0,ev l x0)]) (base:=#[.bool false,.string ⟨#[]⟩]) (c:=2) (z:=(.agg #[.bool false,.string ⟨#[]⟩])) sF (by kernel_rfl) (by decide) (by decide) (by kernel_rfl) (by simp) (by simp [Instr.fill,h0]) h
theorem Ll {ds : List Deferred} {l : List Value} {ty : TypeId} {ops : Array Oper} {Q : Exit → Act → World → Prop} {rest : List Oper} {d : Nat} {pos : String} {after : Array Edge} {w : World} {x0 x1 x2 x3 : Operand} {c0_0 c0_1 c1_0 c1_1 c2_0 c2_1 c3_0 c3_1 : Value} (h0 : (ev l x0).cells = #[c0_0,c0_1]) (h1 : (ev l x1).cells = #[c1_0,c1_1]) (h2 : (ev l x2).cells = #[c2_0,c2_1]) (h3 : (ev l x3).cells = #[c3_0,c3_1]) (h : ∀ w' g,dL w w' → w.heap.size ≤ g → fW w' g [c0_0,c0_1,c1_0,c1_1,c2_0,c2_1,c3_0,c3_1] 35 → wpList prog ops Q rest (Fr (l.set d (.slice (some ⟨g,0,none⟩) 4 4)) ds) w') : wpList prog ops Q (Oper.mk (some d) (.buildSlice 155 4 #[(0,x0),(1,x1),(2,x2),(3,x3)]) ty pos after none :: rest) (Fr l ds) w :=
 mV (vs:=#[(0,ev l x0),(1,ev l x1),(2,ev l x2),(3,ev l x3)]) (base:=#[.bool false,.string ⟨#[]⟩,.bool false,.string ⟨#[]⟩,.bool false,.string ⟨#[]⟩,.bool false,.string ⟨#[]⟩]) (c:=2) (z:=(.agg #[.bool false,.string ⟨#[]⟩])) sF (by kernel_rfl) (by decide) (by decide) (by kernel_rfl) (by simp) (by simp [Instr.fill,h0,h1,h2,h3]) h
end Go.Proofs.YtimjandkmfcmiaaGreatDoor
namespace Go.Lith
open Go.RowKit
structure P3 where
 x : Int
 y : Int
 z : Int
structure T3 where
 a : P3
 b : P3
 c : P3
namespace P3
def sub (p q : P3) : P3:=⟨p.x - q.x,p.y - q.y,p.z - q.z⟩
def dot (p q : P3) : Int:=p.x * q.x + p.y * q.y + p.z * q.z
def cross (u v : P3) : P3:=⟨u.y * v.z - u.z * v.y,u.z * v.x - u.x * v.z,u.x * v.y - u.y * v.x⟩
end P3
def T3.normal (t : T3) : P3:=(t.b.sub t.a).cross (t.c.sub t.a)
def pt (p : P3) : Go.Value:=.agg #[.int .i64 p.x,.int .i64 p.y,.int .i64 p.z]
def tr (t : T3) : Go.Value:=.agg #[.int .i64 t.a.x,.int .i64 t.a.y,.int .i64 t.a.z,.int .i64 t.b.x,.int .i64 t.b.y,.int .i64 t.b.z,.int .i64 t.c.x,.int .i64 t.c.y,.int .i64 t.c.z]
def wv (v : P3) : Go.Value:=.agg #[.bool (cN v.x),.string (cX v.x),.bool (cN v.y),.string (cX v.y),.bool (cN v.z),.string (cX v.z)]
theorem Bw.up {k m : Nat} {n : Int} [x : Bw k n] (h : k ≤ m:=by decide) : Bd m n:=x.h.mono h
theorem Eo : cX 0 = ⟨#[]⟩:=by
 have : sA 0 = []:=by
  unfold sA;rw [(mA (B:=256) (by omega)).2 rfl];rfl
 simp only[cX,Int.natAbs_zero,this]
theorem aaU : W 0 = .agg #[.bool false,.string ⟨#[]⟩]:=by simp only[W,Eo]; rfl
class Iw (n : Int) : Prop where
 h : jG n
class I3 (p : P3) : Prop where
 x : jG p.x
 y : jG p.y
 z : jG p.z
class IT (t : T3) : Prop where
 a : I3 t.a
 b : I3 t.b
 c : I3 t.c
instance {p : P3} [h : I3 p] : Iw p.x:=⟨h.x⟩
instance {p : P3} [h : I3 p] : Iw p.y:=⟨h.y⟩
instance {p : P3} [h : I3 p] : Iw p.z:=⟨h.z⟩
instance {t : T3} [h : IT t] : I3 t.a:=h.a
instance {t : T3} [h : IT t] : I3 t.b:=h.b
instance {t : T3} [h : IT t] : I3 t.c:=h.c
instance {n : Int} [h : Iw n] : Bw 64 n:=⟨h.h.bd⟩
class Bv (k : outParam Nat) (v : P3) : Prop where
 x : Bd k v.x
 y : Bd k v.y
 z : Bd k v.z
instance {k : Nat} {v : P3} [h : Bv k v] : Bw k v.x:=⟨h.x⟩
instance {k : Nat} {v : P3} [h : Bv k v] : Bw k v.y:=⟨h.y⟩
instance {k : Nat} {v : P3} [h : Bv k v] : Bw k v.z:=⟨h.z⟩
theorem Bv.mono {k m : Nat} {v : P3} (h : Bv k v) (hk : k ≤ m) : Bv m v:=⟨h.x.mono hk,h.y.mono hk,h.z.mono hk⟩
theorem Bv.of {k m : Nat} {v : P3} [h : Bv k v] (hk : k ≤ m:=by decide) : Bv m v:=h.mono hk
instance {p q : P3} [a : I3 p] [b : I3 q] : Bv 65 (p.sub q):=⟨a.x.bd.sub b.x.bd,a.y.bd.sub b.y.bd,a.z.bd.sub b.z.bd⟩
theorem Gw {k l : Nat} {a b c d : Int} (ha : Bd k a) (hb : Bd l b) (hc : Bd k c) (hd : Bd l d) : Bd (k + l + 1) (a * b - c * d):=by
 have:=(ha.mul hb).sub (hc.mul hd);exact this.mono (by omega)
theorem Sn {k l : Nat} {a b c d : Int} (ha : Bd k a) (hb : Bd l b) (hc : Bd k c) (hd : Bd l d) : Bd (k + l + 1) (a * b + c * d):=by
 have:=(ha.mul hb).add (hc.mul hd);exact this.mono (by omega)
instance {k l : Nat} {u v : P3} [a : Bv k u] [b : Bv l v] : Bv (k + l + 1) (u.cross v):=⟨Gw a.y b.z a.z b.y,Gw a.z b.x a.x b.z,Gw a.x b.y a.y b.x⟩
instance {k l : Nat} {u v : P3} [a : Bv k u] [b : Bv l v] : Bw (k + l + 2) (u.dot v):=⟨((Sn a.x b.x a.y b.y).add (a.z.mul b.z)).mono (by omega)⟩
instance {t : T3} [h : IT t] : Bv 131 t.normal:=inferInstanceAs (Bv 131 ((t.b.sub t.a).cross (t.c.sub t.a)))
theorem P3.dot0 {u v : P3} : 0 + u.x * v.x + u.y * v.y + u.z * v.z = u.dot v:=by simp only[P3.dot,Int.zero_add]
section
variable {P : Program} {Q : Exit → Act → World → Prop} {a : Act} {w : World} {c : Code} {n : Nat}
theorem dQ (h : c.wp P (Exit.then (Code.rounds P c Q n) Q) a w) : Code.rounds P c Q (n + 1) a w:=h
theorem bF (h : c.wp P (Exit.then (Code.rounds P c Q n) Q) a w) : Exit.then (Code.rounds P c Q (n + 1)) Q .normal a w:=h
end
end Go.Lith
namespace Go.Lith
open Go.RowKit
section
variable {P : Program} {ops : Array Oper} {md : Region.Mode} {w0 : World}
def YE (P : Program) (ops : Array Oper) (w0 : World) (o : Oper) (v : Value) (a : Act) : Prop :=
 (Region.wanted o (yielded ops a.tmps) = true ∧ ∀ w,dL w0 w → o.quietAt P a (dL w) w v) ∨ (Region.wanted o (yielded ops a.tmps) = false ∧ v = undef)
theorem YE.of_same {o : Oper} {v : Value} {a a' : Act} (hy : YE P ops w0 o v a) (he : execOp a'.eval o = execOp a.eval o)
 (hw : Region.wanted o (yielded ops a'.tmps) = Region.wanted o (yielded ops a.tmps)) : YE P ops w0 o v a':=by
 unfold YE Oper.quietAt at *
 rw [he,hw];exact hy
def qE (P : Program) (ops : Array Oper) (w0 : World) (i : Nat) (K : Act → Prop) (a : Act) : Prop:=∃ o v,ops[i]? = some o ∧ YE P ops w0 o v a ∧ K (a.put o.dst v)
theorem Vs {i : Nat} {a : Act} {K K' : Act → Prop} (h : ∀ a,K a → K' a) (hh : qE P ops w0 i K a) : qE P ops w0 i K' a :=
 let ⟨o,v,h1,h2,h3⟩:=hh; ⟨o,v,h1,h2,h _ h3⟩
theorem aaV {j : Nat} {oi oj : Oper} {v : Value} (hj : ops[j]? = some oj) (hap : oi.apart ops oj = true) (hsi : ∀ cs b,oi.op ≠ .select cs b) (hsj : ∀ cs b,oj.op ≠ .select cs b) {K : Act → Prop} {a : Act}
 (hy : YE P ops w0 oi v a) (h : qE P ops w0 j K (a.put oi.dst v)) : qE P ops w0 j (fun a'=>YE P ops w0 oi v a' ∧ K (a'.put oi.dst v)) a:=by
 obtain ⟨h1,h2,h3⟩:=Oper.apart_spec hap;obtain ⟨o,u,ho,hu,hk⟩:=h;rw [hj] at ho;cases ho;refine ⟨oj,u,hj,hu.of_same (execOp_put oj hsj a oi.dst v h1).symm (wanted_put oj a oi.dst v h1).symm,hy.of_same (execOp_put oi hsi a oj.dst u h3) (wanted_put oi a oj.dst u h3),?_⟩;rw [← Act.put_comm a v u h2];exact hk
def By (P : Program) (md : Region.Mode) (ops : Array Oper) (w0 : World) (n : Nat) (L : Array Bool → Act → Prop) : Nat → Array Bool → Act → Prop
 | 0,listed,a=>L listed a
 | f + 1,listed,a=>Region.ready md ops listed ≠ [] ∧ ∀ i ∈ Region.ready md ops listed,i < n ∧ qE P ops w0 i (By P md ops w0 n L f (listed.setIfInBounds i true)) a
theorem Gx {n i : Nat} {oi : Oper} {v : Value} {L : Array Bool → Act → Prop} (hi : ops[i]? = some oi) (hsel : ∀ (j : Nat) (o : Oper) cs b,ops[j]? = some o → o.op ≠ .select cs b)
 (hs : Region.sinkB md ops n = true) (hc : Region.chainB md ops n = true) (hn : n < ops.size) (hin : i < n)
 (hdone : ∀ listed a,L listed a → ∀ j ∈ Region.ready md ops listed,n ≤ j) :
 ∀ (f : Nat) (listed : Array Bool) (a : Act),HeadInv md ops n listed →
  (∀ j oj,ops[j]? = some oj → j ≠ i → listed.getD j true = false → (∀ e ∈ oj.after,Region.binds md e = true → e.on ≠ i) → oi.apart ops oj = true) →
  i ∈ Region.ready md ops listed → YE P ops w0 oi v a →
  By P md ops w0 n L f (listed.setIfInBounds i true) (a.put oi.dst v) → By P md ops w0 n L (f + 1) listed a:=by
 intro f
 induction f with
 | zero =>
  intro listed a inv _ hr hy H;have hun:=(mem_ready.1 hr).1;refine ⟨fun h=>(by rw [h] at hr; cases hr),fun j hj=>?_⟩;have hjn : j < n:=by
   rcases Nat.lt_or_ge j n with h | h
   · exact h
   · exact absurd hj (tail_waits hs hc hn inv _ i rfl hin hun j h)
  refine ⟨hjn,?_⟩;by_cases hji : j = i
  · subst hji; exact ⟨oi,v,hi,hy,H⟩
  · have:=hdone _ _ H j (ready_mono hj hji)
    omega
 | succ f ih =>
  intro listed a inv hfree hr hy H;have hun:=(mem_ready.1 hr).1;refine ⟨fun h=>(by rw [h] at hr; cases hr),fun j hj=>?_⟩;have hjn : j < n:=by
   rcases Nat.lt_or_ge j n with h | h
   · exact h
   · exact absurd hj (tail_waits hs hc hn inv _ i rfl hin hun j h)
  refine ⟨hjn,?_⟩;by_cases hji : j = i
  · subst hji; exact ⟨oi,v,hi,hy,H⟩
  · have h1:=(H.2 j (ready_mono hj hji)).2
    obtain ⟨hjun,oj,hoj,hall⟩:=mem_ready.1 hj;have hnot : ∀ e ∈ oj.after,Region.binds md e = true → e.on ≠ i:=fun e he hb heq=>by
     have h1:=hall e he hb;rw [heq,getD_both hun] at h1;cases h1
    have h2:=aaV hoj (hfree j oj hoj hji hjun hnot) (fun cs b=>hsel i oi cs b hi) (fun cs b=>hsel j oj cs b hoj) hy h1;have hfree' : ∀ k ok,ops[k]? = some ok → k ≠ i → (listed.setIfInBounds j true).getD k true = false →
     (∀ e ∈ ok.after,Region.binds md e = true → e.on ≠ i) → oi.apart ops ok = true:=fun k ok hk hki hun hno=>by
     refine hfree k ok hk hki ?_ hno;by_cases hjk : j = k
     · subst hjk; exact hjun
     · rw [getD_set_ne true hjk] at hun; exact hun
    refine Vs (fun a' h3=>ih (listed.setIfInBounds j true) a' (inv.set hj hjn) hfree' (ready_mono hr (Ne.symm hji)) h3.1 ?_) h2;rw [Array.setIfInBounds_comm _ _ hji];exact h3.2
def tD (P : Program) (ops : Array Oper) (w0 : World) (L : Act → Prop) : List Oper → Act → Prop
 | [],a=>L a
 | o :: r,a=>∃ v,YE P ops w0 o v a ∧ tD P ops w0 L r (a.put o.dst v)
def So (md : Region.Mode) (ops : Array Oper) (g n : Nat) : List Nat → Array Bool → Bool
 | [],listed=>Region.seqB md ops g n listed
 | i :: r,listed=>(ops[i]?).isSome && decide (i < n) && (Region.ready md ops listed).contains i && Region.free md ops listed i && So md ops g n r (listed.setIfInBounds i true)
theorem Bz {n g : Nat} {L : Act → Prop} (hsel : Region.noSelect ops = true) (hs : Region.sinkB md ops n = true) (hc : Region.chainB md ops n = true) (hn : n < ops.size) :
 ∀ (l : List Nat) (listed : Array Bool) (a : Act),HeadInv md ops n listed → So md ops g n l listed = true → tD P ops w0 L (l.map fun i=>(ops[i]?).getD default) a →
 By P md ops w0 n (fun listed' a'=>Region.seqB md ops g n listed' = true ∧ L a') l.length listed a
 | [],listed,a,_,hB,h=>⟨by simpa [So] using hB,h⟩
 | i :: l,listed,a,inv,hB,h=>by
  simp only[So,Bool.and_eq_true,decide_eq_true_eq] at hB;obtain ⟨⟨⟨⟨h1,h2⟩,h3⟩,h4⟩,h5⟩:=hB;obtain ⟨o,ho⟩:=Option.isSome_iff_exists.1 h1;simp only[List.map_cons,tD,ho,Option.getD_some] at h;obtain ⟨v,hy,hr⟩:=h;have hi' : i ∈ Region.ready md ops listed:=by simpa using h3
  exact Gx ho (Region.noSelect_spec hsel) hs hc hn h2 (fun listed' a' hL=>seqB_ready hL.1) l.length listed a inv (Region.free_spec ho h4) hi' hy (Bz hsel hs hc hn l _ _ (inv.set hi' h2) h5 hr)
structure Al where
 i : Nat
 d : Nat
 T : TypeId
 cs : List Value
def mW (P : Program) (md : Region.Mode) (ops : Array Oper) (x : Al) : Prop :=
 ∃ ty pos after,ops[x.i]? = some (Oper.mk (some x.d) (.alloc x.T) ty pos after none) ∧ (after.all fun e=>!Region.binds md e) = true ∧ ∃ z,lT P x.T z ∧ z.cells = x.cs.toArray
def fJ (E : Nat → Option Value) : List Al → Act → Act
 | [],a=>a
 | x :: r,a=>match E x.i with
  | some v=>fJ E r (a.put (some x.d) v)
  | none=>fJ E r a
def sG (ops : Array Oper) (o : Oper) (al : List Al) : Bool:=al.all fun x=>!(o.looksAt ops).contains x.d && o.dst != some x.d
theorem tE {E : Nat → Option Value} {o : Oper} (hs : ∀ cs b,o.op ≠ .select cs b) : ∀ {al : List Al},sG ops o al = true → ∀ a,execOp (fJ E al a).eval o = execOp a.eval o ∧ Region.wanted o (yielded ops (fJ E al a).tmps) = Region.wanted o (yielded ops a.tmps)
 | [],_,a=>⟨rfl,rfl⟩
 | x :: r,hc,a=>by
  simp only[sG,List.all_cons,Bool.and_eq_true,Bool.not_eq_true'] at hc;have hr : sG ops o r = true:=by simp only[sG,Bool.and_eq_true,Bool.not_eq_true'] ; simpa using hc.2
  have hd : x.d ∉ o.looksAt ops:=by simpa using hc.1.1
  unfold fJ;split
  · obtain ⟨h1,h2⟩:=tE (E:=E) hs hr (a.put (some x.d) _)
    rename_i v _;exact ⟨h1.trans (execOp_put o hs a (some x.d) v (fun d e=>by cases e; exact hd)),h2.trans (wanted_put o a (some x.d) v (fun d e=>by cases e; exact hd))⟩
  · exact tE hs hr a
theorem vG {E : Nat → Option Value} {o : Oper} {v : Value} : ∀ {al : List Al},sG ops o al = true → ∀ a,(fJ E al a).put o.dst v = fJ E al (a.put o.dst v)
 | [],_,a=>rfl
 | x :: r,hc,a=>by
  simp only[sG,List.all_cons,Bool.and_eq_true,Bool.not_eq_true',bne_iff_ne,ne_eq] at hc;have hr : sG ops o r = true:=by simp only[sG,Bool.and_eq_true,Bool.not_eq_true'] ; simpa using hc.2
  unfold fJ;split
  · rename_i u _
    rw [vG hr,Act.put_comm a u v (fun d e=>by cases e; exact hc.1.2)]
  · exact vG hr a
theorem Ca {E : Nat → Option Value} {x : Al} {v : Value} : ∀ {al : List Al},(al.map (·.i)).Nodup → (al.map (·.d)).Nodup → x ∈ al → E x.i = none → ∀ a,(fJ E al a).put (some x.d) v = fJ (fun j=>if j = x.i then some v else E j) al a
 | [],_,_,hx,_,_=>by cases hx
 | y :: r,hi,hd,hx,he,a=>by
  simp only[List.map_cons,List.nodup_cons] at hi hd;have same : ∀ (l : List Al),x.i ∉ l.map (·.i) → ∀ a,fJ (fun j=>if j = x.i then some v else E j) l a = fJ E l a:=by
   intro l
   induction l with
   | nil=>intro _ a; rfl
   | cons z l ih =>
    intro hn a;simp only[List.map_cons,List.mem_cons,not_or] at hn;unfold fJ;simp only[Ne.symm hn.1,if_false];split <;> exact ih hn.2 _
  have push : ∀ (l : List Al),x.d ∉ l.map (·.d) → ∀ a,(fJ E l a).put (some x.d) v = fJ E l (a.put (some x.d) v):=by
   intro l
   induction l with
   | nil=>intro _ a; rfl
   | cons z l ih =>
    intro hn a;simp only[List.map_cons,List.mem_cons,not_or] at hn;unfold fJ;split
    · rename_i u _
      rw [ih hn.2,Act.put_comm a u v (fun d e=>by cases e; simp; exact hn.1)]
    · exact ih hn.2 _
  rcases List.mem_cons.1 hx with rfl | hx
  · unfold fJ
    simp only[he,if_true];rw [push r hd.1,same r hi.1]
  · have hne : y.i ≠ x.i:=fun e=>hi.1 (by rw [e]; exact List.mem_map_of_mem hx)
    unfold fJ;simp only[hne,if_false];split <;> exact Ca hi.2 hd.2 hx he _
def Kk (E : Nat → Option Value) (al : List Al) : Nat:=(al.filter fun x=>(E x.i).isNone).length
theorem Nc {E : Nat → Option Value} {x : Al} {v : Value} : ∀ {al : List Al},(al.map (·.i)).Nodup → x ∈ al → E x.i = none → Kk E al = Kk (fun j=>if j = x.i then some v else E j) al + 1
 | [],_,hx,_=>by cases hx
 | y :: r,hi,hx,he=>by
  simp only[List.map_cons,List.nodup_cons] at hi;have same : ∀ (l : List Al),x.i ∉ l.map (·.i) → Kk (fun j=>if j = x.i then some v else E j) l = Kk E l:=by
   intro l
   induction l with
   | nil=>intro _; rfl
   | cons z l ih =>
    intro hn;simp only[List.map_cons,List.mem_cons,not_or] at hn;have:=ih hn.2;unfold Kk at *
    rw [List.filter_cons,List.filter_cons];simp only[Ne.symm hn.1,if_false];split <;> simp [this]
  rcases List.mem_cons.1 hx with rfl | hx
  · have:=same r hi.1
    unfold Kk at *
    rw [List.filter_cons,List.filter_cons];simp [he,this]
  · have hne : y.i ≠ x.i:=fun e=>hi.1 (by rw [e]; exact List.mem_map_of_mem hx)
    have:=Nc (v:=v) hi.2 hx he;unfold Kk at *
    rw [List.filter_cons,List.filter_cons];simp only[hne,if_false];split <;> simp [this]
theorem Jc {E : Nat → Option Value} {al : List Al} (h : Kk E al = 0) : ∀ x ∈ al,∃ v,E x.i = some v:=fun x hx=>by
 unfold Kk at h;have:=List.filter_eq_nil_iff.1 (List.eq_nil_of_length_eq_zero h) x hx;cases he : E x.i with
 | none=>simp [he] at this
 | some v=>exact ⟨v,rfl⟩
theorem Vt {E : Nat → Option Value} {al : List Al} (h : 0 < Kk E al) : ∃ x ∈ al,E x.i = none:=by
 unfold Kk at h;obtain ⟨x,hx⟩:=List.length_pos_iff_exists_mem.1 h;obtain ⟨h1,h2⟩:=List.mem_filter.1 hx;exact ⟨x,h1,by simpa using h2⟩
def vH (base : Nat) (E : Nat → Option Value) (al : List Al) (w : World) : Prop :=
 (∀ x ∈ al,∀ v,E x.i = some v → ∃ g,v = .pointer (some ⟨g,0,none⟩) ∧ base ≤ g ∧ fW w g x.cs x.T) ∧
 (∀ x ∈ al,∀ y ∈ al,x.i ≠ y.i → ∀ g g',E x.i = some (.pointer (some ⟨g,0,none⟩)) → E y.i = some (.pointer (some ⟨g',0,none⟩)) → g ≠ g')
theorem vH.ext {base : Nat} {E : Nat → Option Value} {al : List Al} {w w' : World} (h : vH base E al w) (hE : dL w w') : vH base E al w' :=
 ⟨fun x hx v hv=>let ⟨g,e,hb,hB⟩:=h.1 x hx v hv; ⟨g,e,hb,hB.ext hE⟩,h.2⟩
theorem vH.new {base : Nat} {E : Nat → Option Value} {al : List Al} {w : World} (h : vH base E al w) {x : Al} (hx : x ∈ al) (hi : (al.map (·.i)).Nodup) (he : E x.i = none) (hb : base ≤ w.heap.size) :
 vH base (fun j=>if j = x.i then some (.pointer (some ⟨w.heap.size,0,none⟩)) else E j) al (w.alloc (.cells x.cs.toArray x.T)):=by
 have huniq : ∀ y ∈ al,y.i = x.i → y = x:=by
  intro y hy e;clear h
  induction al with
  | nil=>cases hx
  | cons z r ih =>
   simp only[List.map_cons,List.nodup_cons] at hi;rcases List.mem_cons.1 hx with rfl | hx'
   · rcases List.mem_cons.1 hy with rfl | hy'
     · rfl
     · exact absurd (by rw [← e]; exact List.mem_map_of_mem hy') hi.1
   · rcases List.mem_cons.1 hy with rfl | hy'
     · exact absurd (by rw [e]; exact List.mem_map_of_mem hx') hi.1
     · exact ih hx' hi.2 hy'
 refine ⟨fun y hy v hv=>?_,fun y hy z hz hne g g' h1 h2=>?_⟩
 · by_cases e : y.i = x.i
   · obtain rfl:=huniq y hy e
     simp only[if_true] at hv;cases hv;exact ⟨_,rfl,hb,jD w _ _⟩
   · simp only[e,if_false] at hv
     obtain ⟨g,e1,e2,e3⟩:=h.1 y hy v hv;exact ⟨g,e1,e2,e3.ext ((dL.refl w).alloc _)⟩
 · by_cases e : y.i = x.i
   · have e' : z.i ≠ x.i:=fun e2=>hne (e.trans e2.symm)
     simp only[e,if_true] at h1;simp only[e',if_false] at h2;cases h1;obtain ⟨g2,e1,_,e3⟩:=h.1 z hz _ h2;cases e1;exact Nat.ne_of_gt e3.lt
   · by_cases e' : z.i = x.i
     · simp only[e,if_false] at h1
       simp only[e',if_true] at h2;cases h2;obtain ⟨g2,e1,_,e3⟩:=h.1 y hy _ h1;cases e1;exact Nat.ne_of_lt e3.lt
     · simp only[e,if_false] at h1
       simp only[e',if_false] at h2;exact h.2 y hy z hz hne g g' h1 h2
def Gy (md : Region.Mode) (ops : Array Oper) (n : Nat) (al : List Al) : Bool :=
 decide ((al.map (·.i)).Nodup) && decide ((al.map (·.d)).Nodup) && (al.all fun x=>decide (x.i < n)) &&
 ((List.range n).all fun j=>(al.any fun x=>x.i == j) || match ops[j]? with
  | some o=>sG ops o al && o.after.all fun e=>!Region.binds md e || !(al.any fun x=>x.i == e.on)
  | none=>true)
theorem sim {n g : Nat} {al : List Al} {L : Act → Prop} {Q' : Exit → Act → World → Prop} {tl : List Oper} (hsel : Region.noSelect ops = true) (hs : Region.sinkB md ops n = true) (hc : Region.chainB md ops n = true) (hn : n < ops.size)
 (hal : ∀ x ∈ al,mW P md ops x) (hB : Gy md ops n al = true) (htl : ∀ j,tl[j]? = ops[n + j]?) (hgl : tl.length = g)
 (hL : ∀ a E w,dL w0 w → vH w0.heap.size E al w → (∀ x ∈ al,∃ v,E x.i = some v) → L a → wpList P ops Q' tl (fJ E al a) w) :
 ∀ (k f : Nat) (E : Nat → Option Value) (lr lm : Array Bool) (a : Act) (w : World),k = f + Kk E al → HeadInv md ops n lr → lm.size = lr.size → (∀ j,lm.getD j false = (lr.getD j false || al.any fun x=>x.i == j)) →
  (∀ x ∈ al,(E x.i = none ↔ lr.getD x.i false = false)) → dL w0 w → vH w0.heap.size E al w →
  By P md ops w0 n (fun listed' a'=>Region.seqB md ops g n listed' = true ∧ L a') f lm a → wpAny P md ops Q' (k + g) lr (fJ E al a) w:=by
 simp only[Gy,Bool.and_eq_true,decide_eq_true_eq,List.all_eq_true,List.mem_range] at hB;obtain ⟨⟨⟨hni,hnd⟩,hlt⟩,hcl⟩:=hB;intro k
 induction k with
 | zero =>
  intro f E lr lm a w hk inv hsz hlm hE hx hla H;obtain rfl : f = 0:=by omega
  have h0 : Kk E al = 0:=by omega
  have hall:=Jc h0;have heq : lm = lr:=by
   apply Array.ext hsz;intro j h1 h2;have h3:=hlm j;simp only[Array.getD_eq_getD_getElem?,Array.getElem?_eq_getElem h1,Array.getElem?_eq_getElem h2,Option.getD_some] at h3;rw [h3];cases hlr : lr[j] with
   | true=>rfl
   | false =>
    rw [Bool.false_or];cases hany : al.any fun x=>x.i == j with
    | false=>rfl
    | true =>
     obtain ⟨x,hx1,hx2⟩:=List.any_eq_true.1 hany;have hx3 : x.i = j:=by simpa using hx2
     obtain ⟨v,hv⟩:=hall x hx1;have : lr.getD x.i false = false:=by
      rw [hx3,Array.getD_eq_getD_getElem?,Array.getElem?_eq_getElem h2]; simpa using hlr
     rw [(hE x hx1).2 this] at hv;cases hv
  subst heq;obtain ⟨H1,H2⟩:=H;rw [Nat.zero_add,← hgl];exact wpAny_of_seq (md:=md) tl n lm _ w htl (by rw [hgl]; exact H1) (hL a E w hx hla hall H2)
 | succ k ih =>
  intro f E lr lm a w hk inv hsz hlm hE hx hla H;have getT : ∀ j,j < ops.size → lr.getD j false = false → lr.getD j true = false:=fun j hj h=>getD_in (by rw [inv.size]; exact hj) h
  -- some head operation is not listed
  have hsome : ∃ j,j ∈ Region.ready md ops lr ∧ j < n:=by
   rcases Nat.eq_zero_or_pos (Kk E al) with h0 | h0
   · obtain ⟨f,rfl⟩ : ∃ q,f = q + 1:=⟨f - 1,by omega⟩
     obtain ⟨hne,hr⟩:=H;obtain ⟨j,hj⟩:=List.exists_mem_of_ne_nil _ hne;have hjn:=(hr j hj).1;refine ⟨j,?_,hjn⟩;have hall:=Jc h0;obtain ⟨hju,oj,hoj,hpre⟩:=mem_ready.1 hj;refine mem_ready.2 ⟨?_,oj,hoj,fun e he hb=>?_⟩
     · have h1:=hlm j
       rw [getD_both hju] at h1;have h2 : lr.getD j false = false:=by
        cases h : lr.getD j false with
        | false=>rfl
        | true=>rw [h] at h1; simp at h1
       exact getT j (by omega) h2
     · have h1:=hlm e.on
       rw [hpre e he hb] at h1;cases h : lr.getD e.on false with
       | true=>rfl
       | false =>
        rw [h,Bool.false_or] at h1;obtain ⟨x,hx1,hx2⟩:=List.any_eq_true.1 h1.symm;have hx3 : x.i = e.on:=by simpa using hx2
        obtain ⟨v,hv⟩:=hall x hx1;rw [(hE x hx1).2 (by rw [hx3]; exact h)] at hv;cases hv
   · obtain ⟨x,hx1,hx2⟩:=Vt h0
     obtain ⟨ty,pos,after,hop,haf,_⟩:=hal x hx1;have hxn : x.i < n:=by simpa using hlt x hx1
     refine ⟨x.i,mem_ready.2 ⟨getT _ (by omega) ((hE x hx1).1 hx2),_,hop,fun e he hb=>?_⟩,hxn⟩;have:=Array.all_eq_true_iff_forall_mem.1 haf e he;simp [hb] at this
  obtain ⟨j0,hj0,hj0n⟩:=hsome;have hj0u:=(mem_ready.1 hj0).1;rw [show k + 1 + g = (k + g) + 1 by omega];refine ⟨fun h=>(by rw [h] at hj0; cases hj0),fun i hi=>?_⟩;have hin : i < n:=by
   rcases Nat.lt_or_ge i n with h | h
   · exact h
   · exact absurd hi (tail_waits hs hc hn inv _ j0 rfl hj0n hj0u i h)
  obtain ⟨hiu,oi,hoi,hpre⟩:=mem_ready.1 hi;by_cases hia : al.any (fun x=>x.i == i) = true
  · -- an allocation
    obtain ⟨x,hx1,hx2⟩:=List.any_eq_true.1 hia;obtain rfl : x.i = i:=by simpa using hx2
    obtain ⟨ty,pos,after,hop,haf,z,hz,hzc⟩:=hal x hx1;have hex : E x.i = none:=(hE x hx1).2 (getD_both hiu);obtain ⟨inf,hinf,hinz⟩:=hz;unfold wpOp;simp only[hop];rw [if_pos (by simp [Region.wanted])];refine .inl ?_;have hrun : ∀ ρ : Operand → Value,(execOp ρ (Oper.mk (some x.d) (.alloc x.T) ty pos after none)).run P w = .ok (.value (.pointer (some ⟨w.heap.size,0,none⟩))) (w.alloc (.cells x.cs.toArray x.T)):=fun ρ=>by
     simp [execOp,Instr.alloc,zeroValue,typeInfo,hinf,hinz,newVar,newRow,hzc,newObj,Sem.run]
    unfold Oper.wp;rw [hrun];show wpAny P md ops Q' (k + g) (lr.setIfInBounds x.i true) ((fJ E al a).put (some x.d) (.pointer (some ⟨w.heap.size,0,none⟩))) _
    rw [Ca hni hnd hx1 hex];have hc1:=Nc (v:=.pointer (some ⟨w.heap.size,0,none⟩)) hni hx1 hex;have hxs : x.i < lr.size:=by rw [inv.size]; omega
    refine ih f _ _ lm a _ (by omega) (inv.set hi hin) (by simp [hsz]) (fun j=>?_) (fun y hy=>?_) (hx.alloc _) (hla.new hx1 hni hex hx.size) H
    · rw [hlm j]
      by_cases e : x.i = j
      · subst e
        rw [hia];simp
      · rw [getD_set_ne false e]
    · by_cases e : x.i = y.i
      · rw [← e]
        simp [hxs]
      · rw [getD_set_ne false e]
        simp only[Ne.symm e,if_false];exact hE y hy
  · -- an operation that computes
    have hia' : al.any (fun x=>x.i == i) = false:=by simpa using hia
    have hci:=hcl i hin;rw [hia',Bool.false_or,hoi] at hci;simp only[Bool.and_eq_true] at hci;have hready : i ∈ Region.ready md ops lm:=by
     refine mem_ready.2 ⟨?_,oi,hoi,fun e he hb=>by rw [hlm,hpre e he hb]; rfl⟩;have h1:=hlm i;rw [getD_both hiu,hia'] at h1;exact getD_in (by rw [hsz,inv.size]; omega) (by simpa using h1)
    cases f with
    | zero =>
     obtain ⟨H1,H2⟩:=H;have:=seqB_ready H1 i hready;omega
    | succ f =>
     obtain ⟨_,o,v,ho,hy,hK⟩:=H.2 i hready;rw [hoi] at ho;cases ho;have hse : ∀ cs b,oi.op ≠ .select cs b:=fun cs b=>Region.noSelect_spec hsel i oi cs b hoi;obtain ⟨e1,e2⟩:=tE (E:=E) hse hci.1 a;have hy':=hy.of_same e1 e2;have key : ∀ w',dL w w' → wpAny P md ops Q' (k + g) (lr.setIfInBounds i true) ((fJ E al a).put oi.dst v) w':=fun w' hw'=>by
      rw [vG hci.1];refine ih f E _ _ _ w' (by omega) (inv.set hi hin) (by simp [hsz]) (fun j=>?_) (fun y hy=>?_) (hx.trans hw') (hla.ext hw') hK
      · by_cases e : i = j
        · subst e
          have h1 : i < lr.size:=by rw [inv.size]; omega
          simp [h1,hsz]
        · rw [getD_set_ne false e,getD_set_ne false e,hlm j]
      · have e : i ≠ y.i:=fun e=>by
         have : al.any (fun x=>x.i == i) = true:=List.any_eq_true.2 ⟨y,hy,by simp [e]⟩;rw [hia'] at this; cases this
        rw [getD_set_ne false e];exact hE y hy
     unfold wpOp;simp only[hoi];rcases hy' with ⟨hw,hv⟩ | ⟨hw,rfl⟩
     · rw [if_pos hw]
       refine .inl ?_;have h3:=hv w hx;unfold Oper.quietAt at h3;unfold Oper.wp;generalize (execOp (fJ E al a).eval oi).run P w = r at *
       cases r with
       | ok nx w' =>
        cases nx <;> simp only[Oper.quietUpon] at h3 <;> simp only[Oper.upon]
        case value u =>
         obtain ⟨e1,e2⟩:=h3;rw [e1,e2];exact key w (dL.refl w)
        case skip =>
         obtain ⟨e1,e2⟩:=h3;rw [e1,← e2];exact key w (dL.refl w)
        case enter f' args =>
         obtain ⟨e1,hcl⟩:=h3;rw [e1];exact hcl.mono fun e w'' ⟨he,hw''⟩=>by subst he; exact key w'' hw''
       | halt x w'=>simp only[Oper.quietUpon] at h3
     · rw [if_neg (by rw [hw]; simp)]
       exact key w (dL.refl w)
theorem eF {id : Nat} {Q : Exit → Act → World → Prop} {a : Act} {w : World} {l : List Oper} (n : Nat) (idx : List Nat) (al : List Al) (hm : P.follows .mixedOrders = true)
 (hB : (Region.noSelect l.toArray && decide (n < l.length) && Region.sinkB .any l.toArray n && Region.chainB .any l.toArray n && Gy .any l.toArray n al && decide (n = idx.length + al.length) &&
  So .any l.toArray (l.length - n) n idx (al.foldl (fun s x=>s.setIfInBounds x.i true) (Array.replicate l.toArray.size false))) = true)
 (hal : ∀ x ∈ al,mW P .any l.toArray x) {ol : List Oper} (hol : (idx.map fun i=>(l.toArray[i]?).getD default) = ol)
 (h : ∀ w1,dL w w1 → tD P l.toArray w1 (fun a'=>∀ E w',dL w1 w' → vH w1.heap.size E al w' → (∀ x ∈ al,∃ v,E x.i = some v) → wpList P l.toArray Q (l.drop n) (fJ E al a') w') ol a) : (Code.region id l.toArray true).wp P Q a w:=by
 simp only[Bool.and_eq_true,decide_eq_true_eq] at hB;obtain ⟨⟨⟨⟨⟨⟨hsel,hn⟩,hs⟩,hc⟩,hf⟩,hlen⟩,hlex⟩:=hB;subst hol;have hn' : n < l.toArray.size:=by simpa using hn
 have hf':=hf;simp only[Gy,Bool.and_eq_true,decide_eq_true_eq,List.all_eq_true,List.mem_range] at hf';obtain ⟨⟨⟨hni,hnd⟩,hlt⟩,hcl⟩:=hf';generalize hlm : al.foldl (fun s x=>s.setIfInBounds x.i true) (Array.replicate l.toArray.size false) = lm at hlex;have hfold : ∀ (r : List Al) (s : Array Bool),(r.foldl (fun s x=>s.setIfInBounds x.i true) s).size = s.size ∧ ∀ j,j < s.size → (r.foldl (fun s x=>s.setIfInBounds x.i true) s).getD j false = (s.getD j false || r.any fun x=>x.i == j):=by
  intro r
  induction r with
  | nil=>intro s; exact ⟨rfl,fun j _=>by simp⟩
  | cons x r ih =>
   intro s;obtain ⟨h1,h2⟩:=ih (s.setIfInBounds x.i true);refine ⟨by rw [List.foldl_cons,h1]; simp,fun j hj=>?_⟩;rw [List.foldl_cons,h2 j (by simpa using hj),List.any_cons];by_cases e : x.i = j
   · subst e
     simp [hj]
   · have e2 : (x.i == j) = false:=by simpa using e
     rw [getD_set_ne false e,e2,Bool.false_or]
 obtain ⟨hsz,hget⟩:=hfold al (Array.replicate l.toArray.size false);rw [hlm] at hsz hget;have hsz' : lm.size = l.toArray.size:=by rw [hsz]; simp
 have hlmj : ∀ j,lm.getD j false = al.any fun x=>x.i == j:=fun j=>by
  rcases Nat.lt_or_ge j l.toArray.size with hj | hj
  · rw [hget j (by simpa using hj),getD_replicate_false,Bool.false_or]
  · have h1 : lm.getD j false = false:=by rw [Array.getD_eq_getD_getElem?,Array.getElem?_eq_none (by omega)]; rfl
    rw [h1]
    symm
    rw [Bool.eq_false_iff];intro h2;obtain ⟨x,hx1,hx2⟩:=List.any_eq_true.1 h2;have hx3 : x.i = j:=by simpa using hx2
    have : x.i < n:=by simpa using hlt x hx1
    omega
 have inv0 : HeadInv .any l.toArray n (Array.replicate l.toArray.size false) :=
  ⟨by simp,fun j oj _ hl=>(by rw [getD_replicate_false] at hl; cases hl),fun t _ ht=>getD_in (by simpa using ht) (getD_replicate_false _ _)⟩
 have invm : HeadInv .any l.toArray n lm:=by
  refine ⟨hsz',fun j oj hoj hl e he hb=>?_,fun t ht ht'=>getD_in (by rw [hsz']; exact ht') ?_⟩
  · rw [hlmj] at hl
    obtain ⟨x,hx1,hx2⟩:=List.any_eq_true.1 hl;have hx3 : x.i = j:=by simpa using hx2
    obtain ⟨ty,pos,after,hop,haf,_⟩:=hal x hx1;rw [hx3,hoj] at hop;cases hop;have:=Array.all_eq_true_iff_forall_mem.1 haf e he;simp [hb] at this
  · rw [hlmj,Bool.eq_false_iff]
    intro h2;obtain ⟨x,hx1,hx2⟩:=List.any_eq_true.1 h2;have hx3 : x.i = t:=by simpa using hx2
    have : x.i < n:=by simpa using hlt x hx1
    omega
 refine wp_region_any hm ?_;obtain ⟨w1,hw1⟩ : ∃ w1,w1 = ({ w with drawn:=w.drawn + 1 } : World):=⟨_,rfl⟩
 rw [← hw1];have hx1 : dL w w1:=by rw [hw1]; exact (dL.refl w).drawn
 have H:=Bz (md:=.any) (g:=l.length - n) hsel hs hc hn' idx lm a invm hlex (h w1 hx1);have hcnt : Kk (fun _=>none) al = al.length:=by
  unfold Kk;simp
 have key:=sim (md:=.any) (P:=P) (ops:=l.toArray) (w0:=w1) (Q':=Q) (tl:=l.drop n) (g:=l.length - n) (al:=al) hsel hs hc hn' hal hf (fun j=>by simp [List.getElem?_drop]) (by simp) (fun a E w' hw' hla hall hL=>hL E w' hw' hla hall)
  (idx.length + al.length) idx.length (fun _=>none) (Array.replicate l.toArray.size false) lm a w1 (by rw [hcnt]) inv0 (by rw [hsz']; simp) (fun j=>by rw [getD_replicate_false,Bool.false_or]; exact hlmj j)
  (fun x _=>⟨fun _=>getD_replicate_false _ _,fun _=>rfl⟩) (dL.refl w1) ⟨fun x _ v hv=>(by cases hv),fun x _ y _ _ g g' h1 _=>(by cases h1)⟩ H
 have hap : ∀ r : List Al,fJ (fun _=>none) r a = a:=by
  intro r
  induction r with
  | nil=>rfl
  | cons x r ih=>exact ih
 rw [hap,← hlen] at key;have e : n + (l.length - n) = l.toArray.size:=by rw [List.size_toArray]; omega
 rwa [e] at key
end
section
variable {P : Program} {ops : Array Oper} {w0 : World} {L : Act → Prop} {ds : List Deferred} {l : List Value} {rest : List Oper} {d : Nat} {op : Op} {ty : TypeId} {pos : String} {after : Array Edge} {v : Value} {x y : Operand} {T : TypeId}
theorem Sp (hr : ∀ w,dL w0 w → Am P l op ty v w) (h : tD P ops w0 L rest (Fr (l.set d v) ds)) : tD P ops w0 L (Oper.mk (some d) op ty pos after none :: rest) (Fr l ds):=by
 refine ⟨v,.inl ⟨by simp [Region.wanted],fun w hw=>?_⟩,?_⟩
 · unfold Oper.quietAt
   rw [iX,hr w hw _ rfl rfl];exact ⟨rfl,rfl⟩
 · show tD P ops w0 L rest ((Fr l ds).put (some d) v)
   rw [iP];exact h
theorem jH (hr : gQ P l op ty v) (h : tD P ops w0 L rest (Fr (l.set d v) ds)) : tD P ops w0 L (Oper.mk (some d) op ty pos after none :: rest) (Fr l ds):=Sp (fun w _=>hr w) h
theorem eM {a : Addr} (hx : ev l x = .pointer (some a)) (hv : ∀ w',dL w0 w' → qT P w' T a v) (h : tD P ops w0 L rest (Fr (l.set d v) ds)) : tD P ops w0 L (Oper.mk (some d) (.load T x) ty pos after none :: rest) (Fr l ds) :=
 Sp (fun _ hE=>kS hx (hv _ hE)) h
theorem Vu {f : FuncId} {fo : Operand} {xs : Array Operand} {args : List Value} {first cap : Array Value} {a0 : Array TypeId} (hf : ev l fo = .func (.func f) first cap) (hxs : first.toList ++ xs.toList.map (ev l) ++ cap.toList = args) (hc : ∀ w',dL w0 w' → iL P f args w' fun u _=>u = v)
 (h : tD P ops w0 L rest (Fr (l.set d v) ds)) : tD P ops w0 L (Oper.mk (some d) (.call { callee:=.value fo,args:=xs,argTypes:=a0 }) ty pos after none :: rest) (Fr l ds):=by
 refine ⟨v,.inl ⟨by simp [Region.wanted],fun w hw=>?_⟩,?_⟩
 · unfold Oper.quietAt
   rw [iX,nQ (hc w hw).1 hf hxs _ rfl];refine ⟨rfl,(hc w hw).2.mono ?_⟩;rintro e w'' ⟨u,rfl,hE,rfl⟩;exact ⟨rfl,hE⟩
 · show tD P ops w0 L rest ((Fr l ds).put (some d) v)
   rw [iP];exact h
theorem eD {f : FuncId} {fo : Operand} {xs : Array Operand} {args : List Value} {first cap : Array Value} {a0 : Array TypeId} (hf : ev l fo = .func (.func f) first cap) (hxs : first.toList ++ xs.toList.map (ev l) ++ cap.toList = args) (hc : dP P f args v)
 (h : tD P ops w0 L rest (Fr (l.set d v) ds)) : tD P ops w0 L (Oper.mk (some d) (.call { callee:=.value fo,args:=xs,argTypes:=a0 }) ty pos after none :: rest) (Fr l ds) :=
 Vu hf hxs (fun w' _=>hc w') h
theorem qA (h : L (Fr l ds)) : tD P ops w0 L [] (Fr l ds):=h
theorem Vv {md : Region.Mode} {x : Al} (h : mW P md ops x) : ∀ y ∈ [x],mW P md ops y:=fun y hy=>by
 rcases List.mem_cons.1 hy with rfl | hy
 · exact h
 · cases hy
theorem al2 {md : Region.Mode} {x y : Al} (h : mW P md ops x) (k : mW P md ops y) : ∀ z ∈ [x,y],mW P md ops z:=fun z hz=>by
 rcases List.mem_cons.1 hz with rfl | hz
 · exact h
 · exact Vv k z hz
variable {Q : Exit → Act → World → Prop} {tl : List Oper}
theorem aaW {i d : Nat} {T : TypeId} {cs : List Value} (h : ∀ w' g,dL w0 w' → w0.heap.size ≤ g → fW w' g cs T → wpList P ops Q tl (Fr (l.set d (.pointer (some ⟨g,0,none⟩))) ds) w') :
 ∀ E w',dL w0 w' → vH w0.heap.size E [⟨i,d,T,cs⟩] w' → (∀ x ∈ [(⟨i,d,T,cs⟩ : Al)],∃ v,E x.i = some v) → wpList P ops Q tl (fJ E [⟨i,d,T,cs⟩] (Fr l ds)) w':=fun E w' hE hL hv=>by
 obtain ⟨v,hv⟩:=hv ⟨i,d,T,cs⟩ (by simp);obtain ⟨g,rfl,hg,hB⟩:=hL.1 ⟨i,d,T,cs⟩ (by simp) v hv;have e : fJ E [⟨i,d,T,cs⟩] (Fr l ds) = Fr (l.set d (.pointer (some ⟨g,0,none⟩))) ds:=by
  simp only[fJ,hv];exact iP _ _
 rw [e];exact h w' g hE hg hB
theorem aaX {i d j e : Nat} {T U : TypeId} {cs us : List Value} (hij : i ≠ j) (h : ∀ w' g k,dL w0 w' → w0.heap.size ≤ g → w0.heap.size ≤ k → fW w' g cs T → fW w' k us U → k ≠ g → wpList P ops Q tl (Fr ((l.set d (.pointer (some ⟨g,0,none⟩))).set e (.pointer (some ⟨k,0,none⟩))) ds) w') :
 ∀ E w',dL w0 w' → vH w0.heap.size E [⟨i,d,T,cs⟩,⟨j,e,U,us⟩] w' → (∀ x ∈ [(⟨i,d,T,cs⟩ : Al),⟨j,e,U,us⟩],∃ v,E x.i = some v) → wpList P ops Q tl (fJ E [⟨i,d,T,cs⟩,⟨j,e,U,us⟩] (Fr l ds)) w':=fun E w' hE hL hv=>by
 obtain ⟨v,h1⟩:=hv ⟨i,d,T,cs⟩ (by simp);obtain ⟨u,h2⟩:=hv ⟨j,e,U,us⟩ (by simp);obtain ⟨g,rfl,hg,hB⟩:=hL.1 ⟨i,d,T,cs⟩ (by simp) v h1;obtain ⟨k,rfl,hk,hK⟩:=hL.1 ⟨j,e,U,us⟩ (by simp) u h2;have e' : fJ E [⟨i,d,T,cs⟩,⟨j,e,U,us⟩] (Fr l ds) = Fr ((l.set d (.pointer (some ⟨g,0,none⟩))).set e (.pointer (some ⟨k,0,none⟩))) ds:=by
  simp only[fJ,h1,h2];rw [iP,iP]
 rw [e'];exact h w' g k hE hg hk hB hK (Ne.symm (hL.2 ⟨i,d,T,cs⟩ (by simp) ⟨j,e,U,us⟩ (by simp) hij g k h1 h2))
end
end Go.Lith
namespace Go.Lith
section
variable {P : Program} {ops : Array Oper} {w0 : World} {ds : List Deferred} {l : List Value} {Q : Exit → Act → World → Prop} {tl : List Oper}
theorem al3 {md : Region.Mode} {x y z : Al} (h : mW P md ops x) (k : mW P md ops y) (m : mW P md ops z) : ∀ u ∈ [x,y,z],mW P md ops u:=fun u hu=>by
 rcases List.mem_cons.1 hu with rfl | hu
 · exact h
 · exact al2 k m u hu
theorem aaY {i d j e m f : Nat} {T U V : TypeId} {cs us vs : List Value} (hij : i ≠ j) (him : i ≠ m) (hjm : j ≠ m)
 (h : ∀ w' g k p,dL w0 w' → w0.heap.size ≤ g → w0.heap.size ≤ k → w0.heap.size ≤ p → fW w' g cs T → fW w' k us U → fW w' p vs V → k ≠ g → p ≠ g → p ≠ k → wpList P ops Q tl (Fr (((l.set d (.pointer (some ⟨g,0,none⟩))).set e (.pointer (some ⟨k,0,none⟩))).set f (.pointer (some ⟨p,0,none⟩))) ds) w') :
 ∀ E w',dL w0 w' → vH w0.heap.size E [⟨i,d,T,cs⟩,⟨j,e,U,us⟩,⟨m,f,V,vs⟩] w' → (∀ x ∈ [(⟨i,d,T,cs⟩ : Al),⟨j,e,U,us⟩,⟨m,f,V,vs⟩],∃ v,E x.i = some v) → wpList P ops Q tl (fJ E [⟨i,d,T,cs⟩,⟨j,e,U,us⟩,⟨m,f,V,vs⟩] (Fr l ds)) w':=fun E w' hE hL hv=>by
 obtain ⟨v,h1⟩:=hv ⟨i,d,T,cs⟩ (by simp);obtain ⟨u,h2⟩:=hv ⟨j,e,U,us⟩ (by simp);obtain ⟨s,h3⟩:=hv ⟨m,f,V,vs⟩ (by simp);obtain ⟨g,rfl,hg,hB⟩:=hL.1 ⟨i,d,T,cs⟩ (by simp) v h1;obtain ⟨k,rfl,hk,hK⟩:=hL.1 ⟨j,e,U,us⟩ (by simp) u h2;obtain ⟨p,rfl,hp,hP⟩:=hL.1 ⟨m,f,V,vs⟩ (by simp) s h3;have e' : fJ E [⟨i,d,T,cs⟩,⟨j,e,U,us⟩,⟨m,f,V,vs⟩] (Fr l ds) = Fr (((l.set d (.pointer (some ⟨g,0,none⟩))).set e (.pointer (some ⟨k,0,none⟩))).set f (.pointer (some ⟨p,0,none⟩))) ds:=by
  simp only[fJ,h1,h2,h3];rw [iP,iP,iP]
 rw [e'];exact h w' g k p hE hg hk hp hB hK hP (Ne.symm (hL.2 ⟨i,d,T,cs⟩ (by simp) ⟨j,e,U,us⟩ (by simp) hij g k h1 h2)) (Ne.symm (hL.2 ⟨i,d,T,cs⟩ (by simp) ⟨m,f,V,vs⟩ (by simp) him g p h1 h3)) (Ne.symm (hL.2 ⟨j,e,U,us⟩ (by simp) ⟨m,f,V,vs⟩ (by simp) hjm k p h2 h3))
end
end Go.Lith
namespace Go.Lith
open Go.RowKit
def nv (v : P3) : Go.Value:=.agg #[.int .i64 v.x,.int .i64 v.y,.int .i64 v.z]
def sg (v : P3) : Go.Value:=.agg #[.int .i64 (dG v.x),.int .i64 (dG v.y),.int .i64 (dG v.z)]
class S3 (p : P3) : Prop where
 x : p.x.natAbs < 262144
 y : p.y.natAbs < 262144
 z : p.z.natAbs < 262144
class N3 (p : P3) : Prop where
 x : p.x.natAbs < 524288
 y : p.y.natAbs < 524288
 z : p.z.natAbs < 524288
instance {p q : P3} [a : S3 p] [b : S3 q] : N3 (p.sub q):=⟨by have:=a.x; have:=b.x; simp only[P3.sub]; omega,by have:=a.y; have:=b.y; simp only[P3.sub]; omega,by have:=a.z; have:=b.z; simp only[P3.sub]; omega⟩
theorem yW {a b : Int} (ha : a.natAbs < 524288) (hb : b.natAbs < 524288) : -274877906944 < a * b ∧ a * b < 274877906944:=by
 have h : (a * b).natAbs ≤ 524287 * 524287:=by rw [Int.natAbs_mul]; exact Nat.mul_le_mul (by omega) (by omega)
 omega
theorem aaZ {x y : Int} (h : -274877906944 < x ∧ x < 274877906944) (k : -274877906944 < y ∧ y < 274877906944) : IntKind.i64.wrap (x - y) = x - y:=aQ (by omega) (by omega)
theorem Ep {x : Int} (h : -274877906944 < x ∧ x < 274877906944) : IntKind.i64.wrap x = x:=aQ (by omega) (by omega)
theorem sS {v : Int} (h : jG v) : IntKind.u64.wrap (if v < IntKind.i64.wrap (0 - v) then IntKind.i64.wrap (0 - v) else v) = (v.natAbs : Int):=by
 obtain ⟨h1,h2⟩:=h;rcases Int.lt_or_le (-9223372036854775808) v with h3 | h3
 · rw [aQ (x:=0 - v) (by omega) (by omega),jO]
   split <;> omega
 · obtain rfl : v = -9223372036854775808:=by omega
   decide
def Vw : ByteArray:=⟨#[0,1,2,2,3,3,3,3,4,4,4,4,4,4,4,4,5,5,5,5,5,5,5,5,5,5,5,5,5,5,5,5,6,6,6,6,6,6,6,6,6,6,6,6,6,6,6,6,6,6,6,6,6,6,6,6,6,6,6,6,6,6,6,6,7,7,7,7,7,7,7,7,7,7,7,7,7,7,7,7,7,7,7,7,7,7,7,7,7,7,7,7,7,7,7,7,7,7,7,7,7,7,7,7,7,7,7,7,7,7,7,7,7,7,7,7,7,7,7,7,7,7,7,7,7,7,7,7,8,8,8,8,8,8,8,8,8,8,8,8,8,8,8,8,8,8,8,8,8,8,8,8,8,8,8,8,8,8,8,8,8,8,8,8,8,8,8,8,8,8,8,8,8,8,8,8,8,8,8,8,8,8,8,8,8,8,8,8,8,8,8,8,8,8,8,8,8,8,8,8,8,8,8,8,8,8,8,8,8,8,8,8,8,8,8,8,8,8,8,8,8,8,8,8,8,8,8,8,8,8,8,8,8,8,8,8,8,8,8,8,8,8,8,8,8,8,8,8,8,8,8,8,8,8,8,8]⟩
theorem Pf : ∀ i,i < 256 → ∃ b : UInt8,Vw[i]? = some b ∧ b.toNat ≤ 8 ∧ (b.toNat ≤ 2 → i < 4):=by
 have h : (List.range 256).all (fun i=>match Vw[i]? with
  | some b=>decide (b.toNat ≤ 8) && (decide (2 < b.toNat) || decide (i < 4))
  | none=>false) = true:=by decide +kernel
 intro i hi;have:=List.all_eq_true.1 h i (List.mem_range.2 hi);cases hb : Vw[i]? with
 | none=>rw [hb] at this; cases this
 | some b =>
  rw [hb] at this;simp only[Bool.and_eq_true,Bool.or_eq_true,decide_eq_true_eq] at this;exact ⟨b,rfl,this.1,fun h=>by omega⟩
section
variable {P : Program} {ds : List Deferred} {l : List Value} {x y : Operand} {T ty : TypeId} {ops : Array Oper} {Q : Exit → Act → World → Prop} {rest : List Oper} {d : Nat} {pos : String} {after : Array Edge} {w : World} {k : IntKind}
theorem tF {Y : Nat} (hu : P.underlying T = some .string) (hx : ev l x = .string Vw) (hy : ev l y = .int k (Y : Int)) (hY : Y < 256) (h : ∀ b : Nat,b ≤ 8 → (b ≤ 2 → Y < 4) → wpList P ops Q rest (Fr (l.set d (.int .u8 (b : Int))) ds) w) :
 wpList P ops Q (Oper.mk (some d) (.index T x y) ty pos after none :: rest) (Fr l ds) w:=by
 obtain ⟨b,hb,h1,h2⟩:=Pf Y hY;exact aA (lU hu hx hy (by omega) (by rw [Int.toNat_natCast]; exact hb)) (h b.toNat h1 h2)
end
theorem Sq {m : Nat} : (m : Int).fdiv (2 ^ (min (16 : Int).toNat IntKind.u64.bits)) = ((m / 65536 : Nat) : Int):=by
 show (m : Int).fdiv (2 ^ 16) = _
 rw [Int.fdiv_eq_ediv_of_nonneg _ (by decide)];omega
theorem Nd {m : Nat} : (m : Int).fdiv (2 ^ (min (8 : Int).toNat IntKind.u64.bits)) = ((m / 256 : Nat) : Int):=by
 show (m : Int).fdiv (2 ^ 8) = _
 rw [Int.fdiv_eq_ediv_of_nonneg _ (by decide)];omega
end Go.Lith
namespace Go.Lith
open Go.RowKit
def T3.flat (t : T3) : Prop:=t.normal.x = 0 ∧ t.normal.y = 0 ∧ t.normal.z = 0
instance (t : T3) : Decidable t.flat:=inferInstanceAs (Decidable (_ ∧ _ ∧ _))
theorem gY {n : Int} : dG n = 0 ↔ n = 0:=by
 unfold dG;constructor
 · intro h
   split at h
   · cases h
   · split at h
     · cases h
     · omega
 · rintro rfl; rfl
theorem Sr {n : Int} : 0 ≤ dG n ↔ 0 ≤ n:=by
 unfold dG;split
 · constructor <;> intro h <;> omega
 · split <;> constructor <;> intro h <;> omega
theorem mX {n : Int} : 0 < dG n ↔ 0 < n:=by
 unfold dG;split
 · constructor <;> intro h <;> omega
 · split <;> constructor <;> intro h <;> omega
theorem Bq.mono {k m : Nat} {q : Rat} (h : Bq k q) (hk : k ≤ m) : Bq m q:=⟨h.n.mono hk,h.d.mono hk⟩
theorem wK : Bd 1 1:=by
 show Int.natAbs 1 < 2 ^ 1
 decide
structure dK (w : World) (A : Option Addr) (n : Nat) (ts : List T3) : Prop where
 len : ts.length = n
 it : ∀ t ∈ ts,IT t
 row : ∀ i t,ts[i]? = some t → ∃ a,A = some a ∧ qS w (a.add (i * 9)) [.int .i64 t.a.x,.int .i64 t.a.y,.int .i64 t.a.z,.int .i64 t.b.x,.int .i64 t.b.y,.int .i64 t.b.z,.int .i64 t.c.x,.int .i64 t.c.y,.int .i64 t.c.z]
theorem dK.ext {w w' : World} {A : Option Addr} {n : Nat} {ts : List T3} (h : dK w A n ts) (hE : dL w w') : dK w' A n ts :=
 ⟨h.len,h.it,fun i t hi=>let ⟨a,e,hr⟩:=h.row i t hi; ⟨a,e,hr.ext hE⟩⟩
theorem dK.nil (w : World) (A : Option Addr) : dK w A 0 []:=⟨rfl,fun t h=>(by cases h),fun i t h=>(by cases h)⟩
theorem dK.get {w : World} {A : Option Addr} {n : Nat} {ts : List T3} (h : dK w A n ts) {i : Nat} (hi : i < n) : ∃ t,ts[i]? = some t ∧ IT t ∧ ∃ a,A = some a ∧ qS w (a.add (i * 9)) [.int .i64 t.a.x,.int .i64 t.a.y,.int .i64 t.a.z,.int .i64 t.b.x,.int .i64 t.b.y,.int .i64 t.b.z,.int .i64 t.c.x,.int .i64 t.c.y,.int .i64 t.c.z]:=by
 have hl : i < ts.length:=by rw [h.len]; exact hi
 refine ⟨ts[i],List.getElem?_eq_getElem hl,h.it _ (List.getElem_mem hl),h.row i _ (List.getElem?_eq_getElem hl)⟩
end Go.Lith
namespace Go.Lith
open Go.RowKit
theorem dK.at {w : World} {a : Addr} {n i : Nat} {ts : List T3} {t : T3} (h : dK w (some a) n ts) (ht : ts[i]? = some t) : qS w (a.add (i * 9)) [.int .i64 t.a.x,.int .i64 t.a.y,.int .i64 t.a.z,.int .i64 t.b.x,.int .i64 t.b.y,.int .i64 t.b.z,.int .i64 t.c.x,.int .i64 t.c.y,.int .i64 t.c.z]:=by
 obtain ⟨a',ha,hr⟩:=h.row i t ht;cases ha;exact hr
theorem dK.empty {w : World} {A : Option Addr} {n : Nat} {ts : List T3} (h : dK w A n ts) (h0 : n = 0) : ts = []:=List.eq_nil_of_length_eq_zero (by rw [h.len]; exact h0)
end Go.Lith
namespace Go.Lith
open Go.RowKit
def eZ (t : T3) : List Go.Value:=[.int .i64 t.a.x,.int .i64 t.a.y,.int .i64 t.a.z,.int .i64 t.b.x,.int .i64 t.b.y,.int .i64 t.b.z,.int .i64 t.c.x,.int .i64 t.c.y,.int .i64 t.c.z]
theorem qS.pre {w : World} {a : Addr} {xs ys : List Go.Value} (h : qS w a (xs ++ ys)) : qS w a xs:=fun j u hj=>h j u (by
 have hl : j < xs.length:=(List.getElem?_eq_some_iff.1 hj).1;rw [List.getElem?_append_left hl]; exact hj)
theorem oB (t : T3) : (eZ t).length = 9:=rfl
theorem uE : ∀ (ts : List T3) (i : Nat) (t : T3),ts[i]? = some t → (ts.flatMap eZ).drop (i * 9) = eZ t ++ (ts.drop (i + 1)).flatMap eZ
 | [],i,t,h=>by cases h
 | u :: ts,0,t,h=>by
  cases h;rfl
 | u :: ts,i + 1,t,h=>by
  rw [List.flatMap_cons,show (i + 1) * 9 = (eZ u).length + i * 9 by rw [oB]; omega,List.drop_append,List.drop_of_length_le (by omega),List.nil_append];rw [show (eZ u).length + i * 9 - (eZ u).length = i * 9 by omega];exact uE ts i t h
theorem dK.of_cells {w : World} {g n : Nat} {ts : List T3} {T : TypeId} {cs : List Go.Value} (hB : fW w g cs T) (hc : cs = ts.flatMap eZ) (hn : ts.length = n) (hi : ∀ t ∈ ts,IT t) : dK w (some ⟨g,0,none⟩) n ts:=by
 subst hc;refine ⟨hn,hi,fun i t ht=>⟨_,rfl,?_⟩⟩;rw [fN,Nat.zero_add];have:=hB.row (i * 9);rw [uE ts i t ht] at this;exact this.pre
end Go.Lith
namespace Go.Lith
open Go.RowKit
abbrev Cb (A : Option Addr) : Option Nat:=A.map (·.block)
structure Ow (w0 w : World) (S : List (Option Nat)) (E : TypeId) (c : Nat) (A : Option Addr) (n cap : Nat) (xs : List Value) : Prop where
 own : w.ownsRow w0.heap.size E c (.slice A n cap) n xs
 sep : ∀ b,Cb A = some b → some b ∉ S
 bd : ∀ b,some b ∈ S → b < w.heap.size
structure Wr (w w' : World) (A : Option Addr) : Prop where
 os : w'.os = w.os
 tape : w'.tape = w.tape
 output : w'.output = w.output
 size : w.heap.size ≤ w'.heap.size
 block : ∀ k,k < w.heap.size → Cb A ≠ some k → w'.heap[k]? = w.heap[k]?
theorem lK {w : World} {base c n cap : Nat} {E : TypeId} {A : Option Addr} {xs : List Value} (h : w.ownsRow base E c (.slice A n cap) n xs) :
 (A = none ∧ n = 0 ∧ cap = 0 ∧ xs = []) ∨ ∃ g cur,A = some ⟨g,0,none⟩ ∧ base ≤ g ∧ w.heap[g]? = some (.cells cur E (0,0)) ∧ n ≤ cap ∧ cap ≤ maxLen ∧ cur.size = cap * c ∧ cur.toList.take (n * c) = xs:=by
 rcases h.2 with ⟨h1,h2⟩ | ⟨g,cap',cur,h1,h2,h3,h4,h5,h6,h7⟩
 · cases h1
   exact .inl ⟨rfl,h2,rfl,List.eq_nil_of_length_eq_zero (by rw [h.1,h2,Nat.zero_mul])⟩
 · cases h1
   exact .inr ⟨g,cur,rfl,h2,h3,h4,h5,h6,h7⟩
section
variable {w0 w w' : World} {S : List (Option Nat)} {E : TypeId} {c n cap : Nat} {A : Option Addr} {xs : List Value}
theorem Ow.cases (h : Ow w0 w S E c A n cap xs) : (A = none ∧ n = 0 ∧ cap = 0 ∧ xs = []) ∨ ∃ g cur,A = some ⟨g,0,none⟩ ∧ w0.heap.size ≤ g ∧ w.heap[g]? = some (.cells cur E (0,0)) ∧ n ≤ cap ∧ cap ≤ maxLen ∧ cur.size = cap * c ∧ cur.toList.take (n * c) = xs:=lK h.own
theorem Ow.ge (h : Ow w0 w S E c A n cap xs) : ∀ b,Cb A = some b → w0.heap.size ≤ b:=fun b hb=>by
 rcases h.cases with ⟨rfl,_⟩ | ⟨g,cur,rfl,hg,_⟩
 · cases hb
 · cases hb
   exact hg
theorem Ow.le (h : Ow w0 w S E c A n cap xs) : n ≤ cap:=by
 rcases h.cases with ⟨_,rfl,rfl,_⟩ | ⟨g,cur,_,_,_,h1,_⟩
 · exact Nat.le_refl _
 · exact h1
theorem Ow.some (h : Ow w0 w S E c A n cap xs) (hn : 0 < n) : ∃ g,A = some ⟨g,0,none⟩:=by
 rcases h.cases with ⟨_,rfl,_⟩ | ⟨g,cur,rfl,_⟩
 · omega
 · exact ⟨g,rfl⟩
theorem Ow.row (h : Ow w0 w S E c A n cap xs) : ∀ j u,xs[j]? = Option.some u → ∃ a,A = Option.some a ∧ w.cell? (a.add j) = Option.some u:=fun j u hj=>by
 rcases h.cases with ⟨_,_,_,rfl⟩ | ⟨g,cur,rfl,_,hg,_,_,_,h4⟩
 · cases hj
 · refine ⟨_,rfl,?_⟩
   rw [fN,Nat.zero_add,cell_of_row w g j cur E (0,0) hg];rw [← h4,List.getElem?_take] at hj;split at hj
   · simpa using hj
   · cases hj
theorem Ow.rows {g : Nat} (h : Ow w0 w S E c (Option.some ⟨g,0,none⟩) n cap xs) : qS w ⟨g,0,none⟩ xs:=fun j u hj=>by
 obtain ⟨a,e,h1⟩:=h.row j u hj;cases e;exact h1
theorem Ow.nil (w0 w : World) (E : TypeId) (c : Nat) : Ow w0 w [] E c none 0 0 []:=⟨World.ownsRow_nil w _ E c,fun _ h=>(by cases h),fun _ h=>(by cases h)⟩
theorem Ow.mk' {g : Nat} {cs : List Value} (hB : fW w g cs E) (hg : w0.heap.size ≤ g) (hl : cs.length = n * c) (hm : n ≤ maxLen) : Ow w0 w [] E c (Option.some ⟨g,0,none⟩) n n cs :=
 ⟨⟨hl,.inr ⟨g,n,_,rfl,hg,hB,Nat.le_refl _,hm,by simpa using hl,by simp [← hl]⟩⟩,fun _ _ h=>(by cases h),fun _ h=>(by cases h)⟩
theorem Ow.as {ys : List Value} (h : Ow w0 w S E c A n cap xs) (e : xs = ys) : Ow w0 w S E c A n cap ys:=e ▸ h
end
section
variable {P : Program} {ds : List Deferred} {l : List Value} {x y : Operand} {T ty : TypeId}
variable {ops : Array Oper} {Q : Exit → Act → World → Prop} {rest : List Oper} {d : Nat} {pos : String} {after : Array Edge} {w w0 : World} {S : List (Option Nat)} {E : TypeId} {c n cap m mcap : Nat} {A B : Option Addr} {xs news : List Value}
theorem Wr.refl (w : World) (A : Option Addr) : Wr w w A:=⟨rfl,rfl,rfl,Nat.le_refl _,fun _ _ _=>rfl⟩
theorem Dr {t : TypeId} {i : TypeInfo} {z : Value} {bytes : Nat} (ht : P.underlying t = some (.slice E)) (hi : P.info? E = some i) (hz : i.zero = some z) (hsize : i.size = c) (hby : i.bytes = bytes) (hzs : z.cells.size = c) (hsz : 0 < c)
 (hown : Ow w0 w S E c A n cap xs) (hl : news.length = m * c) (hnews : ∀ j u,news[j]? = some u → ∃ a,B = some a ∧ w.cell? (a.add j) = some u) (h1 : ∀ u ∈ news,u.oneCell' = true)
 (h63 : n + m ≤ maxLen) (hbytes : (n + m) * bytes ≤ 140737488355328) (hbase : w0.heap.size ≤ w.heap.size) :
 ∃ A' cap' w',(Builtin.append_ #[t,t] ty #[.slice A n cap,.slice B m mcap]).run P w = .ok (.slice A' (n + m) cap') w' ∧ Ow w0 w' S E c A' (n + m) cap' (xs ++ news) ∧ Wr w w' A ∧ (A' = A ∨ Cb A' = some w.heap.size):=by
 subst hsize;subst hby;have hsmall : n + m ≤ 9223372036854775807:=by simp only[maxLen] at h63; omega
 have hlen : (xs ++ news).length = (n + m) * i.size:=by rw [List.length_append,hown.own.1,hl,Nat.add_mul]
 have grown : ∀ (old : Nat),old < n + m →
  Ow w0 (w.drew.alloc (.cells (xs.toArray ++ news.toArray ++ Builtin.zeroCells z.cells (grownCap w (n + m) old E - (n + m))) E)) S E i.size
   (some ⟨w.heap.size,0,none⟩) (n + m) (grownCap w (n + m) old E) (xs ++ news) ∧
  Wr w (w.drew.alloc (.cells (xs.toArray ++ news.toArray ++ Builtin.zeroCells z.cells (grownCap w (n + m) old E - (n + m))) E)) A:=by
  intro old ho;have hge:=grownCap_ge w (n + m) old E;have hcm : grownCap w (n + m) old E ≤ maxLen:=grownCap_le_maxLen w (n + m) old E h63;refine ⟨⟨⟨hlen,.inr ⟨w.heap.size,_,_,rfl,hbase,heap_alloc_new w.drew _,hge,hcm,?_,?_⟩⟩,fun b hb hm=>?_,fun b hb=>?_⟩,⟨rfl,rfl,rfl,by simp,fun k hk _=>heap_alloc_old w.drew _ (h:=hk)⟩⟩
  · simp only[Array.size_append,List.size_toArray,size_zeroCells,hzs,hown.own.1,hl,← Nat.add_mul]
    congr 1
    omega
  · simp only[Array.toList_append,List.append_assoc]
    rw [← List.append_assoc,← hlen];exact List.take_left
  · have hb' : w.heap.size = b:=by simpa using hb
    subst hb';exact absurd (hown.bd _ hm) (Nat.lt_irrefl _)
  · have:=hown.bd _ hb
    have h2 : (w.drew.alloc (.cells (xs.toArray ++ news.toArray ++ Builtin.zeroCells z.cells (grownCap w (n + m) old E - (n + m))) E)).heap.size = w.heap.size + 1:=by simp
    rw [h2];omega
 have hB0 : B = none → m = 0 ∧ news = []:=fun hB=>by
  have hn : news = []:=by
   cases news with
   | nil=>rfl
   | cons u us=>obtain ⟨a,e,_⟩:=hnews 0 u rfl; rw [hB] at e; cases e
  subst hn;refine ⟨?_,rfl⟩;rcases Nat.eq_zero_or_pos m with h0 | h0
  · exact h0
  · have:=Nat.mul_pos h0 hsz; simp at hl; omega
 rcases hown.cases with ⟨rfl,rfl,rfl,rfl⟩ | ⟨g,cur,rfl,hbg,hg,hnc,hcm,hcs,htake⟩
 · by_cases hm : m = 0
   · subst hm
     have hn : news = []:=List.eq_nil_of_length_eq_zero (by simpa using hl);subst hn;refine ⟨none,0,w,?_,by simpa using hown,Wr.refl _ _,.inl rfl⟩;cases B <;> simp [Builtin.append_,run_underlying ht,sizeOf,typeInfo,hi,Builtin.lenOf,Builtin.firstCells,loadCells,loadCellsFrom]
   · cases B with
     | none=>exact absurd (hB0 rfl).1 hm
     | some a =>
      have hr:=run_append_nil (P:=P) w t ty E i z ht hi hz a m mcap news hl (fun j u hj=>by obtain ⟨a',e,h⟩:=hnews j u hj; cases e; exact h) (by omega) (by omega) (by have hb:=hbytes; simp only[Nat.zero_add] at hb; omega);have hgr:=grown 0 (by omega);simp only[Nat.zero_add,List.nil_append,Array.empty_append] at hgr ⊢;exact ⟨_,_,_,hr,hgr.1,hgr.2,.inr rfl⟩
 · cases B with
   | none =>
    obtain ⟨rfl,rfl⟩:=hB0 rfl;refine ⟨some ⟨g,0,none⟩,cap,w,?_,by simpa using hown,Wr.refl _ _,.inl rfl⟩;simp [Builtin.append_,run_underlying ht,sizeOf,typeInfo,hi,Builtin.lenOf,Builtin.firstCells,hnc,storeCells]
   | some a =>
    have hnews' : ∀ j u,news[j]? = some u → w.cell? (a.add j) = some u:=fun j u hj=>by obtain ⟨a',e,h⟩:=hnews j u hj; cases e; exact h
    by_cases hroom : n + m ≤ cap
    · have hfit : n * i.size + news.length ≤ cur.size:=by rw [hl,hcs,← Nat.add_mul]; exact Nat.mul_le_mul_right _ hroom
      have hr:=run_append_room (P:=P) w t ty E i ht hi g n cap cur hg a m mcap news hl hnews' h1 hroom hfit;refine ⟨_,_,_,hr,⟨⟨hlen,.inr ⟨g,cap,_,rfl,hbg,setRow_heap w g cur _ E _ hg,hroom,hcm,?_,?_⟩⟩,hown.sep,fun b hb=>by simpa using hown.bd b hb⟩,⟨rfl,rfl,rfl,by simp,fun k _ hk=>setRow_other w g k _ (fun e=>hk (by rw [e]; rfl))⟩,.inl rfl⟩
      · simp only[List.size_toArray,List.length_append,List.length_take,List.length_drop,Array.length_toList]
        omega
      · rw [htake,← hlen]
        exact List.take_left
    · have hr:=run_append_grow (P:=P) w t ty E i z ht hi hz ⟨g,0,none⟩ n cap xs hown.own.1 hown.rows a m mcap news hl hnews' (by omega) (by omega) (growslice_fits (by omega) hbytes)
      have hgr:=grown cap (by omega);exact ⟨_,_,_,hr,hgr.1,hgr.2,.inr rfl⟩
theorem Pg {b : Nat} {z : Value} {a0 : Array TypeId} (ha : a0 = #[T,T]) (hu : P.underlying T = some (.slice E)) (hi : (P.info? E).map (fun i=>(i.size,i.bytes,i.zero)) = some (c,b,some z)) (hz : z.cells.size = c) (hc : 0 < c) (hX : dL w0 w)
 (hs : ev l x = .slice A n cap) (hown : Ow w0 w S E c A n cap xs) (hx : ev l y = .slice B m mcap) (hl : news.length = m * c) (hrow : ∀ j u,news[j]? = some u → ∃ a,B = some a ∧ w.cell? (a.add j) = some u) (h1 : ∀ u ∈ news,u.oneCell' = true) (h63 : n + m ≤ 9223372036854775807) (hbytes : (n + m) * b ≤ 140737488355328)
 (h : ∀ A' cap' w',Ow w0 w' S E c A' (n + m) cap' (xs ++ news) → Wr w w' A → (A' = A ∨ Cb A' = some w.heap.size) → wpList P ops Q rest (Fr (l.set d (.slice A' (n + m) cap')) ds) w') :
 wpList P ops Q (Oper.mk (some d) (.call { callee:=.builtin .append,args:=#[x,y],argTypes:=a0 }) ty pos after none :: rest) (Fr l ds) w:=by
 subst ha;cases hq : P.info? E with
 | none=>rw [hq] at hi; cases hi
 | some i =>
  rw [hq] at hi;simp only[Option.map_some,Option.some.injEq,Prod.mk.injEq] at hi;obtain ⟨e1,e2,e3⟩:=hi;obtain ⟨A',cap',w',hr,h2,h3,h4⟩:=Dr (P:=P) (w:=w) (ty:=ty) (mcap:=mcap) hu hq e3 e1 e2 hz hc hown hl hrow h1 (by simpa [maxLen] using h63) hbytes hX.size;exact lE (fun o ho hty=>by simp [execOp,ho,hty,resolve,invoke,builtin,dH,hs,hx,hr]) (h A' cap' w' h2 h3 h4)
end
theorem Ad (ts : List T3) : (ts.flatMap eZ).length = ts.length * 9:=by
 induction ts with
 | nil=>rfl
 | cons t ts ih=>rw [List.flatMap_cons,List.length_append,ih,oB,List.length_cons]; omega
theorem Ow.tris {w0 w : World} {S : List (Option Nat)} {E : TypeId} {A : Option Addr} {n cap : Nat} {ts : List T3} (h : Ow w0 w S E 9 A n cap (ts.flatMap eZ)) (hi : ∀ t ∈ ts,IT t) : dK w A n ts:=by
 refine ⟨?_,hi,fun i t ht=>?_⟩
 · have:=h.own.1; rw [Ad] at this; omega
 · have hr : ∀ j u,(eZ t)[j]? = Option.some u → (ts.flatMap eZ)[i * 9 + j]? = Option.some u:=fun j u hj=>by
    have hj' : j < (eZ t).length:=(List.getElem?_eq_some_iff.1 hj).1;rw [← List.getElem?_drop,uE ts i t ht,List.getElem?_append_left hj'];exact hj
   obtain ⟨a,e,_⟩:=h.row _ _ (hr 0 _ rfl);refine ⟨a,e,fun j u hj=>?_⟩;obtain ⟨a',e',hc⟩:=h.row _ _ (hr j u hj);rw [e] at e';cases e';rw [mK];exact hc
theorem dK.cells {w : World} {A : Option Addr} {n : Nat} {ts : List T3} (h : dK w A n ts) : ∀ j u,(ts.flatMap eZ)[j]? = some u → ∃ a,A = some a ∧ w.cell? (a.add j) = some u:=fun j u hj=>by
 have hl : j < ts.length * 9:=by
  have:=(List.getElem?_eq_some_iff.1 hj).1;rwa [Ad] at this
 have hq : j / 9 < ts.length:=by omega
 have ht:=List.getElem?_eq_getElem hq;obtain ⟨a,e,hr⟩:=h.row _ _ ht;refine ⟨a,e,?_⟩;have hd:=uE ts (j / 9) _ ht;have hj' : (eZ ts[j / 9])[j % 9]? = some u:=by
  have : ((ts.flatMap eZ).drop (j / 9 * 9))[j % 9]? = some u:=by rw [List.getElem?_drop,show j / 9 * 9 + j % 9 = j by omega]; exact hj
  rw [hd,List.getElem?_append_left (by rw [oB]; omega)] at this;exact this
 have:=hr _ _ hj';rwa [mK,show j / 9 * 9 + j % 9 = j by omega] at this
theorem Vx : ∀ (t : T3),∀ u ∈ eZ t,u.oneCell' = true:=fun t u hu=>by
 simp only[eZ,List.mem_cons,List.not_mem_nil,or_false] at hu;rcases hu with rfl | rfl | rfl | rfl | rfl | rfl | rfl | rfl | rfl <;> rfl
theorem Jd (ts : List T3) : ∀ u ∈ ts.flatMap eZ,u.oneCell' = true:=fun u hu=>by
 obtain ⟨t,_,h⟩:=List.mem_flatMap.1 hu;exact Vx t u h
theorem fW.rowsO {w : World} {g : Nat} {cs : List Value} {t : TypeId} (h : fW w g cs t) : ∀ j u,cs[j]? = some u → ∃ a,some (⟨g,0,none⟩ : Addr) = some a ∧ w.cell? (a.add j) = some u:=fun j u hj=>⟨_,rfl,by have:=h.row 0; rw [List.drop_zero] at this; exact this j u hj⟩
section
variable {w0 w w' : World} {S : List (Option Nat)} {E : TypeId} {c n cap : Nat} {A : Option Addr} {xs : List Value}
end
end Go.Lith
namespace Go.Lith
open Go.RowKit
structure It where
 own : Nat → Prop
 P : World → Prop
 lt : ∀ w b,P w → own b → b < w.heap.size
 st : ∀ w w',P w → w.heap.size ≤ w'.heap.size → (∀ b,own b → w'.heap[b]? = w.heap[b]?) → P w'
def bI (g : Nat) (cs : List Value) (t : TypeId) : It where
 own b:=some g = some b
 P w:=fW w g cs t
 lt w b h e:=by cases e; exact h.lt
 st w w' h _ k:=(k g rfl).trans h
def oI (E : TypeId) (c : Nat) (A : Option Addr) (n cap : Nat) (xs : List Value) : It where
 own b:=Cb A = some b
 P w:=w.ownsRow 0 E c (.slice A n cap) n xs
 lt w b h e:=by
  rcases lK h with ⟨rfl,_⟩ | ⟨g,cur,rfl,_,hg,_⟩
  · cases e
  · cases e; exact (Array.getElem?_eq_some_iff.1 hg).1
 st w w' h _ k:=by
  refine ⟨h.1,?_⟩;rcases lK h with ⟨rfl,rfl,rfl,_⟩ | ⟨g,cur,rfl,h1,h2,h3⟩
  · exact .inl ⟨rfl,rfl⟩
  · exact .inr ⟨g,cap,cur,rfl,h1,(k g rfl).trans h2,h3⟩
def Ap (i j : It) : Prop:=∀ b,i.own b → j.own b → False
theorem Ap.symm {i j : It} (h : Ap i j) : Ap j i:=fun b h1 h2=>h b h2 h1
structure cR (w0 w : World) (is : List It) : Prop where
 ext : dL w0 w
 all : ∀ i ∈ is,i.P w
 ge : ∀ i ∈ is,∀ b,i.own b → w0.heap.size ≤ b
 nd : is.Pairwise Ap
def Je : List Bool → List It → List It
 | true :: bs,i :: is=>i :: Je bs is
 | false :: bs,_ :: is=>Je bs is
 | _,_=>[]
theorem tG : ∀ (bs : List Bool) (is : List It),(Je bs is).Sublist is
 | true :: bs,i :: is=>(tG bs is).cons_cons i
 | false :: bs,i :: is=>(tG bs is).cons i
 | [],is=>List.nil_sublist _
 | true :: bs,[]=>List.nil_sublist _
 | false :: bs,[]=>List.nil_sublist _
section
variable {w0 w w' : World} {is : List It}
theorem cR.refl (w : World) : cR w w []:=⟨dL.refl w,fun _ h=>(by cases h),fun _ h=>(by cases h),.nil⟩
theorem cR.ext' (m : cR w0 w is) (e : dL w w') : cR w0 w' is :=
 ⟨m.ext.trans e,fun i hi=>i.st w w' (m.all i hi) e.size fun b hb=>Below.block e b (i.lt w b (m.all i hi) hb),m.ge,m.nd⟩
theorem cR.sel (m : cR w0 w is) (bs : List Bool) : cR w0 w (Je bs is) :=
 ⟨m.ext,fun i hi=>m.all i ((tG bs is).subset hi),fun i hi=>m.ge i ((tG bs is).subset hi),m.nd.sublist (tG bs is)⟩
theorem cR.tl {i : It} (m : cR w0 w (i :: is)) : cR w0 w is:=⟨m.ext,fun j hj=>m.all j (List.mem_cons_of_mem _ hj),fun j hj=>m.ge j (List.mem_cons_of_mem _ hj),(List.pairwise_cons.1 m.nd).2⟩
theorem cR.get (m : cR w0 w is) (k : Nat) {i : It} (hk : is[k]? = some i) : i.P w:=m.all i (List.mem_of_getElem? hk)
theorem cR.b (m : cR w0 w is) (k : Nat) {g : Nat} {cs : List Value} {t : TypeId} (hk : is[k]? = some (bI g cs t)) : fW w g cs t:=m.get k hk
theorem cR.o (m : cR w0 w is) (k : Nat) {E : TypeId} {c n cap : Nat} {A : Option Addr} {xs : List Value} (hk : is[k]? = some (oI E c A n cap xs)) : Ow w0 w [] E c A n cap xs:=by
 have h : w.ownsRow 0 E c (.slice A n cap) n xs:=m.get k hk;refine ⟨⟨h.1,?_⟩,fun _ _ h=>(by cases h),fun _ h=>(by cases h)⟩;rcases lK h with ⟨rfl,rfl,rfl,_⟩ | ⟨g,cur,rfl,_,h2,h3⟩
 · exact .inl ⟨rfl,rfl⟩
 · exact .inr ⟨g,cap,cur,rfl,m.ge _ (List.mem_of_getElem? hk) g rfl,h2,h3⟩
theorem cR.bo (m : cR w0 w is) (k : Nat) {g : Nat} {cs : List Value} {t : TypeId} (hk : is[k]? = some (bI g cs t)) {n c : Nat} (hl : cs.length = n * c) (hm : n ≤ maxLen) : Ow w0 w [] t c (some ⟨g,0,none⟩) n n cs :=
 Ow.mk' (m.b k hk) (m.ge _ (List.mem_of_getElem? hk) g rfl) hl hm
theorem cR.toO (m : cR w0 w is) (k : Nat) {g : Nat} {cs : List Value} {t : TypeId} (hk : is[k]? = some (bI g cs t)) {n c : Nat} (hl : cs.length = n * c) (hm : n ≤ maxLen) : ∃ i,i = oI t c (some ⟨g,0,none⟩) n n cs ∧ i.P w:=⟨_,rfl,(m.bo k hk hl hm).own.1,.inr ⟨g,n,_,rfl,Nat.zero_le _,m.b k hk,Nat.le_refl _,hm,by simpa using hl,by simp [← hl]⟩⟩
theorem cR.new {i : It} (m : cR w0 w is) (e : dL w w') (hi : i.P w') (hg : ∀ b,i.own b → w.heap.size ≤ b) : cR w0 w' (i :: is):=by
 have m':=m.ext' e;refine ⟨m'.ext,fun j hj=>?_,fun j hj=>?_,List.pairwise_cons.2 ⟨fun j hj b h1 h2=>?_,m'.nd⟩⟩
 · rcases List.mem_cons.1 hj with rfl | hj
   · exact hi
   · exact m'.all j hj
 · rcases List.mem_cons.1 hj with rfl | hj
   · exact fun b hb=>Nat.le_trans m.ext.size (hg b hb)
   · exact m'.ge j hj
 · have:=j.lt w b (m.all j hj) h2
   have:=hg b h1;omega
theorem cR.newB {g : Nat} {cs : List Value} {t : TypeId} (m : cR w0 w is) (e : dL w w') (hg : w.heap.size ≤ g) (hB : fW w' g cs t) : cR w0 w' (bI g cs t :: is):=m.new e hB (fun b h=>by cases h; exact hg)
theorem cR.newO {S : List (Option Nat)} {E : TypeId} {c n cap : Nat} {A : Option Addr} {xs : List Value} (m : cR w0 w is) (e : dL w w') (h : Ow w w' S E c A n cap xs) : cR w0 w' (oI E c A n cap xs :: is):=by
 refine m.new e (i:=oI E c A n cap xs) ?_ h.ge;refine ⟨h.own.1,?_⟩;rcases h.cases with ⟨rfl,rfl,rfl,_⟩ | ⟨g,cur,rfl,_,h2,h3⟩
 · exact .inl ⟨rfl,rfl⟩
 · exact .inr ⟨g,cap,cur,rfl,Nat.zero_le _,h2,h3⟩
theorem cR.nilO (m : cR w0 w is) (E : TypeId) (c : Nat) : cR w0 w (oI E c none 0 0 [] :: is):=m.newO (dL.refl w) (Ow.nil w w E c)
theorem Ss {i i' : It} : ∀ (is : List It) (k : Nat),is.Pairwise Ap → is[k]? = some i → (∀ x ∈ is,Ap i x → Ap i' x) → (is.set k i').Pairwise Ap
 | [],_,_,h,_=>by cases h
 | j :: is,0,hp,h,hc=>by
  cases h;rw [List.set_cons_zero];have:=List.pairwise_cons.1 hp;exact List.pairwise_cons.2 ⟨fun x hx=>hc x (List.mem_cons_of_mem _ hx) (this.1 x hx),this.2⟩
 | j :: is,k + 1,hp,h,hc=>by
  rw [List.set_cons_succ];have hp':=List.pairwise_cons.1 hp;have h' : is[k]? = some i:=h;refine List.pairwise_cons.2 ⟨fun x hx=>?_,Ss is k hp'.2 h' fun x hx=>hc x (List.mem_cons_of_mem _ hx)⟩;rcases List.mem_or_eq_of_mem_set hx with hx | rfl
  · exact hp'.1 x hx
  · exact (hc j (List.mem_cons_self ..) (hp'.1 i (List.mem_of_getElem? h')).symm).symm
theorem cR.put {i i' : It} (m : cR w0 w is) (k : Nat) (hk : is[k]? = some i) (hos : w'.os = w.os) (ht : w'.tape = w.tape) (ho : w'.output = w.output) (hs : w.heap.size ≤ w'.heap.size) (hb : ∀ b,b < w.heap.size → ¬ i.own b → w'.heap[b]? = w.heap[b]?)
 (hi : i'.P w') (hid : (∀ b,i'.own b → i.own b) ∨ ∀ b,i'.own b → w.heap.size ≤ b) : cR w0 w' (is.set k i'):=by
 have hmem:=List.mem_of_getElem? hk;refine ⟨⟨hos.trans m.ext.os,ht.trans m.ext.tape,ho.trans m.ext.output,Nat.le_trans m.ext.size hs,fun b hlt=>(hb b (Nat.lt_of_lt_of_le hlt m.ext.size) fun e=>?_).trans (Below.block m.ext b hlt)⟩,fun j hj=>?_,fun j hj b hjb=>?_,Ss is k m.nd hk fun x hx ha b h1 h2=>?_⟩
 · have:=m.ge i hmem b e
   omega
 · obtain ⟨q,hq,e⟩:=List.getElem_of_mem hj
   rw [List.getElem_set] at e;split at e
   · subst e; exact hi
   · rename_i hne
     rw [List.length_set] at hq;have hj' : j ∈ is:=e ▸ List.getElem_mem hq;have hq' : is[q]? = some j:=by rw [← e]; exact List.getElem?_eq_getElem hq
     refine j.st w w' (m.all j hj') hs fun b hjb=>hb b (j.lt w b (m.all j hj') hjb) fun hib=>?_;have hklt : k < is.length:=(List.getElem?_eq_some_iff.1 hk).1;have hki : is[k] = i:=(List.getElem?_eq_some_iff.1 hk).2;rcases Nat.lt_or_gt_of_ne hne with h | h
     · have:=List.pairwise_iff_getElem.1 m.nd k q hklt hq h
       rw [hki,e] at this;exact this b hib hjb
     · have:=List.pairwise_iff_getElem.1 m.nd q k hq hklt h
       rw [hki,e] at this;exact this b hjb hib
 · rcases List.mem_or_eq_of_mem_set hj with hj | rfl
   · exact m.ge j hj b hjb
   · rcases hid with hid | hid
     · exact m.ge i hmem b (hid b hjb)
     · exact Nat.le_trans m.ext.size (hid b hjb)
 · rcases hid with hid | hid
   · exact ha b (hid b h1) h2
   · have:=hid b h1
     have:=x.lt w b (m.all x hx) h2;omega
theorem cR.re (m : cR w0 w is) (k : Nat) {g : Nat} {cs cs' : List Value} {t : TypeId} (hk : is[k]? = some (bI g cs t)) (hB : fW w g cs' t) : cR w0 w (is.set k (bI g cs' t)) :=
 m.put k hk rfl rfl rfl (Nat.le_refl _) (fun _ _ _=>rfl) hB (.inl fun _ h=>h)
theorem cR.reO (m : cR w0 w is) (k : Nat) {E : TypeId} {c n cap n' cap' : Nat} {A : Option Addr} {xs xs' : List Value} (hk : is[k]? = some (oI E c A n cap xs)) (h : Ow w0 w [] E c A n' cap' xs') : cR w0 w (is.set k (oI E c A n' cap' xs')):=by
 refine m.put k hk rfl rfl rfl (Nat.le_refl _) (fun _ _ _=>rfl) ?_ (.inl fun _ h=>h);refine ⟨h.own.1,?_⟩;rcases h.cases with ⟨rfl,rfl,rfl,_⟩ | ⟨g,cur,rfl,_,h2,h3⟩
 · exact .inl ⟨rfl,rfl⟩
 · exact .inr ⟨g,cap',cur,rfl,Nat.zero_le _,h2,h3⟩
theorem cR.own (m : cR w0 w is) (k : Nat) {g : Nat} {cs : List Value} {t : TypeId} (hk : is[k]? = some (bI g cs t)) {n c : Nat} (hl : cs.length = n * c) (hm : n ≤ maxLen) : cR w0 w (is.set k (oI t c (some ⟨g,0,none⟩) n n cs)):=by
 obtain ⟨i,rfl,h⟩:=m.toO k hk hl hm;exact m.put k hk rfl rfl rfl (Nat.le_refl _) (fun _ _ _=>rfl) h (.inl fun _ h=>h)
theorem cA {a b : Nat} (h : Nat.ble a b = true) : a ≤ b:=Nat.le_of_ble_eq_true h
theorem mJ {us : List Value} (h : (us.all (·.oneCell')) = true) : ∀ u ∈ us,u.oneCell' = true:=fun u hu=>List.all_eq_true.1 h u hu
end
section
variable {P : Program} {ds : List Deferred} {l : List Value} {x y : Operand} {T ty : TypeId}
variable {ops : Array Oper} {Q : Exit → Act → World → Prop} {rest : List Oper} {d : Nat} {pos : String} {after : Array Edge} {w w0 : World} {is : List It}
theorem adp {cs : List Value} (m : cR w0 w is) (hv : (ev l x).cells = cs.toArray) (h : ∀ g u,cR w0 u (bI g cs T :: is) → wpList P ops Q rest (Fr (l.set d (.pointer (some ⟨g,0,none⟩))) ds) u) :
 wpList P ops Q (Oper.mk (some d) (.box T x) ty pos after none :: rest) (Fr l ds) w:=gK hv fun u g e hg hB=>h g u (m.newB e hg hB)
theorem bC {cs : List Value} {z : Value} (m : cR w0 w is) (hZ : lT P T z) (hv : z.cells = cs.toArray) (h : ∀ g u,cR w0 u (bI g cs T :: is) → wpList P ops Q rest (Fr (l.set d (.pointer (some ⟨g,0,none⟩))) ds) u) :
 wpList P ops Q (Oper.mk (some d) (.alloc T) ty pos after none :: rest) (Fr l ds) w:=dX hZ hv fun u g e hg hB=>h g u (m.newB e hg hB)
theorem St {g off : Nat} {cs us : List Value} {t : TypeId} (m : cR w0 w is) (k : Nat) (hk : is[k]? = some (bI g cs t)) (hx : ev l x = .pointer (some ⟨g,off,none⟩)) (hv : (ev l y).cells = us.toArray) (hc : fG P T us.length) (hfit : off + us.length ≤ cs.length) (h1 : (us.all (·.oneCell')) = true)
 (h : ∀ u,cR w0 u (is.set k (bI g (aX cs off us) t)) → wpList P ops Q rest (Fr l ds) u) : wpList P ops Q (Oper.mk none (.store T x y) ty pos after none :: rest) (Fr l ds) w :=
 cC hx hv hc (m.b k hk) hfit (mJ h1) fun u hC hB=>h u (m.put k hk hC.os hC.tape hC.output (by rw [hC.size]; exact Nat.le_refl _) (fun b _ hne=>hC.block b fun e=>hne (by rw [e]; rfl)) hB (.inl fun _ h=>h))
theorem aW {v : Value} {f : FuncId} {fo : Operand} {xs : Array Operand} {args : List Value} {first cap : Array Value} {a0 : Array TypeId} (m : cR w0 w is) (hf : ev l fo = .func (.func f) first cap) (hxs : first.toList ++ xs.toList.map (ev l) ++ cap.toList = args) (hc : dP P f args v)
 (h : ∀ u,cR w0 u is → wpList P ops Q rest (Fr (l.set d v) ds) u) : wpList P ops Q (Oper.mk (some d) (.call { callee:=.value fo,args:=xs,argTypes:=a0 }) ty pos after none :: rest) (Fr l ds) w :=
 gA hf hxs hc fun u e=>h u (m.ext' e)
theorem fU {f : FuncId} {fo : Operand} {xs : Array Operand} {args : List Value} {first cap : Array Value} {a0 : Array TypeId} {R : Value → World → Prop} (m : cR w0 w is) (hf : ev l fo = .func (.func f) first cap) (hxs : first.toList ++ xs.toList.map (ev l) ++ cap.toList = args) (hc : iL P f args w R)
 (h : ∀ v u,cR w0 u is → R v u → wpList P ops Q rest (Fr (l.set d v) ds) u) : wpList P ops Q (Oper.mk (some d) (.call { callee:=.value fo,args:=xs,argTypes:=a0 }) ty pos after none :: rest) (Fr l ds) w :=
 bS hf hxs hc fun v u e hR=>h v u (m.ext' e) hR
def OR (E : TypeId) (c : Nat) (R : List Value → Prop) (w : World) (v : Value) (w' : World) : Prop:=∃ A n cap xs,v = .slice A n cap ∧ Ow w w' [] E c A n cap xs ∧ R xs
theorem fD {E : TypeId} {c n cap b nm mcap : Nat} {A B : Option Addr} {z : Value} {xs news : List Value} {a0 : Array TypeId} (m : cR w0 w is) (k : Nat) (hk : is[k]? = some (oI E c A n cap xs)) (ha : a0 = #[T,T]) (hu : P.underlying T = some (.slice E)) (hi : (P.info? E).map (fun i=>(i.size,i.bytes,i.zero)) = some (c,b,some z)) (hz : z.cells.size = c) (hc : 0 < c)
 (hs : ev l x = .slice A n cap) (hx : ev l y = .slice B nm mcap) (hl : news.length = nm * c) (hrow : ∀ j u,news[j]? = some u → ∃ a,B = some a ∧ w.cell? (a.add j) = some u) (h1 : ∀ u ∈ news,u.oneCell' = true) (h63 : n + nm ≤ 9223372036854775807) (hbytes : (n + nm) * b ≤ 140737488355328)
 (h : ∀ A' cap' u,cR w0 u (is.set k (oI E c A' (n + nm) cap' (xs ++ news))) → wpList P ops Q rest (Fr (l.set d (.slice A' (n + nm) cap')) ds) u) :
 wpList P ops Q (Oper.mk (some d) (.call { callee:=.builtin .append,args:=#[x,y],argTypes:=a0 }) ty pos after none :: rest) (Fr l ds) w :=
 Pg ha hu hi hz hc m.ext hs (m.o k hk) hx hl hrow h1 h63 hbytes fun A' cap' u hO hW hF=>h A' cap' u (m.put k hk hW.os hW.tape hW.output hW.size (fun b hb hne=>hW.block b hb hne) (by
  refine ⟨hO.own.1,?_⟩;rcases hO.cases with ⟨rfl,e1,rfl,_⟩ | ⟨g,cur,rfl,_,h2,h3⟩
  · exact .inl ⟨by rw [e1],e1⟩
  · exact .inr ⟨g,cap',cur,rfl,Nat.zero_le _,h2,h3⟩) (by
  rcases hF with rfl | hF
  · exact .inl fun _ h=>h
  · exact .inr fun b hb=>by
     have e : Cb A' = some b:=hb;rw [hF] at e;cases e;exact Nat.le_refl _))
theorem cM {cs : List Value} (m : cR w0 w is) (hv : ev l x = .agg cs.toArray) (h : ∀ g u,cR w0 u (bI g cs T :: is) → wpList P ops Q rest (Fr (l.set d (.pointer (some ⟨g,0,none⟩))) ds) u) :
 wpList P ops Q (Oper.mk (some d) (.box T x) ty pos after none :: rest) (Fr l ds) w:=adp m (by rw [hv]; rfl) h
theorem aL {g off : Nat} {cs us : List Value} {t : TypeId} (m : cR w0 w is) (k : Nat) (hk : is[k]? = some (bI g cs t)) (hx : ev l x = .pointer (some ⟨g,off,none⟩)) (hv : ev l y = .agg us.toArray) (hc : fG P T us.length) (hfit : off + us.length ≤ cs.length) (h1 : (us.all (·.oneCell')) = true)
 (h : ∀ u,cR w0 u (is.set k (bI g (aX cs off us) t)) → wpList P ops Q rest (Fr l ds) u) : wpList P ops Q (Oper.mk none (.store T x y) ty pos after none :: rest) (Fr l ds) w:=St m k hk hx (by rw [hv]; rfl) hc hfit h1 h
theorem dA {g off : Nat} {cs : List Value} {v : Value} {t : TypeId} (m : cR w0 w is) (k : Nat) (hk : is[k]? = some (bI g cs t)) (hx : ev l x = .pointer (some ⟨g,off,none⟩)) (hv : ev l y = v) (hc : fG P T 1) (hfit : off + 1 ≤ cs.length) (h1 : v.oneCell' = true ∧ v.cells = #[v])
 (h : ∀ u,cR w0 u (is.set k (bI g (aX cs off [v]) t)) → wpList P ops Q rest (Fr l ds) u) : wpList P ops Q (Oper.mk none (.store T x y) ty pos after none :: rest) (Fr l ds) w:=St (us:=[v]) m k hk hx (by rw [hv,h1.2]) hc hfit (by simp [h1.1]) h
theorem fW.full {g : Nat} {cs : List Value} {t : TypeId} (h : fW w g cs t) (hA : iA P T true) (hc : fG P T cs.length) : qT P w T ⟨g,0,none⟩ (.agg cs.toArray):=by
 have:=h.row 0;rw [List.drop_zero] at this;exact this.lies hA hc
theorem cR.s01 {w0 w : World} {i j : It} {is : List It} (m : cR w0 w (i :: j :: is)) : cR w0 w (j :: i :: is):=by
 have h1:=List.pairwise_cons.1 m.nd;have h2:=List.pairwise_cons.1 h1.2;refine ⟨m.ext,fun x hx=>m.all x ?_,fun x hx=>m.ge x ?_,List.pairwise_cons.2 ⟨fun x hx=>?_,List.pairwise_cons.2 ⟨fun x hx=>h1.1 x (List.mem_cons_of_mem _ hx),h2.2⟩⟩⟩
 · simp only[List.mem_cons] at hx ⊢; rcases hx with h | h | h <;> simp [h]
 · simp only[List.mem_cons] at hx ⊢; rcases hx with h | h | h <;> simp [h]
 · rcases List.mem_cons.1 hx with rfl | hx
   · exact (h1.1 _ (List.mem_cons_self ..)).symm
   · exact h2.1 x hx
/-! ### Regions -/
theorem dN {id : Nat} {a : Act} {l : List Oper} (m : cR w0 w is) (n : Nat) (hm : P.follows .mixedOrders = true) (hB : Region.lexTailB .any l.toArray n = true)
 (h : wpQuiet P l.toArray (fun u=>cR w0 u is) (fun a'=>∀ u,cR w0 u is → wpList P l.toArray Q (l.drop n) a' u) (l.take n) a) : (Code.region id l.toArray true).wp P Q a w :=
 nP (C:=fun u=>cR w0 u is) n hm hB (m.ext' (dL.refl w).drawn) h
theorem mq {id : Nat} {a : Act} {l : List Oper} (m : cR w0 w is) (hm : P.follows .mixedOrders = true) (hB : Region.lexB .any l.toArray = true)
 (h : wpQuiet P l.toArray (fun u=>cR w0 u is) (fun a'=>∀ u,cR w0 u is → Q .normal a' u) l a) : (Code.region id l.toArray true).wp P Q a w :=
 wp_region_quiet (C:=fun u=>cR w0 u is) hm hB (m.ext' (dL.refl w).drawn) (by simpa using h)
theorem mh {id : Nat} {a : Act} {l : List Oper} (m : cR w0 w is) (bs : List Bool) (o : List (Nat × Bool)) (hm : P.follows .mixedOrders = true) (hB : (Region.noSelect l.toArray && decide (o.length = l.length) && xE .any l.toArray o (Array.replicate l.toArray.size false)) = true)
 (hQ : ∀ c d v a w,Q (.panic c) (Act.put a d v) w → Q (.panic c) a w) {ol : List (Oper × Bool)} (hol : (o.map fun x=>((l.toArray[x.1]?).getD default,x.2)) = ol)
 (h : ∀ u,cR w0 u is → dV P l.toArray (fun u=>cR w0 u (Je bs is)) Q ol a u) : (Code.region id l.toArray true).wp P Q a w :=
 dS o hm hB hQ hol fun u e=>⟨fun u=>cR w0 u (Je bs is),(m.ext' e).sel bs,h u (m.ext' e)⟩
theorem kG {id : Nat} {a : Act} {l : List Oper} (m : cR w0 w is) (bs : List Bool) (t : oM) (hm : P.follows .mixedOrders = true) (hB : (Region.noSelect l.toArray && t.ok .any l.toArray l.toArray.size (Array.replicate l.toArray.size false)) = true)
 (hQ : ∀ c d v a w,Q (.panic c) (Act.put a d v) w → Q (.panic c) a w)
 (h : ∀ u,cR w0 u is → eG P l.toArray (fun u=>cR w0 u (Je bs is)) Q t a u) : (Code.region id l.toArray true).wp P Q a w :=
 Br t hm hB hQ fun u e=>⟨fun u=>cR w0 u (Je bs is),(m.ext' e).sel bs,h u (m.ext' e)⟩
theorem Yh {tl : List Oper} {i d : Nat} {T : TypeId} {cs : List Value} (m : cR w0 w is) (h : ∀ g u,cR w0 u (bI g cs T :: is) → wpList P ops Q tl (Fr (l.set d (.pointer (some ⟨g,0,none⟩))) ds) u) :
 ∀ E w',dL w w' → vH w.heap.size E [⟨i,d,T,cs⟩] w' → (∀ x ∈ [(⟨i,d,T,cs⟩ : Al)],∃ v,E x.i = some v) → wpList P ops Q tl (fJ E [⟨i,d,T,cs⟩] (Fr l ds)) w' :=
 aaW fun u g e hg hB=>h g u (m.newB e hg hB)
theorem cR.newB2 {w w' : World} {is : List It} {g g2 : Nat} {cs cs2 : List Value} {t t2 : TypeId} (m : cR w0 w is) (e : dL w w') (hg : w.heap.size ≤ g) (hg2 : w.heap.size ≤ g2) (hB : fW w' g cs t) (hB2 : fW w' g2 cs2 t2) (hne : g2 ≠ g) : cR w0 w' (bI g2 cs2 t2 :: bI g cs t :: is):=by
 have m1:=m.newB e hg hB;refine ⟨m1.ext,fun j hj=>?_,fun j hj=>?_,List.pairwise_cons.2 ⟨fun j hj b h1 h2=>?_,m1.nd⟩⟩
 · rcases List.mem_cons.1 hj with rfl | hj
   · exact hB2
   · exact m1.all j hj
 · rcases List.mem_cons.1 hj with rfl | hj
   · exact fun b hb=>by cases hb; exact Nat.le_trans m.ext.size hg2
   · exact m1.ge j hj
 · cases h1
   rcases List.mem_cons.1 hj with rfl | hj
   · cases h2; exact hne rfl
   · have:=j.lt w _ (m.all j hj) h2
     omega
theorem cR.newB3 {w w' : World} {is : List It} {g g2 g3 : Nat} {cs cs2 cs3 : List Value} {t t2 t3 : TypeId} (m : cR w0 w is) (e : dL w w') (hg : w.heap.size ≤ g) (hg2 : w.heap.size ≤ g2) (hg3 : w.heap.size ≤ g3) (hB : fW w' g cs t) (hB2 : fW w' g2 cs2 t2) (hB3 : fW w' g3 cs3 t3) (hne : g2 ≠ g) (hn2 : g3 ≠ g) (hn3 : g3 ≠ g2) : cR w0 w' (bI g3 cs3 t3 :: bI g2 cs2 t2 :: bI g cs t :: is):=by
 have m1:=m.newB2 e hg hg2 hB hB2 hne;refine ⟨m1.ext,fun j hj=>?_,fun j hj=>?_,List.pairwise_cons.2 ⟨fun j hj b h1 h2=>?_,m1.nd⟩⟩
 · rcases List.mem_cons.1 hj with rfl | hj
   · exact hB3
   · exact m1.all j hj
 · rcases List.mem_cons.1 hj with rfl | hj
   · exact fun b hb=>by cases hb; exact Nat.le_trans m.ext.size hg3
   · exact m1.ge j hj
 · cases h1
   rcases List.mem_cons.1 hj with rfl | hj
   · cases h2; exact hn3 rfl
   · rcases List.mem_cons.1 hj with rfl | hj
     · cases h2; exact hn2 rfl
     · have:=j.lt w _ (m.all j hj) h2
       omega
theorem mf2 {tl : List Oper} {i d j e : Nat} {T U : TypeId} {cs us : List Value} (m : cR w0 w is) (hij : i ≠ j) (h : ∀ g k u,cR w0 u (bI k us U :: bI g cs T :: is) → wpList P ops Q tl (Fr ((l.set d (.pointer (some ⟨g,0,none⟩))).set e (.pointer (some ⟨k,0,none⟩))) ds) u) :
 ∀ E w',dL w w' → vH w.heap.size E [⟨i,d,T,cs⟩,⟨j,e,U,us⟩] w' → (∀ x ∈ [(⟨i,d,T,cs⟩ : Al),⟨j,e,U,us⟩],∃ v,E x.i = some v) → wpList P ops Q tl (fJ E [⟨i,d,T,cs⟩,⟨j,e,U,us⟩] (Fr l ds)) w' :=
 aaX hij fun u g k e hg hk hB hK hne=>h g k u (m.newB2 e hg hk hB hK hne)
theorem mf3 {tl : List Oper} {i d j e k f : Nat} {T U V : TypeId} {cs us vs : List Value} (m : cR w0 w is) (hij : i ≠ j) (him : i ≠ k) (hjm : j ≠ k) (h : ∀ g p q u,cR w0 u (bI q vs V :: bI p us U :: bI g cs T :: is) → wpList P ops Q tl (Fr (((l.set d (.pointer (some ⟨g,0,none⟩))).set e (.pointer (some ⟨p,0,none⟩))).set f (.pointer (some ⟨q,0,none⟩))) ds) u) :
 ∀ E w',dL w w' → vH w.heap.size E [⟨i,d,T,cs⟩,⟨j,e,U,us⟩,⟨k,f,V,vs⟩] w' → (∀ x ∈ [(⟨i,d,T,cs⟩ : Al),⟨j,e,U,us⟩,⟨k,f,V,vs⟩],∃ v,E x.i = some v) → wpList P ops Q tl (fJ E [⟨i,d,T,cs⟩,⟨j,e,U,us⟩,⟨k,f,V,vs⟩] (Fr l ds)) w' :=
 aaY hij him hjm fun u g p q e hg hp hq hB hP hQ n1 n2 n3=>h g p q u (m.newB3 e hg hp hq hB hP hQ n1 n2 n3)
theorem acW {c : Code} {a : Act} {l : Nat → Nat → List Value} {c1 c2 : List Value} {T1 T2 : TypeId} (m : cR w0 w is) (h1 : c.wp P (fun e a' u=>e = .normal ∧ ∃ g k,a' = Fr (l g k) ds ∧ cR w0 u (bI k c2 T2 :: bI g c1 T1 :: is)) a w)
 (h2 : ∀ g k u,cR w0 u (bI k c2 T2 :: bI g c1 T1 :: is) → Q .normal (Fr (l g k) ds) u) : c.wp P Q a w:=by
 refine Code.wp_mono ?_ h1;rintro e a' u ⟨rfl,g,k,rfl,m'⟩;exact h2 g k u m'
end
section
variable {P : Program} {w0 : World} {is : List It} {l : List Value} {x y : Operand} {T ty : TypeId}
variable {ops : Array Oper} {Q : Act → Prop} {rest : List Oper} {d : Nat} {pos : String} {after : Array Edge} {v : Value} {ds : List Deferred}
theorem ql {a : Addr} (hx : ev l x = .pointer (some a)) (hv : ∀ u,cR w0 u is → qT P u T a v) (h : wpQuiet P ops (fun u=>cR w0 u is) Q rest (Fr (l.set d v) ds)) : wpQuiet P ops (fun u=>cR w0 u is) Q (Oper.mk (some d) (.load T x) ty pos after none :: rest) (Fr l ds) :=
 Fk (fun u m=>kS hx (hv u m)) h
theorem qc {f : FuncId} {fo : Operand} {xs : Array Operand} {args : List Value} {first cap : Array Value} {a0 : Array TypeId} (hf : ev l fo = .func (.func f) first cap) (hxs : first.toList ++ xs.toList.map (ev l) ++ cap.toList = args) (hc : ∀ u,cR w0 u is → iL P f args u fun x _=>x = v)
 (h : wpQuiet P ops (fun u=>cR w0 u is) Q rest (Fr (l.set d v) ds)) : wpQuiet P ops (fun u=>cR w0 u is) Q (Oper.mk (some d) (.call { callee:=.value fo,args:=xs,argTypes:=a0 }) ty pos after none :: rest) (Fr l ds):=by
 refine wpQuiet_step fun K hK=>?_;rw [if_pos (by simp [Region.wanted])];refine ⟨v,fun w' hw=>?_,?_⟩
 · unfold Oper.quietAt
   rw [iX,nQ (hc w' hw).1 hf hxs _ rfl];refine ⟨rfl,(hc w' hw).2.mono ?_⟩;rintro e w'' ⟨u,rfl,hE,rfl⟩;exact ⟨rfl,hw.ext' hE⟩
 · show K ((Fr l ds).put (some d) v)
   rw [iP];exact hK _ h
theorem gJ {f : FuncId} {fo : Operand} {xs : Array Operand} {args : List Value} {first cap : Array Value} {a0 : Array TypeId} (hf : ev l fo = .func (.func f) first cap) (hxs : first.toList ++ xs.toList.map (ev l) ++ cap.toList = args) (hc : dP P f args v)
 (h : wpQuiet P ops (fun u=>cR w0 u is) Q rest (Fr (l.set d v) ds)) : wpQuiet P ops (fun u=>cR w0 u is) Q (Oper.mk (some d) (.call { callee:=.value fo,args:=xs,argTypes:=a0 }) ty pos after none :: rest) (Fr l ds):=qc hf hxs (fun u _=>hc u) h
end
end Go.Lith
namespace Go.Proofs.YtimjandkmfcmiaaGreatDoor
open Tryz
open Go.RowKit Go.Lith
set_option maxRecDepth 100000
attribute [local irreducible] wpList wpQuiet eS dV eG Code.wp
theorem acX {p : P3} : dP prog 150 [pt p] (.int .i64 p.x):=by
 intro w;refine ⟨Qw,?_⟩;have m:=cR.refl w
 go_enter func150,ntmps150
 refine aF fun K1 k1=>wp_region_lit (cM m rfl ?_);clear m; intro g1 u m;refine aA (aD) (aC (k1 _ _ ?_));refine aF fun K2 k2=>wp_region_lit (aA (aH (c:=0) xQ rfl aM rfl rfl) ?_);simp only[zz];refine aI rfl ((m.b 0 rfl).lies1 aZ rfl) ?_;simp only[zz];refine aA (aD) (aC (k2 _ _ ?_));refine wp_ret ?_;simp only[zz];try simp only[Exit.inBlock,Exit.then,if_true]
 refine bU rfl rfl ?_;try simp only[zD,zE]
 exact ⟨_,rfl,m.ext,rfl⟩
theorem acY {p : P3} : dP prog 151 [pt p] (.int .i64 p.y):=by
 intro w;refine ⟨Qx,?_⟩;have m:=cR.refl w
 go_enter func151,ntmps151
 refine aF fun K1 k1=>wp_region_lit (cM m rfl ?_);clear m; intro g1 u m;refine aA (aD) (aC (k1 _ _ ?_));refine aF fun K2 k2=>wp_region_lit (aA (aH (c:=0) xQ rfl aM rfl rfl) ?_);simp only[zz];refine aI rfl ((m.b 0 rfl).lies1 aZ rfl) ?_;simp only[zz];refine aA (aD) (aC (k2 _ _ ?_));refine wp_ret ?_;simp only[zz];try simp only[Exit.inBlock,Exit.then,if_true]
 refine bU rfl rfl ?_;try simp only[zD,zE]
 exact ⟨_,rfl,m.ext,rfl⟩
theorem acZ {p : P3} : dP prog 152 [pt p] (.int .i64 p.z):=by
 intro w;refine ⟨Qy,?_⟩;have m:=cR.refl w
 go_enter func152,ntmps152
 refine aF fun K1 k1=>wp_region_lit (cM m rfl ?_);clear m; intro g1 u m;refine aA (aD) (aC (k1 _ _ ?_));refine aF fun K2 k2=>wp_region_lit (aA (aH (c:=0) xQ rfl aM rfl rfl) ?_);simp only[zz];refine aI rfl ((m.b 0 rfl).lies1 aZ rfl) ?_;simp only[zz];refine aA (aD) (aC (k2 _ _ ?_));refine wp_ret ?_;simp only[zz];try simp only[Exit.inBlock,Exit.then,if_true]
 refine bU rfl rfl ?_;try simp only[zD,zE]
 exact ⟨_,rfl,m.ext,rfl⟩
theorem aa0  : dP prog 137 [] (.agg #[.func (.func 150) #[] #[],.func (.func 151) #[] #[],.func (.func 152) #[] #[]]):=by
 intro w;refine ⟨Qv,?_⟩;have m:=cR.refl w
 go_enter func137,ntmps137
 refine aF fun K1 k1=>wp_region_lit (bC m Az rfl ?_);clear m; intro g1 u m;refine aC (k1 _ _ ?_);refine aF fun K2 k2=>wp_region_lit (aA (pW rfl rfl rfl) ?_);simp only[zz];refine aL m 0 rfl rfl rfl tV (cA rfl) rfl ?_;clear m; intro u m; simp only[zy,zx,aX,zF,zG,Nat.reduceAdd] at m;refine aC (k2 _ _ ?_);refine wp_ret ?_;try simp only[Exit.inBlock,Exit.then,if_true]
 refine bU rfl ⟨_,rfl,((m.b 0 rfl).full Mp tV)⟩ ?_;try simp only[zD,zE]
 exact ⟨_,rfl,m.ext,rfl⟩
theorem Su  : dP prog 138 [.int .i64 0] (.tuple #[.int .i64 1,.int .i64 2]):=by
 intro w;refine ⟨Kq,?_⟩;have m:=cR.refl w
 go_enter func138,ntmps138
 refine aF fun K1 k1=>wp_region_lit (aA (aD) (aA (aD) (aC (k1 _ _ ?_))));refine aF fun K2 k2=>wp_region_lit (aA (aB) (aA (bD (m:=0) (n:=1) (r:=1) rfl rfl (by decide)) ?_));simp only[zz];refine aA (kD (m:=1) (n:=3) (r:=1) rfl rfl (by decide) (by decide)) (aA (aB) (aA (bD (m:=0) (n:=2) (r:=2) rfl rfl (by decide)) (aA (kD (m:=2) (n:=3) (r:=2) rfl rfl (by decide) (by decide)) ?_)));simp only[zz];refine aA (aD) (aA (aD) (aC (k2 _ _ ?_)));refine wp_ret ?_;simp only[zz];try simp only[Exit.inBlock,Exit.then,if_true]
 refine jL rfl rfl rfl ?_;try simp only[zD,zE]
 exact ⟨_,rfl,m.ext,rfl⟩
theorem Sv  : dP prog 138 [.int .i64 1] (.tuple #[.int .i64 2,.int .i64 0]):=by
 intro w;refine ⟨Kq,?_⟩;have m:=cR.refl w
 go_enter func138,ntmps138
 refine aF fun K1 k1=>wp_region_lit (aA (aD) (aA (aD) (aC (k1 _ _ ?_))));refine aF fun K2 k2=>wp_region_lit (aA (aB) (aA (bD (m:=1) (n:=1) (r:=2) rfl rfl (by decide)) ?_));simp only[zz];refine aA (kD (m:=2) (n:=3) (r:=2) rfl rfl (by decide) (by decide)) (aA (aB) (aA (bD (m:=1) (n:=2) (r:=3) rfl rfl (by decide)) (aA (kD (m:=3) (n:=3) (r:=0) rfl rfl (by decide) (by decide)) ?_)));simp only[zz];refine aA (aD) (aA (aD) (aC (k2 _ _ ?_)));refine wp_ret ?_;simp only[zz];try simp only[Exit.inBlock,Exit.then,if_true]
 refine jL rfl rfl rfl ?_;try simp only[zD,zE]
 exact ⟨_,rfl,m.ext,rfl⟩
theorem Sw  : dP prog 138 [.int .i64 2] (.tuple #[.int .i64 0,.int .i64 1]):=by
 intro w;refine ⟨Kq,?_⟩;have m:=cR.refl w
 go_enter func138,ntmps138
 refine aF fun K1 k1=>wp_region_lit (aA (aD) (aA (aD) (aC (k1 _ _ ?_))));refine aF fun K2 k2=>wp_region_lit (aA (aB) (aA (bD (m:=2) (n:=1) (r:=3) rfl rfl (by decide)) ?_));simp only[zz];refine aA (kD (m:=3) (n:=3) (r:=0) rfl rfl (by decide) (by decide)) (aA (aB) (aA (bD (m:=2) (n:=2) (r:=4) rfl rfl (by decide)) (aA (kD (m:=4) (n:=3) (r:=1) rfl rfl (by decide) (by decide)) ?_)));simp only[zz];refine aA (aD) (aA (aD) (aC (k2 _ _ ?_)));refine wp_ret ?_;simp only[zz];try simp only[Exit.inBlock,Exit.then,if_true]
 refine jL rfl rfl rfl ?_;try simp only[zD,zE]
 exact ⟨_,rfl,m.ext,rfl⟩
theorem qB {p q : P3} [I3 p] [I3 q] : dP prog 107 [pt p,pt q] (wv (q.sub p)):=by
 intro w;refine ⟨Zg,?_⟩;have m:=cR.refl w
 go_enter func107,ntmps107
 refine aF fun K1 k1=>wp_region_lit (cM m rfl ?_);clear m; intro g1 u m;simp only[zz];refine cM m rfl ?_;clear m; intro g2 u m;simp only[zz];refine bC m vV rfl ?_;clear m; intro g3 u m;refine aC (k1 _ _ ?_);refine aF fun K2 k2=>wp_region_lit ?_;simp only[zz];refine bC m vV rfl ?_;clear m; intro g4 u m;refine aC (k2 _ _ ?_);refine aF fun K3 k3=>aF fun K4 k4=>wp_region_lit ?_;simp only[zz];refine aW m rfl rfl (aa0) ?_;clear m; intro u m;refine aA (aB) (aC (k4 _ _ ?_));refine wp_block (wp_loop_rounds 4 (dQ (aF fun K5 k5=>wp_region_lit (aA (cK (m:=0) (n:=3) rfl rfl (by decide)) (aC (k5 _ _ ?_))))));refine aF fun K6 k6=>bX rfl (wp_skip (k6 _ _ ?_));refine aF fun K7 k7=>wp_block (aF fun K8 k8=>wp_region_lit (aA (aB) ?_));simp only[zz];refine aA (uS rfl rfl) (aA (aD) (aA (aD) (aC (k8 _ _ ?_))));simp only[zz];refine dN m 11 aN (by kernel_rfl) ?_;simp only[zy];refine aS (aB) (aS (aB) ?_);simp only[zz];refine ql rfl (fun u m=>((m.b 2 rfl).full bK aO)) ?_;simp only[zz];refine gJ rfl rfl (acX) ?_;simp only[zz];refine gJ rfl rfl (lG Iw.h) (aS (aB) ?_);simp only[zz];refine ql rfl (fun u m=>((m.b 3 rfl).full bK aO)) ?_;simp only[zz];refine gJ rfl rfl (acX) ?_;simp only[zz];refine gJ rfl rfl (lG Iw.h) ?_;simp only[zz];refine gJ rfl rfl (rK Bw.up Bw.up) (aS (aJ jA aG rfl rfl (by decide) (by decide) rfl) (dW ?_));clear m; intro u m;simp only[zz];refine aL m 0 rfl rfl rfl aG (cA rfl) rfl ?_;clear m; intro u m; simp only[zy,zx,aX,zF,zG,Nat.reduceAdd] at m;refine aC (k7 _ _ ?_);refine wp_region_lit (aA (bD (m:=0) (n:=1) (r:=1) rfl rfl (by decide)) (aA (aB) (aC (bF (aF fun K9 k9=>wp_region_lit (aA (cK (m:=1) (n:=3) rfl rfl (by decide)) (aC (k9 _ _ ?_))))))));refine aF fun K10 k10=>bX rfl (wp_skip (k10 _ _ ?_));refine aF fun K11 k11=>wp_block (aF fun K12 k12=>wp_region_lit (aA (aB) ?_));simp only[zz];refine aA (uT rfl rfl) (aA (aD) (aA (aD) (aC (k12 _ _ ?_))));simp only[zz];refine dN m 11 aN (by kernel_rfl) ?_;simp only[zy];refine aS (aB) (aS (aB) ?_);simp only[zz];refine ql rfl (fun u m=>((m.b 2 rfl).full bK aO)) ?_;simp only[zz];refine gJ rfl rfl (acY) ?_;simp only[zz];refine gJ rfl rfl (lG Iw.h) (aS (aB) ?_);simp only[zz];refine ql rfl (fun u m=>((m.b 3 rfl).full bK aO)) ?_;simp only[zz];refine gJ rfl rfl (acY) ?_;simp only[zz];refine gJ rfl rfl (lG Iw.h) ?_;simp only[zz];refine gJ rfl rfl (rK Bw.up Bw.up) (aS (aJ jA aG rfl rfl (by decide) (by decide) rfl) (dW ?_));clear m; intro u m;simp only[zz];refine aL m 0 rfl rfl rfl aG (cA rfl) rfl ?_;clear m; intro u m; simp only[zy,zx,aX,zF,zG,Nat.reduceAdd] at m;refine aC (k11 _ _ ?_);refine wp_region_lit (aA (bD (m:=1) (n:=1) (r:=2) rfl rfl (by decide)) (aA (aB) (aC (bF (aF fun K13 k13=>wp_region_lit (aA (cK (m:=2) (n:=3) rfl rfl (by decide)) (aC (k13 _ _ ?_))))))));refine aF fun K14 k14=>bX rfl (wp_skip (k14 _ _ ?_));refine aF fun K15 k15=>wp_block (aF fun K16 k16=>wp_region_lit (aA (aB) ?_));simp only[zz];refine aA (uU rfl rfl) (aA (aD) (aA (aD) (aC (k16 _ _ ?_))));simp only[zz];refine dN m 11 aN (by kernel_rfl) ?_;simp only[zy];refine aS (aB) (aS (aB) ?_);simp only[zz];refine ql rfl (fun u m=>((m.b 2 rfl).full bK aO)) ?_;simp only[zz];refine gJ rfl rfl (acZ) ?_;simp only[zz];refine gJ rfl rfl (lG Iw.h) (aS (aB) ?_);simp only[zz];refine ql rfl (fun u m=>((m.b 3 rfl).full bK aO)) ?_;simp only[zz];refine gJ rfl rfl (acZ) ?_;simp only[zz];refine gJ rfl rfl (lG Iw.h) ?_;simp only[zz];refine gJ rfl rfl (rK Bw.up Bw.up) (aS (aJ jA aG rfl rfl (by decide) (by decide) rfl) (dW ?_));clear m; intro u m;simp only[zz];refine aL m 0 rfl rfl rfl aG (cA rfl) rfl ?_;clear m; intro u m; simp only[zy,zx,aX,zF,zG,Nat.reduceAdd] at m;refine aC (k15 _ _ ?_);refine wp_region_lit (aA (bD (m:=2) (n:=1) (r:=3) rfl rfl (by decide)) (aA (aB) (aC (bF (aF fun K17 k17=>wp_region_lit (aA (fA (m:=3) (n:=3) rfl rfl (by decide)) (aC (k17 _ _ ?_))))))));refine aF fun K18 k18=>eQ rfl (wp_exit (k3 _ _ ?_));refine aF fun K19 k19=>wp_region_lit ?_;simp only[zz];refine aI rfl ((m.b 0 rfl).full yZ oT) ?_;simp only[zz];refine aL m 1 rfl rfl rfl oT (cA rfl) rfl ?_;clear m; intro u m; simp only[zy,zx,aX,zF,zG,Nat.reduceAdd] at m;refine aC (k19 _ _ ?_);refine wp_ret ?_;try simp only[Exit.inBlock,Exit.then,if_true]
 refine bU rfl ⟨_,rfl,((m.b 1 rfl).full yZ oT)⟩ ?_;try simp only[zD,zE]
 exact ⟨_,rfl,m.ext,rfl⟩
theorem wL {u v : P3} (hu : Bv 400000 u) (hv : Bv 400000 v) : dP prog 108 [wv u,wv v] (wv (u.cross v)):=by
 intro w;refine ⟨Zh,?_⟩;have m:=cR.refl w
 go_enter func108,ntmps108
 refine aF fun K1 k1=>wp_region_lit (cM m rfl ?_);clear m; intro g1 u m;simp only[zz];refine cM m rfl ?_;clear m; intro g2 u m;simp only[zz];refine bC m vV rfl ?_;clear m; intro g3 u m;refine aC (k1 _ _ ?_);refine aF fun K2 k2=>wp_region_lit ?_;simp only[zz];refine bC m vV rfl ?_;clear m; intro g4 u m;refine aC (k2 _ _ ?_);refine aF fun K3 k3=>aF fun K4 k4=>wp_region_lit (aA (aB) (aC (k4 _ _ ?_)));refine wp_block (wp_loop_rounds 4 (dQ (aF fun K5 k5=>wp_region_lit (aA (cK (m:=0) (n:=3) rfl rfl (by decide)) (aC (k5 _ _ ?_))))));refine aF fun K6 k6=>bX rfl (wp_skip (k6 _ _ ?_));refine aF fun K7 k7=>wp_block (aF fun K8 k8=>wp_region_lit (aA (aB) ?_));simp only[zz];refine aA (aD) (aC (k8 _ _ ?_));refine aF fun K9 k9=>wp_region_lit (aA (aB) ?_);simp only[zz];refine aW m rfl rfl (Su) ?_;clear m; intro u m;refine aA (aB) (aA (aT rfl rfl) (aA (aT rfl rfl) ?_));simp only[zz];refine aA (aD) (aA (aD) (aC (k9 _ _ ?_)));simp only[zz];refine dN m 17 aN (by kernel_rfl) ?_;simp only[zy];refine aS (aB) (aS (aB) (aS (aJ jA aG rfl rfl (by decide) (by decide) rfl) ?_));simp only[zz];refine ql rfl (fun u m=>((m.b 3 rfl).lies aR aG rfl rfl)) ?_;simp only[zz,zy,Nat.zero_add,Nat.reduceAdd,Nat.reduceMul,Int.reduceToNat];refine aS (aB) (aS (aJ jA aG rfl rfl (by decide) (by decide) rfl) ?_);simp only[zz];refine ql rfl (fun u m=>((m.b 2 rfl).lies aR aG rfl rfl)) ?_;simp only[zz,zy,Nat.zero_add,Nat.reduceAdd,Nat.reduceMul,Int.reduceToNat];refine gJ rfl rfl (jY Bw.up Bw.up) (aS (aB) (aS (aJ jA aG rfl rfl (by decide) (by decide) rfl) ?_));simp only[zz];refine ql rfl (fun u m=>((m.b 3 rfl).lies aR aG rfl rfl)) ?_;simp only[zz,zy,Nat.zero_add,Nat.reduceAdd,Nat.reduceMul,Int.reduceToNat];refine aS (aB) (aS (aJ jA aG rfl rfl (by decide) (by decide) rfl) ?_);simp only[zz];refine ql rfl (fun u m=>((m.b 2 rfl).lies aR aG rfl rfl)) ?_;simp only[zz,zy,Nat.zero_add,Nat.reduceAdd,Nat.reduceMul,Int.reduceToNat];refine gJ rfl rfl (jY Bw.up Bw.up) ?_;simp only[zz];refine gJ rfl rfl (rK Bw.up Bw.up) (aS (aJ jA aG rfl rfl (by decide) (by decide) rfl) (dW ?_));clear m; intro u m;simp only[zz];refine aL m 0 rfl rfl rfl aG (cA rfl) rfl ?_;clear m; intro u m; simp only[zy,zx,aX,zF,zG,Nat.reduceAdd] at m;refine aC (k7 _ _ ?_);refine wp_region_lit (aA (bD (m:=0) (n:=1) (r:=1) rfl rfl (by decide)) (aA (aB) (aC (bF (aF fun K10 k10=>wp_region_lit (aA (cK (m:=1) (n:=3) rfl rfl (by decide)) (aC (k10 _ _ ?_))))))));refine aF fun K11 k11=>bX rfl (wp_skip (k11 _ _ ?_));refine aF fun K12 k12=>wp_block (aF fun K13 k13=>wp_region_lit (aA (aB) ?_));simp only[zz];refine aA (aD) (aC (k13 _ _ ?_));refine aF fun K14 k14=>wp_region_lit (aA (aB) ?_);simp only[zz];refine aW m rfl rfl (Sv) ?_;clear m; intro u m;refine aA (aB) (aA (aT rfl rfl) (aA (aT rfl rfl) ?_));simp only[zz];refine aA (aD) (aA (aD) (aC (k14 _ _ ?_)));simp only[zz];refine dN m 17 aN (by kernel_rfl) ?_;simp only[zy];refine aS (aB) (aS (aB) (aS (aJ jA aG rfl rfl (by decide) (by decide) rfl) ?_));simp only[zz];refine ql rfl (fun u m=>((m.b 3 rfl).lies aR aG rfl rfl)) ?_;simp only[zz,zy,Nat.zero_add,Nat.reduceAdd,Nat.reduceMul,Int.reduceToNat];refine aS (aB) (aS (aJ jA aG rfl rfl (by decide) (by decide) rfl) ?_);simp only[zz];refine ql rfl (fun u m=>((m.b 2 rfl).lies aR aG rfl rfl)) ?_;simp only[zz,zy,Nat.zero_add,Nat.reduceAdd,Nat.reduceMul,Int.reduceToNat];refine gJ rfl rfl (jY Bw.up Bw.up) (aS (aB) (aS (aJ jA aG rfl rfl (by decide) (by decide) rfl) ?_));simp only[zz];refine ql rfl (fun u m=>((m.b 3 rfl).lies aR aG rfl rfl)) ?_;simp only[zz,zy,Nat.zero_add,Nat.reduceAdd,Nat.reduceMul,Int.reduceToNat];refine aS (aB) (aS (aJ jA aG rfl rfl (by decide) (by decide) rfl) ?_);simp only[zz];refine ql rfl (fun u m=>((m.b 2 rfl).lies aR aG rfl rfl)) ?_;simp only[zz,zy,Nat.zero_add,Nat.reduceAdd,Nat.reduceMul,Int.reduceToNat];refine gJ rfl rfl (jY Bw.up Bw.up) ?_;simp only[zz];refine gJ rfl rfl (rK Bw.up Bw.up) (aS (aJ jA aG rfl rfl (by decide) (by decide) rfl) (dW ?_));clear m; intro u m;simp only[zz];refine aL m 0 rfl rfl rfl aG (cA rfl) rfl ?_;clear m; intro u m; simp only[zy,zx,aX,zF,zG,Nat.reduceAdd] at m;refine aC (k12 _ _ ?_);refine wp_region_lit (aA (bD (m:=1) (n:=1) (r:=2) rfl rfl (by decide)) (aA (aB) (aC (bF (aF fun K15 k15=>wp_region_lit (aA (cK (m:=2) (n:=3) rfl rfl (by decide)) (aC (k15 _ _ ?_))))))));refine aF fun K16 k16=>bX rfl (wp_skip (k16 _ _ ?_));refine aF fun K17 k17=>wp_block (aF fun K18 k18=>wp_region_lit (aA (aB) ?_));simp only[zz];refine aA (aD) (aC (k18 _ _ ?_));refine aF fun K19 k19=>wp_region_lit (aA (aB) ?_);simp only[zz];refine aW m rfl rfl (Sw) ?_;clear m; intro u m;refine aA (aB) (aA (aT rfl rfl) (aA (aT rfl rfl) ?_));simp only[zz];refine aA (aD) (aA (aD) (aC (k19 _ _ ?_)));simp only[zz];refine dN m 17 aN (by kernel_rfl) ?_;simp only[zy];refine aS (aB) (aS (aB) (aS (aJ jA aG rfl rfl (by decide) (by decide) rfl) ?_));simp only[zz];refine ql rfl (fun u m=>((m.b 3 rfl).lies aR aG rfl rfl)) ?_;simp only[zz,zy,Nat.zero_add,Nat.reduceAdd,Nat.reduceMul,Int.reduceToNat];refine aS (aB) (aS (aJ jA aG rfl rfl (by decide) (by decide) rfl) ?_);simp only[zz];refine ql rfl (fun u m=>((m.b 2 rfl).lies aR aG rfl rfl)) ?_;simp only[zz,zy,Nat.zero_add,Nat.reduceAdd,Nat.reduceMul,Int.reduceToNat];refine gJ rfl rfl (jY Bw.up Bw.up) (aS (aB) (aS (aJ jA aG rfl rfl (by decide) (by decide) rfl) ?_));simp only[zz];refine ql rfl (fun u m=>((m.b 3 rfl).lies aR aG rfl rfl)) ?_;simp only[zz,zy,Nat.zero_add,Nat.reduceAdd,Nat.reduceMul,Int.reduceToNat];refine aS (aB) (aS (aJ jA aG rfl rfl (by decide) (by decide) rfl) ?_);simp only[zz];refine ql rfl (fun u m=>((m.b 2 rfl).lies aR aG rfl rfl)) ?_;simp only[zz,zy,Nat.zero_add,Nat.reduceAdd,Nat.reduceMul,Int.reduceToNat];refine gJ rfl rfl (jY Bw.up Bw.up) ?_;simp only[zz];refine gJ rfl rfl (rK Bw.up Bw.up) (aS (aJ jA aG rfl rfl (by decide) (by decide) rfl) (dW ?_));clear m; intro u m;simp only[zz];refine aL m 0 rfl rfl rfl aG (cA rfl) rfl ?_;clear m; intro u m; simp only[zy,zx,aX,zF,zG,Nat.reduceAdd] at m;refine aC (k17 _ _ ?_);refine wp_region_lit (aA (bD (m:=2) (n:=1) (r:=3) rfl rfl (by decide)) (aA (aB) (aC (bF (aF fun K20 k20=>wp_region_lit (aA (fA (m:=3) (n:=3) rfl rfl (by decide)) (aC (k20 _ _ ?_))))))));refine aF fun K21 k21=>eQ rfl (wp_exit (k3 _ _ ?_));refine aF fun K22 k22=>wp_region_lit ?_;simp only[zz];refine aI rfl ((m.b 0 rfl).full yZ oT) ?_;simp only[zz];refine aL m 1 rfl rfl rfl oT (cA rfl) rfl ?_;clear m; intro u m; simp only[zy,zx,aX,zF,zG,Nat.reduceAdd] at m;refine aC (k22 _ _ ?_);refine wp_ret ?_;try simp only[Exit.inBlock,Exit.then,if_true]
 refine bU rfl ⟨_,rfl,((m.b 1 rfl).full yZ oT)⟩ ?_;try simp only[zD,zE]
 exact ⟨_,rfl,m.ext,rfl⟩
theorem aa1 {b : Int} (hb : Bd 1000000 b) : dP prog 94 [.agg #[.bool false,.string ⟨#[]⟩],W b] (W (0 + b)):=by
 rw [← aaU];exact Na (iY _) hb
end Go.Proofs.YtimjandkmfcmiaaGreatDoor
namespace Go.Proofs.YtimjandkmfcmiaaGreatDoor
open Tryz
open Go.RowKit Go.Lith
set_option maxRecDepth 100000
attribute [local irreducible] wpList wpQuiet eS dV eG Code.wp
theorem Sx {t : T3} [IT t] : dP prog 70 [tr t] (wv t.normal):=by
 intro w;refine ⟨aco,?_⟩;have m:=cR.refl w
 go_enter func70,ntmps70
 refine aF fun K1 k1=>wp_region_lit (cM m rfl ?_);clear m; intro g1 u m;simp only[zz];refine bC m iB rfl ?_;clear m; intro g2 u m;refine aC (k1 _ _ ?_);refine aF fun K2 k2=>?_;simp only[zz];refine dN m 11 aN (by kernel_rfl) ?_;simp only[zy];refine aS (aJ jS aO rfl rfl (by decide) (by decide) rfl) ?_;simp only[zz];refine ql rfl (fun u m=>((m.b 1 rfl).lies bK aO rfl rfl)) ?_;simp only[zz,zy,Nat.zero_add,Nat.reduceAdd,Nat.reduceMul,Int.reduceToNat];refine aS (aJ jS aO rfl rfl (by decide) (by decide) rfl) ?_;simp only[zz];refine ql rfl (fun u m=>((m.b 1 rfl).lies bK aO rfl rfl)) ?_;simp only[zz,zy,Nat.zero_add,Nat.reduceAdd,Nat.reduceMul,Int.reduceToNat];refine gJ rfl rfl (qB) (aS (aJ jS aO rfl rfl (by decide) (by decide) rfl) ?_);simp only[zz];refine ql rfl (fun u m=>((m.b 1 rfl).lies bK aO rfl rfl)) ?_;simp only[zz,zy,Nat.zero_add,Nat.reduceAdd,Nat.reduceMul,Int.reduceToNat];refine aS (aJ jS aO rfl rfl (by decide) (by decide) rfl) ?_;simp only[zz];refine ql rfl (fun u m=>((m.b 1 rfl).lies bK aO rfl rfl)) ?_;simp only[zz,zy,Nat.zero_add,Nat.reduceAdd,Nat.reduceMul,Int.reduceToNat];refine gJ rfl rfl (qB) ?_;simp only[zz];refine gJ rfl rfl (wL Bv.of Bv.of) (dW ?_);clear m; intro u m;simp only[zz];refine aL m 0 rfl rfl rfl cJ (cA rfl) rfl ?_;clear m; intro u m; simp only[zy,zx,aX,zF,zG,Nat.reduceAdd] at m;refine aC (k2 _ _ ?_);refine wp_ret ?_;try simp only[Exit.inBlock,Exit.then,if_true]
 refine bU rfl ⟨_,rfl,((m.b 0 rfl).full eK cJ)⟩ ?_;try simp only[zD,zE]
 exact ⟨_,rfl,m.ext,rfl⟩
theorem lR {X : Nat} (w : World) (hX64 : X < 18446744073709551616) : iL prog 149 [.int .u64 X] w (fun v _=>∃ n : Int,v = .int .i64 n ∧ 0 ≤ n ∧ n ≤ 64 ∧ (n ≤ 18 → X < 262144)):=by
 refine ⟨aak,?_⟩;have m:=cR.refl w
 go_enter func149,ntmps149
 refine aF fun K1 k1=>wp_region_lit (aA (aD) (aC (k1 _ _ ?_)));refine aF fun K2 k2=>aF fun K3 k3=>wp_region_lit (aA (aB) (aA (lC rfl rfl) (aC (k3 _ _ ?_))));simp only[zz];refine cQ rfl (fun hc1=>?_) (fun hc1=>?_)
 ·
  refine aF fun K4 k4=>wp_region_lit (aA (aB) ?_);simp only[zz];refine aA (mL rfl rfl (by omega) Gk) (aA (aD) (aC (k4 _ _ ?_)));refine wp_region_lit (aA (aD) (aC (k2 _ _ ?_)));refine aF fun K5 k5=>aF fun K6 k6=>wp_region_lit (aA (aB) ?_);simp only[zz];refine aA (lC rfl rfl) (aC (k6 _ _ ?_));simp only[zz];refine cQ rfl (fun hc2=>?_) (fun hc2=>?_)
  ·
   refine aF fun K7 k7=>wp_region_lit (aA (aB) ?_);simp only[zz];refine aA (mL rfl rfl (by omega) Sq) (aA (aD) (aC (k7 _ _ ?_)));refine wp_region_lit (aA (aB) (aA (bD (m:=32) (n:=16) (r:=48) rfl rfl (by decide)) ?_));simp only[zz];refine aA (aD) (aC (k5 _ _ ?_));refine aF fun K8 k8=>aF fun K9 k9=>wp_region_lit (aA (aB) (aA (lC rfl rfl) (aC (k9 _ _ ?_))));simp only[zz];refine cQ rfl (fun hc3=>?_) (fun hc3=>?_)
   ·
    refine aF fun K10 k10=>wp_region_lit (aA (aB) ?_);simp only[zz];refine aA (mL rfl rfl (by omega) Nd) (aA (aD) (aC (k10 _ _ ?_)));refine wp_region_lit (aA (aB) (aA (bD (m:=48) (n:=8) (r:=56) rfl rfl (by decide)) ?_));simp only[zz];refine aA (aD) (aC (k8 _ _ ?_));refine aF fun K11 k11=>wp_region_lit (aA (aB) (aA (aB) (aA (eL nT gM rfl (oK (by omega) (by omega))) ?_)));simp only[zz];refine tF mH (by kernel_rfl) rfl (by omega) ?_;intro b hb8 hb2;simp only[cL,bP,bV,List.getD_cons_succ,List.getD_cons_zero,List.set_cons_succ,List.set_cons_zero];refine aA (eL jB nT rfl (aQ (by omega) (by omega))) ?_;simp only[zz];refine aA (bD rfl rfl (aQ (by omega) (by omega))) (aA (aD) (aC (k11 _ _ ?_)));refine wp_ret ?_;simp only[zz];try simp only[Exit.inBlock,Exit.then,if_true]
    refine bU rfl rfl ?_;try simp only[zD,zE]
    exact ⟨_,rfl,m.ext,_,rfl,by omega,by omega,by omega⟩
   ·
    refine wp_skip (k8 _ _ ?_);refine aF fun K12 k12=>wp_region_lit (aA (aB) (aA (aB) (aA (eL nT gM rfl (oK (by omega) (by omega))) ?_)));simp only[zz];refine tF mH (by kernel_rfl) rfl (by omega) ?_;intro b hb8 hb2;simp only[cL,bP,bV,List.getD_cons_succ,List.getD_cons_zero,List.set_cons_succ,List.set_cons_zero];refine aA (eL jB nT rfl (aQ (by omega) (by omega))) ?_;simp only[zz];refine aA (bD rfl rfl (aQ (by omega) (by omega))) (aA (aD) (aC (k12 _ _ ?_)));refine wp_ret ?_;simp only[zz];try simp only[Exit.inBlock,Exit.then,if_true]
    refine bU rfl rfl ?_;try simp only[zD,zE]
    exact ⟨_,rfl,m.ext,_,rfl,by omega,by omega,by omega⟩
  ·
   refine wp_skip (k5 _ _ ?_);refine aF fun K13 k13=>aF fun K14 k14=>wp_region_lit (aA (aB) (aA (lC rfl rfl) (aC (k14 _ _ ?_))));simp only[zz];refine cQ rfl (fun hc3=>?_) (fun hc3=>?_)
   ·
    refine aF fun K15 k15=>wp_region_lit (aA (aB) ?_);simp only[zz];refine aA (mL rfl rfl (by omega) Nd) (aA (aD) (aC (k15 _ _ ?_)));refine wp_region_lit (aA (aB) (aA (bD (m:=32) (n:=8) (r:=40) rfl rfl (by decide)) ?_));simp only[zz];refine aA (aD) (aC (k13 _ _ ?_));refine aF fun K16 k16=>wp_region_lit (aA (aB) (aA (aB) (aA (eL nT gM rfl (oK (by omega) (by omega))) ?_)));simp only[zz];refine tF mH (by kernel_rfl) rfl (by omega) ?_;intro b hb8 hb2;simp only[cL,bP,bV,List.getD_cons_succ,List.getD_cons_zero,List.set_cons_succ,List.set_cons_zero];refine aA (eL jB nT rfl (aQ (by omega) (by omega))) ?_;simp only[zz];refine aA (bD rfl rfl (aQ (by omega) (by omega))) (aA (aD) (aC (k16 _ _ ?_)));refine wp_ret ?_;simp only[zz];try simp only[Exit.inBlock,Exit.then,if_true]
    refine bU rfl rfl ?_;try simp only[zD,zE]
    exact ⟨_,rfl,m.ext,_,rfl,by omega,by omega,by omega⟩
   ·
    refine wp_skip (k13 _ _ ?_);refine aF fun K17 k17=>wp_region_lit (aA (aB) (aA (aB) (aA (eL nT gM rfl (oK (by omega) (by omega))) ?_)));simp only[zz];refine tF mH (by kernel_rfl) rfl (by omega) ?_;intro b hb8 hb2;simp only[cL,bP,bV,List.getD_cons_succ,List.getD_cons_zero,List.set_cons_succ,List.set_cons_zero];refine aA (eL jB nT rfl (aQ (by omega) (by omega))) ?_;simp only[zz];refine aA (bD rfl rfl (aQ (by omega) (by omega))) (aA (aD) (aC (k17 _ _ ?_)));refine wp_ret ?_;simp only[zz];try simp only[Exit.inBlock,Exit.then,if_true]
    refine bU rfl rfl ?_;try simp only[zD,zE]
    exact ⟨_,rfl,m.ext,_,rfl,by omega,by omega,by omega⟩
 ·
  refine wp_skip (k2 _ _ ?_);refine aF fun K18 k18=>aF fun K19 k19=>wp_region_lit (aA (aB) (aA (lC rfl rfl) (aC (k19 _ _ ?_))));simp only[zz];refine cQ rfl (fun hc2=>?_) (fun hc2=>?_)
  ·
   refine aF fun K20 k20=>wp_region_lit (aA (aB) ?_);simp only[zz];refine aA (mL rfl rfl (by omega) Sq) (aA (aD) (aC (k20 _ _ ?_)));refine wp_region_lit (aA (aB) (aA (bD (m:=0) (n:=16) (r:=16) rfl rfl (by decide)) ?_));simp only[zz];refine aA (aD) (aC (k18 _ _ ?_));refine aF fun K21 k21=>aF fun K22 k22=>wp_region_lit (aA (aB) (aA (lC rfl rfl) (aC (k22 _ _ ?_))));simp only[zz];refine cQ rfl (fun hc3=>?_) (fun hc3=>?_)
   ·
    refine aF fun K23 k23=>wp_region_lit (aA (aB) ?_);simp only[zz];refine aA (mL rfl rfl (by omega) Nd) (aA (aD) (aC (k23 _ _ ?_)));refine wp_region_lit (aA (aB) (aA (bD (m:=16) (n:=8) (r:=24) rfl rfl (by decide)) ?_));simp only[zz];refine aA (aD) (aC (k21 _ _ ?_));refine aF fun K24 k24=>wp_region_lit (aA (aB) (aA (aB) (aA (eL nT gM rfl (oK (by omega) (by omega))) ?_)));simp only[zz];refine tF mH (by kernel_rfl) rfl (by omega) ?_;intro b hb8 hb2;simp only[cL,bP,bV,List.getD_cons_succ,List.getD_cons_zero,List.set_cons_succ,List.set_cons_zero];refine aA (eL jB nT rfl (aQ (by omega) (by omega))) ?_;simp only[zz];refine aA (bD rfl rfl (aQ (by omega) (by omega))) (aA (aD) (aC (k24 _ _ ?_)));refine wp_ret ?_;simp only[zz];try simp only[Exit.inBlock,Exit.then,if_true]
    refine bU rfl rfl ?_;try simp only[zD,zE]
    exact ⟨_,rfl,m.ext,_,rfl,by omega,by omega,by omega⟩
   ·
    refine wp_skip (k21 _ _ ?_);refine aF fun K25 k25=>wp_region_lit (aA (aB) (aA (aB) (aA (eL nT gM rfl (oK (by omega) (by omega))) ?_)));simp only[zz];refine tF mH (by kernel_rfl) rfl (by omega) ?_;intro b hb8 hb2;simp only[cL,bP,bV,List.getD_cons_succ,List.getD_cons_zero,List.set_cons_succ,List.set_cons_zero];refine aA (eL jB nT rfl (aQ (by omega) (by omega))) ?_;simp only[zz];refine aA (bD rfl rfl (aQ (by omega) (by omega))) (aA (aD) (aC (k25 _ _ ?_)));refine wp_ret ?_;simp only[zz];try simp only[Exit.inBlock,Exit.then,if_true]
    refine bU rfl rfl ?_;try simp only[zD,zE]
    exact ⟨_,rfl,m.ext,_,rfl,by omega,by omega,by omega⟩
  ·
   refine wp_skip (k18 _ _ ?_);refine aF fun K26 k26=>aF fun K27 k27=>wp_region_lit (aA (aB) (aA (lC rfl rfl) (aC (k27 _ _ ?_))));simp only[zz];refine cQ rfl (fun hc3=>?_) (fun hc3=>?_)
   ·
    refine aF fun K28 k28=>wp_region_lit (aA (aB) ?_);simp only[zz];refine aA (mL rfl rfl (by omega) Nd) (aA (aD) (aC (k28 _ _ ?_)));refine wp_region_lit (aA (aB) (aA (bD (m:=0) (n:=8) (r:=8) rfl rfl (by decide)) ?_));simp only[zz];refine aA (aD) (aC (k26 _ _ ?_));refine aF fun K29 k29=>wp_region_lit (aA (aB) (aA (aB) (aA (eL nT gM rfl (oK (by omega) (by omega))) ?_)));simp only[zz];refine tF mH (by kernel_rfl) rfl (by omega) ?_;intro b hb8 hb2;simp only[cL,bP,bV,List.getD_cons_succ,List.getD_cons_zero,List.set_cons_succ,List.set_cons_zero];refine aA (eL jB nT rfl (aQ (by omega) (by omega))) ?_;simp only[zz];refine aA (bD rfl rfl (aQ (by omega) (by omega))) (aA (aD) (aC (k29 _ _ ?_)));refine wp_ret ?_;simp only[zz];try simp only[Exit.inBlock,Exit.then,if_true]
    refine bU rfl rfl ?_;try simp only[zD,zE]
    exact ⟨_,rfl,m.ext,_,rfl,by omega,by omega,by omega⟩
   ·
    refine wp_skip (k26 _ _ ?_);refine aF fun K30 k30=>wp_region_lit (aA (aB) (aA (aB) (aA (eL nT gM rfl (oK (by omega) (by omega))) ?_)));simp only[zz];refine tF mH (by kernel_rfl) rfl (by omega) ?_;intro b hb8 hb2;simp only[cL,bP,bV,List.getD_cons_succ,List.getD_cons_zero,List.set_cons_succ,List.set_cons_zero];refine aA (eL jB nT rfl (aQ (by omega) (by omega))) ?_;simp only[zz];refine aA (bD rfl rfl (aQ (by omega) (by omega))) (aA (aD) (aC (k30 _ _ ?_)));refine wp_ret ?_;simp only[zz];try simp only[Exit.inBlock,Exit.then,if_true]
    refine bU rfl rfl ?_;try simp only[zD,zE]
    exact ⟨_,rfl,m.ext,_,rfl,by omega,by omega,by omega⟩
theorem wM {p q : P3} [hp : S3 p] [hq : S3 q] : dP prog 134 [pt p,pt q] (nv (q.sub p)):=by
 intro w;refine ⟨aad,?_⟩;have m:=cR.refl w;have:=hp.x; have:=hp.y; have:=hp.z; have:=hq.x; have:=hq.y; have:=hq.z
 go_enter func134,ntmps134
 refine aF fun K1 k1=>wp_region_lit (cM m rfl ?_);clear m; intro g1 u m;simp only[zz];refine cM m rfl ?_;clear m; intro g2 u m;simp only[zz];refine bC m vW rfl ?_;clear m; intro g3 u m;refine aC (k1 _ _ ?_);refine aF fun K2 k2=>wp_region_lit (aA (aH (c:=0) bZ rfl aM rfl rfl) ?_);simp only[zz];refine aI rfl ((m.b 1 rfl).lies1 aZ rfl) ?_;simp only[zz];refine aA (aH (c:=0) bZ rfl aM rfl rfl) ?_;simp only[zz];refine aI rfl ((m.b 2 rfl).lies1 aZ rfl) ?_;simp only[zz];refine aA (dU rfl rfl (aQ (by omega) (by omega))) (aA (aH (c:=0) bZ rfl aM rfl rfl) ?_);simp only[zz];refine aI rfl ((m.b 1 rfl).lies1 aZ rfl) ?_;simp only[zz];refine aA (aH (c:=0) bZ rfl aM rfl rfl) ?_;simp only[zz];refine aI rfl ((m.b 2 rfl).lies1 aZ rfl) ?_;simp only[zz];refine aA (dU rfl rfl (aQ (by omega) (by omega))) (aA (aH (c:=0) bZ rfl aM rfl rfl) ?_);simp only[zz];refine aI rfl ((m.b 1 rfl).lies1 aZ rfl) ?_;simp only[zz];refine aA (aH (c:=0) bZ rfl aM rfl rfl) ?_;simp only[zz];refine aI rfl ((m.b 2 rfl).lies1 aZ rfl) ?_;simp only[zz];refine aA (dU rfl rfl (aQ (by omega) (by omega))) (aA (wA rfl rfl rfl) ?_);simp only[zz];refine aL m 0 rfl rfl rfl qY (cA rfl) rfl ?_;clear m; intro u m; simp only[zy,zx,aX,zF,zG,Nat.reduceAdd] at m;refine aC (k2 _ _ ?_);refine wp_ret ?_;try simp only[Exit.inBlock,Exit.then,if_true]
 refine bU rfl ⟨_,rfl,((m.b 0 rfl).full Fx qY)⟩ ?_;try simp only[zD,zE]
 exact ⟨_,rfl,m.ext,rfl⟩
theorem Ds {u v : P3} (hu : N3 u) (hv : N3 v) : dP prog 135 [nv u,nv v] (nv (u.cross v)):=by
 intro w;refine ⟨aae,?_⟩;have m:=cR.refl w
 go_enter func135,ntmps135
 refine aF fun K1 k1=>wp_region_lit (cM m rfl ?_);clear m; intro g1 u m;simp only[zz];refine cM m rfl ?_;clear m; intro g2 u m;simp only[zz];refine bC m vW rfl ?_;clear m; intro g3 u m;refine aC (k1 _ _ ?_);refine aF fun K2 k2=>wp_region_lit ?_;simp only[zz];refine bC m vW rfl ?_;clear m; intro g4 u m;refine aC (k2 _ _ ?_);refine aF fun K3 k3=>aF fun K4 k4=>wp_region_lit (aA (aB) (aC (k4 _ _ ?_)));refine wp_block (wp_loop_rounds 4 (dQ (aF fun K5 k5=>wp_region_lit (aA (cK (m:=0) (n:=3) rfl rfl (by decide)) (aC (k5 _ _ ?_))))));refine aF fun K6 k6=>bX rfl (wp_skip (k6 _ _ ?_));refine aF fun K7 k7=>wp_block (aF fun K8 k8=>wp_region_lit (aA (aB) ?_));simp only[zz];refine aA (aD) (aC (k8 _ _ ?_));refine aF fun K9 k9=>wp_region_lit (aA (aB) ?_);simp only[zz];refine aW m rfl rfl (Su) ?_;clear m; intro u m;refine aA (aB) (aA (aT rfl rfl) (aA (aT rfl rfl) ?_));simp only[zz];refine aA (aD) (aA (aD) (aC (k9 _ _ ?_)));simp only[zz];refine dN m 17 aN (by kernel_rfl) ?_;simp only[zy];refine aS (aB) (aS (aB) (aS (aJ jU aM rfl rfl (by decide) (by decide) rfl) ?_));simp only[zz];refine ql rfl (fun u m=>((m.b 3 rfl).lies1 aZ rfl)) ?_;simp only[zz];refine aS (aB) (aS (aJ jU aM rfl rfl (by decide) (by decide) rfl) ?_);simp only[zz];refine ql rfl (fun u m=>((m.b 2 rfl).lies1 aZ rfl)) ?_;simp only[zz];refine aS (lB rfl rfl (Ep (yW hu.y hv.z))) (aS (aB) (aS (aJ jU aM rfl rfl (by decide) (by decide) rfl) ?_));simp only[zz];refine ql rfl (fun u m=>((m.b 3 rfl).lies1 aZ rfl)) ?_;simp only[zz];refine aS (aB) (aS (aJ jU aM rfl rfl (by decide) (by decide) rfl) ?_);simp only[zz];refine ql rfl (fun u m=>((m.b 2 rfl).lies1 aZ rfl)) ?_;simp only[zz];refine aS (lB rfl rfl (Ep (yW hu.z hv.y))) (aS (dU rfl rfl (aaZ (yW hu.y hv.z) (yW hu.z hv.y))) (aS (aJ jU aM rfl rfl (by decide) (by decide) rfl) (dW ?_)));clear m; intro u m;simp only[zz];refine dA m 0 rfl rfl rfl aM (cA rfl) ⟨rfl,rfl⟩ ?_;clear m; intro u m; simp only[zy,zx,aX,zF,zG,Nat.reduceAdd] at m;refine aC (k7 _ _ ?_);refine wp_region_lit (aA (bD (m:=0) (n:=1) (r:=1) rfl rfl (by decide)) (aA (aB) (aC (bF (aF fun K10 k10=>wp_region_lit (aA (cK (m:=1) (n:=3) rfl rfl (by decide)) (aC (k10 _ _ ?_))))))));refine aF fun K11 k11=>bX rfl (wp_skip (k11 _ _ ?_));refine aF fun K12 k12=>wp_block (aF fun K13 k13=>wp_region_lit (aA (aB) ?_));simp only[zz];refine aA (aD) (aC (k13 _ _ ?_));refine aF fun K14 k14=>wp_region_lit (aA (aB) ?_);simp only[zz];refine aW m rfl rfl (Sv) ?_;clear m; intro u m;refine aA (aB) (aA (aT rfl rfl) (aA (aT rfl rfl) ?_));simp only[zz];refine aA (aD) (aA (aD) (aC (k14 _ _ ?_)));simp only[zz];refine dN m 17 aN (by kernel_rfl) ?_;simp only[zy];refine aS (aB) (aS (aB) (aS (aJ jU aM rfl rfl (by decide) (by decide) rfl) ?_));simp only[zz];refine ql rfl (fun u m=>((m.b 3 rfl).lies1 aZ rfl)) ?_;simp only[zz];refine aS (aB) (aS (aJ jU aM rfl rfl (by decide) (by decide) rfl) ?_);simp only[zz];refine ql rfl (fun u m=>((m.b 2 rfl).lies1 aZ rfl)) ?_;simp only[zz];refine aS (lB rfl rfl (Ep (yW hu.z hv.x))) (aS (aB) (aS (aJ jU aM rfl rfl (by decide) (by decide) rfl) ?_));simp only[zz];refine ql rfl (fun u m=>((m.b 3 rfl).lies1 aZ rfl)) ?_;simp only[zz];refine aS (aB) (aS (aJ jU aM rfl rfl (by decide) (by decide) rfl) ?_);simp only[zz];refine ql rfl (fun u m=>((m.b 2 rfl).lies1 aZ rfl)) ?_;simp only[zz];refine aS (lB rfl rfl (Ep (yW hu.x hv.z))) (aS (dU rfl rfl (aaZ (yW hu.z hv.x) (yW hu.x hv.z))) (aS (aJ jU aM rfl rfl (by decide) (by decide) rfl) (dW ?_)));clear m; intro u m;simp only[zz];refine dA m 0 rfl rfl rfl aM (cA rfl) ⟨rfl,rfl⟩ ?_;clear m; intro u m; simp only[zy,zx,aX,zF,zG,Nat.reduceAdd] at m;refine aC (k12 _ _ ?_);refine wp_region_lit (aA (bD (m:=1) (n:=1) (r:=2) rfl rfl (by decide)) (aA (aB) (aC (bF (aF fun K15 k15=>wp_region_lit (aA (cK (m:=2) (n:=3) rfl rfl (by decide)) (aC (k15 _ _ ?_))))))));refine aF fun K16 k16=>bX rfl (wp_skip (k16 _ _ ?_));refine aF fun K17 k17=>wp_block (aF fun K18 k18=>wp_region_lit (aA (aB) ?_));simp only[zz];refine aA (aD) (aC (k18 _ _ ?_));refine aF fun K19 k19=>wp_region_lit (aA (aB) ?_);simp only[zz];refine aW m rfl rfl (Sw) ?_;clear m; intro u m;refine aA (aB) (aA (aT rfl rfl) (aA (aT rfl rfl) ?_));simp only[zz];refine aA (aD) (aA (aD) (aC (k19 _ _ ?_)));simp only[zz];refine dN m 17 aN (by kernel_rfl) ?_;simp only[zy];refine aS (aB) (aS (aB) (aS (aJ jU aM rfl rfl (by decide) (by decide) rfl) ?_));simp only[zz];refine ql rfl (fun u m=>((m.b 3 rfl).lies1 aZ rfl)) ?_;simp only[zz];refine aS (aB) (aS (aJ jU aM rfl rfl (by decide) (by decide) rfl) ?_);simp only[zz];refine ql rfl (fun u m=>((m.b 2 rfl).lies1 aZ rfl)) ?_;simp only[zz];refine aS (lB rfl rfl (Ep (yW hu.x hv.y))) (aS (aB) (aS (aJ jU aM rfl rfl (by decide) (by decide) rfl) ?_));simp only[zz];refine ql rfl (fun u m=>((m.b 3 rfl).lies1 aZ rfl)) ?_;simp only[zz];refine aS (aB) (aS (aJ jU aM rfl rfl (by decide) (by decide) rfl) ?_);simp only[zz];refine ql rfl (fun u m=>((m.b 2 rfl).lies1 aZ rfl)) ?_;simp only[zz];refine aS (lB rfl rfl (Ep (yW hu.y hv.x))) (aS (dU rfl rfl (aaZ (yW hu.x hv.y) (yW hu.y hv.x))) (aS (aJ jU aM rfl rfl (by decide) (by decide) rfl) (dW ?_)));clear m; intro u m;simp only[zz];refine dA m 0 rfl rfl rfl aM (cA rfl) ⟨rfl,rfl⟩ ?_;clear m; intro u m; simp only[zy,zx,aX,zF,zG,Nat.reduceAdd] at m;refine aC (k17 _ _ ?_);refine wp_region_lit (aA (bD (m:=2) (n:=1) (r:=3) rfl rfl (by decide)) (aA (aB) (aC (bF (aF fun K20 k20=>wp_region_lit (aA (fA (m:=3) (n:=3) rfl rfl (by decide)) (aC (k20 _ _ ?_))))))));refine aF fun K21 k21=>eQ rfl (wp_exit (k3 _ _ ?_));refine aF fun K22 k22=>wp_region_lit ?_;simp only[zz];refine aI rfl ((m.b 0 rfl).full Fx qY) ?_;simp only[zz];refine aL m 1 rfl rfl rfl qY (cA rfl) rfl ?_;clear m; intro u m; simp only[zy,zx,aX,zF,zG,Nat.reduceAdd] at m;refine aC (k22 _ _ ?_);refine wp_ret ?_;try simp only[Exit.inBlock,Exit.then,if_true]
 refine bU rfl ⟨_,rfl,((m.b 1 rfl).full Fx qY)⟩ ?_;try simp only[zD,zE]
 exact ⟨_,rfl,m.ext,rfl⟩
theorem Lm {n : Int} : dP prog 136 [.int .i64 n] (.int .i64 (dG n)):=by
 intro w;refine ⟨aaf,?_⟩;have m:=cR.refl w
 go_enter func136,ntmps136
 refine aF fun K1 k1=>wp_region_lit (aA (aD) (aC (k1 _ _ ?_)));refine aF fun K2 k2=>wp_block (aF fun K3 k3=>wp_region_lit (aA (aB) (aA (eA rfl rfl) (aA (aD) ?_))));simp only[zz];refine aC (k3 _ _ ?_);refine cQ rfl (fun hc1=>?_) (fun hc1=>?_)
 ·
  refine aF fun K4 k4=>wp_region_lit (aA (aD) (aC (k4 _ _ ?_)));refine wp_ret ?_;simp only[zz];try simp only[Exit.inBlock,Exit.then,if_true]
  refine bU rfl rfl ?_;try simp only[zD,zE]
  exact ⟨_,rfl,m.ext,by rw [mF (by assumption)]⟩
 ·
  refine aF fun K5 k5=>wp_region_lit (aA (aB) (aA (gS rfl rfl) (aA (aD) (aC (k5 _ _ ?_)))));simp only[zz];refine cQ rfl (fun hc2=>?_) (fun hc2=>?_)
  ·
   refine aF fun K6 k6=>wp_region_lit (aA (aD) (aC (k6 _ _ ?_)));refine wp_ret ?_;simp only[zz];try simp only[Exit.inBlock,Exit.then,if_true]
   refine bU rfl rfl ?_;try simp only[zD,zE]
   exact ⟨_,rfl,m.ext,by rw [lA (by assumption)]⟩
  ·
   refine wp_skip (k2 _ _ ?_);refine aF fun K7 k7=>wp_region_lit (aA (aD) (aC (k7 _ _ ?_)));refine wp_ret ?_;simp only[zz];try simp only[Exit.inBlock,Exit.then,if_true]
   refine bU rfl rfl ?_;try simp only[zD,zE]
   exact ⟨_,rfl,m.ext,by rw [show n = 0 by omega]; rfl⟩
end Go.Proofs.YtimjandkmfcmiaaGreatDoor
namespace Go.Proofs.YtimjandkmfcmiaaGreatDoor
open Tryz
open Go.RowKit Go.Lith
set_option maxRecDepth 100000
attribute [local irreducible] wpList wpQuiet eS dV eG Code.wp
theorem Ph {a b c d : P3} [I3 a] [I3 b] [I3 c] [I3 d] {g0 : Nat} (w : World) (hB0 : fW w g0 [.int .i64 a.x,.int .i64 a.y,.int .i64 a.z,.int .i64 b.x,.int .i64 b.y,.int .i64 b.z,.int .i64 c.x,.int .i64 c.y,.int .i64 c.z,.int .i64 d.x,.int .i64 d.y,.int .i64 d.z] 56) : iL prog 133 [.slice (some ⟨g0,0,none⟩) 4 4] w (fun v _=>∃ bo : Bool,v = .bool bo ∧ (bo = true → S3 a ∧ S3 b ∧ S3 c ∧ S3 d)):=by
 refine ⟨aac,?_⟩;have m:=cR.refl w
 go_enter func133,ntmps133
 refine aF fun K1 k1=>wp_region_lit (aA (aD) (aC (k1 _ _ ?_)));refine aF fun K2 k2=>aF fun K3 k3=>wp_region_lit (aA (aB) (aA (bR rfl sR rfl) (aA (aB) ?_)));simp only[zz];refine aC (k3 _ _ ?_);refine wp_block (wp_loop_rounds 5 (dQ (aF fun K4 k4=>wp_region_lit (aA (cK (m:=0) (n:=4) rfl rfl (by decide)) (aC (k4 _ _ ?_))))));refine aF fun K5 k5=>bX rfl (wp_skip (k5 _ _ ?_));refine aF fun K6 k6=>wp_block (aF fun K7 k7=>wp_region_lit (aA (aU sR aO rfl rfl (by decide) (by decide) rfl) ?_));simp only[zz];refine aI rfl ((hB0.ext m.ext).lies bK aO rfl rfl) ?_;simp only[zz,zy,Nat.zero_add,Nat.reduceAdd,Nat.reduceMul,Int.reduceToNat];refine bC m eH rfl ?_;clear m; intro g1 u m;simp only[zz];refine aL m 0 rfl rfl rfl aO (cA rfl) rfl ?_;clear m; intro u m; simp only[zy,zx,aX,zF,zG,Nat.reduceAdd] at m;refine aC (k7 _ _ ?_);refine aF fun K8 k8=>wp_region_lit (aA (aH (c:=0) bZ rfl aM rfl rfl) ?_);simp only[zz];refine aI rfl ((m.b 0 rfl).lies1 aZ rfl) ?_;simp only[zz];refine aA (aH (c:=0) bZ rfl aM rfl rfl) ?_;simp only[zz];refine aI rfl ((m.b 0 rfl).lies1 aZ rfl) ?_;simp only[zz];refine aA (aH (c:=0) bZ rfl aM rfl rfl) ?_;simp only[zz];refine aI rfl ((m.b 0 rfl).lies1 aZ rfl) ?_;simp only[zz];refine aA (dY rfl rfl rfl) (aA (aB) (aC (k8 _ _ ?_)));refine wp_block (wp_loop_rounds 4 (dQ (aF fun K9 k9=>wp_region_lit (aA (cK (m:=0) (n:=3) rfl rfl (by decide)) (aC (k9 _ _ ?_))))));refine aF fun K10 k10=>bX rfl (wp_skip (k10 _ _ ?_));refine aF fun K11 k11=>wp_block (aF fun K12 k12=>wp_region_lit (aA (oN rfl rfl) ?_));simp only[zz];refine aA (aD) (aC (k12 _ _ ?_));refine aF fun K13 k13=>wp_region_lit (aA (aB) (aA (aB) (aA (oW rfl rfl) ?_)));simp only[zz];refine aA (jR rfl rfl rfl) (aA (eL gM jB rfl (sS Iw.h)) ?_);simp only[zz];refine fU m rfl rfl (lR (X:=(a.x).natAbs) _ (by have:=(Iw.h : jG a.x).natAbs; omega)) ?_;clear m; rintro v u m ⟨n,rfl,hn0,hn1,hax⟩;refine aA (gS rfl rfl) (aC (k13 _ _ ?_));simp only[zz];refine cQ rfl (fun hc3=>?_) (fun hc3=>?_)
 ·
  refine aF fun K14 k14=>wp_region_lit (aA (aD) (aC (k14 _ _ ?_)));refine wp_ret ?_;simp only[zz];try simp only[Exit.inBlock,Exit.then,if_true]
  refine bU rfl rfl ?_;try simp only[zD,zE]
  exact ⟨_,rfl,m.ext,false,rfl,fun h=>by cases h⟩
 ·
  replace hax:=hax (by omega);clear hc3 hn0 hn1;refine wp_skip (k11 _ _ ?_);refine wp_region_lit (aA (bD (m:=0) (n:=1) (r:=1) rfl rfl (by decide)) (aA (aB) (aC (bF (aF fun K15 k15=>wp_region_lit (aA (cK (m:=1) (n:=3) rfl rfl (by decide)) (aC (k15 _ _ ?_))))))));refine aF fun K16 k16=>bX rfl (wp_skip (k16 _ _ ?_));refine aF fun K17 k17=>wp_block (aF fun K18 k18=>wp_region_lit (aA (oO rfl rfl) ?_));simp only[zz];refine aA (aD) (aC (k18 _ _ ?_));refine aF fun K19 k19=>wp_region_lit (aA (aB) (aA (aB) (aA (oW rfl rfl) ?_)));simp only[zz];refine aA (jR rfl rfl rfl) (aA (eL gM jB rfl (sS Iw.h)) ?_);simp only[zz];refine fU m rfl rfl (lR (X:=(a.y).natAbs) _ (by have:=(Iw.h : jG a.y).natAbs; omega)) ?_;clear m; rintro v u m ⟨n,rfl,hn0,hn1,hay⟩;refine aA (gS rfl rfl) (aC (k19 _ _ ?_));simp only[zz];refine cQ rfl (fun hc3=>?_) (fun hc3=>?_)
  ·
   refine aF fun K20 k20=>wp_region_lit (aA (aD) (aC (k20 _ _ ?_)));refine wp_ret ?_;simp only[zz];try simp only[Exit.inBlock,Exit.then,if_true]
   refine bU rfl rfl ?_;try simp only[zD,zE]
   exact ⟨_,rfl,m.ext,false,rfl,fun h=>by cases h⟩
  ·
   replace hay:=hay (by omega);clear hc3 hn0 hn1;refine wp_skip (k17 _ _ ?_);refine wp_region_lit (aA (bD (m:=1) (n:=1) (r:=2) rfl rfl (by decide)) (aA (aB) (aC (bF (aF fun K21 k21=>wp_region_lit (aA (cK (m:=2) (n:=3) rfl rfl (by decide)) (aC (k21 _ _ ?_))))))));refine aF fun K22 k22=>bX rfl (wp_skip (k22 _ _ ?_));refine aF fun K23 k23=>wp_block (aF fun K24 k24=>wp_region_lit (aA (oP rfl rfl) ?_));simp only[zz];refine aA (aD) (aC (k24 _ _ ?_));refine aF fun K25 k25=>wp_region_lit (aA (aB) (aA (aB) (aA (oW rfl rfl) ?_)));simp only[zz];refine aA (jR rfl rfl rfl) (aA (eL gM jB rfl (sS Iw.h)) ?_);simp only[zz];refine fU m rfl rfl (lR (X:=(a.z).natAbs) _ (by have:=(Iw.h : jG a.z).natAbs; omega)) ?_;clear m; rintro v u m ⟨n,rfl,hn0,hn1,haz⟩;refine aA (gS rfl rfl) (aC (k25 _ _ ?_));simp only[zz];refine cQ rfl (fun hc3=>?_) (fun hc3=>?_)
   ·
    refine aF fun K26 k26=>wp_region_lit (aA (aD) (aC (k26 _ _ ?_)));refine wp_ret ?_;simp only[zz];try simp only[Exit.inBlock,Exit.then,if_true]
    refine bU rfl rfl ?_;try simp only[zD,zE]
    exact ⟨_,rfl,m.ext,false,rfl,fun h=>by cases h⟩
   ·
    replace haz:=haz (by omega);clear hc3 hn0 hn1;refine wp_skip (k23 _ _ ?_);refine wp_region_lit (aA (bD (m:=2) (n:=1) (r:=3) rfl rfl (by decide)) (aA (aB) (aC (bF (aF fun K27 k27=>wp_region_lit (aA (fA (m:=3) (n:=3) rfl rfl (by decide)) (aC (k27 _ _ ?_))))))));refine aF fun K28 k28=>eQ rfl (wp_exit (k6 _ _ ?_));refine wp_region_lit (aA (bD (m:=0) (n:=1) (r:=1) rfl rfl (by decide)) ?_);simp only[zz];refine aA (aB) (aC (bF (aF fun K29 k29=>wp_region_lit (aA (cK (m:=1) (n:=4) rfl rfl (by decide)) (aC (k29 _ _ ?_))))));refine aF fun K30 k30=>bX rfl (wp_skip (k30 _ _ ?_));refine aF fun K31 k31=>wp_block (aF fun K32 k32=>wp_region_lit (aA (aU sR aO rfl rfl (by decide) (by decide) rfl) ?_));simp only[zz];refine aI rfl ((hB0.ext m.ext).lies bK aO rfl rfl) ?_;simp only[zz,zy,Nat.zero_add,Nat.reduceAdd,Nat.reduceMul,Int.reduceToNat];refine bC m eH rfl ?_;clear m; intro g2 u m;simp only[zz];refine aL m 0 rfl rfl rfl aO (cA rfl) rfl ?_;clear m; intro u m; simp only[zy,zx,aX,zF,zG,Nat.reduceAdd] at m;refine aC (k32 _ _ ?_);refine aF fun K33 k33=>wp_region_lit (aA (aH (c:=0) bZ rfl aM rfl rfl) ?_);simp only[zz];refine aI rfl ((m.b 0 rfl).lies1 aZ rfl) ?_;simp only[zz];refine aA (aH (c:=0) bZ rfl aM rfl rfl) ?_;simp only[zz];refine aI rfl ((m.b 0 rfl).lies1 aZ rfl) ?_;simp only[zz];refine aA (aH (c:=0) bZ rfl aM rfl rfl) ?_;simp only[zz];refine aI rfl ((m.b 0 rfl).lies1 aZ rfl) ?_;simp only[zz];refine aA (dY rfl rfl rfl) (aA (aB) (aC (k33 _ _ ?_)));refine wp_block (wp_loop_rounds 4 (dQ (aF fun K34 k34=>wp_region_lit (aA (cK (m:=0) (n:=3) rfl rfl (by decide)) (aC (k34 _ _ ?_))))));refine aF fun K35 k35=>bX rfl (wp_skip (k35 _ _ ?_));refine aF fun K36 k36=>wp_block (aF fun K37 k37=>wp_region_lit (aA (oN rfl rfl) ?_));simp only[zz];refine aA (aD) (aC (k37 _ _ ?_));refine aF fun K38 k38=>wp_region_lit (aA (aB) (aA (aB) (aA (oW rfl rfl) ?_)));simp only[zz];refine aA (jR rfl rfl rfl) (aA (eL gM jB rfl (sS Iw.h)) ?_);simp only[zz];refine fU m rfl rfl (lR (X:=(b.x).natAbs) _ (by have:=(Iw.h : jG b.x).natAbs; omega)) ?_;clear m; rintro v u m ⟨n,rfl,hn0,hn1,hbx⟩;refine aA (gS rfl rfl) (aC (k38 _ _ ?_));simp only[zz];refine cQ rfl (fun hc3=>?_) (fun hc3=>?_)
    ·
     refine aF fun K39 k39=>wp_region_lit (aA (aD) (aC (k39 _ _ ?_)));refine wp_ret ?_;simp only[zz];try simp only[Exit.inBlock,Exit.then,if_true]
     refine bU rfl rfl ?_;try simp only[zD,zE]
     exact ⟨_,rfl,m.ext,false,rfl,fun h=>by cases h⟩
    ·
     replace hbx:=hbx (by omega);clear hc3 hn0 hn1;refine wp_skip (k36 _ _ ?_);refine wp_region_lit (aA (bD (m:=0) (n:=1) (r:=1) rfl rfl (by decide)) (aA (aB) (aC (bF (aF fun K40 k40=>wp_region_lit (aA (cK (m:=1) (n:=3) rfl rfl (by decide)) (aC (k40 _ _ ?_))))))));refine aF fun K41 k41=>bX rfl (wp_skip (k41 _ _ ?_));refine aF fun K42 k42=>wp_block (aF fun K43 k43=>wp_region_lit (aA (oO rfl rfl) ?_));simp only[zz];refine aA (aD) (aC (k43 _ _ ?_));refine aF fun K44 k44=>wp_region_lit (aA (aB) (aA (aB) (aA (oW rfl rfl) ?_)));simp only[zz];refine aA (jR rfl rfl rfl) (aA (eL gM jB rfl (sS Iw.h)) ?_);simp only[zz];refine fU m rfl rfl (lR (X:=(b.y).natAbs) _ (by have:=(Iw.h : jG b.y).natAbs; omega)) ?_;clear m; rintro v u m ⟨n,rfl,hn0,hn1,hby⟩;refine aA (gS rfl rfl) (aC (k44 _ _ ?_));simp only[zz];refine cQ rfl (fun hc3=>?_) (fun hc3=>?_)
     ·
      refine aF fun K45 k45=>wp_region_lit (aA (aD) (aC (k45 _ _ ?_)));refine wp_ret ?_;simp only[zz];try simp only[Exit.inBlock,Exit.then,if_true]
      refine bU rfl rfl ?_;try simp only[zD,zE]
      exact ⟨_,rfl,m.ext,false,rfl,fun h=>by cases h⟩
     ·
      replace hby:=hby (by omega);clear hc3 hn0 hn1;refine wp_skip (k42 _ _ ?_);refine wp_region_lit (aA (bD (m:=1) (n:=1) (r:=2) rfl rfl (by decide)) (aA (aB) (aC (bF (aF fun K46 k46=>wp_region_lit (aA (cK (m:=2) (n:=3) rfl rfl (by decide)) (aC (k46 _ _ ?_))))))));refine aF fun K47 k47=>bX rfl (wp_skip (k47 _ _ ?_));refine aF fun K48 k48=>wp_block (aF fun K49 k49=>wp_region_lit (aA (oP rfl rfl) ?_));simp only[zz];refine aA (aD) (aC (k49 _ _ ?_));refine aF fun K50 k50=>wp_region_lit (aA (aB) (aA (aB) (aA (oW rfl rfl) ?_)));simp only[zz];refine aA (jR rfl rfl rfl) (aA (eL gM jB rfl (sS Iw.h)) ?_);simp only[zz];refine fU m rfl rfl (lR (X:=(b.z).natAbs) _ (by have:=(Iw.h : jG b.z).natAbs; omega)) ?_;clear m; rintro v u m ⟨n,rfl,hn0,hn1,hbz⟩;refine aA (gS rfl rfl) (aC (k50 _ _ ?_));simp only[zz];refine cQ rfl (fun hc3=>?_) (fun hc3=>?_)
      ·
       refine aF fun K51 k51=>wp_region_lit (aA (aD) (aC (k51 _ _ ?_)));refine wp_ret ?_;simp only[zz];try simp only[Exit.inBlock,Exit.then,if_true]
       refine bU rfl rfl ?_;try simp only[zD,zE]
       exact ⟨_,rfl,m.ext,false,rfl,fun h=>by cases h⟩
      ·
       replace hbz:=hbz (by omega);clear hc3 hn0 hn1;refine wp_skip (k48 _ _ ?_);refine wp_region_lit (aA (bD (m:=2) (n:=1) (r:=3) rfl rfl (by decide)) (aA (aB) (aC (bF (aF fun K52 k52=>wp_region_lit (aA (fA (m:=3) (n:=3) rfl rfl (by decide)) (aC (k52 _ _ ?_))))))));refine aF fun K53 k53=>eQ rfl (wp_exit (k31 _ _ ?_));refine wp_region_lit (aA (bD (m:=1) (n:=1) (r:=2) rfl rfl (by decide)) ?_);simp only[zz];refine aA (aB) (aC (bF (aF fun K54 k54=>wp_region_lit (aA (cK (m:=2) (n:=4) rfl rfl (by decide)) (aC (k54 _ _ ?_))))));refine aF fun K55 k55=>bX rfl (wp_skip (k55 _ _ ?_));refine aF fun K56 k56=>wp_block (aF fun K57 k57=>wp_region_lit (aA (aU sR aO rfl rfl (by decide) (by decide) rfl) ?_));simp only[zz];refine aI rfl ((hB0.ext m.ext).lies bK aO rfl rfl) ?_;simp only[zz,zy,Nat.zero_add,Nat.reduceAdd,Nat.reduceMul,Int.reduceToNat];refine bC m eH rfl ?_;clear m; intro g3 u m;simp only[zz];refine aL m 0 rfl rfl rfl aO (cA rfl) rfl ?_;clear m; intro u m; simp only[zy,zx,aX,zF,zG,Nat.reduceAdd] at m;refine aC (k57 _ _ ?_);refine aF fun K58 k58=>wp_region_lit (aA (aH (c:=0) bZ rfl aM rfl rfl) ?_);simp only[zz];refine aI rfl ((m.b 0 rfl).lies1 aZ rfl) ?_;simp only[zz];refine aA (aH (c:=0) bZ rfl aM rfl rfl) ?_;simp only[zz];refine aI rfl ((m.b 0 rfl).lies1 aZ rfl) ?_;simp only[zz];refine aA (aH (c:=0) bZ rfl aM rfl rfl) ?_;simp only[zz];refine aI rfl ((m.b 0 rfl).lies1 aZ rfl) ?_;simp only[zz];refine aA (dY rfl rfl rfl) (aA (aB) (aC (k58 _ _ ?_)));refine wp_block (wp_loop_rounds 4 (dQ (aF fun K59 k59=>wp_region_lit (aA (cK (m:=0) (n:=3) rfl rfl (by decide)) (aC (k59 _ _ ?_))))));refine aF fun K60 k60=>bX rfl (wp_skip (k60 _ _ ?_));refine aF fun K61 k61=>wp_block (aF fun K62 k62=>wp_region_lit (aA (oN rfl rfl) ?_));simp only[zz];refine aA (aD) (aC (k62 _ _ ?_));refine aF fun K63 k63=>wp_region_lit (aA (aB) (aA (aB) (aA (oW rfl rfl) ?_)));simp only[zz];refine aA (jR rfl rfl rfl) (aA (eL gM jB rfl (sS Iw.h)) ?_);simp only[zz];refine fU m rfl rfl (lR (X:=(c.x).natAbs) _ (by have:=(Iw.h : jG c.x).natAbs; omega)) ?_;clear m; rintro v u m ⟨n,rfl,hn0,hn1,hcx⟩;refine aA (gS rfl rfl) (aC (k63 _ _ ?_));simp only[zz];refine cQ rfl (fun hc3=>?_) (fun hc3=>?_)
       ·
        refine aF fun K64 k64=>wp_region_lit (aA (aD) (aC (k64 _ _ ?_)));refine wp_ret ?_;simp only[zz];try simp only[Exit.inBlock,Exit.then,if_true]
        refine bU rfl rfl ?_;try simp only[zD,zE]
        exact ⟨_,rfl,m.ext,false,rfl,fun h=>by cases h⟩
       ·
        replace hcx:=hcx (by omega);clear hc3 hn0 hn1;refine wp_skip (k61 _ _ ?_);refine wp_region_lit (aA (bD (m:=0) (n:=1) (r:=1) rfl rfl (by decide)) (aA (aB) (aC (bF (aF fun K65 k65=>wp_region_lit (aA (cK (m:=1) (n:=3) rfl rfl (by decide)) (aC (k65 _ _ ?_))))))));refine aF fun K66 k66=>bX rfl (wp_skip (k66 _ _ ?_));refine aF fun K67 k67=>wp_block (aF fun K68 k68=>wp_region_lit (aA (oO rfl rfl) ?_));simp only[zz];refine aA (aD) (aC (k68 _ _ ?_));refine aF fun K69 k69=>wp_region_lit (aA (aB) (aA (aB) (aA (oW rfl rfl) ?_)));simp only[zz];refine aA (jR rfl rfl rfl) (aA (eL gM jB rfl (sS Iw.h)) ?_);simp only[zz];refine fU m rfl rfl (lR (X:=(c.y).natAbs) _ (by have:=(Iw.h : jG c.y).natAbs; omega)) ?_;clear m; rintro v u m ⟨n,rfl,hn0,hn1,hcy⟩;refine aA (gS rfl rfl) (aC (k69 _ _ ?_));simp only[zz];refine cQ rfl (fun hc3=>?_) (fun hc3=>?_)
        ·
         refine aF fun K70 k70=>wp_region_lit (aA (aD) (aC (k70 _ _ ?_)));refine wp_ret ?_;simp only[zz];try simp only[Exit.inBlock,Exit.then,if_true]
         refine bU rfl rfl ?_;try simp only[zD,zE]
         exact ⟨_,rfl,m.ext,false,rfl,fun h=>by cases h⟩
        ·
         replace hcy:=hcy (by omega);clear hc3 hn0 hn1;refine wp_skip (k67 _ _ ?_);refine wp_region_lit (aA (bD (m:=1) (n:=1) (r:=2) rfl rfl (by decide)) (aA (aB) (aC (bF (aF fun K71 k71=>wp_region_lit (aA (cK (m:=2) (n:=3) rfl rfl (by decide)) (aC (k71 _ _ ?_))))))));refine aF fun K72 k72=>bX rfl (wp_skip (k72 _ _ ?_));refine aF fun K73 k73=>wp_block (aF fun K74 k74=>wp_region_lit (aA (oP rfl rfl) ?_));simp only[zz];refine aA (aD) (aC (k74 _ _ ?_));refine aF fun K75 k75=>wp_region_lit (aA (aB) (aA (aB) (aA (oW rfl rfl) ?_)));simp only[zz];refine aA (jR rfl rfl rfl) (aA (eL gM jB rfl (sS Iw.h)) ?_);simp only[zz];refine fU m rfl rfl (lR (X:=(c.z).natAbs) _ (by have:=(Iw.h : jG c.z).natAbs; omega)) ?_;clear m; rintro v u m ⟨n,rfl,hn0,hn1,hcz⟩;refine aA (gS rfl rfl) (aC (k75 _ _ ?_));simp only[zz];refine cQ rfl (fun hc3=>?_) (fun hc3=>?_)
         ·
          refine aF fun K76 k76=>wp_region_lit (aA (aD) (aC (k76 _ _ ?_)));refine wp_ret ?_;simp only[zz];try simp only[Exit.inBlock,Exit.then,if_true]
          refine bU rfl rfl ?_;try simp only[zD,zE]
          exact ⟨_,rfl,m.ext,false,rfl,fun h=>by cases h⟩
         ·
          replace hcz:=hcz (by omega);clear hc3 hn0 hn1;refine wp_skip (k73 _ _ ?_);refine wp_region_lit (aA (bD (m:=2) (n:=1) (r:=3) rfl rfl (by decide)) (aA (aB) (aC (bF (aF fun K77 k77=>wp_region_lit (aA (fA (m:=3) (n:=3) rfl rfl (by decide)) (aC (k77 _ _ ?_))))))));refine aF fun K78 k78=>eQ rfl (wp_exit (k56 _ _ ?_));refine wp_region_lit (aA (bD (m:=2) (n:=1) (r:=3) rfl rfl (by decide)) ?_);simp only[zz];refine aA (aB) (aC (bF (aF fun K79 k79=>wp_region_lit (aA (cK (m:=3) (n:=4) rfl rfl (by decide)) (aC (k79 _ _ ?_))))));refine aF fun K80 k80=>bX rfl (wp_skip (k80 _ _ ?_));refine aF fun K81 k81=>wp_block (aF fun K82 k82=>wp_region_lit (aA (aU sR aO rfl rfl (by decide) (by decide) rfl) ?_));simp only[zz];refine aI rfl ((hB0.ext m.ext).lies bK aO rfl rfl) ?_;simp only[zz,zy,Nat.zero_add,Nat.reduceAdd,Nat.reduceMul,Int.reduceToNat];refine bC m eH rfl ?_;clear m; intro g4 u m;simp only[zz];refine aL m 0 rfl rfl rfl aO (cA rfl) rfl ?_;clear m; intro u m; simp only[zy,zx,aX,zF,zG,Nat.reduceAdd] at m;refine aC (k82 _ _ ?_);refine aF fun K83 k83=>wp_region_lit (aA (aH (c:=0) bZ rfl aM rfl rfl) ?_);simp only[zz];refine aI rfl ((m.b 0 rfl).lies1 aZ rfl) ?_;simp only[zz];refine aA (aH (c:=0) bZ rfl aM rfl rfl) ?_;simp only[zz];refine aI rfl ((m.b 0 rfl).lies1 aZ rfl) ?_;simp only[zz];refine aA (aH (c:=0) bZ rfl aM rfl rfl) ?_;simp only[zz];refine aI rfl ((m.b 0 rfl).lies1 aZ rfl) ?_;simp only[zz];refine aA (dY rfl rfl rfl) (aA (aB) (aC (k83 _ _ ?_)));refine wp_block (wp_loop_rounds 4 (dQ (aF fun K84 k84=>wp_region_lit (aA (cK (m:=0) (n:=3) rfl rfl (by decide)) (aC (k84 _ _ ?_))))));refine aF fun K85 k85=>bX rfl (wp_skip (k85 _ _ ?_));refine aF fun K86 k86=>wp_block (aF fun K87 k87=>wp_region_lit (aA (oN rfl rfl) ?_));simp only[zz];refine aA (aD) (aC (k87 _ _ ?_));refine aF fun K88 k88=>wp_region_lit (aA (aB) (aA (aB) (aA (oW rfl rfl) ?_)));simp only[zz];refine aA (jR rfl rfl rfl) (aA (eL gM jB rfl (sS Iw.h)) ?_);simp only[zz];refine fU m rfl rfl (lR (X:=(d.x).natAbs) _ (by have:=(Iw.h : jG d.x).natAbs; omega)) ?_;clear m; rintro v u m ⟨n,rfl,hn0,hn1,hdx⟩;refine aA (gS rfl rfl) (aC (k88 _ _ ?_));simp only[zz];refine cQ rfl (fun hc3=>?_) (fun hc3=>?_)
          ·
           refine aF fun K89 k89=>wp_region_lit (aA (aD) (aC (k89 _ _ ?_)));refine wp_ret ?_;simp only[zz];try simp only[Exit.inBlock,Exit.then,if_true]
           refine bU rfl rfl ?_;try simp only[zD,zE]
           exact ⟨_,rfl,m.ext,false,rfl,fun h=>by cases h⟩
          ·
           replace hdx:=hdx (by omega);clear hc3 hn0 hn1;refine wp_skip (k86 _ _ ?_);refine wp_region_lit (aA (bD (m:=0) (n:=1) (r:=1) rfl rfl (by decide)) (aA (aB) (aC (bF (aF fun K90 k90=>wp_region_lit (aA (cK (m:=1) (n:=3) rfl rfl (by decide)) (aC (k90 _ _ ?_))))))));refine aF fun K91 k91=>bX rfl (wp_skip (k91 _ _ ?_));refine aF fun K92 k92=>wp_block (aF fun K93 k93=>wp_region_lit (aA (oO rfl rfl) ?_));simp only[zz];refine aA (aD) (aC (k93 _ _ ?_));refine aF fun K94 k94=>wp_region_lit (aA (aB) (aA (aB) (aA (oW rfl rfl) ?_)));simp only[zz];refine aA (jR rfl rfl rfl) (aA (eL gM jB rfl (sS Iw.h)) ?_);simp only[zz];refine fU m rfl rfl (lR (X:=(d.y).natAbs) _ (by have:=(Iw.h : jG d.y).natAbs; omega)) ?_;clear m; rintro v u m ⟨n,rfl,hn0,hn1,hdy⟩;refine aA (gS rfl rfl) (aC (k94 _ _ ?_));simp only[zz];refine cQ rfl (fun hc3=>?_) (fun hc3=>?_)
           ·
            refine aF fun K95 k95=>wp_region_lit (aA (aD) (aC (k95 _ _ ?_)));refine wp_ret ?_;simp only[zz];try simp only[Exit.inBlock,Exit.then,if_true]
            refine bU rfl rfl ?_;try simp only[zD,zE]
            exact ⟨_,rfl,m.ext,false,rfl,fun h=>by cases h⟩
           ·
            replace hdy:=hdy (by omega);clear hc3 hn0 hn1;refine wp_skip (k92 _ _ ?_);refine wp_region_lit (aA (bD (m:=1) (n:=1) (r:=2) rfl rfl (by decide)) (aA (aB) (aC (bF (aF fun K96 k96=>wp_region_lit (aA (cK (m:=2) (n:=3) rfl rfl (by decide)) (aC (k96 _ _ ?_))))))));refine aF fun K97 k97=>bX rfl (wp_skip (k97 _ _ ?_));refine aF fun K98 k98=>wp_block (aF fun K99 k99=>wp_region_lit (aA (oP rfl rfl) ?_));simp only[zz];refine aA (aD) (aC (k99 _ _ ?_));refine aF fun K100 k100=>wp_region_lit (aA (aB) (aA (aB) (aA (oW rfl rfl) ?_)));simp only[zz];refine aA (jR rfl rfl rfl) (aA (eL gM jB rfl (sS Iw.h)) ?_);simp only[zz];refine fU m rfl rfl (lR (X:=(d.z).natAbs) _ (by have:=(Iw.h : jG d.z).natAbs; omega)) ?_;clear m; rintro v u m ⟨n,rfl,hn0,hn1,hdz⟩;refine aA (gS rfl rfl) (aC (k100 _ _ ?_));simp only[zz];refine cQ rfl (fun hc3=>?_) (fun hc3=>?_)
            ·
             refine aF fun K101 k101=>wp_region_lit (aA (aD) (aC (k101 _ _ ?_)));refine wp_ret ?_;simp only[zz];try simp only[Exit.inBlock,Exit.then,if_true]
             refine bU rfl rfl ?_;try simp only[zD,zE]
             exact ⟨_,rfl,m.ext,false,rfl,fun h=>by cases h⟩
            ·
             replace hdz:=hdz (by omega);clear hc3 hn0 hn1;refine wp_skip (k98 _ _ ?_);refine wp_region_lit (aA (bD (m:=2) (n:=1) (r:=3) rfl rfl (by decide)) (aA (aB) (aC (bF (aF fun K102 k102=>wp_region_lit (aA (fA (m:=3) (n:=3) rfl rfl (by decide)) (aC (k102 _ _ ?_))))))));refine aF fun K103 k103=>eQ rfl (wp_exit (k81 _ _ ?_));refine wp_region_lit (aA (bD (m:=3) (n:=1) (r:=4) rfl rfl (by decide)) ?_);simp only[zz];refine aA (aB) (aC (bF (aF fun K104 k104=>wp_region_lit (aA (fA (m:=4) (n:=4) rfl rfl (by decide)) (aC (k104 _ _ ?_))))));refine aF fun K105 k105=>eQ rfl (wp_exit (k2 _ _ ?_));refine aF fun K106 k106=>wp_region_lit (aA (aD) (aC (k106 _ _ ?_)));refine wp_ret ?_;simp only[zz];try simp only[Exit.inBlock,Exit.then,if_true]
             refine bU rfl rfl ?_;try simp only[zD,zE]
             exact ⟨_,rfl,m.ext,true,rfl,fun _=>⟨⟨hax,hay,haz⟩,⟨hbx,hby,hbz⟩,⟨hcx,hcy,hcz⟩,⟨hdx,hdy,hdz⟩⟩⟩
theorem Vy {a b c d : P3} [I3 a] [I3 b] [I3 c] [I3 d] : dP prog 104 [pt a,pt b,pt c,pt d] (sg ((b.sub a).cross (d.sub c))):=by
 intro w;refine ⟨Zd,?_⟩;have m:=cR.refl w
 go_enter func104,ntmps104
 refine aF fun K1 k1=>wp_region_lit (cM m rfl ?_);clear m; intro g1 u m;simp only[zz];refine cM m rfl ?_;clear m; intro g2 u m;simp only[zz];refine cM m rfl ?_;clear m; intro g3 u m;simp only[zz];refine cM m rfl ?_;clear m; intro g4 u m;simp only[zz];refine bC m kP rfl ?_;clear m; intro g5 u m;refine aC (k1 _ _ ?_);refine aF fun K2 k2=>wp_region_lit ?_;simp only[zz];refine bC m kP rfl ?_;clear m; intro g6 u m;refine aC (k2 _ _ ?_);refine aF fun K3 k3=>aF fun K4 k4=>wp_region_lit ?_;simp only[zz];refine aI rfl ((m.b 5 rfl).full bK aO) ?_;simp only[zz];refine aI rfl ((m.b 4 rfl).full bK aO) ?_;simp only[zz];refine aI rfl ((m.b 3 rfl).full bK aO) ?_;simp only[zz];refine aI rfl ((m.b 2 rfl).full bK aO) ?_;simp only[zz];refine En rfl rfl rfl rfl ?_;intro u g7 e hg hB; replace m:=m.newB e hg hB; clear e hg hB;simp only[zz];refine fU m rfl rfl (Ph _ (m.b 0 rfl)) ?_;clear m; rintro v u m ⟨bo,rfl,hsm⟩;refine aC (k4 _ _ ?_);simp only[zz];refine oZ rfl (fun hc1=>?_) (fun hc1=>?_)
 ·
  obtain ⟨_,_,_,_⟩:=hsm hc1;refine aF fun K5 k5=>aF fun K6 k6=>mq m aN (by kernel_rfl) (ql rfl (fun u m=>((m.b 6 rfl).full bK aO)) ?_);simp only[zz];refine ql rfl (fun u m=>((m.b 5 rfl).full bK aO)) ?_;simp only[zz];refine gJ rfl rfl (wM) ?_;simp only[zz];refine ql rfl (fun u m=>((m.b 4 rfl).full bK aO)) ?_;simp only[zz];refine ql rfl (fun u m=>((m.b 3 rfl).full bK aO)) ?_;simp only[zz];refine gJ rfl rfl (wM) ?_;simp only[zz];refine gJ rfl rfl (Ds inferInstance inferInstance) (aS (aB) (dW ?_));clear m; intro u m;refine k6 _ _ (wp_block (wp_loop_rounds 4 (dQ (aF fun K7 k7=>wp_region_lit (aA (cK (m:=0) (n:=3) rfl rfl (by decide)) (aC (k7 _ _ ?_)))))));refine aF fun K8 k8=>bX rfl (wp_skip (k8 _ _ ?_));refine aF fun K9 k9=>wp_block (aF fun K10 k10=>wp_region_lit (aA (aB) ?_));simp only[zz];refine aA (Do rfl rfl) (aA (aD) (aA (aD) (aC (k10 _ _ ?_))));refine wp_region_lit (aA (aB) ?_);simp only[zz];refine aA (aB) ?_;simp only[zz];refine aW m rfl rfl (Lm) ?_;clear m; intro u m;refine aA (aJ eU aM rfl rfl (by decide) (by decide) rfl) ?_;simp only[zz];refine dA m 1 rfl rfl rfl aM (cA rfl) ⟨rfl,rfl⟩ ?_;clear m; intro u m; simp only[zy,zx,aX,zF,zG,Nat.reduceAdd] at m;refine aC (k9 _ _ ?_);refine wp_region_lit (aA (bD (m:=0) (n:=1) (r:=1) rfl rfl (by decide)) (aA (aB) (aC (bF (aF fun K11 k11=>wp_region_lit (aA (cK (m:=1) (n:=3) rfl rfl (by decide)) (aC (k11 _ _ ?_))))))));refine aF fun K12 k12=>bX rfl (wp_skip (k12 _ _ ?_));refine aF fun K13 k13=>wp_block (aF fun K14 k14=>wp_region_lit (aA (aB) ?_));simp only[zz];refine aA (Dp rfl rfl) (aA (aD) (aA (aD) (aC (k14 _ _ ?_))));refine wp_region_lit (aA (aB) ?_);simp only[zz];refine aA (aB) ?_;simp only[zz];refine aW m rfl rfl (Lm) ?_;clear m; intro u m;refine aA (aJ eU aM rfl rfl (by decide) (by decide) rfl) ?_;simp only[zz];refine dA m 1 rfl rfl rfl aM (cA rfl) ⟨rfl,rfl⟩ ?_;clear m; intro u m; simp only[zy,zx,aX,zF,zG,Nat.reduceAdd] at m;refine aC (k13 _ _ ?_);refine wp_region_lit (aA (bD (m:=1) (n:=1) (r:=2) rfl rfl (by decide)) (aA (aB) (aC (bF (aF fun K15 k15=>wp_region_lit (aA (cK (m:=2) (n:=3) rfl rfl (by decide)) (aC (k15 _ _ ?_))))))));refine aF fun K16 k16=>bX rfl (wp_skip (k16 _ _ ?_));refine aF fun K17 k17=>wp_block (aF fun K18 k18=>wp_region_lit (aA (aB) ?_));simp only[zz];refine aA (Dq rfl rfl) (aA (aD) (aA (aD) (aC (k18 _ _ ?_))));refine wp_region_lit (aA (aB) ?_);simp only[zz];refine aA (aB) ?_;simp only[zz];refine aW m rfl rfl (Lm) ?_;clear m; intro u m;refine aA (aJ eU aM rfl rfl (by decide) (by decide) rfl) ?_;simp only[zz];refine dA m 1 rfl rfl rfl aM (cA rfl) ⟨rfl,rfl⟩ ?_;clear m; intro u m; simp only[zy,zx,aX,zF,zG,Nat.reduceAdd] at m;refine aC (k17 _ _ ?_);refine wp_region_lit (aA (bD (m:=2) (n:=1) (r:=3) rfl rfl (by decide)) (aA (aB) (aC (bF (aF fun K19 k19=>wp_region_lit (aA (fA (m:=3) (n:=3) rfl rfl (by decide)) (aC (k19 _ _ ?_))))))));refine aF fun K20 k20=>eQ rfl (wp_exit (k5 _ _ ?_));refine aF fun K21 k21=>wp_region_lit ?_;simp only[zz];refine aI rfl ((m.b 1 rfl).full lW cS) ?_;simp only[zz];refine aL m 2 rfl rfl rfl cS (cA rfl) rfl ?_;clear m; intro u m; simp only[zy,zx,aX,zF,zG,Nat.reduceAdd] at m;refine aC (k21 _ _ ?_);refine wp_ret ?_;try simp only[Exit.inBlock,Exit.then,if_true]
  refine bU rfl ⟨_,rfl,((m.b 2 rfl).full lW cS)⟩ ?_;try simp only[zD,zE]
  exact ⟨_,rfl,m.ext,rfl⟩
 ·
  refine wp_skip (k3 _ _ ?_);refine aF fun K22 k22=>aF fun K23 k23=>mq m aN (by kernel_rfl) (ql rfl (fun u m=>((m.b 6 rfl).full bK aO)) ?_);simp only[zz];refine ql rfl (fun u m=>((m.b 5 rfl).full bK aO)) ?_;simp only[zz];refine gJ rfl rfl (qB) ?_;simp only[zz];refine ql rfl (fun u m=>((m.b 4 rfl).full bK aO)) ?_;simp only[zz];refine ql rfl (fun u m=>((m.b 3 rfl).full bK aO)) ?_;simp only[zz];refine gJ rfl rfl (qB) ?_;simp only[zz];refine gJ rfl rfl (wL Bv.of Bv.of) (aS (aB) (dW ?_));clear m; intro u m;refine k23 _ _ (wp_block (wp_loop_rounds 4 (dQ (aF fun K24 k24=>wp_region_lit (aA (cK (m:=0) (n:=3) rfl rfl (by decide)) (aC (k24 _ _ ?_)))))));refine aF fun K25 k25=>bX rfl (wp_skip (k25 _ _ ?_));refine aF fun K26 k26=>wp_block (aF fun K27 k27=>wp_region_lit (aA (aB) ?_));simp only[zz];refine aA (Dl rfl rfl) ?_;simp only[zz];refine bC m cI rfl ?_;clear m; intro g8 u m;refine aA (aD) ?_;simp only[zz];refine aL m 0 rfl rfl rfl aG (cA rfl) rfl ?_;clear m; intro u m; simp only[zy,zx,aX,zF,zG,Nat.reduceAdd] at m;refine aC (k27 _ _ ?_);refine wp_region_lit (aA (aB) ?_);simp only[zz];refine aI rfl ((m.b 0 rfl).full aR aG) ?_;simp only[zz];refine aW m rfl rfl (lF Bw.up) ?_;clear m; intro u m;refine aA (aJ eU aM rfl rfl (by decide) (by decide) rfl) ?_;simp only[zz];refine dA m 2 rfl rfl rfl aM (cA rfl) ⟨rfl,rfl⟩ ?_;clear m; intro u m; simp only[zy,zx,aX,zF,zG,Nat.reduceAdd] at m;refine aC (k26 _ _ ?_);refine wp_region_lit (aA (bD (m:=0) (n:=1) (r:=1) rfl rfl (by decide)) (aA (aB) (aC (bF (aF fun K28 k28=>wp_region_lit (aA (cK (m:=1) (n:=3) rfl rfl (by decide)) (aC (k28 _ _ ?_))))))));refine aF fun K29 k29=>bX rfl (wp_skip (k29 _ _ ?_));refine aF fun K30 k30=>wp_block (aF fun K31 k31=>wp_region_lit (aA (aB) ?_));simp only[zz];refine aA (Dm rfl rfl) ?_;simp only[zz];refine bC m cI rfl ?_;clear m; intro g9 u m;refine aA (aD) ?_;simp only[zz];refine aL m 0 rfl rfl rfl aG (cA rfl) rfl ?_;clear m; intro u m; simp only[zy,zx,aX,zF,zG,Nat.reduceAdd] at m;refine aC (k31 _ _ ?_);refine wp_region_lit (aA (aB) ?_);simp only[zz];refine aI rfl ((m.b 0 rfl).full aR aG) ?_;simp only[zz];refine aW m rfl rfl (lF Bw.up) ?_;clear m; intro u m;refine aA (aJ eU aM rfl rfl (by decide) (by decide) rfl) ?_;simp only[zz];refine dA m 3 rfl rfl rfl aM (cA rfl) ⟨rfl,rfl⟩ ?_;clear m; intro u m; simp only[zy,zx,aX,zF,zG,Nat.reduceAdd] at m;refine aC (k30 _ _ ?_);refine wp_region_lit (aA (bD (m:=1) (n:=1) (r:=2) rfl rfl (by decide)) (aA (aB) (aC (bF (aF fun K32 k32=>wp_region_lit (aA (cK (m:=2) (n:=3) rfl rfl (by decide)) (aC (k32 _ _ ?_))))))));refine aF fun K33 k33=>bX rfl (wp_skip (k33 _ _ ?_));refine aF fun K34 k34=>wp_block (aF fun K35 k35=>wp_region_lit (aA (aB) ?_));simp only[zz];refine aA (Dn rfl rfl) ?_;simp only[zz];refine bC m cI rfl ?_;clear m; intro g10 u m;refine aA (aD) ?_;simp only[zz];refine aL m 0 rfl rfl rfl aG (cA rfl) rfl ?_;clear m; intro u m; simp only[zy,zx,aX,zF,zG,Nat.reduceAdd] at m;refine aC (k35 _ _ ?_);refine wp_region_lit (aA (aB) ?_);simp only[zz];refine aI rfl ((m.b 0 rfl).full aR aG) ?_;simp only[zz];refine aW m rfl rfl (lF Bw.up) ?_;clear m; intro u m;refine aA (aJ eU aM rfl rfl (by decide) (by decide) rfl) ?_;simp only[zz];refine dA m 4 rfl rfl rfl aM (cA rfl) ⟨rfl,rfl⟩ ?_;clear m; intro u m; simp only[zy,zx,aX,zF,zG,Nat.reduceAdd] at m;refine aC (k34 _ _ ?_);refine wp_region_lit (aA (bD (m:=2) (n:=1) (r:=3) rfl rfl (by decide)) (aA (aB) (aC (bF (aF fun K36 k36=>wp_region_lit (aA (fA (m:=3) (n:=3) rfl rfl (by decide)) (aC (k36 _ _ ?_))))))));refine aF fun K37 k37=>eQ rfl (wp_exit (k22 _ _ ?_));refine aF fun K38 k38=>wp_region_lit ?_;simp only[zz];refine aI rfl ((m.b 4 rfl).full lW cS) ?_;simp only[zz];refine aL m 5 rfl rfl rfl cS (cA rfl) rfl ?_;clear m; intro u m; simp only[zy,zx,aX,zF,zG,Nat.reduceAdd] at m;refine aC (k38 _ _ ?_);refine wp_ret ?_;try simp only[Exit.inBlock,Exit.then,if_true]
  refine bU rfl ⟨_,rfl,((m.b 5 rfl).full lW cS)⟩ ?_;try simp only[zD,zE]
  exact ⟨_,rfl,m.ext,rfl⟩
theorem aa2 {t : T3} [IT t] : dP prog 64 [tr t] (.bool (decide (dG t.normal.x = 0 ∧ dG t.normal.y = 0 ∧ dG t.normal.z = 0))):=by
 intro w;refine ⟨aci,?_⟩;have m:=cR.refl w
 go_enter func64,ntmps64
 refine aF fun K1 k1=>wp_region_lit (cM m rfl ?_);clear m; intro g1 u m;refine aA (aD) (aC (k1 _ _ ?_));refine aF fun K2 k2=>wp_region_lit (aA (aJ jS aO rfl rfl (by decide) (by decide) rfl) ?_);simp only[zz];refine aI rfl ((m.b 0 rfl).lies bK aO rfl rfl) ?_;simp only[zz,zy,Nat.zero_add,Nat.reduceAdd,Nat.reduceMul,Int.reduceToNat];refine aA (aJ jS aO rfl rfl (by decide) (by decide) rfl) ?_;simp only[zz];refine aI rfl ((m.b 0 rfl).lies bK aO rfl rfl) ?_;simp only[zz,zy,Nat.zero_add,Nat.reduceAdd,Nat.reduceMul,Int.reduceToNat];refine aA (aJ jS aO rfl rfl (by decide) (by decide) rfl) ?_;simp only[zz];refine aI rfl ((m.b 0 rfl).lies bK aO rfl rfl) ?_;simp only[zz,zy,Nat.zero_add,Nat.reduceAdd,Nat.reduceMul,Int.reduceToNat];refine aA (aJ jS aO rfl rfl (by decide) (by decide) rfl) ?_;simp only[zz];refine aI rfl ((m.b 0 rfl).lies bK aO rfl rfl) ?_;simp only[zz,zy,Nat.zero_add,Nat.reduceAdd,Nat.reduceMul,Int.reduceToNat];refine aW m rfl rfl (Vy (a:=t.a) (b:=t.b) (c:=t.a) (d:=t.c)) ?_;clear m; intro u m;refine aA (kV) (aA (tW rfl rfl) (aA (aD) ?_));simp only[zz];refine aC (k2 _ _ ?_);refine wp_ret ?_;try simp only[Exit.inBlock,Exit.then,if_true]
 refine bU rfl rfl ?_;try simp only[zD,zE]
 exact ⟨_,rfl,m.ext,rfl⟩
end Go.Proofs.YtimjandkmfcmiaaGreatDoor
namespace Go.Lith
open Go.RowKit
end Go.Lith
namespace Go.Lith
open Go.RowKit
structure fY where
 s : P3
 w : Int
 d : P3
def lH (r : fY) : Go.Value:=.agg #[.int .i64 r.s.x,.int .i64 r.s.y,.int .i64 r.s.z,.int .i64 r.w,.int .i64 r.d.x,.int .i64 r.d.y,.int .i64 r.d.z]
class IR (r : fY) : Prop where
 s : I3 r.s
 w : jG r.w
 d : I3 r.d
instance {r : fY} [h : IR r] : I3 r.s:=h.s
instance {r : fY} [h : IR r] : I3 r.d:=h.d
instance {r : fY} [h : IR r] : Iw r.w:=⟨h.w⟩
def fY.ok (r : fY) : Prop:=0 < r.w ∧ ¬ (r.d.x = 0 ∧ r.d.y = 0 ∧ r.d.z = 0)
instance (r : fY) : Decidable r.ok:=inferInstanceAs (Decidable (_ ∧ _))
def P3.scl (v : P3) (n : Int) : P3:=⟨v.x * n,v.y * n,v.z * n⟩
def fY.to (r : fY) (p : P3) : P3:=(p.scl r.w).sub r.s
def tH (n : Int) (v : P3) : Int:=if dG n ≠ 0 then dG n else if dG v.x ≠ 0 then dG v.x else if dG v.y ≠ 0 then dG v.y else if dG v.z ≠ 0 then dG v.z else 0
def tI (d a b : P3) : Int:=tH (d.dot (a.cross b)) (d.cross (b.sub a))
def wN (d a b c : P3) : Prop:=tI d a b ≠ 0 ∧ tI d b c = tI d a b ∧ tI d c a = tI d a b
instance (d a b c : P3) : Decidable (wN d a b c):=inferInstanceAs (Decidable (_ ∧ _ ∧ _))
def xR (r : fY) (t : T3) : Int:=t.normal.dot (r.to t.a)
def rL (r : fY) (t : T3) : Int:=t.normal.dot r.d
def iR (r : fY) (t : T3) : Prop:=r.ok ∧ ¬ t.flat ∧ wN r.d (r.to t.a) (r.to t.b) (r.to t.c) ∧ tH (xR r t) (P3.sub ⟨0,0,0⟩ t.normal) = dG (rL r t)
instance (r : fY) (t : T3) : Decidable (iR r t):=inferInstanceAs (Decidable (_ ∧ _ ∧ _ ∧ _))
def fR (r : fY) (t : T3) : Rat:=if iR r t then Rat.divInt (xR r t) (r.w * rL r t) else 0
theorem aa3 {n : Int} {v : P3} (h : tH n v = 0) : v.x = 0 ∧ v.y = 0 ∧ v.z = 0:=by
 unfold tH at h
 repeat' split at h
 all_goals first
  | (exact absurd h (by assumption))
  | (rename_i a b c d; exact ⟨gY.1 (Decidable.not_not.1 b),gY.1 (Decidable.not_not.1 c),gY.1 (Decidable.not_not.1 d)⟩)
theorem Cc {r : fY} {t : T3} (hf : ¬ t.flat) (h : tH (xR r t) (P3.sub ⟨0,0,0⟩ t.normal) = dG (rL r t)) : rL r t ≠ 0:=fun e=>by
 rw [e] at h;have:=aa3 (h.trans rfl);simp only[P3.sub] at this;exact hf ⟨by omega,by omega,by omega⟩
def Cd (r : fY) (b : Option (Rat × Nat)) (k : Nat) (t : T3) : Option (Rat × Nat) :=
 if iR r t then match b with
  | none=>some (fR r t,k)
  | some (q,j)=>if fR r t < q then some (fR r t,k) else some (q,j)
 else b
def bE (r : fY) (ts : List T3) : Option (Rat × Nat):=ts.zipIdx.foldl (fun b x=>Cd r b x.2 x.1) none
def lZ (b : Option (Rat × Nat)) : Rat:=match b with | none=>0 | some (q,_)=>q
def aa4 (b : Option (Rat × Nat)) : Nat:=match b with | none=>0 | some (_,k)=>k
theorem pK {r : fY} {ts : List T3} {t : T3} {k : Nat} (h : ts[k]? = some t) : bE r (ts.take (k + 1)) = Cd r (bE r (ts.take k)) k t:=by
 have hk : k < ts.length:=(List.getElem?_eq_some_iff.1 h).1;unfold bE;rw [List.take_add_one,h,List.zipIdx_append,List.foldl_append,List.length_take,Nat.min_eq_left (Nat.le_of_lt hk)];simp
instance adD {r : fY} {p : P3} [a : IR r] [b : I3 p] : Bv 129 (r.to p):=by
 have k : ∀ {x s : Int},jG x → jG s → Bd 129 (x * r.w - s):=fun hx hs=>((hx.bd.mul a.w.bd).sub hs.bd).mono (by decide);exact ⟨k b.x a.s.x,k b.y a.s.y,k b.z a.s.z⟩
theorem tJ {r : fY} {t : T3} (h : ¬ r.ok) : ¬ iR r t:=fun k=>h k.1
end Go.Lith
namespace Go.Lith
open Go.RowKit
structure GX (w w' : World) : Prop where
 ext : dL w w'
 dr : w.drawn ≤ w'.drawn
theorem GX.grow {w w' : World} (h : GX w w') : ∃ q os,w' = Sort.grow (w.drewN q) os:=by
 refine ⟨w'.drawn - w.drawn,w'.heap.extract w.heap.size w'.heap.size,?_⟩;have e1 : w.heap ++ w'.heap.extract w.heap.size w'.heap.size = w'.heap:=by
  apply Array.ext_getElem?;intro i;rw [Array.getElem?_append];split
  · rename_i hi
    exact (Below.block h.ext i hi).symm
  · rename_i hi
    rw [Array.getElem?_extract];have:=h.ext.size;split
    · congr 1; omega
    · rw [Array.getElem?_eq_none (by omega)]
 have e2 : w.drawn + (w'.drawn - w.drawn) = w'.drawn:=by have:=h.dr; omega
 have h1:=h.ext.os;have h2:=h.ext.tape;have h3:=h.ext.output;cases w;cases w';simp only[Sort.grow,World.drewN] at *
 subst h1 h2 h3;rw [e1,e2]
structure jX (w0 w : World) (is : List It) : Prop where
 ext : GX w0 w
 mem : cR w0 w is
def wO (P : Program) (f : FuncId) (args : List Value) (v : Value) : Prop:=∀ w,bH P f ∧ Calls P f args.toArray w fun e w'=>∃ u,e = .returned u ∧ GX w w' ∧ u = v
section
variable {w0 w w' : World} {is : List It}
theorem jX.refl (w : World) : jX w w []:=⟨⟨dL.refl w,Nat.le_refl _⟩,cR.refl w⟩
theorem jX.go (m : jX w0 w is) {js : List It} (h : cR w0 w' js) (d : w.drawn ≤ w'.drawn) : jX w0 w' js:=⟨⟨h.ext,Nat.le_trans m.ext.dr d⟩,h⟩
theorem jX.ext' (m : jX w0 w is) (e : GX w w') : jX w0 w' is:=m.go (m.mem.ext' e.ext) e.dr
theorem jX.b (m : jX w0 w is) (k : Nat) {g : Nat} {cs : List Value} {t : TypeId} (hk : is[k]? = some (bI g cs t)) : fW w g cs t:=m.mem.b k hk
end
section
variable {P : Program} {ds : List Deferred} {l : List Value} {x y : Operand} {T ty : TypeId}
variable {ops : Array Oper} {Q : Exit → Act → World → Prop} {rest : List Oper} {d : Nat} {pos : String} {after : Array Edge} {w w0 : World} {is : List It} {v : Value}
theorem ac0 {cs : List Value} (m : jX w0 w is) (hv : (ev l x).cells = cs.toArray) (h : ∀ g u,jX w0 u (bI g cs T :: is) → wpList P ops Q rest (Fr (l.set d (.pointer (some ⟨g,0,none⟩))) ds) u) :
 wpList P ops Q (Oper.mk (some d) (.box T x) ty pos after none :: rest) (Fr l ds) w :=
 lE (w':=w.alloc (.cells cs.toArray T)) (v:=.pointer (some ⟨w.heap.size,0,none⟩)) (fun o ho _=>by simp [execOp,ho,dH,Instr.box,newVar,newRow,hv,newObj,Sem.run]) (h _ _ (m.go (m.mem.newB ((dL.refl w).alloc _) (Nat.le_refl _) (jD w cs T)) (Nat.le_refl _)))
theorem vI {cs : List Value} (m : jX w0 w is) (hv : ev l x = .agg cs.toArray) (h : ∀ g u,jX w0 u (bI g cs T :: is) → wpList P ops Q rest (Fr (l.set d (.pointer (some ⟨g,0,none⟩))) ds) u) :
 wpList P ops Q (Oper.mk (some d) (.box T x) ty pos after none :: rest) (Fr l ds) w:=ac0 m (by rw [hv]; rfl) h
theorem Vz {cs : List Value} {z : Value} (m : jX w0 w is) (hZ : lT P T z) (hv : z.cells = cs.toArray) (h : ∀ g u,jX w0 u (bI g cs T :: is) → wpList P ops Q rest (Fr (l.set d (.pointer (some ⟨g,0,none⟩))) ds) u) :
 wpList P ops Q (Oper.mk (some d) (.alloc T) ty pos after none :: rest) (Fr l ds) w:=by
 obtain ⟨inf,hi,hz⟩:=hZ;exact lE (w':=w.alloc (.cells cs.toArray T)) (v:=.pointer (some ⟨w.heap.size,0,none⟩)) (fun o ho _=>by simp [execOp,ho,Instr.alloc,zeroValue,typeInfo,hi,hz,newVar,newRow,hv,newObj,Sem.run]) (h _ _ (m.go (m.mem.newB ((dL.refl w).alloc _) (Nat.le_refl _) (jD w cs T)) (Nat.le_refl _)))
theorem Wa {g off : Nat} {cs us : List Value} {t : TypeId} (m : jX w0 w is) (k : Nat) (hk : is[k]? = some (bI g cs t)) (hx : ev l x = .pointer (some ⟨g,off,none⟩)) (hv : (ev l y).cells = us.toArray) (hc : fG P T us.length) (hfit : off + us.length ≤ cs.length) (h1 : (us.all (·.oneCell')) = true)
 (h : ∀ u,jX w0 u (is.set k (bI g (aX cs off us) t)) → wpList P ops Q rest (Fr l ds) u) : wpList P ops Q (Oper.mk none (.store T x y) ty pos after none :: rest) (Fr l ds) w:=by
 have hB:=m.b k hk;have hC:=rT w g (aX cs off us).toArray;exact Fm (w':=w.setRow g (aX cs off us).toArray) (fun o ho=>by simp [execOp,ho,dH,hx,Instr.storeAt,Instr.sureAddr,vO hc hv hB hfit (mJ h1)])
  (h _ (m.go (m.mem.put k hk hC.os hC.tape hC.output (by rw [hC.size]; exact Nat.le_refl _) (fun b _ hne=>hC.block b fun e=>hne (by rw [e]; rfl)) (setRow_heap w g cs.toArray _ t _ hB) (.inl fun _ h=>h)) (Nat.le_refl _)))
theorem Sy {g off : Nat} {cs us : List Value} {t : TypeId} (m : jX w0 w is) (k : Nat) (hk : is[k]? = some (bI g cs t)) (hx : ev l x = .pointer (some ⟨g,off,none⟩)) (hv : ev l y = .agg us.toArray) (hc : fG P T us.length) (hfit : off + us.length ≤ cs.length) (h1 : (us.all (·.oneCell')) = true)
 (h : ∀ u,jX w0 u (is.set k (bI g (aX cs off us) t)) → wpList P ops Q rest (Fr l ds) u) : wpList P ops Q (Oper.mk none (.store T x y) ty pos after none :: rest) (Fr l ds) w:=Wa m k hk hx (by rw [hv]; rfl) hc hfit h1 h
theorem Gz {f : FuncId} {fo : Operand} {xs : Array Operand} {args : List Value} {first cap : Array Value} {a0 : Array TypeId} (m : jX w0 w is) (hf : ev l fo = .func (.func f) first cap) (hxs : first.toList ++ xs.toList.map (ev l) ++ cap.toList = args) (hc : wO P f args v)
 (h : ∀ u,jX w0 u is → wpList P ops Q rest (Fr (l.set d v) ds) u) : wpList P ops Q (Oper.mk (some d) (.call { callee:=.value fo,args:=xs,argTypes:=a0 }) ty pos after none :: rest) (Fr l ds) w:=by
 refine wpList_plain rfl fun K hK=>?_;unfold Oper.wp;rw [iX,nQ (hc w).1 hf hxs _ rfl];refine (hc w).2.mono ?_;rintro e w' ⟨u,rfl,hE,rfl⟩;show K ((Fr l ds).put (some d) u) w'
 rw [iP];exact hK _ _ (h w' (m.ext' hE))
theorem jX.drew (m : jX w0 w is) : jX w0 { w with drawn:=w.drawn + 1 } is:=m.ext' ⟨(dL.refl w).drawn,Nat.le_succ _⟩
theorem Gmq {id : Nat} {a : Act} {l : List Oper} (m : jX w0 w is) (hm : P.follows .mixedOrders = true) (hB : Region.lexB .any l.toArray = true)
 (h : wpQuiet P l.toArray (fun u=>jX w0 u is) (fun a'=>∀ u,jX w0 u is → Q .normal a' u) l a) : (Code.region id l.toArray true).wp P Q a w :=
 wp_region_quiet (C:=fun u=>jX w0 u is) hm hB m.drew (by simpa using h)
end
section
variable {P : Program} {w0 : World} {is : List It} {l : List Value} {x y : Operand} {T ty : TypeId}
variable {ops : Array Oper} {Q : Act → Prop} {rest : List Oper} {d : Nat} {pos : String} {after : Array Edge} {v : Value} {ds : List Deferred}
theorem Gql {a : Addr} (hx : ev l x = .pointer (some a)) (hv : ∀ u,jX w0 u is → qT P u T a v) (h : wpQuiet P ops (fun u=>jX w0 u is) Q rest (Fr (l.set d v) ds)) : wpQuiet P ops (fun u=>jX w0 u is) Q (Oper.mk (some d) (.load T x) ty pos after none :: rest) (Fr l ds) :=
 Fk (fun u m=>kS hx (hv u m)) h
theorem Pi {f : FuncId} {fo : Operand} {xs : Array Operand} {args : List Value} {first cap : Array Value} {a0 : Array TypeId} (hf : ev l fo = .func (.func f) first cap) (hxs : first.toList ++ xs.toList.map (ev l) ++ cap.toList = args) (hc : wO P f args v)
 (h : wpQuiet P ops (fun u=>jX w0 u is) Q rest (Fr (l.set d v) ds)) : wpQuiet P ops (fun u=>jX w0 u is) Q (Oper.mk (some d) (.call { callee:=.value fo,args:=xs,argTypes:=a0 }) ty pos after none :: rest) (Fr l ds):=by
 refine wpQuiet_step fun K hK=>?_;rw [if_pos (by simp [Region.wanted])];refine ⟨v,fun w' hw=>?_,?_⟩
 · unfold Oper.quietAt
   rw [iX,nQ (hc w').1 hf hxs _ rfl];refine ⟨rfl,(hc w').2.mono ?_⟩;rintro e w'' ⟨u,rfl,hE,rfl⟩;exact ⟨rfl,hw.ext' hE⟩
 · show K ((Fr l ds).put (some d) v)
   rw [iP];exact hK _ h
end
end Go.Lith
namespace Go.Lith
open Go.RowKit
def P3.Lt (p q : P3) : Prop:=p.x < q.x ∨ p.x = q.x ∧ (p.y < q.y ∨ p.y = q.y ∧ p.z < q.z)
instance (p q : P3) : Decidable (p.Lt q):=by unfold P3.Lt; infer_instance
def Ha (p q : P3) : Int:=if p.Lt q then -1 else if q.Lt p then 1 else 0
theorem P3.eq {p q : P3} (h1 : p.x = q.x) (h2 : p.y = q.y) (h3 : p.z = q.z) : p = q:=by
 cases p; cases q; simp_all
instance : DecidableEq P3:=fun p q=>if h : p.x = q.x ∧ p.y = q.y ∧ p.z = q.z then isTrue (P3.eq h.1 h.2.1 h.2.2) else isFalse fun e=>h (by subst e; exact ⟨rfl,rfl,rfl⟩)
theorem P3.lt_irrefl (p : P3) : ¬ p.Lt p:=by unfold P3.Lt; omega
theorem P3.lt_trans {p q r : P3} (h : p.Lt q) (k : q.Lt r) : p.Lt r:=by unfold P3.Lt at *; omega
theorem P3.lt_tri (p q : P3) : p.Lt q ∨ p = q ∨ q.Lt p:=by
 by_cases h1 : p.x = q.x
 · by_cases h2 : p.y = q.y
   · by_cases h3 : p.z = q.z
     · exact .inr (.inl (P3.eq h1 h2 h3))
     · unfold P3.Lt; omega
   · unfold P3.Lt; omega
 · unfold P3.Lt; omega
theorem P3.lt_x {p q : P3} (h : ¬ p.x = q.x) : p.Lt q ↔ p.x < q.x:=by unfold P3.Lt; omega
theorem P3.lt_y {p q : P3} (h : p.x = q.x) (h2 : ¬ p.y = q.y) : p.Lt q ↔ p.y < q.y:=by unfold P3.Lt; omega
theorem P3.lt_z {p q : P3} (h : p.x = q.x) (h2 : p.y = q.y) : p.Lt q ↔ p.z < q.z:=by unfold P3.Lt; omega
end Go.Lith
namespace Go.Lith
open Go.RowKit
def qO (w : World) (g : Nat) (es : Array MapEntry) (c : Nat) : Prop:=w.heap[g]? = some (.map es c)
def yL (w : World) (r g s : Nat) (seen : Array Nat) (c : Nat) : Prop:=w.heap[r]? = some (.mapIter (some g) s seen c)
theorem qO.ext {w w' : World} {g c : Nat} {es : Array MapEntry} (h : qO w g es c) (hE : dL w w') : qO w' g es c:=hE.block h
theorem qO.lt {w : World} {g c : Nat} {es : Array MapEntry} (h : qO w g es c) : g < w.heap.size:=(Array.getElem?_eq_some_iff.1 h).1
theorem yL.lt {w : World} {r g s c : Nat} {seen : Array Nat} (h : yL w r g s seen c) : r < w.heap.size:=(Array.getElem?_eq_some_iff.1 h).1
section
variable {P : Program} {ds : List Deferred} {l : List Value} {x : Operand} {T ty : TypeId} {ops : Array Oper} {Q : Exit → Act → World → Prop} {rest : List Oper} {d : Nat} {pos : String} {after : Array Edge} {w : World}
theorem Pj (h : ∀ w' g,dL w w' → w.heap.size ≤ g → qO w' g #[] 0 → wpList P ops Q rest (Fr (l.set d (.map (some g))) ds) w') : wpList P ops Q (Oper.mk (some d) (.makeMap T none) ty pos after none :: rest) (Fr l ds) w :=
 lE (w':=w.alloc (.map #[] 0)) (v:=.map (some w.heap.size)) (fun o ho _=>by simp [execOp,ho,Instr.makeMap,newObj,Sem.run]) (h _ _ ((dL.refl w).alloc _) (Nat.le_refl _) (heap_alloc_new w _))
theorem Wb {k e : TypeId} {g c : Nat} {es : Array MapEntry} (hu : P.underlying T = some (.map k e)) (hx : ev l x = .map (some g)) (hM : qO w g es c) (h : ∀ w' r,dL w w' → w.heap.size ≤ r → yL w' r g c #[] c → wpList P ops Q rest (Fr (l.set d (.pointer (some ⟨r,0,none⟩))) ds) w') :
 wpList P ops Q (Oper.mk (some d) (.range T x) ty pos after none :: rest) (Fr l ds) w :=
 lE (w':=w.alloc (.mapIter (some g) c #[] c)) (v:=.pointer (some ⟨w.heap.size,0,none⟩)) (fun o ho _=>by
  unfold qO at hM;simp [execOp,ho,dH,hx,Instr.range,run_underlying hu,getObj,hM,newObj,Sem.run]) (h _ _ ((dL.refl w).alloc _) (Nat.le_refl _) (heap_alloc_new w _))
end
end Go.Lith
namespace Go.Lith
open Go.RowKit Go.ChangeMaps Go.MapKept
/-! ### Lists of pairs -/
section
variable {K V : Type} [DecidableEq K]
def nU : List (K × V) → K → V → List (K × V)
 | [],k,v=>[(k,v)]
 | x :: D,k,v=>if x.1 = k then (k,v) :: D else x :: nU D k v
def tK : List (K × V) → K → Option V
 | [],_=>none
 | x :: D,k=>if x.1 = k then some x.2 else tK D k
def Pk : List (K × V) → K → List (K × V)
 | [],_=>[]
 | x :: D,k=>if x.1 = k then D else x :: Pk D k
def qC : List (K × V) → K → Nat → Option (Nat × V)
 | [],_,_=>none
 | x :: D,k,i=>if x.1 = k then some (i,x.2) else qC D k (i + 1)
theorem vJ : ∀ (D : List (K × V)) (k : K) (i : Nat),qC D k i = none → tK D k = none ∧ (∀ u,nU D k u = D ++ [(k,u)]) ∧ Pk D k = D
 | [],_,_,_=>⟨rfl,fun _=>rfl,rfl⟩
 | x :: D,k,i,h=>by
  unfold qC at h;by_cases e : x.1 = k
  · rw [if_pos e] at h; cases h
  · rw [if_neg e] at h
    obtain ⟨h1,h2,h3⟩:=vJ D k (i + 1) h;exact ⟨by simp [tK,e,h1],fun u=>by simp [nU,e,h2],by simp [Pk,e,h3]⟩
theorem vK : ∀ (D : List (K × V)) (k : K) (i j : Nat) (v : V),qC D k i = some (j,v) → ∃ p,j = i + p ∧ D[p]? = some (k,v) ∧ tK D k = some v ∧ (∀ u,nU D k u = D.set p (k,u)) ∧ Pk D k = D.eraseIdx p
 | [],_,_,_,_,h=>by cases h
 | x :: D,k,i,j,v,h=>by
  unfold qC at h;by_cases e : x.1 = k
  · rw [if_pos e] at h
    cases h;obtain ⟨a,b⟩:=x;obtain rfl : a = k:=e;exact ⟨0,rfl,rfl,by simp [tK],fun u=>by simp [nU],by simp [Pk]⟩
  · rw [if_neg e] at h
    obtain ⟨p,h1,h2,h3,h4,h5⟩:=vK D k (i + 1) j v h;exact ⟨p + 1,by omega,by simpa using h2,by simp [tK,e,h3],fun u=>by simp [nU,e,h4],by simp [Pk,e,h5]⟩
theorem Pl : ∀ {D : List (K × V)} {k : K},tK D k = none ↔ k ∉ D.map (·.1)
 | [],_=>by simp [tK]
 | x :: D,k=>by
  unfold tK;split
  · rename_i e; simp [e]
  · rename_i e
    rw [Pl (D:=D)];simp only[List.map_cons,List.mem_cons,not_or];exact ⟨fun h=>⟨fun h'=>e h'.symm,h⟩,fun h=>h.2⟩
theorem xS : ∀ (D : List (K × V)) (k : K) (v : V),(nU D k v).map (·.1) = if k ∈ D.map (·.1) then D.map (·.1) else D.map (·.1) ++ [k]
 | [],k,v=>by simp [nU]
 | x :: D,k,v=>by
  unfold nU;by_cases e : x.1 = k
  · simp [e]
  · have e' : ¬ k = x.1:=fun h=>e h.symm
    simp only[if_neg e,List.map_cons,xS D k v,List.mem_cons,e',false_or];split <;> simp
theorem Ln {D : List (K × V)} (h : (D.map (·.1)).Nodup) (k : K) (v : V) : ((nU D k v).map (·.1)).Nodup:=by
 rw [xS];split
 · exact h
 · rename_i hk
   exact List.nodup_append.2 ⟨h,by simp,fun a ha b hb e=>by rw [List.mem_singleton.1 hb] at e; exact hk (e ▸ ha)⟩
end
/-! ### A map's entries -/
def Qj (e : MapEntry) : Value × Value:=(e.key,e.val)
structure kH {K V : Type} (ek : K → Value) (ev : V → Value) (D : List (K × V)) (es : Array MapEntry) (c : Nat) : Prop where
 cells : es.toList.map Qj = D.map fun x=>(ek x.1,ev x.2)
 born : ∀ e ∈ es.toList,e.born < c
 nd : (es.toList.map (·.born)).Nodup
theorem kH.nil {K V : Type} (ek : K → Value) (ev : V → Value) : kH ek ev ([] : List (K × V)) #[] 0:=⟨rfl,fun _ h=>by simp at h,by simp⟩
structure Dt {K : Type} [DecidableEq K] (P : Program) (T : TypeId) (ek : K → Value) : Prop where
 chk : ∀ e k w,(Instr.checkKey e 10000 T (ek k)).run P w = .ok () w
 now : ∃ t,P.underlying T = some t ∧ ∀ a b,Instr.sameNow t (ek a) (ek b) = none ∨ Instr.sameNow t (ek a) (ek b) = some (decide (a = b))
 eq : ∀ a b w,(Op.equal T (ek a) (ek b)).run P w = .ok (decide (a = b)) w
 bits : ∀ a,Instr.sameBits 10000 (ek a) (ek a) = true
section
variable {K V : Type} [DecidableEq K] {P : Program} {T : TypeId} {ek : K → Value} {ev : V → Value}
theorem yM (kt : Dt P T ek) (k : K) (w : World) : ∀ (L : List MapEntry) (D : List (K × V)) (i : Nat),L.map Qj = D.map (fun x=>(ek x.1,ev x.2)) →
 (Instr.findAsking T (ek k) L i).run P w = .ok ((qC D k i).map fun p=>(p.1,ev p.2)) w
 | [],D,i,h=>by
  obtain rfl : D = []:=by simpa using h.symm
  simp [Instr.findAsking,qC]
 | e :: L,[],i,h=>by simp at h
 | e :: L,x :: D,i,h=>by
  simp only[List.map_cons,List.cons.injEq,Qj,Prod.mk.injEq] at h;obtain ⟨⟨h1,h2⟩,h3⟩:=h;have ih:=yM kt k w L D (i + 1) h3;unfold Instr.findAsking qC;rw [h1,h2];simp only[Sem.run_bind,kt.eq,Result.andThen];by_cases e' : x.1 = k
  · rw [if_pos (decide_eq_true e'.symm),if_pos e']
    rfl
  · rw [if_neg (by rw [decide_eq_false (Ne.symm e')]; exact Bool.false_ne_true),if_neg e']
    exact ih
theorem Jf (t : TypeDesc) (k : K) (hn : ∀ a b : K,Instr.sameNow t (ek a) (ek b) = none ∨ Instr.sameNow t (ek a) (ek b) = some (decide (a = b))) : ∀ (L : List MapEntry) (D : List (K × V)) (i : Nat),L.map Qj = D.map (fun x=>(ek x.1,ev x.2)) →
 Instr.findNow t (ek k) L i = none ∨ Instr.findNow t (ek k) L i = some ((qC D k i).map fun p=>(p.1,ev p.2))
 | [],D,i,h=>by
  obtain rfl : D = []:=by simpa using h.symm
  simp [Instr.findNow,qC]
 | e :: L,[],i,h=>by simp at h
 | e :: L,x :: D,i,h=>by
  simp only[List.map_cons,List.cons.injEq,Qj,Prod.mk.injEq] at h;obtain ⟨⟨h1,h2⟩,h3⟩:=h;have ih:=Jf t k hn L D (i + 1) h3;unfold Instr.findNow qC;rw [h1,h2];rcases hn k x.1 with e0 | e0
  · left; rw [e0]
  · rw [e0]
    by_cases e' : x.1 = k
    · right; simp [e']
    · rw [show decide (k = x.1) = false from decide_eq_false (Ne.symm e')]
      simpa [e'] using ih
theorem Ce (kt : Dt P T ek) (k : K) (w : World) {es : Array MapEntry} {D : List (K × V)} {c : Nat} (h : kH ek ev D es c) : (Instr.findKey T (ek k) es.toList).run P w = .ok ((qC D k 0).map fun p=>(p.1,ev p.2)) w:=by
 obtain ⟨t,ht,hn⟩:=kt.now;unfold Instr.findKey;simp only[Sem.run_bind,run_underlying ht,Result.andThen];rcases Jf t k hn es.toList D 0 h.cells with e | e
 · rw [e]
   exact yM kt k w es.toList D 0 h.cells
 · rw [e]
   rfl
end
section
variable {K V : Type} [DecidableEq K] {P : Program} {T M E ty : TypeId} {ek : K → Value} {ev : V → Value} {w w0 : World} {g c : Nat} {es : Array MapEntry} {D : List (K × V)}
theorem Jg {v0 : V} (hu : P.underlying M = some (.map T E)) (kt : Dt P T ek) (hM : qO w g es c) (hD : kH ek ev D es c) (hz : lT P E (ev v0)) (k : K) (b : Bool) :
 (Instr.lookup M (.map (some g)) (ek k) b).run P w = .ok (if b then .tuple #[ev ((tK D k).getD v0),.bool (tK D k).isSome] else ev ((tK D k).getD v0)) w:=by
 unfold qO at hM;obtain ⟨inf,hi,hz⟩:=hz;have hzv : (zeroValue E).run P w = .ok (ev v0) w:=by simp [zeroValue,typeInfo,program,Sem.run,hi,hz]
 simp only[Instr.lookup,Sem.run_bind,run_underlying hu,Result.andThen,getObj,Sem.run,hM,Sem.run_pure,kt.chk,Ce kt k w hD];cases hf : qC D k 0 with
 | none =>
  obtain ⟨h1,_⟩:=vJ D k 0 hf;rw [h1];simp only[Option.map_none,Sem.run_bind,hzv,Result.andThen,Sem.run_pure];cases b <;> rfl
 | some p =>
  obtain ⟨j,v⟩:=p;obtain ⟨_,_,_,h1,_⟩:=vK D k 0 j v hf;rw [h1];simp only[Option.map_some,Sem.run_pure,Result.andThen];cases b <;> rfl
theorem uV {g : Nat} {o o' : Obj} (hM : w.heap[g]? = some o) : (setBlock w g o').heap[g]? = some o':=by
 have:=(Array.getElem?_eq_some_iff.1 hM).1;simp [setBlock,this]
theorem Hb {g : Nat} (o : Obj) : Mm w (setBlock w g o) g:=⟨rfl,rfl,rfl,by simp [setBlock],fun k hk=>by simp [setBlock,Array.getElem?_setIfInBounds_ne (Ne.symm hk)]⟩
theorem Cf {α β : Type} (f : α → β) (L : List α) (i : Nat) (x : α) (g : α → α) (hi : L[i]? = some x) : (L.modify i g).map f = (L.map f).set i (f (g x)):=by
 apply List.ext_getElem?;intro j;simp only[List.getElem?_map,List.getElem?_modify,List.getElem?_set,List.length_map];by_cases e : i = j
 · subst e
   rw [hi];have:=(List.getElem?_eq_some_iff.1 hi).1;simp [this]
 · simp [e]
theorem kH.set (hD : kH ek ev D es c) {p : Nat} {k : K} {v : V} (hp : D[p]? = some (k,v)) (u : V) : kH ek ev (D.set p (k,u)) (es.modify p fun e=>{ e with key:=ek k,val:=ev u }) c:=by
 have hl : es.toList.length = D.length:=by have:=congrArg List.length hD.cells; simpa using this
 have hlt : p < es.toList.length:=by rw [hl]; exact (List.getElem?_eq_some_iff.1 hp).1
 have hx : es.toList[p]? = some es.toList[p]:=List.getElem?_eq_getElem hlt;have hb : (es.modify p fun e=>{ e with key:=ek k,val:=ev u }).toList.map (·.born) = es.toList.map (·.born):=by
  rw [Array.toList_modify,Cf _ _ _ _ _ hx];apply List.ext_getElem?;intro j;rw [List.getElem?_set];split
  · rename_i e; subst e; rw [if_pos (by simpa using hlt),List.getElem?_map,hx]; rfl
  · rfl
 refine ⟨?_,fun e he=>?_,by rw [hb]; exact hD.nd⟩
 · rw [Array.toList_modify,Cf _ _ _ _ _ hx,hD.cells,List.map_set]
   rfl
 · have : e.born ∈ (es.modify p fun e=>{ e with key:=ek k,val:=ev u }).toList.map (·.born):=List.mem_map.2 ⟨e,he,rfl⟩
   rw [hb] at this;obtain ⟨e',he',hh⟩:=List.mem_map.1 this;rw [← hh];exact hD.born e' he'
theorem kH.push (hD : kH ek ev D es c) (k : K) (u : V) : kH ek ev (D ++ [(k,u)]) (es.push { key:=ek k,val:=ev u,born:=c }) (c + 1):=by
 refine ⟨by simp [hD.cells,Qj],fun e he=>?_,?_⟩
 · rw [Array.toList_push] at he
   rcases List.mem_append.1 he with he | he
   · exact Nat.lt_succ_of_lt (hD.born e he)
   · rw [List.mem_singleton.1 he]; exact Nat.lt_succ_self _
 · rw [Array.toList_push,List.map_append]
   refine List.nodup_append.2 ⟨hD.nd,by simp,fun a ha b hb e=>?_⟩;obtain ⟨e',he',rfl⟩:=List.mem_map.1 ha;have : b = c:=by simpa using hb
   have:=hD.born e' he';omega
theorem Jh (hu : P.underlying M = some (.map T E)) (kt : Dt P T ek) (hM : qO w g es c) (hD : kH ek ev D es c) (k : K) (u : V) :
 ∃ es' c',(Instr.mapUpdate M (.map (some g)) (ek k) (ev u)).run P w = .ok () (setBlock w g (.map es' c')) ∧ kH ek ev (nU D k u) es' c':=by
 unfold qO at hM;cases hf : qC D k 0 with
 | none =>
  obtain ⟨_,h1,_⟩:=vJ D k 0 hf;refine ⟨_,_,?_,h1 u ▸ hD.push k u⟩;simp only[Instr.mapUpdate,Sem.run_bind,run_underlying hu,Result.andThen,getObj,Sem.run,hM,Sem.run_pure,kt.chk,Ce kt k w hD,hf,Option.map_none];exact run_setObj_map _ hM
 | some p =>
  obtain ⟨j,v⟩:=p;obtain ⟨p,rfl,hp,_,h1,_⟩:=vK D k 0 j v hf;rw [Nat.zero_add] at hf;have hl : es.toList.length = D.length:=by have:=congrArg List.length hD.cells; simpa using this
  have hlt : p < es.toList.length:=by rw [hl]; exact (List.getElem?_eq_some_iff.1 hp).1
  have hk : ((es[p]?).map (·.key)).getD (ek k) = ek k:=by
   have h2:=congrArg (fun L=>L[p]?) hD.cells;simp only[List.getElem?_map,hp,Option.map_some] at h2;rw [Array.getElem?_toList] at h2;cases h3 : es[p]? with
   | none=>rfl
   | some x =>
    rw [h3] at h2;simp only[Option.map_some,Option.some.injEq,Qj,Prod.mk.injEq] at h2;simpa using h2.1
  refine ⟨_,_,?_,h1 u ▸ hD.set hp u⟩;simp only[Instr.mapUpdate,Sem.run_bind,run_underlying hu,Result.andThen,getObj,Sem.run,hM,Sem.run_pure,kt.chk,Ce kt k w hD,hf,Option.map_some,hk,Instr.keyThatStays,kt.bits,if_true];exact run_setObj_map _ hM
/-! ### Ranges -/
def wP (ek : K → Value) (ev : V → Value) (D : List (K × V)) (es : Array MapEntry) (seen : Array Nat) (dn rs : List (K × V)) : Prop :=
 (dn ++ rs).Perm D ∧ ∃ dE rE : List MapEntry,seen.toList = dE.map (·.born) ∧ (dE ++ rE).Perm es.toList ∧ dE.map Qj = dn.map (fun x=>(ek x.1,ev x.2)) ∧ rE.map Qj = rs.map (fun x=>(ek x.1,ev x.2))
theorem wP.start (hD : kH ek ev D es c) : wP ek ev D es #[] [] D:=⟨List.Perm.refl _,[],es.toList,rfl,List.Perm.refl _,rfl,hD.cells⟩
theorem wP.done {seen : Array Nat} {dn : List (K × V)} (h : wP ek ev D es seen dn []) : dn.Perm D:=by simpa using h.1
def Nxt (ek : K → Value) (ev : V → Value) (D : List (K × V)) (es : Array MapEntry) (dn rs : List (K × V)) (b : Bool) (kv vv : Value) (seen' : Array Nat) : Prop :=
 (b = false ∧ rs = []) ∨ (b = true ∧ ∃ k v rs',rs.Perm ((k,v) :: rs') ∧ kv = ek k ∧ vv = ev v ∧ wP ek ev D es seen' (dn ++ [(k,v)]) rs')
def Ji (b : Bool) (k v : Value) : Value:=.tuple (if b then #[.bool true,k,v] else #[.bool false])
theorem Pm {r s : Nat} {seen : Array Nat} {dn rs : List (K × V)} (hI : yL w r g c seen c) (hM : qO w g es c) (hD : kH ek ev D es c) (hT : wP ek ev D es seen dn rs) :
 ∃ b kv vv seen' w1,(w1 = w ∨ w1 = w.drew) ∧ (Instr.next (.pointer (some ⟨r,0,none⟩)) false ty).run P w = .ok (Ji b kv vv) (setBlock w1 r (.mapIter (some g) c seen' c)) ∧ Nxt ek ev D es dn rs b kv vv seen':=by
 obtain ⟨hp,dE,rE,h1,h2,h3,h4⟩:=hT;have hnd : ((dE ++ rE).map (·.born)).Nodup:=(h2.map (·.born)).nodup_iff.2 hD.nd;rw [List.map_append,List.nodup_append] at hnd;have hleft : ∀ e,e ∈ (leftOf es seen).toList ↔ e ∈ rE:=fun e=>by
  unfold leftOf;simp only[Array.toList_filter,List.mem_filter,Bool.not_eq_true',Array.contains_eq_mem,decide_eq_false_iff_not];rw [← Array.mem_toList_iff (xs:=seen),h1,← h2.mem_iff,List.mem_append];constructor
  · rintro ⟨h | h,hn⟩
    · exact absurd (List.mem_map.2 ⟨e,h,rfl⟩) hn
    · exact h
  · intro h
    exact ⟨.inr h,fun hm=>hnd.2.2 _ hm _ (List.mem_map.2 ⟨e,h,rfl⟩) rfl⟩
 rcases run_next_at (P:=P) w ty r g c c seen es c hI hM hD.born (Nat.le_refl _) with ⟨h0,hr⟩ | ⟨e,he,w1,hw1,hr⟩
 · refine ⟨false,default,default,seen,w,.inl rfl,?_,.inl ⟨rfl,?_⟩⟩
   · rw [hr]
     have : setBlock w r (.mapIter (some g) c seen c) = w:=by
      unfold setBlock;have hlt:=(Array.getElem?_eq_some_iff.1 hI).1;have : w.heap.setIfInBounds r (.mapIter (some g) c seen c) = w.heap:=by
       apply Array.ext_getElem?;intro i;rw [Array.getElem?_setIfInBounds];split
       · rename_i e; subst e; exact hI.symm
       · rfl
      rw [this]
     rw [this];rfl
   · cases rs with
     | nil=>rfl
     | cons x rs =>
      cases rE with
      | nil=>simp at h4
      | cons e rE =>
       have:=(hleft e).2 (List.mem_cons_self ..);rw [Array.eq_empty_of_size_eq_zero h0] at this;simp at this
 · obtain ⟨s,t,rfl⟩:=List.append_of_mem ((hleft e).1 he)
   rw [List.map_append,List.map_cons] at h4;obtain ⟨rs1,rs2,rfl,e1,e2⟩:=List.map_eq_append_iff.1 h4.symm;obtain ⟨x,rs3,rfl,e3,e4⟩:=List.map_eq_cons_iff.1 e2;obtain ⟨k,v⟩:=x;simp only[Qj,Prod.mk.injEq] at e3;refine ⟨true,e.key,e.val,seen.push e.born,w1,hw1,hr,.inr ⟨rfl,k,v,rs1 ++ rs3,List.perm_middle,e3.1.symm,e3.2.symm,?_,dE ++ [e],s ++ t,?_,?_,?_,?_⟩⟩
   · refine List.Perm.trans ?_ hp
     simp only[List.append_assoc,List.cons_append,List.nil_append];exact List.Perm.append_left _ List.perm_middle.symm
   · simp [h1]
   · refine List.Perm.trans ?_ h2
     simp only[List.append_assoc,List.cons_append,List.nil_append];exact List.Perm.append_left _ List.perm_middle.symm
   · simp [h3,Qj,e3]
   · simp [e1,e4]
theorem Lo {r : Nat} {seen : Array Nat} {dn rs : List (K × V)} {k : K} {v : V} (hI : yL w r g c seen c) (hM : qO w g es c) (hD : kH ek ev D es c) (hT : wP ek ev D es seen (dn ++ [(k,v)]) rs) :
 (Instr.entry (.pointer (some ⟨r,0,none⟩))).run P w = .ok (.tuple #[ek k,ev v]) w:=by
 obtain ⟨hp,dE,rE,h1,h2,h3,h4⟩:=hT;rw [List.map_append,List.map_cons,List.map_nil] at h3;obtain ⟨d1,d2,rfl,e1,e2⟩:=List.map_eq_append_iff.1 h3;obtain ⟨e,d3,rfl,e3,e4⟩:=List.map_eq_cons_iff.1 e2;obtain rfl : d3 = []:=by simpa using e4
 simp only[Qj,Prod.mk.injEq] at e3;have hs : seen = (d1.map (·.born)).toArray.push e.born:=by
  apply Array.toList_inj.1;rw [h1];simp
 have hm : e ∈ es.toList:=h2.mem_iff.1 (by simp);rw [hs] at hI;have:=run_entry_at (P:=P) w r g c _ es c e hI hM hm hD.nd;rw [this,e3.1,e3.2]
end
/-! ### Things in memory -/
def mI (g : Nat) (es : Array MapEntry) (c : Nat) : It where
 own b:=some g = some b
 P w:=qO w g es c
 lt w b h e:=by cases e; exact h.lt
 st w w' h _ k:=(k g rfl).trans h
def iI (r g c : Nat) (seen : Array Nat) : It where
 own b:=some r = some b
 P w:=yL w r g c seen c
 lt w b h e:=by cases e; exact h.lt
 st w w' h _ k:=(k r rfl).trans h
theorem cR.p {w0 w : World} {is : List It} (m : cR w0 w is) (k : Nat) {g c : Nat} {es : Array MapEntry} (hk : is[k]? = some (mI g es c)) : qO w g es c:=m.get k hk
theorem cR.r {w0 w : World} {is : List It} (m : cR w0 w is) (k : Nat) {r g c : Nat} {seen : Array Nat} (hk : is[k]? = some (iI r g c seen)) : yL w r g c seen c:=m.get k hk
section
variable {K V : Type} [DecidableEq K] {P : Program} {T M E ty : TypeId} {ek : K → Value} {ev : V → Value} {w w0 : World} {g c : Nat} {es : Array MapEntry} {D : List (K × V)} {is : List It}
variable {ds : List Deferred} {l : List Value} {x y z : Operand} {ops : Array Oper} {Q : Exit → Act → World → Prop} {rest : List Oper} {d : Nat} {pos : String} {after : Array Edge}
theorem Sz (m : cR w0 w is) (h : ∀ g u,cR w0 u (mI g #[] 0 :: is) → wpList P ops Q rest (Fr (l.set d (.map (some g))) ds) u) : wpList P ops Q (Oper.mk (some d) (.makeMap M none) ty pos after none :: rest) (Fr l ds) w :=
 Pj fun u g e hg hM=>h g u (m.new (i:=mI g #[] 0) e hM fun b h=>by cases h; exact hg)
theorem aa5 (m : cR w0 w is) (hu : P.underlying M = some (.map T E)) (hx : Go.Lith.ev l x = .map (some g)) (hM : qO w g es c) (h : ∀ r u,cR w0 u (iI r g c #[] :: is) → wpList P ops Q rest (Fr (l.set d (.pointer (some ⟨r,0,none⟩))) ds) u) :
 wpList P ops Q (Oper.mk (some d) (.range M x) ty pos after none :: rest) (Fr l ds) w :=
 Wb hu hx hM fun u r e hr hI=>h r u (m.new (i:=iI r g c #[]) e hI fun b h=>by cases h; exact hr)
end
end Go.Lith
namespace Go.Lith
open Go.RowKit Go.ChangeMaps Go.MapKept
section
variable {K V : Type} [DecidableEq K] {P : Program} {T M E ty : TypeId} {ek : K → Value} {en : V → Value} {w w0 : World} {g c : Nat} {es : Array MapEntry} {D : List (K × V)} {is : List It}
variable {ds : List Deferred} {l : List Value} {x y z : Operand} {ops : Array Oper} {Q : Exit → Act → World → Prop} {rest : List Oper} {d : Nat} {pos : String} {after : Array Edge}
theorem Ta {v0 : V} {k : K} (hu : P.underlying M = some (.map T E)) (hz : lT P E (en v0)) (kt : Dt P T ek) (hx : ev l x = .map (some g)) (hy : ev l y = ek k) (hM : qO w g es c) (hD : kH ek en D es c) : Am P l (.lookup M x y false) ty (en ((tK D k).getD v0)) w:=fun o ho _=>by
 have:=Jg hu kt hM hD hz k false;simp only[Bool.false_eq_true,if_false] at this;simp [execOp,ho,dH,hx,hy,this]
theorem Wc {v : V} {a : K} (m : cR w0 w is) (k : Nat) (hk : is[k]? = some (mI g es c)) (hu : P.underlying M = some (.map T E)) (kt : Dt P T ek) (hx : ev l x = .map (some g)) (hy : ev l y = ek a) (hz : ev l z = en v) (hD : kH ek en D es c)
 (h : ∀ es' c' u,cR w0 u (is.set k (mI g es' c')) → kH ek en (nU D a v) es' c' → wpList P ops Q rest (Fr l ds) u) : wpList P ops Q (Oper.mk none (.mapUpdate M x y z) ty pos after none :: rest) (Fr l ds) w:=by
 have hM:=m.p k hk;obtain ⟨es',c',hr,hD'⟩:=Jh hu kt hM hD a v;have hC:=Hb (w:=w) (g:=g) (.map es' c');refine Fm (w':=setBlock w g (.map es' c')) (fun o ho=>by simp [execOp,ho,dH,hx,hy,hz,hr]) (h es' c' _ ?_ hD');exact m.put k hk hC.os hC.tape hC.output (by rw [hC.size]; exact Nat.le_refl _) (fun b _ hne=>hC.block b fun e=>hne (by rw [e]; rfl)) (uV hM) (.inl fun _ h=>h)
theorem ac1 {r : Nat} {seen : Array Nat} {dn rs : List (K × V)} (m : cR w0 w is) (k : Nat) (hk : is[k]? = some (iI r g c seen)) (hx : ev l x = .pointer (some ⟨r,0,none⟩)) (hM : qO w g es c) (hD : kH ek en D es c) (hT : wP ek en D es seen dn rs)
 (h : ∀ b kv vv seen' u,cR w0 u (is.set k (iI r g c seen')) → Nxt ek en D es dn rs b kv vv seen' → wpList P ops Q rest (Fr (l.set d (Ji b kv vv)) ds) u) :
 wpList P ops Q (Oper.mk (some d) (.next x false) ty pos after none :: rest) (Fr l ds) w:=by
 have hI:=m.r k hk;obtain ⟨b,kv,vv,seen',w1,hw1,hr,hN⟩:=Pm (P:=P) (ty:=ty) (s:=0) hI hM hD hT;refine lE (w':=setBlock w1 r (.mapIter (some g) c seen' c)) (v:=Ji b kv vv) (fun o ho hty=>by simp [execOp,ho,dH,hx,hty,hr]) (h b kv vv seen' _ ?_ hN);have e1 : w1.heap = w.heap ∧ w1.os = w.os ∧ w1.tape = w.tape ∧ w1.output = w.output:=by rcases hw1 with rfl | rfl <;> exact ⟨rfl,rfl,rfl,rfl⟩
 refine m.put k hk e1.2.1 e1.2.2.1 e1.2.2.2 (by simp [setBlock,e1.1]) (fun b' _ hne=>?_) ?_ (.inl fun _ h=>h)
 · have : b' ≠ r:=fun e=>hne (by rw [e]; rfl)
   simp only[setBlock,e1.1];exact Array.getElem?_setIfInBounds_ne (Ne.symm this)
 · exact uV (w:=w1) (o:=.mapIter (some g) c seen c) (by rw [e1.1]; exact hI)
theorem Wd {b : Bool} {kv vv : Value} (hx : ev l x = Ji b kv vv) : gQ P l (.extract x 0) ty (.bool b):=fun w o ho _=>by
 cases b <;> simp [execOp,ho,dH,hx,Ji,Instr.extract]
theorem We {r : Nat} {seen : Array Nat} {dn rs : List (K × V)} {k : K} {v : V} (hx : ev l x = .pointer (some ⟨r,0,none⟩)) (hI : yL w r g c seen c) (hM : qO w g es c) (hD : kH ek en D es c) (hT : wP ek en D es seen (dn ++ [(k,v)]) rs) :
 Am P l (.entry x) ty (.tuple #[ek k,en v]) w:=fun o ho _=>by
 have:=Lo (P:=P) hI hM hD hT;simp [execOp,ho,dH,hx,this]
theorem Hc {f : FuncId} {fo : Operand} {xs : Array Operand} {args : List Value} {first cap : Array Value} {a0 : Array TypeId} {R : Value → It → Prop} (m : cR w0 w is) (k : Nat) (hE : bH P f) (hf : ev l fo = .func (.func f) first cap) (hxs : first.toList ++ xs.toList.map (ev l) ++ cap.toList = args)
 (hc : cR w0 w is → Calls P f args.toArray w fun e w'=>∃ v i,e = .returned v ∧ cR w0 w' (is.set k i) ∧ R v i) (h : ∀ v i u,cR w0 u (is.set k i) → R v i → wpList P ops Q rest (Fr (l.set d v) ds) u) :
 wpList P ops Q (Oper.mk (some d) (.call { callee:=.value fo,args:=xs,argTypes:=a0 }) ty pos after none :: rest) (Fr l ds) w:=by
 refine wpList_plain rfl fun K hK=>?_;unfold Oper.wp;rw [iX,nQ hE hf hxs _ rfl];refine (hc m).mono ?_;rintro e w' ⟨v,i,rfl,hM,hR⟩;show K ((Fr l ds).put (some d) v) w'
 rw [iP];exact hK _ _ (h v i w' hM hR)
end
theorem Yi {P : Program} {Q : Exit → Act → World → Prop} {l : List Value} {ds : List Deferred} {c1 c2 : Code} {w : World} {x : Operand} {b : Bool} (hx : ev l x = .bool b) (ht : b = true → c1.wp P Q (Fr l ds) w) (hf : b = false → c2.wp P Q (Fr l ds) w) : (Code.cond x c1 c2).wp P Q (Fr l ds) w:=oZ hx ht hf
theorem Tb {α : Type} {is : List α} {k : Nat} {i : α} (h : is[k]? = some i) : is.set k i = is:=by
 apply List.ext_getElem?;intro j;rw [List.getElem?_set];split
 · rename_i e; subst e
   have:=(List.getElem?_eq_some_iff.1 h).1;rw [if_pos this,h]
 · rfl
theorem Er {K V : Type} [DecidableEq K] : ∀ {D : List (K × V)} {k : K} {v : V},tK D k = some v → nU D k v = D
 | [],_,_,h=>by cases h
 | x :: D,k,v,h=>by
  unfold tK at h;unfold nU;split at h
  · rename_i e; cases h; subst e; rw [if_pos rfl]
  · rename_i e; rw [if_neg e,Er h]
/-! ### Keys -/
def Yj (P : Program) (e : Bool) (d : Nat) (T : TypeId) (x : Value) : Prop:=∀ w,(Instr.checkKey e d T x).run P w = .ok () w
section
variable {P : Program} {e : Bool} {d : Nat} {T E : TypeId}
theorem sT {β : Type} {w : World} (g : β → PUnit → Sem (ForInStep PUnit)) : ∀ (L : List β),(∀ x ∈ L,(g x ⟨⟩).run P w = .ok (.yield ⟨⟩) w) → (forIn L PUnit.unit g : Sem PUnit).run P w = .ok ⟨⟩ w
 | [],_=>by simp
 | x :: L,h=>by
  simp only[List.forIn_cons,Sem.run_bind,h x (List.mem_cons_self ..),Result.andThen_ok];exact sT g L fun y hy=>h y (List.mem_cons_of_mem _ hy)
theorem Yj.int {k k' : IntKind} {n : Int} (hu : P.underlying T = some (.int k')) : Yj P e (d + 1) T (.int k n):=fun w=>by
 unfold Instr.checkKey;simp [run_underlying hu]
theorem Yj.struct {fs : Array Field} {cs : Array Value} (hu : P.underlying T = some (.struct fs)) (h : ∀ f ∈ fs.toList,∃ v,(∀ w,(part f.type cs f.offset).run P w = .ok v w) ∧ Yj P e d f.type v) : Yj P e (d + 1) T (.agg cs):=fun w=>by
 unfold Instr.checkKey;simp only[Sem.run_bind,run_underlying hu,Result.andThen_ok];rw [← Array.forIn_toList];refine (congrArg (fun r=>Result.andThen r _) (sT _ fs.toList fun f hf=>?_)).trans (by rfl);obtain ⟨v,h1,h2⟩:=h f hf;by_cases hn : f.name = "_"
 · simp [hn]
 · simp [hn,h1 w,h2 w]
theorem Dt.agg {K : Type} [DecidableEq K] {ek : K → Value} {cs : K → Array Value} (ha : ∀ k,ek k = .agg (cs k)) {t : TypeDesc} (ht : P.underlying T = some t) (hc : ∀ e k,Yj P e 10000 T (ek k)) (he : ∀ a b,rV P 10000 T (ek a) (ek b) (a = b)) (hb : ∀ a,Instr.sameBits 10000 (ek a) (ek a) = true) : Dt P T ek where
 chk e k w:=hc e k w
 now:=⟨t,ht,fun a b=>.inl (by rw [ha,ha]; cases t <;> rfl)⟩
 eq a b w:=rW (he a b) w
 bits:=hb
end
end Go.Lith
