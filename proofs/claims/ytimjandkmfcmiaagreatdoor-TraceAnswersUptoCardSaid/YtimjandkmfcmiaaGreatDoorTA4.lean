/-
 Texts of one claim, laid together: Facts2, Geo, Fresh, Fresh2, Geo2, Geo3, Geo4, Geo5, Own, Mem, Geo1, Exact, Exact2, Geo6, Ray, Grow, Pts, Map0, Map.
-/
import Derived.LoopN
import Derived.Sort.Grow
import Derived.Deep.Draws
import Derived.Maps.RangeRun
import Derived.Test.YtimjandkmfcmiaaGreatDoorTA3
open Go renaming wp_region_lit→aa,Value→aj,wp_skip→ar,wp_block→av,World→aw,wp_ret→bc,TypeId→be,wpList→bh,Operand→bm,run_underlying→bt,wp_exit→bw,Program→cj,wpQuiet→ck,execOp→cm,wp_loop_rounds→cz,Deferred→dp,MapEntry→fr
open Nat renaming reduceAdd→ab,reduceMul→ag,zero_add→ah,le_trans→ak,le_refl→bi,zero_le→cd,lt_or_ge→cn,min_eq_left→co,eq_zero_or_pos→eg,mul_le_mul_right→ei,add_mul→e_
open Go.Exit renaming inBlock→ac,«then»→af
open Int renaming reduceToNat→ae,fdiv_eq_ediv_of_nonneg→fc
open List renaming getElem?_eq_getElem→ao,getD_cons_succ→ap,getD_cons_zero→aq,set_cons_succ→a_,set_cons_zero→ba,length_append→bg,length_take→bl,mem_cons→bn,getElem?_eq_some_iff→bq,map_append→br,getElem?_append_left→bv,eq_nil_of_length_eq_zero→bz,mem_singleton→b_,mem_of_getElem?→cc,getElem?_append_right→cq,mem_cons_self→cu,mem_cons_of_mem→cw,getElem?_drop→cx,getElem?_map→db,map_cons→dh,getElem_mem→dl,flatMap_cons→dv,mem_append→dx,nil_append→dy,getElem?_take→dz,pairwise_cons→ej,cons_append→ep,ext_getElem?→er,append_assoc→et,mem_map→ew,drop_zero→fg,mem_range→fw,any_eq_true→f_,size_toArray→gd,mem_or_eq_of_mem_set→gt,length_drop→gz,all_eq_true→g_,getElem?_set→ie,mem_map_of_mem→il,foldl_cons→ir,filter_cons→je,pairwise_iff_getElem→kg,nodup_cons→lh,nodup_append→lv,nil_sublist→mb
open Bool renaming and_eq_true→bu,not_eq_true'→jr,false_or→kj
open Go.Oper renaming mk→bx,quietAt→ji
open Array renaming getElem?_eq_some_iff→cy,getElem?_eq_getElem→de,getD_eq_getD_getElem?→dm,replicate→ff,all_eq_true_iff_forall_mem→ix,getElem?_eq_none→jm
open Option renaming getD_some→dt,map_some→fb,some→gm
open Prod.mk renaming injEq→fp
open Option.some renaming injEq→fu
open List.cons renaming injEq→lc
open List.Perm renaming refl→mu
set_option maxHeartbeats 8000000
set_option linter.unusedSimpArgs false
set_option linter.unusedVariables false
set_option linter.unusedSectionVars false
namespace Go.Proofs.YtimjandkmfcmiaaGreatDoor
open Go.Proofs.Tryz
open Go.RowKit Go.Lith
abbrev uB:=@underlying155
abbrev Aq:=@underlying183
theorem qB{l:List aj}{ty:be}{x y:bm}{k:IntKind}{c0 c1 c2:aj}(hx:ev l x=.agg #[c0,c1,c2])(hy:ev l y=.int k 0):iG prog l (.index 23 x y) ty c0:=mH fF aV aM hx hy (by decide) (by decide) rfl
theorem qC{l:List aj}{ty:be}{x y:bm}{k:IntKind}{c0 c1 c2:aj}(hx:ev l x=.agg #[c0,c1,c2])(hy:ev l y=.int k 1):iG prog l (.index 23 x y) ty c1:=mH fF aV aM hx hy (by decide) (by decide) rfl
theorem qD{l:List aj}{ty:be}{x y:bm}{k:IntKind}{c0 c1 c2:aj}(hx:ev l x=.agg #[c0,c1,c2])(hy:ev l y=.int k 2):iG prog l (.index 23 x y) ty c2:=mH fF aV aM hx hy (by decide) (by decide) rfl
theorem yJ{l:List aj}{ty:be}{x y:bm}{k:IntKind}{c0 c1 c2 c3 c4 c5 c6 c7 c8:aj}(hx:ev l x=.agg #[c0,c1,c2,c3,c4,c5,c6,c7,c8])(hy:ev l y=.int k 0):iG prog l (.index 58 x y) ty (.agg #[c0,c1,c2]):=sK iC bG aL hx hy (by decide) (by decide) rfl
theorem yK{l:List aj}{ty:be}{x y:bm}{k:IntKind}{c0 c1 c2 c3 c4 c5 c6 c7 c8:aj}(hx:ev l x=.agg #[c0,c1,c2,c3,c4,c5,c6,c7,c8])(hy:ev l y=.int k 1):iG prog l (.index 58 x y) ty (.agg #[c3,c4,c5]):=sK iC bG aL hx hy (by decide) (by decide) rfl
theorem yL{l:List aj}{ty:be}{x y:bm}{k:IntKind}{c0 c1 c2 c3 c4 c5 c6 c7 c8:aj}(hx:ev l x=.agg #[c0,c1,c2,c3,c4,c5,c6,c7,c8])(hy:ev l y=.int k 2):iG prog l (.index 58 x y) ty (.agg #[c6,c7,c8]):=sK iC bG aL hx hy (by decide) (by decide) rfl
theorem Gc{l:List aj}{ty:be}{x y:bm}{k:IntKind}{c0 c1 c2 c3 c4 c5:aj}(hx:ev l x=.agg #[c0,c1,c2,c3,c4,c5])(hy:ev l y=.int k 0):iG prog l (.index 152 x y) ty (.agg #[c0,c1]):=sK jW aT aH hx hy (by decide) (by decide) rfl
theorem Gd{l:List aj}{ty:be}{x y:bm}{k:IntKind}{c0 c1 c2 c3 c4 c5:aj}(hx:ev l x=.agg #[c0,c1,c2,c3,c4,c5])(hy:ev l y=.int k 1):iG prog l (.index 152 x y) ty (.agg #[c2,c3]):=sK jW aT aH hx hy (by decide) (by decide) rfl
theorem Ge{l:List aj}{ty:be}{x y:bm}{k:IntKind}{c0 c1 c2 c3 c4 c5:aj}(hx:ev l x=.agg #[c0,c1,c2,c3,c4,c5])(hy:ev l y=.int k 2):iG prog l (.index 152 x y) ty (.agg #[c4,c5]):=sK jW aT aH hx hy (by decide) (by decide) rfl
theorem Gf{l:List aj}{ty:be}{x y:bm}{k:IntKind}{c0 c1 c2:aj}(hx:ev l x=.agg #[c0,c1,c2])(hy:ev l y=.int k 0):iG prog l (.index 176 x y) ty c0:=mH kS aV aM hx hy (by decide) (by decide) rfl
theorem Gg{l:List aj}{ty:be}{x y:bm}{k:IntKind}{c0 c1 c2:aj}(hx:ev l x=.agg #[c0,c1,c2])(hy:ev l y=.int k 1):iG prog l (.index 176 x y) ty c1:=mH kS aV aM hx hy (by decide) (by decide) rfl
theorem Gh{l:List aj}{ty:be}{x y:bm}{k:IntKind}{c0 c1 c2:aj}(hx:ev l x=.agg #[c0,c1,c2])(hy:ev l y=.int k 2):iG prog l (.index 176 x y) ty c2:=mH kS aV aM hx hy (by decide) (by decide) rfl
theorem wO{l:List aj}{ty:be}{x y:bm}{k:IntKind}{c0 c1 c2:aj}(hx:ev l x=.agg #[c0,c1,c2])(hy:ev l y=.int k 0):iG prog l (.index 181 x y) ty c0:=mH underlying181 Je vR hx hy (by decide) (by decide) rfl
theorem wP{l:List aj}{ty:be}{x y:bm}{k:IntKind}{c0 c1 c2:aj}(hx:ev l x=.agg #[c0,c1,c2])(hy:ev l y=.int k 1):iG prog l (.index 181 x y) ty c1:=mH underlying181 Je vR hx hy (by decide) (by decide) rfl
theorem wQ{l:List aj}{ty:be}{x y:bm}{k:IntKind}{c0 c1 c2:aj}(hx:ev l x=.agg #[c0,c1,c2])(hy:ev l y=.int k 2):iG prog l (.index 181 x y) ty c2:=mH underlying181 Je vR hx hy (by decide) (by decide) rfl
theorem Tx{ds:List dp}{l:List aj}{ty:be}{ops:Array Oper}{Q:Exit→Act→aw→Prop}{rest:List Oper}{d:Nat}{pos:String}{after:Array Edge}{w:aw}{x0:bm}{c0_0 c0_1 c0_2:aj}(h0:(ev l x0).cells = #[c0_0,c0_1,c0_2])(h:∀w' g,dU w w'→w.heap.size≤g→gG w' g [c0_0,c0_1,c0_2] 56→bh prog ops Q rest (Fr (l.set d (.slice (some ⟨g,0,none⟩) 1 1)) ds) w'):bh prog ops Q (bx (some d) (.buildSlice 26 1 #[(0,x0)]) ty pos after none::rest) (Fr l ds) w :=
 oY (vs:=#[(0,ev l x0)]) (base:=#[.int .i64 0,.int .i64 0,.int .i64 0]) (c:=3) (z:=(.agg #[.int .i64 0,.int .i64 0,.int .i64 0])) oA (by kernel_rfl) (by decide) (by decide) (by kernel_rfl) (by simp) (by simp[Instr.fill,h0]) h
theorem Hk{ds:List dp}{l:List aj}{ty:be}{ops:Array Oper}{Q:Exit→Act→aw→Prop}{rest:List Oper}{d:Nat}{pos:String}{after:Array Edge}{w:aw}{x0 x1 x2 x3:bm}{c0_0 c0_1 c0_2 c1_0 c1_1 c1_2 c2_0 c2_1 c2_2 c3_0 c3_1 c3_2:aj}(h0:(ev l x0).cells = #[c0_0,c0_1,c0_2])(h1:(ev l x1).cells = #[c1_0,c1_1,c1_2])(h2:(ev l x2).cells = #[c2_0,c2_1,c2_2])(h3:(ev l x3).cells = #[c3_0,c3_1,c3_2])(h:∀w' g,dU w w'→w.heap.size≤g→gG w' g [c0_0,c0_1,c0_2,c1_0,c1_1,c1_2,c2_0,c2_1,c2_2,c3_0,c3_1,c3_2] 56→bh prog ops Q rest (Fr (l.set d (.slice (some ⟨g,0,none⟩) 4 4)) ds) w'):bh prog ops Q (bx (some d) (.buildSlice 26 4 #[(0,x0),(1,x1),(2,x2),(3,x3)]) ty pos after none::rest) (Fr l ds) w :=
 oY (vs:=#[(0,ev l x0),(1,ev l x1),(2,ev l x2),(3,ev l x3)]) (base:=#[.int .i64 0,.int .i64 0,.int .i64 0,.int .i64 0,.int .i64 0,.int .i64 0,.int .i64 0,.int .i64 0,.int .i64 0,.int .i64 0,.int .i64 0,.int .i64 0]) (c:=3) (z:=(.agg #[.int .i64 0,.int .i64 0,.int .i64 0])) oA (by kernel_rfl) (by decide) (by decide) (by kernel_rfl) (by simp) (by simp[Instr.fill,h0,h1,h2,h3]) h
theorem Hl{ds:List dp}{l:List aj}{ty:be}{ops:Array Oper}{Q:Exit→Act→aw→Prop}{rest:List Oper}{d:Nat}{pos:String}{after:Array Edge}{w:aw}{x0:bm}{c0_0 c0_1 c0_2 c0_3 c0_4 c0_5 c0_6 c0_7 c0_8:aj}(h0:(ev l x0).cells = #[c0_0,c0_1,c0_2,c0_3,c0_4,c0_5,c0_6,c0_7,c0_8])(h:∀w' g,dU w w'→w.heap.size≤g→gG w' g [c0_0,c0_1,c0_2,c0_3,c0_4,c0_5,c0_6,c0_7,c0_8] 58→bh prog ops Q rest (Fr (l.set d (.slice (some ⟨g,0,none⟩) 1 1)) ds) w'):bh prog ops Q (bx (some d) (.buildSlice 48 1 #[(0,x0)]) ty pos after none::rest) (Fr l ds) w :=
 oY (vs:=#[(0,ev l x0)]) (base:=#[.int .i64 0,.int .i64 0,.int .i64 0,.int .i64 0,.int .i64 0,.int .i64 0,.int .i64 0,.int .i64 0,.int .i64 0]) (c:=9) (z:=(.agg #[.int .i64 0,.int .i64 0,.int .i64 0,.int .i64 0,.int .i64 0,.int .i64 0,.int .i64 0,.int .i64 0,.int .i64 0])) iW (by kernel_rfl) (by decide) (by decide) (by kernel_rfl) (by simp) (by simp[Instr.fill,h0]) h
theorem Hm{ds:List dp}{l:List aj}{ty:be}{ops:Array Oper}{Q:Exit→Act→aw→Prop}{rest:List Oper}{d:Nat}{pos:String}{after:Array Edge}{w:aw}{x0 x1:bm}{c0_0 c0_1 c0_2 c0_3 c0_4 c0_5 c0_6 c0_7 c0_8 c1_0 c1_1 c1_2 c1_3 c1_4 c1_5 c1_6 c1_7 c1_8:aj}(h0:(ev l x0).cells = #[c0_0,c0_1,c0_2,c0_3,c0_4,c0_5,c0_6,c0_7,c0_8])(h1:(ev l x1).cells = #[c1_0,c1_1,c1_2,c1_3,c1_4,c1_5,c1_6,c1_7,c1_8])(h:∀w' g,dU w w'→w.heap.size≤g→gG w' g [c0_0,c0_1,c0_2,c0_3,c0_4,c0_5,c0_6,c0_7,c0_8,c1_0,c1_1,c1_2,c1_3,c1_4,c1_5,c1_6,c1_7,c1_8] 58→bh prog ops Q rest (Fr (l.set d (.slice (some ⟨g,0,none⟩) 2 2)) ds) w'):bh prog ops Q (bx (some d) (.buildSlice 48 2 #[(0,x0),(1,x1)]) ty pos after none::rest) (Fr l ds) w :=
 oY (vs:=#[(0,ev l x0),(1,ev l x1)]) (base:=#[.int .i64 0,.int .i64 0,.int .i64 0,.int .i64 0,.int .i64 0,.int .i64 0,.int .i64 0,.int .i64 0,.int .i64 0,.int .i64 0,.int .i64 0,.int .i64 0,.int .i64 0,.int .i64 0,.int .i64 0,.int .i64 0,.int .i64 0,.int .i64 0]) (c:=9) (z:=(.agg #[.int .i64 0,.int .i64 0,.int .i64 0,.int .i64 0,.int .i64 0,.int .i64 0,.int .i64 0,.int .i64 0,.int .i64 0])) iW (by kernel_rfl) (by decide) (by decide) (by kernel_rfl) (by simp) (by simp[Instr.fill,h0,h1]) h
theorem Pm{ds:List dp}{l:List aj}{ty:be}{ops:Array Oper}{Q:Exit→Act→aw→Prop}{rest:List Oper}{d:Nat}{pos:String}{after:Array Edge}{w:aw}{x0:bm}{c0_0 c0_1 c0_2 c0_3:aj}(h0:(ev l x0).cells = #[c0_0,c0_1,c0_2,c0_3])(h:∀w' g,dU w w'→w.heap.size≤g→gG w' g [c0_0,c0_1,c0_2,c0_3] 37→bh prog ops Q rest (Fr (l.set d (.slice (some ⟨g,0,none⟩) 1 1)) ds) w'):bh prog ops Q (bx (some d) (.buildSlice 129 1 #[(0,x0)]) ty pos after none::rest) (Fr l ds) w :=
 oY (vs:=#[(0,ev l x0)]) (base:=#[.bool false,.string ⟨#[]⟩,.bool false,.string ⟨#[]⟩]) (c:=4) (z:=(.agg #[.bool false,.string ⟨#[]⟩,.bool false,.string ⟨#[]⟩])) underlying129 (by kernel_rfl) (by decide) (by decide) (by kernel_rfl) (by simp) (by simp[Instr.fill,h0]) h
theorem Pn{ds:List dp}{l:List aj}{ty:be}{ops:Array Oper}{Q:Exit→Act→aw→Prop}{rest:List Oper}{d:Nat}{pos:String}{after:Array Edge}{w:aw}{x0 x1:bm}{c0_0 c0_1 c0_2 c0_3 c1_0 c1_1 c1_2 c1_3:aj}(h0:(ev l x0).cells = #[c0_0,c0_1,c0_2,c0_3])(h1:(ev l x1).cells = #[c1_0,c1_1,c1_2,c1_3])(h:∀w' g,dU w w'→w.heap.size≤g→gG w' g [c0_0,c0_1,c0_2,c0_3,c1_0,c1_1,c1_2,c1_3] 37→bh prog ops Q rest (Fr (l.set d (.slice (some ⟨g,0,none⟩) 2 2)) ds) w'):bh prog ops Q (bx (some d) (.buildSlice 129 2 #[(0,x0),(1,x1)]) ty pos after none::rest) (Fr l ds) w :=
 oY (vs:=#[(0,ev l x0),(1,ev l x1)]) (base:=#[.bool false,.string ⟨#[]⟩,.bool false,.string ⟨#[]⟩,.bool false,.string ⟨#[]⟩,.bool false,.string ⟨#[]⟩]) (c:=4) (z:=(.agg #[.bool false,.string ⟨#[]⟩,.bool false,.string ⟨#[]⟩])) underlying129 (by kernel_rfl) (by decide) (by decide) (by kernel_rfl) (by simp) (by simp[Instr.fill,h0,h1]) h
theorem xC{ds:List dp}{l:List aj}{ty:be}{ops:Array Oper}{Q:Exit→Act→aw→Prop}{rest:List Oper}{d:Nat}{pos:String}{after:Array Edge}{w:aw}{x0:bm}{c0_0 c0_1:aj}(h0:(ev l x0).cells = #[c0_0,c0_1])(h:∀w' g,dU w w'→w.heap.size≤g→gG w' g [c0_0,c0_1] 35→bh prog ops Q rest (Fr (l.set d (.slice (some ⟨g,0,none⟩) 1 1)) ds) w'):bh prog ops Q (bx (some d) (.buildSlice 155 1 #[(0,x0)]) ty pos after none::rest) (Fr l ds) w :=
 oY (vs:=#[(0,ev l x0)]) (base:=#[.bool false,.string ⟨#[]⟩]) (c:=2) (z:=(.agg #[.bool false,.string ⟨#[]⟩])) uB (by kernel_rfl) (by decide) (by decide) (by kernel_rfl) (by simp) (by simp[Instr.fill,h0]) h
theorem Po{ds:List dp}{l:List aj}{ty:be}{ops:Array Oper}{Q:Exit→Act→aw→Prop}{rest:List Oper}{d:Nat}{pos:String}{after:Array Edge}{w:aw}{x0 x1 x2 x3:bm}{c0_0 c0_1 c1_0 c1_1 c2_0 c2_1 c3_0 c3_1:aj}(h0:(ev l x0).cells = #[c0_0,c0_1])(h1:(ev l x1).cells = #[c1_0,c1_1])(h2:(ev l x2).cells = #[c2_0,c2_1])(h3:(ev l x3).cells = #[c3_0,c3_1])(h:∀w' g,dU w w'→w.heap.size≤g→gG w' g [c0_0,c0_1,c1_0,c1_1,c2_0,c2_1,c3_0,c3_1] 35→bh prog ops Q rest (Fr (l.set d (.slice (some ⟨g,0,none⟩) 4 4)) ds) w'):bh prog ops Q (bx (some d) (.buildSlice 155 4 #[(0,x0),(1,x1),(2,x2),(3,x3)]) ty pos after none::rest) (Fr l ds) w :=
 oY (vs:=#[(0,ev l x0),(1,ev l x1),(2,ev l x2),(3,ev l x3)]) (base:=#[.bool false,.string ⟨#[]⟩,.bool false,.string ⟨#[]⟩,.bool false,.string ⟨#[]⟩,.bool false,.string ⟨#[]⟩]) (c:=2) (z:=(.agg #[.bool false,.string ⟨#[]⟩])) uB (by kernel_rfl) (by decide) (by decide) (by kernel_rfl) (by simp) (by simp[Instr.fill,h0,h1,h2,h3]) h
end Go.Proofs.YtimjandkmfcmiaaGreatDoor
namespace Go.Lith
open Go.RowKit
structure P3 where
 x:Int
 y:Int
 z:Int
structure T3 where
 a:P3
 b:P3
 c:P3
namespace P3
def sub(p q:P3):P3:=⟨p.x-q.x,p.y-q.y,p.z-q.z⟩
def dot(p q:P3):Int:=p.x*q.x+p.y*q.y+p.z*q.z
def cross(u v:P3):P3:=⟨u.y*v.z-u.z*v.y,u.z*v.x-u.x*v.z,u.x*v.y-u.y*v.x⟩
end P3
def T3.normal(t:T3):P3:=(t.b.sub t.a).cross (t.c.sub t.a)
def pt(p:P3):Go.Value:=.agg #[.int .i64 p.x,.int .i64 p.y,.int .i64 p.z]
def tr(t:T3):Go.Value:=.agg #[.int .i64 t.a.x,.int .i64 t.a.y,.int .i64 t.a.z,.int .i64 t.b.x,.int .i64 t.b.y,.int .i64 t.b.z,.int .i64 t.c.x,.int .i64 t.c.y,.int .i64 t.c.z]
def wv(v:P3):Go.Value:=.agg #[.bool (cY v.x),.string (dQ v.x),.bool (cY v.y),.string (dQ v.y),.bool (cY v.z),.string (dQ v.z)]
theorem Bw.up{k m:Nat}{n:Int}[x:Bw k n](h:k≤m:=by decide):Bd m n:=x.h.mono h
theorem Ho:dQ 0=⟨#[]⟩:=by
 have:tV 0=[]:=by
  unfold tV;rw[(nB (B:=256) (by omega)).2 rfl];rfl
 simp only[dQ,Int.natAbs_zero,this]
theorem adu:W 0=.agg #[.bool false,.string ⟨#[]⟩]:=by simp only[W,Ho];rfl
class Iw(n:Int):Prop where
 h:kO n
class I3(p:P3):Prop where
 x:kO p.x
 y:kO p.y
 z:kO p.z
class IT(t:T3):Prop where
 a:I3 t.a
 b:I3 t.b
 c:I3 t.c
instance {p:P3}[h:I3 p]:Iw p.x:=⟨h.x⟩
instance {p:P3}[h:I3 p]:Iw p.y:=⟨h.y⟩
instance {p:P3}[h:I3 p]:Iw p.z:=⟨h.z⟩
instance {t:T3}[h:IT t]:I3 t.a:=h.a
instance {t:T3}[h:IT t]:I3 t.b:=h.b
instance {t:T3}[h:IT t]:I3 t.c:=h.c
instance {n:Int}[h:Iw n]:Bw 64 n:=⟨h.h.bd⟩
class Bv(k:outParam Nat)(v:P3):Prop where
 x:Bd k v.x
 y:Bd k v.y
 z:Bd k v.z
instance {k:Nat}{v:P3}[h:Bv k v]:Bw k v.x:=⟨h.x⟩
instance {k:Nat}{v:P3}[h:Bv k v]:Bw k v.y:=⟨h.y⟩
instance {k:Nat}{v:P3}[h:Bv k v]:Bw k v.z:=⟨h.z⟩
theorem Bv.mono{k m:Nat}{v:P3}(h:Bv k v)(hk:k≤m):Bv m v:=⟨h.x.mono hk,h.y.mono hk,h.z.mono hk⟩
theorem Bv.of{k m:Nat}{v:P3}[h:Bv k v](hk:k≤m:=by decide):Bv m v:=h.mono hk
instance {p q:P3}[a:I3 p][b:I3 q]:Bv 65 (p.sub q):=⟨a.x.bd.sub b.x.bd,a.y.bd.sub b.y.bd,a.z.bd.sub b.z.bd⟩
theorem Jz{k l:Nat}{a b c d:Int}(ha:Bd k a)(hb:Bd l b)(hc:Bd k c)(hd:Bd l d):Bd (k+l+1) (a*b-c*d):=by
 have:=(ha.mul hb).sub (hc.mul hd);exact this.mono (by omega)
theorem Xp{k l:Nat}{a b c d:Int}(ha:Bd k a)(hb:Bd l b)(hc:Bd k c)(hd:Bd l d):Bd (k+l+1) (a*b+c*d):=by
 have:=(ha.mul hb).add (hc.mul hd);exact this.mono (by omega)
instance {k l:Nat}{u v:P3}[a:Bv k u][b:Bv l v]:Bv (k+l+1) (u.cross v):=⟨Jz a.y b.z a.z b.y,Jz a.z b.x a.x b.z,Jz a.x b.y a.y b.x⟩
instance {k l:Nat}{u v:P3}[a:Bv k u][b:Bv l v]:Bw (k+l+2) (u.dot v):=⟨((Xp a.x b.x a.y b.y).add (a.z.mul b.z)).mono (by omega)⟩
instance {t:T3}[h:IT t]:Bv 131 t.normal:=inferInstanceAs (Bv 131 ((t.b.sub t.a).cross (t.c.sub t.a)))
theorem P3.dot0{u v:P3}:0+u.x*v.x+u.y*v.y+u.z*v.z=u.dot v:=by simp only[P3.dot,Int.zero_add]
section
variable {P:cj} {Q:Exit→Act→aw→Prop} {a:Act} {w:aw} {c:Code} {n:Nat}
theorem dT(h:c.wp P (af (Code.rounds P c Q n) Q) a w):Code.rounds P c Q (n+1) a w:=h
theorem bD(h:c.wp P (af (Code.rounds P c Q n) Q) a w):af (Code.rounds P c Q (n+1)) Q .normal a w:=h
end
end Go.Lith
namespace Go.Lith
open Go.RowKit
section
variable {P:cj} {ops:Array Oper} {md:Region.Mode} {w0:aw}
def YE(P:cj)(ops:Array Oper)(w0:aw)(o:Oper)(v:aj)(a:Act):Prop :=
 (Region.wanted o (yielded ops a.tmps)=true∧∀w,dU w0 w→o.quietAt P a (dU w) w v)∨(Region.wanted o (yielded ops a.tmps)=false∧v=undef)
theorem YE.of_same{o:Oper}{v:aj}{a a':Act}(hy:YE P ops w0 o v a)(he:cm a'.eval o=cm a.eval o)
 (hw:Region.wanted o (yielded ops a'.tmps)=Region.wanted o (yielded ops a.tmps)):YE P ops w0 o v a':=by
 unfold YE ji at *
 rw[he,hw];exact hy
def qE(P:cj)(ops:Array Oper)(w0:aw)(i:Nat)(K:Act→Prop)(a:Act):Prop:=∃o v,ops[i]? = some o∧YE P ops w0 o v a∧K (a.put o.dst v)
theorem aaN{i:Nat}{a:Act}{K K':Act→Prop}(h:∀a,K a→K' a)(hh:qE P ops w0 i K a):qE P ops w0 i K' a :=
 let ⟨o,v,h1,h2,h3⟩:=hh;⟨o,v,h1,h2,h _ h3⟩
theorem adv{j:Nat}{oi oj:Oper}{v:aj}(hj:ops[j]? = some oj)(hap:oi.apart ops oj=true)(hsi:∀cs b,oi.op≠.select cs b)(hsj:∀cs b,oj.op≠.select cs b){K:Act→Prop}{a:Act}
 (hy:YE P ops w0 oi v a) (h:qE P ops w0 j K (a.put oi.dst v)):qE P ops w0 j (fun a'=>YE P ops w0 oi v a'∧K (a'.put oi.dst v)) a:=by
 obtain⟨h1,h2,h3⟩:=Oper.apart_spec hap;obtain⟨o,u,ho,hu,hk⟩:=h;rw[hj] at ho;cases ho;refine⟨oj,u,hj,hu.of_same (execOp_put oj hsj a oi.dst v h1).symm (wanted_put oj a oi.dst v h1).symm,hy.of_same (execOp_put oi hsi a oj.dst u h3) (wanted_put oi a oj.dst u h3),?_⟩;rw[←Act.put_comm a v u h2];exact hk
def Ee(P:cj)(md:Region.Mode)(ops:Array Oper)(w0:aw)(n:Nat)(L:Array Bool→Act→Prop):Nat→Array Bool→Act→Prop
 | 0,listed,a=>L listed a
 | f+1,listed,a=>Region.ready md ops listed≠[]∧∀i∈Region.ready md ops listed,i<n∧qE P ops w0 i (Ee P md ops w0 n L f (listed.setIfInBounds i true)) a
theorem Ka{n i:Nat}{oi:Oper}{v:aj}{L:Array Bool→Act→Prop}(hi:ops[i]? = some oi)(hsel:∀(j:Nat) (o:Oper) cs b,ops[j]? = some o→o.op≠.select cs b)
 (hs:Region.sinkB md ops n=true) (hc:Region.chainB md ops n=true) (hn:n<ops.size) (hin:i<n)
 (hdone:∀listed a,L listed a→∀j∈Region.ready md ops listed,n≤j) :
 ∀(f:Nat) (listed:Array Bool) (a:Act),HeadInv md ops n listed →
  (∀j oj,ops[j]? = some oj→j≠i→listed.getD j true=false→(∀e∈oj.after,Region.binds md e=true→e.on≠i)→oi.apart ops oj=true) →
  i∈Region.ready md ops listed→YE P ops w0 oi v a →
  Ee P md ops w0 n L f (listed.setIfInBounds i true) (a.put oi.dst v)→Ee P md ops w0 n L (f+1) listed a:=by
 intro f
 induction f with
 | zero =>
  intro listed a inv _ hr hy H;have hun:=(mem_ready.1 hr).1;refine⟨fun h=>(by rw[h] at hr;cases hr),fun j hj=>?_⟩;have hjn:j<n:=by
   rcases cn j n with h | h
   · exact h
   · exact absurd hj (tail_waits hs hc hn inv _ i rfl hin hun j h)
  refine⟨hjn,?_⟩;by_cases hji:j=i
  · subst hji;exact⟨oi,v,hi,hy,H⟩
  · have:=hdone _ _ H j (ready_mono hj hji)
    omega
 | succ f ih =>
  intro listed a inv hfree hr hy H;have hun:=(mem_ready.1 hr).1;refine⟨fun h=>(by rw[h] at hr;cases hr),fun j hj=>?_⟩;have hjn:j<n:=by
   rcases cn j n with h | h
   · exact h
   · exact absurd hj (tail_waits hs hc hn inv _ i rfl hin hun j h)
  refine⟨hjn,?_⟩;by_cases hji:j=i
  · subst hji;exact⟨oi,v,hi,hy,H⟩
  · have h1:=(H.2 j (ready_mono hj hji)).2
    obtain⟨hjun,oj,hoj,hall⟩:=mem_ready.1 hj;have hnot:∀e∈oj.after,Region.binds md e=true→e.on≠i:=fun e he hb heq=>by
     have h1:=hall e he hb;rw[heq,getD_both hun] at h1;cases h1
    have h2:=adv hoj (hfree j oj hoj hji hjun hnot) (fun cs b=>hsel i oi cs b hi) (fun cs b=>hsel j oj cs b hoj) hy h1;have hfree':∀k ok,ops[k]? = some ok→k≠i→(listed.setIfInBounds j true).getD k true=false →
     (∀e∈ok.after,Region.binds md e=true→e.on≠i)→oi.apart ops ok=true:=fun k ok hk hki hun hno=>by
     refine hfree k ok hk hki ?_ hno;by_cases hjk:j=k
     · subst hjk;exact hjun
     · rw[getD_set_ne true hjk] at hun;exact hun
    refine aaN (fun a' h3=>ih (listed.setIfInBounds j true) a' (inv.set hj hjn) hfree' (ready_mono hr (Ne.symm hji)) h3.1 ?_) h2;rw[Array.setIfInBounds_comm _ _ hji];exact h3.2
def vA(P:cj)(ops:Array Oper)(w0:aw)(L:Act→Prop):List Oper→Act→Prop
 | [],a=>L a
 | o::r,a=>∃v,YE P ops w0 o v a∧vA P ops w0 L r (a.put o.dst v)
def Xq(md:Region.Mode)(ops:Array Oper)(g n:Nat):List Nat→Array Bool→Bool
 | [],listed=>Region.seqB md ops g n listed
 | i::r,listed=>(ops[i]?).isSome&&decide (i<n)&&(Region.ready md ops listed).contains i&&Region.free md ops listed i&&Xq md ops g n r (listed.setIfInBounds i true)
theorem Ef{n g:Nat}{L:Act→Prop}(hsel:Region.noSelect ops=true)(hs:Region.sinkB md ops n=true)(hc:Region.chainB md ops n=true)(hn:n<ops.size) :
 ∀(l:List Nat) (listed:Array Bool) (a:Act),HeadInv md ops n listed→Xq md ops g n l listed=true→vA P ops w0 L (l.map fun i=>(ops[i]?).getD default) a →
 Ee P md ops w0 n (fun listed' a'=>Region.seqB md ops g n listed'=true∧L a') l.length listed a
 | [],listed,a,_,hB,h=>⟨by simpa[Xq] using hB,h⟩
 | i::l,listed,a,inv,hB,h=>by
  simp only[Xq,bu,decide_eq_true_eq] at hB;obtain⟨⟨⟨⟨h1,h2⟩,h3⟩,h4⟩,h5⟩:=hB;obtain⟨o,ho⟩:=Option.isSome_iff_exists.1 h1;simp only[dh,vA,ho,dt] at h;obtain⟨v,hy,hr⟩:=h;have hi':i∈Region.ready md ops listed:=by simpa using h3
  exact Ka ho (Region.noSelect_spec hsel) hs hc hn h2 (fun listed' a' hL=>seqB_ready hL.1) l.length listed a inv (Region.free_spec ho h4) hi' hy (Ef hsel hs hc hn l _ _ (inv.set hi' h2) h5 hr)
structure Al where
 i:Nat
 d:Nat
 T:be
 cs:List aj
def nU(P:cj)(md:Region.Mode)(ops:Array Oper)(x:Al):Prop :=
 ∃ty pos after,ops[x.i]? = some (bx (some x.d) (.alloc x.T) ty pos after none)∧(after.all fun e=>!Region.binds md e)=true∧∃z,mB P x.T z∧z.cells=x.cs.toArray
def fW(E:Nat→Option aj):List Al→Act→Act
 | [],a=>a
 | x::r,a=>match E x.i with
  | some v=>fW E r (a.put (some x.d) v)
  | none=>fW E r a
def uC(ops:Array Oper)(o:Oper)(al:List Al):Bool:=al.all fun x=>!(o.looksAt ops).contains x.d&&o.dst != some x.d
theorem vB{E:Nat→Option aj}{o:Oper}(hs:∀cs b,o.op≠.select cs b):∀{al:List Al},uC ops o al=true→∀a,cm (fW E al a).eval o=cm a.eval o∧Region.wanted o (yielded ops (fW E al a).tmps)=Region.wanted o (yielded ops a.tmps)
 | [],_,a=>⟨rfl,rfl⟩
 | x::r,hc,a=>by
  simp only[uC,List.all_cons,bu,jr] at hc;have hr:uC ops o r=true:=by simp only[uC,bu,jr] ;simpa using hc.2
  have hd:x.d∉o.looksAt ops:=by simpa using hc.1.1
  unfold fW;split
  · obtain⟨h1,h2⟩:=vB (E:=E) hs hr (a.put (some x.d) _)
    rename_i v _;exact⟨h1.trans (execOp_put o hs a (some x.d) v (fun d e=>by cases e;exact hd)),h2.trans (wanted_put o a (some x.d) v (fun d e=>by cases e;exact hd))⟩
  · exact vB hs hr a
theorem xD{E:Nat→Option aj}{o:Oper}{v:aj}:∀{al:List Al},uC ops o al=true→∀a,(fW E al a).put o.dst v=fW E al (a.put o.dst v)
 | [],_,a=>rfl
 | x::r,hc,a=>by
  simp only[uC,List.all_cons,bu,jr,bne_iff_ne,ne_eq] at hc;have hr:uC ops o r=true:=by simp only[uC,bu,jr] ;simpa using hc.2
  unfold fW;split
  · rename_i u _
    rw[xD hr,Act.put_comm a u v (fun d e=>by cases e;exact hc.1.2)]
  · exact xD hr a
theorem Eg{E:Nat→Option aj}{x:Al}{v:aj}:∀{al:List Al},(al.map (·.i)).Nodup→(al.map (·.d)).Nodup→x∈al→E x.i=none→∀a,(fW E al a).put (some x.d) v=fW (fun j=>if j=x.i then some v else E j) al a
 | [],_,_,hx,_,_=>by cases hx
 | y::r,hi,hd,hx,he,a=>by
  simp only[dh,lh] at hi hd;have same:∀(l:List Al),x.i∉l.map (·.i)→∀a,fW (fun j=>if j=x.i then some v else E j) l a=fW E l a:=by
   intro l
   induction l with
   | nil=>intro _ a;rfl
   | cons z l ih =>
    intro hn a;simp only[dh,bn,not_or] at hn;unfold fW;simp only[Ne.symm hn.1,if_false];split <;> exact ih hn.2 _
  have push:∀(l:List Al),x.d∉l.map (·.d)→∀a,(fW E l a).put (some x.d) v=fW E l (a.put (some x.d) v):=by
   intro l
   induction l with
   | nil=>intro _ a;rfl
   | cons z l ih =>
    intro hn a;simp only[dh,bn,not_or] at hn;unfold fW;split
    · rename_i u _
      rw[ih hn.2,Act.put_comm a u v (fun d e=>by cases e;simp;exact hn.1)]
    · exact ih hn.2 _
  rcases bn.1 hx with rfl | hx
  · unfold fW
    simp only[he,if_true];rw[push r hd.1,same r hi.1]
  · have hne:y.i≠x.i:=fun e=>hi.1 (by rw[e];exact il hx)
    unfold fW;simp only[hne,if_false];split <;> exact Eg hi.2 hd.2 hx he _
def Og(E:Nat→Option aj)(al:List Al):Nat:=(al.filter fun x=>(E x.i).isNone).length
theorem Rq{E:Nat→Option aj}{x:Al}{v:aj}:∀{al:List Al},(al.map (·.i)).Nodup→x∈al→E x.i=none→Og E al=Og (fun j=>if j=x.i then some v else E j) al+1
 | [],_,hx,_=>by cases hx
 | y::r,hi,hx,he=>by
  simp only[dh,lh] at hi;have same:∀(l:List Al),x.i∉l.map (·.i)→Og (fun j=>if j=x.i then some v else E j) l=Og E l:=by
   intro l
   induction l with
   | nil=>intro _;rfl
   | cons z l ih =>
    intro hn;simp only[dh,bn,not_or] at hn;have:=ih hn.2;unfold Og at *
    rw[je,je];simp only[Ne.symm hn.1,if_false];split <;> simp[this]
  rcases bn.1 hx with rfl | hx
  · have:=same r hi.1
    unfold Og at *
    rw[je,je];simp[he,this]
  · have hne:y.i≠x.i:=fun e=>hi.1 (by rw[e];exact il hx)
    have:=Rq (v:=v) hi.2 hx he;unfold Og at *
    rw[je,je];simp only[hne,if_false];split <;> simp[this]
theorem Mn{E:Nat→Option aj}{al:List Al}(h:Og E al=0):∀x∈al,∃v,E x.i=some v:=fun x hx=>by
 unfold Og at h;have:=List.filter_eq_nil_iff.1 (bz h) x hx;cases he:E x.i with
 | none=>simp[he] at this
 | some v=>exact⟨v,rfl⟩
theorem aaO{E:Nat→Option aj}{al:List Al}(h:0<Og E al):∃x∈al,E x.i=none:=by
 unfold Og at h;obtain⟨x,hx⟩:=List.length_pos_iff_exists_mem.1 h;obtain⟨h1,h2⟩:=List.mem_filter.1 hx;exact⟨x,h1,by simpa using h2⟩
def xE(base:Nat)(E:Nat→Option aj)(al:List Al)(w:aw):Prop :=
 (∀x∈al,∀v,E x.i=some v→∃g,v=.pointer (some ⟨g,0,none⟩)∧base≤g∧gG w g x.cs x.T) ∧
 (∀x∈al,∀y∈al,x.i≠y.i→∀g g',E x.i=some (.pointer (some ⟨g,0,none⟩))→E y.i=some (.pointer (some ⟨g',0,none⟩))→g≠g')
theorem xE.ext{base:Nat}{E:Nat→Option aj}{al:List Al}{w w':aw}(h:xE base E al w)(hE:dU w w'):xE base E al w' :=
 ⟨fun x hx v hv=>let ⟨g,e,hb,hB⟩:=h.1 x hx v hv;⟨g,e,hb,hB.ext hE⟩,h.2⟩
theorem xE.new{base:Nat}{E:Nat→Option aj}{al:List Al}{w:aw}(h:xE base E al w){x:Al}(hx:x∈al)(hi:(al.map (·.i)).Nodup)(he:E x.i=none)(hb:base≤w.heap.size) :
 xE base (fun j=>if j=x.i then some (.pointer (some ⟨w.heap.size,0,none⟩)) else E j) al (w.alloc (.cells x.cs.toArray x.T)):=by
 have huniq:∀y∈al,y.i=x.i→y=x:=by
  intro y hy e;clear h
  induction al with
  | nil=>cases hx
  | cons z r ih =>
   simp only[dh,lh] at hi;rcases bn.1 hx with rfl | hx'
   · rcases bn.1 hy with rfl | hy'
     · rfl
     · exact absurd (by rw[←e];exact il hy') hi.1
   · rcases bn.1 hy with rfl | hy'
     · exact absurd (by rw[e];exact il hx') hi.1
     · exact ih hx' hi.2 hy'
 refine⟨fun y hy v hv=>?_,fun y hy z hz hne g g' h1 h2=>?_⟩
 · by_cases e:y.i=x.i
   · obtain rfl:=huniq y hy e
     simp only[if_true] at hv;cases hv;exact⟨_,rfl,hb,jZ w _ _⟩
   · simp only[e,if_false] at hv
     obtain⟨g,e1,e2,e3⟩:=h.1 y hy v hv;exact⟨g,e1,e2,e3.ext ((dU.refl w).alloc _)⟩
 · by_cases e:y.i=x.i
   · have e':z.i≠x.i:=fun e2=>hne (e.trans e2.symm)
     simp only[e,if_true] at h1;simp only[e',if_false] at h2;cases h1;obtain⟨g2,e1,_,e3⟩:=h.1 z hz _ h2;cases e1;exact Nat.ne_of_gt e3.lt
   · by_cases e':z.i=x.i
     · simp only[e,if_false] at h1
       simp only[e',if_true] at h2;cases h2;obtain⟨g2,e1,_,e3⟩:=h.1 y hy _ h1;cases e1;exact Nat.ne_of_lt e3.lt
     · simp only[e,if_false] at h1
       simp only[e',if_false] at h2;exact h.2 y hy z hz hne g g' h1 h2
def Kb(md:Region.Mode)(ops:Array Oper)(n:Nat)(al:List Al):Bool :=
 decide ((al.map (·.i)).Nodup)&&decide ((al.map (·.d)).Nodup)&&(al.all fun x=>decide (x.i<n)) &&
 ((List.range n).all fun j=>(al.any fun x=>x.i == j)||match ops[j]? with
  | some o=>uC ops o al&&o.after.all fun e=>!Region.binds md e || !(al.any fun x=>x.i == e.on)
  | none=>true)
theorem sim{n g:Nat}{al:List Al}{L:Act→Prop}{Q':Exit→Act→aw→Prop}{tl:List Oper}(hsel:Region.noSelect ops=true)(hs:Region.sinkB md ops n=true)(hc:Region.chainB md ops n=true)(hn:n<ops.size)
 (hal:∀x∈al,nU P md ops x) (hB:Kb md ops n al=true) (htl:∀j,tl[j]? = ops[n+j]?) (hgl:tl.length=g)
 (hL:∀a E w,dU w0 w→xE w0.heap.size E al w→(∀x∈al,∃v,E x.i=some v)→L a→bh P ops Q' tl (fW E al a) w) :
 ∀(k f:Nat) (E:Nat→Option aj) (lr lm:Array Bool) (a:Act) (w:aw),k=f+Og E al→HeadInv md ops n lr→lm.size=lr.size→(∀j,lm.getD j false=(lr.getD j false||al.any fun x=>x.i == j)) →
  (∀x∈al,(E x.i=none↔lr.getD x.i false=false))→dU w0 w→xE w0.heap.size E al w →
  Ee P md ops w0 n (fun listed' a'=>Region.seqB md ops g n listed'=true∧L a') f lm a→wpAny P md ops Q' (k+g) lr (fW E al a) w:=by
 simp only[Kb,bu,decide_eq_true_eq,g_,fw] at hB;obtain⟨⟨⟨hni,hnd⟩,hlt⟩,hcl⟩:=hB;intro k
 induction k with
 | zero =>
  intro f E lr lm a w hk inv hsz hlm hE hx hla H;obtain rfl:f=0:=by omega
  have h0:Og E al=0:=by omega
  have hall:=Mn h0;have heq:lm=lr:=by
   apply Array.ext hsz;intro j h1 h2;have h3:=hlm j;simp only[dm,de h1,de h2,dt] at h3;rw[h3];cases hlr:lr[j] with
   | true=>rfl
   | false =>
    rw[kj];cases hany:al.any fun x=>x.i == j with
    | false=>rfl
    | true =>
     obtain⟨x,hx1,hx2⟩:=f_.1 hany;have hx3:x.i=j:=by simpa using hx2
     obtain⟨v,hv⟩:=hall x hx1;have:lr.getD x.i false=false:=by
      rw[hx3,dm,de h2];simpa using hlr
     rw[(hE x hx1).2 this] at hv;cases hv
  subst heq;obtain⟨H1,H2⟩:=H;rw[ah,←hgl];exact wpAny_of_seq (md:=md) tl n lm _ w htl (by rw[hgl];exact H1) (hL a E w hx hla hall H2)
 | succ k ih =>
  intro f E lr lm a w hk inv hsz hlm hE hx hla H;have getT:∀j,j<ops.size→lr.getD j false=false→lr.getD j true=false:=fun j hj h=>getD_in (by rw[inv.size];exact hj) h
  -- some head operation is not listed
  have hsome:∃j,j∈Region.ready md ops lr∧j<n:=by
   rcases eg (Og E al) with h0 | h0
   · obtain⟨f,rfl⟩:∃q,f=q+1:=⟨f-1,by omega⟩
     obtain⟨hne,hr⟩:=H;obtain⟨j,hj⟩:=List.exists_mem_of_ne_nil _ hne;have hjn:=(hr j hj).1;refine⟨j,?_,hjn⟩;have hall:=Mn h0;obtain⟨hju,oj,hoj,hpre⟩:=mem_ready.1 hj;refine mem_ready.2 ⟨?_,oj,hoj,fun e he hb=>?_⟩
     · have h1:=hlm j
       rw[getD_both hju] at h1;have h2:lr.getD j false=false:=by
        cases h:lr.getD j false with
        | false=>rfl
        | true=>rw[h] at h1;simp at h1
       exact getT j (by omega) h2
     · have h1:=hlm e.on
       rw[hpre e he hb] at h1;cases h:lr.getD e.on false with
       | true=>rfl
       | false =>
        rw[h,kj] at h1;obtain⟨x,hx1,hx2⟩:=f_.1 h1.symm;have hx3:x.i=e.on:=by simpa using hx2
        obtain⟨v,hv⟩:=hall x hx1;rw[(hE x hx1).2 (by rw[hx3];exact h)] at hv;cases hv
   · obtain⟨x,hx1,hx2⟩:=aaO h0
     obtain⟨ty,pos,after,hop,haf,_⟩:=hal x hx1;have hxn:x.i<n:=by simpa using hlt x hx1
     refine⟨x.i,mem_ready.2 ⟨getT _ (by omega) ((hE x hx1).1 hx2),_,hop,fun e he hb=>?_⟩,hxn⟩;have:=ix.1 haf e he;simp[hb] at this
  obtain⟨j0,hj0,hj0n⟩:=hsome;have hj0u:=(mem_ready.1 hj0).1;rw[show k+1+g=(k+g)+1 by omega];refine⟨fun h=>(by rw[h] at hj0;cases hj0),fun i hi=>?_⟩;have hin:i<n:=by
   rcases cn i n with h | h
   · exact h
   · exact absurd hi (tail_waits hs hc hn inv _ j0 rfl hj0n hj0u i h)
  obtain⟨hiu,oi,hoi,hpre⟩:=mem_ready.1 hi;by_cases hia:al.any (fun x=>x.i == i)=true
  · -- an allocation
    obtain⟨x,hx1,hx2⟩:=f_.1 hia;obtain rfl:x.i=i:=by simpa using hx2
    obtain⟨ty,pos,after,hop,haf,z,hz,hzc⟩:=hal x hx1;have hex:E x.i=none:=(hE x hx1).2 (getD_both hiu);obtain⟨inf,hinf,hinz⟩:=hz;unfold wpOp;simp only[hop];rw[if_pos (by simp[Region.wanted])];refine .inl ?_;have hrun:∀ρ:bm→aj,(cm ρ (bx (some x.d) (.alloc x.T) ty pos after none)).run P w=.ok (.value (.pointer (some ⟨w.heap.size,0,none⟩))) (w.alloc (.cells x.cs.toArray x.T)):=fun ρ=>by
     simp[cm,Instr.alloc,zeroValue,typeInfo,hinf,hinz,newVar,newRow,hzc,newObj,Sem.run]
    unfold Oper.wp;rw[hrun];show wpAny P md ops Q' (k+g) (lr.setIfInBounds x.i true) ((fW E al a).put (some x.d) (.pointer (some ⟨w.heap.size,0,none⟩))) _
    rw[Eg hni hnd hx1 hex];have hc1:=Rq (v:=.pointer (some ⟨w.heap.size,0,none⟩)) hni hx1 hex;have hxs:x.i<lr.size:=by rw[inv.size];omega
    refine ih f _ _ lm a _ (by omega) (inv.set hi hin) (by simp[hsz]) (fun j=>?_) (fun y hy=>?_) (hx.alloc _) (hla.new hx1 hni hex hx.size) H
    · rw[hlm j]
      by_cases e:x.i=j
      · subst e
        rw[hia];simp
      · rw[getD_set_ne false e]
    · by_cases e:x.i=y.i
      · rw[←e]
        simp[hxs]
      · rw[getD_set_ne false e]
        simp only[Ne.symm e,if_false];exact hE y hy
  · -- an operation that computes
    have hia':al.any (fun x=>x.i == i)=false:=by simpa using hia
    have hci:=hcl i hin;rw[hia',kj,hoi] at hci;simp only[bu] at hci;have hready:i∈Region.ready md ops lm:=by
     refine mem_ready.2 ⟨?_,oi,hoi,fun e he hb=>by rw[hlm,hpre e he hb];rfl⟩;have h1:=hlm i;rw[getD_both hiu,hia'] at h1;exact getD_in (by rw[hsz,inv.size];omega) (by simpa using h1)
    cases f with
    | zero =>
     obtain⟨H1,H2⟩:=H;have:=seqB_ready H1 i hready;omega
    | succ f =>
     obtain⟨_,o,v,ho,hy,hK⟩:=H.2 i hready;rw[hoi] at ho;cases ho;have hse:∀cs b,oi.op≠.select cs b:=fun cs b=>Region.noSelect_spec hsel i oi cs b hoi;obtain⟨e1,e2⟩:=vB (E:=E) hse hci.1 a;have hy':=hy.of_same e1 e2;have key:∀w',dU w w'→wpAny P md ops Q' (k+g) (lr.setIfInBounds i true) ((fW E al a).put oi.dst v) w':=fun w' hw'=>by
      rw[xD hci.1];refine ih f E _ _ _ w' (by omega) (inv.set hi hin) (by simp[hsz]) (fun j=>?_) (fun y hy=>?_) (hx.trans hw') (hla.ext hw') hK
      · by_cases e:i=j
        · subst e
          have h1:i<lr.size:=by rw[inv.size];omega
          simp[h1,hsz]
        · rw[getD_set_ne false e,getD_set_ne false e,hlm j]
      · have e:i≠y.i:=fun e=>by
         have:al.any (fun x=>x.i == i)=true:=f_.2 ⟨y,hy,by simp[e]⟩;rw[hia'] at this;cases this
        rw[getD_set_ne false e];exact hE y hy
     unfold wpOp;simp only[hoi];rcases hy' with ⟨hw,hv⟩ | ⟨hw,rfl⟩
     · rw[if_pos hw]
       refine .inl ?_;have h3:=hv w hx;unfold ji at h3;unfold Oper.wp;generalize (cm (fW E al a).eval oi).run P w=r at *
       cases r with
       | ok nx w' =>
        cases nx <;> simp only[Oper.quietUpon] at h3 <;> simp only[Oper.upon]
        case value u =>
         obtain⟨e1,e2⟩:=h3;rw[e1,e2];exact key w (dU.refl w)
        case skip =>
         obtain⟨e1,e2⟩:=h3;rw[e1,←e2];exact key w (dU.refl w)
        case enter f' args =>
         obtain⟨e1,hcl⟩:=h3;rw[e1];exact hcl.mono fun e w'' ⟨he,hw''⟩=>by subst he;exact key w'' hw''
       | halt x w'=>simp only[Oper.quietUpon] at h3
     · rw[if_neg (by rw[hw];simp)]
       exact key w (dU.refl w)
theorem eP{id:Nat}{Q:Exit→Act→aw→Prop}{a:Act}{w:aw}{l:List Oper}(n:Nat)(idx:List Nat)(al:List Al)(hm:P.follows .mixedOrders=true)
 (hB:(Region.noSelect l.toArray&&decide (n<l.length)&&Region.sinkB .any l.toArray n&&Region.chainB .any l.toArray n&&Kb .any l.toArray n al&&decide (n=idx.length+al.length) &&
  Xq .any l.toArray (l.length-n) n idx (al.foldl (fun s x=>s.setIfInBounds x.i true) (ff l.toArray.size false)))=true)
 (hal:∀x∈al,nU P .any l.toArray x) {ol:List Oper} (hol:(idx.map fun i=>(l.toArray[i]?).getD default)=ol)
 (h:∀w1,dU w w1→vA P l.toArray w1 (fun a'=>∀E w',dU w1 w'→xE w1.heap.size E al w'→(∀x∈al,∃v,E x.i=some v)→bh P l.toArray Q (l.drop n) (fW E al a') w') ol a):(Code.region id l.toArray true).wp P Q a w:=by
 simp only[bu,decide_eq_true_eq] at hB;obtain⟨⟨⟨⟨⟨⟨hsel,hn⟩,hs⟩,hc⟩,hf⟩,hlen⟩,hlex⟩:=hB;subst hol;have hn':n<l.toArray.size:=by simpa using hn
 have hf':=hf;simp only[Kb,bu,decide_eq_true_eq,g_,fw] at hf';obtain⟨⟨⟨hni,hnd⟩,hlt⟩,hcl⟩:=hf';generalize hlm:al.foldl (fun s x=>s.setIfInBounds x.i true) (ff l.toArray.size false)=lm at hlex;have hfold:∀(r:List Al) (s:Array Bool),(r.foldl (fun s x=>s.setIfInBounds x.i true) s).size=s.size∧∀j,j<s.size→(r.foldl (fun s x=>s.setIfInBounds x.i true) s).getD j false=(s.getD j false||r.any fun x=>x.i == j):=by
  intro r
  induction r with
  | nil=>intro s;exact⟨rfl,fun j _=>by simp⟩
  | cons x r ih =>
   intro s;obtain⟨h1,h2⟩:=ih (s.setIfInBounds x.i true);refine⟨by rw[ir,h1];simp,fun j hj=>?_⟩;rw[ir,h2 j (by simpa using hj),List.any_cons];by_cases e:x.i=j
   · subst e
     simp[hj]
   · have e2:(x.i == j)=false:=by simpa using e
     rw[getD_set_ne false e,e2,kj]
 obtain⟨hsz,hget⟩:=hfold al (ff l.toArray.size false);rw[hlm] at hsz hget;have hsz':lm.size=l.toArray.size:=by rw[hsz];simp
 have hlmj:∀j,lm.getD j false=al.any fun x=>x.i == j:=fun j=>by
  rcases cn j l.toArray.size with hj | hj
  · rw[hget j (by simpa using hj),getD_replicate_false,kj]
  · have h1:lm.getD j false=false:=by rw[dm,jm (by omega)];rfl
    rw[h1]
    symm
    rw[Bool.eq_false_iff];intro h2;obtain⟨x,hx1,hx2⟩:=f_.1 h2;have hx3:x.i=j:=by simpa using hx2
    have:x.i<n:=by simpa using hlt x hx1
    omega
 have inv0:HeadInv .any l.toArray n (ff l.toArray.size false) :=
  ⟨by simp,fun j oj _ hl=>(by rw[getD_replicate_false] at hl;cases hl),fun t _ ht=>getD_in (by simpa using ht) (getD_replicate_false _ _)⟩
 have invm:HeadInv .any l.toArray n lm:=by
  refine⟨hsz',fun j oj hoj hl e he hb=>?_,fun t ht ht'=>getD_in (by rw[hsz'];exact ht') ?_⟩
  · rw[hlmj] at hl
    obtain⟨x,hx1,hx2⟩:=f_.1 hl;have hx3:x.i=j:=by simpa using hx2
    obtain⟨ty,pos,after,hop,haf,_⟩:=hal x hx1;rw[hx3,hoj] at hop;cases hop;have:=ix.1 haf e he;simp[hb] at this
  · rw[hlmj,Bool.eq_false_iff]
    intro h2;obtain⟨x,hx1,hx2⟩:=f_.1 h2;have hx3:x.i=t:=by simpa using hx2
    have:x.i<n:=by simpa using hlt x hx1
    omega
 refine wp_region_any hm ?_;obtain⟨w1,hw1⟩:∃w1,w1=({ w with drawn:=w.drawn+1 }:aw):=⟨_,rfl⟩
 rw[←hw1];have hx1:dU w w1:=by rw[hw1];exact (dU.refl w).drawn
 have H:=Ef (md:=.any) (g:=l.length-n) hsel hs hc hn' idx lm a invm hlex (h w1 hx1);have hcnt:Og (fun _=>none) al=al.length:=by
  unfold Og;simp
 have key:=sim (md:=.any) (P:=P) (ops:=l.toArray) (w0:=w1) (Q':=Q) (tl:=l.drop n) (g:=l.length-n) (al:=al) hsel hs hc hn' hal hf (fun j=>by simp[cx]) (by simp) (fun a E w' hw' hla hall hL=>hL E w' hw' hla hall)
  (idx.length+al.length) idx.length (fun _=>none) (ff l.toArray.size false) lm a w1 (by rw[hcnt]) inv0 (by rw[hsz'];simp) (fun j=>by rw[getD_replicate_false,kj];exact hlmj j)
  (fun x _=>⟨fun _=>getD_replicate_false _ _,fun _=>rfl⟩) (dU.refl w1) ⟨fun x _ v hv=>(by cases hv),fun x _ y _ _ g g' h1 _=>(by cases h1)⟩ H
 have hap:∀r:List Al,fW (fun _=>none) r a=a:=by
  intro r
  induction r with
  | nil=>rfl
  | cons x r ih=>exact ih
 rw[hap,←hlen] at key;have e:n+(l.length-n)=l.toArray.size:=by rw[gd];omega
 rwa [e] at key
end
section
variable {P:cj} {ops:Array Oper} {w0:aw} {L:Act→Prop} {ds:List dp} {l:List aj} {rest:List Oper} {d:Nat} {op:Op} {ty:be} {pos:String} {after:Array Edge} {v:aj} {x y:bm} {T:be}
theorem Xr(hr:∀w,dU w0 w→Dc P l op ty v w)(h:vA P ops w0 L rest (Fr (l.set d v) ds)):vA P ops w0 L (bx (some d) op ty pos after none::rest) (Fr l ds):=by
 refine⟨v,.inl ⟨by simp[Region.wanted],fun w hw=>?_⟩,?_⟩
 · unfold ji
   rw[jS,hr w hw _ rfl rfl];exact⟨rfl,rfl⟩
 · show vA P ops w0 L rest ((Fr l ds).put (some d) v)
   rw[jM];exact h
theorem jE(hr:iG P l op ty v)(h:vA P ops w0 L rest (Fr (l.set d v) ds)):vA P ops w0 L (bx (some d) op ty pos after none::rest) (Fr l ds):=Xr (fun w _=>hr w) h
theorem eU{a:Addr}(hx:ev l x=.pointer (some a))(hv:∀w',dU w0 w'→sJ P w' T a v)(h:vA P ops w0 L rest (Fr (l.set d v) ds)):vA P ops w0 L (bx (some d) (.load T x) ty pos after none::rest) (Fr l ds) :=
 Xr (fun _ hE=>lM hx (hv _ hE)) h
theorem aaP{f:FuncId}{fo:bm}{xs:Array bm}{args:List aj}{first cap:Array aj}{a0:Array be}(hf:ev l fo=.func (.func f) first cap)(hxs:first.toList++xs.toList.map (ev l)++cap.toList=args)(hc:∀w',dU w0 w'→gZ P f args w' fun u _=>u=v)
 (h:vA P ops w0 L rest (Fr (l.set d v) ds)):vA P ops w0 L (bx (some d) (.call { callee:=.value fo,args:=xs,argTypes:=a0 }) ty pos after none::rest) (Fr l ds):=by
 refine⟨v,.inl ⟨by simp[Region.wanted],fun w hw=>?_⟩,?_⟩
 · unfold ji
   rw[jS,oU (hc w hw).1 hf hxs _ rfl];refine⟨rfl,(hc w hw).2.mono ?_⟩;rintro e w'' ⟨u,rfl,hE,rfl⟩;exact⟨rfl,hE⟩
 · show vA P ops w0 L rest ((Fr l ds).put (some d) v)
   rw[jM];exact h
theorem eR{f:FuncId}{fo:bm}{xs:Array bm}{args:List aj}{first cap:Array aj}{a0:Array be}(hf:ev l fo=.func (.func f) first cap)(hxs:first.toList++xs.toList.map (ev l)++cap.toList=args)(hc:eB P f args v)
 (h:vA P ops w0 L rest (Fr (l.set d v) ds)):vA P ops w0 L (bx (some d) (.call { callee:=.value fo,args:=xs,argTypes:=a0 }) ty pos after none::rest) (Fr l ds) :=
 aaP hf hxs (fun w' _=>hc w') h
theorem qZ(h:L (Fr l ds)):vA P ops w0 L [] (Fr l ds):=h
theorem al1{md:Region.Mode}{x:Al}(h:nU P md ops x):∀y∈[x],nU P md ops y:=fun y hy=>by
 rcases bn.1 hy with rfl | hy
 · exact h
 · cases hy
theorem al2{md:Region.Mode}{x y:Al}(h:nU P md ops x)(k:nU P md ops y):∀z∈[x,y],nU P md ops z:=fun z hz=>by
 rcases bn.1 hz with rfl | hz
 · exact h
 · exact al1 k z hz
variable {Q:Exit→Act→aw→Prop} {tl:List Oper}
theorem adw{i d:Nat}{T:be}{cs:List aj}(h:∀w' g,dU w0 w'→w0.heap.size≤g→gG w' g cs T→bh P ops Q tl (Fr (l.set d (.pointer (some ⟨g,0,none⟩))) ds) w') :
 ∀E w',dU w0 w'→xE w0.heap.size E [⟨i,d,T,cs⟩] w'→(∀x∈[(⟨i,d,T,cs⟩:Al)],∃v,E x.i=some v)→bh P ops Q tl (fW E [⟨i,d,T,cs⟩] (Fr l ds)) w':=fun E w' hE hL hv=>by
 obtain⟨v,hv⟩:=hv ⟨i,d,T,cs⟩ (by simp);obtain⟨g,rfl,hg,hB⟩:=hL.1 ⟨i,d,T,cs⟩ (by simp) v hv;have e:fW E [⟨i,d,T,cs⟩] (Fr l ds)=Fr (l.set d (.pointer (some ⟨g,0,none⟩))) ds:=by
  simp only[fW,hv];exact jM _ _
 rw[e];exact h w' g hE hg hB
theorem adx{i d j e:Nat}{T U:be}{cs us:List aj}(hij:i≠j)(h:∀w' g k,dU w0 w'→w0.heap.size≤g→w0.heap.size≤k→gG w' g cs T→gG w' k us U→k≠g→bh P ops Q tl (Fr ((l.set d (.pointer (some ⟨g,0,none⟩))).set e (.pointer (some ⟨k,0,none⟩))) ds) w') :
 ∀E w',dU w0 w'→xE w0.heap.size E [⟨i,d,T,cs⟩,⟨j,e,U,us⟩] w'→(∀x∈[(⟨i,d,T,cs⟩:Al),⟨j,e,U,us⟩],∃v,E x.i=some v)→bh P ops Q tl (fW E [⟨i,d,T,cs⟩,⟨j,e,U,us⟩] (Fr l ds)) w':=fun E w' hE hL hv=>by
 obtain⟨v,h1⟩:=hv ⟨i,d,T,cs⟩ (by simp);obtain⟨u,h2⟩:=hv ⟨j,e,U,us⟩ (by simp);obtain⟨g,rfl,hg,hB⟩:=hL.1 ⟨i,d,T,cs⟩ (by simp) v h1;obtain⟨k,rfl,hk,hK⟩:=hL.1 ⟨j,e,U,us⟩ (by simp) u h2;have e':fW E [⟨i,d,T,cs⟩,⟨j,e,U,us⟩] (Fr l ds)=Fr ((l.set d (.pointer (some ⟨g,0,none⟩))).set e (.pointer (some ⟨k,0,none⟩))) ds:=by
  simp only[fW,h1,h2];rw[jM,jM]
 rw[e'];exact h w' g k hE hg hk hB hK (Ne.symm (hL.2 ⟨i,d,T,cs⟩ (by simp) ⟨j,e,U,us⟩ (by simp) hij g k h1 h2))
end
end Go.Lith
namespace Go.Lith
section
variable {P:cj} {ops:Array Oper} {w0:aw} {ds:List dp} {l:List aj} {Q:Exit→Act→aw→Prop} {tl:List Oper}
theorem al3{md:Region.Mode}{x y z:Al}(h:nU P md ops x)(k:nU P md ops y)(m:nU P md ops z):∀u∈[x,y,z],nU P md ops u:=fun u hu=>by
 rcases bn.1 hu with rfl | hu
 · exact h
 · exact al2 k m u hu
theorem ady{i d j e m f:Nat}{T U V:be}{cs us vs:List aj}(hij:i≠j)(him:i≠m)(hjm:j≠m)
 (h:∀w' g k p,dU w0 w'→w0.heap.size≤g→w0.heap.size≤k→w0.heap.size≤p→gG w' g cs T→gG w' k us U→gG w' p vs V→k≠g→p≠g→p≠k→bh P ops Q tl (Fr (((l.set d (.pointer (some ⟨g,0,none⟩))).set e (.pointer (some ⟨k,0,none⟩))).set f (.pointer (some ⟨p,0,none⟩))) ds) w') :
 ∀E w',dU w0 w'→xE w0.heap.size E [⟨i,d,T,cs⟩,⟨j,e,U,us⟩,⟨m,f,V,vs⟩] w'→(∀x∈[(⟨i,d,T,cs⟩:Al),⟨j,e,U,us⟩,⟨m,f,V,vs⟩],∃v,E x.i=some v)→bh P ops Q tl (fW E [⟨i,d,T,cs⟩,⟨j,e,U,us⟩,⟨m,f,V,vs⟩] (Fr l ds)) w':=fun E w' hE hL hv=>by
 obtain⟨v,h1⟩:=hv ⟨i,d,T,cs⟩ (by simp);obtain⟨u,h2⟩:=hv ⟨j,e,U,us⟩ (by simp);obtain⟨s,h3⟩:=hv ⟨m,f,V,vs⟩ (by simp);obtain⟨g,rfl,hg,hB⟩:=hL.1 ⟨i,d,T,cs⟩ (by simp) v h1;obtain⟨k,rfl,hk,hK⟩:=hL.1 ⟨j,e,U,us⟩ (by simp) u h2;obtain⟨p,rfl,hp,hP⟩:=hL.1 ⟨m,f,V,vs⟩ (by simp) s h3;have e':fW E [⟨i,d,T,cs⟩,⟨j,e,U,us⟩,⟨m,f,V,vs⟩] (Fr l ds)=Fr (((l.set d (.pointer (some ⟨g,0,none⟩))).set e (.pointer (some ⟨k,0,none⟩))).set f (.pointer (some ⟨p,0,none⟩))) ds:=by
  simp only[fW,h1,h2,h3];rw[jM,jM,jM]
 rw[e'];exact h w' g k p hE hg hk hp hB hK hP (Ne.symm (hL.2 ⟨i,d,T,cs⟩ (by simp) ⟨j,e,U,us⟩ (by simp) hij g k h1 h2)) (Ne.symm (hL.2 ⟨i,d,T,cs⟩ (by simp) ⟨m,f,V,vs⟩ (by simp) him g p h1 h3)) (Ne.symm (hL.2 ⟨j,e,U,us⟩ (by simp) ⟨m,f,V,vs⟩ (by simp) hjm k p h2 h3))
end
end Go.Lith
namespace Go.Lith
open Go.RowKit
def nv(v:P3):Go.Value:=.agg #[.int .i64 v.x,.int .i64 v.y,.int .i64 v.z]
def sg(v:P3):Go.Value:=.agg #[.int .i64 (dS v.x),.int .i64 (dS v.y),.int .i64 (dS v.z)]
class S3(p:P3):Prop where
 x:p.x.natAbs<262144
 y:p.y.natAbs<262144
 z:p.z.natAbs<262144
class N3(p:P3):Prop where
 x:p.x.natAbs<524288
 y:p.y.natAbs<524288
 z:p.z.natAbs<524288
instance {p q:P3}[a:S3 p][b:S3 q]:N3 (p.sub q):=⟨by have:=a.x;have:=b.x;simp only[P3.sub];omega,by have:=a.y;have:=b.y;simp only[P3.sub];omega,by have:=a.z;have:=b.z;simp only[P3.sub];omega⟩
theorem Ch{a b:Int}(ha:a.natAbs<524288)(hb:b.natAbs<524288) : -274877906944<a*b∧a*b<274877906944:=by
 have h:(a*b).natAbs≤524287*524287:=by rw[Int.natAbs_mul];exact Nat.mul_le_mul (by omega) (by omega)
 omega
theorem adz{x y:Int}(h : -274877906944<x∧x<274877906944)(k : -274877906944<y∧y<274877906944):IntKind.i64.wrap (x-y)=x-y:=aO (by omega) (by omega)
theorem Hp{x:Int}(h : -274877906944<x∧x<274877906944):IntKind.i64.wrap x=x:=aO (by omega) (by omega)
theorem uL{v:Int}(h:kO v):IntKind.u64.wrap (if v<IntKind.i64.wrap (0-v) then IntKind.i64.wrap (0-v) else v)=(v.natAbs:Int):=by
 obtain⟨h1,h2⟩:=h;rcases Int.lt_or_le (-9223372036854775808) v with h3 | h3
 · rw[aO (x:=0-v) (by omega) (by omega),kH]
   split <;> omega
 · obtain rfl:v = -9223372036854775808:=by omega
   decide
def aaQ:ByteArray:=⟨#[0,1,2,2,3,3,3,3,4,4,4,4,4,4,4,4,5,5,5,5,5,5,5,5,5,5,5,5,5,5,5,5,6,6,6,6,6,6,6,6,6,6,6,6,6,6,6,6,6,6,6,6,6,6,6,6,6,6,6,6,6,6,6,6,7,7,7,7,7,7,7,7,7,7,7,7,7,7,7,7,7,7,7,7,7,7,7,7,7,7,7,7,7,7,7,7,7,7,7,7,7,7,7,7,7,7,7,7,7,7,7,7,7,7,7,7,7,7,7,7,7,7,7,7,7,7,7,7,8,8,8,8,8,8,8,8,8,8,8,8,8,8,8,8,8,8,8,8,8,8,8,8,8,8,8,8,8,8,8,8,8,8,8,8,8,8,8,8,8,8,8,8,8,8,8,8,8,8,8,8,8,8,8,8,8,8,8,8,8,8,8,8,8,8,8,8,8,8,8,8,8,8,8,8,8,8,8,8,8,8,8,8,8,8,8,8,8,8,8,8,8,8,8,8,8,8,8,8,8,8,8,8,8,8,8,8,8,8,8,8,8,8,8,8,8,8,8,8,8,8,8,8,8,8,8,8]⟩
theorem Ty:∀i,i<256→∃b:UInt8,aaQ[i]? = some b∧b.toNat≤8∧(b.toNat≤2→i<4):=by
 have h:(List.range 256).all (fun i=>match aaQ[i]? with
  | some b=>decide (b.toNat≤8)&&(decide (2<b.toNat)||decide (i<4))
  | none=>false)=true:=by decide +kernel
 intro i hi;have:=g_.1 h i (fw.2 hi);cases hb:aaQ[i]? with
 | none=>rw[hb] at this;cases this
 | some b =>
  rw[hb] at this;simp only[bu,Bool.or_eq_true,decide_eq_true_eq] at this;exact⟨b,rfl,this.1,fun h=>by omega⟩
section
variable {P:cj} {ds:List dp} {l:List aj} {x y:bm} {T ty:be} {ops:Array Oper} {Q:Exit→Act→aw→Prop} {rest:List Oper} {d:Nat} {pos:String} {after:Array Edge} {w:aw} {k:IntKind}
theorem vC{Y:Nat}(hu:P.underlying T=some .string)(hx:ev l x=.string aaQ)(hy:ev l y=.int k (Y:Int))(hY:Y<256)(h:∀b:Nat,b≤8→(b≤2→Y<4)→bh P ops Q rest (Fr (l.set d (.int .u8 (b:Int))) ds) w) :
 bh P ops Q (bx (some d) (.index T x y) ty pos after none::rest) (Fr l ds) w:=by
 obtain⟨b,hb,h1,h2⟩:=Ty Y hY;exact aA (mT hu hx hy (by omega) (by rw[Int.toNat_natCast];exact hb)) (h b.toNat h1 h2)
end
theorem Xs{m:Nat}:(m:Int).fdiv (2^(min (16:Int).toNat IntKind.u64.bits))=((m / 65536:Nat):Int):=by
 show (m:Int).fdiv (2^16)=_
 rw[fc _ (by decide)];omega
theorem Rr{m:Nat}:(m:Int).fdiv (2^(min (8:Int).toNat IntKind.u64.bits))=((m / 256:Nat):Int):=by
 show (m:Int).fdiv (2^8)=_
 rw[fc _ (by decide)];omega
end Go.Lith
namespace Go.Lith
open Go.RowKit
def T3.flat(t:T3):Prop:=t.normal.x=0∧t.normal.y=0∧t.normal.z=0
instance (t:T3):Decidable t.flat:=inferInstanceAs (Decidable (_∧_∧_))
theorem iN{n:Int}:dS n=0↔n=0:=by
 unfold dS;constructor
 · intro h
   split at h
   · cases h
   · split at h
     · cases h
     · omega
 · rintro rfl;rfl
theorem Xt{n:Int}:0≤dS n↔0≤n:=by
 unfold dS;split
 · constructor <;> intro h <;> omega
 · split <;> constructor <;> intro h <;> omega
theorem nV{n:Int}:0<dS n↔0<n:=by
 unfold dS;split
 · constructor <;> intro h <;> omega
 · split <;> constructor <;> intro h <;> omega
theorem Bq.mono{k m:Nat}{q:Rat}(h:Bq k q)(hk:k≤m):Bq m q:=⟨h.n.mono hk,h.d.mono hk⟩
theorem yM:Bd 1 1:=by
 show Int.natAbs 1<2^1
 decide
structure dX(w:aw)(A:Option Addr)(n:Nat)(ts:List T3):Prop where
 len:ts.length=n
 it:∀t∈ts,IT t
 row:∀i t,ts[i]? = some t→∃a,A=some a∧qN w (a.add (i*9)) [.int .i64 t.a.x,.int .i64 t.a.y,.int .i64 t.a.z,.int .i64 t.b.x,.int .i64 t.b.y,.int .i64 t.b.z,.int .i64 t.c.x,.int .i64 t.c.y,.int .i64 t.c.z]
theorem dX.ext{w w':aw}{A:Option Addr}{n:Nat}{ts:List T3}(h:dX w A n ts)(hE:dU w w'):dX w' A n ts :=
 ⟨h.len,h.it,fun i t hi=>let ⟨a,e,hr⟩:=h.row i t hi;⟨a,e,hr.ext hE⟩⟩
theorem dX.nil(w:aw)(A:Option Addr):dX w A 0 []:=⟨rfl,fun t h=>(by cases h),fun i t h=>(by cases h)⟩
theorem dX.get{w:aw}{A:Option Addr}{n:Nat}{ts:List T3}(h:dX w A n ts){i:Nat}(hi:i<n):∃t,ts[i]? = some t∧IT t∧∃a,A=some a∧qN w (a.add (i*9)) [.int .i64 t.a.x,.int .i64 t.a.y,.int .i64 t.a.z,.int .i64 t.b.x,.int .i64 t.b.y,.int .i64 t.b.z,.int .i64 t.c.x,.int .i64 t.c.y,.int .i64 t.c.z]:=by
 have hl:i<ts.length:=by rw[h.len];exact hi
 refine⟨ts[i],ao hl,h.it _ (dl hl),h.row i _ (ao hl)⟩
end Go.Lith
namespace Go.Lith
open Go.RowKit
theorem dX.at{w:aw}{a:Addr}{n i:Nat}{ts:List T3}{t:T3}(h:dX w (some a) n ts)(ht:ts[i]? = some t):qN w (a.add (i*9)) [.int .i64 t.a.x,.int .i64 t.a.y,.int .i64 t.a.z,.int .i64 t.b.x,.int .i64 t.b.y,.int .i64 t.b.z,.int .i64 t.c.x,.int .i64 t.c.y,.int .i64 t.c.z]:=by
 obtain⟨a',ha,hr⟩:=h.row i t ht;cases ha;exact hr
theorem dX.empty{w:aw}{A:Option Addr}{n:Nat}{ts:List T3}(h:dX w A n ts)(h0:n=0):ts=[]:=bz (by rw[h.len];exact h0)
end Go.Lith
namespace Go.Lith
open Go.RowKit
def cX(t:T3):List Go.Value:=[.int .i64 t.a.x,.int .i64 t.a.y,.int .i64 t.a.z,.int .i64 t.b.x,.int .i64 t.b.y,.int .i64 t.b.z,.int .i64 t.c.x,.int .i64 t.c.y,.int .i64 t.c.z]
theorem qN.pre{w:aw}{a:Addr}{xs ys:List Go.Value}(h:qN w a (xs++ys)):qN w a xs:=fun j u hj=>h j u (by
 have hl:j<xs.length:=(bq.1 hj).1;rw[bv hl];exact hj)
theorem pN(t:T3):(cX t).length=9:=rfl
theorem qK:∀(ts:List T3) (i:Nat) (t:T3),ts[i]? = some t→(ts.flatMap cX).drop (i*9)=cX t++(ts.drop (i+1)).flatMap cX
 | [],i,t,h=>by cases h
 | u::ts,0,t,h=>by
  cases h;rfl
 | u::ts,i+1,t,h=>by
  rw[dv,show (i+1)*9=(cX u).length+i*9 by rw[pN];omega,List.drop_append,List.drop_of_length_le (by omega),dy];rw[show (cX u).length+i*9-(cX u).length=i*9 by omega];exact qK ts i t h
theorem dX.of_cells{w:aw}{g n:Nat}{ts:List T3}{T:be}{cs:List Go.Value}(hB:gG w g cs T)(hc:cs=ts.flatMap cX)(hn:ts.length=n)(hi:∀t∈ts,IT t):dX w (some ⟨g,0,none⟩) n ts:=by
 subst hc;refine⟨hn,hi,fun i t ht=>⟨_,rfl,?_⟩⟩;rw[gA,ah];have:=hB.row (i*9);rw[qK ts i t ht] at this;exact this.pre
end Go.Lith
namespace Go.Lith
open Go.RowKit
abbrev Bt(A:Option Addr):Option Nat:=A.map (·.block)
structure Ow(w0 w:aw)(S:List (Option Nat))(E:be)(c:Nat)(A:Option Addr)(n cap:Nat)(xs:List aj):Prop where
 own:w.ownsRow w0.heap.size E c (.slice A n cap) n xs
 sep:∀b,Bt A=some b→some b∉S
 bd:∀b,some b∈S→b<w.heap.size
structure Wr(w w':aw)(A:Option Addr):Prop where
 os:w'.os=w.os
 tape:w'.tape=w.tape
 output:w'.output=w.output
 size:w.heap.size≤w'.heap.size
 block:∀k,k<w.heap.size→Bt A≠some k→w'.heap[k]? = w.heap[k]?
theorem mK{w:aw}{base c n cap:Nat}{E:be}{A:Option Addr}{xs:List aj}(h:w.ownsRow base E c (.slice A n cap) n xs) :
 (A=none∧n=0∧cap=0∧xs=[])∨∃g cur,A=some ⟨g,0,none⟩∧base≤g∧w.heap[g]? = some (.cells cur E (0,0))∧n≤cap∧cap≤maxLen∧cur.size=cap*c∧cur.toList.take (n*c)=xs:=by
 rcases h.2 with ⟨h1,h2⟩ | ⟨g,cap',cur,h1,h2,h3,h4,h5,h6,h7⟩
 · cases h1
   exact .inl ⟨rfl,h2,rfl,bz (by rw[h.1,h2,Nat.zero_mul])⟩
 · cases h1
   exact .inr ⟨g,cur,rfl,h2,h3,h4,h5,h6,h7⟩
section
variable {w0 w w':aw} {S:List (Option Nat)} {E:be} {c n cap:Nat} {A:Option Addr} {xs:List aj}
theorem Ow.cases(h:Ow w0 w S E c A n cap xs):(A=none∧n=0∧cap=0∧xs=[])∨∃g cur,A=some ⟨g,0,none⟩∧w0.heap.size≤g∧w.heap[g]? = some (.cells cur E (0,0))∧n≤cap∧cap≤maxLen∧cur.size=cap*c∧cur.toList.take (n*c)=xs:=mK h.own
theorem Ow.ge(h:Ow w0 w S E c A n cap xs):∀b,Bt A=some b→w0.heap.size≤b:=fun b hb=>by
 rcases h.cases with ⟨rfl,_⟩ | ⟨g,cur,rfl,hg,_⟩
 · cases hb
 · cases hb
   exact hg
theorem Ow.le(h:Ow w0 w S E c A n cap xs):n≤cap:=by
 rcases h.cases with ⟨_,rfl,rfl,_⟩ | ⟨g,cur,_,_,_,h1,_⟩
 · exact bi _
 · exact h1
theorem Ow.some(h:Ow w0 w S E c A n cap xs)(hn:0<n):∃g,A=some ⟨g,0,none⟩:=by
 rcases h.cases with ⟨_,rfl,_⟩ | ⟨g,cur,rfl,_⟩
 · omega
 · exact⟨g,rfl⟩
theorem Ow.row(h:Ow w0 w S E c A n cap xs):∀j u,xs[j]? = gm u→∃a,A=gm a∧w.cell? (a.add j)=gm u:=fun j u hj=>by
 rcases h.cases with ⟨_,_,_,rfl⟩ | ⟨g,cur,rfl,_,hg,_,_,_,h4⟩
 · cases hj
 · refine⟨_,rfl,?_⟩
   rw[gA,ah,cell_of_row w g j cur E (0,0) hg];rw[←h4,dz] at hj;split at hj
   · simpa using hj
   · cases hj
theorem Ow.rows{g:Nat}(h:Ow w0 w S E c (gm ⟨g,0,none⟩) n cap xs):qN w ⟨g,0,none⟩ xs:=fun j u hj=>by
 obtain⟨a,e,h1⟩:=h.row j u hj;cases e;exact h1
theorem Ow.nil(w0 w:aw)(E:be)(c:Nat):Ow w0 w [] E c none 0 0 []:=⟨World.ownsRow_nil w _ E c,fun _ h=>(by cases h),fun _ h=>(by cases h)⟩
theorem Ow.mk' {g:Nat}{cs:List aj}(hB:gG w g cs E)(hg:w0.heap.size≤g)(hl:cs.length=n*c)(hm:n≤maxLen):Ow w0 w [] E c (gm ⟨g,0,none⟩) n n cs :=
 ⟨⟨hl,.inr ⟨g,n,_,rfl,hg,hB,bi _,hm,by simpa using hl,by simp[←hl]⟩⟩,fun _ _ h=>(by cases h),fun _ h=>(by cases h)⟩
theorem Ow.as{ys:List aj}(h:Ow w0 w S E c A n cap xs)(e:xs=ys):Ow w0 w S E c A n cap ys:=e▸h
end
section
variable {P:cj} {ds:List dp} {l:List aj} {x y:bm} {T ty:be}
variable {ops:Array Oper} {Q:Exit→Act→aw→Prop} {rest:List Oper} {d:Nat} {pos:String} {after:Array Edge} {w w0:aw} {S:List (Option Nat)} {E:be} {c n cap m mcap:Nat} {A B:Option Addr} {xs news:List aj}
theorem Wr.refl(w:aw)(A:Option Addr):Wr w w A:=⟨rfl,rfl,rfl,bi _,fun _ _ _=>rfl⟩
theorem Gi{t:be}{i:TypeInfo}{z:aj}{bytes:Nat}(ht:P.underlying t=some (.slice E))(hi:P.info? E=some i)(hz:i.zero=some z)(hsize:i.size=c)(hby:i.bytes=bytes)(hzs:z.cells.size=c)(hsz:0<c)
 (hown:Ow w0 w S E c A n cap xs) (hl:news.length=m*c) (hnews:∀j u,news[j]? = some u→∃a,B=some a∧w.cell? (a.add j)=some u) (h1:∀u∈news,u.oneCell'=true)
 (h63:n+m≤maxLen) (hbytes:(n+m)*bytes≤140737488355328) (hbase:w0.heap.size≤w.heap.size) :
 ∃A' cap' w',(Builtin.append_ #[t,t] ty #[.slice A n cap,.slice B m mcap]).run P w=.ok (.slice A' (n+m) cap') w'∧Ow w0 w' S E c A' (n+m) cap' (xs++news)∧Wr w w' A∧(A'=A∨Bt A'=some w.heap.size):=by
 subst hsize;subst hby;have hsmall:n+m≤9223372036854775807:=by simp only[maxLen] at h63;omega
 have hlen:(xs++news).length=(n+m)*i.size:=by rw[bg,hown.own.1,hl,e_]
 have grown:∀(old:Nat),old<n+m →
  Ow w0 (w.drew.alloc (.cells (xs.toArray++news.toArray++Builtin.zeroCells z.cells (grownCap w (n+m) old E-(n+m))) E)) S E i.size
   (some ⟨w.heap.size,0,none⟩) (n+m) (grownCap w (n+m) old E) (xs++news) ∧
  Wr w (w.drew.alloc (.cells (xs.toArray++news.toArray++Builtin.zeroCells z.cells (grownCap w (n+m) old E-(n+m))) E)) A:=by
  intro old ho;have hge:=grownCap_ge w (n+m) old E;have hcm:grownCap w (n+m) old E≤maxLen:=grownCap_le_maxLen w (n+m) old E h63;refine⟨⟨⟨hlen,.inr ⟨w.heap.size,_,_,rfl,hbase,heap_alloc_new w.drew _,hge,hcm,?_,?_⟩⟩,fun b hb hm=>?_,fun b hb=>?_⟩,⟨rfl,rfl,rfl,by simp,fun k hk _=>heap_alloc_old w.drew _ (h:=hk)⟩⟩
  · simp only[Array.size_append,gd,size_zeroCells,hzs,hown.own.1,hl,←e_]
    congr 1
    omega
  · simp only[Array.toList_append,et]
    rw[←et,←hlen];exact List.take_left
  · have hb':w.heap.size=b:=by simpa using hb
    subst hb';exact absurd (hown.bd _ hm) (Nat.lt_irrefl _)
  · have:=hown.bd _ hb
    have h2:(w.drew.alloc (.cells (xs.toArray++news.toArray++Builtin.zeroCells z.cells (grownCap w (n+m) old E-(n+m))) E)).heap.size=w.heap.size+1:=by simp
    rw[h2];omega
 have hB0:B=none→m=0∧news=[]:=fun hB=>by
  have hn:news=[]:=by
   cases news with
   | nil=>rfl
   | cons u us=>obtain⟨a,e,_⟩:=hnews 0 u rfl;rw[hB] at e;cases e
  subst hn;refine⟨?_,rfl⟩;rcases eg m with h0 | h0
  · exact h0
  · have:=Nat.mul_pos h0 hsz;simp at hl;omega
 rcases hown.cases with ⟨rfl,rfl,rfl,rfl⟩ | ⟨g,cur,rfl,hbg,hg,hnc,hcm,hcs,htake⟩
 · by_cases hm:m=0
   · subst hm
     have hn:news=[]:=bz (by simpa using hl);subst hn;refine⟨none,0,w,?_,by simpa using hown,Wr.refl _ _,.inl rfl⟩;cases B <;> simp[Builtin.append_,bt ht,sizeOf,typeInfo,hi,Builtin.lenOf,Builtin.firstCells,loadCells,loadCellsFrom]
   · cases B with
     | none=>exact absurd (hB0 rfl).1 hm
     | some a =>
      have hr:=run_append_nil (P:=P) w t ty E i z ht hi hz a m mcap news hl (fun j u hj=>by obtain⟨a',e,h⟩:=hnews j u hj;cases e;exact h) (by omega) (by omega) (by have hb:=hbytes;simp only[ah] at hb;omega);have hgr:=grown 0 (by omega);simp only[ah,dy,Array.empty_append] at hgr ⊢;exact⟨_,_,_,hr,hgr.1,hgr.2,.inr rfl⟩
 · cases B with
   | none =>
    obtain⟨rfl,rfl⟩:=hB0 rfl;refine⟨some ⟨g,0,none⟩,cap,w,?_,by simpa using hown,Wr.refl _ _,.inl rfl⟩;simp[Builtin.append_,bt ht,sizeOf,typeInfo,hi,Builtin.lenOf,Builtin.firstCells,hnc,storeCells]
   | some a =>
    have hnews':∀j u,news[j]? = some u→w.cell? (a.add j)=some u:=fun j u hj=>by obtain⟨a',e,h⟩:=hnews j u hj;cases e;exact h
    by_cases hroom:n+m≤cap
    · have hfit:n*i.size+news.length≤cur.size:=by rw[hl,hcs,←e_];exact ei _ hroom
      have hr:=run_append_room (P:=P) w t ty E i ht hi g n cap cur hg a m mcap news hl hnews' h1 hroom hfit;refine⟨_,_,_,hr,⟨⟨hlen,.inr ⟨g,cap,_,rfl,hbg,setRow_heap w g cur _ E _ hg,hroom,hcm,?_,?_⟩⟩,hown.sep,fun b hb=>by simpa using hown.bd b hb⟩,⟨rfl,rfl,rfl,by simp,fun k _ hk=>setRow_other w g k _ (fun e=>hk (by rw[e];rfl))⟩,.inl rfl⟩
      · simp only[gd,bg,bl,gz,Array.length_toList]
        omega
      · rw[htake,←hlen]
        exact List.take_left
    · have hr:=run_append_grow (P:=P) w t ty E i z ht hi hz ⟨g,0,none⟩ n cap xs hown.own.1 hown.rows a m mcap news hl hnews' (by omega) (by omega) (growslice_fits (by omega) hbytes)
      have hgr:=grown cap (by omega);exact⟨_,_,_,hr,hgr.1,hgr.2,.inr rfl⟩
theorem Tz{b:Nat}{z:aj}{a0:Array be}(ha:a0 = #[T,T])(hu:P.underlying T=some (.slice E))(hi:(P.info? E).map (fun i=>(i.size,i.bytes,i.zero))=some (c,b,some z))(hz:z.cells.size=c)(hc:0<c)(hX:dU w0 w)
 (hs:ev l x=.slice A n cap) (hown:Ow w0 w S E c A n cap xs) (hx:ev l y=.slice B m mcap) (hl:news.length=m*c) (hrow:∀j u,news[j]? = some u→∃a,B=some a∧w.cell? (a.add j)=some u) (h1:∀u∈news,u.oneCell'=true) (h63:n+m≤9223372036854775807) (hbytes:(n+m)*b≤140737488355328)
 (h:∀A' cap' w',Ow w0 w' S E c A' (n+m) cap' (xs++news)→Wr w w' A→(A'=A∨Bt A'=some w.heap.size)→bh P ops Q rest (Fr (l.set d (.slice A' (n+m) cap')) ds) w') :
 bh P ops Q (bx (some d) (.call { callee:=.builtin .append,args:=#[x,y],argTypes:=a0 }) ty pos after none::rest) (Fr l ds) w:=by
 subst ha;cases hq:P.info? E with
 | none=>rw[hq] at hi;cases hi
 | some i =>
  rw[hq] at hi;simp only[fb,fu,fp] at hi;obtain⟨e1,e2,e3⟩:=hi;obtain⟨A',cap',w',hr,h2,h3,h4⟩:=Gi (P:=P) (w:=w) (ty:=ty) (mcap:=mcap) hu hq e3 e1 e2 hz hc hown hl hrow h1 (by simpa[maxLen] using h63) hbytes hX.size;exact mC (fun o ho hty=>by simp[cm,ho,hty,resolve,invoke,builtin,dV,hs,hx,hr]) (h A' cap' w' h2 h3 h4)
theorem Gj{cur:Array aj}{xs us:List aj}{off k:Nat}(hx:cur.toList.take k=xs)(hl:xs.length=k)(hf:off+us.length≤k):(aW cur.toList off us).take k=aW xs off us:=by
 subst hx;have hk:k≤cur.toList.length:=by rw[bl] at hl;omega
 unfold aW;apply er;intro j;rw[dz];have e1:(cur.toList.take off).length=off:=by rw[bl];omega
 have e2:((cur.toList.take k).take off).length=off:=by rw[bl,bl];omega
 simp only[et];by_cases h0:j<k
 · rw[if_pos h0]
   rcases cn j off with h1 | h1
   · rw[bv (by omega),bv (by omega),List.take_take,co (by omega)]
   · rw[cq (l₁:=cur.toList.take off) (by omega),cq (l₁:=(cur.toList.take k).take off) (by omega),e1,e2]
     rcases cn (j-off) us.length with h2 | h2
     · rw[bv h2,bv h2]
     · rw[cq h2,cq h2,cx,cx,dz,if_pos (by omega)]
 · rw[if_neg h0]
   symm
   apply List.getElem?_eq_none;simp only[bg,e2,gz,bl];omega
theorem Xu{g off:Nat}{us:List aj}(hx:ev l x=.pointer (some ⟨g,off,none⟩))(hv:(ev l y).cells=us.toArray)(hc:fI P T us.length)(hO:Ow w0 w S E c (some ⟨g,0,none⟩) n cap xs)(hfit:off+us.length≤n*c)(h1:∀u∈us,u.oneCell'=true)
 (h:∀w',Wr w w' (some ⟨g,0,none⟩)→Ow w0 w' S E c (some ⟨g,0,none⟩) n cap (aW xs off us)→bh P ops Q rest (Fr l ds) w'):bh P ops Q (bx none (.store T x y) ty pos after none::rest) (Fr l ds) w:=by
 rcases hO.cases with ⟨e,_⟩ | ⟨g',cur,e,hbg,hg,hnc,hcm,hcs,htake⟩
 · cases e
 · cases e
   have hfc:off+us.length≤cur.toList.length:=by
    have:=ei c hnc;simp;omega
   have hB:gG w g cur.toList E:=by unfold gG;simpa using hg
   refine cE (cs:=cur.toList) (t:=E) hx hv hc hB hfc h1 fun w' hC hB'=>h w' ⟨hC.os,hC.tape,hC.output,by rw[hC.size];exact bi _,fun k _ hk=>hC.block k (fun e=>hk (by rw[e];rfl))⟩ ?_;refine⟨⟨?_,.inr ⟨g,cap,_,rfl,hbg,hB',hnc,hcm,?_,?_⟩⟩,hO.sep,fun b hb=>by rw[hC.size];exact hO.bd b hb⟩
   · rw[uU (by rw[hO.own.1];exact hfit)];exact hO.own.1
   · simp only[gd];rw[uU hfc];simpa using hcs
   · show ((aW cur.toList off us).toArray.toList).take (n*c)=_
     simp only[List.toList_toArray];exact Gj htake hO.own.1 hfit
end
theorem Ct(ts:List T3):(ts.flatMap cX).length=ts.length*9:=by
 induction ts with
 | nil=>rfl
 | cons t ts ih=>rw[dv,bg,ih,pN,List.length_cons];omega
theorem Ow.tris{w0 w:aw}{S:List (Option Nat)}{E:be}{A:Option Addr}{n cap:Nat}{ts:List T3}(h:Ow w0 w S E 9 A n cap (ts.flatMap cX))(hi:∀t∈ts,IT t):dX w A n ts:=by
 refine⟨?_,hi,fun i t ht=>?_⟩
 · have:=h.own.1;rw[Ct] at this;omega
 · have hr:∀j u,(cX t)[j]? = gm u→(ts.flatMap cX)[i*9+j]? = gm u:=fun j u hj=>by
    have hj':j<(cX t).length:=(bq.1 hj).1;rw[←cx,qK ts i t ht,bv hj'];exact hj
   obtain⟨a,e,_⟩:=h.row _ _ (hr 0 _ rfl);refine⟨a,e,fun j u hj=>?_⟩;obtain⟨a',e',hc⟩:=h.row _ _ (hr j u hj);rw[e] at e';cases e';rw[jL];exact hc
theorem dX.cells{w:aw}{A:Option Addr}{n:Nat}{ts:List T3}(h:dX w A n ts):∀j u,(ts.flatMap cX)[j]? = some u→∃a,A=some a∧w.cell? (a.add j)=some u:=fun j u hj=>by
 have hl:j<ts.length*9:=by
  have:=(bq.1 hj).1;rwa [Ct] at this
 have hq:j / 9<ts.length:=by omega
 have ht:=ao hq;obtain⟨a,e,hr⟩:=h.row _ _ ht;refine⟨a,e,?_⟩;have hd:=qK ts (j / 9) _ ht;have hj':(cX ts[j / 9])[j%9]? = some u:=by
  have:((ts.flatMap cX).drop (j / 9*9))[j%9]? = some u:=by rw[cx,show j / 9*9+j%9=j by omega];exact hj
  rw[hd,bv (by rw[pN];omega)] at this;exact this
 have:=hr _ _ hj';rwa [jL,show j / 9*9+j%9=j by omega] at this
theorem aaR:∀(t:T3),∀u∈cX t,u.oneCell'=true:=fun t u hu=>by
 simp only[cX,bn,List.not_mem_nil,or_false] at hu;rcases hu with rfl | rfl | rfl | rfl | rfl | rfl | rfl | rfl | rfl <;> rfl
theorem oZ(ts:List T3):∀u∈ts.flatMap cX,u.oneCell'=true:=fun u hu=>by
 obtain⟨t,_,h⟩:=List.mem_flatMap.1 hu;exact aaR t u h
theorem gG.rowsO{w:aw}{g:Nat}{cs:List aj}{t:be}(h:gG w g cs t):∀j u,cs[j]? = some u→∃a,some (⟨g,0,none⟩:Addr)=some a∧w.cell? (a.add j)=some u:=fun j u hj=>⟨_,rfl,by have:=h.row 0;rw[fg] at this;exact this j u hj⟩
section
variable {w0 w w':aw} {S:List (Option Nat)} {E:be} {c n cap:Nat} {A:Option Addr} {xs:List aj}
end
end Go.Lith
namespace Go.Lith
open Go.RowKit
structure It where
 own:Nat→Prop
 P:aw→Prop
 lt:∀w b,P w→own b→b<w.heap.size
 st:∀w w',P w→w.heap.size≤w'.heap.size→(∀b,own b→w'.heap[b]? = w.heap[b]?)→P w'
def bI(g:Nat)(cs:List aj)(t:be):It where
 own b:=some g=some b
 P w:=gG w g cs t
 lt w b h e:=by cases e;exact h.lt
 st w w' h _ k:=(k g rfl).trans h
def oI(E:be)(c:Nat)(A:Option Addr)(n cap:Nat)(xs:List aj):It where
 own b:=Bt A=some b
 P w:=w.ownsRow 0 E c (.slice A n cap) n xs
 lt w b h e:=by
  rcases mK h with ⟨rfl,_⟩ | ⟨g,cur,rfl,_,hg,_⟩
  · cases e
  · cases e;exact (cy.1 hg).1
 st w w' h _ k:=by
  refine⟨h.1,?_⟩;rcases mK h with ⟨rfl,rfl,rfl,_⟩ | ⟨g,cur,rfl,h1,h2,h3⟩
  · exact .inl ⟨rfl,rfl⟩
  · exact .inr ⟨g,cap,cur,rfl,h1,(k g rfl).trans h2,h3⟩
def Ap(i j:It):Prop:=∀b,i.own b→j.own b→False
theorem Ap.symm{i j:It}(h:Ap i j):Ap j i:=fun b h1 h2=>h b h2 h1
structure cK(w0 w:aw)(is:List It):Prop where
 ext:dU w0 w
 all:∀i∈is,i.P w
 ge:∀i∈is,∀b,i.own b→w0.heap.size≤b
 nd:is.Pairwise Ap
def Mo:List Bool→List It→List It
 | true::bs,i::is=>i::Mo bs is
 | false::bs,_::is=>Mo bs is
 | _,_=>[]
theorem vD:∀(bs:List Bool) (is:List It),(Mo bs is).Sublist is
 | true::bs,i::is=>(vD bs is).cons_cons i
 | false::bs,i::is=>(vD bs is).cons i
 | [],is=>mb _
 | true::bs,[]=>mb _
 | false::bs,[]=>mb _
section
variable {w0 w w':aw} {is:List It}
theorem cK.refl(w:aw):cK w w []:=⟨dU.refl w,fun _ h=>(by cases h),fun _ h=>(by cases h),.nil⟩
theorem cK.ext' (m:cK w0 w is)(e:dU w w'):cK w0 w' is :=
 ⟨m.ext.trans e,fun i hi=>i.st w w' (m.all i hi) e.size fun b hb=>Below.block e b (i.lt w b (m.all i hi) hb),m.ge,m.nd⟩
theorem cK.sel(m:cK w0 w is)(bs:List Bool):cK w0 w (Mo bs is) :=
 ⟨m.ext,fun i hi=>m.all i ((vD bs is).subset hi),fun i hi=>m.ge i ((vD bs is).subset hi),m.nd.sublist (vD bs is)⟩
theorem cK.tl{i:It}(m:cK w0 w (i::is)):cK w0 w is:=⟨m.ext,fun j hj=>m.all j (cw _ hj),fun j hj=>m.ge j (cw _ hj),(ej.1 m.nd).2⟩
theorem cK.get(m:cK w0 w is)(k:Nat){i:It}(hk:is[k]? = some i):i.P w:=m.all i (cc hk)
theorem cK.b(m:cK w0 w is)(k:Nat){g:Nat}{cs:List aj}{t:be}(hk:is[k]? = some (bI g cs t)):gG w g cs t:=m.get k hk
theorem cK.o(m:cK w0 w is)(k:Nat){E:be}{c n cap:Nat}{A:Option Addr}{xs:List aj}(hk:is[k]? = some (oI E c A n cap xs)):Ow w0 w [] E c A n cap xs:=by
 have h:w.ownsRow 0 E c (.slice A n cap) n xs:=m.get k hk;refine⟨⟨h.1,?_⟩,fun _ _ h=>(by cases h),fun _ h=>(by cases h)⟩;rcases mK h with ⟨rfl,rfl,rfl,_⟩ | ⟨g,cur,rfl,_,h2,h3⟩
 · exact .inl ⟨rfl,rfl⟩
 · exact .inr ⟨g,cap,cur,rfl,m.ge _ (cc hk) g rfl,h2,h3⟩
theorem cK.bo(m:cK w0 w is)(k:Nat){g:Nat}{cs:List aj}{t:be}(hk:is[k]? = some (bI g cs t)){n c:Nat}(hl:cs.length=n*c)(hm:n≤maxLen):Ow w0 w [] t c (some ⟨g,0,none⟩) n n cs :=
 Ow.mk' (m.b k hk) (m.ge _ (cc hk) g rfl) hl hm
theorem cK.toO(m:cK w0 w is)(k:Nat){g:Nat}{cs:List aj}{t:be}(hk:is[k]? = some (bI g cs t)){n c:Nat}(hl:cs.length=n*c)(hm:n≤maxLen):∃i,i=oI t c (some ⟨g,0,none⟩) n n cs∧i.P w:=⟨_,rfl,(m.bo k hk hl hm).own.1,.inr ⟨g,n,_,rfl,cd _,m.b k hk,bi _,hm,by simpa using hl,by simp[←hl]⟩⟩
theorem cK.new{i:It}(m:cK w0 w is)(e:dU w w')(hi:i.P w')(hg:∀b,i.own b→w.heap.size≤b):cK w0 w' (i::is):=by
 have m':=m.ext' e;refine⟨m'.ext,fun j hj=>?_,fun j hj=>?_,ej.2 ⟨fun j hj b h1 h2=>?_,m'.nd⟩⟩
 · rcases bn.1 hj with rfl | hj
   · exact hi
   · exact m'.all j hj
 · rcases bn.1 hj with rfl | hj
   · exact fun b hb=>ak m.ext.size (hg b hb)
   · exact m'.ge j hj
 · have:=j.lt w b (m.all j hj) h2
   have:=hg b h1;omega
theorem cK.newB{g:Nat}{cs:List aj}{t:be}(m:cK w0 w is)(e:dU w w')(hg:w.heap.size≤g)(hB:gG w' g cs t):cK w0 w' (bI g cs t::is):=m.new e hB (fun b h=>by cases h;exact hg)
theorem cK.newO{S:List (Option Nat)}{E:be}{c n cap:Nat}{A:Option Addr}{xs:List aj}(m:cK w0 w is)(e:dU w w')(h:Ow w w' S E c A n cap xs):cK w0 w' (oI E c A n cap xs::is):=by
 refine m.new e (i:=oI E c A n cap xs) ?_ h.ge;refine⟨h.own.1,?_⟩;rcases h.cases with ⟨rfl,rfl,rfl,_⟩ | ⟨g,cur,rfl,_,h2,h3⟩
 · exact .inl ⟨rfl,rfl⟩
 · exact .inr ⟨g,cap,cur,rfl,cd _,h2,h3⟩
theorem cK.nilO(m:cK w0 w is)(E:be)(c:Nat):cK w0 w (oI E c none 0 0 []::is):=m.newO (dU.refl w) (Ow.nil w w E c)
theorem Pp{i i':It}:∀(is:List It) (k:Nat),is.Pairwise Ap→is[k]? = some i→(∀x∈is,Ap i x→Ap i' x)→(is.set k i').Pairwise Ap
 | [],_,_,h,_=>by cases h
 | j::is,0,hp,h,hc=>by
  cases h;rw[ba];have:=ej.1 hp;exact ej.2 ⟨fun x hx=>hc x (cw _ hx) (this.1 x hx),this.2⟩
 | j::is,k+1,hp,h,hc=>by
  rw[a_];have hp':=ej.1 hp;have h':is[k]? = some i:=h;refine ej.2 ⟨fun x hx=>?_,Pp is k hp'.2 h' fun x hx=>hc x (cw _ hx)⟩;rcases gt hx with hx | rfl
  · exact hp'.1 x hx
  · exact (hc j (cu ..) (hp'.1 i (cc h')).symm).symm
theorem cK.put{i i':It}(m:cK w0 w is)(k:Nat)(hk:is[k]? = some i)(hos:w'.os=w.os)(ht:w'.tape=w.tape)(ho:w'.output=w.output)(hs:w.heap.size≤w'.heap.size)(hb:∀b,b<w.heap.size→¬i.own b→w'.heap[b]? = w.heap[b]?)
 (hi:i'.P w') (hid:(∀b,i'.own b→i.own b)∨∀b,i'.own b→w.heap.size≤b):cK w0 w' (is.set k i'):=by
 have hmem:=cc hk;refine⟨⟨hos.trans m.ext.os,ht.trans m.ext.tape,ho.trans m.ext.output,ak m.ext.size hs,fun b hlt=>(hb b (Nat.lt_of_lt_of_le hlt m.ext.size) fun e=>?_).trans (Below.block m.ext b hlt)⟩,fun j hj=>?_,fun j hj b hjb=>?_,Pp is k m.nd hk fun x hx ha b h1 h2=>?_⟩
 · have:=m.ge i hmem b e
   omega
 · obtain⟨q,hq,e⟩:=List.getElem_of_mem hj
   rw[List.getElem_set] at e;split at e
   · subst e;exact hi
   · rename_i hne
     rw[List.length_set] at hq;have hj':j∈is:=e▸dl hq;have hq':is[q]? = some j:=by rw[←e];exact ao hq
     refine j.st w w' (m.all j hj') hs fun b hjb=>hb b (j.lt w b (m.all j hj') hjb) fun hib=>?_;have hklt:k<is.length:=(bq.1 hk).1;have hki:is[k]=i:=(bq.1 hk).2;rcases Nat.lt_or_gt_of_ne hne with h | h
     · have:=kg.1 m.nd k q hklt hq h
       rw[hki,e] at this;exact this b hib hjb
     · have:=kg.1 m.nd q k hq hklt h
       rw[hki,e] at this;exact this b hjb hib
 · rcases gt hj with hj | rfl
   · exact m.ge j hj b hjb
   · rcases hid with hid | hid
     · exact m.ge i hmem b (hid b hjb)
     · exact ak m.ext.size (hid b hjb)
 · rcases hid with hid | hid
   · exact ha b (hid b h1) h2
   · have:=hid b h1
     have:=x.lt w b (m.all x hx) h2;omega
theorem cK.re(m:cK w0 w is)(k:Nat){g:Nat}{cs cs':List aj}{t:be}(hk:is[k]? = some (bI g cs t))(hB:gG w g cs' t):cK w0 w (is.set k (bI g cs' t)) :=
 m.put k hk rfl rfl rfl (bi _) (fun _ _ _=>rfl) hB (.inl fun _ h=>h)
theorem cK.reO(m:cK w0 w is)(k:Nat){E:be}{c n cap n' cap':Nat}{A:Option Addr}{xs xs':List aj}(hk:is[k]? = some (oI E c A n cap xs))(h:Ow w0 w [] E c A n' cap' xs'):cK w0 w (is.set k (oI E c A n' cap' xs')):=by
 refine m.put k hk rfl rfl rfl (bi _) (fun _ _ _=>rfl) ?_ (.inl fun _ h=>h);refine⟨h.own.1,?_⟩;rcases h.cases with ⟨rfl,rfl,rfl,_⟩ | ⟨g,cur,rfl,_,h2,h3⟩
 · exact .inl ⟨rfl,rfl⟩
 · exact .inr ⟨g,cap',cur,rfl,cd _,h2,h3⟩
theorem cK.own(m:cK w0 w is)(k:Nat){g:Nat}{cs:List aj}{t:be}(hk:is[k]? = some (bI g cs t)){n c:Nat}(hl:cs.length=n*c)(hm:n≤maxLen):cK w0 w (is.set k (oI t c (some ⟨g,0,none⟩) n n cs)):=by
 obtain⟨i,rfl,h⟩:=m.toO k hk hl hm;exact m.put k hk rfl rfl rfl (bi _) (fun _ _ _=>rfl) h (.inl fun _ h=>h)
theorem bZ{a b:Nat}(h:Nat.ble a b=true):a≤b:=Nat.le_of_ble_eq_true h
theorem lY{us:List aj}(h:(us.all (·.oneCell'))=true):∀u∈us,u.oneCell'=true:=fun u hu=>g_.1 h u hu
end
section
variable {P:cj} {ds:List dp} {l:List aj} {x y:bm} {T ty:be}
variable {ops:Array Oper} {Q:Exit→Act→aw→Prop} {rest:List Oper} {d:Nat} {pos:String} {after:Array Edge} {w w0:aw} {is:List It}
theorem agk{cs:List aj}(m:cK w0 w is)(hv:(ev l x).cells=cs.toArray)(h:∀g u,cK w0 u (bI g cs T::is)→bh P ops Q rest (Fr (l.set d (.pointer (some ⟨g,0,none⟩))) ds) u) :
 bh P ops Q (bx (some d) (.box T x) ty pos after none::rest) (Fr l ds) w:=gX hv fun u g e hg hB=>h g u (m.newB e hg hB)
theorem bE{cs:List aj}{z:aj}(m:cK w0 w is)(hZ:mB P T z)(hv:z.cells=cs.toArray)(h:∀g u,cK w0 u (bI g cs T::is)→bh P ops Q rest (Fr (l.set d (.pointer (some ⟨g,0,none⟩))) ds) u) :
 bh P ops Q (bx (some d) (.alloc T) ty pos after none::rest) (Fr l ds) w:=eK hZ hv fun u g e hg hB=>h g u (m.newB e hg hB)
theorem Xv{g off:Nat}{cs us:List aj}{t:be}(m:cK w0 w is)(k:Nat)(hk:is[k]? = some (bI g cs t))(hx:ev l x=.pointer (some ⟨g,off,none⟩))(hv:(ev l y).cells=us.toArray)(hc:fI P T us.length)(hfit:off+us.length≤cs.length)(h1:(us.all (·.oneCell'))=true)
 (h:∀u,cK w0 u (is.set k (bI g (aW cs off us) t))→bh P ops Q rest (Fr l ds) u):bh P ops Q (bx none (.store T x y) ty pos after none::rest) (Fr l ds) w :=
 cE hx hv hc (m.b k hk) hfit (lY h1) fun u hC hB=>h u (m.put k hk hC.os hC.tape hC.output (by rw[hC.size];exact bi _) (fun b _ hne=>hC.block b fun e=>hne (by rw[e];rfl)) hB (.inl fun _ h=>h))
theorem Rs{g off:Nat}{us xs:List aj}{E:be}{c n cap:Nat}(m:cK w0 w is)(k:Nat)(hk:is[k]? = some (oI E c (some ⟨g,0,none⟩) n cap xs))(hx:ev l x=.pointer (some ⟨g,off,none⟩))(hv:(ev l y).cells=us.toArray)(hc:fI P T us.length)(hfit:off+us.length≤n*c)(h1:(us.all (·.oneCell'))=true)
 (h:∀u,cK w0 u (is.set k (oI E c (some ⟨g,0,none⟩) n cap (aW xs off us)))→bh P ops Q rest (Fr l ds) u):bh P ops Q (bx none (.store T x y) ty pos after none::rest) (Fr l ds) w :=
 Xu hx hv hc (m.o k hk) hfit (lY h1) fun u hW hO=>h u (m.put k hk hW.os hW.tape hW.output hW.size (fun b hb hne=>hW.block b hb hne) (by
  refine⟨hO.own.1,?_⟩;rcases hO.cases with ⟨e,_⟩ | ⟨g,cur,e,_,h2,h3⟩
  · cases e
  · cases e;exact .inr ⟨_,cap,cur,rfl,cd _,h2,h3⟩) (.inl fun _ h=>h))
theorem aX{v:aj}{f:FuncId}{fo:bm}{xs:Array bm}{args:List aj}{first cap:Array aj}{a0:Array be}(m:cK w0 w is)(hf:ev l fo=.func (.func f) first cap)(hxs:first.toList++xs.toList.map (ev l)++cap.toList=args)(hc:eB P f args v)
 (h:∀u,cK w0 u is→bh P ops Q rest (Fr (l.set d v) ds) u):bh P ops Q (bx (some d) (.call { callee:=.value fo,args:=xs,argTypes:=a0 }) ty pos after none::rest) (Fr l ds) w :=
 gK hf hxs hc fun u e=>h u (m.ext' e)
theorem fJ{f:FuncId}{fo:bm}{xs:Array bm}{args:List aj}{first cap:Array aj}{a0:Array be}{R:aj→aw→Prop}(m:cK w0 w is)(hf:ev l fo=.func (.func f) first cap)(hxs:first.toList++xs.toList.map (ev l)++cap.toList=args)(hc:gZ P f args w R)
 (h:∀v u,cK w0 u is→R v u→bh P ops Q rest (Fr (l.set d v) ds) u):bh P ops Q (bx (some d) (.call { callee:=.value fo,args:=xs,argTypes:=a0 }) ty pos after none::rest) (Fr l ds) w :=
 bT hf hxs hc fun v u e hR=>h v u (m.ext' e) hR
def OR(E:be)(c:Nat)(R:List aj→Prop)(w:aw)(v:aj)(w':aw):Prop:=∃A n cap xs,v=.slice A n cap∧Ow w w' [] E c A n cap xs∧R xs
theorem eM{E:be}{c n cap b nm mcap:Nat}{A B:Option Addr}{z:aj}{xs news:List aj}{a0:Array be}(m:cK w0 w is)(k:Nat)(hk:is[k]? = some (oI E c A n cap xs))(ha:a0 = #[T,T])(hu:P.underlying T=some (.slice E))(hi:(P.info? E).map (fun i=>(i.size,i.bytes,i.zero))=some (c,b,some z))(hz:z.cells.size=c)(hc:0<c)
 (hs:ev l x=.slice A n cap) (hx:ev l y=.slice B nm mcap) (hl:news.length=nm*c) (hrow:∀j u,news[j]? = some u→∃a,B=some a∧w.cell? (a.add j)=some u) (h1:∀u∈news,u.oneCell'=true) (h63:n+nm≤9223372036854775807) (hbytes:(n+nm)*b≤140737488355328)
 (h:∀A' cap' u,cK w0 u (is.set k (oI E c A' (n+nm) cap' (xs++news)))→bh P ops Q rest (Fr (l.set d (.slice A' (n+nm) cap')) ds) u) :
 bh P ops Q (bx (some d) (.call { callee:=.builtin .append,args:=#[x,y],argTypes:=a0 }) ty pos after none::rest) (Fr l ds) w :=
 Tz ha hu hi hz hc m.ext hs (m.o k hk) hx hl hrow h1 h63 hbytes fun A' cap' u hO hW hF=>h A' cap' u (m.put k hk hW.os hW.tape hW.output hW.size (fun b hb hne=>hW.block b hb hne) (by
  refine⟨hO.own.1,?_⟩;rcases hO.cases with ⟨rfl,e1,rfl,_⟩ | ⟨g,cur,rfl,_,h2,h3⟩
  · exact .inl ⟨by rw[e1],e1⟩
  · exact .inr ⟨g,cap',cur,rfl,cd _,h2,h3⟩) (by
  rcases hF with rfl | hF
  · exact .inl fun _ h=>h
  · exact .inr fun b hb=>by
     have e:Bt A'=some b:=hb;rw[hF] at e;cases e;exact bi _))
theorem cQ{cs:List aj}(m:cK w0 w is)(hv:ev l x=.agg cs.toArray)(h:∀g u,cK w0 u (bI g cs T::is)→bh P ops Q rest (Fr (l.set d (.pointer (some ⟨g,0,none⟩))) ds) u) :
 bh P ops Q (bx (some d) (.box T x) ty pos after none::rest) (Fr l ds) w:=agk m (by rw[hv];rfl) h
theorem aN{g off:Nat}{cs us:List aj}{t:be}(m:cK w0 w is)(k:Nat)(hk:is[k]? = some (bI g cs t))(hx:ev l x=.pointer (some ⟨g,off,none⟩))(hv:ev l y=.agg us.toArray)(hc:fI P T us.length)(hfit:off+us.length≤cs.length)(h1:(us.all (·.oneCell'))=true)
 (h:∀u,cK w0 u (is.set k (bI g (aW cs off us) t))→bh P ops Q rest (Fr l ds) u):bh P ops Q (bx none (.store T x y) ty pos after none::rest) (Fr l ds) w:=Xv m k hk hx (by rw[hv];rfl) hc hfit h1 h
theorem dL{g off:Nat}{cs:List aj}{v:aj}{t:be}(m:cK w0 w is)(k:Nat)(hk:is[k]? = some (bI g cs t))(hx:ev l x=.pointer (some ⟨g,off,none⟩))(hv:ev l y=v)(hc:fI P T 1)(hfit:off+1≤cs.length)(h1:v.oneCell'=true∧v.cells = #[v])
 (h:∀u,cK w0 u (is.set k (bI g (aW cs off [v]) t))→bh P ops Q rest (Fr l ds) u):bh P ops Q (bx none (.store T x y) ty pos after none::rest) (Fr l ds) w:=Xv (us:=[v]) m k hk hx (by rw[hv,h1.2]) hc hfit (by simp[h1.1]) h
theorem gG.full{g:Nat}{cs:List aj}{t:be}(h:gG w g cs t)(hA:iS P T true)(hc:fI P T cs.length):sJ P w T ⟨g,0,none⟩ (.agg cs.toArray):=by
 have:=h.row 0;rw[fg] at this;exact this.lies hA hc
theorem cK.s01{w0 w:aw}{i j:It}{is:List It}(m:cK w0 w (i::j::is)):cK w0 w (j::i::is):=by
 have h1:=ej.1 m.nd;have h2:=ej.1 h1.2;refine⟨m.ext,fun x hx=>m.all x ?_,fun x hx=>m.ge x ?_,ej.2 ⟨fun x hx=>?_,ej.2 ⟨fun x hx=>h1.1 x (cw _ hx),h2.2⟩⟩⟩
 · simp only[bn] at hx ⊢;rcases hx with h | h | h <;> simp[h]
 · simp only[bn] at hx ⊢;rcases hx with h | h | h <;> simp[h]
 · rcases bn.1 hx with rfl | hx
   · exact (h1.1 _ (cu ..)).symm
   · exact h2.1 x hx
/-! ### Regions -/
theorem dO{id:Nat}{a:Act}{l:List Oper}(m:cK w0 w is)(n:Nat)(hm:P.follows .mixedOrders=true)(hB:Region.lexTailB .any l.toArray n=true)
 (h:ck P l.toArray (fun u=>cK w0 u is) (fun a'=>∀u,cK w0 u is→bh P l.toArray Q (l.drop n) a' u) (l.take n) a):(Code.region id l.toArray true).wp P Q a w :=
 oS (C:=fun u=>cK w0 u is) n hm hB (m.ext' (dU.refl w).drawn) h
theorem mq{id:Nat}{a:Act}{l:List Oper}(m:cK w0 w is)(hm:P.follows .mixedOrders=true)(hB:Region.lexB .any l.toArray=true)
 (h:ck P l.toArray (fun u=>cK w0 u is) (fun a'=>∀u,cK w0 u is→Q .normal a' u) l a):(Code.region id l.toArray true).wp P Q a w :=
 wp_region_quiet (C:=fun u=>cK w0 u is) hm hB (m.ext' (dU.refl w).drawn) (by simpa using h)
theorem mh{id:Nat}{a:Act}{l:List Oper}(m:cK w0 w is)(bs:List Bool)(o:List (Nat × Bool))(hm:P.follows .mixedOrders=true)(hB:(Region.noSelect l.toArray&&decide (o.length=l.length)&&Af .any l.toArray o (ff l.toArray.size false))=true)
 (hQ:∀c d v a w,Q (.panic c) (Act.put a d v) w→Q (.panic c) a w) {ol:List (Oper × Bool)} (hol:(o.map fun x=>((l.toArray[x.1]?).getD default,x.2))=ol)
 (h:∀u,cK w0 u is→eO P l.toArray (fun u=>cK w0 u (Mo bs is)) Q ol a u):(Code.region id l.toArray true).wp P Q a w :=
 eF o hm hB hQ hol fun u e=>⟨fun u=>cK w0 u (Mo bs is),(m.ext' e).sel bs,h u (m.ext' e)⟩
theorem lG{id:Nat}{a:Act}{l:List Oper}(m:cK w0 w is)(bs:List Bool)(t:qA)(hm:P.follows .mixedOrders=true)(hB:(Region.noSelect l.toArray&&t.ok .any l.toArray l.toArray.size (ff l.toArray.size false))=true)
 (hQ:∀c d v a w,Q (.panic c) (Act.put a d v) w→Q (.panic c) a w)
 (h:∀u,cK w0 u is→eJ P l.toArray (fun u=>cK w0 u (Mo bs is)) Q t a u):(Code.region id l.toArray true).wp P Q a w :=
 Ea t hm hB hQ fun u e=>⟨fun u=>cK w0 u (Mo bs is),(m.ext' e).sel bs,h u (m.ext' e)⟩
theorem mf1{tl:List Oper}{i d:Nat}{T:be}{cs:List aj}(m:cK w0 w is)(h:∀g u,cK w0 u (bI g cs T::is)→bh P ops Q tl (Fr (l.set d (.pointer (some ⟨g,0,none⟩))) ds) u) :
 ∀E w',dU w w'→xE w.heap.size E [⟨i,d,T,cs⟩] w'→(∀x∈[(⟨i,d,T,cs⟩:Al)],∃v,E x.i=some v)→bh P ops Q tl (fW E [⟨i,d,T,cs⟩] (Fr l ds)) w' :=
 adw fun u g e hg hB=>h g u (m.newB e hg hB)
theorem cK.newB2{w w':aw}{is:List It}{g g2:Nat}{cs cs2:List aj}{t t2:be}(m:cK w0 w is)(e:dU w w')(hg:w.heap.size≤g)(hg2:w.heap.size≤g2)(hB:gG w' g cs t)(hB2:gG w' g2 cs2 t2)(hne:g2≠g):cK w0 w' (bI g2 cs2 t2::bI g cs t::is):=by
 have m1:=m.newB e hg hB;refine⟨m1.ext,fun j hj=>?_,fun j hj=>?_,ej.2 ⟨fun j hj b h1 h2=>?_,m1.nd⟩⟩
 · rcases bn.1 hj with rfl | hj
   · exact hB2
   · exact m1.all j hj
 · rcases bn.1 hj with rfl | hj
   · exact fun b hb=>by cases hb;exact ak m.ext.size hg2
   · exact m1.ge j hj
 · cases h1
   rcases bn.1 hj with rfl | hj
   · cases h2;exact hne rfl
   · have:=j.lt w _ (m.all j hj) h2
     omega
theorem cK.newB3{w w':aw}{is:List It}{g g2 g3:Nat}{cs cs2 cs3:List aj}{t t2 t3:be}(m:cK w0 w is)(e:dU w w')(hg:w.heap.size≤g)(hg2:w.heap.size≤g2)(hg3:w.heap.size≤g3)(hB:gG w' g cs t)(hB2:gG w' g2 cs2 t2)(hB3:gG w' g3 cs3 t3)(hne:g2≠g)(hn2:g3≠g)(hn3:g3≠g2):cK w0 w' (bI g3 cs3 t3::bI g2 cs2 t2::bI g cs t::is):=by
 have m1:=m.newB2 e hg hg2 hB hB2 hne;refine⟨m1.ext,fun j hj=>?_,fun j hj=>?_,ej.2 ⟨fun j hj b h1 h2=>?_,m1.nd⟩⟩
 · rcases bn.1 hj with rfl | hj
   · exact hB3
   · exact m1.all j hj
 · rcases bn.1 hj with rfl | hj
   · exact fun b hb=>by cases hb;exact ak m.ext.size hg3
   · exact m1.ge j hj
 · cases h1
   rcases bn.1 hj with rfl | hj
   · cases h2;exact hn3 rfl
   · rcases bn.1 hj with rfl | hj
     · cases h2;exact hn2 rfl
     · have:=j.lt w _ (m.all j hj) h2
       omega
theorem mf2{tl:List Oper}{i d j e:Nat}{T U:be}{cs us:List aj}(m:cK w0 w is)(hij:i≠j)(h:∀g k u,cK w0 u (bI k us U::bI g cs T::is)→bh P ops Q tl (Fr ((l.set d (.pointer (some ⟨g,0,none⟩))).set e (.pointer (some ⟨k,0,none⟩))) ds) u) :
 ∀E w',dU w w'→xE w.heap.size E [⟨i,d,T,cs⟩,⟨j,e,U,us⟩] w'→(∀x∈[(⟨i,d,T,cs⟩:Al),⟨j,e,U,us⟩],∃v,E x.i=some v)→bh P ops Q tl (fW E [⟨i,d,T,cs⟩,⟨j,e,U,us⟩] (Fr l ds)) w' :=
 adx hij fun u g k e hg hk hB hK hne=>h g k u (m.newB2 e hg hk hB hK hne)
theorem mf3{tl:List Oper}{i d j e k f:Nat}{T U V:be}{cs us vs:List aj}(m:cK w0 w is)(hij:i≠j)(him:i≠k)(hjm:j≠k)(h:∀g p q u,cK w0 u (bI q vs V::bI p us U::bI g cs T::is)→bh P ops Q tl (Fr (((l.set d (.pointer (some ⟨g,0,none⟩))).set e (.pointer (some ⟨p,0,none⟩))).set f (.pointer (some ⟨q,0,none⟩))) ds) u) :
 ∀E w',dU w w'→xE w.heap.size E [⟨i,d,T,cs⟩,⟨j,e,U,us⟩,⟨k,f,V,vs⟩] w'→(∀x∈[(⟨i,d,T,cs⟩:Al),⟨j,e,U,us⟩,⟨k,f,V,vs⟩],∃v,E x.i=some v)→bh P ops Q tl (fW E [⟨i,d,T,cs⟩,⟨j,e,U,us⟩,⟨k,f,V,vs⟩] (Fr l ds)) w' :=
 ady hij him hjm fun u g p q e hg hp hq hB hP hQ n1 n2 n3=>h g p q u (m.newB3 e hg hp hq hB hP hQ n1 n2 n3)
theorem afK{c:Code}{a:Act}{l:Nat→Nat→List aj}{c1 c2:List aj}{T1 T2:be}(m:cK w0 w is)(h1:c.wp P (fun e a' u=>e=.normal∧∃g k,a'=Fr (l g k) ds∧cK w0 u (bI k c2 T2::bI g c1 T1::is)) a w)
 (h2:∀g k u,cK w0 u (bI k c2 T2::bI g c1 T1::is)→Q .normal (Fr (l g k) ds) u):c.wp P Q a w:=by
 refine Code.wp_mono ?_ h1;rintro e a' u ⟨rfl,g,k,rfl,m'⟩;exact h2 g k u m'
end
section
variable {P:cj} {w0:aw} {is:List It} {l:List aj} {x y:bm} {T ty:be}
variable {ops:Array Oper} {Q:Act→Prop} {rest:List Oper} {d:Nat} {pos:String} {after:Array Edge} {v:aj} {ds:List dp}
theorem ql{a:Addr}(hx:ev l x=.pointer (some a))(hv:∀u,cK w0 u is→sJ P u T a v)(h:ck P ops (fun u=>cK w0 u is) Q rest (Fr (l.set d v) ds)):ck P ops (fun u=>cK w0 u is) Q (bx (some d) (.load T x) ty pos after none::rest) (Fr l ds) :=
 Io (fun u m=>lM hx (hv u m)) h
theorem qc{f:FuncId}{fo:bm}{xs:Array bm}{args:List aj}{first cap:Array aj}{a0:Array be}(hf:ev l fo=.func (.func f) first cap)(hxs:first.toList++xs.toList.map (ev l)++cap.toList=args)(hc:∀u,cK w0 u is→gZ P f args u fun x _=>x=v)
 (h:ck P ops (fun u=>cK w0 u is) Q rest (Fr (l.set d v) ds)):ck P ops (fun u=>cK w0 u is) Q (bx (some d) (.call { callee:=.value fo,args:=xs,argTypes:=a0 }) ty pos after none::rest) (Fr l ds):=by
 refine wpQuiet_step fun K hK=>?_;rw[if_pos (by simp[Region.wanted])];refine⟨v,fun w' hw=>?_,?_⟩
 · unfold ji
   rw[jS,oU (hc w' hw).1 hf hxs _ rfl];refine⟨rfl,(hc w' hw).2.mono ?_⟩;rintro e w'' ⟨u,rfl,hE,rfl⟩;exact⟨rfl,hw.ext' hE⟩
 · show K ((Fr l ds).put (some d) v)
   rw[jM];exact hK _ h
theorem gV{f:FuncId}{fo:bm}{xs:Array bm}{args:List aj}{first cap:Array aj}{a0:Array be}(hf:ev l fo=.func (.func f) first cap)(hxs:first.toList++xs.toList.map (ev l)++cap.toList=args)(hc:eB P f args v)
 (h:ck P ops (fun u=>cK w0 u is) Q rest (Fr (l.set d v) ds)):ck P ops (fun u=>cK w0 u is) Q (bx (some d) (.call { callee:=.value fo,args:=xs,argTypes:=a0 }) ty pos after none::rest) (Fr l ds):=qc hf hxs (fun u _=>hc u) h
end
end Go.Lith
namespace Go.Proofs.YtimjandkmfcmiaaGreatDoor
open Go.Proofs.Tryz
open Go.RowKit Go.Lith
set_option maxRecDepth 100000
attribute [local irreducible] bh ck eY eO eJ Code.wp
theorem afL{p:P3}:eB prog 150 [pt p] (.int .i64 p.x):=by
 intro w;refine⟨Vz,?_⟩;have m:=cK.refl w
 go_enter func150,ntmps150
 refine aF fun K1 k1=>aa (cQ m rfl ?_);clear m;intro g1 u m;refine aA aD (aC (k1 _ _ ?_));refine aF fun K2 k2=>aa (aA (aG (c:=0) Aq rfl aM rfl rfl) ?_);simp only[zz];refine aI rfl ((m.b 0 rfl).lies1 aV rfl) ?_;simp only[zz];refine aA aD (aC (k2 _ _ ?_));refine bc ?_;simp only[zz];try simp only[ac,af,if_true]
 refine bY rfl rfl ?_;try simp only[zD,zE]
 exact⟨_,rfl,m.ext,rfl⟩
theorem afM{p:P3}:eB prog 151 [pt p] (.int .i64 p.y):=by
 intro w;refine⟨Wa,?_⟩;have m:=cK.refl w
 go_enter func151,ntmps151
 refine aF fun K1 k1=>aa (cQ m rfl ?_);clear m;intro g1 u m;refine aA aD (aC (k1 _ _ ?_));refine aF fun K2 k2=>aa (aA (aG (c:=0) Aq rfl aM rfl rfl) ?_);simp only[zz];refine aI rfl ((m.b 0 rfl).lies1 aV rfl) ?_;simp only[zz];refine aA aD (aC (k2 _ _ ?_));refine bc ?_;simp only[zz];try simp only[ac,af,if_true]
 refine bY rfl rfl ?_;try simp only[zD,zE]
 exact⟨_,rfl,m.ext,rfl⟩
theorem afN{p:P3}:eB prog 152 [pt p] (.int .i64 p.z):=by
 intro w;refine⟨Wb,?_⟩;have m:=cK.refl w
 go_enter func152,ntmps152
 refine aF fun K1 k1=>aa (cQ m rfl ?_);clear m;intro g1 u m;refine aA aD (aC (k1 _ _ ?_));refine aF fun K2 k2=>aa (aA (aG (c:=0) Aq rfl aM rfl rfl) ?_);simp only[zz];refine aI rfl ((m.b 0 rfl).lies1 aV rfl) ?_;simp only[zz];refine aA aD (aC (k2 _ _ ?_));refine bc ?_;simp only[zz];try simp only[ac,af,if_true]
 refine bY rfl rfl ?_;try simp only[zD,zE]
 exact⟨_,rfl,m.ext,rfl⟩
theorem adA  : eB prog 137 [] (.agg #[.func (.func 150) #[] #[],.func (.func 151) #[] #[],.func (.func 152) #[] #[]]):=by
 intro w;refine⟨Vy,?_⟩;have m:=cK.refl w
 go_enter func137,ntmps137
 refine aF fun K1 k1=>aa (bE m Dl rfl ?_);clear m;intro g1 u m;refine aC (k1 _ _ ?_);refine aF fun K2 k2=>aa (aA (rN rfl rfl rfl) ?_);simp only[zz];refine aN m 0 rfl rfl rfl vS (bZ rfl) rfl ?_;clear m;intro u m;simp only[zy,zx,aW,zF,zG,ab] at m;refine aC (k2 _ _ ?_);refine bc ?_;try simp only[ac,af,if_true]
 refine bY rfl ⟨_,rfl,((m.b 0 rfl).full Rc vS)⟩ ?_;try simp only[zD,zE]
 exact⟨_,rfl,m.ext,rfl⟩
theorem Xw  : eB prog 138 [.int .i64 0] (.tuple #[.int .i64 1,.int .i64 2]):=by
 intro w;refine⟨On,?_⟩;have m:=cK.refl w
 go_enter func138,ntmps138
 refine aF fun K1 k1=>aa (aA aD (aA aD (aC (k1 _ _ ?_))));refine aF fun K2 k2=>aa (aA aB (aA (aZ (m:=0) (n:=1) (r:=1) rfl rfl (by decide)) ?_));simp only[zz];refine aA (fL (m:=1) (n:=3) (r:=1) rfl rfl (by decide) (by decide)) (aA aB (aA (aZ (m:=0) (n:=2) (r:=2) rfl rfl (by decide)) (aA (fL (m:=2) (n:=3) (r:=2) rfl rfl (by decide) (by decide)) ?_)));simp only[zz];refine aA aD (aA aD (aC (k2 _ _ ?_)));refine bc ?_;simp only[zz];try simp only[ac,af,if_true]
 refine kD rfl rfl rfl ?_;try simp only[zD,zE]
 exact⟨_,rfl,m.ext,rfl⟩
theorem Xx  : eB prog 138 [.int .i64 1] (.tuple #[.int .i64 2,.int .i64 0]):=by
 intro w;refine⟨On,?_⟩;have m:=cK.refl w
 go_enter func138,ntmps138
 refine aF fun K1 k1=>aa (aA aD (aA aD (aC (k1 _ _ ?_))));refine aF fun K2 k2=>aa (aA aB (aA (aZ (m:=1) (n:=1) (r:=2) rfl rfl (by decide)) ?_));simp only[zz];refine aA (fL (m:=2) (n:=3) (r:=2) rfl rfl (by decide) (by decide)) (aA aB (aA (aZ (m:=1) (n:=2) (r:=3) rfl rfl (by decide)) (aA (fL (m:=3) (n:=3) (r:=0) rfl rfl (by decide) (by decide)) ?_)));simp only[zz];refine aA aD (aA aD (aC (k2 _ _ ?_)));refine bc ?_;simp only[zz];try simp only[ac,af,if_true]
 refine kD rfl rfl rfl ?_;try simp only[zD,zE]
 exact⟨_,rfl,m.ext,rfl⟩
theorem Xy  : eB prog 138 [.int .i64 2] (.tuple #[.int .i64 0,.int .i64 1]):=by
 intro w;refine⟨On,?_⟩;have m:=cK.refl w
 go_enter func138,ntmps138
 refine aF fun K1 k1=>aa (aA aD (aA aD (aC (k1 _ _ ?_))));refine aF fun K2 k2=>aa (aA aB (aA (aZ (m:=2) (n:=1) (r:=3) rfl rfl (by decide)) ?_));simp only[zz];refine aA (fL (m:=3) (n:=3) (r:=0) rfl rfl (by decide) (by decide)) (aA aB (aA (aZ (m:=2) (n:=2) (r:=4) rfl rfl (by decide)) (aA (fL (m:=4) (n:=3) (r:=1) rfl rfl (by decide) (by decide)) ?_)));simp only[zz];refine aA aD (aA aD (aC (k2 _ _ ?_)));refine bc ?_;simp only[zz];try simp only[ac,af,if_true]
 refine kD rfl rfl rfl ?_;try simp only[zD,zE]
 exact⟨_,rfl,m.ext,rfl⟩
theorem rQ{p q:P3}[I3 p][I3 q]:eB prog 107 [pt p,pt q] (wv (q.sub p)):=by
 intro w;refine⟨acq,?_⟩;have m:=cK.refl w
 go_enter func107,ntmps107
 refine aF fun K1 k1=>aa (cQ m rfl ?_);clear m;intro g1 u m;simp only[zz];refine cQ m rfl ?_;clear m;intro g2 u m;simp only[zz];refine bE m xX rfl ?_;clear m;intro g3 u m;refine aC (k1 _ _ ?_);refine aF fun K2 k2=>aa ?_;simp only[zz];refine bE m xX rfl ?_;clear m;intro g4 u m;refine aC (k2 _ _ ?_);refine aF fun K3 k3=>aF fun K4 k4=>aa ?_;simp only[zz];refine aX m rfl rfl adA ?_;clear m;intro u m;refine aA aB (aC (k4 _ _ ?_));refine av (cz 4 (dT (aF fun K5 k5=>aa (aA (cD (m:=0) (n:=3) rfl rfl (by decide)) (aC (k5 _ _ ?_))))));refine aF fun K6 k6=>bX rfl (ar (k6 _ _ ?_));refine aF fun K7 k7=>av (aF fun K8 k8=>aa (aA aB ?_));simp only[zz];refine aA (wO rfl rfl) (aA aD (aA aD (aC (k8 _ _ ?_))));simp only[zz];refine dO m 11 aP (by kernel_rfl) ?_;simp only[zy];refine aQ aB (aQ aB ?_);simp only[zz];refine ql rfl (fun u m=>((m.b 2 rfl).full bG aL)) ?_;simp only[zz];refine gV rfl rfl afL ?_;simp only[zz];refine gV rfl rfl (mE Iw.h) (aQ aB ?_);simp only[zz];refine ql rfl (fun u m=>((m.b 3 rfl).full bG aL)) ?_;simp only[zz];refine gV rfl rfl afL ?_;simp only[zz];refine gV rfl rfl (mE Iw.h) ?_;simp only[zz];refine gV rfl rfl (sX Bw.up Bw.up) (aQ (aJ jW aH rfl rfl (by decide) (by decide) rfl) (eD ?_));clear m;intro u m;simp only[zz];refine aN m 0 rfl rfl rfl aH (bZ rfl) rfl ?_;clear m;intro u m;simp only[zy,zx,aW,zF,zG,ab] at m;refine aC (k7 _ _ ?_);refine aa (aA (aZ (m:=0) (n:=1) (r:=1) rfl rfl (by decide)) (aA aB (aC (bD (aF fun K9 k9=>aa (aA (cD (m:=1) (n:=3) rfl rfl (by decide)) (aC (k9 _ _ ?_))))))));refine aF fun K10 k10=>bX rfl (ar (k10 _ _ ?_));refine aF fun K11 k11=>av (aF fun K12 k12=>aa (aA aB ?_));simp only[zz];refine aA (wP rfl rfl) (aA aD (aA aD (aC (k12 _ _ ?_))));simp only[zz];refine dO m 11 aP (by kernel_rfl) ?_;simp only[zy];refine aQ aB (aQ aB ?_);simp only[zz];refine ql rfl (fun u m=>((m.b 2 rfl).full bG aL)) ?_;simp only[zz];refine gV rfl rfl afM ?_;simp only[zz];refine gV rfl rfl (mE Iw.h) (aQ aB ?_);simp only[zz];refine ql rfl (fun u m=>((m.b 3 rfl).full bG aL)) ?_;simp only[zz];refine gV rfl rfl afM ?_;simp only[zz];refine gV rfl rfl (mE Iw.h) ?_;simp only[zz];refine gV rfl rfl (sX Bw.up Bw.up) (aQ (aJ jW aH rfl rfl (by decide) (by decide) rfl) (eD ?_));clear m;intro u m;simp only[zz];refine aN m 0 rfl rfl rfl aH (bZ rfl) rfl ?_;clear m;intro u m;simp only[zy,zx,aW,zF,zG,ab] at m;refine aC (k11 _ _ ?_);refine aa (aA (aZ (m:=1) (n:=1) (r:=2) rfl rfl (by decide)) (aA aB (aC (bD (aF fun K13 k13=>aa (aA (cD (m:=2) (n:=3) rfl rfl (by decide)) (aC (k13 _ _ ?_))))))));refine aF fun K14 k14=>bX rfl (ar (k14 _ _ ?_));refine aF fun K15 k15=>av (aF fun K16 k16=>aa (aA aB ?_));simp only[zz];refine aA (wQ rfl rfl) (aA aD (aA aD (aC (k16 _ _ ?_))));simp only[zz];refine dO m 11 aP (by kernel_rfl) ?_;simp only[zy];refine aQ aB (aQ aB ?_);simp only[zz];refine ql rfl (fun u m=>((m.b 2 rfl).full bG aL)) ?_;simp only[zz];refine gV rfl rfl afN ?_;simp only[zz];refine gV rfl rfl (mE Iw.h) (aQ aB ?_);simp only[zz];refine ql rfl (fun u m=>((m.b 3 rfl).full bG aL)) ?_;simp only[zz];refine gV rfl rfl afN ?_;simp only[zz];refine gV rfl rfl (mE Iw.h) ?_;simp only[zz];refine gV rfl rfl (sX Bw.up Bw.up) (aQ (aJ jW aH rfl rfl (by decide) (by decide) rfl) (eD ?_));clear m;intro u m;simp only[zz];refine aN m 0 rfl rfl rfl aH (bZ rfl) rfl ?_;clear m;intro u m;simp only[zy,zx,aW,zF,zG,ab] at m;refine aC (k15 _ _ ?_);refine aa (aA (aZ (m:=2) (n:=1) (r:=3) rfl rfl (by decide)) (aA aB (aC (bD (aF fun K17 k17=>aa (aA (fD (m:=3) (n:=3) rfl rfl (by decide)) (aC (k17 _ _ ?_))))))));refine aF fun K18 k18=>eZ rfl (bw (k3 _ _ ?_));refine aF fun K19 k19=>aa ?_;simp only[zz];refine aI rfl ((m.b 0 rfl).full Cl qJ) ?_;simp only[zz];refine aN m 1 rfl rfl rfl qJ (bZ rfl) rfl ?_;clear m;intro u m;simp only[zy,zx,aW,zF,zG,ab] at m;refine aC (k19 _ _ ?_);refine bc ?_;try simp only[ac,af,if_true]
 refine bY rfl ⟨_,rfl,((m.b 1 rfl).full Cl qJ)⟩ ?_;try simp only[zD,zE]
 exact⟨_,rfl,m.ext,rfl⟩
theorem yN{u v:P3}(hu:Bv 400000 u)(hv:Bv 400000 v):eB prog 108 [wv u,wv v] (wv (u.cross v)):=by
 intro w;refine⟨acr,?_⟩;have m:=cK.refl w
 go_enter func108,ntmps108
 refine aF fun K1 k1=>aa (cQ m rfl ?_);clear m;intro g1 u m;simp only[zz];refine cQ m rfl ?_;clear m;intro g2 u m;simp only[zz];refine bE m xX rfl ?_;clear m;intro g3 u m;refine aC (k1 _ _ ?_);refine aF fun K2 k2=>aa ?_;simp only[zz];refine bE m xX rfl ?_;clear m;intro g4 u m;refine aC (k2 _ _ ?_);refine aF fun K3 k3=>aF fun K4 k4=>aa (aA aB (aC (k4 _ _ ?_)));refine av (cz 4 (dT (aF fun K5 k5=>aa (aA (cD (m:=0) (n:=3) rfl rfl (by decide)) (aC (k5 _ _ ?_))))));refine aF fun K6 k6=>bX rfl (ar (k6 _ _ ?_));refine aF fun K7 k7=>av (aF fun K8 k8=>aa (aA aB ?_));simp only[zz];refine aA aD (aC (k8 _ _ ?_));refine aF fun K9 k9=>aa (aA aB ?_);simp only[zz];refine aX m rfl rfl Xw ?_;clear m;intro u m;refine aA aB (aA (aU rfl rfl) (aA (aU rfl rfl) ?_));simp only[zz];refine aA aD (aA aD (aC (k9 _ _ ?_)));simp only[zz];refine dO m 17 aP (by kernel_rfl) ?_;simp only[zy];refine aQ aB (aQ aB (aQ (aJ jW aH rfl rfl (by decide) (by decide) rfl) ?_));simp only[zz];refine ql rfl (fun u m=>((m.b 3 rfl).lies aT aH rfl rfl)) ?_;simp only[zz,zy,ah,ab,ag,ae];refine aQ aB (aQ (aJ jW aH rfl rfl (by decide) (by decide) rfl) ?_);simp only[zz];refine ql rfl (fun u m=>((m.b 2 rfl).lies aT aH rfl rfl)) ?_;simp only[zz,zy,ah,ab,ag,ae];refine gV rfl rfl (kY Bw.up Bw.up) (aQ aB (aQ (aJ jW aH rfl rfl (by decide) (by decide) rfl) ?_));simp only[zz];refine ql rfl (fun u m=>((m.b 3 rfl).lies aT aH rfl rfl)) ?_;simp only[zz,zy,ah,ab,ag,ae];refine aQ aB (aQ (aJ jW aH rfl rfl (by decide) (by decide) rfl) ?_);simp only[zz];refine ql rfl (fun u m=>((m.b 2 rfl).lies aT aH rfl rfl)) ?_;simp only[zz,zy,ah,ab,ag,ae];refine gV rfl rfl (kY Bw.up Bw.up) ?_;simp only[zz];refine gV rfl rfl (sX Bw.up Bw.up) (aQ (aJ jW aH rfl rfl (by decide) (by decide) rfl) (eD ?_));clear m;intro u m;simp only[zz];refine aN m 0 rfl rfl rfl aH (bZ rfl) rfl ?_;clear m;intro u m;simp only[zy,zx,aW,zF,zG,ab] at m;refine aC (k7 _ _ ?_);refine aa (aA (aZ (m:=0) (n:=1) (r:=1) rfl rfl (by decide)) (aA aB (aC (bD (aF fun K10 k10=>aa (aA (cD (m:=1) (n:=3) rfl rfl (by decide)) (aC (k10 _ _ ?_))))))));refine aF fun K11 k11=>bX rfl (ar (k11 _ _ ?_));refine aF fun K12 k12=>av (aF fun K13 k13=>aa (aA aB ?_));simp only[zz];refine aA aD (aC (k13 _ _ ?_));refine aF fun K14 k14=>aa (aA aB ?_);simp only[zz];refine aX m rfl rfl Xx ?_;clear m;intro u m;refine aA aB (aA (aU rfl rfl) (aA (aU rfl rfl) ?_));simp only[zz];refine aA aD (aA aD (aC (k14 _ _ ?_)));simp only[zz];refine dO m 17 aP (by kernel_rfl) ?_;simp only[zy];refine aQ aB (aQ aB (aQ (aJ jW aH rfl rfl (by decide) (by decide) rfl) ?_));simp only[zz];refine ql rfl (fun u m=>((m.b 3 rfl).lies aT aH rfl rfl)) ?_;simp only[zz,zy,ah,ab,ag,ae];refine aQ aB (aQ (aJ jW aH rfl rfl (by decide) (by decide) rfl) ?_);simp only[zz];refine ql rfl (fun u m=>((m.b 2 rfl).lies aT aH rfl rfl)) ?_;simp only[zz,zy,ah,ab,ag,ae];refine gV rfl rfl (kY Bw.up Bw.up) (aQ aB (aQ (aJ jW aH rfl rfl (by decide) (by decide) rfl) ?_));simp only[zz];refine ql rfl (fun u m=>((m.b 3 rfl).lies aT aH rfl rfl)) ?_;simp only[zz,zy,ah,ab,ag,ae];refine aQ aB (aQ (aJ jW aH rfl rfl (by decide) (by decide) rfl) ?_);simp only[zz];refine ql rfl (fun u m=>((m.b 2 rfl).lies aT aH rfl rfl)) ?_;simp only[zz,zy,ah,ab,ag,ae];refine gV rfl rfl (kY Bw.up Bw.up) ?_;simp only[zz];refine gV rfl rfl (sX Bw.up Bw.up) (aQ (aJ jW aH rfl rfl (by decide) (by decide) rfl) (eD ?_));clear m;intro u m;simp only[zz];refine aN m 0 rfl rfl rfl aH (bZ rfl) rfl ?_;clear m;intro u m;simp only[zy,zx,aW,zF,zG,ab] at m;refine aC (k12 _ _ ?_);refine aa (aA (aZ (m:=1) (n:=1) (r:=2) rfl rfl (by decide)) (aA aB (aC (bD (aF fun K15 k15=>aa (aA (cD (m:=2) (n:=3) rfl rfl (by decide)) (aC (k15 _ _ ?_))))))));refine aF fun K16 k16=>bX rfl (ar (k16 _ _ ?_));refine aF fun K17 k17=>av (aF fun K18 k18=>aa (aA aB ?_));simp only[zz];refine aA aD (aC (k18 _ _ ?_));refine aF fun K19 k19=>aa (aA aB ?_);simp only[zz];refine aX m rfl rfl Xy ?_;clear m;intro u m;refine aA aB (aA (aU rfl rfl) (aA (aU rfl rfl) ?_));simp only[zz];refine aA aD (aA aD (aC (k19 _ _ ?_)));simp only[zz];refine dO m 17 aP (by kernel_rfl) ?_;simp only[zy];refine aQ aB (aQ aB (aQ (aJ jW aH rfl rfl (by decide) (by decide) rfl) ?_));simp only[zz];refine ql rfl (fun u m=>((m.b 3 rfl).lies aT aH rfl rfl)) ?_;simp only[zz,zy,ah,ab,ag,ae];refine aQ aB (aQ (aJ jW aH rfl rfl (by decide) (by decide) rfl) ?_);simp only[zz];refine ql rfl (fun u m=>((m.b 2 rfl).lies aT aH rfl rfl)) ?_;simp only[zz,zy,ah,ab,ag,ae];refine gV rfl rfl (kY Bw.up Bw.up) (aQ aB (aQ (aJ jW aH rfl rfl (by decide) (by decide) rfl) ?_));simp only[zz];refine ql rfl (fun u m=>((m.b 3 rfl).lies aT aH rfl rfl)) ?_;simp only[zz,zy,ah,ab,ag,ae];refine aQ aB (aQ (aJ jW aH rfl rfl (by decide) (by decide) rfl) ?_);simp only[zz];refine ql rfl (fun u m=>((m.b 2 rfl).lies aT aH rfl rfl)) ?_;simp only[zz,zy,ah,ab,ag,ae];refine gV rfl rfl (kY Bw.up Bw.up) ?_;simp only[zz];refine gV rfl rfl (sX Bw.up Bw.up) (aQ (aJ jW aH rfl rfl (by decide) (by decide) rfl) (eD ?_));clear m;intro u m;simp only[zz];refine aN m 0 rfl rfl rfl aH (bZ rfl) rfl ?_;clear m;intro u m;simp only[zy,zx,aW,zF,zG,ab] at m;refine aC (k17 _ _ ?_);refine aa (aA (aZ (m:=2) (n:=1) (r:=3) rfl rfl (by decide)) (aA aB (aC (bD (aF fun K20 k20=>aa (aA (fD (m:=3) (n:=3) rfl rfl (by decide)) (aC (k20 _ _ ?_))))))));refine aF fun K21 k21=>eZ rfl (bw (k3 _ _ ?_));refine aF fun K22 k22=>aa ?_;simp only[zz];refine aI rfl ((m.b 0 rfl).full Cl qJ) ?_;simp only[zz];refine aN m 1 rfl rfl rfl qJ (bZ rfl) rfl ?_;clear m;intro u m;simp only[zy,zx,aW,zF,zG,ab] at m;refine aC (k22 _ _ ?_);refine bc ?_;try simp only[ac,af,if_true]
 refine bY rfl ⟨_,rfl,((m.b 1 rfl).full Cl qJ)⟩ ?_;try simp only[zD,zE]
 exact⟨_,rfl,m.ext,rfl⟩
theorem adB{b:Int}(hb:Bd 1000000 b):eB prog 94 [.agg #[.bool false,.string ⟨#[]⟩],W b] (W (0+b)):=by
 rw[←adu];exact Ro (jT _) hb
end Go.Proofs.YtimjandkmfcmiaaGreatDoor
namespace Go.Proofs.YtimjandkmfcmiaaGreatDoor
open Go.Proofs.Tryz
open Go.RowKit Go.Lith
set_option maxRecDepth 100000
attribute [local irreducible] bh ck eY eO eJ Code.wp
theorem Xz{t:T3}[IT t]:eB prog 70 [tr t] (wv t.normal):=by
 intro w;refine⟨ae8,?_⟩;have m:=cK.refl w
 go_enter func70,ntmps70
 refine aF fun K1 k1=>aa (cQ m rfl ?_);clear m;intro g1 u m;simp only[zz];refine bE m iT rfl ?_;clear m;intro g2 u m;refine aC (k1 _ _ ?_);refine aF fun K2 k2=>?_;simp only[zz];refine dO m 11 aP (by kernel_rfl) ?_;simp only[zy];refine aQ (aJ iC aL rfl rfl (by decide) (by decide) rfl) ?_;simp only[zz];refine ql rfl (fun u m=>((m.b 1 rfl).lies bG aL rfl rfl)) ?_;simp only[zz,zy,ah,ab,ag,ae];refine aQ (aJ iC aL rfl rfl (by decide) (by decide) rfl) ?_;simp only[zz];refine ql rfl (fun u m=>((m.b 1 rfl).lies bG aL rfl rfl)) ?_;simp only[zz,zy,ah,ab,ag,ae];refine gV rfl rfl rQ (aQ (aJ iC aL rfl rfl (by decide) (by decide) rfl) ?_);simp only[zz];refine ql rfl (fun u m=>((m.b 1 rfl).lies bG aL rfl rfl)) ?_;simp only[zz,zy,ah,ab,ag,ae];refine aQ (aJ iC aL rfl rfl (by decide) (by decide) rfl) ?_;simp only[zz];refine ql rfl (fun u m=>((m.b 1 rfl).lies bG aL rfl rfl)) ?_;simp only[zz,zy,ah,ab,ag,ae];refine gV rfl rfl rQ ?_;simp only[zz];refine gV rfl rfl (yN Bv.of Bv.of) (eD ?_);clear m;intro u m;simp only[zz];refine aN m 0 rfl rfl rfl cM (bZ rfl) rfl ?_;clear m;intro u m;simp only[zy,zx,aW,zF,zG,ab] at m;refine aC (k2 _ _ ?_);refine bc ?_;try simp only[ac,af,if_true]
 refine bY rfl ⟨_,rfl,((m.b 0 rfl).full fB cM)⟩ ?_;try simp only[zD,zE]
 exact⟨_,rfl,m.ext,rfl⟩
theorem mR{X:Nat}(w:aw)(hX64:X<18446744073709551616):gZ prog 149 [.int .u64 X] w (fun v _=>∃n:Int,v=.int .i64 n∧0≤n∧n≤64∧(n≤18→X<262144)):=by
 refine⟨acV,?_⟩;have m:=cK.refl w
 go_enter func149,ntmps149
 refine aF fun K1 k1=>aa (aA aD (aC (k1 _ _ ?_)));refine aF fun K2 k2=>aF fun K3 k3=>aa (aA aB (aA (lD rfl rfl) (aC (k3 _ _ ?_))));simp only[zz];refine cW rfl (fun hc1=>?_) (fun hc1=>?_)
 ·
  refine aF fun K4 k4=>aa (aA aB ?_);simp only[zz];refine aA (mG rfl rfl (by omega) Jn) (aA aD (aC (k4 _ _ ?_)));refine aa (aA aD (aC (k2 _ _ ?_)));refine aF fun K5 k5=>aF fun K6 k6=>aa (aA aB ?_);simp only[zz];refine aA (lD rfl rfl) (aC (k6 _ _ ?_));simp only[zz];refine cW rfl (fun hc2=>?_) (fun hc2=>?_)
  ·
   refine aF fun K7 k7=>aa (aA aB ?_);simp only[zz];refine aA (mG rfl rfl (by omega) Xs) (aA aD (aC (k7 _ _ ?_)));refine aa (aA aB (aA (aZ (m:=32) (n:=16) (r:=48) rfl rfl (by decide)) ?_));simp only[zz];refine aA aD (aC (k5 _ _ ?_));refine aF fun K8 k8=>aF fun K9 k9=>aa (aA aB (aA (lD rfl rfl) (aC (k9 _ _ ?_))));simp only[zz];refine cW rfl (fun hc3=>?_) (fun hc3=>?_)
   ·
    refine aF fun K10 k10=>aa (aA aB ?_);simp only[zz];refine aA (mG rfl rfl (by omega) Rr) (aA aD (aC (k10 _ _ ?_)));refine aa (aA aB (aA (aZ (m:=48) (n:=8) (r:=56) rfl rfl (by decide)) ?_));simp only[zz];refine aA aD (aC (k8 _ _ ?_));refine aF fun K11 k11=>aa (aA aB (aA aB (aA (eT nL iB rfl (pY (by omega) (by omega))) ?_)));simp only[zz];refine vC nJ (by kernel_rfl) rfl (by omega) ?_;intro b hb8 hb2;simp only[cU,bS,cA,ap,aq,a_,ba];refine aA (eT jR nL rfl (aO (by omega) (by omega))) ?_;simp only[zz];refine aA (aZ rfl rfl (aO (by omega) (by omega))) (aA aD (aC (k11 _ _ ?_)));refine bc ?_;simp only[zz];try simp only[ac,af,if_true]
    refine bY rfl rfl ?_;try simp only[zD,zE]
    exact⟨_,rfl,m.ext,_,rfl,by omega,by omega,by omega⟩
   ·
    refine ar (k8 _ _ ?_);refine aF fun K12 k12=>aa (aA aB (aA aB (aA (eT nL iB rfl (pY (by omega) (by omega))) ?_)));simp only[zz];refine vC nJ (by kernel_rfl) rfl (by omega) ?_;intro b hb8 hb2;simp only[cU,bS,cA,ap,aq,a_,ba];refine aA (eT jR nL rfl (aO (by omega) (by omega))) ?_;simp only[zz];refine aA (aZ rfl rfl (aO (by omega) (by omega))) (aA aD (aC (k12 _ _ ?_)));refine bc ?_;simp only[zz];try simp only[ac,af,if_true]
    refine bY rfl rfl ?_;try simp only[zD,zE]
    exact⟨_,rfl,m.ext,_,rfl,by omega,by omega,by omega⟩
  ·
   refine ar (k5 _ _ ?_);refine aF fun K13 k13=>aF fun K14 k14=>aa (aA aB (aA (lD rfl rfl) (aC (k14 _ _ ?_))));simp only[zz];refine cW rfl (fun hc3=>?_) (fun hc3=>?_)
   ·
    refine aF fun K15 k15=>aa (aA aB ?_);simp only[zz];refine aA (mG rfl rfl (by omega) Rr) (aA aD (aC (k15 _ _ ?_)));refine aa (aA aB (aA (aZ (m:=32) (n:=8) (r:=40) rfl rfl (by decide)) ?_));simp only[zz];refine aA aD (aC (k13 _ _ ?_));refine aF fun K16 k16=>aa (aA aB (aA aB (aA (eT nL iB rfl (pY (by omega) (by omega))) ?_)));simp only[zz];refine vC nJ (by kernel_rfl) rfl (by omega) ?_;intro b hb8 hb2;simp only[cU,bS,cA,ap,aq,a_,ba];refine aA (eT jR nL rfl (aO (by omega) (by omega))) ?_;simp only[zz];refine aA (aZ rfl rfl (aO (by omega) (by omega))) (aA aD (aC (k16 _ _ ?_)));refine bc ?_;simp only[zz];try simp only[ac,af,if_true]
    refine bY rfl rfl ?_;try simp only[zD,zE]
    exact⟨_,rfl,m.ext,_,rfl,by omega,by omega,by omega⟩
   ·
    refine ar (k13 _ _ ?_);refine aF fun K17 k17=>aa (aA aB (aA aB (aA (eT nL iB rfl (pY (by omega) (by omega))) ?_)));simp only[zz];refine vC nJ (by kernel_rfl) rfl (by omega) ?_;intro b hb8 hb2;simp only[cU,bS,cA,ap,aq,a_,ba];refine aA (eT jR nL rfl (aO (by omega) (by omega))) ?_;simp only[zz];refine aA (aZ rfl rfl (aO (by omega) (by omega))) (aA aD (aC (k17 _ _ ?_)));refine bc ?_;simp only[zz];try simp only[ac,af,if_true]
    refine bY rfl rfl ?_;try simp only[zD,zE]
    exact⟨_,rfl,m.ext,_,rfl,by omega,by omega,by omega⟩
 ·
  refine ar (k2 _ _ ?_);refine aF fun K18 k18=>aF fun K19 k19=>aa (aA aB (aA (lD rfl rfl) (aC (k19 _ _ ?_))));simp only[zz];refine cW rfl (fun hc2=>?_) (fun hc2=>?_)
  ·
   refine aF fun K20 k20=>aa (aA aB ?_);simp only[zz];refine aA (mG rfl rfl (by omega) Xs) (aA aD (aC (k20 _ _ ?_)));refine aa (aA aB (aA (aZ (m:=0) (n:=16) (r:=16) rfl rfl (by decide)) ?_));simp only[zz];refine aA aD (aC (k18 _ _ ?_));refine aF fun K21 k21=>aF fun K22 k22=>aa (aA aB (aA (lD rfl rfl) (aC (k22 _ _ ?_))));simp only[zz];refine cW rfl (fun hc3=>?_) (fun hc3=>?_)
   ·
    refine aF fun K23 k23=>aa (aA aB ?_);simp only[zz];refine aA (mG rfl rfl (by omega) Rr) (aA aD (aC (k23 _ _ ?_)));refine aa (aA aB (aA (aZ (m:=16) (n:=8) (r:=24) rfl rfl (by decide)) ?_));simp only[zz];refine aA aD (aC (k21 _ _ ?_));refine aF fun K24 k24=>aa (aA aB (aA aB (aA (eT nL iB rfl (pY (by omega) (by omega))) ?_)));simp only[zz];refine vC nJ (by kernel_rfl) rfl (by omega) ?_;intro b hb8 hb2;simp only[cU,bS,cA,ap,aq,a_,ba];refine aA (eT jR nL rfl (aO (by omega) (by omega))) ?_;simp only[zz];refine aA (aZ rfl rfl (aO (by omega) (by omega))) (aA aD (aC (k24 _ _ ?_)));refine bc ?_;simp only[zz];try simp only[ac,af,if_true]
    refine bY rfl rfl ?_;try simp only[zD,zE]
    exact⟨_,rfl,m.ext,_,rfl,by omega,by omega,by omega⟩
   ·
    refine ar (k21 _ _ ?_);refine aF fun K25 k25=>aa (aA aB (aA aB (aA (eT nL iB rfl (pY (by omega) (by omega))) ?_)));simp only[zz];refine vC nJ (by kernel_rfl) rfl (by omega) ?_;intro b hb8 hb2;simp only[cU,bS,cA,ap,aq,a_,ba];refine aA (eT jR nL rfl (aO (by omega) (by omega))) ?_;simp only[zz];refine aA (aZ rfl rfl (aO (by omega) (by omega))) (aA aD (aC (k25 _ _ ?_)));refine bc ?_;simp only[zz];try simp only[ac,af,if_true]
    refine bY rfl rfl ?_;try simp only[zD,zE]
    exact⟨_,rfl,m.ext,_,rfl,by omega,by omega,by omega⟩
  ·
   refine ar (k18 _ _ ?_);refine aF fun K26 k26=>aF fun K27 k27=>aa (aA aB (aA (lD rfl rfl) (aC (k27 _ _ ?_))));simp only[zz];refine cW rfl (fun hc3=>?_) (fun hc3=>?_)
   ·
    refine aF fun K28 k28=>aa (aA aB ?_);simp only[zz];refine aA (mG rfl rfl (by omega) Rr) (aA aD (aC (k28 _ _ ?_)));refine aa (aA aB (aA (aZ (m:=0) (n:=8) (r:=8) rfl rfl (by decide)) ?_));simp only[zz];refine aA aD (aC (k26 _ _ ?_));refine aF fun K29 k29=>aa (aA aB (aA aB (aA (eT nL iB rfl (pY (by omega) (by omega))) ?_)));simp only[zz];refine vC nJ (by kernel_rfl) rfl (by omega) ?_;intro b hb8 hb2;simp only[cU,bS,cA,ap,aq,a_,ba];refine aA (eT jR nL rfl (aO (by omega) (by omega))) ?_;simp only[zz];refine aA (aZ rfl rfl (aO (by omega) (by omega))) (aA aD (aC (k29 _ _ ?_)));refine bc ?_;simp only[zz];try simp only[ac,af,if_true]
    refine bY rfl rfl ?_;try simp only[zD,zE]
    exact⟨_,rfl,m.ext,_,rfl,by omega,by omega,by omega⟩
   ·
    refine ar (k26 _ _ ?_);refine aF fun K30 k30=>aa (aA aB (aA aB (aA (eT nL iB rfl (pY (by omega) (by omega))) ?_)));simp only[zz];refine vC nJ (by kernel_rfl) rfl (by omega) ?_;intro b hb8 hb2;simp only[cU,bS,cA,ap,aq,a_,ba];refine aA (eT jR nL rfl (aO (by omega) (by omega))) ?_;simp only[zz];refine aA (aZ rfl rfl (aO (by omega) (by omega))) (aA aD (aC (k30 _ _ ?_)));refine bc ?_;simp only[zz];try simp only[ac,af,if_true]
    refine bY rfl rfl ?_;try simp only[zD,zE]
    exact⟨_,rfl,m.ext,_,rfl,by omega,by omega,by omega⟩
theorem yO{p q:P3}[hp:S3 p][hq:S3 q]:eB prog 134 [pt p,pt q] (nv (q.sub p)):=by
 intro w;refine⟨acO,?_⟩;have m:=cK.refl w;have:=hp.x;have:=hp.y;have:=hp.z;have:=hq.x;have:=hq.y;have:=hq.z
 go_enter func134,ntmps134
 refine aF fun K1 k1=>aa (cQ m rfl ?_);clear m;intro g1 u m;simp only[zz];refine cQ m rfl ?_;clear m;intro g2 u m;simp only[zz];refine bE m xY rfl ?_;clear m;intro g3 u m;refine aC (k1 _ _ ?_);refine aF fun K2 k2=>aa (aA (aG (c:=0) bP rfl aM rfl rfl) ?_);simp only[zz];refine aI rfl ((m.b 1 rfl).lies1 aV rfl) ?_;simp only[zz];refine aA (aG (c:=0) bP rfl aM rfl rfl) ?_;simp only[zz];refine aI rfl ((m.b 2 rfl).lies1 aV rfl) ?_;simp only[zz];refine aA (eH rfl rfl (aO (by omega) (by omega))) (aA (aG (c:=0) bP rfl aM rfl rfl) ?_);simp only[zz];refine aI rfl ((m.b 1 rfl).lies1 aV rfl) ?_;simp only[zz];refine aA (aG (c:=0) bP rfl aM rfl rfl) ?_;simp only[zz];refine aI rfl ((m.b 2 rfl).lies1 aV rfl) ?_;simp only[zz];refine aA (eH rfl rfl (aO (by omega) (by omega))) (aA (aG (c:=0) bP rfl aM rfl rfl) ?_);simp only[zz];refine aI rfl ((m.b 1 rfl).lies1 aV rfl) ?_;simp only[zz];refine aA (aG (c:=0) bP rfl aM rfl rfl) ?_;simp only[zz];refine aI rfl ((m.b 2 rfl).lies1 aV rfl) ?_;simp only[zz];refine aA (eH rfl rfl (aO (by omega) (by omega))) (aA (yD rfl rfl rfl) ?_);simp only[zz];refine aN m 0 rfl rfl rfl sM (bZ rfl) rfl ?_;clear m;intro u m;simp only[zy,zx,aW,zF,zG,ab] at m;refine aC (k2 _ _ ?_);refine bc ?_;try simp only[ac,af,if_true]
 refine bY rfl ⟨_,rfl,((m.b 0 rfl).full Jd sM)⟩ ?_;try simp only[zD,zE]
 exact⟨_,rfl,m.ext,rfl⟩
theorem Gk{u v:P3}(hu:N3 u)(hv:N3 v):eB prog 135 [nv u,nv v] (nv (u.cross v)):=by
 intro w;refine⟨acP,?_⟩;have m:=cK.refl w
 go_enter func135,ntmps135
 refine aF fun K1 k1=>aa (cQ m rfl ?_);clear m;intro g1 u m;simp only[zz];refine cQ m rfl ?_;clear m;intro g2 u m;simp only[zz];refine bE m xY rfl ?_;clear m;intro g3 u m;refine aC (k1 _ _ ?_);refine aF fun K2 k2=>aa ?_;simp only[zz];refine bE m xY rfl ?_;clear m;intro g4 u m;refine aC (k2 _ _ ?_);refine aF fun K3 k3=>aF fun K4 k4=>aa (aA aB (aC (k4 _ _ ?_)));refine av (cz 4 (dT (aF fun K5 k5=>aa (aA (cD (m:=0) (n:=3) rfl rfl (by decide)) (aC (k5 _ _ ?_))))));refine aF fun K6 k6=>bX rfl (ar (k6 _ _ ?_));refine aF fun K7 k7=>av (aF fun K8 k8=>aa (aA aB ?_));simp only[zz];refine aA aD (aC (k8 _ _ ?_));refine aF fun K9 k9=>aa (aA aB ?_);simp only[zz];refine aX m rfl rfl Xw ?_;clear m;intro u m;refine aA aB (aA (aU rfl rfl) (aA (aU rfl rfl) ?_));simp only[zz];refine aA aD (aA aD (aC (k9 _ _ ?_)));simp only[zz];refine dO m 17 aP (by kernel_rfl) ?_;simp only[zy];refine aQ aB (aQ aB (aQ (aJ kS aM rfl rfl (by decide) (by decide) rfl) ?_));simp only[zz];refine ql rfl (fun u m=>((m.b 3 rfl).lies1 aV rfl)) ?_;simp only[zz];refine aQ aB (aQ (aJ kS aM rfl rfl (by decide) (by decide) rfl) ?_);simp only[zz];refine ql rfl (fun u m=>((m.b 2 rfl).lies1 aV rfl)) ?_;simp only[zz];refine aQ (fC rfl rfl (Hp (Ch hu.y hv.z))) (aQ aB (aQ (aJ kS aM rfl rfl (by decide) (by decide) rfl) ?_));simp only[zz];refine ql rfl (fun u m=>((m.b 3 rfl).lies1 aV rfl)) ?_;simp only[zz];refine aQ aB (aQ (aJ kS aM rfl rfl (by decide) (by decide) rfl) ?_);simp only[zz];refine ql rfl (fun u m=>((m.b 2 rfl).lies1 aV rfl)) ?_;simp only[zz];refine aQ (fC rfl rfl (Hp (Ch hu.z hv.y))) (aQ (eH rfl rfl (adz (Ch hu.y hv.z) (Ch hu.z hv.y))) (aQ (aJ kS aM rfl rfl (by decide) (by decide) rfl) (eD ?_)));clear m;intro u m;simp only[zz];refine dL m 0 rfl rfl rfl aM (bZ rfl) ⟨rfl,rfl⟩ ?_;clear m;intro u m;simp only[zz,zy,zx,aW,ab] at m;refine aC (k7 _ _ ?_);refine aa (aA (aZ (m:=0) (n:=1) (r:=1) rfl rfl (by decide)) (aA aB (aC (bD (aF fun K10 k10=>aa (aA (cD (m:=1) (n:=3) rfl rfl (by decide)) (aC (k10 _ _ ?_))))))));refine aF fun K11 k11=>bX rfl (ar (k11 _ _ ?_));refine aF fun K12 k12=>av (aF fun K13 k13=>aa (aA aB ?_));simp only[zz];refine aA aD (aC (k13 _ _ ?_));refine aF fun K14 k14=>aa (aA aB ?_);simp only[zz];refine aX m rfl rfl Xx ?_;clear m;intro u m;refine aA aB (aA (aU rfl rfl) (aA (aU rfl rfl) ?_));simp only[zz];refine aA aD (aA aD (aC (k14 _ _ ?_)));simp only[zz];refine dO m 17 aP (by kernel_rfl) ?_;simp only[zy];refine aQ aB (aQ aB (aQ (aJ kS aM rfl rfl (by decide) (by decide) rfl) ?_));simp only[zz];refine ql rfl (fun u m=>((m.b 3 rfl).lies1 aV rfl)) ?_;simp only[zz];refine aQ aB (aQ (aJ kS aM rfl rfl (by decide) (by decide) rfl) ?_);simp only[zz];refine ql rfl (fun u m=>((m.b 2 rfl).lies1 aV rfl)) ?_;simp only[zz];refine aQ (fC rfl rfl (Hp (Ch hu.z hv.x))) (aQ aB (aQ (aJ kS aM rfl rfl (by decide) (by decide) rfl) ?_));simp only[zz];refine ql rfl (fun u m=>((m.b 3 rfl).lies1 aV rfl)) ?_;simp only[zz];refine aQ aB (aQ (aJ kS aM rfl rfl (by decide) (by decide) rfl) ?_);simp only[zz];refine ql rfl (fun u m=>((m.b 2 rfl).lies1 aV rfl)) ?_;simp only[zz];refine aQ (fC rfl rfl (Hp (Ch hu.x hv.z))) (aQ (eH rfl rfl (adz (Ch hu.z hv.x) (Ch hu.x hv.z))) (aQ (aJ kS aM rfl rfl (by decide) (by decide) rfl) (eD ?_)));clear m;intro u m;simp only[zz];refine dL m 0 rfl rfl rfl aM (bZ rfl) ⟨rfl,rfl⟩ ?_;clear m;intro u m;simp only[zz,zy,zx,aW,ab] at m;refine aC (k12 _ _ ?_);refine aa (aA (aZ (m:=1) (n:=1) (r:=2) rfl rfl (by decide)) (aA aB (aC (bD (aF fun K15 k15=>aa (aA (cD (m:=2) (n:=3) rfl rfl (by decide)) (aC (k15 _ _ ?_))))))));refine aF fun K16 k16=>bX rfl (ar (k16 _ _ ?_));refine aF fun K17 k17=>av (aF fun K18 k18=>aa (aA aB ?_));simp only[zz];refine aA aD (aC (k18 _ _ ?_));refine aF fun K19 k19=>aa (aA aB ?_);simp only[zz];refine aX m rfl rfl Xy ?_;clear m;intro u m;refine aA aB (aA (aU rfl rfl) (aA (aU rfl rfl) ?_));simp only[zz];refine aA aD (aA aD (aC (k19 _ _ ?_)));simp only[zz];refine dO m 17 aP (by kernel_rfl) ?_;simp only[zy];refine aQ aB (aQ aB (aQ (aJ kS aM rfl rfl (by decide) (by decide) rfl) ?_));simp only[zz];refine ql rfl (fun u m=>((m.b 3 rfl).lies1 aV rfl)) ?_;simp only[zz];refine aQ aB (aQ (aJ kS aM rfl rfl (by decide) (by decide) rfl) ?_);simp only[zz];refine ql rfl (fun u m=>((m.b 2 rfl).lies1 aV rfl)) ?_;simp only[zz];refine aQ (fC rfl rfl (Hp (Ch hu.x hv.y))) (aQ aB (aQ (aJ kS aM rfl rfl (by decide) (by decide) rfl) ?_));simp only[zz];refine ql rfl (fun u m=>((m.b 3 rfl).lies1 aV rfl)) ?_;simp only[zz];refine aQ aB (aQ (aJ kS aM rfl rfl (by decide) (by decide) rfl) ?_);simp only[zz];refine ql rfl (fun u m=>((m.b 2 rfl).lies1 aV rfl)) ?_;simp only[zz];refine aQ (fC rfl rfl (Hp (Ch hu.y hv.x))) (aQ (eH rfl rfl (adz (Ch hu.x hv.y) (Ch hu.y hv.x))) (aQ (aJ kS aM rfl rfl (by decide) (by decide) rfl) (eD ?_)));clear m;intro u m;simp only[zz];refine dL m 0 rfl rfl rfl aM (bZ rfl) ⟨rfl,rfl⟩ ?_;clear m;intro u m;simp only[zz,zy,zx,aW,ab] at m;refine aC (k17 _ _ ?_);refine aa (aA (aZ (m:=2) (n:=1) (r:=3) rfl rfl (by decide)) (aA aB (aC (bD (aF fun K20 k20=>aa (aA (fD (m:=3) (n:=3) rfl rfl (by decide)) (aC (k20 _ _ ?_))))))));refine aF fun K21 k21=>eZ rfl (bw (k3 _ _ ?_));refine aF fun K22 k22=>aa ?_;simp only[zz];refine aI rfl ((m.b 0 rfl).full Jd sM) ?_;simp only[zz];refine aN m 1 rfl rfl rfl sM (bZ rfl) rfl ?_;clear m;intro u m;simp only[zy,zx,aW,zF,zG,ab] at m;refine aC (k22 _ _ ?_);refine bc ?_;try simp only[ac,af,if_true]
 refine bY rfl ⟨_,rfl,((m.b 1 rfl).full Jd sM)⟩ ?_;try simp only[zD,zE]
 exact⟨_,rfl,m.ext,rfl⟩
theorem Pq{n:Int}:eB prog 136 [.int .i64 n] (.int .i64 (dS n)):=by
 intro w;refine⟨acQ,?_⟩;have m:=cK.refl w
 go_enter func136,ntmps136
 refine aF fun K1 k1=>aa (aA aD (aC (k1 _ _ ?_)));refine aF fun K2 k2=>av (aF fun K3 k3=>aa (aA aB (aA (dZ rfl rfl) (aA aD ?_))));simp only[zz];refine aC (k3 _ _ ?_);refine cW rfl (fun hc1=>?_) (fun hc1=>?_)
 ·
  refine aF fun K4 k4=>aa (aA aD (aC (k4 _ _ ?_)));refine bc ?_;simp only[zz];try simp only[ac,af,if_true]
  refine bY rfl rfl ?_;try simp only[zD,zE]
  exact⟨_,rfl,m.ext,by rw[nG (by assumption)]⟩
 ·
  refine aF fun K5 k5=>aa (aA aB (aA (gW rfl rfl) (aA aD (aC (k5 _ _ ?_)))));simp only[zz];refine cW rfl (fun hc2=>?_) (fun hc2=>?_)
  ·
   refine aF fun K6 k6=>aa (aA aD (aC (k6 _ _ ?_)));refine bc ?_;simp only[zz];try simp only[ac,af,if_true]
   refine bY rfl rfl ?_;try simp only[zD,zE]
   exact⟨_,rfl,m.ext,by rw[lX (by assumption)]⟩
  ·
   refine ar (k2 _ _ ?_);refine aF fun K7 k7=>aa (aA aD (aC (k7 _ _ ?_)));refine bc ?_;simp only[zz];try simp only[ac,af,if_true]
   refine bY rfl rfl ?_;try simp only[zD,zE]
   exact⟨_,rfl,m.ext,by rw[show n=0 by omega];rfl⟩
end Go.Proofs.YtimjandkmfcmiaaGreatDoor
namespace Go.Proofs.YtimjandkmfcmiaaGreatDoor
open Go.Proofs.Tryz
open Go.RowKit Go.Lith
set_option maxRecDepth 100000
attribute [local irreducible] bh ck eY eO eJ Code.wp
theorem Ua{a b c d:P3}[I3 a][I3 b][I3 c][I3 d]{g0:Nat}(w:aw)(hB0:gG w g0 [.int .i64 a.x,.int .i64 a.y,.int .i64 a.z,.int .i64 b.x,.int .i64 b.y,.int .i64 b.z,.int .i64 c.x,.int .i64 c.y,.int .i64 c.z,.int .i64 d.x,.int .i64 d.y,.int .i64 d.z] 56):gZ prog 133 [.slice (some ⟨g0,0,none⟩) 4 4] w (fun v _=>∃bo:Bool,v=.bool bo∧(bo=true→S3 a∧S3 b∧S3 c∧S3 d)):=by
 refine⟨acN,?_⟩;have m:=cK.refl w
 go_enter func133,ntmps133
 refine aF fun K1 k1=>aa (aA aD (aC (k1 _ _ ?_)));refine aF fun K2 k2=>aF fun K3 k3=>aa (aA aB (aA (bR rfl oA rfl) (aA aB ?_)));simp only[zz];refine aC (k3 _ _ ?_);refine av (cz 5 (dT (aF fun K4 k4=>aa (aA (cD (m:=0) (n:=4) rfl rfl (by decide)) (aC (k4 _ _ ?_))))));refine aF fun K5 k5=>bX rfl (ar (k5 _ _ ?_));refine aF fun K6 k6=>av (aF fun K7 k7=>aa (aA (aS oA aL rfl rfl (by decide) (by decide) rfl) ?_));simp only[zz];refine aI rfl ((hB0.ext m.ext).lies bG aL rfl rfl) ?_;simp only[zz,zy,ah,ab,ag,ae];refine bE m eL rfl ?_;clear m;intro g1 u m;simp only[zz];refine aN m 0 rfl rfl rfl aL (bZ rfl) rfl ?_;clear m;intro u m;simp only[zy,zx,aW,zF,zG,ab] at m;refine aC (k7 _ _ ?_);refine aF fun K8 k8=>aa (aA (aG (c:=0) bP rfl aM rfl rfl) ?_);simp only[zz];refine aI rfl ((m.b 0 rfl).lies1 aV rfl) ?_;simp only[zz];refine aA (aG (c:=0) bP rfl aM rfl rfl) ?_;simp only[zz];refine aI rfl ((m.b 0 rfl).lies1 aV rfl) ?_;simp only[zz];refine aA (aG (c:=0) bP rfl aM rfl rfl) ?_;simp only[zz];refine aI rfl ((m.b 0 rfl).lies1 aV rfl) ?_;simp only[zz];refine aA (dA rfl rfl rfl) (aA aB (aC (k8 _ _ ?_)));refine av (cz 4 (dT (aF fun K9 k9=>aa (aA (cD (m:=0) (n:=3) rfl rfl (by decide)) (aC (k9 _ _ ?_))))));refine aF fun K10 k10=>bX rfl (ar (k10 _ _ ?_));refine aF fun K11 k11=>av (aF fun K12 k12=>aa (aA (qB rfl rfl) ?_));simp only[zz];refine aA aD (aC (k12 _ _ ?_));refine aF fun K13 k13=>aa (aA aB (aA aB (aA (qO rfl rfl) ?_)));simp only[zz];refine aA (kL rfl rfl rfl) (aA (eT iB jR rfl (uL Iw.h)) ?_);simp only[zz];refine fJ m rfl rfl (mR (X:=(a.x).natAbs) _ (by have:=(Iw.h:kO a.x).natAbs;omega)) ?_;clear m;rintro v u m ⟨n,rfl,hn0,hn1,hax⟩;refine aA (gW rfl rfl) (aC (k13 _ _ ?_));simp only[zz];refine cW rfl (fun hc3=>?_) (fun hc3=>?_)
 ·
  refine aF fun K14 k14=>aa (aA aD (aC (k14 _ _ ?_)));refine bc ?_;simp only[zz];try simp only[ac,af,if_true]
  refine bY rfl rfl ?_;try simp only[zD,zE]
  exact⟨_,rfl,m.ext,false,rfl,fun h=>by cases h⟩
 ·
  replace hax:=hax (by omega);clear hc3 hn0 hn1;refine ar (k11 _ _ ?_);refine aa (aA (aZ (m:=0) (n:=1) (r:=1) rfl rfl (by decide)) (aA aB (aC (bD (aF fun K15 k15=>aa (aA (cD (m:=1) (n:=3) rfl rfl (by decide)) (aC (k15 _ _ ?_))))))));refine aF fun K16 k16=>bX rfl (ar (k16 _ _ ?_));refine aF fun K17 k17=>av (aF fun K18 k18=>aa (aA (qC rfl rfl) ?_));simp only[zz];refine aA aD (aC (k18 _ _ ?_));refine aF fun K19 k19=>aa (aA aB (aA aB (aA (qO rfl rfl) ?_)));simp only[zz];refine aA (kL rfl rfl rfl) (aA (eT iB jR rfl (uL Iw.h)) ?_);simp only[zz];refine fJ m rfl rfl (mR (X:=(a.y).natAbs) _ (by have:=(Iw.h:kO a.y).natAbs;omega)) ?_;clear m;rintro v u m ⟨n,rfl,hn0,hn1,hay⟩;refine aA (gW rfl rfl) (aC (k19 _ _ ?_));simp only[zz];refine cW rfl (fun hc3=>?_) (fun hc3=>?_)
  ·
   refine aF fun K20 k20=>aa (aA aD (aC (k20 _ _ ?_)));refine bc ?_;simp only[zz];try simp only[ac,af,if_true]
   refine bY rfl rfl ?_;try simp only[zD,zE]
   exact⟨_,rfl,m.ext,false,rfl,fun h=>by cases h⟩
  ·
   replace hay:=hay (by omega);clear hc3 hn0 hn1;refine ar (k17 _ _ ?_);refine aa (aA (aZ (m:=1) (n:=1) (r:=2) rfl rfl (by decide)) (aA aB (aC (bD (aF fun K21 k21=>aa (aA (cD (m:=2) (n:=3) rfl rfl (by decide)) (aC (k21 _ _ ?_))))))));refine aF fun K22 k22=>bX rfl (ar (k22 _ _ ?_));refine aF fun K23 k23=>av (aF fun K24 k24=>aa (aA (qD rfl rfl) ?_));simp only[zz];refine aA aD (aC (k24 _ _ ?_));refine aF fun K25 k25=>aa (aA aB (aA aB (aA (qO rfl rfl) ?_)));simp only[zz];refine aA (kL rfl rfl rfl) (aA (eT iB jR rfl (uL Iw.h)) ?_);simp only[zz];refine fJ m rfl rfl (mR (X:=(a.z).natAbs) _ (by have:=(Iw.h:kO a.z).natAbs;omega)) ?_;clear m;rintro v u m ⟨n,rfl,hn0,hn1,haz⟩;refine aA (gW rfl rfl) (aC (k25 _ _ ?_));simp only[zz];refine cW rfl (fun hc3=>?_) (fun hc3=>?_)
   ·
    refine aF fun K26 k26=>aa (aA aD (aC (k26 _ _ ?_)));refine bc ?_;simp only[zz];try simp only[ac,af,if_true]
    refine bY rfl rfl ?_;try simp only[zD,zE]
    exact⟨_,rfl,m.ext,false,rfl,fun h=>by cases h⟩
   ·
    replace haz:=haz (by omega);clear hc3 hn0 hn1;refine ar (k23 _ _ ?_);refine aa (aA (aZ (m:=2) (n:=1) (r:=3) rfl rfl (by decide)) (aA aB (aC (bD (aF fun K27 k27=>aa (aA (fD (m:=3) (n:=3) rfl rfl (by decide)) (aC (k27 _ _ ?_))))))));refine aF fun K28 k28=>eZ rfl (bw (k6 _ _ ?_));refine aa (aA (aZ (m:=0) (n:=1) (r:=1) rfl rfl (by decide)) ?_);simp only[zz];refine aA aB (aC (bD (aF fun K29 k29=>aa (aA (cD (m:=1) (n:=4) rfl rfl (by decide)) (aC (k29 _ _ ?_))))));refine aF fun K30 k30=>bX rfl (ar (k30 _ _ ?_));refine aF fun K31 k31=>av (aF fun K32 k32=>aa (aA (aS oA aL rfl rfl (by decide) (by decide) rfl) ?_));simp only[zz];refine aI rfl ((hB0.ext m.ext).lies bG aL rfl rfl) ?_;simp only[zz,zy,ah,ab,ag,ae];refine bE m eL rfl ?_;clear m;intro g2 u m;simp only[zz];refine aN m 0 rfl rfl rfl aL (bZ rfl) rfl ?_;clear m;intro u m;simp only[zy,zx,aW,zF,zG,ab] at m;refine aC (k32 _ _ ?_);refine aF fun K33 k33=>aa (aA (aG (c:=0) bP rfl aM rfl rfl) ?_);simp only[zz];refine aI rfl ((m.b 0 rfl).lies1 aV rfl) ?_;simp only[zz];refine aA (aG (c:=0) bP rfl aM rfl rfl) ?_;simp only[zz];refine aI rfl ((m.b 0 rfl).lies1 aV rfl) ?_;simp only[zz];refine aA (aG (c:=0) bP rfl aM rfl rfl) ?_;simp only[zz];refine aI rfl ((m.b 0 rfl).lies1 aV rfl) ?_;simp only[zz];refine aA (dA rfl rfl rfl) (aA aB (aC (k33 _ _ ?_)));refine av (cz 4 (dT (aF fun K34 k34=>aa (aA (cD (m:=0) (n:=3) rfl rfl (by decide)) (aC (k34 _ _ ?_))))));refine aF fun K35 k35=>bX rfl (ar (k35 _ _ ?_));refine aF fun K36 k36=>av (aF fun K37 k37=>aa (aA (qB rfl rfl) ?_));simp only[zz];refine aA aD (aC (k37 _ _ ?_));refine aF fun K38 k38=>aa (aA aB (aA aB (aA (qO rfl rfl) ?_)));simp only[zz];refine aA (kL rfl rfl rfl) (aA (eT iB jR rfl (uL Iw.h)) ?_);simp only[zz];refine fJ m rfl rfl (mR (X:=(b.x).natAbs) _ (by have:=(Iw.h:kO b.x).natAbs;omega)) ?_;clear m;rintro v u m ⟨n,rfl,hn0,hn1,hbx⟩;refine aA (gW rfl rfl) (aC (k38 _ _ ?_));simp only[zz];refine cW rfl (fun hc3=>?_) (fun hc3=>?_)
    ·
     refine aF fun K39 k39=>aa (aA aD (aC (k39 _ _ ?_)));refine bc ?_;simp only[zz];try simp only[ac,af,if_true]
     refine bY rfl rfl ?_;try simp only[zD,zE]
     exact⟨_,rfl,m.ext,false,rfl,fun h=>by cases h⟩
    ·
     replace hbx:=hbx (by omega);clear hc3 hn0 hn1;refine ar (k36 _ _ ?_);refine aa (aA (aZ (m:=0) (n:=1) (r:=1) rfl rfl (by decide)) (aA aB (aC (bD (aF fun K40 k40=>aa (aA (cD (m:=1) (n:=3) rfl rfl (by decide)) (aC (k40 _ _ ?_))))))));refine aF fun K41 k41=>bX rfl (ar (k41 _ _ ?_));refine aF fun K42 k42=>av (aF fun K43 k43=>aa (aA (qC rfl rfl) ?_));simp only[zz];refine aA aD (aC (k43 _ _ ?_));refine aF fun K44 k44=>aa (aA aB (aA aB (aA (qO rfl rfl) ?_)));simp only[zz];refine aA (kL rfl rfl rfl) (aA (eT iB jR rfl (uL Iw.h)) ?_);simp only[zz];refine fJ m rfl rfl (mR (X:=(b.y).natAbs) _ (by have:=(Iw.h:kO b.y).natAbs;omega)) ?_;clear m;rintro v u m ⟨n,rfl,hn0,hn1,hby⟩;refine aA (gW rfl rfl) (aC (k44 _ _ ?_));simp only[zz];refine cW rfl (fun hc3=>?_) (fun hc3=>?_)
     ·
      refine aF fun K45 k45=>aa (aA aD (aC (k45 _ _ ?_)));refine bc ?_;simp only[zz];try simp only[ac,af,if_true]
      refine bY rfl rfl ?_;try simp only[zD,zE]
      exact⟨_,rfl,m.ext,false,rfl,fun h=>by cases h⟩
     ·
      replace hby:=hby (by omega);clear hc3 hn0 hn1;refine ar (k42 _ _ ?_);refine aa (aA (aZ (m:=1) (n:=1) (r:=2) rfl rfl (by decide)) (aA aB (aC (bD (aF fun K46 k46=>aa (aA (cD (m:=2) (n:=3) rfl rfl (by decide)) (aC (k46 _ _ ?_))))))));refine aF fun K47 k47=>bX rfl (ar (k47 _ _ ?_));refine aF fun K48 k48=>av (aF fun K49 k49=>aa (aA (qD rfl rfl) ?_));simp only[zz];refine aA aD (aC (k49 _ _ ?_));refine aF fun K50 k50=>aa (aA aB (aA aB (aA (qO rfl rfl) ?_)));simp only[zz];refine aA (kL rfl rfl rfl) (aA (eT iB jR rfl (uL Iw.h)) ?_);simp only[zz];refine fJ m rfl rfl (mR (X:=(b.z).natAbs) _ (by have:=(Iw.h:kO b.z).natAbs;omega)) ?_;clear m;rintro v u m ⟨n,rfl,hn0,hn1,hbz⟩;refine aA (gW rfl rfl) (aC (k50 _ _ ?_));simp only[zz];refine cW rfl (fun hc3=>?_) (fun hc3=>?_)
      ·
       refine aF fun K51 k51=>aa (aA aD (aC (k51 _ _ ?_)));refine bc ?_;simp only[zz];try simp only[ac,af,if_true]
       refine bY rfl rfl ?_;try simp only[zD,zE]
       exact⟨_,rfl,m.ext,false,rfl,fun h=>by cases h⟩
      ·
       replace hbz:=hbz (by omega);clear hc3 hn0 hn1;refine ar (k48 _ _ ?_);refine aa (aA (aZ (m:=2) (n:=1) (r:=3) rfl rfl (by decide)) (aA aB (aC (bD (aF fun K52 k52=>aa (aA (fD (m:=3) (n:=3) rfl rfl (by decide)) (aC (k52 _ _ ?_))))))));refine aF fun K53 k53=>eZ rfl (bw (k31 _ _ ?_));refine aa (aA (aZ (m:=1) (n:=1) (r:=2) rfl rfl (by decide)) ?_);simp only[zz];refine aA aB (aC (bD (aF fun K54 k54=>aa (aA (cD (m:=2) (n:=4) rfl rfl (by decide)) (aC (k54 _ _ ?_))))));refine aF fun K55 k55=>bX rfl (ar (k55 _ _ ?_));refine aF fun K56 k56=>av (aF fun K57 k57=>aa (aA (aS oA aL rfl rfl (by decide) (by decide) rfl) ?_));simp only[zz];refine aI rfl ((hB0.ext m.ext).lies bG aL rfl rfl) ?_;simp only[zz,zy,ah,ab,ag,ae];refine bE m eL rfl ?_;clear m;intro g3 u m;simp only[zz];refine aN m 0 rfl rfl rfl aL (bZ rfl) rfl ?_;clear m;intro u m;simp only[zy,zx,aW,zF,zG,ab] at m;refine aC (k57 _ _ ?_);refine aF fun K58 k58=>aa (aA (aG (c:=0) bP rfl aM rfl rfl) ?_);simp only[zz];refine aI rfl ((m.b 0 rfl).lies1 aV rfl) ?_;simp only[zz];refine aA (aG (c:=0) bP rfl aM rfl rfl) ?_;simp only[zz];refine aI rfl ((m.b 0 rfl).lies1 aV rfl) ?_;simp only[zz];refine aA (aG (c:=0) bP rfl aM rfl rfl) ?_;simp only[zz];refine aI rfl ((m.b 0 rfl).lies1 aV rfl) ?_;simp only[zz];refine aA (dA rfl rfl rfl) (aA aB (aC (k58 _ _ ?_)));refine av (cz 4 (dT (aF fun K59 k59=>aa (aA (cD (m:=0) (n:=3) rfl rfl (by decide)) (aC (k59 _ _ ?_))))));refine aF fun K60 k60=>bX rfl (ar (k60 _ _ ?_));refine aF fun K61 k61=>av (aF fun K62 k62=>aa (aA (qB rfl rfl) ?_));simp only[zz];refine aA aD (aC (k62 _ _ ?_));refine aF fun K63 k63=>aa (aA aB (aA aB (aA (qO rfl rfl) ?_)));simp only[zz];refine aA (kL rfl rfl rfl) (aA (eT iB jR rfl (uL Iw.h)) ?_);simp only[zz];refine fJ m rfl rfl (mR (X:=(c.x).natAbs) _ (by have:=(Iw.h:kO c.x).natAbs;omega)) ?_;clear m;rintro v u m ⟨n,rfl,hn0,hn1,hcx⟩;refine aA (gW rfl rfl) (aC (k63 _ _ ?_));simp only[zz];refine cW rfl (fun hc3=>?_) (fun hc3=>?_)
       ·
        refine aF fun K64 k64=>aa (aA aD (aC (k64 _ _ ?_)));refine bc ?_;simp only[zz];try simp only[ac,af,if_true]
        refine bY rfl rfl ?_;try simp only[zD,zE]
        exact⟨_,rfl,m.ext,false,rfl,fun h=>by cases h⟩
       ·
        replace hcx:=hcx (by omega);clear hc3 hn0 hn1;refine ar (k61 _ _ ?_);refine aa (aA (aZ (m:=0) (n:=1) (r:=1) rfl rfl (by decide)) (aA aB (aC (bD (aF fun K65 k65=>aa (aA (cD (m:=1) (n:=3) rfl rfl (by decide)) (aC (k65 _ _ ?_))))))));refine aF fun K66 k66=>bX rfl (ar (k66 _ _ ?_));refine aF fun K67 k67=>av (aF fun K68 k68=>aa (aA (qC rfl rfl) ?_));simp only[zz];refine aA aD (aC (k68 _ _ ?_));refine aF fun K69 k69=>aa (aA aB (aA aB (aA (qO rfl rfl) ?_)));simp only[zz];refine aA (kL rfl rfl rfl) (aA (eT iB jR rfl (uL Iw.h)) ?_);simp only[zz];refine fJ m rfl rfl (mR (X:=(c.y).natAbs) _ (by have:=(Iw.h:kO c.y).natAbs;omega)) ?_;clear m;rintro v u m ⟨n,rfl,hn0,hn1,hcy⟩;refine aA (gW rfl rfl) (aC (k69 _ _ ?_));simp only[zz];refine cW rfl (fun hc3=>?_) (fun hc3=>?_)
        ·
         refine aF fun K70 k70=>aa (aA aD (aC (k70 _ _ ?_)));refine bc ?_;simp only[zz];try simp only[ac,af,if_true]
         refine bY rfl rfl ?_;try simp only[zD,zE]
         exact⟨_,rfl,m.ext,false,rfl,fun h=>by cases h⟩
        ·
         replace hcy:=hcy (by omega);clear hc3 hn0 hn1;refine ar (k67 _ _ ?_);refine aa (aA (aZ (m:=1) (n:=1) (r:=2) rfl rfl (by decide)) (aA aB (aC (bD (aF fun K71 k71=>aa (aA (cD (m:=2) (n:=3) rfl rfl (by decide)) (aC (k71 _ _ ?_))))))));refine aF fun K72 k72=>bX rfl (ar (k72 _ _ ?_));refine aF fun K73 k73=>av (aF fun K74 k74=>aa (aA (qD rfl rfl) ?_));simp only[zz];refine aA aD (aC (k74 _ _ ?_));refine aF fun K75 k75=>aa (aA aB (aA aB (aA (qO rfl rfl) ?_)));simp only[zz];refine aA (kL rfl rfl rfl) (aA (eT iB jR rfl (uL Iw.h)) ?_);simp only[zz];refine fJ m rfl rfl (mR (X:=(c.z).natAbs) _ (by have:=(Iw.h:kO c.z).natAbs;omega)) ?_;clear m;rintro v u m ⟨n,rfl,hn0,hn1,hcz⟩;refine aA (gW rfl rfl) (aC (k75 _ _ ?_));simp only[zz];refine cW rfl (fun hc3=>?_) (fun hc3=>?_)
         ·
          refine aF fun K76 k76=>aa (aA aD (aC (k76 _ _ ?_)));refine bc ?_;simp only[zz];try simp only[ac,af,if_true]
          refine bY rfl rfl ?_;try simp only[zD,zE]
          exact⟨_,rfl,m.ext,false,rfl,fun h=>by cases h⟩
         ·
          replace hcz:=hcz (by omega);clear hc3 hn0 hn1;refine ar (k73 _ _ ?_);refine aa (aA (aZ (m:=2) (n:=1) (r:=3) rfl rfl (by decide)) (aA aB (aC (bD (aF fun K77 k77=>aa (aA (fD (m:=3) (n:=3) rfl rfl (by decide)) (aC (k77 _ _ ?_))))))));refine aF fun K78 k78=>eZ rfl (bw (k56 _ _ ?_));refine aa (aA (aZ (m:=2) (n:=1) (r:=3) rfl rfl (by decide)) ?_);simp only[zz];refine aA aB (aC (bD (aF fun K79 k79=>aa (aA (cD (m:=3) (n:=4) rfl rfl (by decide)) (aC (k79 _ _ ?_))))));refine aF fun K80 k80=>bX rfl (ar (k80 _ _ ?_));refine aF fun K81 k81=>av (aF fun K82 k82=>aa (aA (aS oA aL rfl rfl (by decide) (by decide) rfl) ?_));simp only[zz];refine aI rfl ((hB0.ext m.ext).lies bG aL rfl rfl) ?_;simp only[zz,zy,ah,ab,ag,ae];refine bE m eL rfl ?_;clear m;intro g4 u m;simp only[zz];refine aN m 0 rfl rfl rfl aL (bZ rfl) rfl ?_;clear m;intro u m;simp only[zy,zx,aW,zF,zG,ab] at m;refine aC (k82 _ _ ?_);refine aF fun K83 k83=>aa (aA (aG (c:=0) bP rfl aM rfl rfl) ?_);simp only[zz];refine aI rfl ((m.b 0 rfl).lies1 aV rfl) ?_;simp only[zz];refine aA (aG (c:=0) bP rfl aM rfl rfl) ?_;simp only[zz];refine aI rfl ((m.b 0 rfl).lies1 aV rfl) ?_;simp only[zz];refine aA (aG (c:=0) bP rfl aM rfl rfl) ?_;simp only[zz];refine aI rfl ((m.b 0 rfl).lies1 aV rfl) ?_;simp only[zz];refine aA (dA rfl rfl rfl) (aA aB (aC (k83 _ _ ?_)));refine av (cz 4 (dT (aF fun K84 k84=>aa (aA (cD (m:=0) (n:=3) rfl rfl (by decide)) (aC (k84 _ _ ?_))))));refine aF fun K85 k85=>bX rfl (ar (k85 _ _ ?_));refine aF fun K86 k86=>av (aF fun K87 k87=>aa (aA (qB rfl rfl) ?_));simp only[zz];refine aA aD (aC (k87 _ _ ?_));refine aF fun K88 k88=>aa (aA aB (aA aB (aA (qO rfl rfl) ?_)));simp only[zz];refine aA (kL rfl rfl rfl) (aA (eT iB jR rfl (uL Iw.h)) ?_);simp only[zz];refine fJ m rfl rfl (mR (X:=(d.x).natAbs) _ (by have:=(Iw.h:kO d.x).natAbs;omega)) ?_;clear m;rintro v u m ⟨n,rfl,hn0,hn1,hdx⟩;refine aA (gW rfl rfl) (aC (k88 _ _ ?_));simp only[zz];refine cW rfl (fun hc3=>?_) (fun hc3=>?_)
          ·
           refine aF fun K89 k89=>aa (aA aD (aC (k89 _ _ ?_)));refine bc ?_;simp only[zz];try simp only[ac,af,if_true]
           refine bY rfl rfl ?_;try simp only[zD,zE]
           exact⟨_,rfl,m.ext,false,rfl,fun h=>by cases h⟩
          ·
           replace hdx:=hdx (by omega);clear hc3 hn0 hn1;refine ar (k86 _ _ ?_);refine aa (aA (aZ (m:=0) (n:=1) (r:=1) rfl rfl (by decide)) (aA aB (aC (bD (aF fun K90 k90=>aa (aA (cD (m:=1) (n:=3) rfl rfl (by decide)) (aC (k90 _ _ ?_))))))));refine aF fun K91 k91=>bX rfl (ar (k91 _ _ ?_));refine aF fun K92 k92=>av (aF fun K93 k93=>aa (aA (qC rfl rfl) ?_));simp only[zz];refine aA aD (aC (k93 _ _ ?_));refine aF fun K94 k94=>aa (aA aB (aA aB (aA (qO rfl rfl) ?_)));simp only[zz];refine aA (kL rfl rfl rfl) (aA (eT iB jR rfl (uL Iw.h)) ?_);simp only[zz];refine fJ m rfl rfl (mR (X:=(d.y).natAbs) _ (by have:=(Iw.h:kO d.y).natAbs;omega)) ?_;clear m;rintro v u m ⟨n,rfl,hn0,hn1,hdy⟩;refine aA (gW rfl rfl) (aC (k94 _ _ ?_));simp only[zz];refine cW rfl (fun hc3=>?_) (fun hc3=>?_)
           ·
            refine aF fun K95 k95=>aa (aA aD (aC (k95 _ _ ?_)));refine bc ?_;simp only[zz];try simp only[ac,af,if_true]
            refine bY rfl rfl ?_;try simp only[zD,zE]
            exact⟨_,rfl,m.ext,false,rfl,fun h=>by cases h⟩
           ·
            replace hdy:=hdy (by omega);clear hc3 hn0 hn1;refine ar (k92 _ _ ?_);refine aa (aA (aZ (m:=1) (n:=1) (r:=2) rfl rfl (by decide)) (aA aB (aC (bD (aF fun K96 k96=>aa (aA (cD (m:=2) (n:=3) rfl rfl (by decide)) (aC (k96 _ _ ?_))))))));refine aF fun K97 k97=>bX rfl (ar (k97 _ _ ?_));refine aF fun K98 k98=>av (aF fun K99 k99=>aa (aA (qD rfl rfl) ?_));simp only[zz];refine aA aD (aC (k99 _ _ ?_));refine aF fun K100 k100=>aa (aA aB (aA aB (aA (qO rfl rfl) ?_)));simp only[zz];refine aA (kL rfl rfl rfl) (aA (eT iB jR rfl (uL Iw.h)) ?_);simp only[zz];refine fJ m rfl rfl (mR (X:=(d.z).natAbs) _ (by have:=(Iw.h:kO d.z).natAbs;omega)) ?_;clear m;rintro v u m ⟨n,rfl,hn0,hn1,hdz⟩;refine aA (gW rfl rfl) (aC (k100 _ _ ?_));simp only[zz];refine cW rfl (fun hc3=>?_) (fun hc3=>?_)
            ·
             refine aF fun K101 k101=>aa (aA aD (aC (k101 _ _ ?_)));refine bc ?_;simp only[zz];try simp only[ac,af,if_true]
             refine bY rfl rfl ?_;try simp only[zD,zE]
             exact⟨_,rfl,m.ext,false,rfl,fun h=>by cases h⟩
            ·
             replace hdz:=hdz (by omega);clear hc3 hn0 hn1;refine ar (k98 _ _ ?_);refine aa (aA (aZ (m:=2) (n:=1) (r:=3) rfl rfl (by decide)) (aA aB (aC (bD (aF fun K102 k102=>aa (aA (fD (m:=3) (n:=3) rfl rfl (by decide)) (aC (k102 _ _ ?_))))))));refine aF fun K103 k103=>eZ rfl (bw (k81 _ _ ?_));refine aa (aA (aZ (m:=3) (n:=1) (r:=4) rfl rfl (by decide)) ?_);simp only[zz];refine aA aB (aC (bD (aF fun K104 k104=>aa (aA (fD (m:=4) (n:=4) rfl rfl (by decide)) (aC (k104 _ _ ?_))))));refine aF fun K105 k105=>eZ rfl (bw (k2 _ _ ?_));refine aF fun K106 k106=>aa (aA aD (aC (k106 _ _ ?_)));refine bc ?_;simp only[zz];try simp only[ac,af,if_true]
             refine bY rfl rfl ?_;try simp only[zD,zE]
             exact⟨_,rfl,m.ext,true,rfl,fun _=>⟨⟨hax,hay,haz⟩,⟨hbx,hby,hbz⟩,⟨hcx,hcy,hcz⟩,⟨hdx,hdy,hdz⟩⟩⟩
theorem aaT{a b c d:P3}[I3 a][I3 b][I3 c][I3 d]:eB prog 104 [pt a,pt b,pt c,pt d] (sg ((b.sub a).cross (d.sub c))):=by
 intro w;refine⟨acn,?_⟩;have m:=cK.refl w
 go_enter func104,ntmps104
 refine aF fun K1 k1=>aa (cQ m rfl ?_);clear m;intro g1 u m;simp only[zz];refine cQ m rfl ?_;clear m;intro g2 u m;simp only[zz];refine cQ m rfl ?_;clear m;intro g3 u m;simp only[zz];refine cQ m rfl ?_;clear m;intro g4 u m;simp only[zz];refine bE m lP rfl ?_;clear m;intro g5 u m;refine aC (k1 _ _ ?_);refine aF fun K2 k2=>aa ?_;simp only[zz];refine bE m lP rfl ?_;clear m;intro g6 u m;refine aC (k2 _ _ ?_);refine aF fun K3 k3=>aF fun K4 k4=>aa ?_;simp only[zz];refine aI rfl ((m.b 5 rfl).full bG aL) ?_;simp only[zz];refine aI rfl ((m.b 4 rfl).full bG aL) ?_;simp only[zz];refine aI rfl ((m.b 3 rfl).full bG aL) ?_;simp only[zz];refine aI rfl ((m.b 2 rfl).full bG aL) ?_;simp only[zz];refine Hk rfl rfl rfl rfl ?_;intro u g7 e hg hB;replace m:=m.newB e hg hB;clear e hg hB;simp only[zz];refine fJ m rfl rfl (Ua _ (m.b 0 rfl)) ?_;clear m;rintro v u m ⟨bo,rfl,hsm⟩;refine aC (k4 _ _ ?_);simp only[zz];refine pK rfl (fun hc1=>?_) (fun hc1=>?_)
 ·
  obtain⟨_,_,_,_⟩:=hsm hc1;refine aF fun K5 k5=>aF fun K6 k6=>mq m aP (by kernel_rfl) (ql rfl (fun u m=>((m.b 6 rfl).full bG aL)) ?_);simp only[zz];refine ql rfl (fun u m=>((m.b 5 rfl).full bG aL)) ?_;simp only[zz];refine gV rfl rfl yO ?_;simp only[zz];refine ql rfl (fun u m=>((m.b 4 rfl).full bG aL)) ?_;simp only[zz];refine ql rfl (fun u m=>((m.b 3 rfl).full bG aL)) ?_;simp only[zz];refine gV rfl rfl yO ?_;simp only[zz];refine gV rfl rfl (Gk inferInstance inferInstance) (aQ aB (eD ?_));clear m;intro u m;refine k6 _ _ (av (cz 4 (dT (aF fun K7 k7=>aa (aA (cD (m:=0) (n:=3) rfl rfl (by decide)) (aC (k7 _ _ ?_)))))));refine aF fun K8 k8=>bX rfl (ar (k8 _ _ ?_));refine aF fun K9 k9=>av (aF fun K10 k10=>aa (aA aB ?_));simp only[zz];refine aA (Gf rfl rfl) (aA aD (aA aD (aC (k10 _ _ ?_))));refine aa (aA aB ?_);simp only[zz];refine aA aB ?_;simp only[zz];refine aX m rfl rfl Pq ?_;clear m;intro u m;refine aA (aJ fF aM rfl rfl (by decide) (by decide) rfl) ?_;simp only[zz];refine dL m 1 rfl rfl rfl aM (bZ rfl) ⟨rfl,rfl⟩ ?_;clear m;intro u m;simp only[zz,zy,zx,aW,ab] at m;refine aC (k9 _ _ ?_);refine aa (aA (aZ (m:=0) (n:=1) (r:=1) rfl rfl (by decide)) (aA aB (aC (bD (aF fun K11 k11=>aa (aA (cD (m:=1) (n:=3) rfl rfl (by decide)) (aC (k11 _ _ ?_))))))));refine aF fun K12 k12=>bX rfl (ar (k12 _ _ ?_));refine aF fun K13 k13=>av (aF fun K14 k14=>aa (aA aB ?_));simp only[zz];refine aA (Gg rfl rfl) (aA aD (aA aD (aC (k14 _ _ ?_))));refine aa (aA aB ?_);simp only[zz];refine aA aB ?_;simp only[zz];refine aX m rfl rfl Pq ?_;clear m;intro u m;refine aA (aJ fF aM rfl rfl (by decide) (by decide) rfl) ?_;simp only[zz];refine dL m 1 rfl rfl rfl aM (bZ rfl) ⟨rfl,rfl⟩ ?_;clear m;intro u m;simp only[zz,zy,zx,aW,ab] at m;refine aC (k13 _ _ ?_);refine aa (aA (aZ (m:=1) (n:=1) (r:=2) rfl rfl (by decide)) (aA aB (aC (bD (aF fun K15 k15=>aa (aA (cD (m:=2) (n:=3) rfl rfl (by decide)) (aC (k15 _ _ ?_))))))));refine aF fun K16 k16=>bX rfl (ar (k16 _ _ ?_));refine aF fun K17 k17=>av (aF fun K18 k18=>aa (aA aB ?_));simp only[zz];refine aA (Gh rfl rfl) (aA aD (aA aD (aC (k18 _ _ ?_))));refine aa (aA aB ?_);simp only[zz];refine aA aB ?_;simp only[zz];refine aX m rfl rfl Pq ?_;clear m;intro u m;refine aA (aJ fF aM rfl rfl (by decide) (by decide) rfl) ?_;simp only[zz];refine dL m 1 rfl rfl rfl aM (bZ rfl) ⟨rfl,rfl⟩ ?_;clear m;intro u m;simp only[zz,zy,zx,aW,ab] at m;refine aC (k17 _ _ ?_);refine aa (aA (aZ (m:=2) (n:=1) (r:=3) rfl rfl (by decide)) (aA aB (aC (bD (aF fun K19 k19=>aa (aA (fD (m:=3) (n:=3) rfl rfl (by decide)) (aC (k19 _ _ ?_))))))));refine aF fun K20 k20=>eZ rfl (bw (k5 _ _ ?_));refine aF fun K21 k21=>aa ?_;simp only[zz];refine aI rfl ((m.b 1 rfl).full oF cZ) ?_;simp only[zz];refine aN m 2 rfl rfl rfl cZ (bZ rfl) rfl ?_;clear m;intro u m;simp only[zy,zx,aW,zF,zG,ab] at m;refine aC (k21 _ _ ?_);refine bc ?_;try simp only[ac,af,if_true]
  refine bY rfl ⟨_,rfl,((m.b 2 rfl).full oF cZ)⟩ ?_;try simp only[zD,zE]
  exact⟨_,rfl,m.ext,rfl⟩
 ·
  refine ar (k3 _ _ ?_);refine aF fun K22 k22=>aF fun K23 k23=>mq m aP (by kernel_rfl) (ql rfl (fun u m=>((m.b 6 rfl).full bG aL)) ?_);simp only[zz];refine ql rfl (fun u m=>((m.b 5 rfl).full bG aL)) ?_;simp only[zz];refine gV rfl rfl rQ ?_;simp only[zz];refine ql rfl (fun u m=>((m.b 4 rfl).full bG aL)) ?_;simp only[zz];refine ql rfl (fun u m=>((m.b 3 rfl).full bG aL)) ?_;simp only[zz];refine gV rfl rfl rQ ?_;simp only[zz];refine gV rfl rfl (yN Bv.of Bv.of) (aQ aB (eD ?_));clear m;intro u m;refine k23 _ _ (av (cz 4 (dT (aF fun K24 k24=>aa (aA (cD (m:=0) (n:=3) rfl rfl (by decide)) (aC (k24 _ _ ?_)))))));refine aF fun K25 k25=>bX rfl (ar (k25 _ _ ?_));refine aF fun K26 k26=>av (aF fun K27 k27=>aa (aA aB ?_));simp only[zz];refine aA (Gc rfl rfl) ?_;simp only[zz];refine bE m cL rfl ?_;clear m;intro g8 u m;refine aA aD ?_;simp only[zz];refine aN m 0 rfl rfl rfl aH (bZ rfl) rfl ?_;clear m;intro u m;simp only[zy,zx,aW,zF,zG,ab] at m;refine aC (k27 _ _ ?_);refine aa (aA aB ?_);simp only[zz];refine aI rfl ((m.b 0 rfl).full aT aH) ?_;simp only[zz];refine aX m rfl rfl (mD Bw.up) ?_;clear m;intro u m;refine aA (aJ fF aM rfl rfl (by decide) (by decide) rfl) ?_;simp only[zz];refine dL m 2 rfl rfl rfl aM (bZ rfl) ⟨rfl,rfl⟩ ?_;clear m;intro u m;simp only[zz,zy,zx,aW,ab] at m;refine aC (k26 _ _ ?_);refine aa (aA (aZ (m:=0) (n:=1) (r:=1) rfl rfl (by decide)) (aA aB (aC (bD (aF fun K28 k28=>aa (aA (cD (m:=1) (n:=3) rfl rfl (by decide)) (aC (k28 _ _ ?_))))))));refine aF fun K29 k29=>bX rfl (ar (k29 _ _ ?_));refine aF fun K30 k30=>av (aF fun K31 k31=>aa (aA aB ?_));simp only[zz];refine aA (Gd rfl rfl) ?_;simp only[zz];refine bE m cL rfl ?_;clear m;intro g9 u m;refine aA aD ?_;simp only[zz];refine aN m 0 rfl rfl rfl aH (bZ rfl) rfl ?_;clear m;intro u m;simp only[zy,zx,aW,zF,zG,ab] at m;refine aC (k31 _ _ ?_);refine aa (aA aB ?_);simp only[zz];refine aI rfl ((m.b 0 rfl).full aT aH) ?_;simp only[zz];refine aX m rfl rfl (mD Bw.up) ?_;clear m;intro u m;refine aA (aJ fF aM rfl rfl (by decide) (by decide) rfl) ?_;simp only[zz];refine dL m 3 rfl rfl rfl aM (bZ rfl) ⟨rfl,rfl⟩ ?_;clear m;intro u m;simp only[zz,zy,zx,aW,ab] at m;refine aC (k30 _ _ ?_);refine aa (aA (aZ (m:=1) (n:=1) (r:=2) rfl rfl (by decide)) (aA aB (aC (bD (aF fun K32 k32=>aa (aA (cD (m:=2) (n:=3) rfl rfl (by decide)) (aC (k32 _ _ ?_))))))));refine aF fun K33 k33=>bX rfl (ar (k33 _ _ ?_));refine aF fun K34 k34=>av (aF fun K35 k35=>aa (aA aB ?_));simp only[zz];refine aA (Ge rfl rfl) ?_;simp only[zz];refine bE m cL rfl ?_;clear m;intro g10 u m;refine aA aD ?_;simp only[zz];refine aN m 0 rfl rfl rfl aH (bZ rfl) rfl ?_;clear m;intro u m;simp only[zy,zx,aW,zF,zG,ab] at m;refine aC (k35 _ _ ?_);refine aa (aA aB ?_);simp only[zz];refine aI rfl ((m.b 0 rfl).full aT aH) ?_;simp only[zz];refine aX m rfl rfl (mD Bw.up) ?_;clear m;intro u m;refine aA (aJ fF aM rfl rfl (by decide) (by decide) rfl) ?_;simp only[zz];refine dL m 4 rfl rfl rfl aM (bZ rfl) ⟨rfl,rfl⟩ ?_;clear m;intro u m;simp only[zz,zy,zx,aW,ab] at m;refine aC (k34 _ _ ?_);refine aa (aA (aZ (m:=2) (n:=1) (r:=3) rfl rfl (by decide)) (aA aB (aC (bD (aF fun K36 k36=>aa (aA (fD (m:=3) (n:=3) rfl rfl (by decide)) (aC (k36 _ _ ?_))))))));refine aF fun K37 k37=>eZ rfl (bw (k22 _ _ ?_));refine aF fun K38 k38=>aa ?_;simp only[zz];refine aI rfl ((m.b 4 rfl).full oF cZ) ?_;simp only[zz];refine aN m 5 rfl rfl rfl cZ (bZ rfl) rfl ?_;clear m;intro u m;simp only[zy,zx,aW,zF,zG,ab] at m;refine aC (k38 _ _ ?_);refine bc ?_;try simp only[ac,af,if_true]
  refine bY rfl ⟨_,rfl,((m.b 5 rfl).full oF cZ)⟩ ?_;try simp only[zD,zE]
  exact⟨_,rfl,m.ext,rfl⟩
theorem adC{t:T3}[IT t]:eB prog 64 [tr t] (.bool (decide (dS t.normal.x=0∧dS t.normal.y=0∧dS t.normal.z=0))):=by
 intro w;refine⟨ae2,?_⟩;have m:=cK.refl w
 go_enter func64,ntmps64
 refine aF fun K1 k1=>aa (cQ m rfl ?_);clear m;intro g1 u m;refine aA aD (aC (k1 _ _ ?_));refine aF fun K2 k2=>aa (aA (aJ iC aL rfl rfl (by decide) (by decide) rfl) ?_);simp only[zz];refine aI rfl ((m.b 0 rfl).lies bG aL rfl rfl) ?_;simp only[zz,zy,ah,ab,ag,ae];refine aA (aJ iC aL rfl rfl (by decide) (by decide) rfl) ?_;simp only[zz];refine aI rfl ((m.b 0 rfl).lies bG aL rfl rfl) ?_;simp only[zz,zy,ah,ab,ag,ae];refine aA (aJ iC aL rfl rfl (by decide) (by decide) rfl) ?_;simp only[zz];refine aI rfl ((m.b 0 rfl).lies bG aL rfl rfl) ?_;simp only[zz,zy,ah,ab,ag,ae];refine aA (aJ iC aL rfl rfl (by decide) (by decide) rfl) ?_;simp only[zz];refine aI rfl ((m.b 0 rfl).lies bG aL rfl rfl) ?_;simp only[zz,zy,ah,ab,ag,ae];refine aX m rfl rfl (aaT (a:=t.a) (b:=t.b) (c:=t.a) (d:=t.c)) ?_;clear m;intro u m;refine aA oV (aA (vT rfl rfl) (aA aD ?_));simp only[zz];refine aC (k2 _ _ ?_);refine bc ?_;try simp only[ac,af,if_true]
 refine bY rfl rfl ?_;try simp only[zD,zE]
 exact⟨_,rfl,m.ext,rfl⟩
end Go.Proofs.YtimjandkmfcmiaaGreatDoor
namespace Go.Lith
open Go.RowKit
end Go.Lith
namespace Go.Lith
open Go.RowKit
structure gJ where
 s:P3
 w:Int
 d:P3
def kK(r:gJ):Go.Value:=.agg #[.int .i64 r.s.x,.int .i64 r.s.y,.int .i64 r.s.z,.int .i64 r.w,.int .i64 r.d.x,.int .i64 r.d.y,.int .i64 r.d.z]
class IR(r:gJ):Prop where
 s:I3 r.s
 w:kO r.w
 d:I3 r.d
instance {r:gJ}[h:IR r]:I3 r.s:=h.s
instance {r:gJ}[h:IR r]:I3 r.d:=h.d
instance {r:gJ}[h:IR r]:Iw r.w:=⟨h.w⟩
def gJ.ok(r:gJ):Prop:=0<r.w∧¬(r.d.x=0∧r.d.y=0∧r.d.z=0)
instance (r:gJ):Decidable r.ok:=inferInstanceAs (Decidable (_∧_))
def P3.scl(v:P3)(n:Int):P3:=⟨v.x*n,v.y*n,v.z*n⟩
def gJ.to(r:gJ)(p:P3):P3:=(p.scl r.w).sub r.s
def vE(n:Int)(v:P3):Int:=if dS n≠0 then dS n else if dS v.x≠0 then dS v.x else if dS v.y≠0 then dS v.y else if dS v.z≠0 then dS v.z else 0
def vF(d a b:P3):Int:=vE (d.dot (a.cross b)) (d.cross (b.sub a))
def yP(d a b c:P3):Prop:=vF d a b≠0∧vF d b c=vF d a b∧vF d c a=vF d a b
instance (d a b c:P3):Decidable (yP d a b c):=inferInstanceAs (Decidable (_∧_∧_))
def Ar(r:gJ)(t:T3):Int:=t.normal.dot (r.to t.a)
def sY(r:gJ)(t:T3):Int:=t.normal.dot r.d
def jK(r:gJ)(t:T3):Prop:=r.ok∧¬t.flat∧yP r.d (r.to t.a) (r.to t.b) (r.to t.c)∧vE (Ar r t) (P3.sub ⟨0,0,0⟩ t.normal)=dS (sY r t)
instance (r:gJ)(t:T3):Decidable (jK r t):=inferInstanceAs (Decidable (_∧_∧_∧_))
def gC(r:gJ)(t:T3):Rat:=if jK r t then Rat.divInt (Ar r t) (r.w*sY r t) else 0
theorem adD{n:Int}{v:P3}(h:vE n v=0):v.x=0∧v.y=0∧v.z=0:=by
 unfold vE at h
 repeat' split at h
 all_goals first
  | (exact absurd h (by assumption))
  | (rename_i a b c d;exact⟨iN.1 (Decidable.not_not.1 b),iN.1 (Decidable.not_not.1 c),iN.1 (Decidable.not_not.1 d)⟩)
theorem Eh{r:gJ}{t:T3}(hf:¬t.flat)(h:vE (Ar r t) (P3.sub ⟨0,0,0⟩ t.normal)=dS (sY r t)):sY r t≠0:=fun e=>by
 rw[e] at h;have:=adD (h.trans rfl);simp only[P3.sub] at this;exact hf ⟨by omega,by omega,by omega⟩
def Ei(r:gJ)(b:Option (Rat × Nat))(k:Nat)(t:T3):Option (Rat × Nat) :=
 if jK r t then match b with
  | none=>some (gC r t,k)
  | some (q,j)=>if gC r t<q then some (gC r t,k) else some (q,j)
 else b
def bH(r:gJ)(ts:List T3):Option (Rat × Nat):=ts.zipIdx.foldl (fun b x=>Ei r b x.2 x.1) none
def mZ(b:Option (Rat × Nat)):Rat:=match b with | none=>0 | some (q,_)=>q
def adE(b:Option (Rat × Nat)):Nat:=match b with | none=>0 | some (_,k)=>k
theorem rA{r:gJ}{ts:List T3}{t:T3}{k:Nat}(h:ts[k]? = some t):bH r (ts.take (k+1))=Ei r (bH r (ts.take k)) k t:=by
 have hk:k<ts.length:=(bq.1 h).1;unfold bH;rw[List.take_add_one,h,List.zipIdx_append,List.foldl_append,bl,co (Nat.le_of_lt hk)];simp
instance agx{r:gJ}{p:P3}[a:IR r][b:I3 p]:Bv 129 (r.to p):=by
 have k:∀{x s:Int},kO x→kO s→Bd 129 (x*r.w-s):=fun hx hs=>((hx.bd.mul a.w.bd).sub hs.bd).mono (by decide);exact⟨k b.x a.s.x,k b.y a.s.y,k b.z a.s.z⟩
theorem vG{r:gJ}{t:T3}(h:¬r.ok):¬jK r t:=fun k=>h k.1
end Go.Lith
namespace Go.Lith
open Go.RowKit
structure GX(w w':aw):Prop where
 ext:dU w w'
 dr:w.drawn≤w'.drawn
theorem GX.grow{w w':aw}(h:GX w w'):∃q os,w'=Sort.grow (w.drewN q) os:=by
 refine⟨w'.drawn-w.drawn,w'.heap.extract w.heap.size w'.heap.size,?_⟩;have e1:w.heap++w'.heap.extract w.heap.size w'.heap.size=w'.heap:=by
  apply Array.ext_getElem?;intro i;rw[Array.getElem?_append];split
  · rename_i hi
    exact (Below.block h.ext i hi).symm
  · rename_i hi
    rw[Array.getElem?_extract];have:=h.ext.size;split
    · congr 1;omega
    · rw[jm (by omega)]
 have e2:w.drawn+(w'.drawn-w.drawn)=w'.drawn:=by have:=h.dr;omega
 have h1:=h.ext.os;have h2:=h.ext.tape;have h3:=h.ext.output;cases w;cases w';simp only[Sort.grow,World.drewN] at *
 subst h1 h2 h3;rw[e1,e2]
structure kX(w0 w:aw)(is:List It):Prop where
 ext:GX w0 w
 mem:cK w0 w is
def yQ(P:cj)(f:FuncId)(args:List aj)(v:aj):Prop:=∀w,bL P f∧Calls P f args.toArray w fun e w'=>∃u,e=.returned u∧GX w w'∧u=v
section
variable {w0 w w':aw} {is:List It}
theorem kX.refl(w:aw):kX w w []:=⟨⟨dU.refl w,bi _⟩,cK.refl w⟩
theorem kX.go(m:kX w0 w is){js:List It}(h:cK w0 w' js)(d:w.drawn≤w'.drawn):kX w0 w' js:=⟨⟨h.ext,ak m.ext.dr d⟩,h⟩
theorem kX.ext' (m:kX w0 w is)(e:GX w w'):kX w0 w' is:=m.go (m.mem.ext' e.ext) e.dr
theorem kX.b(m:kX w0 w is)(k:Nat){g:Nat}{cs:List aj}{t:be}(hk:is[k]? = some (bI g cs t)):gG w g cs t:=m.mem.b k hk
end
section
variable {P:cj} {ds:List dp} {l:List aj} {x y:bm} {T ty:be}
variable {ops:Array Oper} {Q:Exit→Act→aw→Prop} {rest:List Oper} {d:Nat} {pos:String} {after:Array Edge} {w w0:aw} {is:List It} {v:aj}
theorem afO{cs:List aj}(m:kX w0 w is)(hv:(ev l x).cells=cs.toArray)(h:∀g u,kX w0 u (bI g cs T::is)→bh P ops Q rest (Fr (l.set d (.pointer (some ⟨g,0,none⟩))) ds) u) :
 bh P ops Q (bx (some d) (.box T x) ty pos after none::rest) (Fr l ds) w :=
 mC (w':=w.alloc (.cells cs.toArray T)) (v:=.pointer (some ⟨w.heap.size,0,none⟩)) (fun o ho _=>by simp[cm,ho,dV,Instr.box,newVar,newRow,hv,newObj,Sem.run]) (h _ _ (m.go (m.mem.newB ((dU.refl w).alloc _) (bi _) (jZ w cs T)) (bi _)))
theorem xF{cs:List aj}(m:kX w0 w is)(hv:ev l x=.agg cs.toArray)(h:∀g u,kX w0 u (bI g cs T::is)→bh P ops Q rest (Fr (l.set d (.pointer (some ⟨g,0,none⟩))) ds) u) :
 bh P ops Q (bx (some d) (.box T x) ty pos after none::rest) (Fr l ds) w:=afO m (by rw[hv];rfl) h
theorem aaU{cs:List aj}{z:aj}(m:kX w0 w is)(hZ:mB P T z)(hv:z.cells=cs.toArray)(h:∀g u,kX w0 u (bI g cs T::is)→bh P ops Q rest (Fr (l.set d (.pointer (some ⟨g,0,none⟩))) ds) u) :
 bh P ops Q (bx (some d) (.alloc T) ty pos after none::rest) (Fr l ds) w:=by
 obtain⟨inf,hi,hz⟩:=hZ;exact mC (w':=w.alloc (.cells cs.toArray T)) (v:=.pointer (some ⟨w.heap.size,0,none⟩)) (fun o ho _=>by simp[cm,ho,Instr.alloc,zeroValue,typeInfo,hi,hz,newVar,newRow,hv,newObj,Sem.run]) (h _ _ (m.go (m.mem.newB ((dU.refl w).alloc _) (bi _) (jZ w cs T)) (bi _)))
theorem aaV{g off:Nat}{cs us:List aj}{t:be}(m:kX w0 w is)(k:Nat)(hk:is[k]? = some (bI g cs t))(hx:ev l x=.pointer (some ⟨g,off,none⟩))(hv:(ev l y).cells=us.toArray)(hc:fI P T us.length)(hfit:off+us.length≤cs.length)(h1:(us.all (·.oneCell'))=true)
 (h:∀u,kX w0 u (is.set k (bI g (aW cs off us) t))→bh P ops Q rest (Fr l ds) u):bh P ops Q (bx none (.store T x y) ty pos after none::rest) (Fr l ds) w:=by
 have hB:=m.b k hk;have hC:=tL w g (aW cs off us).toArray;exact Iq (w':=w.setRow g (aW cs off us).toArray) (fun o ho=>by simp[cm,ho,dV,hx,Instr.storeAt,Instr.sureAddr,xN hc hv hB hfit (lY h1)])
  (h _ (m.go (m.mem.put k hk hC.os hC.tape hC.output (by rw[hC.size];exact bi _) (fun b _ hne=>hC.block b fun e=>hne (by rw[e];rfl)) (setRow_heap w g cs.toArray _ t _ hB) (.inl fun _ h=>h)) (bi _)))
theorem Ya{g off:Nat}{cs us:List aj}{t:be}(m:kX w0 w is)(k:Nat)(hk:is[k]? = some (bI g cs t))(hx:ev l x=.pointer (some ⟨g,off,none⟩))(hv:ev l y=.agg us.toArray)(hc:fI P T us.length)(hfit:off+us.length≤cs.length)(h1:(us.all (·.oneCell'))=true)
 (h:∀u,kX w0 u (is.set k (bI g (aW cs off us) t))→bh P ops Q rest (Fr l ds) u):bh P ops Q (bx none (.store T x y) ty pos after none::rest) (Fr l ds) w:=aaV m k hk hx (by rw[hv];rfl) hc hfit h1 h
theorem Kc{f:FuncId}{fo:bm}{xs:Array bm}{args:List aj}{first cap:Array aj}{a0:Array be}(m:kX w0 w is)(hf:ev l fo=.func (.func f) first cap)(hxs:first.toList++xs.toList.map (ev l)++cap.toList=args)(hc:yQ P f args v)
 (h:∀u,kX w0 u is→bh P ops Q rest (Fr (l.set d v) ds) u):bh P ops Q (bx (some d) (.call { callee:=.value fo,args:=xs,argTypes:=a0 }) ty pos after none::rest) (Fr l ds) w:=by
 refine wpList_plain rfl fun K hK=>?_;unfold Oper.wp;rw[jS,oU (hc w).1 hf hxs _ rfl];refine (hc w).2.mono ?_;rintro e w' ⟨u,rfl,hE,rfl⟩;show K ((Fr l ds).put (some d) u) w'
 rw[jM];exact hK _ _ (h w' (m.ext' hE))
theorem kX.drew(m:kX w0 w is):kX w0 { w with drawn:=w.drawn+1 } is:=m.ext' ⟨(dU.refl w).drawn,Nat.le_succ _⟩
theorem Gmq{id:Nat}{a:Act}{l:List Oper}(m:kX w0 w is)(hm:P.follows .mixedOrders=true)(hB:Region.lexB .any l.toArray=true)
 (h:ck P l.toArray (fun u=>kX w0 u is) (fun a'=>∀u,kX w0 u is→Q .normal a' u) l a):(Code.region id l.toArray true).wp P Q a w :=
 wp_region_quiet (C:=fun u=>kX w0 u is) hm hB m.drew (by simpa using h)
end
section
variable {P:cj} {w0:aw} {is:List It} {l:List aj} {x y:bm} {T ty:be}
variable {ops:Array Oper} {Q:Act→Prop} {rest:List Oper} {d:Nat} {pos:String} {after:Array Edge} {v:aj} {ds:List dp}
theorem Gql{a:Addr}(hx:ev l x=.pointer (some a))(hv:∀u,kX w0 u is→sJ P u T a v)(h:ck P ops (fun u=>kX w0 u is) Q rest (Fr (l.set d v) ds)):ck P ops (fun u=>kX w0 u is) Q (bx (some d) (.load T x) ty pos after none::rest) (Fr l ds) :=
 Io (fun u m=>lM hx (hv u m)) h
theorem Ub{f:FuncId}{fo:bm}{xs:Array bm}{args:List aj}{first cap:Array aj}{a0:Array be}(hf:ev l fo=.func (.func f) first cap)(hxs:first.toList++xs.toList.map (ev l)++cap.toList=args)(hc:yQ P f args v)
 (h:ck P ops (fun u=>kX w0 u is) Q rest (Fr (l.set d v) ds)):ck P ops (fun u=>kX w0 u is) Q (bx (some d) (.call { callee:=.value fo,args:=xs,argTypes:=a0 }) ty pos after none::rest) (Fr l ds):=by
 refine wpQuiet_step fun K hK=>?_;rw[if_pos (by simp[Region.wanted])];refine⟨v,fun w' hw=>?_,?_⟩
 · unfold ji
   rw[jS,oU (hc w').1 hf hxs _ rfl];refine⟨rfl,(hc w').2.mono ?_⟩;rintro e w'' ⟨u,rfl,hE,rfl⟩;exact⟨rfl,hw.ext' hE⟩
 · show K ((Fr l ds).put (some d) v)
   rw[jM];exact hK _ h
end
end Go.Lith
namespace Go.Lith
open Go.RowKit
def P3.Lt(p q:P3):Prop:=p.x<q.x∨p.x=q.x∧(p.y<q.y∨p.y=q.y∧p.z<q.z)
instance (p q:P3):Decidable (p.Lt q):=by unfold P3.Lt;infer_instance
def Ke(p q:P3):Int:=if p.Lt q then -1 else if q.Lt p then 1 else 0
theorem P3.eq{p q:P3}(h1:p.x=q.x)(h2:p.y=q.y)(h3:p.z=q.z):p=q:=by
 cases p;cases q;simp_all
instance:DecidableEq P3:=fun p q=>if h:p.x=q.x∧p.y=q.y∧p.z=q.z then isTrue (P3.eq h.1 h.2.1 h.2.2) else isFalse fun e=>h (by subst e;exact⟨rfl,rfl,rfl⟩)
theorem P3.lt_irrefl(p:P3):¬p.Lt p:=by unfold P3.Lt;omega
theorem P3.lt_trans{p q r:P3}(h:p.Lt q)(k:q.Lt r):p.Lt r:=by unfold P3.Lt at *;omega
theorem P3.lt_tri(p q:P3):p.Lt q∨p=q∨q.Lt p:=by
 by_cases h1:p.x=q.x
 · by_cases h2:p.y=q.y
   · by_cases h3:p.z=q.z
     · exact .inr (.inl (P3.eq h1 h2 h3))
     · unfold P3.Lt;omega
   · unfold P3.Lt;omega
 · unfold P3.Lt;omega
theorem P3.lt_x{p q:P3}(h:¬p.x=q.x):p.Lt q↔p.x<q.x:=by unfold P3.Lt;omega
theorem P3.lt_y{p q:P3}(h:p.x=q.x)(h2:¬p.y=q.y):p.Lt q↔p.y<q.y:=by unfold P3.Lt;omega
theorem P3.lt_z{p q:P3}(h:p.x=q.x)(h2:p.y=q.y):p.Lt q↔p.z<q.z:=by unfold P3.Lt;omega
end Go.Lith
namespace Go.Lith
open Go.RowKit
def sE(w:aw)(g:Nat)(es:Array fr)(c:Nat):Prop:=w.heap[g]? = some (.map es c)
def Bu(w:aw)(r g s:Nat)(seen:Array Nat)(c:Nat):Prop:=w.heap[r]? = some (.mapIter (some g) s seen c)
theorem sE.ext{w w':aw}{g c:Nat}{es:Array fr}(h:sE w g es c)(hE:dU w w'):sE w' g es c:=hE.block h
theorem sE.lt{w:aw}{g c:Nat}{es:Array fr}(h:sE w g es c):g<w.heap.size:=(cy.1 h).1
theorem Bu.lt{w:aw}{r g s c:Nat}{seen:Array Nat}(h:Bu w r g s seen c):r<w.heap.size:=(cy.1 h).1
section
variable {P:cj} {ds:List dp} {l:List aj} {x:bm} {T ty:be} {ops:Array Oper} {Q:Exit→Act→aw→Prop} {rest:List Oper} {d:Nat} {pos:String} {after:Array Edge} {w:aw}
theorem Uc(h:∀w' g,dU w w'→w.heap.size≤g→sE w' g #[] 0→bh P ops Q rest (Fr (l.set d (.map (some g))) ds) w'):bh P ops Q (bx (some d) (.makeMap T none) ty pos after none::rest) (Fr l ds) w :=
 mC (w':=w.alloc (.map #[] 0)) (v:=.map (some w.heap.size)) (fun o ho _=>by simp[cm,ho,Instr.makeMap,newObj,Sem.run]) (h _ _ ((dU.refl w).alloc _) (bi _) (heap_alloc_new w _))
theorem aaW{k e:be}{g c:Nat}{es:Array fr}(hu:P.underlying T=some (.map k e))(hx:ev l x=.map (some g))(hM:sE w g es c)(h:∀w' r,dU w w'→w.heap.size≤r→Bu w' r g c #[] c→bh P ops Q rest (Fr (l.set d (.pointer (some ⟨r,0,none⟩))) ds) w') :
 bh P ops Q (bx (some d) (.range T x) ty pos after none::rest) (Fr l ds) w :=
 mC (w':=w.alloc (.mapIter (some g) c #[] c)) (v:=.pointer (some ⟨w.heap.size,0,none⟩)) (fun o ho _=>by
  unfold sE at hM;simp[cm,ho,dV,hx,Instr.range,bt hu,getObj,hM,newObj,Sem.run]) (h _ _ ((dU.refl w).alloc _) (bi _) (heap_alloc_new w _))
end
end Go.Lith
namespace Go.Lith
open Go.RowKit Go.ChangeMaps Go.MapKept
/-! ### Lists of pairs -/
section
variable {K V:Type} [DecidableEq K]
def pA:List (K × V)→K→V→List (K × V)
 | [],k,v=>[(k,v)]
 | x::D,k,v=>if x.1=k then (k,v)::D else x::pA D k v
def vH:List (K × V)→K→Option V
 | [],_=>none
 | x::D,k=>if x.1=k then some x.2 else vH D k
def Ud:List (K × V)→K→List (K × V)
 | [],_=>[]
 | x::D,k=>if x.1=k then D else x::Ud D k
def rR:List (K × V)→K→Nat→Option (Nat × V)
 | [],_,_=>none
 | x::D,k,i=>if x.1=k then some (i,x.2) else rR D k (i+1)
theorem xG:∀(D:List (K × V)) (k:K) (i:Nat),rR D k i=none→vH D k=none∧(∀u,pA D k u=D++[(k,u)])∧Ud D k=D
 | [],_,_,_=>⟨rfl,fun _=>rfl,rfl⟩
 | x::D,k,i,h=>by
  unfold rR at h;by_cases e:x.1=k
  · rw[if_pos e] at h;cases h
  · rw[if_neg e] at h
    obtain⟨h1,h2,h3⟩:=xG D k (i+1) h;exact⟨by simp[vH,e,h1],fun u=>by simp[pA,e,h2],by simp[Ud,e,h3]⟩
theorem xH:∀(D:List (K × V)) (k:K) (i j:Nat) (v:V),rR D k i=some (j,v)→∃p,j=i+p∧D[p]? = some (k,v)∧vH D k=some v∧(∀u,pA D k u=D.set p (k,u))∧Ud D k=D.eraseIdx p
 | [],_,_,_,_,h=>by cases h
 | x::D,k,i,j,v,h=>by
  unfold rR at h;by_cases e:x.1=k
  · rw[if_pos e] at h
    cases h;obtain⟨a,b⟩:=x;obtain rfl:a=k:=e;exact⟨0,rfl,rfl,by simp[vH],fun u=>by simp[pA],by simp[Ud]⟩
  · rw[if_neg e] at h
    obtain⟨p,h1,h2,h3,h4,h5⟩:=xH D k (i+1) j v h;exact⟨p+1,by omega,by simpa using h2,by simp[vH,e,h3],fun u=>by simp[pA,e,h4],by simp[Ud,e,h5]⟩
theorem Ue:∀{D:List (K × V)} {k:K},vH D k=none↔k∉D.map (·.1)
 | [],_=>by simp[vH]
 | x::D,k=>by
  unfold vH;split
  · rename_i e;simp[e]
  · rename_i e
    rw[Ue (D:=D)];simp only[dh,bn,not_or];exact⟨fun h=>⟨fun h'=>e h'.symm,h⟩,fun h=>h.2⟩
theorem As:∀(D:List (K × V)) (k:K) (v:V),(pA D k v).map (·.1)=if k∈D.map (·.1) then D.map (·.1) else D.map (·.1)++[k]
 | [],k,v=>by simp[pA]
 | x::D,k,v=>by
  unfold pA;by_cases e:x.1=k
  · simp[e]
  · have e':¬k=x.1:=fun h=>e h.symm
    simp only[if_neg e,dh,As D k v,bn,e',false_or];split <;> simp
theorem Pr{D:List (K × V)}(h:(D.map (·.1)).Nodup)(k:K)(v:V):((pA D k v).map (·.1)).Nodup:=by
 rw[As];split
 · exact h
 · rename_i hk
   exact lv.2 ⟨h,by simp,fun a ha b hb e=>by rw[b_.1 hb] at e;exact hk (e▸ha)⟩
end
/-! ### A map's entries -/
def Vn(e:fr):aj × aj:=(e.key,e.val)
structure lH{K V:Type}(ek:K→aj)(ev:V→aj)(D:List (K × V))(es:Array fr)(c:Nat):Prop where
 cells:es.toList.map Vn=D.map fun x=>(ek x.1,ev x.2)
 born:∀e∈es.toList,e.born<c
 nd:(es.toList.map (·.born)).Nodup
theorem lH.nil{K V:Type}(ek:K→aj)(ev:V→aj):lH ek ev ([]:List (K × V)) #[] 0:=⟨rfl,fun _ h=>by simp at h,by simp⟩
structure Gl{K:Type}[DecidableEq K](P:cj)(T:be)(ek:K→aj):Prop where
 chk:∀e k w,(Instr.checkKey e 10000 T (ek k)).run P w=.ok () w
 now:∃t,P.underlying T=some t∧∀a b,Instr.sameNow t (ek a) (ek b)=none∨Instr.sameNow t (ek a) (ek b)=some (decide (a=b))
 eq:∀a b w,(Op.equal T (ek a) (ek b)).run P w=.ok (decide (a=b)) w
 bits:∀a,Instr.sameBits 10000 (ek a) (ek a)=true
section
variable {K V:Type} [DecidableEq K] {P:cj} {T:be} {ek:K→aj} {ev:V→aj}
theorem Bx(kt:Gl P T ek)(k:K)(w:aw):∀(L:List fr) (D:List (K × V)) (i:Nat),L.map Vn=D.map (fun x=>(ek x.1,ev x.2)) →
 (Instr.findAsking T (ek k) L i).run P w=.ok ((rR D k i).map fun p=>(p.1,ev p.2)) w
 | [],D,i,h=>by
  obtain rfl:D=[]:=by simpa using h.symm
  simp[Instr.findAsking,rR]
 | e::L,[],i,h=>by simp at h
 | e::L,x::D,i,h=>by
  simp only[dh,lc,Vn,fp] at h;obtain⟨⟨h1,h2⟩,h3⟩:=h;have ih:=Bx kt k w L D (i+1) h3;unfold Instr.findAsking rR;rw[h1,h2];simp only[Sem.run_bind,kt.eq,Result.andThen];by_cases e':x.1=k
  · rw[if_pos (decide_eq_true e'.symm),if_pos e']
    rfl
  · rw[if_neg (by rw[decide_eq_false (Ne.symm e')];exact Bool.false_ne_true),if_neg e']
    exact ih
theorem Mp(t:TypeDesc)(k:K)(hn:∀a b:K,Instr.sameNow t (ek a) (ek b)=none∨Instr.sameNow t (ek a) (ek b)=some (decide (a=b))):∀(L:List fr) (D:List (K × V)) (i:Nat),L.map Vn=D.map (fun x=>(ek x.1,ev x.2)) →
 Instr.findNow t (ek k) L i=none∨Instr.findNow t (ek k) L i=some ((rR D k i).map fun p=>(p.1,ev p.2))
 | [],D,i,h=>by
  obtain rfl:D=[]:=by simpa using h.symm
  simp[Instr.findNow,rR]
 | e::L,[],i,h=>by simp at h
 | e::L,x::D,i,h=>by
  simp only[dh,lc,Vn,fp] at h;obtain⟨⟨h1,h2⟩,h3⟩:=h;have ih:=Mp t k hn L D (i+1) h3;unfold Instr.findNow rR;rw[h1,h2];rcases hn k x.1 with e0 | e0
  · left;rw[e0]
  · rw[e0]
    by_cases e':x.1=k
    · right;simp[e']
    · rw[show decide (k=x.1)=false from decide_eq_false (Ne.symm e')]
      simpa[e'] using ih
theorem Ej(kt:Gl P T ek)(k:K)(w:aw){es:Array fr}{D:List (K × V)}{c:Nat}(h:lH ek ev D es c):(Instr.findKey T (ek k) es.toList).run P w=.ok ((rR D k 0).map fun p=>(p.1,ev p.2)) w:=by
 obtain⟨t,ht,hn⟩:=kt.now;unfold Instr.findKey;simp only[Sem.run_bind,bt ht,Result.andThen];rcases Mp t k hn es.toList D 0 h.cells with e | e
 · rw[e]
   exact Bx kt k w es.toList D 0 h.cells
 · rw[e]
   rfl
end
section
variable {K V:Type} [DecidableEq K] {P:cj} {T M E ty:be} {ek:K→aj} {ev:V→aj} {w w0:aw} {g c:Nat} {es:Array fr} {D:List (K × V)}
theorem Mq{v0:V}(hu:P.underlying M=some (.map T E))(kt:Gl P T ek)(hM:sE w g es c)(hD:lH ek ev D es c)(hz:mB P E (ev v0))(k:K)(b:Bool) :
 (Instr.lookup M (.map (some g)) (ek k) b).run P w=.ok (if b then .tuple #[ev ((vH D k).getD v0),.bool (vH D k).isSome] else ev ((vH D k).getD v0)) w:=by
 unfold sE at hM;obtain⟨inf,hi,hz⟩:=hz;have hzv:(zeroValue E).run P w=.ok (ev v0) w:=by simp[zeroValue,typeInfo,program,Sem.run,hi,hz]
 simp only[Instr.lookup,Sem.run_bind,bt hu,Result.andThen,getObj,Sem.run,hM,Sem.run_pure,kt.chk,Ej kt k w hD];cases hf:rR D k 0 with
 | none =>
  obtain⟨h1,_⟩:=xG D k 0 hf;rw[h1];simp only[Option.map_none,Sem.run_bind,hzv,Result.andThen,Sem.run_pure];cases b <;> rfl
 | some p =>
  obtain⟨j,v⟩:=p;obtain⟨_,_,_,h1,_⟩:=xH D k 0 j v hf;rw[h1];simp only[fb,Sem.run_pure,Result.andThen];cases b <;> rfl
theorem wR{g:Nat}{o o':Obj}(hM:w.heap[g]? = some o):(setBlock w g o').heap[g]? = some o':=by
 have:=(cy.1 hM).1;simp[setBlock,this]
theorem Kf{g:Nat}(o:Obj):Qz w (setBlock w g o) g:=⟨rfl,rfl,rfl,by simp[setBlock],fun k hk=>by simp[setBlock,Array.getElem?_setIfInBounds_ne (Ne.symm hk)]⟩
theorem Ek{α β:Type}(f:α→β)(L:List α)(i:Nat)(x:α)(g:α→α)(hi:L[i]? = some x):(L.modify i g).map f=(L.map f).set i (f (g x)):=by
 apply er;intro j;simp only[db,List.getElem?_modify,ie,List.length_map];by_cases e:i=j
 · subst e
   rw[hi];have:=(bq.1 hi).1;simp[this]
 · simp[e]
theorem lH.set(hD:lH ek ev D es c){p:Nat}{k:K}{v:V}(hp:D[p]? = some (k,v))(u:V):lH ek ev (D.set p (k,u)) (es.modify p fun e=>{ e with key:=ek k,val:=ev u }) c:=by
 have hl:es.toList.length=D.length:=by have:=congrArg List.length hD.cells;simpa using this
 have hlt:p<es.toList.length:=by rw[hl];exact (bq.1 hp).1
 have hx:es.toList[p]? = some es.toList[p]:=ao hlt;have hb:(es.modify p fun e=>{ e with key:=ek k,val:=ev u }).toList.map (·.born)=es.toList.map (·.born):=by
  rw[Array.toList_modify,Ek _ _ _ _ _ hx];apply er;intro j;rw[ie];split
  · rename_i e;subst e;rw[if_pos (by simpa using hlt),db,hx];rfl
  · rfl
 refine⟨?_,fun e he=>?_,by rw[hb];exact hD.nd⟩
 · rw[Array.toList_modify,Ek _ _ _ _ _ hx,hD.cells,List.map_set]
   rfl
 · have:e.born∈(es.modify p fun e=>{ e with key:=ek k,val:=ev u }).toList.map (·.born):=ew.2 ⟨e,he,rfl⟩
   rw[hb] at this;obtain⟨e',he',hh⟩:=ew.1 this;rw[←hh];exact hD.born e' he'
theorem lH.push(hD:lH ek ev D es c)(k:K)(u:V):lH ek ev (D++[(k,u)]) (es.push { key:=ek k,val:=ev u,born:=c }) (c+1):=by
 refine⟨by simp[hD.cells,Vn],fun e he=>?_,?_⟩
 · rw[Array.toList_push] at he
   rcases dx.1 he with he | he
   · exact Nat.lt_succ_of_lt (hD.born e he)
   · rw[b_.1 he];exact Nat.lt_succ_self _
 · rw[Array.toList_push,br]
   refine lv.2 ⟨hD.nd,by simp,fun a ha b hb e=>?_⟩;obtain⟨e',he',rfl⟩:=ew.1 ha;have:b=c:=by simpa using hb
   have:=hD.born e' he';omega
theorem Mr(hu:P.underlying M=some (.map T E))(kt:Gl P T ek)(hM:sE w g es c)(hD:lH ek ev D es c)(k:K)(u:V) :
 ∃es' c',(Instr.mapUpdate M (.map (some g)) (ek k) (ev u)).run P w=.ok () (setBlock w g (.map es' c'))∧lH ek ev (pA D k u) es' c':=by
 unfold sE at hM;cases hf:rR D k 0 with
 | none =>
  obtain⟨_,h1,_⟩:=xG D k 0 hf;refine⟨_,_,?_,h1 u▸hD.push k u⟩;simp only[Instr.mapUpdate,Sem.run_bind,bt hu,Result.andThen,getObj,Sem.run,hM,Sem.run_pure,kt.chk,Ej kt k w hD,hf,Option.map_none];exact run_setObj_map _ hM
 | some p =>
  obtain⟨j,v⟩:=p;obtain⟨p,rfl,hp,_,h1,_⟩:=xH D k 0 j v hf;rw[ah] at hf;have hl:es.toList.length=D.length:=by have:=congrArg List.length hD.cells;simpa using this
  have hlt:p<es.toList.length:=by rw[hl];exact (bq.1 hp).1
  have hk:((es[p]?).map (·.key)).getD (ek k)=ek k:=by
   have h2:=congrArg (fun L=>L[p]?) hD.cells;simp only[db,hp,fb] at h2;rw[Array.getElem?_toList] at h2;cases h3:es[p]? with
   | none=>rfl
   | some x =>
    rw[h3] at h2;simp only[fb,fu,Vn,fp] at h2;simpa using h2.1
  refine⟨_,_,?_,h1 u▸hD.set hp u⟩;simp only[Instr.mapUpdate,Sem.run_bind,bt hu,Result.andThen,getObj,Sem.run,hM,Sem.run_pure,kt.chk,Ej kt k w hD,hf,fb,hk,Instr.keyThatStays,kt.bits,if_true];exact run_setObj_map _ hM
/-! ### Ranges -/
def yR(ek:K→aj)(ev:V→aj)(D:List (K × V))(es:Array fr)(seen:Array Nat)(dn rs:List (K × V)):Prop :=
 (dn++rs).Perm D∧∃dE rE:List fr,seen.toList=dE.map (·.born)∧(dE++rE).Perm es.toList∧dE.map Vn=dn.map (fun x=>(ek x.1,ev x.2))∧rE.map Vn=rs.map (fun x=>(ek x.1,ev x.2))
theorem yR.start(hD:lH ek ev D es c):yR ek ev D es #[] [] D:=⟨mu _,[],es.toList,rfl,mu _,rfl,hD.cells⟩
theorem yR.done{seen:Array Nat}{dn:List (K × V)}(h:yR ek ev D es seen dn []):dn.Perm D:=by simpa using h.1
def Nxt(ek:K→aj)(ev:V→aj)(D:List (K × V))(es:Array fr)(dn rs:List (K × V))(b:Bool)(kv vv:aj)(seen':Array Nat):Prop :=
 (b=false∧rs=[])∨(b=true∧∃k v rs',rs.Perm ((k,v)::rs')∧kv=ek k∧vv=ev v∧yR ek ev D es seen' (dn++[(k,v)]) rs')
def Ms(b:Bool)(k v:aj):aj:=.tuple (if b then #[.bool true,k,v] else #[.bool false])
theorem Uf{r s:Nat}{seen:Array Nat}{dn rs:List (K × V)}(hI:Bu w r g c seen c)(hM:sE w g es c)(hD:lH ek ev D es c)(hT:yR ek ev D es seen dn rs) :
 ∃b kv vv seen' w1,(w1=w∨w1=w.drew)∧(Instr.next (.pointer (some ⟨r,0,none⟩)) false ty).run P w=.ok (Ms b kv vv) (setBlock w1 r (.mapIter (some g) c seen' c))∧Nxt ek ev D es dn rs b kv vv seen':=by
 obtain⟨hp,dE,rE,h1,h2,h3,h4⟩:=hT;have hnd:((dE++rE).map (·.born)).Nodup:=(h2.map (·.born)).nodup_iff.2 hD.nd;rw[br,lv] at hnd;have hleft:∀e,e∈(leftOf es seen).toList↔e∈rE:=fun e=>by
  unfold leftOf;simp only[Array.toList_filter,List.mem_filter,jr,Array.contains_eq_mem,decide_eq_false_iff_not];rw[←Array.mem_toList_iff (xs:=seen),h1,←h2.mem_iff,dx];constructor
  · rintro⟨h | h,hn⟩
    · exact absurd (ew.2 ⟨e,h,rfl⟩) hn
    · exact h
  · intro h
    exact⟨.inr h,fun hm=>hnd.2.2 _ hm _ (ew.2 ⟨e,h,rfl⟩) rfl⟩
 rcases run_next_at (P:=P) w ty r g c c seen es c hI hM hD.born (bi _) with ⟨h0,hr⟩ | ⟨e,he,w1,hw1,hr⟩
 · refine⟨false,default,default,seen,w,.inl rfl,?_,.inl ⟨rfl,?_⟩⟩
   · rw[hr]
     have:setBlock w r (.mapIter (some g) c seen c)=w:=by
      unfold setBlock;have hlt:=(cy.1 hI).1;have:w.heap.setIfInBounds r (.mapIter (some g) c seen c)=w.heap:=by
       apply Array.ext_getElem?;intro i;rw[Array.getElem?_setIfInBounds];split
       · rename_i e;subst e;exact hI.symm
       · rfl
      rw[this]
     rw[this];rfl
   · cases rs with
     | nil=>rfl
     | cons x rs =>
      cases rE with
      | nil=>simp at h4
      | cons e rE =>
       have:=(hleft e).2 (cu ..);rw[Array.eq_empty_of_size_eq_zero h0] at this;simp at this
 · obtain⟨s,t,rfl⟩:=List.append_of_mem ((hleft e).1 he)
   rw[br,dh] at h4;obtain⟨rs1,rs2,rfl,e1,e2⟩:=List.map_eq_append_iff.1 h4.symm;obtain⟨x,rs3,rfl,e3,e4⟩:=List.map_eq_cons_iff.1 e2;obtain⟨k,v⟩:=x;simp only[Vn,fp] at e3;refine⟨true,e.key,e.val,seen.push e.born,w1,hw1,hr,.inr ⟨rfl,k,v,rs1++rs3,List.perm_middle,e3.1.symm,e3.2.symm,?_,dE++[e],s++t,?_,?_,?_,?_⟩⟩
   · refine List.Perm.trans ?_ hp
     simp only[et,ep,dy];exact List.Perm.append_left _ List.perm_middle.symm
   · simp[h1]
   · refine List.Perm.trans ?_ h2
     simp only[et,ep,dy];exact List.Perm.append_left _ List.perm_middle.symm
   · simp[h3,Vn,e3]
   · simp[e1,e4]
theorem Ps{r:Nat}{seen:Array Nat}{dn rs:List (K × V)}{k:K}{v:V}(hI:Bu w r g c seen c)(hM:sE w g es c)(hD:lH ek ev D es c)(hT:yR ek ev D es seen (dn++[(k,v)]) rs) :
 (Instr.entry (.pointer (some ⟨r,0,none⟩))).run P w=.ok (.tuple #[ek k,ev v]) w:=by
 obtain⟨hp,dE,rE,h1,h2,h3,h4⟩:=hT;rw[br,dh,List.map_nil] at h3;obtain⟨d1,d2,rfl,e1,e2⟩:=List.map_eq_append_iff.1 h3;obtain⟨e,d3,rfl,e3,e4⟩:=List.map_eq_cons_iff.1 e2;obtain rfl:d3=[]:=by simpa using e4
 simp only[Vn,fp] at e3;have hs:seen=(d1.map (·.born)).toArray.push e.born:=by
  apply Array.toList_inj.1;rw[h1];simp
 have hm:e∈es.toList:=h2.mem_iff.1 (by simp);rw[hs] at hI;have:=run_entry_at (P:=P) w r g c _ es c e hI hM hm hD.nd;rw[this,e3.1,e3.2]
end
/-! ### Things in memory -/
def mI(g:Nat)(es:Array fr)(c:Nat):It where
 own b:=some g=some b
 P w:=sE w g es c
 lt w b h e:=by cases e;exact h.lt
 st w w' h _ k:=(k g rfl).trans h
def iI(r g c:Nat)(seen:Array Nat):It where
 own b:=some r=some b
 P w:=Bu w r g c seen c
 lt w b h e:=by cases e;exact h.lt
 st w w' h _ k:=(k r rfl).trans h
theorem cK.p{w0 w:aw}{is:List It}(m:cK w0 w is)(k:Nat){g c:Nat}{es:Array fr}(hk:is[k]? = some (mI g es c)):sE w g es c:=m.get k hk
theorem cK.r{w0 w:aw}{is:List It}(m:cK w0 w is)(k:Nat){r g c:Nat}{seen:Array Nat}(hk:is[k]? = some (iI r g c seen)):Bu w r g c seen c:=m.get k hk
section
variable {K V:Type} [DecidableEq K] {P:cj} {T M E ty:be} {ek:K→aj} {ev:V→aj} {w w0:aw} {g c:Nat} {es:Array fr} {D:List (K × V)} {is:List It}
variable {ds:List dp} {l:List aj} {x y z:bm} {ops:Array Oper} {Q:Exit→Act→aw→Prop} {rest:List Oper} {d:Nat} {pos:String} {after:Array Edge}
theorem Yb(m:cK w0 w is)(h:∀g u,cK w0 u (mI g #[] 0::is)→bh P ops Q rest (Fr (l.set d (.map (some g))) ds) u):bh P ops Q (bx (some d) (.makeMap M none) ty pos after none::rest) (Fr l ds) w :=
 Uc fun u g e hg hM=>h g u (m.new (i:=mI g #[] 0) e hM fun b h=>by cases h;exact hg)
theorem adF(m:cK w0 w is)(hu:P.underlying M=some (.map T E))(hx:Go.Lith.ev l x=.map (some g))(hM:sE w g es c)(h:∀r u,cK w0 u (iI r g c #[]::is)→bh P ops Q rest (Fr (l.set d (.pointer (some ⟨r,0,none⟩))) ds) u) :
 bh P ops Q (bx (some d) (.range M x) ty pos after none::rest) (Fr l ds) w :=
 aaW hu hx hM fun u r e hr hI=>h r u (m.new (i:=iI r g c #[]) e hI fun b h=>by cases h;exact hr)
end
end Go.Lith
