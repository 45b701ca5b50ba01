/-
 Texts of one claim, laid together: Geo2, Geo3, Geo4, Geo5, Own, Mem, Nc, Vg, Vs, Cj, Vj, Grow, Pts, Guard, Geo6, Open, Surf, Surf2, Lat, Map0, Map, Map2, Sort, Sets, Chk, Box, Wa, Wb, Wc, Wd.
-/
import Derived.Sort.Grow
import Derived.Deep.Draws
import Derived.OpenShut
import Derived.Lib.SmallJoins
import Derived.Deep.Slices
import Derived.Maps.RangeRun
import Derived.Shelf.SlSortCmp.WholeK
import Derived.Shelf.SlSortCmp.NoneTotal
import Derived.Test.YtfekpcimgncioaaGreatDoorCM1
open Go renaming Value→ah,World→aj,TypeId→an,wpList→au,Operand→bg,Program→bh,run_underlying→bx,MapEntry→b_,wpQuiet→cg,Deferred→cn,execOp→cw
open List renaming getElem?_eq_getElem→am,mem_cons→ao,getElem?_eq_some_iff→aq,length_append→aw,length_cons→ay,take_of_length_le→a_,flatMap_append→ba,mem_singleton→bf,map_cons→bi,mem_of_getElem?→bj,pairwise_cons→bm,mem_cons_of_mem→bp,mem_cons_self→bq,mem_append→bt,getElem?_eq_none→bv,not_mem_nil→bz,nil_append→cd,cons_append→ci,length_take→cj,map_append→cl,mem_map→df,append_assoc→dh,any_eq_true→dt,all_eq_true→dw,flatMap_cons→dx,getElem?_drop→d_,getElem?_take→eh,eq_nil_of_length_eq_zero→ej,mem_flatMap→e_,append_nil→fb,getElem?_append_left→fe,getElem_mem→fh,pairwise_append→fi,getElem?_map→fj,ext_getElem?→fq,size_toArray→fy,nodup_cons→gd,length_drop→gh,getElem?_cons_succ→gi,pairwise_iff_getElem→gn,foldl_append→g_,getD_eq_getElem?_getD→ie,drop_of_length_le→ij,foldl_cons→iv,getElem?_set→iz,range→i_,getElem?_append_right→ja,mem_range→jb,nodup_append→jm,getElem?_toArray→jw,mem_or_eq_of_mem_set→jx,takeWhile_append_dropWhile→kf,getElem_of_mem→kg,takeWhile_cons→kh,map_eq_append_iff→ld,drop_zero→lq,map_eq_cons_iff→lv,take_succ_cons→lz,dropWhile_cons→l_,filter_cons_of_pos→ml,filter_cons_of_neg→mn,flatMap_nil→nf,take_add_one→ob,nil_sublist→oe
open Nat renaming zero_add→ar,le_refl→av,le_trans→az,zero_le→br,lt_of_lt_of_le→fm,add_sub_cancel→f_,le_of_not_lt→gr,eq_zero_or_pos→ib,add_mul→jk,mod_lt→kd,mul_le_mul_right→nl,one_mul→nq,le_antisymm→oy,mul_comm→pc
open Bool renaming and_eq_true→be,or_eq_true→dm,not_false→gp,not_true→gt,false_eq_true→mi
open Go.Oper renaming mk→bn
open Go.Exit renaming inBlock→cq
open Option renaming getD_some→cu,map_some→fa,bind_some→gu,some→kz,map_none→ow
open Array renaming getElem?_eq_some_iff→de,getElem?_toList→ff,replicate→fl,getElem?_eq_getElem→fw,getElem?_setIfInBounds_ne→h_,getElem?_modify→jg,ext_getElem?→ju,eraseIdxIfInBounds→ke,getElem?_eq_none→lc,toList_push→mw,toList_modify→nt
open Option.some renaming inj→dq,injEq→fx
open Prod.mk renaming injEq→fp
open Int renaming fdiv_eq_ediv_of_nonneg→ia,tmod_eq_emod_of_nonneg→lu
open List.Pairwise renaming nil→ka
open List.cons renaming injEq→lf
open List.Perm renaming append_left→lj,refl→mx,trans→ox
open Prod renaming ext→ns,snd→og,fst→pa
set_option linter.unusedSimpArgs false
set_option linter.unusedVariables false
set_option linter.unusedSectionVars false
namespace Go.Lith
open Go.RowKit
def nv(v:P3):Go.Value:=.agg #[.int .i64 v.x,.int .i64 v.y,.int .i64 v.z]
def sg(v:P3):Go.Value:=.agg #[.int .i64 (aY v.x),.int .i64 (aY v.y),.int .i64 (aY v.z)]
class S3(p:P3):Prop where
 x:p.x.natAbs<262144
 y:p.y.natAbs<262144
 z:p.z.natAbs<262144
class N3(p:P3):Prop where
 x:p.x.natAbs<524288
 y:p.y.natAbs<524288
 z:p.z.natAbs<524288
instance {p q:P3}[a:S3 p][b:S3 q]:N3 (p.sub q):=⟨by have:=a.x;have:=b.x;simp only[P3.sub];omega,by have:=a.y;have:=b.y;simp only[P3.sub];omega,by have:=a.z;have:=b.z;simp only[P3.sub];omega⟩
theorem yT{a b:Int}(ha:a.natAbs<524288)(hb:b.natAbs<524288) : -274877906944<a*b∧a*b<274877906944:=by
 have h:(a*b).natAbs≤524287*524287:=by rw[Int.natAbs_mul];exact Nat.mul_le_mul (by omega) (by omega)
 omega
theorem aoM{x y:Int}(h : -274877906944<x∧x<274877906944)(k : -274877906944<y∧y<274877906944):IntKind.i64.wrap (x-y)=x-y:=dY (by omega) (by omega)
theorem Tl{x:Int}(h : -274877906944<x∧x<274877906944):IntKind.i64.wrap x=x:=dY (by omega) (by omega)
theorem yN{v:Int}(h:yL v):IntKind.u64.wrap (if v<IntKind.i64.wrap (0-v) then IntKind.i64.wrap (0-v) else v)=(v.natAbs:Int):=by
 obtain⟨h1,h2⟩:=h;rcases Int.lt_or_le (-9223372036854775808) v with h3 | h3
 · rw[dY (x:=0-v) (by omega) (by omega),lV]
   split <;> omega
 · obtain rfl:v = -9223372036854775808:=by omega
   decide
def akd:ByteArray:=⟨#[0,1,2,2,3,3,3,3,4,4,4,4,4,4,4,4,5,5,5,5,5,5,5,5,5,5,5,5,5,5,5,5,6,6,6,6,6,6,6,6,6,6,6,6,6,6,6,6,6,6,6,6,6,6,6,6,6,6,6,6,6,6,6,6,7,7,7,7,7,7,7,7,7,7,7,7,7,7,7,7,7,7,7,7,7,7,7,7,7,7,7,7,7,7,7,7,7,7,7,7,7,7,7,7,7,7,7,7,7,7,7,7,7,7,7,7,7,7,7,7,7,7,7,7,7,7,7,7,8,8,8,8,8,8,8,8,8,8,8,8,8,8,8,8,8,8,8,8,8,8,8,8,8,8,8,8,8,8,8,8,8,8,8,8,8,8,8,8,8,8,8,8,8,8,8,8,8,8,8,8,8,8,8,8,8,8,8,8,8,8,8,8,8,8,8,8,8,8,8,8,8,8,8,8,8,8,8,8,8,8,8,8,8,8,8,8,8,8,8,8,8,8,8,8,8,8,8,8,8,8,8,8,8,8,8,8,8,8,8,8,8,8,8,8,8,8,8,8,8,8,8,8,8,8,8,8]⟩
theorem aeG:∀i,i<256→∃b:UInt8,akd[i]? = some b∧b.toNat≤8∧(b.toNat≤2→i<4):=by
 have h:(i_ 256).all (fun i=>match akd[i]? with
  | some b=>decide (b.toNat≤8)&&(decide (2<b.toNat)||decide (i<4))
  | none=>false)=true:=by decide +kernel
 intro i hi;have:=dw.1 h i (jb.2 hi);cases hb:akd[i]? with
 | none=>rw[hb] at this;cases this
 | some b =>
  rw[hb] at this;simp only[be,dm,decide_eq_true_eq] at this;exact⟨b,rfl,this.1,fun h=>by omega⟩
section
variable {P:bh} {ds:List cn} {l:List ah} {x y:bg} {T ty:an} {ops:Array Oper} {Q:Exit→Act→aj→Prop} {rest:List Oper} {d:Nat} {pos:String} {after:Array Edge} {w:aj} {k:IntKind}
theorem Aj{Y:Nat}(hu:P.underlying T=some .string)(hx:ev l x=.string akd)(hy:ev l y=.int k (Y:Int))(hY:Y<256)(h:∀b:Nat,b≤8→(b≤2→Y<4)→au P ops Q rest (Fr (l.set d (.int .u8 (b:Int))) ds) w) :
 au P ops Q (bn (some d) (.index T x y) ty pos after none::rest) (Fr l ds) w:=by
 obtain⟨b,hb,h1,h2⟩:=aeG Y hY;exact aC (nZ hu hx hy (by omega) (by rw[Int.toNat_natCast];exact hb)) (h b.toNat h1 h2)
end
theorem agH{m:Nat}:(m:Int).fdiv (2^(min (16:Int).toNat IntKind.u64.bits))=((m / 65536:Nat):Int):=by
 show (m:Int).fdiv (2^16)=_
 rw[ia _ (by decide)];omega
theorem adt{m:Nat}:(m:Int).fdiv (2^(min (8:Int).toNat IntKind.u64.bits))=((m / 256:Nat):Int):=by
 show (m:Int).fdiv (2^8)=_
 rw[ia _ (by decide)];omega
def T3.flat(t:T3):Prop:=t.normal.x=0∧t.normal.y=0∧t.normal.z=0
instance (t:T3):Decidable t.flat:=inferInstanceAs (Decidable (_∧_∧_))
theorem cD{n:Int}:aY n=0↔n=0:=by
 unfold aY;constructor
 · intro h
   split at h
   · cases h
   · split at h
     · cases h
     · omega
 · rintro rfl;rfl
theorem Gl{n:Int}:0≤aY n↔0≤n:=by
 unfold aY;split
 · constructor <;> intro h <;> omega
 · split <;> constructor <;> intro h <;> omega
theorem agI{n:Int}:0<aY n↔0<n:=by
 unfold aY;split
 · constructor <;> intro h <;> omega
 · split <;> constructor <;> intro h <;> omega
theorem Oe{n:Int}:aY n≤0↔n≤0:=by
 have:=@agI n;omega
structure bP(w:aj)(A:Option Addr)(n:Nat)(ts:List T3):Prop where
 len:ts.length=n
 it:∀t∈ts,IT t
 row:∀i t,ts[i]? = some t→∃a,A=some a∧mB w (a.add (i*9)) [.int .i64 t.a.x,.int .i64 t.a.y,.int .i64 t.a.z,.int .i64 t.b.x,.int .i64 t.b.y,.int .i64 t.b.z,.int .i64 t.c.x,.int .i64 t.c.y,.int .i64 t.c.z]
theorem bP.ext{w w':aj}{A:Option Addr}{n:Nat}{ts:List T3}(h:bP w A n ts)(hE:fN w w'):bP w' A n ts :=
 ⟨h.len,h.it,fun i t hi=>let ⟨a,e,hr⟩:=h.row i t hi;⟨a,e,hr.ext hE⟩⟩
theorem bP.nil(w:aj)(A:Option Addr):bP w A 0 []:=⟨rfl,fun t h=>(by cases h),fun i t h=>(by cases h)⟩
theorem bP.get{w:aj}{A:Option Addr}{n:Nat}{ts:List T3}(h:bP w A n ts){i:Nat}(hi:i<n):∃t,ts[i]? = some t∧IT t∧∃a,A=some a∧mB w (a.add (i*9)) [.int .i64 t.a.x,.int .i64 t.a.y,.int .i64 t.a.z,.int .i64 t.b.x,.int .i64 t.b.y,.int .i64 t.b.z,.int .i64 t.c.x,.int .i64 t.c.y,.int .i64 t.c.z]:=by
 have hl:i<ts.length:=by rw[h.len];exact hi
 refine⟨ts[i],am hl,h.it _ (fh hl),h.row i _ (am hl)⟩
def aN(t:T3):List Go.Value:=[.int .i64 t.a.x,.int .i64 t.a.y,.int .i64 t.a.z,.int .i64 t.b.x,.int .i64 t.b.y,.int .i64 t.b.z,.int .i64 t.c.x,.int .i64 t.c.y,.int .i64 t.c.z]
theorem mB.pre{w:aj}{a:Addr}{xs ys:List Go.Value}(h:mB w a (xs++ys)):mB w a xs:=fun j u hj=>h j u (by
 have hl:j<xs.length:=(aq.1 hj).1;rw[fe hl];exact hj)
theorem rW(t:T3):(aN t).length=9:=rfl
theorem Jg:∀(ts:List T3) (i:Nat) (t:T3),ts[i]? = some t→(ts.flatMap aN).drop (i*9)=aN t++(ts.drop (i+1)).flatMap aN
 | [],i,t,h=>by cases h
 | u::ts,0,t,h=>by
  cases h;rfl
 | u::ts,i+1,t,h=>by
  rw[dx,show (i+1)*9=(aN u).length+i*9 by rw[rW];omega,List.drop_append,ij (by omega),cd];rw[show (aN u).length+i*9-(aN u).length=i*9 by omega];exact Jg ts i t h
instance {a b c:Int}[x:Iw a][y:Iw b][z:Iw c]:I3 ⟨a,b,c⟩:=⟨x.h,y.h,z.h⟩
abbrev Lc(A:Option Addr):Option Nat:=A.map (·.block)
structure Ow(w0 w:aj)(S:List (Option Nat))(E:an)(c:Nat)(A:Option Addr)(n cap:Nat)(xs:List ah):Prop where
 own:w.ownsRow w0.heap.size E c (.slice A n cap) n xs
 sep:∀b,Lc A=some b→some b∉S
 bd:∀b,some b∈S→b<w.heap.size
structure Wr(w w':aj)(A:Option Addr):Prop where
 os:w'.os=w.os
 tape:w'.tape=w.tape
 output:w'.output=w.output
 size:w.heap.size≤w'.heap.size
 block:∀k,k<w.heap.size→Lc A≠some k→w'.heap[k]? = w.heap[k]?
theorem nP{w:aj}{base c n cap:Nat}{E:an}{A:Option Addr}{xs:List ah}(h:w.ownsRow base E c (.slice A n cap) n xs) :
 (A=none∧n=0∧cap=0∧xs=[])∨∃g cur,A=some ⟨g,0,none⟩∧base≤g∧w.heap[g]? = some (.cells cur E (0,0))∧n≤cap∧cap≤maxLen∧cur.size=cap*c∧cur.toList.take (n*c)=xs:=by
 rcases h.2 with ⟨h1,h2⟩ | ⟨g,cap',cur,h1,h2,h3,h4,h5,h6,h7⟩
 · cases h1
   exact .inl ⟨rfl,h2,rfl,ej (by rw[h.1,h2,Nat.zero_mul])⟩
 · cases h1
   exact .inr ⟨g,cur,rfl,h2,h3,h4,h5,h6,h7⟩
section
variable {w0 w w':aj} {S:List (Option Nat)} {E:an} {c n cap:Nat} {A:Option Addr} {xs:List ah}
theorem Ow.cases(h:Ow w0 w S E c A n cap xs):(A=none∧n=0∧cap=0∧xs=[])∨∃g cur,A=some ⟨g,0,none⟩∧w0.heap.size≤g∧w.heap[g]? = some (.cells cur E (0,0))∧n≤cap∧cap≤maxLen∧cur.size=cap*c∧cur.toList.take (n*c)=xs:=nP h.own
theorem Ow.ge(h:Ow w0 w S E c A n cap xs):∀b,Lc A=some b→w0.heap.size≤b:=fun b hb=>by
 rcases h.cases with ⟨rfl,_⟩ | ⟨g,cur,rfl,hg,_⟩
 · cases hb
 · cases hb
   exact hg
theorem Ow.le(h:Ow w0 w S E c A n cap xs):n≤cap:=by
 rcases h.cases with ⟨_,rfl,rfl,_⟩ | ⟨g,cur,_,_,_,h1,_⟩
 · exact av _
 · exact h1
theorem Ow.some(h:Ow w0 w S E c A n cap xs)(hn:0<n):∃g,A=some ⟨g,0,none⟩:=by
 rcases h.cases with ⟨_,rfl,_⟩ | ⟨g,cur,rfl,_⟩
 · omega
 · exact⟨g,rfl⟩
theorem Ow.row(h:Ow w0 w S E c A n cap xs):∀j u,xs[j]? = kz u→∃a,A=kz a∧w.cell? (a.add j)=kz u:=fun j u hj=>by
 rcases h.cases with ⟨_,_,_,rfl⟩ | ⟨g,cur,rfl,_,hg,_,_,_,h4⟩
 · cases hj
 · refine⟨_,rfl,?_⟩
   rw[gZ,ar,cell_of_row w g j cur E (0,0) hg];rw[←h4,eh] at hj;split at hj
   · simpa using hj
   · cases hj
theorem Ow.rows{g:Nat}(h:Ow w0 w S E c (kz ⟨g,0,none⟩) n cap xs):mB w ⟨g,0,none⟩ xs:=fun j u hj=>by
 obtain⟨a,e,h1⟩:=h.row j u hj;cases e;exact h1
theorem Ow.nil(w0 w:aj)(E:an)(c:Nat):Ow w0 w [] E c none 0 0 []:=⟨World.ownsRow_nil w _ E c,fun _ h=>(by cases h),fun _ h=>(by cases h)⟩
theorem Ow.mk' {g:Nat}{cs:List ah}(hB:fK w g cs E)(hg:w0.heap.size≤g)(hl:cs.length=n*c)(hm:n≤maxLen):Ow w0 w [] E c (kz ⟨g,0,none⟩) n n cs :=
 ⟨⟨hl,.inr ⟨g,n,_,rfl,hg,hB,av _,hm,by simpa using hl,by simp[←hl]⟩⟩,fun _ _ h=>(by cases h),fun _ h=>(by cases h)⟩
theorem Ow.as{ys:List ah}(h:Ow w0 w S E c A n cap xs)(e:xs=ys):Ow w0 w S E c A n cap ys:=e▸h
end
section
variable {P:bh} {ds:List cn} {l:List ah} {x y:bg} {T ty:an}
variable {ops:Array Oper} {Q:Exit→Act→aj→Prop} {rest:List Oper} {d:Nat} {pos:String} {after:Array Edge} {w w0:aj} {S:List (Option Nat)} {E:an} {c n cap m mcap:Nat} {A B:Option Addr} {xs news:List ah}
theorem Wr.refl(w:aj)(A:Option Addr):Wr w w A:=⟨rfl,rfl,rfl,av _,fun _ _ _=>rfl⟩
theorem Sa{t:an}{i:TypeInfo}{z:ah}{bytes:Nat}(ht:P.underlying t=some (.slice E))(hi:P.info? E=some i)(hz:i.zero=some z)(hsize:i.size=c)(hby:i.bytes=bytes)(hzs:z.cells.size=c)(hsz:0<c)
 (hown:Ow w0 w S E c A n cap xs) (hl:news.length=m*c) (hnews:∀j u,news[j]? = some u→∃a,B=some a∧w.cell? (a.add j)=some u) (h1:∀u∈news,u.oneCell'=true)
 (h63:n+m≤maxLen) (hbytes:(n+m)*bytes≤140737488355328) (hbase:w0.heap.size≤w.heap.size) :
 ∃A' cap' w',(Builtin.append_ #[t,t] ty #[.slice A n cap,.slice B m mcap]).run P w=.ok (.slice A' (n+m) cap') w'∧Ow w0 w' S E c A' (n+m) cap' (xs++news)∧Wr w w' A∧(A'=A∨Lc A'=some w.heap.size):=by
 subst hsize;subst hby;have hsmall:n+m≤9223372036854775807:=by simp only[maxLen] at h63;omega
 have hlen:(xs++news).length=(n+m)*i.size:=by rw[aw,hown.own.1,hl,jk]
 have grown:∀(old:Nat),old<n+m →
  Ow w0 (w.drew.alloc (.cells (xs.toArray++news.toArray++Builtin.zeroCells z.cells (grownCap w (n+m) old E-(n+m))) E)) S E i.size
   (some ⟨w.heap.size,0,none⟩) (n+m) (grownCap w (n+m) old E) (xs++news) ∧
  Wr w (w.drew.alloc (.cells (xs.toArray++news.toArray++Builtin.zeroCells z.cells (grownCap w (n+m) old E-(n+m))) E)) A:=by
  intro old ho;have hge:=grownCap_ge w (n+m) old E;have hcm:grownCap w (n+m) old E≤maxLen:=grownCap_le_maxLen w (n+m) old E h63;refine⟨⟨⟨hlen,.inr ⟨w.heap.size,_,_,rfl,hbase,heap_alloc_new w.drew _,hge,hcm,?_,?_⟩⟩,fun b hb hm=>?_,fun b hb=>?_⟩,⟨rfl,rfl,rfl,by simp,fun k hk _=>heap_alloc_old w.drew _ (h:=hk)⟩⟩
  · simp only[Array.size_append,fy,size_zeroCells,hzs,hown.own.1,hl,←jk]
    congr 1
    omega
  · simp only[Array.toList_append,dh]
    rw[←dh,←hlen];exact List.take_left
  · have hb':w.heap.size=b:=by simpa using hb
    subst hb';exact absurd (hown.bd _ hm) (Nat.lt_irrefl _)
  · have:=hown.bd _ hb
    have h2:(w.drew.alloc (.cells (xs.toArray++news.toArray++Builtin.zeroCells z.cells (grownCap w (n+m) old E-(n+m))) E)).heap.size=w.heap.size+1:=by simp
    rw[h2];omega
 have hB0:B=none→m=0∧news=[]:=fun hB=>by
  have hn:news=[]:=by
   cases news with
   | nil=>rfl
   | cons u us=>obtain⟨a,e,_⟩:=hnews 0 u rfl;rw[hB] at e;cases e
  subst hn;refine⟨?_,rfl⟩;rcases ib m with h0 | h0
  · exact h0
  · have:=Nat.mul_pos h0 hsz;simp at hl;omega
 rcases hown.cases with ⟨rfl,rfl,rfl,rfl⟩ | ⟨g,cur,rfl,hbg,hg,hnc,hcm,hcs,htake⟩
 · by_cases hm:m=0
   · subst hm
     have hn:news=[]:=ej (by simpa using hl);subst hn;refine⟨none,0,w,?_,by simpa using hown,Wr.refl _ _,.inl rfl⟩;cases B <;> simp[Builtin.append_,bx ht,sizeOf,typeInfo,hi,Builtin.lenOf,Builtin.firstCells,loadCells,loadCellsFrom]
   · cases B with
     | none=>exact absurd (hB0 rfl).1 hm
     | some a =>
      have hr:=run_append_nil (P:=P) w t ty E i z ht hi hz a m mcap news hl (fun j u hj=>by obtain⟨a',e,h⟩:=hnews j u hj;cases e;exact h) (by omega) (by omega) (by have hb:=hbytes;simp only[ar] at hb;omega);have hgr:=grown 0 (by omega);simp only[ar,cd,Array.empty_append] at hgr ⊢;exact⟨_,_,_,hr,hgr.1,hgr.2,.inr rfl⟩
 · cases B with
   | none =>
    obtain⟨rfl,rfl⟩:=hB0 rfl;refine⟨some ⟨g,0,none⟩,cap,w,?_,by simpa using hown,Wr.refl _ _,.inl rfl⟩;simp[Builtin.append_,bx ht,sizeOf,typeInfo,hi,Builtin.lenOf,Builtin.firstCells,hnc,storeCells]
   | some a =>
    have hnews':∀j u,news[j]? = some u→w.cell? (a.add j)=some u:=fun j u hj=>by obtain⟨a',e,h⟩:=hnews j u hj;cases e;exact h
    by_cases hroom:n+m≤cap
    · have hfit:n*i.size+news.length≤cur.size:=by rw[hl,hcs,←jk];exact nl _ hroom
      have hr:=run_append_room (P:=P) w t ty E i ht hi g n cap cur hg a m mcap news hl hnews' h1 hroom hfit;refine⟨_,_,_,hr,⟨⟨hlen,.inr ⟨g,cap,_,rfl,hbg,setRow_heap w g cur _ E _ hg,hroom,hcm,?_,?_⟩⟩,hown.sep,fun b hb=>by simpa using hown.bd b hb⟩,⟨rfl,rfl,rfl,by simp,fun k _ hk=>setRow_other w g k _ (fun e=>hk (by rw[e];rfl))⟩,.inl rfl⟩
      · simp only[fy,aw,cj,gh,Array.length_toList]
        omega
      · rw[htake,←hlen]
        exact List.take_left
    · have hr:=run_append_grow (P:=P) w t ty E i z ht hi hz ⟨g,0,none⟩ n cap xs hown.own.1 hown.rows a m mcap news hl hnews' (by omega) (by omega) (growslice_fits (by omega) hbytes)
      have hgr:=grown cap (by omega);exact⟨_,_,_,hr,hgr.1,hgr.2,.inr rfl⟩
theorem Tm{b:Nat}{z:ah}{a0:Array an}(ha:a0 = #[T,T])(hu:P.underlying T=some (.slice E))(hi:(P.info? E).map (fun i=>(i.size,i.bytes,i.zero))=some (c,b,some z))(hz:z.cells.size=c)(hc:0<c)(hX:fN w0 w)
 (hs:ev l x=.slice A n cap) (hown:Ow w0 w S E c A n cap xs) (hx:ev l y=.slice B m mcap) (hl:news.length=m*c) (hrow:∀j u,news[j]? = some u→∃a,B=some a∧w.cell? (a.add j)=some u) (h1:∀u∈news,u.oneCell'=true) (h63:n+m≤9223372036854775807) (hbytes:(n+m)*b≤140737488355328)
 (h:∀A' cap' w',Ow w0 w' S E c A' (n+m) cap' (xs++news)→Wr w w' A→(A'=A∨Lc A'=some w.heap.size)→au P ops Q rest (Fr (l.set d (.slice A' (n+m) cap')) ds) w') :
 au P ops Q (bn (some d) (.call { callee:=.builtin .append,args:=#[x,y],argTypes:=a0 }) ty pos after none::rest) (Fr l ds) w:=by
 subst ha;cases hq:P.info? E with
 | none=>rw[hq] at hi;cases hi
 | some i =>
  rw[hq] at hi;simp only[fa,fx,fp] at hi;obtain⟨e1,e2,e3⟩:=hi;obtain⟨A',cap',w',hr,h2,h3,h4⟩:=Sa (P:=P) (w:=w) (ty:=ty) (mcap:=mcap) hu hq e3 e1 e2 hz hc hown hl hrow h1 (by simpa[maxLen] using h63) hbytes hX.size;exact lY (fun o ho hty=>by simp[cw,ho,hty,resolve,invoke,builtin,cJ,hs,hx,hr]) (h A' cap' w' h2 h3 h4)
end
theorem Gm(ts:List T3):(ts.flatMap aN).length=ts.length*9:=by
 induction ts with
 | nil=>rfl
 | cons t ts ih=>rw[dx,aw,ih,rW,ay];omega
theorem Ow.tris{w0 w:aj}{S:List (Option Nat)}{E:an}{A:Option Addr}{n cap:Nat}{ts:List T3}(h:Ow w0 w S E 9 A n cap (ts.flatMap aN))(hi:∀t∈ts,IT t):bP w A n ts:=by
 refine⟨?_,hi,fun i t ht=>?_⟩
 · have:=h.own.1;rw[Gm] at this;omega
 · have hr:∀j u,(aN t)[j]? = kz u→(ts.flatMap aN)[i*9+j]? = kz u:=fun j u hj=>by
    have hj':j<(aN t).length:=(aq.1 hj).1;rw[←d_,Jg ts i t ht,fe hj'];exact hj
   obtain⟨a,e,_⟩:=h.row _ _ (hr 0 _ rfl);refine⟨a,e,fun j u hj=>?_⟩;obtain⟨a',e',hc⟩:=h.row _ _ (hr j u hj);rw[e] at e';cases e';rw[lG];exact hc
theorem bP.cells{w:aj}{A:Option Addr}{n:Nat}{ts:List T3}(h:bP w A n ts):∀j u,(ts.flatMap aN)[j]? = some u→∃a,A=some a∧w.cell? (a.add j)=some u:=fun j u hj=>by
 have hl:j<ts.length*9:=by
  have:=(aq.1 hj).1;rwa [Gm] at this
 have hq:j / 9<ts.length:=by omega
 have ht:=am hq;obtain⟨a,e,hr⟩:=h.row _ _ ht;refine⟨a,e,?_⟩;have hd:=Jg ts (j / 9) _ ht;have hj':(aN ts[j / 9])[j%9]? = some u:=by
  have:((ts.flatMap aN).drop (j / 9*9))[j%9]? = some u:=by rw[d_,show j / 9*9+j%9=j by omega];exact hj
  rw[hd,fe (by rw[rW];omega)] at this;exact this
 have:=hr _ _ hj';rwa [lG,show j / 9*9+j%9=j by omega] at this
theorem ake:∀(t:T3),∀u∈aN t,u.oneCell'=true:=fun t u hu=>by
 simp only[aN,ao,bz,or_false] at hu;rcases hu with rfl | rfl | rfl | rfl | rfl | rfl | rfl | rfl | rfl <;> rfl
theorem Of(ts:List T3):∀u∈ts.flatMap aN,u.oneCell'=true:=fun u hu=>by
 obtain⟨t,_,h⟩:=e_.1 hu;exact ake t u h
theorem fK.rowsO{w:aj}{g:Nat}{cs:List ah}{t:an}(h:fK w g cs t):∀j u,cs[j]? = some u→∃a,some (⟨g,0,none⟩:Addr)=some a∧w.cell? (a.add j)=some u:=fun j u hj=>⟨_,rfl,by have:=h.row 0;rw[lq] at this;exact this j u hj⟩
section
variable {w0 w w':aj} {S:List (Option Nat)} {E:an} {c n cap:Nat} {A:Option Addr} {xs:List ah}
end
structure It where
 own:Nat→Prop
 P:aj→Prop
 lt:∀w b,P w→own b→b<w.heap.size
 st:∀w w',P w→w.heap.size≤w'.heap.size→(∀b,own b→w'.heap[b]? = w.heap[b]?)→P w'
 bk:Option (Nat × List ah × an):=none
 bkP:∀x,bk=some x→(∀b,own b↔b=x.1)∧∀w,P w→fK w x.1 x.2.1 x.2.2:=by intro _ h;cases h
def bI(g:Nat)(cs:List ah)(t:an):It where
 own b:=some g=some b
 P w:=fK w g cs t
 lt w b h e:=by cases e;exact h.lt
 st w w' h _ k:=(k g rfl).trans h
 bk:=some (g,cs,t)
 bkP x h:=by cases h;exact⟨fun b=>⟨fun e=>by cases e;rfl,fun e=>by rw[e]⟩,fun _ h=>h⟩
def oI(E:an)(c:Nat)(A:Option Addr)(n cap:Nat)(xs:List ah):It where
 own b:=Lc A=some b
 P w:=w.ownsRow 0 E c (.slice A n cap) n xs
 lt w b h e:=by
  rcases nP h with ⟨rfl,_⟩ | ⟨g,cur,rfl,_,hg,_⟩
  · cases e
  · cases e;exact (de.1 hg).1
 st w w' h _ k:=by
  refine⟨h.1,?_⟩;rcases nP h with ⟨rfl,rfl,rfl,_⟩ | ⟨g,cur,rfl,h1,h2,h3⟩
  · exact .inl ⟨rfl,rfl⟩
  · exact .inr ⟨g,cap,cur,rfl,h1,(k g rfl).trans h2,h3⟩
def Ap(i j:It):Prop:=∀b,i.own b→j.own b→False
theorem Ap.symm{i j:It}(h:Ap i j):Ap j i:=fun b h1 h2=>h b h2 h1
structure Mem(w0 w:aj)(is:List It):Prop where
 ext:fN w0 w
 all:∀i∈is,i.P w
 ge:∀i∈is,∀b,i.own b→w0.heap.size≤b
 nd:is.Pairwise Ap
def pJ:List Bool→List It→List It
 | true::bs,i::is=>i::pJ bs is
 | false::bs,_::is=>pJ bs is
 | _,_=>[]
theorem Ak:∀(bs:List Bool) (is:List It),(pJ bs is).Sublist is
 | true::bs,i::is=>(Ak bs is).cons_cons i
 | false::bs,i::is=>(Ak bs is).cons i
 | [],is=>oe _
 | true::bs,[]=>oe _
 | false::bs,[]=>oe _
section
variable {w0 w w':aj} {is:List It}
theorem Mem.refl(w:aj):Mem w w []:=⟨fN.refl w,fun _ h=>(by cases h),fun _ h=>(by cases h),.nil⟩
theorem Mem.ext' (m:Mem w0 w is)(e:fN w w'):Mem w0 w' is :=
 ⟨m.ext.trans e,fun i hi=>i.st w w' (m.all i hi) e.size fun b hb=>Below.block e b (i.lt w b (m.all i hi) hb),m.ge,m.nd⟩
theorem Mem.sel(m:Mem w0 w is)(bs:List Bool):Mem w0 w (pJ bs is) :=
 ⟨m.ext,fun i hi=>m.all i ((Ak bs is).subset hi),fun i hi=>m.ge i ((Ak bs is).subset hi),m.nd.sublist (Ak bs is)⟩
theorem Mem.tl{i:It}(m:Mem w0 w (i::is)):Mem w0 w is:=⟨m.ext,fun j hj=>m.all j (bp _ hj),fun j hj=>m.ge j (bp _ hj),(bm.1 m.nd).2⟩
theorem Mem.get(m:Mem w0 w is)(k:Nat){i:It}(hk:is[k]? = some i):i.P w:=m.all i (bj hk)
theorem Mem.b(m:Mem w0 w is)(k:Nat){g:Nat}{cs:List ah}{t:an}(hk:is[k]? = some (bI g cs t)):fK w g cs t:=m.get k hk
theorem Mem.o(m:Mem w0 w is)(k:Nat){E:an}{c n cap:Nat}{A:Option Addr}{xs:List ah}(hk:is[k]? = some (oI E c A n cap xs)):Ow w0 w [] E c A n cap xs:=by
 have h:w.ownsRow 0 E c (.slice A n cap) n xs:=m.get k hk;refine⟨⟨h.1,?_⟩,fun _ _ h=>(by cases h),fun _ h=>(by cases h)⟩;rcases nP h with ⟨rfl,rfl,rfl,_⟩ | ⟨g,cur,rfl,_,h2,h3⟩
 · exact .inl ⟨rfl,rfl⟩
 · exact .inr ⟨g,cap,cur,rfl,m.ge _ (bj hk) g rfl,h2,h3⟩
theorem Mem.bo(m:Mem w0 w is)(k:Nat){g:Nat}{cs:List ah}{t:an}(hk:is[k]? = some (bI g cs t)){n c:Nat}(hl:cs.length=n*c)(hm:n≤maxLen):Ow w0 w [] t c (some ⟨g,0,none⟩) n n cs :=
 Ow.mk' (m.b k hk) (m.ge _ (bj hk) g rfl) hl hm
theorem Mem.toO(m:Mem w0 w is)(k:Nat){g:Nat}{cs:List ah}{t:an}(hk:is[k]? = some (bI g cs t)){n c:Nat}(hl:cs.length=n*c)(hm:n≤maxLen):∃i,i=oI t c (some ⟨g,0,none⟩) n n cs∧i.P w:=⟨_,rfl,(m.bo k hk hl hm).own.1,.inr ⟨g,n,_,rfl,br _,m.b k hk,av _,hm,by simpa using hl,by simp[←hl]⟩⟩
theorem Mem.new{i:It}(m:Mem w0 w is)(e:fN w w')(hi:i.P w')(hg:∀b,i.own b→w.heap.size≤b):Mem w0 w' (i::is):=by
 have m':=m.ext' e;refine⟨m'.ext,fun j hj=>?_,fun j hj=>?_,bm.2 ⟨fun j hj b h1 h2=>?_,m'.nd⟩⟩
 · rcases ao.1 hj with rfl | hj
   · exact hi
   · exact m'.all j hj
 · rcases ao.1 hj with rfl | hj
   · exact fun b hb=>az m.ext.size (hg b hb)
   · exact m'.ge j hj
 · have:=j.lt w b (m.all j hj) h2
   have:=hg b h1;omega
theorem Mem.newB{g:Nat}{cs:List ah}{t:an}(m:Mem w0 w is)(e:fN w w')(hg:w.heap.size≤g)(hB:fK w' g cs t):Mem w0 w' (bI g cs t::is):=m.new e hB (fun b h=>by cases h;exact hg)
theorem Mem.newO{S:List (Option Nat)}{E:an}{c n cap:Nat}{A:Option Addr}{xs:List ah}(m:Mem w0 w is)(e:fN w w')(h:Ow w w' S E c A n cap xs):Mem w0 w' (oI E c A n cap xs::is):=by
 refine m.new e (i:=oI E c A n cap xs) ?_ h.ge;refine⟨h.own.1,?_⟩;rcases h.cases with ⟨rfl,rfl,rfl,_⟩ | ⟨g,cur,rfl,_,h2,h3⟩
 · exact .inl ⟨rfl,rfl⟩
 · exact .inr ⟨g,cap,cur,rfl,br _,h2,h3⟩
theorem Mem.nilO(m:Mem w0 w is)(E:an)(c:Nat):Mem w0 w (oI E c none 0 0 []::is):=m.newO (fN.refl w) (Ow.nil w w E c)
theorem abK{i i':It}:∀(is:List It) (k:Nat),is.Pairwise Ap→is[k]? = some i→(∀x∈is,Ap i x→Ap i' x)→(is.set k i').Pairwise Ap
 | [],_,_,h,_=>by cases h
 | j::is,0,hp,h,hc=>by
  cases h;rw[List.set_cons_zero];have:=bm.1 hp;exact bm.2 ⟨fun x hx=>hc x (bp _ hx) (this.1 x hx),this.2⟩
 | j::is,k+1,hp,h,hc=>by
  rw[List.set_cons_succ];have hp':=bm.1 hp;have h':is[k]? = some i:=h;refine bm.2 ⟨fun x hx=>?_,abK is k hp'.2 h' fun x hx=>hc x (bp _ hx)⟩;rcases jx hx with hx | rfl
  · exact hp'.1 x hx
  · exact (hc j (bq ..) (hp'.1 i (bj h')).symm).symm
theorem Mem.put{i i':It}(m:Mem w0 w is)(k:Nat)(hk:is[k]? = some i)(hos:w'.os=w.os)(ht:w'.tape=w.tape)(ho:w'.output=w.output)(hs:w.heap.size≤w'.heap.size)(hb:∀b,b<w.heap.size→¬i.own b→w'.heap[b]? = w.heap[b]?)
 (hi:i'.P w') (hid:(∀b,i'.own b→i.own b)∨∀b,i'.own b→w.heap.size≤b):Mem w0 w' (is.set k i'):=by
 have hmem:=bj hk;refine⟨⟨hos.trans m.ext.os,ht.trans m.ext.tape,ho.trans m.ext.output,az m.ext.size hs,fun b hlt=>(hb b (fm hlt m.ext.size) fun e=>?_).trans (Below.block m.ext b hlt)⟩,fun j hj=>?_,fun j hj b hjb=>?_,abK is k m.nd hk fun x hx ha b h1 h2=>?_⟩
 · have:=m.ge i hmem b e
   omega
 · obtain⟨q,hq,e⟩:=kg hj
   rw[List.getElem_set] at e;split at e
   · subst e;exact hi
   · rename_i hne
     rw[List.length_set] at hq;have hj':j∈is:=e▸fh hq;have hq':is[q]? = some j:=by rw[←e];exact am hq
     refine j.st w w' (m.all j hj') hs fun b hjb=>hb b (j.lt w b (m.all j hj') hjb) fun hib=>?_;have hklt:k<is.length:=(aq.1 hk).1;have hki:is[k]=i:=(aq.1 hk).2;rcases Nat.lt_or_gt_of_ne hne with h | h
     · have:=gn.1 m.nd k q hklt hq h
       rw[hki,e] at this;exact this b hib hjb
     · have:=gn.1 m.nd q k hq hklt h
       rw[hki,e] at this;exact this b hjb hib
 · rcases jx hj with hj | rfl
   · exact m.ge j hj b hjb
   · rcases hid with hid | hid
     · exact m.ge i hmem b (hid b hjb)
     · exact az m.ext.size (hid b hjb)
 · rcases hid with hid | hid
   · exact ha b (hid b h1) h2
   · have:=hid b h1
     have:=x.lt w b (m.all x hx) h2;omega
theorem Mem.re(m:Mem w0 w is)(k:Nat){g:Nat}{cs cs':List ah}{t:an}(hk:is[k]? = some (bI g cs t))(hB:fK w g cs' t):Mem w0 w (is.set k (bI g cs' t)) :=
 m.put k hk rfl rfl rfl (av _) (fun _ _ _=>rfl) hB (.inl fun _ h=>h)
theorem Mem.reO(m:Mem w0 w is)(k:Nat){E:an}{c n cap n' cap':Nat}{A:Option Addr}{xs xs':List ah}(hk:is[k]? = some (oI E c A n cap xs))(h:Ow w0 w [] E c A n' cap' xs'):Mem w0 w (is.set k (oI E c A n' cap' xs')):=by
 refine m.put k hk rfl rfl rfl (av _) (fun _ _ _=>rfl) ?_ (.inl fun _ h=>h);refine⟨h.own.1,?_⟩;rcases h.cases with ⟨rfl,rfl,rfl,_⟩ | ⟨g,cur,rfl,_,h2,h3⟩
 · exact .inl ⟨rfl,rfl⟩
 · exact .inr ⟨g,cap',cur,rfl,br _,h2,h3⟩
theorem Mem.own(m:Mem w0 w is)(k:Nat){g:Nat}{cs:List ah}{t:an}(hk:is[k]? = some (bI g cs t)){n c:Nat}(hl:cs.length=n*c)(hm:n≤maxLen):Mem w0 w (is.set k (oI t c (some ⟨g,0,none⟩) n n cs)):=by
 obtain⟨i,rfl,h⟩:=m.toO k hk hl hm;exact m.put k hk rfl rfl rfl (av _) (fun _ _ _=>rfl) h (.inl fun _ h=>h)
theorem iS{a b:Nat}(h:Nat.ble a b=true):a≤b:=Nat.le_of_ble_eq_true h
theorem fW{us:List ah}(h:(us.all (·.oneCell'))=true):∀u∈us,u.oneCell'=true:=fun u hu=>dw.1 h u hu
end
section
variable {P:bh} {ds:List cn} {l:List ah} {x y:bg} {T ty:an}
variable {ops:Array Oper} {Q:Exit→Act→aj→Prop} {rest:List Oper} {d:Nat} {pos:String} {after:Array Edge} {w w0:aj} {is:List It}
theorem arI{cs:List ah}(m:Mem w0 w is)(hv:(ev l x).cells=cs.toArray)(h:∀g u,Mem w0 u (bI g cs T::is)→au P ops Q rest (Fr (l.set d (.pointer (some ⟨g,0,none⟩))) ds) u) :
 au P ops Q (bn (some d) (.box T x) ty pos after none::rest) (Fr l ds) w:=af1 hv fun u g e hg hB=>h g u (m.newB e hg hB)
theorem nI{cs:List ah}{z:ah}(m:Mem w0 w is)(hZ:nY P T z)(hv:z.cells=cs.toArray)(h:∀g u,Mem w0 u (bI g cs T::is)→au P ops Q rest (Fr (l.set d (.pointer (some ⟨g,0,none⟩))) ds) u) :
 au P ops Q (bn (some d) (.alloc T) ty pos after none::rest) (Fr l ds) w:=Bz hZ hv fun u g e hg hB=>h g u (m.newB e hg hB)
theorem agJ{g off:Nat}{cs us:List ah}{t:an}(m:Mem w0 w is)(k:Nat)(hk:is[k]? = some (bI g cs t))(hx:ev l x=.pointer (some ⟨g,off,none⟩))(hv:(ev l y).cells=us.toArray)(hc:dP P T us.length)(hfit:off+us.length≤cs.length)(h1:(us.all (·.oneCell'))=true)
 (h:∀u,Mem w0 u (is.set k (bI g (cA cs off us) t))→au P ops Q rest (Fr l ds) u):au P ops Q (bn none (.store T x y) ty pos after none::rest) (Fr l ds) w :=
 Ca hx hv hc (m.b k hk) hfit (fW h1) fun u hC hB=>h u (m.put k hk hC.os hC.tape hC.output (by rw[hC.size];exact av _) (fun b _ hne=>hC.block b fun e=>hne (by rw[e];rfl)) hB (.inl fun _ h=>h))
theorem lJ{v:ah}{f:FuncId}{fo:bg}{xs:Array bg}{args:List ah}{first cap:Array ah}{a0:Array an}(m:Mem w0 w is)(hf:ev l fo=.func (.func f) first cap)(hxs:first.toList++xs.toList.map (ev l)++cap.toList=args)(hc:dL P f args v)
 (h:∀u,Mem w0 u is→au P ops Q rest (Fr (l.set d v) ds) u):au P ops Q (bn (some d) (.call { callee:=.value fo,args:=xs,argTypes:=a0 }) ty pos after none::rest) (Fr l ds) w :=
 Vr hf hxs hc fun u e=>h u (m.ext' e)
theorem cU{f:FuncId}{fo:bg}{xs:Array bg}{args:List ah}{first cap:Array ah}{a0:Array an}{R:ah→aj→Prop}(m:Mem w0 w is)(hf:ev l fo=.func (.func f) first cap)(hxs:first.toList++xs.toList.map (ev l)++cap.toList=args)(hc:dJ P f args w R)
 (h:∀v u,Mem w0 u is→R v u→au P ops Q rest (Fr (l.set d v) ds) u):au P ops Q (bn (some d) (.call { callee:=.value fo,args:=xs,argTypes:=a0 }) ty pos after none::rest) (Fr l ds) w :=
 bJ hf hxs hc fun v u e hR=>h v u (m.ext' e) hR
def OR(E:an)(c:Nat)(R:List ah→Prop)(w:aj)(v:ah)(w':aj):Prop:=∃A n cap xs,v=.slice A n cap∧Ow w w' [] E c A n cap xs∧R xs
theorem bQ{E:an}{c n cap b nm mcap:Nat}{A B:Option Addr}{z:ah}{xs news:List ah}{a0:Array an}(m:Mem w0 w is)(k:Nat)(hk:is[k]? = some (oI E c A n cap xs))(ha:a0 = #[T,T])(hu:P.underlying T=some (.slice E))(hi:(P.info? E).map (fun i=>(i.size,i.bytes,i.zero))=some (c,b,some z))(hz:z.cells.size=c)(hc:0<c)
 (hs:ev l x=.slice A n cap) (hx:ev l y=.slice B nm mcap) (hl:news.length=nm*c) (hrow:∀j u,news[j]? = some u→∃a,B=some a∧w.cell? (a.add j)=some u) (h1:∀u∈news,u.oneCell'=true) (h63:n+nm≤9223372036854775807) (hbytes:(n+nm)*b≤140737488355328)
 (h:∀A' cap' u,Mem w0 u (is.set k (oI E c A' (n+nm) cap' (xs++news)))→au P ops Q rest (Fr (l.set d (.slice A' (n+nm) cap')) ds) u) :
 au P ops Q (bn (some d) (.call { callee:=.builtin .append,args:=#[x,y],argTypes:=a0 }) ty pos after none::rest) (Fr l ds) w :=
 Tm ha hu hi hz hc m.ext hs (m.o k hk) hx hl hrow h1 h63 hbytes fun A' cap' u hO hW hF=>h A' cap' u (m.put k hk hW.os hW.tape hW.output hW.size (fun b hb hne=>hW.block b hb hne) (by
  refine⟨hO.own.1,?_⟩;rcases hO.cases with ⟨rfl,e1,rfl,_⟩ | ⟨g,cur,rfl,_,h2,h3⟩
  · exact .inl ⟨by rw[e1],e1⟩
  · exact .inr ⟨g,cap',cur,rfl,br _,h2,h3⟩) (by
  rcases hF with rfl | hF
  · exact .inl fun _ h=>h
  · exact .inr fun b hb=>by
     have e:Lc A'=some b:=hb;rw[hF] at e;cases e;exact av _))
theorem Tn{cs:List ah}(m:Mem w0 w is)(hv:ev l x=.agg cs.toArray)(h:∀g u,Mem w0 u (bI g cs T::is)→au P ops Q rest (Fr (l.set d (.pointer (some ⟨g,0,none⟩))) ds) u) :
 au P ops Q (bn (some d) (.box T x) ty pos after none::rest) (Fr l ds) w:=arI m (by rw[hv];rfl) h
theorem arJ{v:ah}(m:Mem w0 w is)(hv:ev l x=v)(h1:v.cells = #[v])(h:∀g u,Mem w0 u (bI g [v] T::is)→au P ops Q rest (Fr (l.set d (.pointer (some ⟨g,0,none⟩))) ds) u) :
 au P ops Q (bn (some d) (.box T x) ty pos after none::rest) (Fr l ds) w:=arI m (by rw[hv,h1]) h
theorem bR{g off:Nat}{cs us:List ah}{t:an}(m:Mem w0 w is)(k:Nat)(hk:is[k]? = some (bI g cs t))(hx:ev l x=.pointer (some ⟨g,off,none⟩))(hv:ev l y=.agg us.toArray)(hc:dP P T us.length)(hfit:off+us.length≤cs.length)(h1:(us.all (·.oneCell'))=true)
 (h:∀u,Mem w0 u (is.set k (bI g (cA cs off us) t))→au P ops Q rest (Fr l ds) u):au P ops Q (bn none (.store T x y) ty pos after none::rest) (Fr l ds) w:=agJ m k hk hx (by rw[hv];rfl) hc hfit h1 h
theorem eK{g off:Nat}{cs:List ah}{v:ah}{t:an}(m:Mem w0 w is)(k:Nat)(hk:is[k]? = some (bI g cs t))(hx:ev l x=.pointer (some ⟨g,off,none⟩))(hv:ev l y=v)(hc:dP P T 1)(hfit:off+1≤cs.length)(h1:v.oneCell'=true∧v.cells = #[v])
 (h:∀u,Mem w0 u (is.set k (bI g (cA cs off [v]) t))→au P ops Q rest (Fr l ds) u):au P ops Q (bn none (.store T x y) ty pos after none::rest) (Fr l ds) w:=agJ (us:=[v]) m k hk hx (by rw[hv,h1.2]) hc hfit (by simp[h1.1]) h
theorem fK.full{g:Nat}{cs:List ah}{t:an}(h:fK w g cs t)(hA:eP P T true)(hc:dP P T cs.length):fL P w T ⟨g,0,none⟩ (.agg cs.toArray):=by
 have:=h.row 0;rw[lq] at this;exact this.lies hA hc
theorem Mem.s01{w0 w:aj}{i j:It}{is:List It}(m:Mem w0 w (i::j::is)):Mem w0 w (j::i::is):=by
 have h1:=bm.1 m.nd;have h2:=bm.1 h1.2;refine⟨m.ext,fun x hx=>m.all x ?_,fun x hx=>m.ge x ?_,bm.2 ⟨fun x hx=>?_,bm.2 ⟨fun x hx=>h1.1 x (bp _ hx),h2.2⟩⟩⟩
 · simp only[ao] at hx ⊢;rcases hx with h | h | h <;> simp[h]
 · simp only[ao] at hx ⊢;rcases hx with h | h | h <;> simp[h]
 · rcases ao.1 hx with rfl | hx
   · exact (h1.1 _ (bq ..)).symm
   · exact h2.1 x hx
/-! ### Regions -/
theorem dA{id:Nat}{a:Act}{l:List Oper}(m:Mem w0 w is)(n:Nat)(hm:P.follows .mixedOrders=true)(hB:Region.lexTailB .any l.toArray n=true)
 (h:cg P l.toArray (fun u=>Mem w0 u is) (fun a'=>∀u,Mem w0 u is→au P l.toArray Q (l.drop n) a' u) (l.take n) a):(Code.region id l.toArray true).wp P Q a w :=
 qY (C:=fun u=>Mem w0 u is) n hm hB (m.ext' (fN.refl w).drawn) h
theorem mq{id:Nat}{a:Act}{l:List Oper}(m:Mem w0 w is)(hm:P.follows .mixedOrders=true)(hB:Region.lexB .any l.toArray=true)
 (h:cg P l.toArray (fun u=>Mem w0 u is) (fun a'=>∀u,Mem w0 u is→Q .normal a' u) l a):(Code.region id l.toArray true).wp P Q a w :=
 wp_region_quiet (C:=fun u=>Mem w0 u is) hm hB (m.ext' (fN.refl w).drawn) (by simpa using h)
theorem mh{id:Nat}{a:Act}{l:List Oper}(m:Mem w0 w is)(bs:List Bool)(o:List (Nat × Bool))(hm:P.follows .mixedOrders=true)(hB:(Region.noSelect l.toArray&&decide (o.length=l.length)&&Vp .any l.toArray o (fl l.toArray.size false))=true)
 (hQ:∀c d v a w,Q (.panic c) (Act.put a d v) w→Q (.panic c) a w) {ol:List (Oper × Bool)} (hol:(o.map fun x=>((l.toArray[x.1]?).getD default,x.2))=ol)
 (h:∀u,Mem w0 u is→bO P l.toArray (fun u=>Mem w0 u (pJ bs is)) Q ol a u):(Code.region id l.toArray true).wp P Q a w :=
 yK o hm hB hQ hol fun u e=>⟨fun u=>Mem w0 u (pJ bs is),(m.ext' e).sel bs,h u (m.ext' e)⟩
theorem mhe{id:Nat}{a:Act}{l:List Oper}(m:Mem w0 w is)(bs:List Bool)(o:List (Nat × Bool))(hm:P.follows .mixedOrders=true)(hB:(Region.noSelect l.toArray&&decide (o.length=l.length)&&Vp .any l.toArray o (fl l.toArray.size false))=true)
 (hQ:∀c d v a w,Q (.panic c) (Act.put a d v) w→Q (.panic c) a w) {ol:List (Oper × Bool)} (hol:(o.map fun x=>((l.toArray[x.1]?).getD default,x.2))=ol)
 (h:∀u,fN w u→Mem w0 u is→bO P l.toArray (fun u=>Mem w0 u (pJ bs is)) Q ol a u):(Code.region id l.toArray true).wp P Q a w :=
 yK o hm hB hQ hol fun u e=>⟨fun u=>Mem w0 u (pJ bs is),(m.ext' e).sel bs,h u e (m.ext' e)⟩
theorem Zt{id:Nat}{a:Act}{l:List Oper}(m:Mem w0 w is)(bs:List Bool)(t:pY)(hm:P.follows .mixedOrders=true)(hB:(Region.noSelect l.toArray&&t.ok .any l.toArray l.toArray.size (fl l.toArray.size false))=true)
 (hQ:∀c d v a w,Q (.panic c) (Act.put a d v) w→Q (.panic c) a w)
 (h:∀u,Mem w0 u is→cO P l.toArray (fun u=>Mem w0 u (pJ bs is)) Q t a u):(Code.region id l.toArray true).wp P Q a w :=
 Nz t hm hB hQ fun u e=>⟨fun u=>Mem w0 u (pJ bs is),(m.ext' e).sel bs,h u (m.ext' e)⟩
theorem mf1{tl:List Oper}{i d:Nat}{T:an}{cs:List ah}(m:Mem w0 w is)(h:∀g u,Mem w0 u (bI g cs T::is)→au P ops Q tl (Fr (l.set d (.pointer (some ⟨g,0,none⟩))) ds) u) :
 ∀E w',fN w w'→Je w.heap.size E [⟨i,d,T,cs⟩] w'→(∀x∈[(⟨i,d,T,cs⟩:Al)],∃v,E x.i=some v)→au P ops Q tl (fI E [⟨i,d,T,cs⟩] (Fr l ds)) w' :=
 aoK fun u g e hg hB=>h g u (m.newB e hg hB)
theorem Mem.newB2{w w':aj}{is:List It}{g g2:Nat}{cs cs2:List ah}{t t2:an}(m:Mem w0 w is)(e:fN w w')(hg:w.heap.size≤g)(hg2:w.heap.size≤g2)(hB:fK w' g cs t)(hB2:fK w' g2 cs2 t2)(hne:g2≠g):Mem w0 w' (bI g2 cs2 t2::bI g cs t::is):=by
 have m1:=m.newB e hg hB;refine⟨m1.ext,fun j hj=>?_,fun j hj=>?_,bm.2 ⟨fun j hj b h1 h2=>?_,m1.nd⟩⟩
 · rcases ao.1 hj with rfl | hj
   · exact hB2
   · exact m1.all j hj
 · rcases ao.1 hj with rfl | hj
   · exact fun b hb=>by cases hb;exact az m.ext.size hg2
   · exact m1.ge j hj
 · cases h1
   rcases ao.1 hj with rfl | hj
   · cases h2;exact hne rfl
   · have:=j.lt w _ (m.all j hj) h2
     omega
theorem mf2{tl:List Oper}{i d j e:Nat}{T U:an}{cs us:List ah}(m:Mem w0 w is)(hij:i≠j)(h:∀g k u,Mem w0 u (bI k us U::bI g cs T::is)→au P ops Q tl (Fr ((l.set d (.pointer (some ⟨g,0,none⟩))).set e (.pointer (some ⟨k,0,none⟩))) ds) u) :
 ∀E w',fN w w'→Je w.heap.size E [⟨i,d,T,cs⟩,⟨j,e,U,us⟩] w'→(∀x∈[(⟨i,d,T,cs⟩:Al),⟨j,e,U,us⟩],∃v,E x.i=some v)→au P ops Q tl (fI E [⟨i,d,T,cs⟩,⟨j,e,U,us⟩] (Fr l ds)) w' :=
 aoL hij fun u g k e hg hk hB hK hne=>h g k u (m.newB2 e hg hk hB hK hne)
theorem arK{c:Code}{a:Act}{l:Nat→Nat→List ah}{c1 c2:List ah}{T1 T2:an}(m:Mem w0 w is)(h1:c.wp P (fun e a' u=>e=.normal∧∃g k,a'=Fr (l g k) ds∧Mem w0 u (bI k c2 T2::bI g c1 T1::is)) a w)
 (h2:∀g k u,Mem w0 u (bI k c2 T2::bI g c1 T1::is)→Q .normal (Fr (l g k) ds) u):c.wp P Q a w:=by
 refine Code.wp_mono ?_ h1;rintro e a' u ⟨rfl,g,k,rfl,m'⟩;exact h2 g k u m'
end
section
variable {P:bh} {w0:aj} {is:List It} {l:List ah} {x y:bg} {T ty:an}
variable {ops:Array Oper} {Q:Act→Prop} {rest:List Oper} {d:Nat} {pos:String} {after:Array Edge} {v:ah} {ds:List cn}
theorem ql{a:Addr}(hx:ev l x=.pointer (some a))(hv:∀u,Mem w0 u is→fL P u T a v)(h:cg P ops (fun u=>Mem w0 u is) Q rest (Fr (l.set d v) ds)):cg P ops (fun u=>Mem w0 u is) Q (bn (some d) (.load T x) ty pos after none::rest) (Fr l ds) :=
 jY (fun u m=>aU hx (hv u m)) h
theorem qc{f:FuncId}{fo:bg}{xs:Array bg}{args:List ah}{first cap:Array ah}{a0:Array an}(hf:ev l fo=.func (.func f) first cap)(hxs:first.toList++xs.toList.map (ev l)++cap.toList=args)(hc:∀u,Mem w0 u is→dJ P f args u fun x _=>x=v)
 (h:cg P ops (fun u=>Mem w0 u is) Q rest (Fr (l.set d v) ds)):cg P ops (fun u=>Mem w0 u is) Q (bn (some d) (.call { callee:=.value fo,args:=xs,argTypes:=a0 }) ty pos after none::rest) (Fr l ds):=by
 refine wpQuiet_step fun K hK=>?_;rw[if_pos (by simp[Region.wanted])];refine⟨v,fun w' hw=>?_,?_⟩
 · unfold Oper.quietAt
   rw[jV,oY (hc w' hw).1 hf hxs _ rfl];refine⟨rfl,(hc w' hw).2.mono ?_⟩;rintro e w'' ⟨u,rfl,hE,rfl⟩;exact⟨rfl,hw.ext' hE⟩
 · show K ((Fr l ds).put (some d) v)
   rw[iB];exact hK _ h
theorem eR{f:FuncId}{fo:bg}{xs:Array bg}{args:List ah}{first cap:Array ah}{a0:Array an}(hf:ev l fo=.func (.func f) first cap)(hxs:first.toList++xs.toList.map (ev l)++cap.toList=args)(hc:dL P f args v)
 (h:cg P ops (fun u=>Mem w0 u is) Q rest (Fr (l.set d v) ds)):cg P ops (fun u=>Mem w0 u is) Q (bn (some d) (.call { callee:=.value fo,args:=xs,argTypes:=a0 }) ty pos after none::rest) (Fr l ds):=qc hf hxs (fun u _=>hc u) h
end
theorem Mem.gb{w0 w:aj}{is:List It}(m:Mem w0 w is)(k:Nat){g:Nat}{cs:List ah}{t:an}(hk:is[k]? = some (bI g cs t)):w0.heap.size≤g:=m.ge _ (bj hk) g rfl
theorem eL{P:bh}{l:List ah}{x:bg}{ty:an}{a:Addr}(hx:ev l x=.pointer (some a)):iG P l (.nilCheck x) ty (.pointer (some a)):=fun w o ho _=>by
 simp[cw,ho,cJ,hx]
inductive Ko where
 | c (c:Code)
 | b (id:Nat)
 | o (ops:Array Oper) (rest:List Oper)
 | k (K:Act→aj→Prop)
 | r (c:Code) (n:Nat)
def Ct(P:bh)(R:Exit→Act→aj→Prop):List Ko→Exit→Act→aj→Prop
 | []=>R
 | .c c::s=>Exit.then (c.wp P (Ct P R s)) (Ct P R s)
 | .b id::s=>cq id (Ct P R s)
 | .o ops rest::s=>Exit.then (au P ops (Ct P R s) rest) (Ct P R s)
 | .k K::s=>Exit.then K (Ct P R s)
 | .r c n::s=>Exit.then (Code.rounds P c (Ct P R s) n) (Ct P R s)
def Gt(P:bh)(R:Exit→Act→aj→Prop)(s:List Ko)(a:Act)(w:aj):Prop:=Ct P R s .normal a w
theorem agL{P:bh}{R:Exit→Act→aj→Prop}{a:Act}{w:aj}(h:R .ret a w):∀s,Ct P R s .ret a w
 | []=>h
 | .c _::s | .b _::s | .o _ _::s | .k _::s | .r _ _::s=>agL h s
/-! ### Values taken apart -/
def qT(v:ah)(f:IntKind→Int→Prop):Prop:=match v with | .int k m=>f k m | _=>False
def vvB(v:ah)(f:Bool→Prop):Prop:=match v with | .bool b=>f b | _=>False
def vvP(v:ah)(f:Addr→Prop):Prop:=match v with | .pointer (some a)=>f a | _=>False
def vvS(v:ah)(f:Option Addr→Nat→Nat→Prop):Prop:=match v with | .slice a n c=>f a n c | _=>False
def vvA(v:ah)(f:List ah→Prop):Prop:=match v with | .agg cs=>f cs.toList | _=>False
def vvT(v:ah)(f:List ah→Prop):Prop:=match v with | .tuple cs=>f cs.toList | _=>False
def yX{α:Type}(o:Option α)(f:α→Prop):Prop:=match o with | some x=>f x | none=>False
def vbX(b:Bool)(p q:Prop):Prop:=match b with | true=>p | false=>q
def vnX(n:Nat)(p:Prop):Prop:=match n with | 0=>False | _+1=>p
def vnE:Nat→Nat→Prop→Prop→Prop
 | 0,0,p,_=>p
 | n+1,m+1,p,q=>vnE n m p q
 | _,_,_,q=>q
def Jh:List ah→Nat→(ah→Prop)→Prop
 | x::_,0,f=>f x
 | _::l,n+1,f=>Jh l n f
 | [],_,_=>False
def Es:List ah→Nat→Prop
 | [],0=>True
 | _::l,n+1=>Es l n
 | _,_=>False
theorem Cl:∀{l:List ah} {n:Nat},Es l n→l.length=n
 | [],0,_=>rfl
 | _::l,n+1,h=>by rw[ay,Cl (l:=l) h]
theorem Mo:∀{l:List ah} {n:Nat} {f:ah→Prop},Jh l n f→∃v,l[n]? = some v∧f v
 | x::_,0,_,h=>⟨x,rfl,h⟩
 | _::l,n+1,_,h=>by rw[gi];exact Mo (l:=l) h
def Wj:List ah→Prop
 | []=>True
 | v::l=>v.oneCell'=true∧Wj l
theorem adu:∀{l:List ah},Wj l→(l.all (·.oneCell'))=true
 | [],_=>rfl
 | v::l,h=>by rw[List.all_cons,h.1,adu (l:=l) h.2];rfl
def Zu(k:IntKind)(n:Int):Prop:=match k with
 | .i64=>-9223372036854775808≤n∧n<9223372036854775808
 | .i32=>-2147483648≤n∧n<2147483648
 | .u64=>0≤n∧n<18446744073709551616
 | .u32=>0≤n∧n<4294967296
 | .u8=>0≤n∧n<256
 | _=>False
theorem Zu.wrap{k:IntKind}{n:Int}(h:Zu k n):k.wrap n=n:=by
 cases k <;> first | exact h.elim | exact dY h.1 h.2 | exact af3 h.1 h.2 | exact vU h.1 h.2 | exact af2 h.1 h.2 | exact ac7 h.1 h.2
/-! ### Types -/
def uQ(P:bh)(T:an):Option (Bool × Nat):=match P.underlying T,P.info? T with
 | some d,some i=>some (By d,i.size)
 | _,_=>none
theorem xH{P:bh}{T:an}{b:Bool}{n:Nat}(h:uQ P T=some (b,n)):eP P T b∧dP P T n:=by
 unfold uQ at h;split at h
 · rename_i d i h1 h2
   cases h;exact⟨⟨d,h1,rfl⟩,⟨i,h2,rfl⟩⟩
 · cases h
def pK(P:bh)(T:an)(i:Nat):Option (Nat × Bool × Nat):=match P.underlying T with
 | some (.struct fs)=>match fs[i]? with
  | some f=>(uQ P f.type).map fun x=>(f.offset,x)
  | none=>none
 | _=>none
theorem adv{P:bh}{T:an}{i o n:Nat}{b:Bool}(h:pK P T i=some (o,b,n)):∃fs f,P.underlying T=some (.struct fs)∧fs[i]? = some f∧f.offset=o∧eP P f.type b∧dP P f.type n:=by
 unfold pK at h;split at h
 · rename_i fs hu
   split at h
   · rename_i f hf
     cases hs:uQ P f.type with
     | none=>rw[hs] at h;cases h
     | some x =>
      obtain⟨b',n'⟩:=x;rw[hs] at h;cases h;exact⟨fs,f,hu,hf,rfl,(xH hs).1,(xH hs).2⟩
   · cases h
 · cases h
def ixP(P:bh)(T:an):Option (Option Nat × Nat):=match P.underlying T with
 | some (.array n E)=>(uQ P E).map fun x=>(some n,x.2)
 | some (.slice E)=>(uQ P E).map fun x=>(none,x.2)
 | _=>none
def Gn(P:bh)(T:an):Option an:=match P.underlying T with
 | some (.slice E)=>some E
 | _=>none
theorem akg{P:bh}{T E:an}(h:Gn P T=some E):P.underlying T=some (.slice E):=by
 unfold Gn at h;split at h
 · rename_i E' hu;cases h;exact hu
 · cases h
def ikP(P:bh)(T:an):Option IntKind:=match P.underlying T with
 | some (.int k)=>some k
 | _=>none
theorem agM{P:bh}{T:an}{k:IntKind}(h:ikP P T=some k):P.underlying T=some (.int k):=by
 unfold ikP at h;split at h
 · rename_i k' hu;cases h;exact hu
 · cases h
def Me(P:bh)(T:an):Option (List ah):=((P.info? T).bind (·.zero)).map (·.cells.toList)
theorem Wk{P:bh}{T:an}{cs:List ah}(h:Me P T=some cs):∃z,nY P T z∧z.cells=cs.toArray:=by
 unfold Me at h;cases hz:(P.info? T).bind (·.zero) with
 | none=>rw[hz] at h;cases h
 | some z=>rw[hz] at h;cases h;exact⟨z,kP hz,by simp⟩
def yU(P:bh)(T:an):Option (List (Nat × Nat) × List ah):=match P.underlying T,Me P T with
 | some (.struct fs),some z=>(fs.toList.mapM fun (f:Field)=>(uQ P f.type).map fun x=>(f.offset,x.2)).map fun l=>(l,z)
 | some (.array n E),some z=>(uQ P E).map fun x=>((i_ n).map fun i=>(i*x.2,x.2),z)
 | _,_=>none
def Wl:List (Nat × Nat)→Nat→(Nat × Nat→Prop)→Prop
 | x::_,0,f=>f x
 | _::l,n+1,f=>Wl l n f
 | [],_,_=>False
def blV(l:List ah)(pl:List (Nat × Nat)):List (Nat × bg)→List ah→Prop→(Prop→List ah→Prop)→Prop
 | [],cs,q,f=>f q cs
 | (i,x)::ps,cs,q,f=>Wl pl i fun z=>vnX z.2 (blV l pl ps (cA cs z.1 (ev l x).cells.toList) (Es (ev l x).cells.toList z.2∧Es ((cs.drop z.1).take z.2) z.2∧q) f)
/-! ### Operations -/
def vvX(n:Option Nat)(v:ah)(f:Addr→Nat→Prop):Prop:=match n with
 | some n=>vvP v fun a=>f a n
 | none=>vvS v fun A n _=>yX A fun a=>f a n
abbrev KV:Type:=Prop→ah→List Nat→List It→Prop
def cV(sc:List Nat)(p:Prop)[Decidable p](K:KV)(is:List It):Prop:=match sc with
 | 0::sc=>K True (.bool (decide p)) sc is
 | 1::sc=>K p (.bool true) sc is
 | 2::sc=>K (¬p) (.bool false) sc is
 | _=>False
def biV(b:BinOp)(x y:ah)(sc:List Nat)(is:List It)(K:KV):Prop:=match b with
 | .add=>qT x fun k m=>qT y fun k' n=>K (k'=k∧Zu k (m+n)) (.int k (m+n)) sc is
 | .sub=>qT x fun k m=>qT y fun k' n=>K (k'=k∧Zu k (m-n)) (.int k (m-n)) sc is
 | .mul=>qT x fun k m=>qT y fun k' n=>K (k'=k∧Zu k (m*n)) (.int k (m*n)) sc is
 | .lss=>qT x fun k m=>qT y fun k' n=>cV sc (m<n) (fun p=>K (k'=k∧p)) is
 | .leq=>qT x fun k m=>qT y fun k' n=>cV sc (m≤n) (fun p=>K (k'=k∧p)) is
 | .gtr=>qT x fun k m=>qT y fun k' n=>cV sc (n<m) (fun p=>K (k'=k∧p)) is
 | .geq=>qT x fun k m=>qT y fun k' n=>cV sc (n≤m) (fun p=>K (k'=k∧p)) is
 | .eql=>qT x fun k m=>qT y fun k' n=>cV sc (m=n) (fun p=>K (k'=k∧p)) is
 | .neq=>qT x fun k m=>qT y fun k' n=>cV sc (m≠n) (fun p=>K (k'=k∧p)) is
 | _=>False
abbrev Ob:Type:=Nat × List ah × an
def atO:List Ob→Nat→(Ob→Prop)→Prop
 | x::_,0,f=>f x
 | _::l,n+1,f=>atO l n f
 | [],_,_=>False
def atB:List It→List Ob→Nat→(Ob→Prop)→Prop
 | i::_,_,0,f=>yX i.bk f
 | _::is,os,n+1,f=>atB is os n f
 | [],os,n,f=>atO os n f
def atM:List It→Nat→(Ob→Prop)→Prop
 | i::_,0,f=>yX i.bk f
 | _::is,n+1,f=>atM is n f
 | [],_,_=>False
theorem agP:∀{os:List Ob} {k:Nat} {f:Ob→Prop},atO os k f→∃x∈os,f x
 | x::_,0,_,h=>⟨x,bq ..,h⟩
 | _::os,k+1,_,h=>let ⟨x,hx,hf⟩:=agP (os:=os) h;⟨x,bp _ hx,hf⟩
theorem oE{α:Type}{o:Option α}{f:α→Prop}(h:yX o f):∃x,o=some x∧f x:=by
 cases o with
 | none=>exact h.elim
 | some x=>exact⟨x,rfl,h⟩
theorem abN:∀{is:List It} {k:Nat} {f:Ob→Prop},atM is k f→∃i x,is[k]? = some i∧i.bk=some x∧f x
 | i::_,0,_,h=>let ⟨x,hx,hf⟩:=oE h;⟨i,x,rfl,hx,hf⟩
 | _::is,k+1,_,h=>by rw[gi];exact abN (is:=is) h
theorem agQ:∀{is:List It} {os:List Ob} {k:Nat} {f:Ob→Prop},atB is os k f→(∃i∈is,∃x,i.bk=some x∧f x)∨∃x∈os,f x
 | i::_,_,0,_,h=>let ⟨x,hx,hf⟩:=oE h;.inl ⟨i,bq ..,x,hx,hf⟩
 | _::is,os,k+1,_,h=>(agQ (is:=is) (os:=os) h).imp (fun⟨i,hi,r⟩=>⟨i,bp _ hi,r⟩) id
 | [],_,_,_,h=>.inr (agP h)
def caV(P:bh)(l:List ah)(is:List It)(b:Builtin)(xs:List bg)(ts:List an)(sc:List Nat)(K:KV):Prop:=match b,xs,ts with
 | .len,[x],[T]=>yX (Gn P T) fun _=>vvS (ev l x) fun _ n _=>K True (.int .i64 n) sc is
 | .min,[x,y],_=>qT (ev l x) fun k m=>qT (ev l y) fun k' n=>K (k'=k) (.int k (if n<m then n else m)) sc is
 | .max,[x,y],_=>qT (ev l x) fun k m=>qT (ev l y) fun k' n=>K (k'=k) (.int k (if m<n then n else m)) sc is
 | _,_,_=>False
def Dt(P:bh)(l:List ah)(is:List It)(os:List Ob)(pr:Bool)(op:Op)(sc:List Nat)(K:KV):Prop:=match op with
 | .move x=>K True (ev l x) sc is
 | .assign x=>K True (ev l x) sc is
 | .nilCheck x=>vvP (ev l x) fun a=>K True (.pointer (some a)) sc is
 | .pick c x y=>vvB (ev l c) fun b=>vbX b (K True (ev l x) sc is) (K True (ev l y) sc is)
 | .binOp b _ x y _=>biV b (ev l x) (ev l y) sc is K
 | .unOp .not _ x=>vvB (ev l x) fun b=>K True (.bool (!b)) sc is
 | .unOp .neg _ x=>qT (ev l x) fun k m=>K (Zu k (0-m)) (.int k (0-m)) sc is
 | .convert T T' x=>yX (ikP P T) fun _=>yX (ikP P T') fun k=>qT (ev l x) fun _ m=>K (Zu k m) (.int k m) sc is
 | .fieldAddr T x i=>yX (pK P T i) fun f=>vvP (ev l x) fun a=>vnX f.2.2 (K True (.pointer (some (a.add f.1))) sc is)
 | .indexAddr T x y=>yX (ixP P T) fun z=>vvX z.1 (ev l x) fun a n=>qT (ev l y) fun _ m=>K (0≤m∧m<n) (.pointer (some (a.add (m.toNat*z.2)))) sc is
 | .field T x i=>yX (pK P T i) fun f=>vvA (ev l x) fun cs=>vbX f.2.1 (K True (.agg ((cs.drop f.1).take f.2.2).toArray) sc is) (Jh cs f.1 fun v=>K True v sc is)
 | .build T parts=>yX (yU P T) fun z=>blV l z.1 parts.toList z.2 True fun q cs=>K q (.agg cs.toArray) sc is
 | .extract x i=>vvT (ev l x) fun cs=>Jh cs i fun v=>K True v sc is
 | .load T x=>match sc with
  | k::sc=>yX (uQ P T) fun z=>vvP (ev l x) fun a=>atB is os k fun g=>vbX z.1 (K (a=⟨g.1,a.off,none⟩∧Es ((g.2.1.drop a.off).take z.2) z.2) (.agg ((g.2.1.drop a.off).take z.2).toArray) sc is) (Jh g.2.1 a.off fun v=>K (a=⟨g.1,a.off,none⟩) v sc is)
  | []=>False
 | .box T x=>vbX pr False (∀g,K True (.pointer (some ⟨g,0,none⟩)) sc (bI g (ev l x).cells.toList T::is))
 | .alloc T=>vbX pr False (yX (Me P T) fun z=>∀g,K True (.pointer (some ⟨g,0,none⟩)) sc (bI g z T::is))
 | .call c=>match c.callee with
  | .builtin b=>caV P l is b c.args.toList c.argTypes.toList sc K
  | _=>False
 | _=>False
def stV(P:bh)(l:List ah)(is:List It)(pr:Bool)(op:Op)(sc:List Nat)(K:KV):Prop:=match op,sc with
 | .store T x y,k::sc=>vbX pr False (yX (uQ P T) fun z=>vnX z.2 (vvP (ev l x) fun a=>atM is k fun g=>K (a=⟨g.1,a.off,none⟩∧Es ((g.2.1.drop a.off).take z.2) z.2∧Es (ev l y).cells.toList z.2∧Wj (ev l y).cells.toList) undef sc (is.set k (bI g.1 (cA g.2.1 a.off (ev l y).cells.toList) g.2.2))))
 | _,_=>False
def vyv(ops:List Oper)(l:List ah)(j:Nat):ah:=match ops[j]? with
 | some o=>match o.dst with
  | some d=>l.getD d undef
  | none=>undef
 | none=>undef
def vvG(v:ah)(b:Bool)(p q:Prop):Prop:=match v with
 | .bool c=>if c=b then p else q
 | .tuple _=>q
 | _=>False
def Og(ops:Array Oper)(l:List ah)(g:Option (Nat × Bool))(p q:Prop):Prop:=match g with
 | none=>p
 | some (j,b)=>vvG (vyv ops.toList l j) b p q
def Rs(id:Nat):List Ko→(List Ko→Prop)→Prop
 | .b j::s,f=>vnE id j (f s) (Rs id s f)
 | .c _::s,f=>Rs id s f
 | .o _ _::s,f=>Rs id s f
 | .k _::s,f=>Rs id s f
 | .r _ _::s,f=>Rs id s f
 | [],_=>False
abbrev Kw:Type:=Option (Bool × aj)
def kr:Bool→aj→aj→Prop
 | true,v,w=>v=w
 | false,v,w=>fN v w
def kpt(k:Kw)(w:aj):Prop:=∀b v,k=some (b,v)→kr b v w
def kpb:Kw→Bool
 | some (b,_)=>b
 | none=>false
def V(P:bh)(R:Exit→Act→aj→Prop)(w0:aj)(ds:List cn)(kw:Kw):Nat→List Nat→Prop→List Ko→List ah→List It→Prop
 | 0,_,q,s,l,is=>q∧∀w,Mem w0 w is→kpt kw w→Gt P R s (Fr l ds) w
 | n+1,sc,q,.b _::s,l,is=>V P R w0 ds kw n sc q s l is
 | n+1,sc,q,.o _ []::s,l,is=>V P R w0 ds kw n sc q s l is
 | n+1,sc,q,.o ops (o::rest)::s,l,is=>match o.dst with
  | some d=>Og ops l o.guard (Dt P l is [] (kpb kw) o.op sc fun vc v sc is=>V P R w0 ds kw n sc (vc∧q) (.o ops rest::s) (l.set d v) is) (V P R w0 ds kw n sc q (.o ops rest::s) (l.set d undef) is)
  | none=>Og ops l o.guard (stV P l is kw.isSome o.op sc fun vc _ sc is=>V P R w0 ds kw n sc (vc∧q) (.o ops rest::s) l is) (V P R w0 ds kw n sc q (.o ops rest::s) l is)
 | n+1,sc,q,.c c::s,l,is=>match c with
  | .seq a b=>V P R w0 ds kw n sc q (.c a :: .c b::s) l is
  | .skip=>V P R w0 ds kw n sc q s l is
  | .block id c=>V P R w0 ds kw n sc q (.c c :: .b id::s) l is
  | .exit id=>Rs id s fun s=>V P R w0 ds kw n sc q s l is
  | .ret=>q∧∀w,Mem w0 w is→kpt kw w→R .ret (Fr l ds) w
  | .cond x a b=>vvB (ev l x) fun t=>vbX t (V P R w0 ds kw n sc q (.c a::s) l is) (V P R w0 ds kw n sc q (.c b::s) l is)
  | .region _ ops d=>vbX d False (V P R w0 ds kw n sc q (.o ops ops.toList::s) l is)
  | .loop c=>match sc with
   | k::sc=>V P R w0 ds kw n sc q (.r c k::s) l is
   | []=>False
  | _=>False
 | n+1,sc,q,.r c (k+1)::s,l,is=>V P R w0 ds kw n sc q (.c c :: .r c k::s) l is
 | _,_,_,_,_,_=>False
theorem rX{v:ah}{f:IntKind→Int→Prop}(h:qT v f):∃k m,v=.int k m∧f k m:=by
 cases v <;> first | exact h.elim | exact⟨_,_,rfl,h⟩
theorem abO{v:ah}{f:Bool→Prop}(h:vvB v f):∃b,v=.bool b∧f b:=by
 cases v <;> first | exact h.elim | exact⟨_,rfl,h⟩
theorem Ji{v:ah}{f:Addr→Prop}(h:vvP v f):∃a,v=.pointer (some a)∧f a:=by
 cases v with
 | pointer a=>cases a with
  | none=>exact h.elim
  | some a=>exact⟨_,rfl,h⟩
 | _=>exact h.elim
theorem agS{v:ah}{f:Option Addr→Nat→Nat→Prop}(h:vvS v f):∃a n c,v=.slice a n c∧f a n c:=by
 cases v <;> first | exact h.elim | exact⟨_,_,_,rfl,h⟩
theorem aoO{v:ah}{f:List ah→Prop}(h:vvA v f):∃cs,v=.agg cs∧f cs.toList:=by
 cases v <;> first | exact h.elim | exact⟨_,rfl,h⟩
theorem aoP{v:ah}{f:List ah→Prop}(h:vvT v f):∃cs,v=.tuple cs∧f cs.toList:=by
 cases v <;> first | exact h.elim | exact⟨_,rfl,h⟩
theorem Wm{n:Nat}{p:Prop}(h:vnX n p):∃m,n=m+1∧p:=by
 cases n with
 | zero=>exact h.elim
 | succ m=>exact⟨m,rfl,h⟩
theorem agT:∀{n m:Nat} {p q:Prop},vnE n m p q→(n=m∧p)∨(n≠m∧q)
 | 0,0,_,_,h=>.inl ⟨rfl,h⟩
 | n+1,m+1,_,_,h=>(agT (n:=n) (m:=m) h).imp (fun⟨e,h⟩=>⟨by rw[e],h⟩) fun⟨e,h⟩=>⟨fun c=>e (Nat.succ.inj c),h⟩
 | 0,_+1,_,_,h=>.inr ⟨fun c=>(by cases c),h⟩
 | _+1,0,_,_,h=>.inr ⟨fun c=>(by cases c),h⟩
section
variable {P:bh} {l:List ah} {is:List It} {os:List Ob} {w0:aj} {ds:List cn}
def Yd(P:bh)(l:List ah)(is:List It)(w0:aj)(op:Op)(v:ah):Prop:=∀w,Mem w0 w is→∀ty,yR P l op ty v w
theorem oO{op:Op}{v:ah}(h:∀ty,iG P l op ty v):Yd P l is w0 op v:=fun w _ ty=>h ty w
theorem arM{sc:List Nat}{p:Prop}[Decidable p]{K:KV}{is':List It}{q:Prop}(h:cV sc p (fun p=>K (q∧p)) is'):∃vc v sc',K (q∧vc) v sc' is'∧(vc→∀{X:ah→Prop},(X (.bool (decide p)))→X v):=by
 unfold cV at h;split at h
 · exact⟨_,_,_,h,fun _ _ hX=>hX⟩
 · exact⟨_,_,_,h,fun hp X hX=>by rwa [decide_eq_true hp] at hX⟩
 · exact⟨_,_,_,h,fun hp X hX=>by rwa [decide_eq_false hp] at hX⟩
 · exact h.elim
theorem aoQ{b:BinOp}{x y:bg}{T T':an}{sc:List Nat}{K:KV}(h:biV b (ev l x) (ev l y) sc is K):∃vc v sc',K vc v sc' is∧(vc→Yd P l is w0 (.binOp b T x y T') v):=by
 cases b
 case add | sub | mul =>
  obtain⟨k,m,hx,h⟩:=rX h;obtain⟨k',n,hy,h⟩:=rX h;refine⟨_,_,_,h,fun⟨e,hr⟩=>oO fun ty=>?_⟩;subst e
  first | exact jL hx hy hr.wrap | exact Fs hx hy hr.wrap | exact lB hx hy hr.wrap
 case lss | leq | gtr | geq | eql | neq =>
  obtain⟨k,m,hx,h⟩:=rX h;obtain⟨k',n,hy,h⟩:=rX h;obtain⟨vc,v,sc',h,hX⟩:=arM h;refine⟨_,_,_,h,fun⟨e,hv⟩=>?_⟩;subst e;refine hX hv (X:=fun v=>Yd P l is w0 _ v) (oO fun ty=>?_)
  first | exact rA hx hy | exact Do hx hy | exact Yr hx hy | exact Ft hx hy | exact Sw hx hy | exact qA hx hy
 all_goals exact h.elim
theorem aoR{b:Builtin}{xs:List bg}{ts:List an}{sc:List Nat}{K:KV}(h:caV P l is b xs ts sc K):∃vc v sc',K vc v sc' is∧(vc→Yd P l is w0 (.call { callee:=.builtin b,args:=xs.toArray,argTypes:=ts.toArray }) v):=by
 unfold caV at h;split at h
 · obtain⟨E,hE,h⟩:=oE h
   obtain⟨a,n,c,hx,h⟩:=agS h;exact⟨_,_,_,h,fun _=>oO fun ty=>Ip rfl (akg hE) hx⟩
 · obtain⟨k,m,hx,h⟩:=rX h
   obtain⟨k',n,hy,h⟩:=rX h;refine⟨_,_,_,h,fun e=>oO fun ty=>?_⟩;subst e;exact aqL hx hy rfl
 · obtain⟨k,m,hx,h⟩:=rX h
   obtain⟨k',n,hy,h⟩:=rX h;refine⟨_,_,_,h,fun e=>oO fun ty=>?_⟩;subst e;exact vT hx hy rfl
 · exact h.elim
theorem akm{k:Nat}{f:Ob→Prop}(hos:∀x∈os,fK w0 x.1 x.2.1 x.2.2)(h:atB is os k f):∃x:Ob,(∀w,Mem w0 w is→fK w x.1 x.2.1 x.2.2)∧f x:=by
 rcases agQ h with ⟨i,hi,x,hx,hf⟩ | ⟨x,hx,hf⟩
 · exact⟨x,fun w m=>(i.bkP x hx).2 w (m.all i hi),hf⟩
 · exact⟨x,fun w m=>(hos x hx).ext m.ext,hf⟩
theorem Wn(cs:Array ah)(o n:Nat):cs.extract o (o+n)=((cs.toList.drop o).take n).toArray:=by
 apply Array.ext';simp
theorem ady:∀{l:List (Nat × Nat)} {n:Nat} {f:Nat × Nat→Prop},Wl l n f→∃z,l[n]? = some z∧f z
 | x::_,0,_,h=>⟨x,rfl,h⟩
 | _::l,n+1,_,h=>by rw[gi];exact ady (l:=l) h
theorem aeH{cs us:List ah}{o:Nat}{c:ah}(h:o<cs.length):cA (cs.set o c) (o+1) us=cA cs o (c::us):=by
 unfold cA;have e1:(cs.set o c).take (o+1)=cs.take o++[c]:=by
  rw[List.take_add_one,List.take_set_of_le (av o),List.getElem?_set_self h];rfl
 have e2:(cs.set o c).drop (o+1+us.length)=cs.drop (o+(us.length+1)):=by
  rw[List.drop_set_of_lt (by omega)]
  congr 1
  omega
 rw[e1,e2];simp
theorem To:∀(us:List ah) (off k:Nat) (cs:Array ah),off+k+us.length≤cs.size →
 (us.zipIdx k).foldl (fun (cs:Array ah) (x:ah × Nat)=>cs.setIfInBounds (off+x.2) x.1) cs=(cA cs.toList (off+k) us).toArray
 | [],off,k,cs,h=>by simp[cA]
 | c::us,off,k,cs,h=>by
  simp only[ay] at h;rw[List.zipIdx_cons,iv,To us off (k+1) _ (by simp;omega),←aeH (by simp;omega)];simp[Nat.add_assoc]
theorem aeI{place:Nat→Option (Nat × Nat)}{cells:Array ah}{i off size:Nat}{v:ah}{rest:List (Nat × ah)}(hp:place i=some (off,size))(hs:v.cells.size=size)(hf:off+size≤cells.size) :
 Instr.fill place cells ((i,v)::rest)=Instr.fill place (cA cells.toList off v.cells.toList).toArray rest:=by
 have hc:¬(v.cells.size≠size||off+v.cells.size>cells.size)=true:=by simp;omega
 have hfo:=To v.cells.toList off 0 cells (by simp;omega);rw[Instr.fill];simp only[hp];rw[if_neg hc]
 congr 1
 rw[←Array.foldl_toList,Array.toList_zipIdx];exact hfo
theorem agU{pl:List (Nat × Nat)}:∀{ps:List (Nat × bg)} {cs:List ah} {q:Prop} {f:Prop→List ah→Prop},blV l pl ps cs q f →
 ∃q' cs',f q' cs'∧(q'→q∧Instr.fill (fun i=>pl[i]?) cs.toArray (ps.map fun x=>(x.1,ev l x.2))=some cs'.toArray)
 | [],cs,q,f,h=>⟨q,cs,h,fun hq=>⟨hq,rfl⟩⟩
 | (i,x)::ps,cs,q,f,h=>by
  obtain⟨z,hz,h⟩:=ady h;obtain⟨k,hk,h⟩:=Wm h;obtain⟨q',cs',hf,hq⟩:=agU h;refine⟨q',cs',hf,fun h=>?_⟩;obtain⟨⟨h1,h2,hq0⟩,hfl⟩:=hq h;have h1:=Cl h1;have h2:=Cl h2;rw[cj,gh] at h2;refine⟨hq0,?_⟩;rw[bi,aeI (off:=z.1) (size:=z.2) (by rw[hz]) (by simpa using h1) ?_]
  · exact hfl
  · simp
    omega
theorem Tp{p p':Nat→Option (Nat × Nat)}(h:∀i x,p i=some x→p' i=some x):∀{l:List (Nat × ah)} {cells cs:Array ah},Instr.fill p cells l=some cs→Instr.fill p' cells l=some cs
 | [],_,_,e=>e
 | (i,v)::l,cells,cs,e=>by
  rw[Instr.fill] at e ⊢;cases hp:p i with
  | none=>rw[hp] at e;cases e
  | some x =>
   rw[hp] at e;rw[h i x hp];simp only at e ⊢;split at e
   · cases e
   · rename_i hc
     rw[if_neg hc];exact Tp h e
theorem Oh{P:bh}:∀{fs:List Field} {l:List (Nat × Nat)},fs.mapM (fun (f:Field)=>(uQ P f.type).map fun x=>(f.offset,x.2))=some l→∀w,(fs.mapM fun f=>do pure (f.offset,←sizeOf f.type):Sem (List (Nat × Nat))).run P w=.ok l w
 | [],l,h,w=>by
  rw[List.mapM_nil] at h ⊢;cases h;rfl
 | f::fs,l,h,w=>by
  rw[List.mapM_cons] at h ⊢;cases hs:uQ P f.type with
  | none=>rw[hs] at h;cases h
  | some x =>
   obtain⟨b,n⟩:=x;rw[hs] at h;cases hm:fs.mapM (fun (f:Field)=>(uQ P f.type).map fun x=>(f.offset,x.2)) with
   | none=>simp[hm] at h
   | some l' =>
    simp[hm] at h;subst h;have hr:=Oh hm w;simp only[bind_pure_comp] at hr;simp[eH (xH hs).2,hr]
theorem akn{P:bh}{T:an}{pl:List (Nat × Nat)}{z:List ah}(h:yU P T=some (pl,z)){vs:Array (Nat × ah)}{cs:List ah}(hf:Instr.fill (fun i=>pl[i]?) z.toArray vs.toList=some cs.toArray)(w:aj):(Instr.build T vs).run P w=.ok (.agg cs.toArray) w:=by
 unfold yU at h;split at h
 · rename_i fs z' hu hz
   obtain⟨z0,hz0,hzc⟩:=Wk hz;cases hm:fs.toList.mapM (fun (f:Field)=>(uQ P f.type).map fun x=>(f.offset,x.2)) with
   | none=>rw[hm] at h;cases h
   | some l' =>
    rw[hm] at h;cases h;refine jN (places:=pl.toArray) hu hz0 (fun w=>?_) (by rw[hzc];simpa using hf) w;have hr:=Oh hm w;rw[Array.mapM_eq_mapM_toList];simp only[bind_pure_comp] at hr ⊢;simp[hr]
 · rename_i n E z' hu hz
   obtain⟨z0,hz0,hzc⟩:=Wk hz;cases hs:uQ P E with
   | none=>rw[hs] at h;cases h
   | some x =>
    obtain⟨b,c⟩:=x;rw[hs] at h;cases h;refine kC hu hz0 (xH hs).2 ?_ w;rw[hzc];refine Tp (fun i x hx=>?_) hf;rw[fj] at hx;cases hr:(i_ n)[i]? with
    | none=>rw[hr] at hx;cases hx
    | some j =>
     rw[hr] at hx;have:=aq.1 hr;obtain⟨h1,h2⟩:=this;rw[List.getElem_range] at h2;subst h2;cases hx;rfl
 · cases h
def Bx(P:bh)(l:List ah)(is:List It)(w0:aj)(ds:List cn)(op:Op)(cs:List ah)(T:an):Prop:=∀(d:Nat) (ty:an) (pos:String) (af:Array Edge) (ops:Array Oper) (Q:Exit→Act→aj→Prop) (rest:List Oper) (w:aj),Mem w0 w is→(∀g u,fN w u→Mem w0 u (bI g cs T::is)→au P ops Q rest (Fr (l.set d (.pointer (some ⟨g,0,none⟩))) ds) u)→au P ops Q (bn (some d) op ty pos af none::rest) (Fr l ds) w
theorem Wo{pr:Bool}{op:Op}{sc:List Nat}{K:KV}(hos:∀x∈os,fK w0 x.1 x.2.1 x.2.2)(h:Dt P l is os pr op sc K) :
 (∃vc v sc',K vc v sc' is∧(vc→Yd P l is w0 op v))∨(pr=false∧∃cs T,(∀g,K True (.pointer (some ⟨g,0,none⟩)) sc (bI g cs T::is))∧Bx P l is w0 ds op cs T):=by
 unfold Dt at h;split at h
 · exact .inl ⟨_,_,_,h,fun _=>oO fun ty=>aH⟩
 · exact .inl ⟨_,_,_,h,fun _=>oO fun ty=>aM⟩
 · obtain⟨a,hx,h⟩:=Ji h
   exact .inl ⟨_,_,_,h,fun _=>oO fun ty=>eL hx⟩
 · obtain⟨b,hc,h⟩:=abO h
   cases b
   · exact .inl ⟨_,_,_,h,fun _=>oO fun ty=>Cb hc⟩
   · exact .inl ⟨_,_,_,h,fun _=>oO fun ty=>sM hc⟩
 · exact .inl (aoQ h)
 · obtain⟨b,hx,h⟩:=abO h
   exact .inl ⟨_,_,_,h,fun _=>oO fun ty=>nM hx⟩
 · obtain⟨k,m,hx,h⟩:=rX h
   exact .inl ⟨_,_,_,h,fun hr=>oO fun ty=>tJ hx hr.wrap⟩
 · obtain⟨k1,h1,h⟩:=oE h
   obtain⟨k2,h2,h⟩:=oE h;obtain⟨k,m,hx,h⟩:=rX h;exact .inl ⟨_,_,_,h,fun hr=>oO fun ty=>jB (agM h2) (agM h1) hx hr.wrap⟩
 · obtain⟨f,hf,h⟩:=oE h
   obtain⟨a,hx,h⟩:=Ji h;obtain⟨m,hm,h⟩:=Wm h;obtain⟨o,b,n⟩:=f;obtain⟨fs,f,h1,h2,h3,h4,h5⟩:=adv hf;simp only at hm h;rw[hm] at h5;exact .inl ⟨_,_,_,h,fun _=>oO fun ty=>aT h1 h2 h5 hx (by rw[h3])⟩
 · obtain⟨⟨z,c⟩,hz,h⟩:=oE h
   unfold ixP at hz;split at hz
   · rename_i n E hu
     cases hs:uQ P E with
     | none=>rw[hs] at hz;cases hz
     | some x =>
      obtain⟨b,c'⟩:=x;rw[hs] at hz;cases hz;obtain⟨a,hx,h⟩:=Ji (show vvP _ _ from h);obtain⟨k,m,hy,h⟩:=rX h;exact .inl ⟨_,_,_,h,fun hv=>oO fun ty=>aI hu (xH hs).2 hx hy hv.1 hv.2 rfl⟩
   · rename_i E hu
     cases hs:uQ P E with
     | none=>rw[hs] at hz;cases hz
     | some x =>
      obtain⟨b,c'⟩:=x;rw[hs] at hz;cases hz;obtain⟨A,n,cp,hx,h⟩:=agS (show vvS _ _ from h);obtain⟨a,rfl,h⟩:=oE h;obtain⟨k,m,hy,h⟩:=rX h;exact .inl ⟨_,_,_,h,fun hv=>oO fun ty=>aF hu (xH hs).2 hx hy hv.1 hv.2 rfl⟩
   · cases hz
 · obtain⟨f,hf,h⟩:=oE h
   obtain⟨cs,hx,h⟩:=aoO h;obtain⟨o,b,n⟩:=f;obtain⟨fs,f,h1,h2,h3,h4,h5⟩:=adv hf;simp only at h;cases b
   · obtain⟨v,hv,h⟩:=Mo h
     exact .inl ⟨_,_,_,h,fun _=>oO fun ty=>af4 h1 h2 h4 hx (by rw[h3];simpa using hv)⟩
   · exact .inl ⟨_,_,_,h,fun _=>oO fun ty=>af5 h1 h2 h4 h5 hx (by rw[h3];exact Wn _ _ _)⟩
 · obtain⟨⟨pl,z⟩,hz,h⟩:=oE h
   obtain⟨q,cs,h,hq⟩:=agU h;exact .inl ⟨_,_,_,h,fun hv=>oO fun ty=>pA rfl (akn hz (by simpa using (hq hv).2))⟩
 · obtain⟨cs,hx,h⟩:=aoP h
   obtain⟨v,hv,h⟩:=Mo h;exact .inl ⟨_,_,_,h,fun _=>oO fun ty=>eZ hx (by simpa using hv)⟩
 · split at h
   · obtain⟨z,hz,h⟩:=oE h
     obtain⟨a,hx,h⟩:=Ji h;obtain⟨g,hB,h⟩:=akm hos h;obtain⟨b,n⟩:=z;have hA:=(xH hz).1;have hC:=(xH hz).2;cases b
     · obtain⟨v,hv,h⟩:=Mo h
       exact .inl ⟨_,_,_,h,fun e w m ty=>aU hx (by rw[e];exact (hB w m).lies1 hA hv)⟩
     · exact .inl ⟨_,_,_,h,fun e w m ty=>aU hx (by rw[e.1];exact (hB w m).lies hA hC rfl (Cl e.2))⟩
   · exact h.elim
 · cases pr
   · refine .inr ⟨rfl,_,_,h,fun d ty pos af ops Q rest w m hk=>af1 (by simp) fun u g e hg hB=>hk g u e (m.newB e hg hB)⟩
   · exact h.elim
 · cases pr
   · obtain⟨cs,hz,h⟩:=oE (show yX _ _ from h)
     obtain⟨z,h1,h2⟩:=Wk hz;refine .inr ⟨rfl,_,_,h,fun d ty pos af ops Q rest w m hk=>Bz h1 h2 fun u g e hg hB=>hk g u e (m.newB e hg hB)⟩
   · exact h.elim
 · rename_i c
   split at h
   · rename_i b hb
     obtain⟨ce,xs,ts⟩:=c;simp only at hb h;subst hb;have:=aoR (w0:=w0) h;simpa using Or.inl this
   · exact h.elim
 · exact h.elim
theorem agV{pr:Bool}{op:Op}{sc:List Nat}{K:KV}(h:stV P l is pr op sc K):pr=false∧∃vc sc' is',K vc undef sc' is'∧(vc→∀(ty:an) (pos:String) (af:Array Edge) (ops:Array Oper) (Q:Exit→Act→aj→Prop) (rest:List Oper) (w:aj),Mem w0 w is→(∀u,Mem w0 u is'→au P ops Q rest (Fr l ds) u)→au P ops Q (bn none op ty pos af none::rest) (Fr l ds) w):=by
 unfold stV at h;split at h
 · rename_i T x y k sc
   cases pr with
   | true=>exact h.elim
   | false =>
   obtain⟨z,hz,h⟩:=oE (show yX _ _ from h);obtain⟨n,hn,h⟩:=Wm h;obtain⟨a,hx,h⟩:=Ji h;obtain⟨i,g,hi,hb,h⟩:=abN h;obtain⟨b,z⟩:=z;refine⟨rfl,_,_,_,h,fun⟨e,h1,h2,h3⟩ ty pos af ops Q rest w m hk=>?_⟩;have hC:=(xH hz).2;have h1:=Cl h1;have h2:=Cl h2;simp only at hn h1 h2;have hP:=i.bkP g hb;have hB:=hP.2 w (m.all i (bj hi));rw[e] at hx;refine Ca hx (us:=(ev l y).cells.toList) (by simp) (by rw[h2];exact hC) hB ?_ (fW (adu h3)) fun u hc hB'=>hk u (m.put k hi hc.os hc.tape hc.output (by rw[hc.size];exact av _) (fun b _ hne=>hc.block b fun e=>hne ((hP.1 b).2 e)) hB' (.inl fun b hb=>(hP.1 b).2 (by cases hb;rfl)));rw[cj,gh] at h1;omega
 · exact h.elim
theorem aoS{v:ah}{b:Bool}{p q:Prop}(h:vvG v b p q):(v=.bool b∧p)∨((∀c,v=.bool c→(c == b)=false)∧q):=by
 cases v with
 | bool c =>
  unfold vvG at h;simp only at h;split at h
  · rename_i e;exact .inl ⟨by rw[e],h⟩
  · rename_i e;exact .inr ⟨fun c' e'=>by cases e';simpa using e,h⟩
 | tuple=>exact .inr ⟨fun c e=>(by cases e),h⟩
 | _=>exact h.elim
theorem ako{ops:Array Oper}{j:Nat}{b:Bool}(h:vyv ops.toList l j=.bool b):yielded ops l.toArray j=some b:=by
 unfold vyv at h;unfold yielded;simp only[ff] at h;cases ho:ops[j]? with
 | none=>rw[ho] at h;cases h
 | some o =>
  rw[ho] at h;simp only at h;cases hd:o.dst with
  | none=>rw[hd] at h;cases h
  | some d =>
   rw[hd] at h;simp only[ie] at h;simp only[gu,hd,jw];cases hv:l[d]? with
   | none=>rw[hv] at h;cases h
   | some v=>rw[hv] at h;simp only[cu] at h;rw[h]
theorem aoT{ops:Array Oper}{j:Nat}{b:Bool}(h:yielded ops l.toArray j=some b):vyv ops.toList l j=.bool b:=by
 unfold yielded at h;unfold vyv;simp only[ff];cases ho:ops[j]? with
 | none=>rw[ho] at h;cases h
 | some o =>
  rw[ho] at h;simp only[gu] at h ⊢;cases hd:o.dst with
  | none=>rw[hd] at h;cases h
  | some d =>
   rw[hd] at h;simp only[gu,jw] at h;simp only[ie];cases hv:l[d]? with
   | none=>rw[hv] at h;cases h
   | some v =>
    rw[hv] at h;simp only[cu];cases v <;> first | (cases h;done) | (cases h;rfl)
theorem Jj{ops:Array Oper}{g:Option (Nat × Bool)}{p q:Prop}(h:Og ops l g p q):(p∧∀d op ty pos af,Region.wanted (bn d op ty pos af g) (yielded ops l.toArray)=true)∨(q∧∀d op ty pos af,Region.wanted (bn d op ty pos af g) (yielded ops l.toArray)=false):=by
 cases g with
 | none=>exact .inl ⟨h,fun _ _ _ _ _=>rfl⟩
 | some g =>
  obtain⟨j,b⟩:=g;rcases aoS h with ⟨e,h⟩ | ⟨e,h⟩
  · exact .inl ⟨h,fun _ _ _ _ _=>by simp[Region.wanted,ako e]⟩
  · refine .inr ⟨h,fun _ _ _ _ _=>?_⟩
    cases hy:yielded ops l.toArray j with
    | none=>simp[Region.wanted,hy]
    | some c=>simpa[Region.wanted,hy] using e c (aoT hy)
theorem oP{ops:Array Oper}{Q:Exit→Act→aj→Prop}{rest:List Oper}{d:Option Nat}{op:Op}{ty:an}{pos:String}{af:Array Edge}{g:Option (Nat × Bool)}{w:aj}(hw:Region.wanted (bn d op ty pos af g) (yielded ops l.toArray)=true)
 (h:au P ops Q (bn d op ty pos af none::rest) (Fr l ds) w):au P ops Q (bn d op ty pos af g::rest) (Fr l ds) w:=by
 unfold au at h ⊢;rw[if_pos (by simp[Region.wanted])] at h;rw[if_pos hw];exact h
theorem uR{ops:Array Oper}{Q:Exit→Act→aj→Prop}{rest:List Oper}{o:Oper}{w:aj}(hw:Region.wanted o (yielded ops l.toArray)=false)
 (h:au P ops Q rest ((Fr l ds).put o.dst undef) w):au P ops Q (o::rest) (Fr l ds) w:=by
 unfold au;rw[if_neg (by rw[hw];simp)];exact h
theorem Wp{R:Exit→Act→aj→Prop}{id:Nat}{a:Act}{w:aj}{G:List Ko→Prop}:∀{s:List Ko},Rs id s G→∃s',G s'∧(Ct P R s' .normal a w→Ct P R s (.exit id) a w)
 | .b j::s,h=>by
  rcases agT h with ⟨e,h⟩ | ⟨e,h⟩
  · refine⟨s,h,fun hs=>?_⟩
    show cq j (Ct P R s) (.exit id) a w
    simp only[cq];rw[if_pos e];exact hs
  · obtain⟨s',hG,hs⟩:=Wp (R:=R) (a:=a) (w:=w) h
    refine⟨s',hG,fun h=>?_⟩;show cq j (Ct P R s) (.exit id) a w
    simp only[cq];rw[if_neg e];exact hs h
 | .c _::s,h | .o _ _::s,h | .k _::s,h | .r _ _::s,h=>let ⟨s',hG,hs⟩:=Wp (R:=R) (a:=a) (w:=w) (s:=s) h;⟨s',hG,fun h=>hs h⟩
 | [],h=>h.elim
theorem Zv:∀x∈([]:List Ob),fK w0 x.1 x.2.1 x.2.2:=fun _ h=>(by cases h)
theorem akp{k:Kw}{w u:aj}(hp:kpb k=false)(h:kpt k w)(e:fN w u):kpt k u:=by
 intro b v hk;subst hk;have hb:b=false:=hp;subst hb;exact fN.trans (h false v rfl) e
theorem rF{R:Exit→Act→aj→Prop}(kw:Kw):∀(n:Nat) (sc:List Nat) (q:Prop) (s:List Ko) (l:List ah) (is:List It),V P R w0 ds kw n sc q s l is→q∧∀w,Mem w0 w is→kpt kw w→Gt P R s (Fr l ds) w
 | 0,_,_,_,_,_,h=>h
 | n+1,sc,q,.b _::s,l,is,h=>rF kw n sc q s l is h
 | n+1,sc,q,.o _ []::s,l,is,h=>rF kw n sc q s l is h
 | n+1,sc,q,.o ops (⟨some d,op,ty,pos,af,g⟩::rest)::s,l,is,h=>by
  rcases Jj (show Og _ _ _ _ _ from h) with ⟨h,hw⟩ | ⟨h,hw⟩
  · rcases Wo (ds:=ds) Zv h with ⟨vc,v,sc',h,hy⟩ | ⟨hpr,cs,T,h,hb⟩
    · obtain⟨⟨hv,hq⟩,hk⟩:=rF kw n _ _ _ _ _ h
      exact⟨hq,fun w m hkp=>oP (hw _ _ _ _ _) (fF (hy hv w m ty) (hk w m hkp))⟩
    · exact⟨(rF kw n _ _ _ _ _ (h 0)).1.2,fun w m hkp=>oP (hw _ _ _ _ _) (hb d ty pos af ops _ rest w m fun g u e mu=>(rF kw n _ _ _ _ _ (h g)).2 u mu (akp hpr hkp e))⟩
  · obtain⟨hq,hk⟩:=rF kw n _ _ _ _ _ h
    exact⟨hq,fun w m hkp=>uR (hw _ _ _ _ _) (by rw[iB];exact hk w m hkp)⟩
 | n+1,sc,q,.o ops (⟨none,op,ty,pos,af,g⟩::rest)::s,l,is,h=>by
  rcases Jj (show Og _ _ _ _ _ from h) with ⟨h,hw⟩ | ⟨h,hw⟩
  · obtain⟨hpr,vc,sc',is',h,hy⟩:=agV (w0:=w0) (ds:=ds) h
    obtain⟨⟨hv,hq⟩,hk⟩:=rF kw n _ _ _ _ _ h;exact⟨hq,fun w m hkp=>oP (hw _ _ _ _ _) (hy hv ty pos af ops _ rest w m fun u mu=>hk u mu fun b v e=>(by rw[e] at hpr;cases hpr))⟩
  · obtain⟨hq,hk⟩:=rF kw n _ _ _ _ _ h
    exact⟨hq,fun w m hkp=>uR (hw _ _ _ _ _) (hk w m hkp)⟩
 | n+1,sc,q,.c c::s,l,is,h=>by
  cases c with
  | seq a b=>exact (rF kw n _ _ _ _ _ h).imp id fun hk w m hkp=>wp_seq (hk w m hkp)
  | skip=>exact (rF kw n _ _ _ _ _ h).imp id fun hk w m hkp=>wp_skip (hk w m hkp)
  | block id c=>exact (rF kw n _ _ _ _ _ h).imp (fun h=>h) fun hk w m hkp=>wp_block (hk w m hkp)
  | exit id =>
   refine⟨?_,fun w m hkp=>?_⟩
   · obtain⟨s',hG,_⟩:=Wp (P:=P) (R:=R) (a:=Fr l ds) (w:=w0) h
     exact (rF kw n _ _ _ _ _ hG).1
   · obtain⟨s',hG,hs⟩:=Wp (P:=P) (R:=R) (a:=Fr l ds) (w:=w) h
     exact wp_exit (hs ((rF kw n _ _ _ _ _ hG).2 w m hkp))
  | ret=>exact⟨h.1,fun w m hkp=>wp_ret (agL (h.2 w m hkp) s)⟩
  | cond x a b =>
   obtain⟨t,hx,h⟩:=abO h;cases t
   · exact (rF kw n _ _ _ _ _ h).imp id fun hk w m hkp=>aej hx (hk w m hkp)
   · exact (rF kw n _ _ _ _ _ h).imp id fun hk w m hkp=>yZ hx (hk w m hkp)
  | region id ops d =>
   cases d
   · exact (rF kw n _ _ _ _ _ h).imp (fun h=>h) fun hk w m hkp=>wp_region_list (hk w m hkp)
   · exact h.elim
  | loop c =>
   cases sc with
   | nil=>exact h.elim
   | cons k sc=>exact (rF kw n _ _ _ _ _ h).imp (fun h=>h) fun hk w m hkp=>wp_loop_rounds k (hk w m hkp)
  | _=>exact h.elim
 | n+1,sc,q,.r c (k+1)::s,l,is,h=>(rF kw n sc q _ l is h).imp (fun h=>h) fun hk w m hkp=>hk w m hkp
 | _+1,_,_,.r _ 0::_,_,_,h=>h.elim
 | _+1,_,_,.k _::_,_,_,h=>h.elim
 | _+1,_,_,[],_,_,h=>h.elim
/-! ### Regions in a drawn order -/
def VQ{α:Type}(hd:α→Option Oper)(P:bh)(is:List It)(os:List Ob)(ops:Array Oper)(K:List α→List ah→Prop):Nat→List Nat→Prop→List α→List ah→Prop
 | 0,_,q,rest,l=>q∧K rest l
 | n+1,sc,q,x::rest,l=>match hd x with
  | some ⟨some d,op,_,_,_,g⟩=>Og ops l g (Dt P l is os true op sc fun vc v sc _=>VQ hd P is os ops K n sc (vc∧q) rest (l.set d v)) (VQ hd P is os ops K n sc q rest (l.set d undef))
  | _=>False
 | _+1,_,_,[],_=>False
theorem adz{α:Type}{hd:α→Option Oper}{ops:Array Oper}{K Y:List α→List ah→Prop}(hos:∀x∈os,fK w0 x.1 x.2.1 x.2.2)(hK:∀rest l,K rest l→Y rest l)
 (hv:∀x d op ty pos af g rest l v,hd x=some ⟨some d,op,ty,pos,af,g⟩→Region.wanted (bn (some d) op ty pos af g) (yielded ops l.toArray)=true→Yd P l is w0 op v→Y rest (l.set d v)→Y (x::rest) l)
 (hp:∀x d op ty pos af g rest l,hd x=some ⟨some d,op,ty,pos,af,g⟩→Region.wanted (bn (some d) op ty pos af g) (yielded ops l.toArray)=false→Y rest (l.set d undef)→Y (x::rest) l) :
 ∀(n:Nat) (sc:List Nat) (q:Prop) (rest:List α) (l:List ah),VQ hd P is os ops K n sc q rest l→q∧Y rest l
 | 0,_,_,_,_,h=>⟨h.1,hK _ _ h.2⟩
 | n+1,sc,q,x::rest,l,h=>by
  unfold VQ at h;split at h
  · rename_i d op ty pos af g hx
    rcases Jj h with ⟨h,hwt⟩ | ⟨h,hwt⟩
    · rcases Wo (ds:=[]) hos h with ⟨vc,v,sc',h,hy⟩ | ⟨e,_⟩
      · obtain⟨⟨h1,hq⟩,hk⟩:=adz hos hK hv hp n _ _ _ _ h
        exact⟨hq,hv _ _ _ _ _ _ _ _ _ _ hx (hwt _ _ _ _ _) (hy h1) hk⟩
      · cases e
    · obtain⟨hq,hk⟩:=adz hos hK hv hp n _ _ _ _ h
      exact⟨hq,hp _ _ _ _ _ _ _ _ _ hx (hwt _ _ _ _ _) hk⟩
  · exact h.elim
 | _+1,_,_,[],_,h=>h.elim
theorem as4{ops:Array Oper}{Q:Act→Prop}(hos:∀x∈os,fK w0 x.1 x.2.1 x.2.2){n:Nat}{sc:List Nat}{rest:List Oper}{l:List ah}(h:VQ some P is os ops (fun rest l=>cg P ops (fun u=>Mem w0 u is) Q rest (Fr l ds)) n sc True rest l):cg P ops (fun u=>Mem w0 u is) Q rest (Fr l ds):=by
 refine (adz (Y:=fun rest l=>cg P ops (fun u=>Mem w0 u is) Q rest (Fr l ds)) hos (fun _ _ h=>h) (fun x d op ty pos af g rest l v hx hw hy h=>?_) (fun x d op ty pos af g rest l hx hw h=>?_) n sc True rest l h).2
 · cases hx
   have h:=jY (ty:=ty) (pos:=pos) (after:=af) (fun u m=>hy u m ty) h;unfold cg at h ⊢;rw[if_pos (by simp[Region.wanted])] at h;rw[if_pos hw];exact h
 · cases hx
   unfold cg;rw[if_neg (by rw[hw];simp)];show cg P ops _ Q rest ((Fr l ds).put (some d) undef)
   rw[iB];exact h
def hdH(x:Oper × Bool):Option Oper:=match x.2 with
 | true=>some x.1
 | false=>none
theorem as5{ops:Array Oper}{Q:Exit→Act→aj→Prop}{w:aj}(hos:∀x∈os,fK w0 x.1 x.2.1 x.2.2){n:Nat}{sc:List Nat}{rest:List (Oper × Bool)}{l:List ah}(h:VQ hdH P is os ops (fun rest l=>bO P ops (fun u=>Mem w0 u is) Q rest (Fr l ds) w) n sc True rest l):bO P ops (fun u=>Mem w0 u is) Q rest (Fr l ds) w:=by
 refine (adz (Y:=fun rest l=>bO P ops (fun u=>Mem w0 u is) Q rest (Fr l ds) w) hos (fun _ _ h=>h) (fun x d op ty pos af g rest l v hx hw hy h=>?_) (fun x d op ty pos af g rest l hx hw h=>?_) n sc True rest l h).2
 · obtain⟨o,b⟩:=x
   cases b
   · cases hx
   · cases hx
     obtain⟨v,hy,h⟩:=Vv (ty:=ty) (pos:=pos) (after:=af) (fun u m=>hy u m ty) h;refine⟨v,?_,h⟩;rcases hy with ⟨_,hy⟩ | ⟨hn,_⟩
     · exact .inl ⟨hw,hy⟩
     · simp[Region.wanted] at hn
 · obtain⟨o,b⟩:=x
   cases b
   · cases hx
   · cases hx
     refine⟨undef,.inr ⟨hw,rfl⟩,?_⟩;show bO P ops _ Q rest ((Fr l ds).put (some d) undef) w
     rw[iB];exact h
end
theorem pL{P R w0 ds k n sc q s l l' is is'}(h:l=l')(h':is=is'):V P R w0 ds k n sc q s l is=V P R w0 ds k n sc q s l' is':=by rw[h,h']
theorem fX{ops l l' g p q}(h:l=l'):Og ops l g p q=Og ops l' g p q:=by rw[h]
theorem fY{P l l' is os pr op sc K}(h:l=l'):Dt P l is os pr op sc K=Dt P l' is os pr op sc K:=by rw[h]
theorem fZ{P l l' is pr op sc K}(h:l=l'):stV P l is pr op sc K=stV P l' is pr op sc K:=by rw[h]
theorem gA{P l l' is b xs ts sc K}(h:l=l'):caV P l is b xs ts sc K=caV P l' is b xs ts sc K:=by rw[h]
theorem gB{b x y x' y' sc is K}(h:x=x')(h':y=y'):biV b x y sc is K=biV b x' y' sc is K:=by rw[h,h']
theorem kI{sc sc' p K is}[Decidable p](h:sc=sc'):cV sc p K is=cV sc' p K is:=by rw[h]
theorem gC{v v' f}(h:v=v'):qT v f=qT v' f:=by rw[h]
theorem gD{v v' f}(h:v=v'):vvB v f=vvB v' f:=by rw[h]
theorem gE{v v' f}(h:v=v'):vvP v f=vvP v' f:=by rw[h]
theorem gF{v v' f}(h:v=v'):vvS v f=vvS v' f:=by rw[h]
theorem gG{v v' f}(h:v=v'):vvA v f=vvA v' f:=by rw[h]
theorem gH{v v' f}(h:v=v'):vvT v f=vvT v' f:=by rw[h]
theorem gI{v v' b p q}(h:v=v'):vvG v b p q=vvG v' b p q:=by rw[h]
theorem gJ{α:Type}{o o':Option α}{f}(h:o=o'):yX o f=yX o' f:=by rw[h]
theorem gK{b b' p q}(h:b=b'):vbX b p q=vbX b' p q:=by rw[h]
theorem gL{n n' p}(h:n=n'):vnX n p=vnX n' p:=by rw[h]
theorem gM{n n' m p q}(h:n=n'):vnE n m p q=vnE n' m p q:=by rw[h]
theorem eS{l l' n n' f}(h:l=l')(h':n=n'):Jh l n f=Jh l' n' f:=by rw[h,h']
theorem eT{l l' n f}(h:l=l'):Wl l n f=Wl l' n f:=by rw[h]
theorem gN{l pl ps cs cs' q f}(h:cs=cs'):blV l pl ps cs q f=blV l pl ps cs' q f:=by rw[h]
theorem gQ{is is' os k f}(h:is=is'):atB is os k f=atB is' os k f:=by rw[h]
theorem gR{n v v' f}(h:v=v'):vvX n v f=vvX n v' f:=by rw[h]
theorem kJ{α:Type}{hd:α→Option Oper}{P is os ops K n sc q rest l l'}(h:l=l'):VQ hd P is os ops K n sc q rest l=VQ hd P is os ops K n sc q rest l':=by rw[h]
theorem dB{P ops S Q ol a a' w}(h:a=a'):bO P ops S Q ol a w=bO P ops S Q ol a' w:=by rw[h]
theorem gS{os k k' f}(h:k=k'):atO os k f=atO os k' f:=by rw[h]
theorem gT{is k k' f}(h:k=k'):atM is k f=atM is k' f:=by rw[h]
theorem gU{i i' s f}(h:i=i'):Rs i s f=Rs i' s f:=by rw[h]
theorem kK{P R s e a a' w}(h:a=a'):Ct P R s e a w=Ct P R s e a' w:=by rw[h]
theorem dC{P ops Q rest a a' w}(h:a=a'):au P ops Q rest a w=au P ops Q rest a' w:=by rw[h]
theorem dD{P Q a a' w}{c:Code}(h:a=a'):c.wp P Q a w=c.wp P Q a' w:=by rw[h]
theorem cR{P ops C Q rest a a'}(h:a=a'):cg P ops C Q rest a=cg P ops C Q rest a':=by rw[h]
theorem Zw:∀(n:Nat) (p q:Prop),vnE n n p q=p
 | 0,_,_=>rfl
 | n+1,p,q=>Zw n p q
theorem arO{i:Nat}{s:List Ko}{f:List Ko→Prop}:Rs i (.b i::s) f=f s:=Zw i _ _
theorem kp0{w0:aj}{is:List It}{q:Prop}{X:aj→Prop}:(q∧∀w,Mem w0 w is→kpt none w→X w)=(q∧∀w,Mem w0 w is→X w):=propext ⟨fun h=>⟨h.1,fun w m=>h.2 w m fun _ _ e=>(by cases e)⟩,fun h=>⟨h.1,fun w m _=>h.2 w m⟩⟩
theorem kp1{w0 w1:aj}{b:Bool}{is:List It}{q:Prop}{X:aj→Prop}:(q∧∀w,Mem w0 w is→kpt (some (b,w1)) w→X w)=(q∧∀w,Mem w0 w is→kr b w1 w→X w):=propext ⟨fun h=>⟨h.1,fun w m e=>h.2 w m fun _ _ e'=>(by cases e';exact e)⟩,fun h=>⟨h.1,fun w m e=>h.2 w m (e _ _ rfl)⟩⟩
def Fz(l:List ah)(ds:List cn):Act:=Fr l ds
section
variable {P:bh} {R:Exit→Act→aj→Prop} {w0 w:aj} {ds:List cn} {s:List Ko} {l:List ah} {is:List It}
theorem aW{c:Code}(n:Nat)(sc:List Nat)(m:Mem w0 w is)(h:V P R w0 ds none n sc True (.c c::s) l is):c.wp P (Ct P R s) (Fr l ds) w:=(rF none n sc True _ l is h).2 w m fun _ _ e=>(by cases e)
theorem jF{c:Code}(n:Nat)(sc:List Nat)(m:Mem w0 w is)(h:V P R w0 ds (some (true,w)) n sc True (.c c::s) l is):c.wp P (Ct P R s) (Fr l ds) w:=(rF (some (true,w)) n sc True _ l is h).2 w m fun _ _ e=>(by cases e;rfl)
theorem eC{c:Code}(n:Nat)(sc:List Nat)(m:Mem w0 w is)(h:V P R w0 ds none n sc True [.c c] l is):c.wp P R (Fr l ds) w:=(rF none n sc True _ l is h).2 w m fun _ _ e=>(by cases e)
theorem aS{ops:Array Oper}{rest:List Oper}(n:Nat)(sc:List Nat)(m:Mem w0 w is)(h:V P R w0 ds none n sc True (.o ops rest::s) l is):au P ops (Ct P R s) rest (Fr l ds) w:=(rF none n sc True _ l is h).2 w m fun _ _ e=>(by cases e)
theorem Df{ops:Array Oper}{rest:List Oper}(n:Nat)(sc:List Nat)(m:Mem w0 w is)(h:V P R w0 ds (some (true,w)) n sc True (.o ops rest::s) l is):au P ops (Ct P R s) rest (Fr l ds) w:=(rF (some (true,w)) n sc True _ l is h).2 w m fun _ _ e=>(by cases e;rfl)
theorem eM{ops:Array Oper}{Q:Act→Prop}{rest:List Oper}(n:Nat)(sc:List Nat)(h:VQ some P is [] ops (fun rest l=>cg P ops (fun u=>Mem w0 u is) Q rest (Fz l ds)) n sc True rest l):cg P ops (fun u=>Mem w0 u is) Q rest (Fr l ds):=as4 Zv h
theorem Oi{ops:Array Oper}{Q:Exit→Act→aj→Prop}{ol:List (Oper × Bool)}(n:Nat)(sc:List Nat)(h:VQ hdH P is [] ops (fun rest l=>bO P ops (fun u=>Mem w0 u is) Q rest (Fz l ds) w) n sc True ol l):bO P ops (fun u=>Mem w0 u is) Q ol (Fr l ds) w:=as5 Zv h
theorem mW{ops:Array Oper}{rest:List Oper}{f:FuncId}{fo:bg}{xs:Array bg}{args:List ah}{first cap:Array ah}{a0:Array an}{v:ah}{d:Nat}{ty:an}{pos:String}{af:Array Edge}(m:Mem w0 w is)(hf:ev l fo=.func (.func f) first cap)(hxs:first.toList++xs.toList.map (ev l)++cap.toList=args)(hc:dL P f args v)(n:Nat)(sc:List Nat)(h:V P R w0 ds none n sc True (.o ops rest::s) (l.set d v) is):au P ops (Ct P R s) (bn (some d) (.call { callee:=.value fo,args:=xs,argTypes:=a0 }) ty pos af none::rest) (Fr l ds) w :=
 lJ m hf hxs hc fun u m=>(rF none n sc True _ _ is h).2 u m fun _ _ e=>(by cases e)
theorem g0{c:Code}{a:Act}(h:c.wp P (Ct P R []) a w):c.wp P R a w:=h
theorem gc{c:Code}{a:Act}(h:c.wp P (Ct P R s) a w):Ct P R (.c c::s) .normal a w:=h
theorem go{ops:Array Oper}{rest:List Oper}{a:Act}(h:au P ops (Ct P R s) rest a w):Ct P R (.o ops rest::s) .normal a w:=h
theorem gk{K:Act→aj→Prop}{a:Act}(h:K a w):Ct P R (.k K::s) .normal a w:=h
theorem cE{c:Code}(ts ss:List Nat)(I:Nat→List ah→aj→Prop)(h0:∃n,I n (ts.map (l.getD · undef)) w)
 (hr:∀n vs w,I n vs w→∀(g:Nat→ah) (K:Act→aj→Prop),(∀n' l' w',n'<n→pD (fB l ts (ts.map (l'.getD · undef))) ss (l'.getD · undef)=l'→I n' (ts.map (l'.getD · undef)) w'→K (Fr l') w')→c.wp P (Ct P R (.k K::s)) (Fr (pD (fB l ts vs) ss g)) w):(Code.loop c).wp P (Ct P R s) (Fr l) w :=
 ac8 ts ss I h0 fun n vs w hI g=>hr n vs w hI g _ fun n' l' w' h1 h2 h3=>⟨n',l',h1,rfl,h2,h3⟩
theorem cP(n:Nat)(sc:List Nat)(m:Mem w0 w is)(h:V P R w0 ds none n sc True s l is):Ct P R s .normal (Fr l ds) w:=(rF none n sc True _ l is h).2 w m fun _ _ e=>(by cases e)
theorem lK(n:Nat)(sc:List Nat)(m:Mem w0 w is)(h:V P R w0 ds (some (true,w)) n sc True s l is):Ct P R s .normal (Fr l ds) w:=(rF (some (true,w)) n sc True _ l is h).2 w m fun _ _ e=>(by cases e;rfl)
end
section
variable {P:bh} {ds:List cn} {l:List ah}
theorem adA{c:Code}{Q:Exit→Act→aj→Prop}{w:aj}(ts ss:List Nat)(J:List ah→aj→Prop)
 (hc:c.wp P (Exit.then (fun a' w'=>∃l',a'=Fr l' ds∧pD (fB l ts (ts.map (l'.getD · undef))) ss (l'.getD · undef)=l'∧J (ts.map (l'.getD · undef)) w') Q) (Fr l ds) w)
 (hn:∀vs u,J vs u→∀g:Nat→ah,Q .normal (Fr (pD (fB l ts vs) ss g) ds) u):c.wp P Q (Fr l ds) w:=by
 refine Code.wp_mono ?_ hc;intro e a w' h;cases e with
 | normal =>
  obtain⟨l',rfl,he,hJ⟩:=h;rw[←he];exact hn _ _ hJ _
 | exit id=>exact h
 | goto id=>exact h
 | ret=>exact h
 | panic ch=>exact h
 | outgrown=>exact h
theorem akq{c:Code}{Q:Exit→Act→aj→Prop}{w0 w:aj}{is:List It}(m:Mem w0 w is)(ts ss:List Nat)(J:List ah→Prop)
 (hc:c.wp P (Exit.then (fun a' w'=>∃l',a'=Fr l' ds∧pD (fB l ts (ts.map (l'.getD · undef))) ss (l'.getD · undef)=l'∧Mem w0 w' is∧J (ts.map (l'.getD · undef))) Q) (Fr l ds) w)
 (hn:∀vs u,Mem w0 u is→J vs→∀g:Nat→ah,Q .normal (Fr (pD (fB l ts vs) ss g) ds) u):c.wp P Q (Fr l ds) w :=
 adA ts ss (fun vs w'=>Mem w0 w' is∧J vs) hc fun vs u h g=>hn vs u h.1 h.2 g
theorem akr{c:Code}{Q:Exit→Act→aj→Prop}{w0 w:aj}{is:List It}(m:Mem w0 w is)(k:Nat)(ts ss:List Nat)(J:List ah→It→Prop)
 (hc:c.wp P (Exit.then (fun a' w'=>∃l' i,a'=Fr l' ds∧pD (fB l ts (ts.map (l'.getD · undef))) ss (l'.getD · undef)=l'∧Mem w0 w' (is.set k i)∧J (ts.map (l'.getD · undef)) i) Q) (Fr l ds) w)
 (hn:∀vs i u,Mem w0 u (is.set k i)→J vs i→∀g:Nat→ah,Q .normal (Fr (pD (fB l ts vs) ss g) ds) u):c.wp P Q (Fr l ds) w:=by
 refine adA ts ss (fun vs w'=>∃i,Mem w0 w' (is.set k i)∧J vs i) (Code.wp_mono ?_ hc) fun vs u h g=>?_
 · intro e a w' h
   cases e with
   | normal=>obtain⟨l',i,h1,h2,h3,h4⟩:=h;exact⟨l',h1,h2,i,h3,h4⟩
   | exit id=>exact h
   | goto id=>exact h
   | ret=>exact h
   | panic ch=>exact h
   | outgrown=>exact h
 · obtain⟨i,h1,h2⟩:=h
   exact hn vs i u h1 h2 g
end
section
variable {P:bh} {R:Exit→Act→aj→Prop} {w0 w:aj} {ds:List cn} {s:List Ko} {l:List ah} {is:List It}
theorem agW{c:Code}(m:Mem w0 w is)(ts ss:List Nat)(J:List ah→Prop)
 (hc:∀K:Act→aj→Prop,(∀l' w',pD (fB l ts (ts.map (l'.getD · undef))) ss (l'.getD · undef)=l'→Mem w0 w' is→J (ts.map (l'.getD · undef))→K (Fr l' ds) w')→c.wp P (Ct P R (.k K::s)) (Fr l ds) w)
 (hn:∀vs u,Mem w0 u is→J vs→∀g:Nat→ah,Ct P R s .normal (Fr (pD (fB l ts vs) ss g) ds) u):c.wp P (Ct P R s) (Fr l ds) w :=
 akq m ts ss J (hc _ fun l' w' h1 h2 h3=>⟨l',rfl,h1,h2,h3⟩) hn
theorem kU{c:Code}(m:Mem w0 w is)(k:Nat)(ts ss:List Nat)(J:List ah→It→Prop)
 (hc:∀K:Act→aj→Prop,(∀l' i w',pD (fB l ts (ts.map (l'.getD · undef))) ss (l'.getD · undef)=l'→Mem w0 w' (is.set k i)→J (ts.map (l'.getD · undef)) i→K (Fr l' ds) w')→c.wp P (Ct P R (.k K::s)) (Fr l ds) w)
 (hn:∀vs i u,Mem w0 u (is.set k i)→J vs i→∀g:Nat→ah,Ct P R s .normal (Fr (pD (fB l ts vs) ss g) ds) u):c.wp P (Ct P R s) (Fr l ds) w :=
 akr m k ts ss J (hc _ fun l' i w' h1 h2 h3=>⟨l',i,rfl,h1,h2,h3⟩) hn
end
structure GX(w w':aj):Prop where
 ext:fN w w'
 dr:w.drawn≤w'.drawn
theorem GX.grow{w w':aj}(h:GX w w'):∃q os,w'=Sort.grow (w.drewN q) os:=by
 refine⟨w'.drawn-w.drawn,w'.heap.extract w.heap.size w'.heap.size,?_⟩;have e1:w.heap++w'.heap.extract w.heap.size w'.heap.size=w'.heap:=by
  apply ju;intro i;rw[Array.getElem?_append];split
  · rename_i hi
    exact (Below.block h.ext i hi).symm
  · rename_i hi
    rw[Array.getElem?_extract];have:=h.ext.size;split
    · congr 1;omega
    · rw[lc (by omega)]
 have e2:w.drawn+(w'.drawn-w.drawn)=w'.drawn:=by have:=h.dr;omega
 have h1:=h.ext.os;have h2:=h.ext.tape;have h3:=h.ext.output;cases w;cases w';simp only[Sort.grow,World.drewN] at *
 subst h1 h2 h3;rw[e1,e2]
structure iJ(w0 w:aj)(is:List It):Prop where
 ext:GX w0 w
 mem:Mem w0 w is
def sE(P:bh)(f:FuncId)(args:List ah)(v:ah):Prop:=∀w,Entr P f∧Calls P f args.toArray w fun e w'=>∃u,e=.returned u∧GX w w'∧u=v
theorem sE.pure{P:bh}{f:FuncId}{args:List ah}{v:ah}(h:sE P f args v):dL P f args v:=fun w=>⟨(h w).1,(h w).2.mono fun _ _ ⟨u,he,hX,hv⟩=>⟨u,he,hX.ext,hv⟩⟩
section
variable {w0 w w':aj} {is:List It}
theorem iJ.refl(w:aj):iJ w w []:=⟨⟨fN.refl w,av _⟩,Mem.refl w⟩
theorem iJ.go(m:iJ w0 w is){js:List It}(h:Mem w0 w' js)(d:w.drawn≤w'.drawn):iJ w0 w' js:=⟨⟨h.ext,az m.ext.dr d⟩,h⟩
theorem iJ.ext' (m:iJ w0 w is)(e:GX w w'):iJ w0 w' is:=m.go (m.mem.ext' e.ext) e.dr
theorem iJ.b(m:iJ w0 w is)(k:Nat){g:Nat}{cs:List ah}{t:an}(hk:is[k]? = some (bI g cs t)):fK w g cs t:=m.mem.b k hk
end
section
variable {P:bh} {ds:List cn} {l:List ah} {x y:bg} {T ty:an}
variable {ops:Array Oper} {Q:Exit→Act→aj→Prop} {rest:List Oper} {d:Nat} {pos:String} {after:Array Edge} {w w0:aj} {is:List It} {v:ah}
theorem arP{cs:List ah}(m:iJ w0 w is)(hv:(ev l x).cells=cs.toArray)(h:∀g u,iJ w0 u (bI g cs T::is)→au P ops Q rest (Fr (l.set d (.pointer (some ⟨g,0,none⟩))) ds) u) :
 au P ops Q (bn (some d) (.box T x) ty pos after none::rest) (Fr l ds) w :=
 lY (w':=w.alloc (.cells cs.toArray T)) (v:=.pointer (some ⟨w.heap.size,0,none⟩)) (fun o ho _=>by simp[cw,ho,cJ,Instr.box,newVar,newRow,hv,newObj,Sem.run]) (h _ _ (m.go (m.mem.newB ((fN.refl w).alloc _) (av _) (iZ w cs T)) (av _)))
theorem oF{cs:List ah}(m:iJ w0 w is)(hv:ev l x=.agg cs.toArray)(h:∀g u,iJ w0 u (bI g cs T::is)→au P ops Q rest (Fr (l.set d (.pointer (some ⟨g,0,none⟩))) ds) u) :
 au P ops Q (bn (some d) (.box T x) ty pos after none::rest) (Fr l ds) w:=arP m (by rw[hv];rfl) h
theorem aks{cs:List ah}{z:ah}(m:iJ w0 w is)(hZ:nY P T z)(hv:z.cells=cs.toArray)(h:∀g u,iJ w0 u (bI g cs T::is)→au P ops Q rest (Fr (l.set d (.pointer (some ⟨g,0,none⟩))) ds) u) :
 au P ops Q (bn (some d) (.alloc T) ty pos after none::rest) (Fr l ds) w:=by
 obtain⟨inf,hi,hz⟩:=hZ;exact lY (w':=w.alloc (.cells cs.toArray T)) (v:=.pointer (some ⟨w.heap.size,0,none⟩)) (fun o ho _=>by simp[cw,ho,Instr.alloc,zeroValue,typeInfo,hi,hz,newVar,newRow,hv,newObj,Sem.run]) (h _ _ (m.go (m.mem.newB ((fN.refl w).alloc _) (av _) (iZ w cs T)) (av _)))
theorem akt{g off:Nat}{cs us:List ah}{t:an}(m:iJ w0 w is)(k:Nat)(hk:is[k]? = some (bI g cs t))(hx:ev l x=.pointer (some ⟨g,off,none⟩))(hv:(ev l y).cells=us.toArray)(hc:dP P T us.length)(hfit:off+us.length≤cs.length)(h1:(us.all (·.oneCell'))=true)
 (h:∀u,iJ w0 u (is.set k (bI g (cA cs off us) t))→au P ops Q rest (Fr l ds) u):au P ops Q (bn none (.store T x y) ty pos after none::rest) (Fr l ds) w:=by
 have hB:=m.b k hk;have hC:=Nk w g (cA cs off us).toArray;exact Fu (w':=w.setRow g (cA cs off us).toArray) (fun o ho=>by simp[cw,ho,cJ,hx,Instr.storeAt,Instr.sureAddr,Fv hc hv hB hfit (fW h1)])
  (h _ (m.go (m.mem.put k hk hC.os hC.tape hC.output (by rw[hC.size];exact av _) (fun b _ hne=>hC.block b fun e=>hne (by rw[e];rfl)) (setRow_heap w g cs.toArray _ t _ hB) (.inl fun _ h=>h)) (av _)))
theorem agX{g off:Nat}{cs us:List ah}{t:an}(m:iJ w0 w is)(k:Nat)(hk:is[k]? = some (bI g cs t))(hx:ev l x=.pointer (some ⟨g,off,none⟩))(hv:ev l y=.agg us.toArray)(hc:dP P T us.length)(hfit:off+us.length≤cs.length)(h1:(us.all (·.oneCell'))=true)
 (h:∀u,iJ w0 u (is.set k (bI g (cA cs off us) t))→au P ops Q rest (Fr l ds) u):au P ops Q (bn none (.store T x y) ty pos after none::rest) (Fr l ds) w:=akt m k hk hx (by rw[hv];rfl) hc hfit h1 h
theorem Mp{f:FuncId}{fo:bg}{xs:Array bg}{args:List ah}{first cap:Array ah}{a0:Array an}(m:iJ w0 w is)(hf:ev l fo=.func (.func f) first cap)(hxs:first.toList++xs.toList.map (ev l)++cap.toList=args)(hc:sE P f args v)
 (h:∀u,iJ w0 u is→au P ops Q rest (Fr (l.set d v) ds) u):au P ops Q (bn (some d) (.call { callee:=.value fo,args:=xs,argTypes:=a0 }) ty pos after none::rest) (Fr l ds) w:=by
 refine wpList_plain rfl fun K hK=>?_;unfold Oper.wp;rw[jV,oY (hc w).1 hf hxs _ rfl];refine (hc w).2.mono ?_;rintro e w' ⟨u,rfl,hE,rfl⟩;show K ((Fr l ds).put (some d) u) w'
 rw[iB];exact hK _ _ (h w' (m.ext' hE))
theorem iJ.drew(m:iJ w0 w is):iJ w0 { w with drawn:=w.drawn+1 } is:=m.ext' ⟨(fN.refl w).drawn,Nat.le_succ _⟩
theorem Oj{id:Nat}{a:Act}{l:List Oper}(m:iJ w0 w is)(n:Nat)(hm:P.follows .mixedOrders=true)(hB:Region.lexTailB .any l.toArray n=true)
 (h:cg P l.toArray (fun u=>iJ w0 u is) (fun a'=>∀u,iJ w0 u is→au P l.toArray Q (l.drop n) a' u) (l.take n) a):(Code.region id l.toArray true).wp P Q a w :=
 qY (C:=fun u=>iJ w0 u is) n hm hB m.drew h
theorem Gmq{id:Nat}{a:Act}{l:List Oper}(m:iJ w0 w is)(hm:P.follows .mixedOrders=true)(hB:Region.lexB .any l.toArray=true)
 (h:cg P l.toArray (fun u=>iJ w0 u is) (fun a'=>∀u,iJ w0 u is→Q .normal a' u) l a):(Code.region id l.toArray true).wp P Q a w :=
 wp_region_quiet (C:=fun u=>iJ w0 u is) hm hB m.drew (by simpa using h)
end
section
variable {P:bh} {w0:aj} {is:List It} {l:List ah} {x y:bg} {T ty:an}
variable {ops:Array Oper} {Q:Act→Prop} {rest:List Oper} {d:Nat} {pos:String} {after:Array Edge} {v:ah} {ds:List cn}
theorem Rt{a:Addr}(hx:ev l x=.pointer (some a))(hv:∀u,iJ w0 u is→fL P u T a v)(h:cg P ops (fun u=>iJ w0 u is) Q rest (Fr (l.set d v) ds)):cg P ops (fun u=>iJ w0 u is) Q (bn (some d) (.load T x) ty pos after none::rest) (Fr l ds) :=
 jY (fun u m=>aU hx (hv u m)) h
theorem Gp{f:FuncId}{fo:bg}{xs:Array bg}{args:List ah}{first cap:Array ah}{a0:Array an}(hf:ev l fo=.func (.func f) first cap)(hxs:first.toList++xs.toList.map (ev l)++cap.toList=args)(hc:sE P f args v)
 (h:cg P ops (fun u=>iJ w0 u is) Q rest (Fr (l.set d v) ds)):cg P ops (fun u=>iJ w0 u is) Q (bn (some d) (.call { callee:=.value fo,args:=xs,argTypes:=a0 }) ty pos after none::rest) (Fr l ds):=by
 refine wpQuiet_step fun K hK=>?_;rw[if_pos (by simp[Region.wanted])];refine⟨v,fun w' hw=>?_,?_⟩
 · unfold Oper.quietAt
   rw[jV,oY (hc w').1 hf hxs _ rfl];refine⟨rfl,(hc w').2.mono ?_⟩;rintro e w'' ⟨u,rfl,hE,rfl⟩;exact⟨rfl,hw.ext' hE⟩
 · show K ((Fr l ds).put (some d) v)
   rw[iB];exact hK _ h
end
def P3.Lt(p q:P3):Prop:=p.x<q.x∨p.x=q.x∧(p.y<q.y∨p.y=q.y∧p.z<q.z)
instance (p q:P3):Decidable (p.Lt q):=by unfold P3.Lt;infer_instance
def pZ(p q:P3):Int:=if p.Lt q then -1 else if q.Lt p then 1 else 0
theorem P3.eq{p q:P3}(h1:p.x=q.x)(h2:p.y=q.y)(h3:p.z=q.z):p=q:=by
 cases p;cases q;simp_all
instance:DecidableEq P3:=fun p q=>if h:p.x=q.x∧p.y=q.y∧p.z=q.z then isTrue (P3.eq h.1 h.2.1 h.2.2) else isFalse fun e=>h (by subst e;exact⟨rfl,rfl,rfl⟩)
theorem P3.lt_irrefl(p:P3):¬p.Lt p:=by unfold P3.Lt;omega
theorem P3.lt_trans{p q r:P3}(h:p.Lt q)(k:q.Lt r):p.Lt r:=by unfold P3.Lt at *;omega
theorem P3.lt_tri(p q:P3):p.Lt q∨p=q∨q.Lt p:=by
 by_cases h1:p.x=q.x
 · by_cases h2:p.y=q.y
   · by_cases h3:p.z=q.z
     · exact .inr (.inl (P3.eq h1 h2 h3))
     · unfold P3.Lt;omega
   · unfold P3.Lt;omega
 · unfold P3.Lt;omega
theorem P3.lt_x{p q:P3}(h:¬p.x=q.x):p.Lt q↔p.x<q.x:=by unfold P3.Lt;omega
theorem P3.lt_y{p q:P3}(h:p.x=q.x)(h2:¬p.y=q.y):p.Lt q↔p.y<q.y:=by unfold P3.Lt;omega
theorem P3.lt_z{p q:P3}(h:p.x=q.x)(h2:p.y=q.y):p.Lt q↔p.z<q.z:=by unfold P3.Lt;omega
@[irreducible] def Ol(c:Bool)(v:ah):ah:=if c then v else undef
theorem iT{v:ah}:Ol true v=v:=by simp[Ol]
theorem An{v:ah}:Ol false v=undef:=by simp[Ol]
theorem aV{c:Bool}{u v:ah}(hb:c=true)(h:u=Ol c v):u=v:=by rw[h,hb,iT]
section
variable {P:bh} {ds:List cn} {l:List ah} {x y:bg} {T ty:an} {b c:Bool} {v:ah}
theorem bU{z:bg}(hz:ev l z=.bool b)(hx:ev l x=Ol b (.bool c))(hy:ev l y=.bool false):iG P l (.pick z x y) ty (.bool (b&&c)):=by
 have:=Vq (P:=P) (ty:=ty) (x:=x) (y:=y) hz;cases b with
 | false=>simpa[hy] using this
 | true=>simpa[hx,iT] using this
theorem cF{z:bg}(hz:ev l z=.bool b)(hx:ev l x=.bool true)(hy:ev l y=Ol (!b) (.bool c)):iG P l (.pick z x y) ty (.bool (b||c)):=by
 have:=Vq (P:=P) (ty:=ty) (x:=x) (y:=y) hz;cases b with
 | false=>simpa[hy,iT] using this
 | true=>simpa[hx] using this
end
section
variable {P:bh} {ops:Array Oper} {Q:Exit→Act→aj→Prop} {rest:List Oper} {d j:Nat} {op:Op} {ty:an} {pos:String} {after:Array Edge} {v:ah} {b:Bool} {ds:List cn} {l:List ah} {w w0:aj} {is:List It}
theorem gV(hw:yielded ops l.toArray j=some b)(hr:b=true→yR P l op ty v w)(h:au P ops Q rest (Fr (l.set d (Ol b v)) ds) w):au P ops Q (bn (some d) op ty pos after (some (j,true))::rest) (Fr l ds) w:=by
 cases b with
 | false=>rw[An] at h;exact oX hw h
 | true=>rw[iT] at h;exact dN hw (fF (hr rfl) h)
theorem bS(hw:yielded ops l.toArray j=some b)(hr:(!b)=true→yR P l op ty v w)(h:au P ops Q rest (Fr (l.set d (Ol (!b) v)) ds) w):au P ops Q (bn (some d) op ty pos after (some (j,false))::rest) (Fr l ds) w:=by
 cases b with
 | true=>rw[gt,An] at h;exact Mk hw h
 | false=>rw[gp,iT] at h;exact dN hw (fF (hr rfl) h)
theorem cS(hw:yielded ops l.toArray j=some b)(hr:b=true→iG P l op ty v)(h:au P ops Q rest (Fr (l.set d (Ol b v)) ds) w):au P ops Q (bn (some d) op ty pos after (some (j,true))::rest) (Fr l ds) w:=gV hw (fun e=>hr e w) h
theorem bC(hw:yielded ops l.toArray j=some b)(hr:(!b)=true→iG P l op ty v)(h:au P ops Q rest (Fr (l.set d (Ol (!b) v)) ds) w):au P ops Q (bn (some d) op ty pos after (some (j,false))::rest) (Fr l ds) w:=bS hw (fun e=>hr e w) h
theorem adB{f:FuncId}{fo:bg}{xs:Array bg}{args:List ah}{first cap:Array ah}{a0:Array an}(m:Mem w0 w is)(hw:yielded ops l.toArray j=some b)(hf:ev l fo=.func (.func f) first cap)(hxs:b=true→first.toList++xs.toList.map (ev l)++cap.toList=args)(hc:b=true→dL P f args v)
 (h:∀u,Mem w0 u is→au P ops Q rest (Fr (l.set d (Ol b v)) ds) u):au P ops Q (bn (some d) (.call { callee:=.value fo,args:=xs,argTypes:=a0 }) ty pos after (some (j,true))::rest) (Fr l ds) w:=by
 cases b with
 | false=>simp only[An] at h;exact oX hw (h w m)
 | true=>simp only[iT] at h;exact dN hw (lJ m hf (hxs rfl) (hc rfl) h)
theorem xI{f:FuncId}{fo:bg}{xs:Array bg}{args:List ah}{first cap:Array ah}{a0:Array an}(m:Mem w0 w is)(hw:yielded ops l.toArray j=some b)(hf:ev l fo=.func (.func f) first cap)(hxs:(!b)=true→first.toList++xs.toList.map (ev l)++cap.toList=args)(hc:(!b)=true→dL P f args v)
 (h:∀u,Mem w0 u is→au P ops Q rest (Fr (l.set d (Ol (!b) v)) ds) u):au P ops Q (bn (some d) (.call { callee:=.value fo,args:=xs,argTypes:=a0 }) ty pos after (some (j,false))::rest) (Fr l ds) w:=by
 cases b with
 | true=>simp only[gt,An] at h;exact Mk hw (h w m)
 | false=>simp only[gp,iT] at h;exact dN hw (lJ m hf (hxs rfl) (hc rfl) h)
end
section
variable {P:bh} {ops:Array Oper} {Q:Act→Prop} {C:aj→Prop} {rest:List Oper} {d j:Nat} {op:Op} {ty:an} {pos:String} {after:Array Edge} {v:ah} {b:Bool} {ds:List cn} {l:List ah} {w0:aj} {is:List It}
theorem dX(hw:yielded ops l.toArray j=some b)(hr:b=true→∀u,C u→yR P l op ty v u)(h:cg P ops C Q rest (Fr (l.set d (Ol b v)) ds)):cg P ops C Q (bn (some d) op ty pos after (some (j,true))::rest) (Fr l ds):=by
 cases b with
 | false=>rw[An] at h;exact ac6 hw h
 | true=>rw[iT] at h;exact tI hw (jY (hr rfl) h)
theorem pM(hw:yielded ops l.toArray j=some b)(hr:(!b)=true→∀u,C u→yR P l op ty v u)(h:cg P ops C Q rest (Fr (l.set d (Ol (!b) v)) ds)):cg P ops C Q (bn (some d) op ty pos after (some (j,false))::rest) (Fr l ds):=by
 cases b with
 | true=>rw[gt,An] at h;exact Fq hw h
 | false=>rw[gp,iT] at h;exact tI hw (jY (hr rfl) h)
theorem cM(hw:yielded ops l.toArray j=some b)(hr:b=true→iG P l op ty v)(h:cg P ops C Q rest (Fr (l.set d (Ol b v)) ds)):cg P ops C Q (bn (some d) op ty pos after (some (j,true))::rest) (Fr l ds):=dX hw (fun e u _=>hr e u) h
theorem iC(hw:yielded ops l.toArray j=some b)(hr:(!b)=true→iG P l op ty v)(h:cg P ops C Q rest (Fr (l.set d (Ol (!b) v)) ds)):cg P ops C Q (bn (some d) op ty pos after (some (j,false))::rest) (Fr l ds):=pM hw (fun e u _=>hr e u) h
theorem Gq{f:FuncId}{fo:bg}{xs:Array bg}{args:List ah}{first cap:Array ah}{a0:Array an}(hw:yielded ops l.toArray j=some b)(hf:ev l fo=.func (.func f) first cap)(hxs:b=true→first.toList++xs.toList.map (ev l)++cap.toList=args)(hc:b=true→dL P f args v)
 (h:cg P ops (fun u=>Mem w0 u is) Q rest (Fr (l.set d (Ol b v)) ds)):cg P ops (fun u=>Mem w0 u is) Q (bn (some d) (.call { callee:=.value fo,args:=xs,argTypes:=a0 }) ty pos after (some (j,true))::rest) (Fr l ds):=by
 cases b with
 | false=>rw[An] at h;exact ac6 hw h
 | true=>rw[iT] at h;exact tI hw (eR hf (hxs rfl) (hc rfl) h)
theorem adC{f:FuncId}{fo:bg}{xs:Array bg}{args:List ah}{first cap:Array ah}{a0:Array an}(hw:yielded ops l.toArray j=some b)(hf:ev l fo=.func (.func f) first cap)(hxs:(!b)=true→first.toList++xs.toList.map (ev l)++cap.toList=args)(hc:(!b)=true→dL P f args v)
 (h:cg P ops (fun u=>Mem w0 u is) Q rest (Fr (l.set d (Ol (!b) v)) ds)):cg P ops (fun u=>Mem w0 u is) Q (bn (some d) (.call { callee:=.value fo,args:=xs,argTypes:=a0 }) ty pos after (some (j,false))::rest) (Fr l ds):=by
 cases b with
 | true=>rw[gt,An] at h;exact Fq hw h
 | false=>rw[gp,iT] at h;exact tI hw (eR hf (hxs rfl) (hc rfl) h)
end
section
variable {P:bh} {ops:Array Oper} {S:aj→Prop} {Q:Exit→Act→aj→Prop} {rest:List (Oper × Bool)} {d j:Nat} {op:Op} {ty:an} {pos:String} {after:Array Edge} {v:ah} {b:Bool} {ds:List cn} {l:List ah} {w:aj}
theorem uS(hw:yielded ops l.toArray j=some b)(hr:b=true→∀u,S u→yR P l op ty v u)(h:bO P ops S Q rest (Fr (l.set d (Ol b v)) ds) w):bO P ops S Q ((bn (some d) op ty pos after (some (j,true)),true)::rest) (Fr l ds) w:=by
 cases b with
 | false=>rw[An] at h;exact sN hw h
 | true=>rw[iT] at h;exact jP hw (Vv (hr rfl) h)
theorem kB(hw:yielded ops l.toArray j=some b)(hr:b=true→iG P l op ty v)(h:bO P ops S Q rest (Fr (l.set d (Ol b v)) ds) w):bO P ops S Q ((bn (some d) op ty pos after (some (j,true)),true)::rest) (Fr l ds) w:=uS hw (fun e u _=>hr e u) h
end
end Go.Lith
namespace Go.Lith
open Go.RowKit Go.ChangeShapes
variable {H:Type} {enc:an × ah→H} {P:bh} {w:aj} {base:Nat} {spare:Nat→Bool} {held:Bool}
def pN(P:bh):Nat→an→Bool
 | 0,_=>false
 | n+1,t=>match P.underlying t with
  | some (.int .i64)=>decide (P.cellsOf t=1)
  | some (.struct fs)=>(fs.toList.all fun f=>pN P n f.type)&&(i_ (P.cellsOf t)).all fun i=>fs.toList.any fun f=>decide (f.offset≤i)&&decide (i<f.offset+P.cellsOf f.type)
  | some (.array m e)=>pN P n e&&decide (P.cellsOf t=m*P.cellsOf e)
  | _=>false
theorem aoU{n:Int}(h:(Lit.int .i64 n).wf=true):yL n:=by
 have:=bounds_i64 h;exact⟨by omega,by omega⟩
theorem sS:∀(n:Nat) (t:an) (m:Nat) (cs:List ah) (x:DataW H × List MemPlace),pN P n t=true→DataW.trod enc P w base spare held m t cs=some x →
 cs.length=P.cellsOf t∧∀v∈cs,∃z,v=.int .i64 z∧yL z
 | 0,t,m,cs,x,h,_=>by cases h
 | n+1,t,m,cs,x,h,hx=>by
  unfold pN at h;split at h
  · rename_i hu
    obtain⟨z,rfl,_,hz⟩:=DataW.trod_int hu hx;refine⟨by rw[of_decide_eq_true h];rfl,fun v hv=>⟨z,by simpa using hv,aoU hz⟩⟩
  · rename_i fs hu
    simp only[be,dw,dt,decide_eq_true_eq,jb] at h;obtain⟨ys,k,_,_,hl,hlen,hf⟩:=DataW.trod_struct hu hx;refine⟨hl,fun v hv=>?_⟩;obtain⟨i,hi,rfl⟩:=kg hv;obtain⟨f,hfm,h1,h2⟩:=h.2 i (by rw[←hl];exact hi);obtain⟨j,hj,rfl⟩:=kg hfm;have hj':j<fs.size:=by simpa using hj
    have:=hf j fs[j] (fw hj');rw[am (by rw[hlen];exact hj')] at this;have hr:=(sS n _ _ _ _ (h.1 _ (fh hj)) this).2;refine hr _ ?_;simp only[Array.getElem_toList] at h1 h2;refine bj (i:=i-fs[j].offset) ?_;rw[eh,if_pos (by omega),d_,show fs[j].offset+(i-fs[j].offset)=i by omega];exact am hi
  · rename_i q e hu
    simp only[be,decide_eq_true_eq] at h;obtain⟨ys,k,_,_,hl,hlen,hf⟩:=DataW.trod_array hu hx;refine⟨hl,fun v hv=>?_⟩;obtain⟨i,hi,rfl⟩:=kg hv;rw[hl,h.2] at hi;have hc:0<P.cellsOf e:=by
     rcases ib (P.cellsOf e) with h0 | h0
     · rw[h0] at hi;omega
     · exact h0
    have hq:i / P.cellsOf e<q:=Nat.div_lt_of_lt_mul (by rw[pc];exact hi);have:=hf _ hq;rw[am (by rw[hlen];exact hq)] at this;have hr:=(sS n _ _ _ _ h.1 this).2;refine hr _ (bj (i:=i%P.cellsOf e) ?_);rw[eh,if_pos (kd _ hc),d_,pc,Nat.div_add_mod];exact am _
  · cases h
theorem Jk:∀(n:Nat) (cs:List ah),cs.length=n→(∀v∈cs,∃z,v=.int .i64 z∧yL z)→∃zs:List Int,zs.length=n∧cs=zs.map (.int .i64 ·)∧∀z∈zs,yL z
 | 0,[],_,_=>⟨[],rfl,rfl,fun _ h=>by cases h⟩
 | n+1,v::vs,h,hv=>by
  obtain⟨zs,h1,h2,h3⟩:=Jk n vs (by simpa using h) (fun u hu=>hv u (by simp[hu]));obtain⟨z,rfl,hz⟩:=hv v (by simp);exact⟨z::zs,by simp[h1],by simp[h2],fun u hu=>by rcases ao.1 hu with rfl | hu;exact hz;exact h3 _ hu⟩
theorem aeJ{r:Reach}{b0 n m:Nat}{t:an}{v:ah}{d:DataW H}{p:List MemPlace}(ha:eP P t true)(hi:pN P n t=true)(hc:P.cellsOf t=m)(hv:Value.okWide P w r b0 t v)(h:DataW.Trod enc P w base spare held t v d p) :
 ∃zs:List Int,zs.length=m∧v=.agg (zs.map (.int .i64 ·)).toArray∧∀z∈zs,yL z:=by
 obtain⟨dd,hu,hd⟩:=ha;obtain⟨fuel,hf⟩:=h;unfold Value.okWide at hv;rw[hu] at hv;have:∃cs,v=.agg cs:=by
  cases dd <;> first | (obtain⟨cs,rfl,_⟩:=hv;exact⟨cs,rfl⟩) | (cases hd)
 obtain⟨cs,rfl⟩:=this;obtain⟨h1,h2⟩:=sS n t fuel _ _ hi hf;obtain⟨zs,h3,h4,h5⟩:=Jk m cs.toList (by rw[←hc];exact h1) h2;exact⟨zs,h3,by rw[←h4],h5⟩
theorem as7{zs:List Int}(h:zs.length=9):∃a b c d e f g i j,zs=[a,b,c,d,e,f,g,i,j]:=by
 match zs,h with
 | [a,b,c,d,e,f,g,i,j],_=>exact⟨a,b,c,d,e,f,g,i,j,rfl⟩
theorem abP{a:Addr}{n:Nat}{cs:List ah}(h:w.cells? base a n=some cs):mB w a cs∧base≤a.block:=by
 unfold World.cells? at h;split at h
 · rename_i hb
   refine⟨fun j u hj=>?_,hb⟩;have hl:=mapM_some_length h;have hj':j<cs.length:=(aq.1 hj).1;rw[hl] at hj';have:=mapM_some_get h j j (am hj'▸by simp);rw[this,hj]
 · cases h
theorem aeK{n m:Nat}{t e:an}{fuel:Nat}{cs:List ah}{x:DataW H × List MemPlace}(hu:P.underlying t=some (.slice e))(hi:pN P n e=true)(hc:P.cellsOf e=m)(h:DataW.trod enc P w base spare held fuel t cs=some x) :
 ∃(A:Option Addr) (len cap:Nat),cs=[.slice A len cap]∧len≤cap∧cap≤maxLen∧(A=none→len=0)∧∀i,i<len→∃(a:Addr) (zs:List Int),A=some a∧base≤a.block∧mB w (a.add (i*m)) (zs.map (Value.int .i64 ·))∧zs.length=m∧∀z∈zs,yL z:=by
 rcases Deep.open_slice hu h with ⟨rfl,_⟩ | ⟨a,len,cap,k,q,D,Pl,rfl,hb,hl,hm,hk,_,hx⟩
 · exact⟨none,0,0,rfl,av _,br _,fun _=>rfl,fun i hi=>absurd hi (Nat.not_lt_zero _)⟩
 · refine⟨some a,len,cap,rfl,hl,hm,fun h=>(by cases h),fun i hi'=>?_⟩
   obtain⟨cs',h1,h2⟩:=hx i (by rw[hk];split <;> omega);obtain⟨h3,h4⟩:=sS n e q _ _ hi h2;obtain⟨zs,h5,rfl,h6⟩:=Jk m cs' (by rw[←hc];exact h3) h4;rw[hc] at h1;exact⟨a,zs,rfl,hb,(abP h1).1,h5,h6⟩
theorem Ld{α:Type}{p:Nat→α→Prop}:∀(n:Nat),(∀i,i<n→∃x,p i x)→∃l:List α,l.length=n∧∀i x,l[i]? = some x→p i x
 | 0,_=>⟨[],rfl,fun i x h=>by simp at h⟩
 | n+1,h=>by
  obtain⟨l,h1,h2⟩:=Ld n (fun i hi=>h i (by omega));obtain⟨x,hx⟩:=h n (by omega);refine⟨l++[x],by simp[h1],fun i y hy=>?_⟩;rcases Nat.lt_trichotomy i n with hi | hi | hi
  · exact h2 i y (by rwa [fe (by omega)] at hy)
  · subst hi
    rw[ja (by omega),h1,Nat.sub_self] at hy;cases hy;exact hx
  · rw[ja (by omega),h1] at hy
    have:i-n≠0:=by omega
    cases hd:i-n with
    | zero=>omega
    | succ j=>rw[hd] at hy;simp at hy
theorem aeL{n:Nat}{t e:an}{fuel:Nat}{cs:List ah}{x:DataW H × List MemPlace}(hu:P.underlying t=some (.slice e))(hi:pN P n e=true)(hc:P.cellsOf e=9)(h:DataW.trod enc P w base spare held fuel t cs=some x) :
 ∃(A:Option Addr) (len cap:Nat) (ts:List T3),cs=[.slice A len cap]∧len≤cap∧cap≤maxLen∧(A=none→len=0)∧bP w A len ts:=by
 obtain⟨A,len,cap,rfl,h1,h2,h3,h4⟩:=aeK hu hi hc h;obtain⟨ts,h5,h6⟩:=Ld (p:=fun i (t:T3)=>IT t∧∃a,A=some a∧mB w (a.add (i*9)) (aN t)) len (fun i hi=>by
  obtain⟨a,zs,rfl,_,hr,hl,hz⟩:=h4 i hi;obtain⟨x1,x2,x3,y1,y2,y3,z1,z2,z3,rfl⟩:=as7 hl;exact⟨⟨⟨x1,x2,x3⟩,⟨y1,y2,y3⟩,⟨z1,z2,z3⟩⟩,⟨⟨hz _ (by simp),hz _ (by simp),hz _ (by simp)⟩,⟨hz _ (by simp),hz _ (by simp),hz _ (by simp)⟩,⟨hz _ (by simp),hz _ (by simp),hz _ (by simp)⟩⟩,a,rfl,hr⟩)
 refine⟨A,len,cap,ts,rfl,h1,h2,h3,h5,fun t ht=>?_,fun i t ht=>(h6 i t ht).2⟩;obtain⟨i,hi,rfl⟩:=kg ht;exact (h6 i _ (am hi)).1
end Go.Lith
namespace Go.Lith
open Go.RowKit
theorem alP{n m:Int}(hm:0<m) : -m<n.tmod m∧n.tmod m<m:=by
 have h1:=Int.tmod_lt_of_pos n hm;have h2:=Int.tmod_lt_of_pos (-n) hm;rw[Int.neg_tmod] at h2;omega
theorem aku{n m:Int}(hm:0<m):(n.tmod m+m).tmod m=n%m:=by
 have hb:=alP (n:=n) hm;rw[lu (by omega)];rcases Int.le_total 0 n with h | h
 · rw[lu h]
   simp
 · have e:n.tmod m = -((-n)%m):=by
    rw[←lu (show 0 ≤ -n by omega),Int.neg_tmod,Int.neg_neg]
   rw[e,Int.add_emod_right];have h2:=Int.emod_add_mul_ediv (-n) m;have h3 : -((-n)%m)=n+m*(-n / m):=by omega
   rw[h3,Int.add_mul_emod_self_left]
/-! ### Hills -/
theorem Le{α β:Type}{f:α→List β}{k:Nat}:∀(l:List α),(∀x∈l,(f x).length=k)→(l.flatMap f).length=l.length*k
 | [],_=>by simp
 | x::l,h=>by
  rw[dx,aw,h x (by simp),Le l (fun y hy=>h y (by simp[hy])),ay,jk,nq,Nat.add_comm]
/-! ### Cubes -/
/-! ### What the walks ask for -/
theorem arQ{k c:Nat}:(k:Int).tmod (c:Int)=((k%c:Nat):Int):=rfl
def T3.cor(t:T3)(c:Nat):P3:=if c=0 then t.a else if c=1 then t.b else t.c
def T3.setC(t:T3)(c:Nat)(p:P3):T3:=if c=0 then ⟨p,t.b,t.c⟩ else if c=1 then ⟨t.a,p,t.c⟩ else ⟨t.a,t.b,p⟩
theorem asV{t:T3}{c:Nat}{p:P3}(hc:c<3):cA (aN t) (c*3) [.int .i64 p.x,.int .i64 p.y,.int .i64 p.z]=aN (t.setC c p):=by
 have:c=0∨c=1∨c=2:=by omega
 rcases this with rfl | rfl | rfl <;> rfl
section
variable {w0 w:aj} {S:List (Option Nat)} {E:an} {n cap:Nat} {A:Option Addr} {ts:List T3}
theorem mB.cor{a:Addr}{t:T3}{c:Nat}(h:mB w a (aN t))(hc:c<3):mB w (a.add (c*3)) [.int .i64 (t.cor c).x,.int .i64 (t.cor c).y,.int .i64 (t.cor c).z]:=by
 have:=(h.sub (c*3)).take 3;have e:c=0∨c=1∨c=2:=by omega
 rcases e with rfl | rfl | rfl <;> exact this
theorem bP.take{N k:Nat}(h:bP w A N ts)(hk:k≤N):bP w A k (ts.take k) :=
 ⟨by rw[cj,h.len];omega,fun t ht=>h.it t (List.mem_of_mem_take ht),fun i t ht=>h.row i t (by rw[eh] at ht;split at ht;exact ht;cases ht)⟩
end
section
variable {α:Type} {enc:α→List ah} {c:Nat} {w w':aj} {A:Option Addr} {n:Nat} {xs:List α}
structure Dg(enc:α→List ah)(c:Nat)(w:aj)(A:Option Addr)(n:Nat)(xs:List α):Prop where
 len:xs.length=n
 row:∀i x,xs[i]? = some x→∃a,A=some a∧mB w (a.add (i*c)) (enc x)
theorem Dg.ext(h:Dg enc c w A n xs)(hE:fN w w'):Dg enc c w' A n xs:=⟨h.len,fun i x hi=>let ⟨a,e,hr⟩:=h.row i x hi;⟨a,e,hr.ext hE⟩⟩
theorem Dg.get(h:Dg enc c w A n xs){i:Nat}(hi:i<n):∃x,xs[i]? = some x∧∃a,A=some a∧mB w (a.add (i*c)) (enc x):=by
 have hl:i<xs.length:=by rw[h.len];exact hi
 exact⟨xs[i],am hl,h.row i _ (am hl)⟩
theorem Dg.at{a:Addr}(h:Dg enc c w (some a) n xs){i:Nat}{x:α}(hx:xs[i]? = some x):mB w (a.add (i*c)) (enc x):=by
 obtain⟨b,e,hr⟩:=h.row i x hx;cases e;exact hr
theorem Dg.take(h:Dg enc c w A n xs){k:Nat}(hk:k≤n):Dg enc c w A k (xs.take k) :=
 ⟨by rw[cj,h.len];omega,fun i x hx=>h.row i x (by rw[eh] at hx;split at hx;exact hx;cases hx)⟩
theorem jO(hc:∀x,(enc x).length=c):∀xs:List α,(xs.flatMap enc).length=xs.length*c
 | []=>by simp
 | x::xs=>by rw[dx,aw,hc,jO hc xs,ay,jk,nq,Nat.add_comm]
theorem xJ(hc:∀x,(enc x).length=c):∀(xs:List α) (k:Nat),(xs.drop k).flatMap enc=(xs.flatMap enc).drop (k*c)
 | xs,0=>by simp
 | [],k+1=>by simp
 | x::xs,k+1=>by
  rw[List.drop_succ_cons,dx,xJ hc xs k,List.drop_append,hc,ij (l:=enc x) (by rw[hc,jk];omega),jk,nq,f_,cd]
theorem Om(hc:∀x,(enc x).length=c):∀(xs:List α) (k:Nat),(xs.take k).flatMap enc=(xs.flatMap enc).take (k*c)
 | xs,0=>by simp
 | [],k+1=>by simp
 | x::xs,k+1=>by
  rw[lz,dx,dx,Om hc xs k,List.take_append,hc,a_ (l:=enc x) (by rw[hc,jk];omega),jk,nq,f_]
theorem On(hc:∀x,(enc x).length=c){xs:List α}{i:Nat}{x:α}(h:xs[i]? = some x):(xs.flatMap enc).drop (i*c)=enc x++(xs.drop (i+1)).flatMap enc:=by
 rw[←xJ hc,List.drop_eq_getElem_cons (aq.1 h).1,dx,(aq.1 h).2]
theorem Ow.at{w0:aj}{S:List (Option Nat)}{E:an}{cap g i:Nat}{x:α}(hc:∀x,(enc x).length=c)(h:Ow w0 w S E c (kz ⟨g,0,none⟩) n cap (xs.flatMap enc))(hx:xs[i]? = kz x):mB w ((⟨g,0,none⟩:Addr).add (i*c)) (enc x):=by
 intro j u hj;have hj':j<(enc x).length:=(aq.1 hj).1;rw[lG];refine h.rows _ _ ?_;rw[←d_,On hc hx,fe hj'];exact hj
theorem Ow.num{w0:aj}{S:List (Option Nat)}{E:an}{cap:Nat}(hc:∀x,(enc x).length=c)(h0:0<c)(h:Ow w0 w S E c A n cap (xs.flatMap enc)):xs.length=n:=by
 have:=h.own.1;rw[jO hc] at this;exact Nat.eq_of_mul_eq_mul_right h0 this
theorem Ow.lat{w0:aj}{S:List (Option Nat)}{E:an}{cap:Nat}(hc:∀x,(enc x).length=c)(h0:0<c)(h:Ow w0 w S E c A n cap (xs.flatMap enc)):Dg enc c w A n xs :=
 ⟨h.num hc h0,fun i x hx=>by
  have hi:=(aq.1 hx).1;have hn:=h.num hc h0;obtain⟨g,rfl⟩:=h.some (by omega);exact⟨_,rfl,h.at hc hx⟩⟩
theorem Dg.cells(hc:∀x,(enc x).length=c)(h0:0<c)(h:Dg enc c w A n xs):∀j u,(xs.flatMap enc)[j]? = some u→∃a,A=some a∧w.cell? (a.add j)=some u:=fun j u hj=>by
 have hj':=(aq.1 hj).1;rw[jO hc] at hj';have hi:j / c<xs.length:=(Nat.div_lt_iff_lt_mul h0).2 hj';obtain⟨a,rfl,hr⟩:=h.row (j / c) _ (am hi);refine⟨a,rfl,?_⟩;have hm:=kd j h0;have e:j=j / c*c+j%c:=by rw[pc];exact (Nat.div_add_mod j c).symm
 have:=hr (j%c) u (by
  rw[e,←d_,On hc (am hi),fe (by rw[hc];exact hm)] at hj;exact hj)
 rw[lG,←e] at this;exact this
theorem Dg.cellsD(hc:∀x,(enc x).length=c)(h0:0<c)(h:Dg enc c w A n xs){cap q:Nat}(hcap:n≤cap):∀j u,((xs.drop q).flatMap enc)[j]? = some u→∃a,(if cap=q then A else A.map (·.add (q*c)))=some a∧w.cell? (a.add j)=some u:=fun j u hj=>by
 rw[xJ hc,d_] at hj;have hl:=(aq.1 hj).1;rw[jO hc,h.len] at hl;obtain⟨a,rfl,hcl⟩:=h.cells hc h0 _ _ hj;have:q<n:=by
  refine Nat.lt_of_mul_lt_mul_right (a:=c) ?_;omega
 rw[if_neg (by omega)];exact⟨_,rfl,by rw[lG];exact hcl⟩
end
theorem bX{α:Type}{ps:List α}{k:Nat}{p:α}(h:ps[k]? = some p):ps.take (k+1)=ps.take k++[p]:=by
 rw[ob,h];rfl
abbrev E3:=P3 × P3
def cT(e:E3):List ah:=[.int .i64 e.1.x,.int .i64 e.1.y,.int .i64 e.1.z,.int .i64 e.2.x,.int .i64 e.2.y,.int .i64 e.2.z]
def ed(e:E3):ah:=.agg #[.int .i64 e.1.x,.int .i64 e.1.y,.int .i64 e.1.z,.int .i64 e.2.x,.int .i64 e.2.y,.int .i64 e.2.z]
def kN(p:P3):List ah:=[.int .i64 p.x,.int .i64 p.y,.int .i64 p.z]
theorem bP.lat{w:aj}{A:Option Addr}{n:Nat}{ts:List T3}(h:bP w A n ts):Dg aN 9 w A n ts:=⟨h.len,h.row⟩
theorem Wq(es:List E3):∀u∈es.flatMap cT,u.oneCell'=true:=fun u hu=>by
 obtain⟨e,_,h⟩:=e_.1 hu;simp only[cT,ao,bz,or_false] at h;rcases h with rfl | rfl | rfl | rfl | rfl | rfl <;> rfl
theorem Oo(ps:List P3):∀u∈ps.flatMap kN,u.oneCell'=true:=fun u hu=>by
 obtain⟨e,_,h⟩:=e_.1 hu;simp only[kN,ao,bz,or_false] at h;rcases h with rfl | rfl | rfl <;> rfl
theorem aoV(t:T3):(aN t).length=9:=rfl
theorem Mf(e:E3):(cT e).length=6:=rfl
theorem xK(p:P3):(kN p).length=3:=rfl
def aZ(ts:List T3):List E3:=ts.flatMap fun t=>[(t.a,t.b),(t.b,t.c),(t.c,t.a)]
theorem tO{ts:List T3}{k:Nat}{t:T3}(h:ts[k]? = some t):aZ (ts.take (k+1))=aZ (ts.take k)++[(t.a,t.b),(t.b,t.c),(t.c,t.a)]:=by
 unfold aZ;rw[bX h,ba];simp
theorem qL(ts:List T3):(aZ ts).length=ts.length*3:=Le ts fun _ _=>rfl
def lL(es:List E3)(e:E3):Nat:=(es.filter fun x=>decide (x=e)).length
theorem Zx{es:List E3}{k:Nat}{x e:E3}(h:es[k]? = some x):lL (es.take (k+1)) e=lL (es.take k) e+if x=e then 1 else 0:=by
 unfold lL;rw[bX h,List.filter_append,aw];by_cases hx:x=e <;> simp[hx]
theorem aoW{es:List E3}{e:E3}:lL es e≤es.length:=List.length_filter_le _ _
def iX(w:aj)(g:Nat)(es:Array b_)(c:Nat):Prop:=w.heap[g]? = some (.map es c)
def rG(w:aj)(r g s:Nat)(seen:Array Nat)(c:Nat):Prop:=w.heap[r]? = some (.mapIter (some g) s seen c)
theorem iX.ext{w w':aj}{g c:Nat}{es:Array b_}(h:iX w g es c)(hE:fN w w'):iX w' g es c:=hE.block h
theorem rG.ext{w w':aj}{r g s c:Nat}{seen:Array Nat}(h:rG w r g s seen c)(hE:fN w w'):rG w' r g s seen c:=hE.block h
theorem iX.lt{w:aj}{g c:Nat}{es:Array b_}(h:iX w g es c):g<w.heap.size:=(de.1 h).1
theorem rG.lt{w:aj}{r g s c:Nat}{seen:Array Nat}(h:rG w r g s seen c):r<w.heap.size:=(de.1 h).1
section
variable {P:bh} {ds:List cn} {l:List ah} {x:bg} {T ty:an} {ops:Array Oper} {Q:Exit→Act→aj→Prop} {rest:List Oper} {d:Nat} {pos:String} {after:Array Edge} {w:aj}
theorem aeM(h:∀w' g,fN w w'→w.heap.size≤g→iX w' g #[] 0→au P ops Q rest (Fr (l.set d (.map (some g))) ds) w'):au P ops Q (bn (some d) (.makeMap T none) ty pos after none::rest) (Fr l ds) w :=
 lY (w':=w.alloc (.map #[] 0)) (v:=.map (some w.heap.size)) (fun o ho _=>by simp[cw,ho,Instr.makeMap,newObj,Sem.run]) (h _ _ ((fN.refl w).alloc _) (av _) (heap_alloc_new w _))
theorem adD{k e:an}{g c:Nat}{es:Array b_}(hu:P.underlying T=some (.map k e))(hx:ev l x=.map (some g))(hM:iX w g es c)(h:∀w' r,fN w w'→w.heap.size≤r→rG w' r g c #[] c→au P ops Q rest (Fr (l.set d (.pointer (some ⟨r,0,none⟩))) ds) w') :
 au P ops Q (bn (some d) (.range T x) ty pos after none::rest) (Fr l ds) w :=
 lY (w':=w.alloc (.mapIter (some g) c #[] c)) (v:=.pointer (some ⟨w.heap.size,0,none⟩)) (fun o ho _=>by
  unfold iX at hM;simp[cw,ho,cJ,hx,Instr.range,bx hu,getObj,hM,newObj,Sem.run]) (h _ _ ((fN.refl w).alloc _) (av _) (heap_alloc_new w _))
end
end Go.Lith
namespace Go.Lith
open Go.RowKit Go.ChangeMaps Go.MapKept
/-! ### Lists of pairs -/
section
variable {K V:Type} [DecidableEq K]
def fG:List (K × V)→K→V→List (K × V)
 | [],k,v=>[(k,v)]
 | x::D,k,v=>if x.1=k then (k,v)::D else x::fG D k v
def cI:List (K × V)→K→Option V
 | [],_=>none
 | x::D,k=>if x.1=k then some x.2 else cI D k
def Aq:List (K × V)→K→List (K × V)
 | [],_=>[]
 | x::D,k=>if x.1=k then D else x::Aq D k
def qD:List (K × V)→K→Nat→Option (Nat × V)
 | [],_,_=>none
 | x::D,k,i=>if x.1=k then some (i,x.2) else qD D k (i+1)
theorem qM:∀(D:List (K × V)) (k:K) (i:Nat),qD D k i=none→cI D k=none∧(∀u,fG D k u=D++[(k,u)])∧Aq D k=D
 | [],_,_,_=>⟨rfl,fun _=>rfl,rfl⟩
 | x::D,k,i,h=>by
  unfold qD at h;by_cases e:x.1=k
  · rw[if_pos e] at h;cases h
  · rw[if_neg e] at h
    obtain⟨h1,h2,h3⟩:=qM D k (i+1) h;exact⟨by simp[cI,e,h1],fun u=>by simp[fG,e,h2],by simp[Aq,e,h3]⟩
theorem mO:∀(D:List (K × V)) (k:K) (i j:Nat) (v:V),qD D k i=some (j,v)→∃p,j=i+p∧D[p]? = some (k,v)∧cI D k=some v∧(∀u,fG D k u=D.set p (k,u))∧Aq D k=D.eraseIdx p
 | [],_,_,_,_,h=>by cases h
 | x::D,k,i,j,v,h=>by
  unfold qD at h;by_cases e:x.1=k
  · rw[if_pos e] at h
    cases h;obtain⟨a,b⟩:=x;obtain rfl:a=k:=e;exact⟨0,rfl,rfl,by simp[cI],fun u=>by simp[fG],by simp[Aq]⟩
  · rw[if_neg e] at h
    obtain⟨p,h1,h2,h3,h4,h5⟩:=mO D k (i+1) j v h;exact⟨p+1,by omega,by simpa using h2,by simp[cI,e,h3],fun u=>by simp[fG,e,h4],by simp[Aq,e,h5]⟩
theorem lW:∀(D:List (K × V)) (k k':K) (v:V),cI (fG D k v) k'=if k=k' then some v else cI D k'
 | [],k,k',v=>by simp[fG,cI]
 | x::D,k,k',v=>by
  unfold fG;by_cases e:x.1=k
  · rw[if_pos e]
    subst e;by_cases e':x.1=k' <;> simp[cI,e']
  · rw[if_neg e]
    unfold cI;rw[lW D k k' v];by_cases e':x.1=k'
    · rw[if_pos e',if_pos e',if_neg (fun h=>e (e'.trans h.symm))]
    · rw[if_neg e',if_neg e']
theorem As:∀{D:List (K × V)} {k:K} {v:V},cI D k=some v→(k,v)∈D
 | [],_,_,h=>by cases h
 | x::D,k,v,h=>by
  unfold cI at h;split at h
  · rename_i e;cases h;subst e;exact bq ..
  · exact bp _ (As h)
theorem oQ:∀{D:List (K × V)} {k:K},cI D k=none↔k∉D.map (·.1)
 | [],_=>by simp[cI]
 | x::D,k=>by
  unfold cI;split
  · rename_i e;simp[e]
  · rename_i e
    rw[oQ (D:=D)];simp only[bi,ao,not_or];exact⟨fun h=>⟨fun h'=>e h'.symm,h⟩,fun h=>h.2⟩
theorem uT:∀{D:List (K × V)} {k:K} {v:V},(D.map (·.1)).Nodup→(k,v)∈D→cI D k=some v
 | [],_,_,_,h=>by cases h
 | x::D,k,v,hn,h=>by
  have hn':=gd.1 hn;unfold cI;rcases ao.1 h with rfl | h
  · simp
  · rw[if_neg fun e=>hn'.1 (by show x.1∈_;rw[e];exact df.2 ⟨_,h,rfl⟩)]
    exact uT hn'.2 h
theorem wB:∀(D:List (K × V)) (k:K) (v:V),(fG D k v).map (·.1)=if k∈D.map (·.1) then D.map (·.1) else D.map (·.1)++[k]
 | [],k,v=>by simp[fG]
 | x::D,k,v=>by
  unfold fG;by_cases e:x.1=k
  · simp[e]
  · have e':¬k=x.1:=fun h=>e h.symm
    simp only[if_neg e,bi,wB D k v,ao,e',false_or];split <;> simp
theorem tP{D:List (K × V)}(h:(D.map (·.1)).Nodup)(k:K)(v:V):((fG D k v).map (·.1)).Nodup:=by
 rw[wB];split
 · exact h
 · rename_i hk
   exact jm.2 ⟨h,by simp,fun a ha b hb e=>by rw[bf.1 hb] at e;exact hk (e▸ha)⟩
theorem Tq:∀{D:List (K × V)} (k k':K),(D.map (·.1)).Nodup→cI (Aq D k) k'=if k=k' then none else cI D k'
 | [],k,k',_=>by simp[Aq,cI]
 | x::D,k,k',hn=>by
  have hn':=gd.1 hn;unfold Aq;by_cases e:x.1=k
  · rw[if_pos e]
    by_cases e':k=k'
    · rw[if_pos e']
      exact oQ.2 (by rw[←e',←e];exact hn'.1)
    · rw[if_neg e']
      simp[cI,e,e']
  · rw[if_neg e]
    unfold cI;rw[Tq k k' hn'.2];by_cases e':x.1=k'
    · rw[if_pos e',if_pos e',if_neg (fun h=>e (e'.trans h.symm))]
    · rw[if_neg e',if_neg e']
theorem Zy:∀(D:List (K × V)) (k:K),(Aq D k).Sublist D
 | [],_=>List.Sublist.refl _
 | x::D,k=>by
  unfold Aq;split
  · exact List.sublist_cons_self _ _
  · exact (Zy D k).cons_cons x
theorem abQ{D:List (K × V)}(h:(D.map (·.1)).Nodup)(k:K):((Aq D k).map (·.1)).Nodup:=h.sublist ((Zy D k).map _)
end
/-! ### A map's entries -/
def Sb(e:b_):ah × ah:=(e.key,e.val)
structure bL{K V:Type}(ek:K→ah)(ev:V→ah)(D:List (K × V))(es:Array b_)(c:Nat):Prop where
 cells:es.toList.map Sb=D.map fun x=>(ek x.1,ev x.2)
 born:∀e∈es.toList,e.born<c
 nd:(es.toList.map (·.born)).Nodup
theorem bL.nil{K V:Type}(ek:K→ah)(ev:V→ah):bL ek ev ([]:List (K × V)) #[] 0:=⟨rfl,fun _ h=>by simp at h,by simp⟩
structure rY{K:Type}[DecidableEq K](P:bh)(T:an)(ek:K→ah):Prop where
 chk:∀e k w,(Instr.checkKey e 10000 T (ek k)).run P w=.ok () w
 now:∃t,P.underlying T=some t∧∀a b,Instr.sameNow t (ek a) (ek b)=none∨Instr.sameNow t (ek a) (ek b)=some (decide (a=b))
 eq:∀a b w,(Op.equal T (ek a) (ek b)).run P w=.ok (decide (a=b)) w
 bits:∀a,Instr.sameBits 10000 (ek a) (ek a)=true
section
variable {K V:Type} [DecidableEq K] {P:bh} {T:an} {ek:K→ah} {ev:V→ah}
theorem Lf(kt:rY P T ek)(k:K)(w:aj):∀(L:List b_) (D:List (K × V)) (i:Nat),L.map Sb=D.map (fun x=>(ek x.1,ev x.2)) →
 (Instr.findAsking T (ek k) L i).run P w=.ok ((qD D k i).map fun p=>(p.1,ev p.2)) w
 | [],D,i,h=>by
  obtain rfl:D=[]:=by simpa using h.symm
  simp[Instr.findAsking,qD]
 | e::L,[],i,h=>by simp at h
 | e::L,x::D,i,h=>by
  simp only[bi,lf,Sb,fp] at h;obtain⟨⟨h1,h2⟩,h3⟩:=h;have ih:=Lf kt k w L D (i+1) h3;unfold Instr.findAsking qD;rw[h1,h2];simp only[Sem.run_bind,kt.eq,Result.andThen];by_cases e':x.1=k
  · rw[if_pos (decide_eq_true e'.symm),if_pos e']
    rfl
  · rw[if_neg (by rw[decide_eq_false (Ne.symm e')];exact Bool.false_ne_true),if_neg e']
    exact ih
theorem Zz(t:TypeDesc)(k:K)(hn:∀a b:K,Instr.sameNow t (ek a) (ek b)=none∨Instr.sameNow t (ek a) (ek b)=some (decide (a=b))):∀(L:List b_) (D:List (K × V)) (i:Nat),L.map Sb=D.map (fun x=>(ek x.1,ev x.2)) →
 Instr.findNow t (ek k) L i=none∨Instr.findNow t (ek k) L i=some ((qD D k i).map fun p=>(p.1,ev p.2))
 | [],D,i,h=>by
  obtain rfl:D=[]:=by simpa using h.symm
  simp[Instr.findNow,qD]
 | e::L,[],i,h=>by simp at h
 | e::L,x::D,i,h=>by
  simp only[bi,lf,Sb,fp] at h;obtain⟨⟨h1,h2⟩,h3⟩:=h;have ih:=Zz t k hn L D (i+1) h3;unfold Instr.findNow qD;rw[h1,h2];rcases hn k x.1 with e0 | e0
  · left;rw[e0]
  · rw[e0]
    by_cases e':x.1=k
    · right;simp[e']
    · rw[show decide (k=x.1)=false from decide_eq_false (Ne.symm e')]
      simpa[e'] using ih
theorem tQ(kt:rY P T ek)(k:K)(w:aj){es:Array b_}{D:List (K × V)}{c:Nat}(h:bL ek ev D es c):(Instr.findKey T (ek k) es.toList).run P w=.ok ((qD D k 0).map fun p=>(p.1,ev p.2)) w:=by
 obtain⟨t,ht,hn⟩:=kt.now;unfold Instr.findKey;simp only[Sem.run_bind,bx ht,Result.andThen];rcases Zz t k hn es.toList D 0 h.cells with e | e
 · rw[e]
   exact Lf kt k w es.toList D 0 h.cells
 · rw[e]
   rfl
end
section
variable {K V:Type} [DecidableEq K] {P:bh} {T M E ty:an} {ek:K→ah} {ev:V→ah} {w w0:aj} {g c:Nat} {es:Array b_} {D:List (K × V)}
theorem Lg{v0:V}(hu:P.underlying M=some (.map T E))(kt:rY P T ek)(hM:iX w g es c)(hD:bL ek ev D es c)(hz:nY P E (ev v0))(k:K)(b:Bool) :
 (Instr.lookup M (.map (some g)) (ek k) b).run P w=.ok (if b then .tuple #[ev ((cI D k).getD v0),.bool (cI D k).isSome] else ev ((cI D k).getD v0)) w:=by
 unfold iX at hM;obtain⟨inf,hi,hz⟩:=hz;have hzv:(zeroValue E).run P w=.ok (ev v0) w:=by simp[zeroValue,typeInfo,program,Sem.run,hi,hz]
 simp only[Instr.lookup,Sem.run_bind,bx hu,Result.andThen,getObj,Sem.run,hM,Sem.run_pure,kt.chk,tQ kt k w hD];cases hf:qD D k 0 with
 | none =>
  obtain⟨h1,_⟩:=qM D k 0 hf;rw[h1];simp only[ow,Sem.run_bind,hzv,Result.andThen,Sem.run_pure];cases b <;> rfl
 | some p =>
  obtain⟨j,v⟩:=p;obtain⟨_,_,_,h1,_⟩:=mO D k 0 j v hf;rw[h1];simp only[fa,Sem.run_pure,Result.andThen];cases b <;> rfl
theorem jM{g:Nat}{o o':Obj}(hM:w.heap[g]? = some o):(setBlock w g o').heap[g]? = some o':=by
 have:=(de.1 hM).1;simp[setBlock,this]
theorem pO{g:Nat}(o:Obj):Chg w (setBlock w g o) g:=⟨rfl,rfl,rfl,by simp[setBlock],fun k hk=>by simp[setBlock,h_ (Ne.symm hk)]⟩
theorem Oq{α β:Type}(f:α→β)(L:List α)(i:Nat)(x:α)(g:α→α)(hi:L[i]? = some x):(L.modify i g).map f=(L.map f).set i (f (g x)):=by
 apply fq;intro j;simp only[fj,List.getElem?_modify,iz,List.length_map];by_cases e:i=j
 · subst e
   rw[hi];have:=(aq.1 hi).1;simp[this]
 · simp[e]
theorem bL.set(hD:bL ek ev D es c){p:Nat}{k:K}{v:V}(hp:D[p]? = some (k,v))(u:V):bL ek ev (D.set p (k,u)) (es.modify p fun e=>{ e with key:=ek k,val:=ev u }) c:=by
 have hl:es.toList.length=D.length:=by have:=congrArg List.length hD.cells;simpa using this
 have hlt:p<es.toList.length:=by rw[hl];exact (aq.1 hp).1
 have hx:es.toList[p]? = some es.toList[p]:=am hlt;have hb:(es.modify p fun e=>{ e with key:=ek k,val:=ev u }).toList.map (·.born)=es.toList.map (·.born):=by
  rw[nt,Oq _ _ _ _ _ hx];apply fq;intro j;rw[iz];split
  · rename_i e;subst e;rw[if_pos (by simpa using hlt),fj,hx];rfl
  · rfl
 refine⟨?_,fun e he=>?_,by rw[hb];exact hD.nd⟩
 · rw[nt,Oq _ _ _ _ _ hx,hD.cells,List.map_set]
   rfl
 · have:e.born∈(es.modify p fun e=>{ e with key:=ek k,val:=ev u }).toList.map (·.born):=df.2 ⟨e,he,rfl⟩
   rw[hb] at this;obtain⟨e',he',hh⟩:=df.1 this;rw[←hh];exact hD.born e' he'
theorem bL.push(hD:bL ek ev D es c)(k:K)(u:V):bL ek ev (D++[(k,u)]) (es.push { key:=ek k,val:=ev u,born:=c }) (c+1):=by
 refine⟨by simp[hD.cells,Sb],fun e he=>?_,?_⟩
 · rw[mw] at he
   rcases bt.1 he with he | he
   · exact Nat.lt_succ_of_lt (hD.born e he)
   · rw[bf.1 he];exact Nat.lt_succ_self _
 · rw[mw,cl]
   refine jm.2 ⟨hD.nd,by simp,fun a ha b hb e=>?_⟩;obtain⟨e',he',rfl⟩:=df.1 ha;have:b=c:=by simpa using hb
   have:=hD.born e' he';omega
theorem bL.erase(hD:bL ek ev D es c)(p:Nat):bL ek ev (D.eraseIdx p) (es.eraseIdxIfInBounds p) c:=by
 have e:(es.eraseIdxIfInBounds p).toList=es.toList.eraseIdx p:=by
  by_cases h:p<es.size
  · simp[ke,h]
  · simp only[ke,h,dite_false]
    exact (List.eraseIdx_of_length_le (by simpa using gr h)).symm
 refine⟨?_,fun x hx=>hD.born x ?_,?_⟩
 · rw[e,map_eraseIdx,hD.cells,map_eraseIdx]
 · rw[e] at hx;exact List.mem_of_mem_eraseIdx hx
 · rw[e];exact hD.nd.sublist ((List.eraseIdx_sublist _ _).map _)
theorem aaa(hu:P.underlying M=some (.map T E))(kt:rY P T ek)(hM:iX w g es c)(hD:bL ek ev D es c)(k:K)(u:V) :
 ∃es' c',(Instr.mapUpdate M (.map (some g)) (ek k) (ev u)).run P w=.ok () (setBlock w g (.map es' c'))∧bL ek ev (fG D k u) es' c':=by
 unfold iX at hM;cases hf:qD D k 0 with
 | none =>
  obtain⟨_,h1,_⟩:=qM D k 0 hf;refine⟨_,_,?_,h1 u▸hD.push k u⟩;simp only[Instr.mapUpdate,Sem.run_bind,bx hu,Result.andThen,getObj,Sem.run,hM,Sem.run_pure,kt.chk,tQ kt k w hD,hf,ow];exact run_setObj_map _ hM
 | some p =>
  obtain⟨j,v⟩:=p;obtain⟨p,rfl,hp,_,h1,_⟩:=mO D k 0 j v hf;rw[ar] at hf;have hl:es.toList.length=D.length:=by have:=congrArg List.length hD.cells;simpa using this
  have hlt:p<es.toList.length:=by rw[hl];exact (aq.1 hp).1
  have hk:((es[p]?).map (·.key)).getD (ek k)=ek k:=by
   have h2:=congrArg (fun L=>L[p]?) hD.cells;simp only[fj,hp,fa] at h2;rw[ff] at h2;cases h3:es[p]? with
   | none=>rfl
   | some x =>
    rw[h3] at h2;simp only[fa,fx,Sb,fp] at h2;simpa using h2.1
  refine⟨_,_,?_,h1 u▸hD.set hp u⟩;simp only[Instr.mapUpdate,Sem.run_bind,bx hu,Result.andThen,getObj,Sem.run,hM,Sem.run_pure,kt.chk,tQ kt k w hD,hf,fa,hk,Instr.keyThatStays,kt.bits,if_true];exact run_setObj_map _ hM
/-! ### Ranges -/
def nQ(ek:K→ah)(ev:V→ah)(D:List (K × V))(es:Array b_)(seen:Array Nat)(dn rs:List (K × V)):Prop :=
 (dn++rs).Perm D∧∃dE rE:List b_,seen.toList=dE.map (·.born)∧(dE++rE).Perm es.toList∧dE.map Sb=dn.map (fun x=>(ek x.1,ev x.2))∧rE.map Sb=rs.map (fun x=>(ek x.1,ev x.2))
theorem nQ.start(hD:bL ek ev D es c):nQ ek ev D es #[] [] D:=⟨mx _,[],es.toList,rfl,mx _,rfl,hD.cells⟩
theorem nQ.done{seen:Array Nat}{dn:List (K × V)}(h:nQ ek ev D es seen dn []):dn.Perm D:=by simpa using h.1
def Nxt(ek:K→ah)(ev:V→ah)(D:List (K × V))(es:Array b_)(dn rs:List (K × V))(b:Bool)(kv vv:ah)(seen':Array Nat):Prop :=
 (b=false∧rs=[])∨(b=true∧∃k v rs',rs.Perm ((k,v)::rs')∧kv=ek k∧vv=ev v∧nQ ek ev D es seen' (dn++[(k,v)]) rs')
def Du(b:Bool)(k v:ah):ah:=.tuple (if b then #[.bool true,k,v] else #[.bool false])
theorem Tr{r s:Nat}{seen:Array Nat}{dn rs:List (K × V)}(hI:rG w r g c seen c)(hM:iX w g es c)(hD:bL ek ev D es c)(hT:nQ ek ev D es seen dn rs) :
 ∃b kv vv seen' w1,(w1=w∨w1=w.drew)∧(Instr.next (.pointer (some ⟨r,0,none⟩)) false ty).run P w=.ok (Du b kv vv) (setBlock w1 r (.mapIter (some g) c seen' c))∧Nxt ek ev D es dn rs b kv vv seen':=by
 obtain⟨hp,dE,rE,h1,h2,h3,h4⟩:=hT;have hnd:((dE++rE).map (·.born)).Nodup:=(h2.map (·.born)).nodup_iff.2 hD.nd;rw[cl,jm] at hnd;have hleft:∀e,e∈(leftOf es seen).toList↔e∈rE:=fun e=>by
  unfold leftOf;simp only[Array.toList_filter,List.mem_filter,Bool.not_eq_true',Array.contains_eq_mem,decide_eq_false_iff_not];rw[←Array.mem_toList_iff (xs:=seen),h1,←h2.mem_iff,bt];constructor
  · rintro⟨h | h,hn⟩
    · exact absurd (df.2 ⟨e,h,rfl⟩) hn
    · exact h
  · intro h
    exact⟨.inr h,fun hm=>hnd.2.2 _ hm _ (df.2 ⟨e,h,rfl⟩) rfl⟩
 rcases run_next_at (P:=P) w ty r g c c seen es c hI hM hD.born (av _) with ⟨h0,hr⟩ | ⟨e,he,w1,hw1,hr⟩
 · refine⟨false,default,default,seen,w,.inl rfl,?_,.inl ⟨rfl,?_⟩⟩
   · rw[hr]
     have:setBlock w r (.mapIter (some g) c seen c)=w:=by
      unfold setBlock;have hlt:=(de.1 hI).1;have:w.heap.setIfInBounds r (.mapIter (some g) c seen c)=w.heap:=by
       apply ju;intro i;rw[Array.getElem?_setIfInBounds];split
       · rename_i e;subst e;exact hI.symm
       · rfl
      rw[this]
     rw[this];rfl
   · cases rs with
     | nil=>rfl
     | cons x rs =>
      cases rE with
      | nil=>simp at h4
      | cons e rE =>
       have:=(hleft e).2 (bq ..);rw[Array.eq_empty_of_size_eq_zero h0] at this;simp at this
 · obtain⟨s,t,rfl⟩:=List.append_of_mem ((hleft e).1 he)
   rw[cl,bi] at h4;obtain⟨rs1,rs2,rfl,e1,e2⟩:=ld.1 h4.symm;obtain⟨x,rs3,rfl,e3,e4⟩:=lv.1 e2;obtain⟨k,v⟩:=x;simp only[Sb,fp] at e3;refine⟨true,e.key,e.val,seen.push e.born,w1,hw1,hr,.inr ⟨rfl,k,v,rs1++rs3,List.perm_middle,e3.1.symm,e3.2.symm,?_,dE++[e],s++t,?_,?_,?_,?_⟩⟩
   · refine ox ?_ hp
     simp only[dh,ci,cd];exact lj _ List.perm_middle.symm
   · simp[h1]
   · refine ox ?_ h2
     simp only[dh,ci,cd];exact lj _ List.perm_middle.symm
   · simp[h3,Sb,e3]
   · simp[e1,e4]
theorem abR{r:Nat}{seen:Array Nat}{dn rs:List (K × V)}{k:K}{v:V}(hI:rG w r g c seen c)(hM:iX w g es c)(hD:bL ek ev D es c)(hT:nQ ek ev D es seen (dn++[(k,v)]) rs) :
 (Instr.entry (.pointer (some ⟨r,0,none⟩))).run P w=.ok (.tuple #[ek k,ev v]) w:=by
 obtain⟨hp,dE,rE,h1,h2,h3,h4⟩:=hT;rw[cl,bi,List.map_nil] at h3;obtain⟨d1,d2,rfl,e1,e2⟩:=ld.1 h3;obtain⟨e,d3,rfl,e3,e4⟩:=lv.1 e2;obtain rfl:d3=[]:=by simpa using e4
 simp only[Sb,fp] at e3;have hs:seen=(d1.map (·.born)).toArray.push e.born:=by
  apply Array.toList_inj.1;rw[h1];simp
 have hm:e∈es.toList:=h2.mem_iff.1 (by simp);rw[hs] at hI;have:=run_entry_at (P:=P) w r g c _ es c e hI hM hm hD.nd;rw[this,e3.1,e3.2]
end
/-! ### Things in memory -/
def mI(g:Nat)(es:Array b_)(c:Nat):It where
 own b:=some g=some b
 P w:=iX w g es c
 lt w b h e:=by cases e;exact h.lt
 st w w' h _ k:=(k g rfl).trans h
def iI(r g c:Nat)(seen:Array Nat):It where
 own b:=some r=some b
 P w:=rG w r g c seen c
 lt w b h e:=by cases e;exact h.lt
 st w w' h _ k:=(k r rfl).trans h
theorem Mem.p{w0 w:aj}{is:List It}(m:Mem w0 w is)(k:Nat){g c:Nat}{es:Array b_}(hk:is[k]? = some (mI g es c)):iX w g es c:=m.get k hk
theorem Mem.r{w0 w:aj}{is:List It}(m:Mem w0 w is)(k:Nat){r g c:Nat}{seen:Array Nat}(hk:is[k]? = some (iI r g c seen)):rG w r g c seen c:=m.get k hk
section
variable {K V:Type} [DecidableEq K] {P:bh} {T M E ty:an} {ek:K→ah} {ev:V→ah} {w w0:aj} {g c:Nat} {es:Array b_} {D:List (K × V)} {is:List It}
variable {ds:List cn} {l:List ah} {x y z:bg} {ops:Array Oper} {Q:Exit→Act→aj→Prop} {rest:List Oper} {d:Nat} {pos:String} {after:Array Edge}
theorem lO(m:Mem w0 w is)(h:∀g u,Mem w0 u (mI g #[] 0::is)→au P ops Q rest (Fr (l.set d (.map (some g))) ds) u):au P ops Q (bn (some d) (.makeMap M none) ty pos after none::rest) (Fr l ds) w :=
 aeM fun u g e hg hM=>h g u (m.new (i:=mI g #[] 0) e hM fun b h=>by cases h;exact hg)
theorem vJ(m:Mem w0 w is)(hu:P.underlying M=some (.map T E))(hx:Go.Lith.ev l x=.map (some g))(hM:iX w g es c)(h:∀r u,Mem w0 u (iI r g c #[]::is)→au P ops Q rest (Fr (l.set d (.pointer (some ⟨r,0,none⟩))) ds) u) :
 au P ops Q (bn (some d) (.range M x) ty pos after none::rest) (Fr l ds) w :=
 adD hu hx hM fun u r e hr hI=>h r u (m.new (i:=iI r g c #[]) e hI fun b h=>by cases h;exact hr)
end
section
variable {K V:Type} [DecidableEq K] {P:bh} {T M E ty:an} {ek:K→ah} {en:V→ah} {w w0:aj} {g c:Nat} {es:Array b_} {D:List (K × V)} {is:List It}
variable {ds:List cn} {l:List ah} {x y z:bg} {ops:Array Oper} {Q:Exit→Act→aj→Prop} {rest:List Oper} {d:Nat} {pos:String} {after:Array Edge}
theorem dZ{v0:V}{k:K}(hu:P.underlying M=some (.map T E))(hz:nY P E (en v0))(kt:rY P T ek)(hx:ev l x=.map (some g))(hy:ev l y=ek k)(hM:iX w g es c)(hD:bL ek en D es c):yR P l (.lookup M x y false) ty (en ((cI D k).getD v0)) w:=fun o ho _=>by
 have:=Lg hu kt hM hD hz k false;simp only[mi,if_false] at this;simp[cw,ho,cJ,hx,hy,this]
theorem Ts{v0:V}{k:K}(hu:P.underlying M=some (.map T E))(hz:nY P E (en v0))(kt:rY P T ek)(hx:ev l x=.map (some g))(hy:ev l y=ek k)(hM:iX w g es c)(hD:bL ek en D es c):yR P l (.lookup M x y true) ty (.tuple #[en ((cI D k).getD v0),.bool (cI D k).isSome]) w:=fun o ho _=>by
 have:=Lg hu kt hM hD hz k true;simp only[if_true] at this;simp[cw,ho,cJ,hx,hy,this]
theorem mY{v:V}{a:K}(m:Mem w0 w is)(k:Nat)(hk:is[k]? = some (mI g es c))(hu:P.underlying M=some (.map T E))(kt:rY P T ek)(hx:ev l x=.map (some g))(hy:ev l y=ek a)(hz:ev l z=en v)(hD:bL ek en D es c)
 (h:∀es' c' u,Mem w0 u (is.set k (mI g es' c'))→bL ek en (fG D a v) es' c'→au P ops Q rest (Fr l ds) u):au P ops Q (bn none (.mapUpdate M x y z) ty pos after none::rest) (Fr l ds) w:=by
 have hM:=m.p k hk;obtain⟨es',c',hr,hD'⟩:=aaa hu kt hM hD a v;have hC:=pO (w:=w) (g:=g) (.map es' c');refine Fu (w':=setBlock w g (.map es' c')) (fun o ho=>by simp[cw,ho,cJ,hx,hy,hz,hr]) (h es' c' _ ?_ hD');exact m.put k hk hC.os hC.tape hC.output (by rw[hC.size];exact av _) (fun b _ hne=>hC.block b fun e=>hne (by rw[e];rfl)) (jM hM) (.inl fun _ h=>h)
theorem Lh{r:Nat}{seen:Array Nat}{dn rs:List (K × V)}(m:Mem w0 w is)(k:Nat)(hk:is[k]? = some (iI r g c seen))(hx:ev l x=.pointer (some ⟨r,0,none⟩))(hM:iX w g es c)(hD:bL ek en D es c)(hT:nQ ek en D es seen dn rs)
 (h:∀b kv vv seen' u,Mem w0 u (is.set k (iI r g c seen'))→Nxt ek en D es dn rs b kv vv seen'→au P ops Q rest (Fr (l.set d (Du b kv vv)) ds) u) :
 au P ops Q (bn (some d) (.next x false) ty pos after none::rest) (Fr l ds) w:=by
 have hI:=m.r k hk;obtain⟨b,kv,vv,seen',w1,hw1,hr,hN⟩:=Tr (P:=P) (ty:=ty) (s:=0) hI hM hD hT;refine lY (w':=setBlock w1 r (.mapIter (some g) c seen' c)) (v:=Du b kv vv) (fun o ho hty=>by simp[cw,ho,cJ,hx,hty,hr]) (h b kv vv seen' _ ?_ hN);have e1:w1.heap=w.heap∧w1.os=w.os∧w1.tape=w.tape∧w1.output=w.output:=by rcases hw1 with rfl | rfl <;> exact⟨rfl,rfl,rfl,rfl⟩
 refine m.put k hk e1.2.1 e1.2.2.1 e1.2.2.2 (by simp[setBlock,e1.1]) (fun b' _ hne=>?_) ?_ (.inl fun _ h=>h)
 · have:b'≠r:=fun e=>hne (by rw[e];rfl)
   simp only[setBlock,e1.1];exact h_ (Ne.symm this)
 · exact jM (w:=w1) (o:=.mapIter (some g) c seen c) (by rw[e1.1];exact hI)
theorem pP{b:Bool}{kv vv:ah}(hx:ev l x=Du b kv vv):iG P l (.extract x 0) ty (.bool b):=fun w o ho _=>by
 cases b <;> simp[cw,ho,cJ,hx,Du,Instr.extract]
theorem sT{r:Nat}{seen:Array Nat}{dn rs:List (K × V)}{k:K}{v:V}(hx:ev l x=.pointer (some ⟨r,0,none⟩))(hI:rG w r g c seen c)(hM:iX w g es c)(hD:bL ek en D es c)(hT:nQ ek en D es seen (dn++[(k,v)]) rs) :
 yR P l (.entry x) ty (.tuple #[ek k,en v]) w:=fun o ho _=>by
 have:=abR (P:=P) hI hM hD hT;simp[cw,ho,cJ,hx,this]
theorem lZ{f:FuncId}{fo:bg}{xs:Array bg}{args:List ah}{first cap:Array ah}{a0:Array an}{R:ah→It→Prop}(m:Mem w0 w is)(k:Nat)(hE:Entr P f)(hf:ev l fo=.func (.func f) first cap)(hxs:first.toList++xs.toList.map (ev l)++cap.toList=args)
 (hc:Mem w0 w is→Calls P f args.toArray w fun e w'=>∃v i,e=.returned v∧Mem w0 w' (is.set k i)∧R v i) (h:∀v i u,Mem w0 u (is.set k i)→R v i→au P ops Q rest (Fr (l.set d v) ds) u) :
 au P ops Q (bn (some d) (.call { callee:=.value fo,args:=xs,argTypes:=a0 }) ty pos after none::rest) (Fr l ds) w:=by
 refine wpList_plain rfl fun K hK=>?_;unfold Oper.wp;rw[jV,oY hE hf hxs _ rfl];refine (hc m).mono ?_;rintro e w' ⟨v,i,rfl,hM,hR⟩;show K ((Fr l ds).put (some d) v) w'
 rw[iB];exact hK _ _ (h v i w' hM hR)
end
theorem cN{P:bh}{Q:Exit→Act→aj→Prop}{l:List ah}{ds:List cn}{c1 c2:Code}{w:aj}{x:bg}{b:Bool}(hx:ev l x=.bool b)(ht:b=true→c1.wp P Q (Fr l ds) w)(hf:b=false→c2.wp P Q (Fr l ds) w):(Code.cond x c1 c2).wp P Q (Fr l ds) w:=jZ hx ht hf
theorem Ot{α:Type}{is:List α}{k:Nat}{i:α}(h:is[k]? = some i):is.set k i=is:=by
 apply fq;intro j;rw[iz];split
 · rename_i e;subst e
   have:=(aq.1 h).1;rw[if_pos this,h]
 · rfl
theorem Jl{K V:Type}[DecidableEq K]:∀{D:List (K × V)} {k:K} {v:V},cI D k=some v→fG D k v=D
 | [],_,_,h=>by cases h
 | x::D,k,v,h=>by
  unfold cI at h;unfold fG;split at h
  · rename_i e;cases h;subst e;rw[if_pos rfl]
  · rename_i e;rw[if_neg e,Jl h]
/-! ### Keys -/
def vR(P:bh)(e:Bool)(d:Nat)(T:an)(x:ah):Prop:=∀w,(Instr.checkKey e d T x).run P w=.ok () w
section
variable {P:bh} {e:Bool} {d:Nat} {T E:an}
theorem rZ{β:Type}{w:aj}(g:β→PUnit→Sem (ForInStep PUnit)):∀(L:List β),(∀x∈L,(g x ⟨⟩).run P w=.ok (.yield ⟨⟩) w)→(forIn L PUnit.unit g:Sem PUnit).run P w=.ok ⟨⟩ w
 | [],_=>by simp
 | x::L,h=>by
  simp only[List.forIn_cons,Sem.run_bind,h x (bq ..),Result.andThen_ok];exact rZ g L fun y hy=>h y (bp _ hy)
theorem vR.int{k k':IntKind}{n:Int}(hu:P.underlying T=some (.int k')):vR P e (d+1) T (.int k n):=fun w=>by
 unfold Instr.checkKey;simp[bx hu]
theorem vR.struct{fs:Array Field}{cs:Array ah}(hu:P.underlying T=some (.struct fs))(h:∀f∈fs.toList,∃v,(∀w,(part f.type cs f.offset).run P w=.ok v w)∧vR P e d f.type v):vR P e (d+1) T (.agg cs):=fun w=>by
 unfold Instr.checkKey;simp only[Sem.run_bind,bx hu,Result.andThen_ok];rw[←Array.forIn_toList];refine (congrArg (fun r=>Result.andThen r _) (rZ _ fs.toList fun f hf=>?_)).trans (by rfl);obtain⟨v,h1,h2⟩:=h f hf;by_cases hn:f.name = "_"
 · simp[hn]
 · simp[hn,h1 w,h2 w]
theorem vR.array{n c:Nat}{cs:Array ah}(hu:P.underlying T=some (.array n E))(hc:dP P E c)(h:∀i,i<n→∃v,(∀w,(part E cs (i*c)).run P w=.ok v w)∧vR P e d E v):vR P e (d+1) T (.agg cs):=fun w=>by
 unfold Instr.checkKey;simp only[Sem.run_bind,bx hu,Result.andThen_ok];simp only[Std.Legacy.Range.forIn_eq_forIn_range',Std.Legacy.Range.size,Nat.sub_zero,Nat.add_one_sub_one,Nat.div_one];refine (congrArg (fun r=>Result.andThen r _) (rZ _ (List.range' 0 n) fun i hi=>?_)).trans (by rfl);obtain⟨v,h1,h2⟩:=h i (by simpa using hi);simp[eH hc,h1 w,h2 w]
theorem rY.agg{K:Type}[DecidableEq K]{ek:K→ah}{cs:K→Array ah}(ha:∀k,ek k=.agg (cs k)){t:TypeDesc}(ht:P.underlying T=some t)(hc:∀e k,vR P e 10000 T (ek k))(he:∀a b,sO P 10000 T (ek a) (ek b) (a=b))(hb:∀a,Instr.sameBits 10000 (ek a) (ek a)=true):rY P T ek where
 chk e k w:=hc e k w
 now:=⟨t,ht,fun a b=>.inl (by rw[ha,ha];cases t <;> rfl)⟩
 eq a b w:=wY (he a b) w
 bits:=hb
end
end Go.Lith
namespace Go.Lith
open Go.RowKit Go.Proofs Go.Sort Go.Shelf
theorem agY{α:Type}{enc:α→List ah}{k:Nat}(hk:∀x,(enc x).length=k)(h0:0<k):∀(L:List α) (t:Nat),(L.flatMap enc)[t]? = (L[t / k]?).bind fun x=>(enc x)[t%k]?
 | [],t=>by simp
 | x::L,t=>by
  rw[dx,List.getElem?_append];by_cases h:t<k
  · rw[if_pos (by rw[hk];exact h),Nat.div_eq_of_lt h,Nat.mod_eq_of_lt h]
    rfl
  · rw[if_neg (by rw[hk];exact h),hk,agY hk h0 L (t-k)]
    have e1:t / k=(t-k) / k+1:=by rw[Nat.div_eq t k,if_pos ⟨h0,gr h⟩]
    have e2:t%k=(t-k)%k:=Nat.mod_eq_sub_mod (gr h);rw[e1,e2,gi]
theorem xL{α:Type}[Inhabited α]{enc:α→List ah}{k:Nat}(hk:∀x,(enc x).length=k)(h0:0<k)(L:List α):(flatK enc k L.toArray).toList=L.flatMap enc:=by
 have hlen:(L.flatMap enc).length=L.length*k:=by
  induction L with
  | nil=>simp
  | cons x L ih=>rw[dx,aw,ih,hk,ay,jk];omega
 apply fq;intro t;by_cases ht:t<L.length*k
 · have hd:t / k<L.length:=by
    rw[Nat.div_lt_iff_lt_mul h0];exact ht
   have hm:t%k<k:=kd _ h0;have h1:=get_flatK enc k L.toArray t (by simpa using ht);rw[getElem!_pos _ t (by simpa using ht)] at h1;rw[agY hk h0,am hd,gu,ff,fw (by simpa using ht),h1,am (show t%k<(enc L[t / k]).length by rw[hk];exact hm)]
   congr 1
   rw[getElem!_pos L.toArray _ (by simpa using hd),List.getElem_toArray,getElem!_pos _ _ (by rw[hk];exact hm)]
 · rw[bv (by simpa using gr ht),bv (by rw[hlen];exact gr ht)]
section
variable {α:Type} [Inhabited α] {P:bh} {ρ:Ren} {enc:α→List ah} {c:Nat} {E:an} {w w0:aj} {is:List It} {A:Option Addr} {n cap:Nat}
theorem aeN{g:Nat}{xs:List α}{cur:Array ah}(hk:∀x,(enc x).length=c)(h0:0<c)(hg:w.heap[g]? = some (.cells cur E (0,0)))(h:cur.toList.take (xs.length*c)=xs.flatMap enc):HoldsK enc c w g 0 xs.toArray:=by
 intro j hj;have hl:=xL hk h0 xs;have hj':j<xs.length*c:=by simpa using hj
 have e:(flatK enc c xs.toArray)[j]? = cur[j]?:=by
  rw[←ff,hl,←h,eh,if_pos hj',ff]
 rw[fw hj] at e;refine⟨?_,?_⟩
 · simp only[World.cell?,hg,ar,Option.isSome_none,mi,if_false]
   rw[←e,getElem!_pos _ j hj];rfl
 · simp[World.frozen?,hg]
theorem Sc{g:Nat}{xs ys:List α}{cur:Array ah}{q:Nat}{os:Array Obj}(hk:∀x,(enc x).length=c)(h0:0<c)(hg:w.heap[g]? = some (.cells cur E (0,0)))(hl:xs.length*c≤cur.size)(hlen:ys.length=xs.length) :
 ∃cur':Array ah,(sortWorldK enc c w g 0 q ys.toArray os).heap[g]? = some (.cells cur' E (0,0))∧cur'.size=cur.size∧cur'.toList.take (xs.length*c)=ys.flatMap enc:=by
 have hlt:g<w.heap.size:=(de.1 hg).1;refine⟨putCells id 0 (flatK enc c ys.toArray) cur,?_,by simp[putCells],?_⟩
 · unfold sortWorldK putRowK putRow mapBlock grow
   simp only;rw[Array.getElem?_append_left (by simpa[ahead] using hlt),jg];simp[ahead,hg,onCells]
 · have hf:=xL hk h0 ys
   apply fq;intro t;rw[eh,←hf,ff,ff];have hs:(flatK enc c ys.toArray).size=xs.length*c:=by simp[hlen]
   split
   · rename_i ht
     have:t<cur.size:=fm ht hl;simp only[putCells,Array.getElem?_mapIdx,fw this,fa,br,ar,true_and,Nat.sub_zero,hs,ht,if_true];rw[fw (by rw[hs];exact ht),getElem!_pos _ t (by rw[hs];exact ht)];rfl
   · rename_i ht
     rw[lc (by rw[hs];exact gr ht)]
theorem Au(L:SlLaysF0.n6 P ρ)(aE:∀w,(isAgg (ρ.t 24)).run P w=.ok true w)(zE:∀w,(Go.sizeOf (ρ.t 24)).run P w=.ok c w)(hk:∀x,(enc x).length=c)(h0:0<c)(h1:∀x,∀v∈enc x,v.oneCell'=true)
 (cf:α→α→Int) (hO:SWO (ltOf cf)) {f:FuncId} (hcmp:∀x y,sE P f [.agg (enc x).toArray,.agg (enc y).toArray] (.int .i64 (cf x y))) {xs:List α} (m:Mem w0 w is) (k:Nat) (hi:is[k]? = some (oI E c A n cap (xs.flatMap enc))) (hsz:n<4611686018427387904) :
 Calls P (ρ.f 6) #[.slice A n cap,.func (.func f) #[] #[]] w fun e w'=>∃v i,e=.returned v∧Mem w0 w' (is.set k i)∧(v=.tuple #[]∧∃ys:List α,i=oI E c A n cap (ys.flatMap enc)∧ys.Perm xs∧ys.Pairwise fun a b=>ltOf cf b a=false):=by
 have h:w.ownsRow 0 E c (.slice A n cap) n (xs.flatMap enc):=m.get k hi;have hlen:(xs.flatMap enc).length=xs.length*c:=by
  have:=xL hk h0 xs;rw[←this];simp
 have hn:xs.length=n:=by
  have:=h.1;rw[hlen] at this;exact Nat.eq_of_mul_eq_mul_right h0 this
 have hge:=fun b hb=>m.ge _ (bj hi) b hb;rcases nP h with ⟨rfl,rfl,rfl,hx⟩ | ⟨g,cur,rfl,_,hg,hcap,hmax,hcur,htake⟩
 · refine (AnyF.slices_SortFunc_none L none 0 _ w).mono ?_
   rintro e w' ⟨rfl,rfl⟩;obtain rfl:xs=[]:=ej hn;refine⟨_,oI E c none 0 0 [],rfl,?_,rfl,[],rfl,mx _,.nil⟩;have:is.set k (oI E c none 0 0 [])=is:=by
    apply fq;intro j;rw[iz];split
    · rename_i e;subst e
      have:=(aq.1 hi).1;rw[if_pos this,hi];rfl
    · rfl
   rw[this];exact m
 · have hlt:g<w.heap.size:=(de.1 hg).1
   rw[←hn] at htake;have hH:=aeN (xs:=xs) hk h0 hg htake;have hx:=AnyQ.slices_SortFunc L c aE zE enc hk h1 cf hO f #[] g 0 cap xs.toArray w (fun args w'=>sL (hcmp default default w').1) (fun mm os dk _ x y=>by
    have:=((hcmp x y (sortWorldK enc c w g 0 mm dk os)).2.mono fun e w' h=>(show e=.returned (.int .i64 (cf x y))∧∃q os',w'=grow ((sortWorldK enc c w g 0 mm dk os).drewN q) os' from by obtain⟨u,rfl,hX,rfl⟩:=h;exact⟨rfl,hX.grow⟩))
    simpa using this) hH hlt (by simpa[hn] using hsz)
   have es:xs.toArray.size=n:=by simpa using hn
   rw[es] at hx;refine hx.mono ?_;rintro e w' ⟨rfl,d',q,os,hp,hs,rfl⟩;have hd:d'.size=n:=by rw[hp.1];exact es
   obtain⟨ys,rfl⟩:∃ys:List α,d'=ys.toArray:=⟨d'.toList,by simp⟩
   have hyl:ys.length=n:=by simpa using hd
   have hcs:xs.length*c≤cur.size:=by rw[hn,hcur];exact nl _ hcap
   obtain⟨cur',e1,e2,e3⟩:=Sc (q:=q) (os:=os) (ys:=ys) hk h0 hg hcs (by rw[hyl,hn]);refine⟨_,oI E c (some ⟨g,0,none⟩) n cap (ys.flatMap enc),rfl,?_,rfl,ys,rfl,?_,?_⟩
   · refine m.put k hi rfl rfl rfl ?_ (fun b hb hne=>?_) ?_ (.inl fun _ h=>h)
     · simp[sortWorldK,putRowK,putRow,mapBlock,grow,ahead]
     · have hbg:g≠b:=fun e=>hne (by rw[e];rfl)
       unfold sortWorldK putRowK putRow mapBlock grow;simp only;rw[Array.getElem?_append_left (by simpa[ahead] using hb),jg,if_neg hbg];rfl
     · refine⟨?_,.inr ⟨g,cap,cur',rfl,br _,e1,hcap,hmax,by rw[e2,hcur],?_⟩⟩
       · have:=xL hk h0 ys
         rw[←this];simp[hyl]
       · rw[←hn];exact e3
   · have:=hp.2.2
     simpa[hyl,hn,a_ (Nat.le_of_eq hyl),a_ (Nat.le_of_eq hn),List.extract_eq_take_drop] using this
   · rw[gn]
     intro i j hi' hj' hij;have:=hs i j (br _) hij (by rw[←hyl];exact hj');rw[getElem!_pos _ i (by simpa using hi'),getElem!_pos _ j (by simpa using hj')] at this;simpa using this
end
end Go.Lith
namespace Go.Lith
open Go.RowKit Go.Sort
instance:Inhabited P3:=⟨⟨0,0,0⟩⟩
def bN(p:P3):List ah:=[.int .i64 p.x,.int .i64 p.y,.int .i64 p.z]
theorem Li(p:P3):∀v∈bN p,v.oneCell'=true:=fun v h=>by
 simp only[bN,ao,bz,or_false] at h;rcases h with rfl | rfl | rfl <;> rfl
theorem lP(p q:P3):(pZ p q<0)↔p.Lt q:=by
 unfold pZ;split
 · simp[*]
 · split <;> simp[*]
theorem aab:SWO (Go.Proofs.ltOf pZ) where
 irrefl x:=by simp[Go.Proofs.ltOf,lP,P3.lt_irrefl]
 trans x y z h1 h2:=by
  simp only[Go.Proofs.ltOf,decide_eq_true_eq,lP] at *
  exact P3.lt_trans h1 h2
 ntrans x y z h1 h2:=by
  simp only[Go.Proofs.ltOf,decide_eq_false_iff_not,lP] at *
  unfold P3.Lt at *
  omega
theorem nQ.len{K V:Type}[DecidableEq K]{ek:K→ah}{en:V→ah}{D dn rs:List (K × V)}{es:Array b_}{seen:Array Nat}(h:nQ ek en D es seen dn rs):dn.length+rs.length=D.length:=by
 have:=h.1.length_eq;simpa using this
theorem Gr{K V:Type}[DecidableEq K]{ek:K→ah}{en:V→ah}{D dn rs:List (K × V)}{es:Array b_}{b:Bool}{kv vv:ah}{sn:Array Nat}(hb:b=false)(h:Nxt ek en D es dn rs b kv vv sn):rs=[]:=by
 rcases h with ⟨_,h⟩ | ⟨h,_⟩
 · exact h
 · rw[h] at hb;cases hb
theorem Gs{K V:Type}[DecidableEq K]{ek:K→ah}{en:V→ah}{D dn rs:List (K × V)}{es:Array b_}{b:Bool}{kv vv:ah}{sn:Array Nat}(hb:b=true)(h:Nxt ek en D es dn rs b kv vv sn) :
 ∃k v rs',rs.Perm ((k,v)::rs')∧nQ ek en D es sn (dn++[(k,v)]) rs':=by
 rcases h with ⟨h,_⟩ | ⟨_,k,v,rs',h1,_,_,h2⟩
 · rw[h] at hb;cases hb
 · exact⟨k,v,rs',h1,h2⟩
def Av(D:List (P3 × Bool))(ps:List P3):List (P3 × Bool):=ps.foldl (fun D p=>fG D p true) D
theorem aac{K V:Type}[DecidableEq K](D:List (K × V))(k a:K)(v:V):a∈(fG D k v).map (·.1)↔a∈D.map (·.1)∨a=k:=by
 rw[wB];split
 · exact⟨.inl,fun h=>h.elim id (fun e=>e▸‹_›)⟩
 · simp
theorem Tt:∀(ps:List P3) (D:List (P3 × Bool)) (a:P3),a∈(Av D ps).map (·.1)↔a∈D.map (·.1)∨a∈ps
 | [],D,a=>by simp[Av]
 | p::ps,D,a=>by
  have:=Tt ps (fG D p true) a;unfold Av at this ⊢;rw[iv,this,aac,ao,or_assoc]
theorem Lj:∀(ps:List P3) (D:List (P3 × Bool)),(D.map (·.1)).Nodup→((Av D ps).map (·.1)).Nodup
 | [],_,h=>h
 | p::ps,D,h=>Lj ps (fG D p true) (tP h p true)
theorem uU{K V:Type}[DecidableEq K]:∀(D:List (K × V)) (k:K) (v:V),(fG D k v).length≤D.length+1
 | [],_,_=>by simp[fG]
 | x::D,k,v=>by
  unfold fG;split
  · simp
  · simp only[ay]
    exact Nat.succ_le_succ (uU D k v)
theorem Gu:∀(ps:List P3) (D:List (P3 × Bool)),(Av D ps).length≤D.length+ps.length
 | [],D=>av _
 | p::ps,D=>az (Gu ps (fG D p true)) (by
  have:=uU D p true;simp only[ay];omega)
theorem aeO(D:List (P3 × Bool))(ps qs:List P3):Av D (ps++qs)=Av (Av D ps) qs:=g_ ..
def dK(ts:List T3):List P3:=ts.flatMap fun t=>[t.a,t.b,t.c]
def tR(ps:List P3):Prop:=ps.Pairwise fun a b=>a.Lt b
theorem aeP{ps:List P3}(hn:ps.Nodup)(h:ps.Pairwise fun a b=>¬b.Lt a):tR ps:=by
 have:=hn.and h;exact this.imp fun {a b} h=>(P3.lt_tri a b).resolve_right (by rintro (e | e);exact h.1 e;exact h.2 e)
end Go.Lith
namespace Go.Lith
open Go.RowKit
theorem aoX{α:Type}{is:List α}{k:Nat}{i:α}(h:is[k]? = some i):is.set k i=is:=by
 apply fq;intro j;rw[iz];split
 · rename_i e
   subst e;rw[if_pos (aq.1 h).1,h]
 · rfl
theorem Jm{α:Type}:∀(l:List α) (j:Nat) (x:α),l[j]? = some x→(x::l.eraseIdx j).Perm l
 | [],j,x,h=>by cases h
 | y::l,0,x,h=>by cases h;exact .refl _
 | y::l,j+1,x,h=>((List.Perm.swap y x _)).trans ((Jm l j x h).cons y)
theorem Mem.pull{w0 w:aj}{is:List It}(m:Mem w0 w is)(j:Nat){x:It}(hj:is[j]? = some x):Mem w0 w (x::is.eraseIdx j):=by
 have hp:=Jm is j x hj;exact⟨m.ext,fun i hi=>m.all i (hp.mem_iff.1 hi),fun i hi=>m.ge i (hp.mem_iff.1 hi),(hp.pairwise_iff (fun {a b} (h:Ap a b)=>h.symm)).2 m.nd⟩
theorem Mem.mv{w0 w:aj}{is:List It}{y:It}(m:Mem w0 w (y::is))(k:Nat){x:It}(hk:is[k]? = some x):Mem w0 w (is.set k y):=by
 obtain⟨h1,h2⟩:=bm.1 m.nd;have hm:∀i∈is.set k y,i∈y::is:=fun i hi=>(jx hi).elim (bp _) (fun e=>e▸bq);exact⟨m.ext,fun i hi=>m.all i (hm i hi),fun i hi=>m.ge i (hm i hi),abK is k h2 hk fun x hx _=>h1 x hx⟩
theorem dS{α:Type}{a:α}{l:List α}:(a::l).eraseIdx 0=l:=rfl
theorem dT{α:Type}{a:α}{l:List α}{n:Nat}:(a::l).eraseIdx (n+1)=a::l.eraseIdx n:=rfl
def SL(E:an)(c:Nat)(cs:List ah)(n:Nat)(w:aj)(v:ah)(w':aj):Prop:=∃A cap n',n'=n∧v=.slice A n' cap∧Ow w w' [] E c A n' cap cs
/-! ### Points put into a sorted list -/
def aad(ps:List P3)(p:P3):Nat:=(ps.takeWhile fun x=>decide (x.Lt p)).length
def iA(ps:List P3)(p:P3):List P3:=if ps[aad ps p]? = some p then ps else ps.take (aad ps p)++[p]++ps.drop (aad ps p)
def dO(ts:List T3):List P3:=ts.foldl (fun ps t=>iA (iA (iA ps t.a) t.b) t.c) []
theorem Gv{ts:List T3}{k:Nat}{t:T3}(h:ts[k]? = some t):dO (ts.take (k+1))=iA (iA (iA (dO (ts.take k)) t.a) t.b) t.c:=by
 unfold dO;rw[bX h,g_];rfl
theorem wD(ps:List P3)(p:P3):(iA ps p).length≤ps.length+1:=by
 unfold iA;split
 · omega
 · simp;omega
theorem Lk(ts:List T3):(dO ts).length≤ts.length*3:=by
 have:∀(ts:List T3) (ps:List P3),(ts.foldl (fun ps t=>iA (iA (iA ps t.a) t.b) t.c) ps).length≤ps.length+ts.length*3:=by
  intro ts
  induction ts with
  | nil=>intro ps;simp
  | cons t ts ih =>
   intro ps;have h1:=ih (iA (iA (iA ps t.a) t.b) t.c);have h2:=wD ps t.a;have h3:=wD (iA ps t.a) t.b;have h4:=wD (iA (iA ps t.a) t.b) t.c;rw[iv,ay];omega
 have:=this ts [];simpa[dO] using this
section
variable {α:Type} {p:α→Bool} {l:List α} {k:Nat}
theorem alQ(h:∀j x,j<k→l[j]? = some x→p x=true)(hk:k≤l.length):k≤(l.takeWhile p).length:=by
 induction l generalizing k with
 | nil=>simp at hk;omega
 | cons x l ih =>
  cases k with
  | zero=>omega
  | succ k =>
   have hx:=h 0 x (by omega) rfl;rw[kh,if_pos hx,ay];have:=ih (k:=k) (fun j y hj hy=>h (j+1) y (by omega) (by simpa using hy)) (by simp at hk;omega);omega
theorem arS{x:α}(hx:l[k]? = some x)(h:p x=false):(l.takeWhile p).length≤k:=by
 induction l generalizing k with
 | nil=>cases hx
 | cons y l ih =>
  rw[kh];split
  · cases k with
    | zero =>
     rename_i hy;cases hx;rw[h] at hy;cases hy
    | succ k =>
     rw[ay];have:=ih (k:=k) (by simpa using hx);omega
  · simp
theorem aoY:(l.takeWhile p).length≤l.length:=(List.takeWhile_sublist p).length_le
theorem alR{x:α}(h:∀j x,j<k→l[j]? = some x→p x=true)(hx:l[k]? = some x)(h2:p x=false):(l.takeWhile p).length=k:=oy (arS hx h2) (alQ h (Nat.le_of_lt (aq.1 hx).1))
theorem agZ(h:∀j x,j<l.length→l[j]? = some x→p x=true):(l.takeWhile p).length=l.length:=oy aoY (alQ h (av _))
def Pre(p:α→Bool)(l:List α)(k:Nat):Prop:=∀j x,j<k→l[j]? = some x→p x=true
theorem Pre.zero:Pre p l 0:=fun j _ hj=>by omega
theorem Pre.step{x:α}(h:Pre p l k)(hx:l[k]? = some x)(hp:p x=true):Pre p l (k+1):=fun j y hj hy=>by
 rcases Nat.lt_or_ge j k with h1 | h1
 · exact h j y h1 hy
 · obtain rfl:j=k:=by omega
   rw[hx] at hy;cases hy;exact hp
end
/-! ### The border -/
def ltE(a b:E3):Bool:=if a.1≠b.1 then decide (a.1.Lt b.1) else decide (a.2.Lt b.2)
def aeQ(es:List E3)(e:E3):Nat:=(es.takeWhile fun x=>ltE x e).length
def abS(es:List E3)(e:E3):List E3:=es.take (aeQ es e)++[e]++es.drop (aeQ es e)
def pQ(all:List E3)(out:List E3)(e:E3):List E3:=if 0<lL all (e.2,e.1)∨0<lL out e then out else abS out e
def bF(ts:List T3):List E3:=(aZ ts).foldl (pQ (aZ ts)) []
theorem aeR{all es:List E3}{k:Nat}{e:E3}(h:es[k]? = some e):(es.take (k+1)).foldl (pQ all) []=pQ all ((es.take k).foldl (pQ all) []) e:=by
 rw[bX h,g_];rfl
theorem Gw{all:List E3}:∀(es out:List E3),(es.foldl (pQ all) out).length≤out.length+es.length
 | [],out=>by simp
 | e::es,out=>by
  have h1:=Gw (all:=all) es (pQ all out e);have h2:(pQ all out e).length≤out.length+1:=by
   unfold pQ abS;split
   · omega
   · simp;omega
  rw[iv,ay];omega
/-! ### Pinched corners -/
def T3.fnd(t:T3)(p q:P3):Option P3:=if t.a=p∧t.b=q then some t.c else if t.b=p∧t.c=q then some t.a else if t.c=p∧t.a=q then some t.b else none
def bY:List T3→P3→P3→Option P3
 | [],_,_=>none
 | t::ts,p,q=>match t.fnd p q with
  | some x=>some x
  | none=>bY ts p q
theorem uV{ts:List T3}{k:Nat}{t:T3}{p q:P3}(h:ts[k]? = some t)(h0:bY (ts.take k) p q=none):bY (ts.take (k+1)) p q=t.fnd p q:=by
 rw[bX h];clear h;generalize ts.take k=us at h0 ⊢
 induction us with
 | nil=>simp only[cd,bY];cases t.fnd p q <;> rfl
 | cons u us ih =>
  rw[ci];simp only[bY] at h0 ⊢;cases hu:u.fnd p q with
  | some x=>rw[hu] at h0;cases h0
  | none=>rw[hu] at h0;exact ih h0
theorem Aw{ts:List T3}{k:Nat}{p q x:P3}(h:bY (ts.take k) p q=some x):bY ts p q=some x:=by
 induction ts generalizing k with
 | nil=>simp[bY] at h
 | cons u us ih =>
  cases k with
  | zero=>simp[bY] at h
  | succ k =>
   rw[lz] at h;unfold bY at h ⊢;cases hu:u.fnd p q with
   | some y=>rw[hu] at h;exact h
   | none=>rw[hu] at h;exact ih h
def Ou(p:P3)(t:T3)(c:Nat):List T3:=if t.cor c=p then [t] else []
def wE(p:P3)(t:T3)(c:Nat):List T3:=(i_ c).flatMap (Ou p t)
def nR(ts:List T3)(p:P3):List T3:=ts.flatMap fun t=>wE p t 3
def Ov(p:P3)(t:T3)(c:Nat):List P3:=if t.cor c=p then [t.cor ((c+1)%3)] else []
def Ax(p:P3)(t:T3)(c:Nat):List P3:=(i_ c).flatMap (Ov p t)
def tS(ts:List T3)(p:P3):List P3:=ts.flatMap fun t=>Ax p t 3
theorem Ox(p:P3)(t:T3)(c:Nat):wE p t (c+1)=wE p t c++Ou p t c:=by simp[wE,List.range_succ]
theorem Ll(p:P3)(t:T3)(c:Nat):Ax p t (c+1)=Ax p t c++Ov p t c:=by simp[Ax,List.range_succ]
theorem aeS{ts:List T3}{k:Nat}{t:T3}{p:P3}(h:ts[k]? = some t):nR (ts.take (k+1)) p=nR (ts.take k) p++wE p t 3:=by
 unfold nR;rw[bX h,ba];simp
theorem abT{ts:List T3}{k:Nat}{t:T3}{p:P3}(h:ts[k]? = some t):tS (ts.take (k+1)) p=tS (ts.take k) p++Ax p t 3:=by
 unfold tS;rw[bX h,ba];simp
def Dv(ts:List T3)(p:P3)(k:Nat)(t:T3)(c:Nat):List T3:=nR (ts.take k) p++wE p t c
def vK(ts:List T3)(p:P3)(k:Nat)(t:T3)(c:Nat):List P3:=tS (ts.take k) p++Ax p t c
theorem aeT{ts:List T3}{p:P3}{k c:Nat}{t:T3}(h:t.cor c=p):Dv ts p k t (c+1)=Dv ts p k t c++[t]:=by
 unfold Dv;rw[Ox,Ou,if_pos h,dh]
theorem ag0{ts:List T3}{p:P3}{k c:Nat}{t:T3}(h:¬t.cor c=p):Dv ts p k t (c+1)=Dv ts p k t c:=by
 unfold Dv;rw[Ox,Ou,if_neg h,fb]
theorem abU{ts:List T3}{p:P3}{k c:Nat}{t:T3}(h:t.cor c=p):vK ts p k t (c+1)=vK ts p k t c++[t.cor ((c+1)%3)]:=by
 unfold vK;rw[Ll,Ov,if_pos h,dh]
theorem aeU{ts:List T3}{p:P3}{k c:Nat}{t:T3}(h:¬t.cor c=p):vK ts p k t (c+1)=vK ts p k t c:=by
 unfold vK;rw[Ll,Ov,if_neg h,fb]
theorem akw{ts:List T3}{p:P3}{k:Nat}{t:T3}:Dv ts p k t 0=nR (ts.take k) p:=by simp[Dv,wE]
theorem ag1{ts:List T3}{p:P3}{k:Nat}{t:T3}:vK ts p k t 0=tS (ts.take k) p:=by simp[vK,Ax]
theorem akx{ts:List T3}{p:P3}{k:Nat}{t:T3}(h:ts[k]? = some t):Dv ts p k t 3=nR (ts.take (k+1)) p:=by rw[aeS h];rfl
theorem ag2{ts:List T3}{p:P3}{k:Nat}{t:T3}(h:ts[k]? = some t):vK ts p k t 3=tS (ts.take (k+1)) p:=by rw[abT h];rfl
theorem xM{x y:P3}:(x.x=y.x∧x.y=y.y∧x.z=y.z)↔x=y:=⟨fun h=>P3.eq h.1 h.2.1 h.2.2,fun h=>by rw[h];exact⟨rfl,rfl,rfl⟩⟩
theorem Mq{x y u v:P3}:(decide (x.x=y.x∧x.y=y.y∧x.z=y.z)&&decide (u.x=v.x∧u.y=v.y∧u.z=v.z))=true↔x=y∧u=v:=by
 rw[be,decide_eq_true_eq,decide_eq_true_eq,xM,xM]
theorem abV{x y u v:P3}(h:(decide (x.x=y.x∧x.y=y.y∧x.z=y.z)&&decide (u.x=v.x∧u.y=v.y∧u.z=v.z))=false):¬(x=y∧u=v):=fun k=>by
 rw[Mq.2 k] at h;cases h
theorem as8{t:T3}{p q:P3}(h:t.cor 0=p∧t.cor 1=q):t.fnd p q=some (t.cor 2):=if_pos h
theorem as9{t:T3}{p q:P3}(h0:¬(t.cor 0=p∧t.cor 1=q))(h:t.cor 1=p∧t.cor 2=q):t.fnd p q=some (t.cor 0):=(if_neg h0).trans (if_pos h)
theorem ata{t:T3}{p q:P3}(h0:¬(t.cor 0=p∧t.cor 1=q))(h1:¬(t.cor 1=p∧t.cor 2=q))(h:t.cor 2=p∧t.cor 0=q):t.fnd p q=some (t.cor 1):=(if_neg h0).trans ((if_neg h1).trans (if_pos h))
theorem atb{t:T3}{p q:P3}(h0:¬(t.cor 0=p∧t.cor 1=q))(h1:¬(t.cor 1=p∧t.cor 2=q))(h2:¬(t.cor 2=p∧t.cor 0=q)):t.fnd p q=none:=(if_neg h0).trans ((if_neg h1).trans (if_neg h2))
def nS(ms:List T3)(p s:P3):Nat→P3→Bool
 | 0,_=>false
 | n+1,at_=>match bY ms p at_ with
  | none=>false
  | some x=>if x=s then true else nS ms p s n x
theorem Tu{ms:List T3}{p s x:P3}{n:Nat}(h:bY ms p x=none):nS ms p s n x=false:=by
 cases n with
 | zero=>rfl
 | succ n=>simp only[nS,h]
theorem aae{ms:List T3}{p s x:P3}{n:Nat}(h:bY ms p x=some s):nS ms p s (n+1) x=true:=by simp[nS,h]
theorem Tv{ms:List T3}{p s x y:P3}{n:Nat}(h:bY ms p x=some y)(hy:¬y=s):nS ms p s (n+1) x=nS ms p s n y:=by simp[nS,h,hy]
def Gx(ts:List T3)(p:P3):Bool:=(tS ts p).any fun s=>nS (nR ts p) p s ((nR ts p).length-1) s
def wF(t:T3):Bool:=decide (t.a=t.b)||decide (t.b=t.c)||decide (t.c=t.a)
theorem Ws{t:T3}:(decide (t.a.x=t.b.x∧t.a.y=t.b.y∧t.a.z=t.b.z)||decide (t.b.x=t.c.x∧t.b.y=t.c.y∧t.b.z=t.c.z)||decide (t.c.x=t.a.x∧t.c.y=t.a.y∧t.c.z=t.a.z))=wF t:=by
 simp only[xM,wF]
def fM(op:Bool)(ts:List T3):Int :=
 if ts.any wF then 20 else if (aZ ts).any (fun e=>decide (1<lL (aZ ts) e)) then 21
 else if !op&&decide (0<(bF ts).length) then 22 else if (dO ts).any (Gx ts) then 23 else 0
theorem wG{α:Type}{p:α→Bool}{l:List α}{k:Nat}{x:α}(hx:l[k]? = some x):(l.take (k+1)).any p=((l.take k).any p||p x):=by
 rw[bX hx,List.any_append];simp
theorem Gy{α:Type}{p:α→Bool}{l:List α}{k:Nat}{x:α}(hx:l[k]? = some x)(h:p x=true):l.any p=true:=dt.2 ⟨x,bj hx,h⟩
theorem Tw{α:Type}{ps:List α}{k:Nat}{p:α}(h:ps[k]? = some p):ps.take (k+1)=ps.take k++[p]:=by
 rw[ob,h];rfl
theorem Oy{ts:List T3}{k:Nat}{t:T3}(h:ts[k]? = some t):dK (ts.take (k+1))=dK (ts.take k)++[t.a,t.b,t.c]:=by
 unfold dK;rw[Tw h,ba];simp
theorem abW{ts:List T3}{k:Nat}{t:T3}(h:ts[k]? = some t):Av [] (dK (ts.take (k+1)))=fG (fG (fG (Av [] (dK (ts.take k))) t.a true) t.b true) t.c true:=by
 rw[Oy h,aeO];rfl
theorem pR(ts:List T3):(dK ts).length=ts.length*3:=by
 unfold dK
 induction ts with
 | nil=>rfl
 | cons t ts ih=>rw[dx,aw,ih];simp only[ay,List.length_nil];omega
theorem ag3{ps:List P3}:(ps.flatMap bN).length=ps.length*3:=by
 induction ps with
 | nil=>rfl
 | cons p ps ih=>rw[dx,aw,ih,show (bN p).length=3 from rfl,ay];omega
theorem xN{α:Type}{R:α→α→Prop}(irr:∀a,¬R a a)(tr:∀a b c,R a b→R b c→R a c):∀{l m:List α},l.Pairwise R→m.Pairwise R→(∀a,a∈l↔a∈m)→l=m
 | [],[],_,_,_=>rfl
 | [],y::m,_,_,h=>absurd ((h y).2 (bq ..)) (by simp)
 | x::l,[],_,_,h=>absurd ((h x).1 (bq ..)) (by simp)
 | x::l,y::m,hl,hm,h=>by
  obtain⟨h1,h2⟩:=bm.1 hl;obtain⟨k1,k2⟩:=bm.1 hm;have e:x=y:=by
   rcases ao.1 ((h x).1 (bq ..)) with e | hx
   · exact e
   · rcases ao.1 ((h y).2 (bq ..)) with e | hy
     · exact e.symm
     · exact absurd (tr _ _ _ (h1 y hy) (k1 x hx)) (irr x)
  subst e;rw[xN irr tr h2 k2 fun a=>⟨fun ha=>?_,fun ha=>?_⟩]
  · rcases ao.1 ((h a).1 (bp _ ha)) with rfl | k
    · exact absurd (h1 a ha) (irr a)
    · exact k
  · rcases ao.1 ((h a).2 (bp _ ha)) with rfl | k
    · exact absurd (k1 a ha) (irr a)
    · exact k
/-! ### Edges in order -/
def Lm(a b:E3):Prop:=a.1.Lt b.1∨a.1=b.1∧a.2.Lt b.2
theorem adF{a b:E3}:ltE a b=true↔Lm a b:=by
 unfold ltE Lm;by_cases h:a.1=b.1
 · rw[if_neg (not_not_intro h),decide_eq_true_eq]
   exact⟨fun k=>.inr ⟨h,k⟩,fun k=>k.elim (fun k=>absurd (h▸k) (P3.lt_irrefl _)) (·.2)⟩
 · rw[if_pos h,decide_eq_true_eq]
   exact⟨.inl,fun k=>k.elim id (fun k=>absurd k.1 h)⟩
theorem Lm.irrefl(a:E3):¬Lm a a:=fun h=>h.elim (P3.lt_irrefl _) fun h=>P3.lt_irrefl _ h.2
theorem Lm.trans{a b c:E3}(h:Lm a b)(k:Lm b c):Lm a c:=by
 rcases h with h | ⟨h,h'⟩
 · rcases k with k | ⟨k,_⟩
   · exact .inl (P3.lt_trans h k)
   · exact .inl (k▸h)
 · rcases k with k | ⟨k,k'⟩
   · exact .inl (h▸k)
   · exact .inr ⟨h.trans k,P3.lt_trans h' k'⟩
theorem Lm.tri(a b:E3):Lm a b∨a=b∨Lm b a:=by
 rcases P3.lt_tri a.1 b.1 with h | h | h
 · exact .inl (.inl h)
 · rcases P3.lt_tri a.2 b.2 with k | k | k
   · exact .inl (.inr ⟨h,k⟩)
   · exact .inr (.inl (ns h k))
   · exact .inr (.inr (.inr ⟨h.symm,k⟩))
 · exact .inr (.inr (.inl h))
def qU(es:List E3):Prop:=es.Pairwise Lm
theorem aaf{es fs:List E3}(h:qU es)(k:qU fs)(e:∀a,a∈es↔a∈fs):es=fs:=xN Lm.irrefl (fun _ _ _=>Lm.trans) h k e
theorem Wt{α:Type}{p:α→Bool}:∀(l:List α),l.take (l.takeWhile p).length=l.takeWhile p
 | []=>rfl
 | x::l=>by
  rw[kh];split
  · rw[ay,lz,Wt l]
  · rfl
theorem Wu{α:Type}{p:α→Bool}:∀(l:List α),l.drop (l.takeWhile p).length=l.dropWhile p
 | []=>rfl
 | x::l=>by
  rw[kh,l_];split
  · rw[ay,List.drop_succ_cons,Wu l]
  · rfl
theorem adG(es:List E3)(e:E3):abS es e=es.takeWhile (fun x=>ltE x e)++[e]++es.dropWhile (fun x=>ltE x e):=by
 unfold abS aeQ;rw[Wt,Wu]
theorem ag4{es:List E3}{e x:E3}:x∈abS es e↔x=e∨x∈es:=by
 rw[adG]
 conv=>rhs;rw[←kf (p:=fun x=>ltE x e) (l:=es)]
 simp only[bt,bf];exact⟨fun h=>h.elim (fun h=>h.elim (fun h=>.inr (.inl h)) .inl) (fun h=>.inr (.inr h)),fun h=>h.elim (fun h=>.inl (.inr h)) (fun h=>h.elim (fun h=>.inl (.inl h)) .inr)⟩
theorem alS{e:E3}:∀{es:List E3},qU es→e∉es→∀x∈es.dropWhile (fun x=>ltE x e),Lm e x
 | [],_,_,x,h=>by cases h
 | y::ys,hs,he,x,h=>by
  obtain⟨h1,h2⟩:=bm.1 hs;rw[l_] at h;split at h
  · exact alS h2 (fun k=>he (bp _ k)) x h
  · rename_i hy
    have hy':Lm e y:=by
     rcases Lm.tri y e with k | k | k
     · exact absurd (adF.2 k) hy
     · exact absurd (k▸bq ..) he
     · exact k
    rcases ao.1 h with rfl | h
    · exact hy'
    · exact hy'.trans (h1 x h)
theorem abX{α:Type}{p:α→Bool}{x:α}:∀{l:List α},x∈l.takeWhile p→p x=true
 | [],h=>by cases h
 | y::l,h=>by
  rw[kh] at h;split at h
  · rename_i hy
    rcases ao.1 h with rfl | h
    · exact hy
    · exact abX h
  · cases h
theorem arT{e:E3}{es:List E3}:∀x∈es.takeWhile (fun x=>ltE x e),Lm x e:=fun x h=>adF.1 (abX (p:=fun x=>ltE x e) h)
theorem aag{es:List E3}{e:E3}(hs:qU es)(he:e∉es):qU (abS es e):=by
 rw[adG];have h0:=hs;rw[qU,←kf (p:=fun x=>ltE x e) (l:=es)] at h0;obtain⟨h1,h2,h3⟩:=fi.1 h0;refine fi.2 ⟨fi.2 ⟨h1,List.pairwise_singleton _ _,fun x hx y hy=>?_⟩,h2,fun x hx y hy=>?_⟩
 · rw[bf.1 hy];exact arT x hx
 · rcases bt.1 hx with hx | hx
   · exact h3 x hx y hy
   · rw[bf.1 hx];exact alS hs he y hy
theorem tT{es:List E3}{e:E3}:0<lL es e↔e∈es:=by
 unfold lL;rw[List.length_pos_iff_exists_mem];simp
theorem Jn{all:List E3}:∀(es out:List E3),qU out→qU (es.foldl (pQ all) out)∧∀x,x∈es.foldl (pQ all) out↔x∈out∨x∈es∧(x.2,x.1)∉all
 | [],out,h=>⟨h,fun x=>by simp⟩
 | e::es,out,h=>by
  have key:qU (pQ all out e)∧∀x,x∈pQ all out e↔x∈out∨x=e∧(x.2,x.1)∉all:=by
   unfold pQ;split
   · rename_i hc
     refine⟨h,fun x=>⟨.inl,fun k=>k.elim id fun q=>?_⟩⟩;obtain⟨rfl,q⟩:=q;exact hc.elim (fun hc=>absurd (tT.1 hc) q) (fun hc=>tT.1 hc)
   · rename_i hc
     have h1:e∉out:=fun k=>hc (.inr (tT.2 k));have h2:(e.2,e.1)∉all:=fun k=>hc (.inl (tT.2 k));refine⟨aag h h1,fun x=>ag4.trans ⟨fun k=>k.elim (fun k=>.inr ⟨k,k▸h2⟩) .inl,fun k=>k.elim .inr fun k=>.inl k.1⟩⟩
  obtain⟨i1,i2⟩:=Jn es (pQ all out e) key.1;refine⟨i1,fun x=>?_⟩;rw[iv,i2,key.2,ao,or_assoc];refine or_congr Iff.rfl ⟨fun k=>k.elim (fun k=>⟨.inl k.1,k.2⟩) (fun k=>⟨.inr k.1,k.2⟩),fun k=>k.1.elim (fun h=>.inl ⟨h,k.2⟩) (fun h=>.inr ⟨h,k.2⟩)⟩
theorem Sd(ts:List T3):qU (bF ts):=(Jn (all:=aZ ts) (aZ ts) [] ka).1
theorem abY{ts:List T3}{e:E3}:e∈bF ts↔e∈aZ ts∧(e.2,e.1)∉aZ ts:=by
 have:=(Jn (all:=aZ ts) (aZ ts) [] ka).2 e;unfold bF;rw[this];simp
/-! ### Keys put into a set -/
section
variable {K:Type} [DecidableEq K]
def fQ(D:List (K × Bool))(ks:List K):List (K × Bool):=ks.foldl (fun D k=>fG D k true) D
theorem tU:∀(ks:List K) (D:List (K × Bool)) (a:K),a∈(fQ D ks).map (·.1)↔a∈D.map (·.1)∨a∈ks
 | [],D,a=>by simp[fQ]
 | k::ks,D,a=>by
  have:=tU ks (fG D k true) a;unfold fQ at this ⊢;rw[iv,this,aac,ao,or_assoc]
theorem Et:∀(ks:List K) (D:List (K × Bool)),(D.map (·.1)).Nodup→((fQ D ks).map (·.1)).Nodup
 | [],_,h=>h
 | k::ks,D,h=>Et ks (fG D k true) (tP h k true)
theorem oR:∀(ks:List K) (D:List (K × Bool)),(fQ D ks).length≤D.length+ks.length
 | [],_=>av _
 | k::ks,D=>by
  have h1:=oR ks (fG D k true);have h2:=uU D k true;show (fQ (fG D k true) ks).length≤_
  rw[ay];omega
theorem Oz:∀(ks:List K) (D:List (K × Bool)) (a:K),cI (fQ D ks) a=if a∈ks then some true else cI D a
 | [],D,a=>by simp[fQ]
 | k::ks,D,a=>by
  have h:=Oz ks (fG D k true) a;show cI (fQ (fG D k true) ks) a=_
  rw[h,lW];by_cases h1:a∈ks
  · rw[if_pos h1,if_pos (bp _ h1)]
  · rw[if_neg h1]
    by_cases h2:k=a
    · rw[if_pos h2,if_pos (h2▸bq ..)]
    · rw[if_neg h2,if_neg (fun k'=>(ao.1 k').elim (fun e=>h2 e.symm) h1)]
theorem ag5(D:List (K × Bool))(ks ls:List K):fQ D (ks++ls)=fQ (fQ D ks) ls:=g_ ..
theorem rH(ks:List K)(a:K):(cI (fQ [] ks) a).getD false=decide (a∈ks):=by
 rw[Oz];by_cases h:a∈ks
 · rw[if_pos h,decide_eq_true h];rfl
 · rw[if_neg h,decide_eq_false h];rfl
theorem aah{ks:List K}{a:K}:(cI (fQ [] ks) a).getD false=true↔a∈ks:=by
 rw[Oz];by_cases h:a∈ks
 · rw[if_pos h];exact⟨fun _=>h,fun _=>rfl⟩
 · rw[if_neg h];exact⟨fun k=>(by cases k),fun k=>absurd k h⟩
end
/-! ### No edge twice -/
theorem Jo{x e:E3}{es:List E3}:lL (x::es) e=(if x=e then 1 else 0)+lL es e:=by
 unfold lL;by_cases h:x=e
 · rw[ml (by simpa using h),ay,if_pos h];omega
 · rw[mn (by simpa using h),if_neg h];omega
theorem Tx:∀{es:List E3},es.Nodup↔∀e,lL es e≤1
 | []=>by simp[lL]
 | x::es=>by
  rw[gd,Tx (es:=es)];constructor
  · rintro⟨h1,h2⟩ e
    rw[Jo];by_cases h:x=e
    · have:¬0<lL es e:=fun k=>h1 (h▸tT.1 k)
      rw[if_pos h];omega
    · rw[if_neg h];have:=h2 e;omega
  · intro h
    refine⟨fun k=>?_,fun e=>?_⟩
    · have h1:=h x
      rw[Jo,if_pos rfl] at h1;have:=tT.2 k;omega
    · have:=h e
      rw[Jo] at this;omega
theorem Gz{es:List E3}:(es.any fun e=>decide (1<lL es e))=decide (¬es.Nodup):=by
 rw[Bool.eq_iff_iff,dt,decide_eq_true_eq,Tx];constructor
 · rintro⟨e,_,h⟩ k
   have:=k e;simp only[decide_eq_true_eq] at h;omega
 · intro h
   obtain⟨e,he⟩:=Classical.not_forall.1 h;exact⟨e,tT.1 (by omega),by simpa using Nat.not_le.1 he⟩
theorem Eu{α:Type}{es:List α}{e:α}:(es++[e]).Nodup↔es.Nodup∧e∉es:=by
 rw[jm];constructor
 · rintro⟨h1,_,h3⟩
   exact⟨h1,fun k=>h3 e k e (by simp) rfl⟩
 · rintro⟨h1,h2⟩
   exact⟨h1,by simp,fun a ha b hb e'=>h2 (by rw[←bf.1 hb,←e'];exact ha)⟩
section
variable {K V:Type} [DecidableEq K]
def Dh(D:List (K × V))(xs:List (K × V)):List (K × V):=xs.foldl (fun D x=>fG D x.1 x.2) D
theorem aai:∀(xs D:List (K × V)) (k:K),(xs.map (·.1)).Nodup→cI (Dh D xs) k=match cI xs k with | some v=>some v | none=>cI D k
 | [],D,k,_=>rfl
 | (a,v)::xs,D,k,h=>by
  rw[bi,gd] at h;have ih:=aai xs (fG D a v) k h.2;show cI (Dh (fG D a v) xs) k=_
  rw[ih,lW,cI];by_cases e:a=k
  · rw[if_pos e,if_pos e]
    have:cI xs k=none:=oQ.2 (e▸h.1);rw[this]
  · rw[if_neg e,if_neg e]
theorem ag6(D xs ys:List (K × V)):Dh D (xs++ys)=Dh (Dh D xs) ys:=g_ ..
def vL(D:List (K × Nat))(ks:List K):List (K × Nat):=ks.foldl (fun D k=>fG D k ((cI D k).getD 0+1)) D
def uK(ks:List K)(a:K):Nat:=(ks.filter fun x=>decide (x=a)).length
theorem Cm{x a:K}{ks:List K}:uK (x::ks) a=(if x=a then 1 else 0)+uK ks a:=by
 unfold uK;by_cases h:x=a
 · rw[ml (by simpa using h),ay,if_pos h];omega
 · rw[mn (by simpa using h),if_neg h];omega
theorem ag7{a:K}{ks ls:List K}:uK (ks++ls) a=uK ks a+uK ls a:=by simp[uK]
theorem aaj:∀(ks:List K) (D:List (K × Nat)) (a:K),(cI (vL D ks) a).getD 0=(cI D a).getD 0+uK ks a
 | [],D,a=>rfl
 | k::ks,D,a=>by
  have h:=aaj ks (fG D k ((cI D k).getD 0+1)) a;show (cI (vL (fG D k ((cI D k).getD 0+1)) ks) a).getD 0=_
  rw[h,lW,Cm];by_cases e:k=a
  · subst e
    rw[if_pos rfl,if_pos rfl,cu];omega
  · rw[if_neg e,if_neg e];omega
theorem ag8(D:List (K × Nat))(ks ls:List K):vL D (ks++ls)=vL (vL D ks) ls:=g_ ..
theorem tV:∀{l m:List K},l.Nodup→(∀a∈l,a∈m)→l.length≤m.length
 | [],_,_,_=>br _
 | x::l,m,h,k=>by
  rw[gd] at h;have hx:=k x (bq ..);have h1:=tV (m:=m.erase x) h.2 fun a ha=>(List.mem_erase_of_ne (fun (e:a=x)=>h.1 (e▸ha))).2 (k a (bp _ ha));rw[List.length_erase_of_mem hx] at h1;have:=List.length_pos_of_mem hx;rw[ay];omega
end
/-! ### What lies behind an edge -/
def lD(ts:List T3):List (E3 × P3):=ts.flatMap fun t=>[((t.a,t.b),t.c),((t.b,t.c),t.a),((t.c,t.a),t.b)]
theorem qN:∀ts:List T3,(lD ts).map (·.1)=aZ ts
 | []=>rfl
 | t::ts=>by
  have:=qN ts;unfold lD aZ at this ⊢;rw[dx,cl,this];rfl
theorem abZ{ts:List T3}{k:Nat}{t:T3}(h:ts[k]? = some t):lD (ts.take (k+1))=lD (ts.take k)++[((t.a,t.b),t.c),((t.b,t.c),t.a),((t.c,t.a),t.b)]:=by
 unfold lD;rw[bX h,ba];simp
theorem xO(p q:P3):∀ts:List T3,bY ts p q=cI (lD ts) (p,q)
 | []=>rfl
 | t::ts=>by
  have ih:=xO p q ts;have e:lD (t::ts)=((t.a,t.b),t.c)::((t.b,t.c),t.a)::((t.c,t.a),t.b)::lD ts:=rfl;rw[e,bY,cI,cI,cI,←ih,T3.fnd];by_cases h1:t.a=p∧t.b=q
  · rw[if_pos h1,if_pos (ns h1.1 h1.2)]
  · rw[if_neg h1,if_neg (fun e=>h1 ⟨congrArg pa e,congrArg og e⟩)]
    by_cases h2:t.b=p∧t.c=q
    · rw[if_pos h2,if_pos (ns h2.1 h2.2)]
    · rw[if_neg h2,if_neg (fun e=>h2 ⟨congrArg pa e,congrArg og e⟩)]
      by_cases h3:t.c=p∧t.a=q
      · rw[if_pos h3,if_pos (ns h3.1 h3.2)]
      · rw[if_neg h3,if_neg (fun e=>h3 ⟨congrArg pa e,congrArg og e⟩)]
theorem Ha{ts:List T3}(h:(aZ ts).Nodup)(p q:P3):cI (Dh [] (lD ts)) (p,q)=bY ts p q:=by
 rw[aai _ _ _ (by rw[qN];exact h),xO];cases cI (lD ts) (p,q) <;> rfl
theorem xP{ts:List T3}{x y z:P3}(h:((x,y),z)∈lD ts):((y,z),x)∈lD ts:=by
 obtain⟨t,ht,hx⟩:=e_.1 h;refine e_.2 ⟨t,ht,?_⟩;simp only[ao,bz,or_false,fp] at hx ⊢;rcases hx with ⟨⟨rfl,rfl⟩,rfl⟩ | ⟨⟨rfl,rfl⟩,rfl⟩ | ⟨⟨rfl,rfl⟩,rfl⟩
 · exact .inr (.inl ⟨⟨rfl,rfl⟩,rfl⟩)
 · exact .inr (.inr ⟨⟨rfl,rfl⟩,rfl⟩)
 · exact .inl ⟨⟨rfl,rfl⟩,rfl⟩
theorem Pa{ts:List T3}(h:(aZ ts).Nodup){e:E3}{x y:P3}(h1:(e,x)∈lD ts)(h2:(e,y)∈lD ts):x=y:=by
 have k:((lD ts).map (·.1)).Nodup:=by rw[qN];exact h
 have a:=uT k h1;rw[uT k h2] at a;exact (dq a).symm
theorem tW{ts:List T3}{p q x:P3}(h:bY ts p q=some x):((p,q),x)∈lD ts:=As (by rw[←xO];exact h)
theorem uW{ts:List T3}{p q x:P3}(h:bY ts p q=some x):(p,q)∈aZ ts:=by
 rw[←qN];exact df.2 ⟨_,tW h,rfl⟩
theorem Ay{ts:List T3}{p q:P3}(h:(p,q)∈aZ ts):∃x,bY ts p q=some x:=by
 rw[xO];cases e:cI (lD ts) (p,q) with
 | some x=>exact⟨x,rfl⟩
 | none =>
  have:=oQ.1 e;rw[qN] at this;exact absurd h this
theorem ab0{ts:List T3}(h:(aZ ts).Nodup){p x y z:P3}(h1:bY ts p x=some z)(h2:bY ts p y=some z):x=y :=
 Pa h (xP (xP (tW h1))) (xP (xP (tW h2)))
def qO(ts:List T3)(p:P3):Nat→P3→Option P3
 | 0,x=>some x
 | n+1,x=>(bY ts p x).bind (qO ts p n)
theorem Az{ts:List T3}{p:P3}:∀(n:Nat) (x:P3),qO ts p (n+1) x=(qO ts p n x).bind (bY ts p)
 | 0,x=>by simp[qO]
 | n+1,x=>by
  rw[qO];cases h:bY ts p x with
  | none=>simp[qO,h]
  | some y =>
   rw[gu,Az n y,qO,h];rfl
theorem Pb{ms:List T3}{p s:P3}:∀(n:Nat) (x:P3),nS ms p s n x=true↔∃j,1≤j∧j≤n∧qO ms p j x=some s
 | 0,x=>⟨fun h=>(by cases h),fun⟨j,h1,h2,_⟩=>by omega⟩
 | n+1,x=>by
  cases h:bY ms p x with
  | none =>
   rw[Tu h];refine⟨fun k=>(by cases k),fun⟨j,h1,_,h3⟩=>?_⟩;obtain⟨i,rfl⟩:∃i,j=i+1:=⟨j-1,by omega⟩
   rw[qO,h] at h3;cases h3
  | some y =>
   by_cases e:y=s
   · subst e
     rw[aae h];exact⟨fun _=>⟨1,av _,by omega,by simp[qO,h]⟩,fun _=>rfl⟩
   · rw[Tv h e,Pb n y]
     constructor
     · rintro⟨j,h1,h2,h3⟩
       exact⟨j+1,by omega,by omega,by rw[qO,h];exact h3⟩
     · rintro⟨j,h1,h2,h3⟩
       obtain⟨i,rfl⟩:∃i,j=i+1:=⟨j-1,by omega⟩
       rw[qO,h,gu] at h3;cases i with
       | zero=>exact absurd (dq h3) e
       | succ i=>exact⟨i+1,by omega,by omega,h3⟩
def Ba(nx:P3→Option P3)(s:P3):Nat→P3→Nat→P3 × Nat
 | 0,a,z=>(a,z)
 | n+1,a,z=>if a=s then (a,z) else match nx a with | none=>(a,z) | some b=>Ba nx s n b (z+1)
theorem ag9{nx:P3→Option P3}{s:P3}{n z:Nat}:Ba nx s n s z=(s,z):=by
 cases n with
 | zero=>rfl
 | succ n=>rw[Ba,if_pos rfl]
theorem Wv{ts:List T3}{p s:P3}{M:Nat}:∀(n:Nat) (a:P3) (z:Nat),n=M+1-z→((Ba (bY ts p) s n a z).1=s∧(Ba (bY ts p) s n a z).2<M↔∃j,z≤j∧j<M∧qO ts p (j-z) a=some s)
 | 0,a,z,h=>by
  rw[Ba];refine⟨fun k=>?_,fun⟨j,h1,h2,_⟩=>?_⟩
  · have:=k.2;simp only at this;omega
  · omega
 | n+1,a,z,h=>by
  rw[Ba];by_cases e:a=s
  · rw[if_pos e]
    refine⟨fun k=>⟨z,av _,k.2,by rw[Nat.sub_self,qO,e]⟩,fun⟨j,h1,h2,_⟩=>⟨e,by simp only;omega⟩⟩
  · rw[if_neg e]
    cases hb:bY ts p a with
    | none =>
     refine⟨fun k=>absurd k.1 e,fun⟨j,h1,h2,h3⟩=>?_⟩;cases hj:j-z with
     | zero=>rw[hj,qO] at h3;exact absurd (dq h3) e
     | succ i=>rw[hj,qO,hb] at h3;cases h3
    | some b =>
     rw[Wv n b (z+1) (by omega)];constructor
     · rintro⟨j,h1,h2,h3⟩
       refine⟨j,by omega,h2,?_⟩;rw[show j-z=(j-(z+1))+1 by omega,qO,hb];exact h3
     · rintro⟨j,h1,h2,h3⟩
       rcases Nat.lt_or_ge z j with hz | hz
       · refine⟨j,by omega,h2,?_⟩
         rw[show j-z=(j-(z+1))+1 by omega,qO,hb] at h3;exact h3
       · rw[show j-z=0 by omega,qO] at h3
         exact absurd (dq h3) e
/-! ### The triangles of a corner -/
theorem aky{t:T3}{p q x:P3}(h:t.fnd p q=some x):∃c,c<3∧t.cor c=p:=by
 unfold T3.fnd at h;split at h
 · rename_i h';exact⟨0,by decide,h'.1⟩
 · split at h
   · rename_i h';exact⟨1,by decide,h'.1⟩
   · split at h
     · rename_i h';exact⟨2,by decide,h'.1⟩
     · cases h
theorem ab1{ts us:List T3}{p q:P3}:bY (ts++us) p q=match bY ts p q with | some x=>some x | none=>bY us p q:=by
 induction ts with
 | nil=>rfl
 | cons t ts ih =>
  rw[ci,bY,bY];cases t.fnd p q with
  | some x=>rfl
  | none=>exact ih
theorem aeV{t u:T3}{p:P3}(h:u∈wE p t 3):u=t∧∃c,c<3∧t.cor c=p:=by
 obtain⟨c,hc,h⟩:=e_.1 h;unfold Ou at h;split at h
 · rename_i e
   exact⟨bf.1 h,c,jb.1 hc,e⟩
 · cases h
theorem ab2{t:T3}{p:P3}{c:Nat}(hc:c<3)(h:t.cor c=p):t∈wE p t 3 :=
 e_.2 ⟨c,jb.2 hc,by rw[Ou,if_pos h];exact bf.2 rfl⟩
theorem Pc{t:T3}{p q:P3}:∀us:List T3,(∀u∈us,u=t)→bY us p q=if us=[] then none else t.fnd p q
 | [],_=>rfl
 | u::us,h=>by
  have e:=h u (bq ..);have ih:=Pc (p:=p) (q:=q) us fun v hv=>h v (bp _ hv);rw[bY,e,if_neg (by simp)];cases hf:t.fnd p q with
  | some x=>rfl
  | none =>
   simp only;rw[ih];split
   · rfl
   · exact hf
theorem Ln(p q:P3):∀ts:List T3,bY (nR ts p) p q=bY ts p q
 | []=>rfl
 | t::ts=>by
  have e:nR (t::ts) p=wE p t 3++nR ts p:=by simp[nR]
  rw[e,ab1,Ln p q ts,bY,Pc (t:=t) _ (fun u hu=>(aeV hu).1)];by_cases h:wE p t 3=[]
  · rw[if_pos h]
    cases hf:t.fnd p q with
    | none=>rfl
    | some x =>
     obtain⟨c,hc,k⟩:=aky hf;have:=ab2 hc k;rw[h] at this;cases this
  · rw[if_neg h]<;>rfl
theorem Hb(ts:List T3)(p:P3):∀(n:Nat) (x:P3),qO (nR ts p) p n x=qO ts p n x
 | 0,_=>rfl
 | n+1,x=>by
  rw[qO,qO,Ln];cases bY ts p x with
  | none=>rfl
  | some y=>exact Hb ts p n y
theorem Pd(p:P3):∀ts:List T3,(nR ts p).length=uK (dK ts) p
 | []=>rfl
 | t::ts=>by
  have ih:=Pd p ts;have e:nR (t::ts) p=wE p t 3++nR ts p:=by simp[nR]
  have e2:dK (t::ts)=[t.a,t.b,t.c]++dK ts:=rfl;rw[e,e2,aw,ag7,ih]
  congr 1
  have r3:i_ 3=[0,1,2]:=rfl;unfold wE;rw[r3];simp only[dx,nf,fb,aw,Ou];rw[Cm,Cm,Cm];have k:∀(c:Nat) (x:P3),t.cor c=x→(if t.cor c=p then [t] else []).length=if x=p then 1 else 0:=fun c x hx=>by
   subst hx;split <;> rfl
  rw[k 0 t.a rfl,k 1 t.b rfl,k 2 t.c rfl];rfl
theorem Ty{p s:P3}{ts:List T3}:s∈tS ts p↔(p,s)∈aZ ts:=by
 unfold tS aZ;rw[e_,e_];refine exists_congr fun t=>and_congr Iff.rfl ?_;unfold Ax;rw[show i_ 3=[0,1,2] from rfl];simp only[dx,nf,fb,bt,Ov,ao,bz,or_false,fp];have k:∀(c:Nat) (x y:P3),t.cor c=x→t.cor ((c+1)%3)=y→(s∈(if t.cor c=p then [t.cor ((c+1)%3)] else [])↔p=x∧s=y):=fun c x y hx hy=>by
  subst hx;subst hy;split
  · rename_i h;rw[bf];exact⟨fun e=>⟨h.symm,e⟩,fun e=>e.2⟩
  · rename_i h;exact⟨fun e=>(by cases e),fun e=>absurd e.1.symm h⟩
 rw[k 0 t.a t.b rfl rfl,k 1 t.b t.c rfl rfl,k 2 t.c t.a rfl rfl]
theorem Jp{ps:List P3}{p x:P3}:x∈iA ps p↔x=p∨x∈ps:=by
 unfold iA;split
 · rename_i h
   exact⟨.inr,fun k=>k.elim (fun e=>e▸bj h) id⟩
 · conv=>rhs;rw[←List.take_append_drop (aad ps p) ps]
   simp only[bt,bf];exact⟨fun h=>h.elim (fun h=>h.elim (fun h=>.inr (.inl h)) .inl) (fun h=>.inr (.inr h)),fun h=>h.elim (fun h=>.inl (.inr h)) (fun h=>h.elim (fun h=>.inl (.inl h)) .inr)⟩
theorem Bb{x:P3}{ts:List T3}:x∈dO ts↔x∈dK ts:=by
 have:∀(ts:List T3) (ps:List P3),x∈ts.foldl (fun ps t=>iA (iA (iA ps t.a) t.b) t.c) ps↔x∈ps∨x∈dK ts:=by
  intro ts
  induction ts with
  | nil=>intro ps;simp[dK]
  | cons t ts ih =>
   intro ps;rw[iv,ih,Jp,Jp,Jp];have e:dK (t::ts)=[t.a,t.b,t.c]++dK ts:=rfl;rw[e];simp only[bt,ao,bz,or_false];constructor
   · rintro ((h | h | h | h) | h)
     · exact .inr (.inl (.inr (.inr h)))
     · exact .inr (.inl (.inr (.inl h)))
     · exact .inr (.inl (.inl h))
     · exact .inl h
     · exact .inr (.inr h)
   · rintro (h | (h | h | h) | h)
     · exact .inl (.inr (.inr (.inr h)))
     · exact .inl (.inr (.inr (.inl h)))
     · exact .inl (.inr (.inl h))
     · exact .inl (.inl h)
     · exact .inr h
 have:=this ts [];simpa[dO] using this
theorem aeW{ts:List T3}{e:E3}(h:e∈aZ ts):e.1∈dK ts∧e.2∈dK ts:=by
 obtain⟨t,ht,hx⟩:=e_.1 h;have key:∀x,x=t.a∨x=t.b∨x=t.c→x∈dK ts:=fun x hx=>e_.2 ⟨t,ht,by simpa using hx⟩;simp only[ao,bz,or_false] at hx;rcases hx with rfl | rfl | rfl
 · exact⟨key _ (.inl rfl),key _ (.inr (.inl rfl))⟩
 · exact⟨key _ (.inr (.inl rfl)),key _ (.inr (.inr rfl))⟩
 · exact⟨key _ (.inr (.inr rfl)),key _ (.inl rfl)⟩
def Ww(ts:List T3)(e:E3):Prop:=∃x,bY ts e.1 e.2=some x∧(Ba (bY ts e.1) e.2 (uK (dK ts) e.1+1-1) x 1).1=e.2∧(Ba (bY ts e.1) e.2 (uK (dK ts) e.1+1-1) x 1).2<uK (dK ts) e.1
theorem Pe{ts:List T3}{e:E3}:Ww ts e↔e∈aZ ts∧nS (nR ts e.1) e.1 e.2 ((nR ts e.1).length-1) e.2=true:=by
 rw[Pb,Pd];constructor
 · rintro⟨x,hx,h⟩
   obtain⟨j,h1,h2,h3⟩:=(Wv (M:=uK (dK ts) e.1) _ x 1 (by omega)).1 h;refine⟨uW hx,j,h1,by omega,?_⟩;rw[Hb,show j=(j-1)+1 by omega,qO,hx];exact h3
 · rintro⟨he,j,h1,h2,h3⟩
   obtain⟨x,hx⟩:=Ay he;refine⟨x,hx,(Wv (M:=uK (dK ts) e.1) _ x 1 (by omega)).2 ⟨j,h1,by omega,?_⟩⟩;rw[Hb,show j=(j-1)+1 by omega,qO,hx] at h3;exact h3
theorem pinned{ts:List T3}:(dO ts).any (Gx ts)=true↔∃e,Ww ts e:=by
 rw[dt];constructor
 · rintro⟨p,_,h⟩
   obtain⟨s,hs,hr⟩:=dt.1 h;exact⟨(p,s),Pe.2 ⟨Ty.1 hs,hr⟩⟩
 · rintro⟨e,h⟩
   obtain⟨he,hr⟩:=Pe.1 h;exact⟨e.1,Bb.2 (aeW he).1,dt.2 ⟨e.2,Ty.2 he,hr⟩⟩
/-! ### The ends of fans -/
def aha(ts:List T3):Prop:=∀t∈ts,wF t=false
theorem atc{t:T3}(h:wF t=false):t.a≠t.b∧t.b≠t.c∧t.c≠t.a:=by
 unfold wF at h;simp only[Bool.or_eq_false_iff,decide_eq_false_iff_not] at h;exact⟨h.1.1,h.1.2,h.2⟩
theorem Wx{ts:List T3}{p:P3}:∀(i j:Nat) (a:P3),qO ts p (i+j) a=(qO ts p i a).bind (qO ts p j)
 | 0,j,a=>by simp[qO]
 | i+1,j,a=>by
  rw[show i+1+j=(i+j)+1 by omega,qO,qO];cases bY ts p a with
  | none=>rfl
  | some y=>rw[gu,gu];exact Wx i j y
/-! ### As the reference says it -/
abbrev Mv:=P3 × P3
def T3.has(t:T3)(p:P3):Bool:=decide (t.a=p)||decide (t.b=p)||decide (t.c=p)
def Se(ts:List T3)(p q:P3):Bool:=ts.any fun t=>t.has p&&t.has q
def Dw(rim:List E3)(p:P3):Bool:=rim.any fun e=>decide (e.1=p)||decide (e.2=p)
def dM(t:T3):T3:=if t.c.Lt t.a∧(t.c.Lt t.b∨¬t.b.Lt t.a) then ⟨t.c,t.a,t.b⟩ else if t.b.Lt t.a then ⟨t.b,t.c,t.a⟩ else t
theorem Ev{t u:T3}(h1:t.a=u.a)(h2:t.b=u.b)(h3:t.c=u.c):t=u:=by
 cases t;cases u;simp only at h1 h2 h3;subst h1;subst h2;subst h3;rfl
instance:DecidableEq T3:=fun t u=>decidable_of_iff (t.a=u.a∧t.b=u.b∧t.c=u.c) ⟨fun h=>Ev h.1 h.2.1 h.2.2,fun h=>by rw[h];exact⟨rfl,rfl,rfl⟩⟩
def T3.nd(t:T3):Bool:=decide (t.a≠t.b)&&decide (t.b≠t.c)&&decide (t.c≠t.a)
/-! ### Corners and edges -/
theorem eU{t:T3}{p:P3}:t.has p=true↔p=t.a∨p=t.b∨p=t.c:=by
 unfold T3.has;simp only[dm,decide_eq_true_eq,or_assoc];exact or_congr ⟨Eq.symm,Eq.symm⟩ (or_congr ⟨Eq.symm,Eq.symm⟩ ⟨Eq.symm,Eq.symm⟩)
theorem Hc{ts:List T3}{p q:P3}:Se ts p q=true↔∃t∈ts,t.has p=true∧t.has q=true:=by
 unfold Se;rw[dt];exact exists_congr fun t=>and_congr Iff.rfl (by rw[be])
/-! ### The border -/
/-! ### The ends of fans -/
/-! ### Moves -/
/-! ### Covers -/
end Go.Lith
