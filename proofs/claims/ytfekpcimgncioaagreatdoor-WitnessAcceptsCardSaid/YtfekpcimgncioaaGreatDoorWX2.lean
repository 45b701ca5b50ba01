/-
 Texts of one claim, laid together: Geo5, Own, Al, Mem, Grow, Pts, Guard, Geo6, Open, Surf, Surf2, Lat, Chk, Facts, Facts2, Map0, Map, Map2, Nc.
-/
import Derived.Sort.Grow
import Derived.Deep.Draws
import Derived.OpenShut
import Derived.Lib.SmallJoins
import Derived.Deep.Slices
import Derived.Test.YtfekpcimgncioaaGreatDoorProg
import Derived.Maps.RangeRun
import Derived.Test.YtfekpcimgncioaaGreatDoorWX1
open Go renaming Value→ak,World→am,wpList→au,TypeId→ay,Program→bz,Operand→cd,MapEntry→cg,run_underlying→cj,wpQuiet→cq,execOp→da,Deferred→dl
open List renaming mem_cons→ao,getElem?_eq_getElem→ar,getElem?_eq_some_iff→ax,length_cons→az,length_append→a_,flatMap_append→be,take_of_length_le→bf,mem_singleton→bg,map_cons→bi,mem_cons_self→bj,mem_cons_of_mem→bm,mem_of_getElem?→bn,pairwise_cons→bq,mem_append→br,not_mem_nil→bt,nil_append→bv,length_take→bx,flatMap_cons→ci,cons_append→cn,mem_map→cu,map_append→cz,mem_flatMap→df,append_assoc→dh,all_eq_true→dt,any_eq_true→d_,getElem?_drop→eb,drop_eq_getElem_cons→el,eq_nil_of_length_eq_zero→eo,append_nil→fe,getElem?_map→fj,getElem?_append_left→fk,getElem_mem→fl,getElem?_take→fq,nodup_cons→fz,ext_getElem?→gg,set_cons_succ→gl,range→gm,mem_range→gn,drop_of_length_le→gp,size_toArray→gz,length_drop→ip,getElem?_append_right→iq,foldl_append→iu,set_cons_zero→iz,nodup_append→jj,foldl_cons→jp,getElem?_set→ju,take_succ_cons→jx,mem_or_eq_of_mem_set→ke,pairwise_iff_getElem→kf,take_zero→km,length_range→ky,range_succ→lg,getElem_of_mem→lh,getElem?_toArray→lz,mem_of_mem_take→me,takeWhile_cons→mp,drop_append→mx,map_eq_append_iff→ni,drop_zero→od,map_eq_cons_iff→og,length→ou,nil_sublist→qe,take_append→qg
open Nat renaming zero_add→ap,le_refl→av,le_trans→aw,zero_le→bw,min_eq_left→dx,lt_or_ge→dz,add_sub_cancel→eh,eq_zero_or_pos→ff,mul_le_mul_right→gr,add_mul→gt,mul_comm→iy,one_mul→ka,div_add_mod→np,le_antisymm→qp
open Bool renaming and_eq_true→bh,not_true→jg,not_false→jv
open Go.Oper renaming mk→bp
open Array renaming getElem?_eq_some_iff→dj,replicate→fy,getElem?_setIfInBounds_ne→je,mapM_eq_mapM_toList→jh,ext_getElem?→lv,eraseIdxIfInBounds→mj,toList_push→oy,toList_modify→pn
open BitVec renaming ofInt→dw,toNat_ofInt→kh
open Option renaming map_some→ew,some→kn,map_none→qq
open Prod.mk renaming injEq→fc
open Option.some renaming injEq→fw
open Int renaming tdiv_eq_ediv_of_nonneg→lw,tmod_eq_emod_of_nonneg→oe
open List.cons renaming injEq→l_
open List.Perm renaming append_left→nz,refl→oz,trans→pk
set_option linter.unusedSimpArgs false
set_option linter.unusedVariables false
set_option linter.unusedSectionVars false
namespace Go.Lith
open Go.RowKit
variable{w:am}{E t:ay}{A:Option Addr}{n cap c:Nat}{α:Type}
def aP(t:T3):List Go.Value:=[.int .i64 t.a.x,.int .i64 t.a.y,.int .i64 t.a.z,.int .i64 t.b.x,.int .i64 t.b.y,.int .i64 t.b.z,.int .i64 t.c.x,.int .i64 t.c.y,.int .i64 t.c.z]
theorem eE(t:T3):(aP t).length=9:=rfl
theorem Fl:∀(ts:List T3) (i:Nat) (t:T3),ts[i]? = some t→(ts.flatMap aP).drop (i*9)=aP t++(ts.drop (i+1)).flatMap aP
 | [],i,t,h=>by cases h
 | u::ts,0,t,h=>by
  cases h;rfl
 | u::ts,i+1,t,h=>by
  rw[ci,show (i+1)*9=(aP u).length+i*9 by rw[eE];omega,mx,gp (by omega),bv];rw[show (aP u).length+i*9-(aP u).length=i*9 by omega];exact Fl ts i t h
abbrev Nu(A:Option Addr):Option Nat:=A.map (·.block)
structure Ow(w0 w:am)(S:List (Option Nat))(E:ay)(c:Nat)(A:Option Addr)(n cap:Nat)(xs:List ak):Prop where
 own:w.ownsRow w0.heap.size E c (.slice A n cap) n xs
 sep:∀b,Nu A=some b→some b∉S
 bd:∀b,some b∈S→b<w.heap.size
structure Wr(w w':am)(A:Option Addr):Prop where
 os:w'.os=w.os
 tape:w'.tape=w.tape
 output:w'.output=w.output
 size:w.heap.size≤w'.heap.size
 block:∀k,k<w.heap.size→Nu A≠some k→w'.heap[k]? = w.heap[k]?
theorem oY{w:am}{base c n cap:Nat}{E:ay}{A:Option Addr}{xs:List ak}(h:w.ownsRow base E c (.slice A n cap) n xs) :
 (A=none∧n=0∧cap=0∧xs=[])∨∃g cur,A=some ⟨g,0,none⟩∧base≤g∧w.heap[g]? = some (.cells cur E (0,0))∧n≤cap∧cap≤maxLen∧cur.size=cap*c∧cur.toList.take (n*c)=xs:=by
 rcases h.2 with ⟨h1,h2⟩ | ⟨g,cap',cur,h1,h2,h3,h4,h5,h6,h7⟩
 · cases h1
   exact .inl ⟨O,h2,O,eo (by rw[h.1,h2,Nat.zero_mul])⟩
 · cases h1
   exact .inr ⟨g,cur,O,h2,h3,h4,h5,h6,h7⟩
section
variable {w0 w w':am} {S:List (Option Nat)} {E:ay} {c n cap:Nat} {A:Option Addr} {xs:List ak}
theorem Ow.cases(h:Ow w0 w S E c A n cap xs):(A=none∧n=0∧cap=0∧xs=[])∨∃g cur,A=some ⟨g,0,none⟩∧w0.heap.size≤g∧w.heap[g]? = some (.cells cur E (0,0))∧n≤cap∧cap≤maxLen∧cur.size=cap*c∧cur.toList.take (n*c)=xs:=oY h.own
theorem Ow.ge(h:Ow w0 w S E c A n cap xs):∀b,Nu A=some b→w0.heap.size≤b:=fun b hb=>by
 rcases h.cases with ⟨rfl,_⟩ | ⟨g,cur,rfl,hg,_⟩
 · cases hb
 · cases hb
   exact hg
theorem Ow.le(h:Ow w0 w S E c A n cap xs):n≤cap:=by
 rcases h.cases with ⟨_,rfl,rfl,_⟩ | ⟨g,cur,_,_,_,h1,_⟩
 · exact av _
 · exact h1
theorem Ow.some(h:Ow w0 w S E c A n cap xs)(hn:0<n):∃g,A=some ⟨g,0,none⟩:=by
 rcases h.cases with ⟨_,rfl,_⟩ | ⟨g,cur,rfl,_⟩
 · omega
 · exact⟨g,O⟩
theorem Ow.row(h:Ow w0 w S E c A n cap xs):∀j u,xs[j]? = kn u→∃a,A=kn a∧w.cell? (a.add j)=kn u:=fun j u hj=>by
 rcases h.cases with ⟨_,_,_,rfl⟩ | ⟨g,cur,rfl,_,hg,_,_,_,h4⟩
 · cases hj
 · refine⟨_,O,?_⟩
   rw[gV,ap,cell_of_row w g j cur E (0,0) hg];rw[←h4,fq] at hj;split at hj
   · simpa using hj
   · cases hj
theorem Ow.rows{g:Nat}(h:Ow w0 w S E c (kn ⟨g,0,none⟩) n cap xs):mE w ⟨g,0,none⟩ xs:=fun j u hj=>by
 obtain⟨a,e,h1⟩:=h.row j u hj;cases e;exact h1
theorem Ow.nil(w0 w:am)(E:ay)(c:Nat):Ow w0 w [] E c none 0 0 []:=⟨World.ownsRow_nil w _ E c,fun _ h=>(by cases h),fun _ h=>(by cases h)⟩
theorem Ow.mk' {g:Nat}{cs:List ak}(hB:fE w g cs E)(hg:w0.heap.size≤g)(hl:cs.length=n*c)(hm:n≤maxLen):Ow w0 w [] E c (kn ⟨g,0,none⟩) n n cs :=
 ⟨⟨hl,.inr ⟨g,n,_,rfl,hg,hB,av _,hm,by simpa using hl,by simp[←hl]⟩⟩,fun _ _ h=>(by cases h),fun _ h=>(by cases h)⟩
theorem Ow.as{ys:List ak}(h:Ow w0 w S E c A n cap xs)(e:xs=ys):Ow w0 w S E c A n cap ys:=e▸h
end
section
variable {P:bz} {ds:List dl} {l:List ak} {x y:cd} {T ty:ay}
variable {ops:Array Oper} {Q:Exit→Act→am→Prop} {rest:List Oper} {d:Nat} {pos:String} {after:Array Edge} {w w0:am} {S:List (Option Nat)} {E:ay} {c n cap m mcap:Nat} {A B:Option Addr} {xs news:List ak}
theorem Wr.refl(w:am)(A:Option Addr):Wr w w A:=⟨rfl,rfl,rfl,av _,fun _ _ _=>rfl⟩
theorem Vu{t:ay}{i:TypeInfo}{z:ak}{bytes:Nat}(ht:P.underlying t=some (.slice E))(hi:P.info? E=some i)(hz:i.zero=some z)(hsize:i.size=c)(hby:i.bytes=bytes)(hzs:z.cells.size=c)(hsz:0<c)
 (hown:Ow w0 w S E c A n cap xs) (hl:news.length=m*c) (hnews:∀j u,news[j]? = some u→∃a,B=some a∧w.cell? (a.add j)=some u) (h1:∀u∈news,u.oneCell'=true)
 (h63:n+m≤maxLen) (hbytes:(n+m)*bytes≤140737488355328) (hbase:w0.heap.size≤w.heap.size) :
 ∃A' cap' w',(Builtin.append_ #[t,t] ty #[.slice A n cap,.slice B m mcap]).run P w=.ok (.slice A' (n+m) cap') w'∧Ow w0 w' S E c A' (n+m) cap' (xs++news)∧Wr w w' A∧(A'=A∨Nu A'=some w.heap.size):=by
 subst hsize;subst hby;have hsmall:n+m≤9223372036854775807:=by simp only[maxLen] at h63;omega
 have hlen:(xs++news).length=(n+m)*i.size:=by rw[a_,hown.own.1,hl,gt]
 have grown:∀(old:Nat),old<n+m →
  Ow w0 (w.drew.alloc (.cells (xs.toArray++news.toArray++Builtin.zeroCells z.cells (grownCap w (n+m) old E-(n+m))) E)) S E i.size
   (some ⟨w.heap.size,0,none⟩) (n+m) (grownCap w (n+m) old E) (xs++news) ∧
  Wr w (w.drew.alloc (.cells (xs.toArray++news.toArray++Builtin.zeroCells z.cells (grownCap w (n+m) old E-(n+m))) E)) A:=by
  intro old ho;have hge:=grownCap_ge w (n+m) old E;have hcm:grownCap w (n+m) old E≤maxLen:=grownCap_le_maxLen w (n+m) old E h63;refine⟨⟨⟨hlen,.inr ⟨w.heap.size,_,_,O,hbase,heap_alloc_new w.drew _,hge,hcm,?_,?_⟩⟩,fun b hb hm=>?_,fun b hb=>?_⟩,⟨O,O,O,by simp,fun k hk _=>heap_alloc_old w.drew _ (h:=hk)⟩⟩
  · simp only[Array.size_append,gz,size_zeroCells,hzs,hown.own.1,hl,←gt]
    congr 1
    omega
  · simp only[Array.toList_append,dh]
    rw[←dh,←hlen];exact List.take_left
  · have hb':w.heap.size=b:=by simpa using hb
    subst hb';exact absurd (hown.bd _ hm) (Nat.lt_irrefl _)
  · have:=hown.bd _ hb
    have h2:(w.drew.alloc (.cells (xs.toArray++news.toArray++Builtin.zeroCells z.cells (grownCap w (n+m) old E-(n+m))) E)).heap.size=w.heap.size+1:=by simp
    rw[h2];omega
 have hB0:B=none→m=0∧news=[]:=fun hB=>by
  have hn:news=[]:=by
   cases news with
   | nil=>rfl
   | cons u us=>obtain⟨a,e,_⟩:=hnews 0 u rfl;rw[hB] at e;cases e
  subst hn;refine⟨?_,O⟩;rcases ff m with h0 | h0
  · exact h0
  · have:=Nat.mul_pos h0 hsz;simp at hl;omega
 rcases hown.cases with ⟨rfl,rfl,rfl,rfl⟩ | ⟨g,cur,rfl,hbg,hg,hnc,hcm,hcs,htake⟩
 · by_cases hm:m=0
   · subst hm
     have hn:news=[]:=eo (by simpa using hl);subst hn;refine⟨none,0,w,?_,by simpa using hown,Wr.refl _ _,.inl O⟩;cases B <;> simp[Builtin.append_,cj ht,sizeOf,typeInfo,hi,Builtin.lenOf,Builtin.firstCells,loadCells,loadCellsFrom]
   · cases B with
     | none=>exact absurd (hB0 rfl).1 hm
     | some a =>
      have hr:=run_append_nil (P:=P) w t ty E i z ht hi hz a m mcap news hl (fun j u hj=>by obtain⟨a',e,h⟩:=hnews j u hj;cases e;exact h) (by omega) (by omega) (by have hb:=hbytes;simp only[ap] at hb;omega);have hgr:=grown 0 (by omega);simp only[ap,bv,Array.empty_append] at hgr ⊢;exact⟨_,_,_,hr,hgr.1,hgr.2,.inr O⟩
 · cases B with
   | none =>
    obtain⟨rfl,rfl⟩:=hB0 rfl;refine⟨some ⟨g,0,none⟩,cap,w,?_,by simpa using hown,Wr.refl _ _,.inl O⟩;simp[Builtin.append_,cj ht,sizeOf,typeInfo,hi,Builtin.lenOf,Builtin.firstCells,hnc,storeCells]
   | some a =>
    have hnews':∀j u,news[j]? = some u→w.cell? (a.add j)=some u:=fun j u hj=>by obtain⟨a',e,h⟩:=hnews j u hj;cases e;exact h
    by_cases hroom:n+m≤cap
    · have hfit:n*i.size+news.length≤cur.size:=by rw[hl,hcs,←gt];exact gr _ hroom
      have hr:=run_append_room (P:=P) w t ty E i ht hi g n cap cur hg a m mcap news hl hnews' h1 hroom hfit;refine⟨_,_,_,hr,⟨⟨hlen,.inr ⟨g,cap,_,O,hbg,setRow_heap w g cur _ E _ hg,hroom,hcm,?_,?_⟩⟩,hown.sep,fun b hb=>by simpa using hown.bd b hb⟩,⟨O,O,O,by simp,fun k _ hk=>setRow_other w g k _ (fun e=>hk (by rw[e];rfl))⟩,.inl rfl⟩
      · simp only[gz,a_,bx,ip,Array.length_toList]
        omega
      · rw[htake,←hlen]
        exact List.take_left
    · have hr:=run_append_grow (P:=P) w t ty E i z ht hi hz ⟨g,0,none⟩ n cap xs hown.own.1 hown.rows a m mcap news hl hnews' (by omega) (by omega) (growslice_fits (by omega) hbytes)
      have hgr:=grown cap (by omega);exact⟨_,_,_,hr,hgr.1,hgr.2,.inr O⟩
theorem Xg{b:Nat}{z:ak}{a0:Array ay}(ha:a0 = #[T,T])(hu:P.underlying T=some (.slice E))(hi:(P.info? E).map (fun i=>(i.size,i.bytes,i.zero))=some (c,b,some z))(hz:z.cells.size=c)(hc:0<c)(hX:dY w0 w)
 (hs:ev l x=.slice A n cap) (hown:Ow w0 w S E c A n cap xs) (hx:ev l y=.slice B m mcap) (hl:news.length=m*c) (hrow:∀j u,news[j]? = some u→∃a,B=some a∧w.cell? (a.add j)=some u) (h1:∀u∈news,u.oneCell'=true) (h63:n+m≤9223372036854775807) (hbytes:(n+m)*b≤140737488355328)
 (h:∀A' cap' w',Ow w0 w' S E c A' (n+m) cap' (xs++news)→Wr w w' A→(A'=A∨Nu A'=some w.heap.size)→au P ops Q rest (Fr (l.set d (.slice A' (n+m) cap')) ds) w') :
 au P ops Q (bp (some d) (.call { callee:=.builtin .append,args:=#[x,y],argTypes:=a0 }) ty pos after none::rest) (Fr l ds) w:=by
 subst ha;cases hq:P.info? E with
 | none=>rw[hq] at hi;cases hi
 | some i =>
  rw[hq] at hi;simp only[ew,fw,fc] at hi;obtain⟨e1,e2,e3⟩:=hi;obtain⟨A',cap',w',hr,h2,h3,h4⟩:=Vu (P:=P) (w:=w) (ty:=ty) (mcap:=mcap) hu hq e3 e1 e2 hz hc hown hl hrow h1 (by simpa[maxLen] using h63) hbytes hX.size;exact lU (fun o ho hty=>by simp[da,ho,hty,resolve,invoke,builtin,bW,hs,hx,hr]) (h A' cap' w' h2 h3 h4)
theorem Vv{cur:Array ak}{xs us:List ak}{off k:Nat}(hx:cur.toList.take k=xs)(hl:xs.length=k)(hf:off+us.length≤k):(bQ cur.toList off us).take k=bQ xs off us:=by
 subst hx;have hk:k≤cur.toList.length:=by rw[bx] at hl;omega
 unfold bQ;apply gg;intro j;rw[fq];have e1:(cur.toList.take off).length=off:=by rw[bx];omega
 have e2:((cur.toList.take k).take off).length=off:=by rw[bx,bx];omega
 simp only[dh];by_cases h0:j<k
 · rw[if_pos h0]
   rcases dz j off with h1 | h1
   · rw[fk (by omega),fk (by omega),List.take_take,dx (by omega)]
   · rw[iq (l₁:=cur.toList.take off) (by omega),iq (l₁:=(cur.toList.take k).take off) (by omega),e1,e2]
     rcases dz (j-off) us.length with h2 | h2
     · rw[fk h2,fk h2]
     · rw[iq h2,iq h2,eb,eb,fq,if_pos (by omega)]
 · rw[if_neg h0]
   symm
   apply List.getElem?_eq_none;simp only[a_,e2,ip,bx];omega
theorem ajh{g off:Nat}{us:List ak}(hx:ev l x=.pointer (some ⟨g,off,none⟩))(hv:(ev l y).cells=us.toArray)(hc:dQ P T us.length)(hO:Ow w0 w S E c (some ⟨g,0,none⟩) n cap xs)(hfit:off+us.length≤n*c)(h1:∀u∈us,u.oneCell'=true)
 (h:∀w',Wr w w' (some ⟨g,0,none⟩)→Ow w0 w' S E c (some ⟨g,0,none⟩) n cap (bQ xs off us)→au P ops Q rest (Fr l ds) w'):au P ops Q (bp none (.store T x y) ty pos after none::rest) (Fr l ds) w:=by
 rcases hO.cases with ⟨e,_⟩ | ⟨g',cur,e,hbg,hg,hnc,hcm,hcs,htake⟩
 · cases e
 · cases e
   have hfc:off+us.length≤cur.toList.length:=by
    have:=gr c hnc;simp;omega
   have hB:fE w g cur.toList E:=by unfold fE;simpa using hg
   refine kY (cs:=cur.toList) (t:=E) hx hv hc hB hfc h1 fun w' hC hB'=>h w' ⟨hC.os,hC.tape,hC.output,by rw[hC.size];exact av _,fun k _ hk=>hC.block k (fun e=>hk (by rw[e];rfl))⟩ ?_;refine⟨⟨?_,.inr ⟨g,cap,_,O,hbg,hB',hnc,hcm,?_,?_⟩⟩,hO.sep,fun b hb=>by rw[hC.size];exact hO.bd b hb⟩
   · rw[Cp (by rw[hO.own.1];exact hfit)];exact hO.own.1
   · simp only[gz];rw[Cp hfc];simpa using hcs
   · show ((bQ cur.toList off us).toArray.toList).take (n*c)=_
     simp only[List.toList_toArray];exact Vv htake hO.own.1 hfit
end
theorem Ji(ts:List T3):(ts.flatMap aP).length=ts.length*9:=by
 induction ts with
 | nil=>rfl
 | cons t ts ih=>rw[ci,a_,ih,eE,az];omega
theorem Ow.tris{w0:am}{S:List (Option Nat)}{ts:List T3}(h:Ow w0 w S E 9 A n cap (ts.flatMap aP))(hi:∀t∈ts,IT t):cJ w A n ts:=by
 refine⟨?_,hi,fun i t ht=>?_⟩
 · have:=h.own.1;rw[Ji] at this;omega
 · have hr:∀j u,(aP t)[j]? = kn u→(ts.flatMap aP)[i*9+j]? = kn u:=fun j u hj=>by
    have hj':j<(aP t).length:=(ax.1 hj).1;rw[←eb,Fl ts i t ht,fk hj'];exact hj
   obtain⟨a,e,_⟩:=h.row _ _ (hr 0 _ rfl);refine⟨a,e,fun j u hj=>?_⟩;obtain⟨a',e',hc⟩:=h.row _ _ (hr j u hj);rw[e] at e';cases e';rw[lF];exact hc
theorem cJ.cells{ts:List T3}(h:cJ w A n ts):∀j u,(ts.flatMap aP)[j]? = some u→∃a,A=some a∧w.cell? (a.add j)=some u:=fun j u hj=>by
 have hl:j<ts.length*9:=by
  have:=(ax.1 hj).1;rwa [Ji] at this
 have hq:j / 9<ts.length:=by omega
 have ht:=ar hq;obtain⟨a,e,hr⟩:=h.row _ _ ht;refine⟨a,e,?_⟩;have hd:=Fl ts (j / 9) _ ht;have hj':(aP ts[j / 9])[j%9]? = some u:=by
  have:((ts.flatMap aP).drop (j / 9*9))[j%9]? = some u:=by rw[eb,show j / 9*9+j%9=j by omega];exact hj
  rw[hd,fk (by rw[eE];omega)] at this;exact this
 have:=hr _ _ hj';rwa [lF,show j / 9*9+j%9=j by omega] at this
theorem am8:∀(t:T3),∀u∈aP t,u.oneCell'=true:=fun t u hu=>by
 simp only[aP,ao,bt,or_false] at hu;rcases hu with rfl | rfl | rfl | rfl | rfl | rfl | rfl | rfl | rfl <;> rfl
theorem rF(ts:List T3):∀u∈ts.flatMap aP,u.oneCell'=true:=fun u hu=>by
 obtain⟨t,_,h⟩:=df.1 hu;exact am8 t u h
theorem fE.rowsO{g:Nat}{cs:List ak}(h:fE w g cs t):∀j u,cs[j]? = some u→∃a,some (⟨g,0,none⟩:Addr)=some a∧w.cell? (a.add j)=some u:=fun j u hj=>⟨_,rfl,by have:=h.row 0;rw[od] at this;exact this j u hj⟩
section
variable {w0 w w':am} {S:List (Option Nat)} {E:ay} {c n cap:Nat} {A:Option Addr} {xs:List ak}
end
/-! ### Names that are short -/
theorem zA{l:List ak}(t:Nat):ev l (.tmp t)=l.getD t undef:=rfl
theorem zB{l:List ak}(v:ak):ev l (.const v)=v:=rfl
theorem zC{l:List ak}(f:Nat):ev l (.func f)=.func (.func f) #[] #[]:=rfl
theorem zD{x:α}{xs:List α}{d:α}:(x::xs).getD (n+1) d=xs.getD n d:=rfl
theorem zE{x:α}{xs:List α}{d:α}:(x::xs).getD 0 d=x:=rfl
theorem zF{x:α}{xs:List α}{a:α}:(x::xs).set (n+1) a=x::xs.set n a:=rfl
theorem zG{x:α}{xs:List α}{a:α}:(x::xs).set 0 a=a::xs:=rfl
theorem zH{x:α}{xs:List α}  : (x::xs).take (n+1)=x::xs.take n:=rfl
theorem zI{xs:List α}:xs.take 0=[]:=km
theorem zJ{x:α}{xs:List α}  : (x::xs).drop (n+1)=xs.drop n:=rfl
theorem zK{xs:List α}:xs.drop 0=xs:=rfl
theorem zL{x:α}{xs ys:List α}:(x::xs)++ys=x::(xs++ys):=rfl
theorem zM{ys:List α}:[]++ys=ys:=rfl
theorem zN{ys:List α}:ys++[]=ys:=fe ys
theorem zO{x:α}{xs:List α}:(x::xs).length=xs.length+1:=rfl
theorem zP  : ([]:List α).length=0:=rfl
theorem zQ{β:Type}{f:α→β}{x:α}{xs:List α}:(x::xs).map f=f x::xs.map f:=rfl
theorem zR{β:Type}{f:α→β}:([]:List α).map f=[]:=rfl
theorem zS{l:List α}{i:Nat}:l.toArray[i]? = l[i]?:=lz
theorem zT{x:α}{xs:List α}  : (x::xs)[n+1]? = xs[n]?:=rfl
theorem zU{x:α}{xs:List α}:(x::xs)[0]? = some x:=rfl
theorem zV{x d:α}:(some x).getD d=x:=rfl
theorem zz:(∀(l:List Go.Value) (t:Nat), ev l (.tmp t)=l.getD t undef)∧(∀(l:List Go.Value) (v:Go.Value), ev l (.const v)=v)∧(∀(l:List Go.Value) (f:Nat), ev l (.func f)=.func (.func f) #[] #[])∧(∀{α:Type} (x:α) (xs:List α) (n:Nat) (d:α), (x::xs).getD (n+1) d=xs.getD n d)∧(∀{α:Type} (x:α) (xs:List α) (d:α), (x::xs).getD 0 d=x)∧(∀{α:Type} (x:α) (xs:List α) (n:Nat) (a:α), (x::xs).set (n+1) a=x::xs.set n a)∧(∀{α:Type} (x:α) (xs:List α) (a:α), (x::xs).set 0 a=a::xs) := ⟨fun _ _ => rfl, fun _ _ => rfl, fun _ _ => rfl, fun _ _ _ _ => rfl, fun _ _ _ => rfl, fun _ _ _ _ => rfl, fun _ _ _ => rfl⟩
theorem zy:(∀{α:Type} (x:α) (xs:List α) (n:Nat), (x::xs).take (n+1)=x::xs.take n)∧(∀{α:Type} (xs:List α), xs.take 0=[])∧(∀{α:Type} (x:α) (xs:List α) (n:Nat), (x::xs).drop (n+1)=xs.drop n)∧(∀{α:Type} (xs:List α), xs.drop 0=xs) := ⟨fun _ _ _ => rfl, fun _ => km, fun _ _ _ => rfl, fun _ => rfl⟩
theorem zx:(∀{α:Type} (x:α) (xs ys:List α), (x::xs)++ys=x::(xs++ys))∧(∀{α:Type} (ys:List α), []++ys=ys)∧(∀{α:Type} (ys:List α), ys++[]=ys)∧(∀{α:Type} (x:α) (xs:List α), (x::xs).length=xs.length+1)∧(∀{α:Type}, ([]:List α).length=0) := ⟨fun _ _ _ => rfl, fun _ => rfl, fun _ => fe _, fun _ _ => rfl, rfl⟩
theorem zw:(∀{α:Type} (l:List α) (i:Nat), l.toArray[i]? = l[i]?)∧(∀{α:Type} (x:α) (xs:List α) (n:Nat), (x::xs)[n+1]? = xs[n]?)∧(∀{α:Type} (x:α) (xs:List α), (x::xs)[0]? = some x)∧(∀{α:Type} (x d:α), (some x).getD d=x) := ⟨fun _ _ => lz, fun _ _ _ => rfl, fun _ _ => rfl, fun _ _ => rfl⟩
theorem zu:(∀(l:List Go.Value) (t:Nat) (ts:List Nat) (v:Go.Value) (vs:List Go.Value), fN l (t::ts) (v::vs)=fN (l.set t v) ts vs)∧(∀(l vs:List Go.Value), fN l [] vs=l)∧(∀(l:List Go.Value) (t:Nat) (ts:List Nat) (g:Nat→Go.Value), qZ l (t::ts) g=qZ (l.set t (g t)) ts g)∧(∀(l:List Go.Value) (g:Nat→Go.Value), qZ l [] g=l) := ⟨fun _ _ _ _ _ => rfl, fun _ _ => Cq, fun _ _ _ _ => rfl, fun _ _ => rfl⟩
theorem zv:(∀{α β:Type} (f:α→β) (x:α) (xs:List α), (x::xs).map f=f x::xs.map f)∧(∀{α β:Type} (f:α→β), ([]:List α).map f=[])∧(∀(l:List Go.Value) (t:Nat) (ts:List Nat) (v:Go.Value) (vs:List Go.Value), fN l (t::ts) (v::vs)=fN (l.set t v) ts vs)∧(∀(l vs:List Go.Value), fN l [] vs=l)∧(∀(l:List Go.Value) (t:Nat) (ts:List Nat) (g:Nat→Go.Value), qZ l (t::ts) g=qZ (l.set t (g t)) ts g)∧(∀(l:List Go.Value) (g:Nat→Go.Value), qZ l [] g=l) := ⟨fun _ _ _ => rfl, fun _ => rfl, fun _ _ _ _ _ => rfl, fun _ _ => Cq, fun _ _ _ _ => rfl, fun _ _ => rfl⟩
structure It where
 own:Nat→Prop
 P:am→Prop
 lt:∀w b,P w→own b→b<w.heap.size
 st:∀w w',P w→w.heap.size≤w'.heap.size→(∀b,own b→w'.heap[b]? = w.heap[b]?)→P w'
 bk:Option (Nat × List ak × ay):=none
 bkP:∀x,bk=some x→(∀b,own b↔b=x.1)∧∀w,P w→fE w x.1 x.2.1 x.2.2:=by intro _ h;cases h
def bI(g:Nat)(cs:List ak)(t:ay):It where
 own b:=some g=some b
 P w:=fE w g cs t
 lt w b h e:=by cases e;exact h.lt
 st w w' h _ k:=(k g rfl).trans h
 bk:=some (g,cs,t)
 bkP x h:=by cases h;exact⟨fun b=>⟨fun e=>by cases e;rfl,fun e=>by rw[e]⟩,fun _ h=>h⟩
def oI(E:ay)(c:Nat)(A:Option Addr)(n cap:Nat)(xs:List ak):It where
 own b:=Nu A=some b
 P w:=w.ownsRow 0 E c (.slice A n cap) n xs
 lt w b h e:=by
  rcases oY h with ⟨rfl,_⟩ | ⟨g,cur,rfl,_,hg,_⟩
  · cases e
  · cases e;exact (dj.1 hg).1
 st w w' h _ k:=by
  refine⟨h.1,?_⟩;rcases oY h with ⟨rfl,rfl,rfl,_⟩ | ⟨g,cur,rfl,h1,h2,h3⟩
  · exact .inl ⟨O,O⟩
  · exact .inr ⟨g,cap,cur,O,h1,(k g O).trans h2,h3⟩
def Ap(i j:It):Prop:=∀b,i.own b→j.own b→False
theorem Ap.symm{i j:It}(h:Ap i j):Ap j i:=fun b h1 h2=>h b h2 h1
structure Mem(w0 w:am)(is:List It):Prop where
 ext:dY w0 w
 all:∀i∈is,i.P w
 ge:∀i∈is,∀b,i.own b→w0.heap.size≤b
 nd:is.Pairwise Ap
def rG:List Bool→List It→List It
 | true::bs,i::is=>i::rG bs is
 | false::bs,_::is=>rG bs is
 | _,_=>[]
theorem Dd:∀(bs:List Bool) (is:List It),(rG bs is).Sublist is
 | true::bs,i::is=>(Dd bs is).cons_cons i
 | false::bs,i::is=>(Dd bs is).cons i
 | [],is=>qe _
 | true::bs,[]=>qe _
 | false::bs,[]=>qe _
section
variable {w0 w w':am} {is:List It}
theorem Mem.refl(w:am):Mem w w []:=⟨dY.refl w,fun _ h=>(by cases h),fun _ h=>(by cases h),.nil⟩
theorem Mem.ext' (m:Mem w0 w is)(e:dY w w'):Mem w0 w' is :=
 ⟨m.ext.trans e,fun i hi=>i.st w w' (m.all i hi) e.size fun b hb=>Below.block e b (i.lt w b (m.all i hi) hb),m.ge,m.nd⟩
theorem Mem.sel(m:Mem w0 w is)(bs:List Bool):Mem w0 w (rG bs is) :=
 ⟨m.ext,fun i hi=>m.all i ((Dd bs is).subset hi),fun i hi=>m.ge i ((Dd bs is).subset hi),m.nd.sublist (Dd bs is)⟩
theorem Mem.tl{i:It}(m:Mem w0 w (i::is)):Mem w0 w is:=⟨m.ext,fun j hj=>m.all j (bm _ hj),fun j hj=>m.ge j (bm _ hj),(bq.1 m.nd).2⟩
theorem Mem.get(m:Mem w0 w is)(k:Nat){i:It}(hk:is[k]? = some i):i.P w:=m.all i (bn hk)
theorem Mem.b(m:Mem w0 w is)(k:Nat){g:Nat}{cs:List ak}(hk:is[k]? = some (bI g cs t)):fE w g cs t:=m.get k hk
theorem Mem.o(m:Mem w0 w is)(k:Nat){xs:List ak}(hk:is[k]? = some (oI E c A n cap xs)):Ow w0 w [] E c A n cap xs:=by
 have h:w.ownsRow 0 E c (.slice A n cap) n xs:=m.get k hk;refine⟨⟨h.1,?_⟩,fun _ _ h=>(by cases h),fun _ h=>(by cases h)⟩;rcases oY h with ⟨rfl,rfl,rfl,_⟩ | ⟨g,cur,rfl,_,h2,h3⟩
 · exact .inl ⟨O,O⟩
 · exact .inr ⟨g,cap,cur,O,m.ge _ (bn hk) g O,h2,h3⟩
theorem Mem.bo(m:Mem w0 w is)(k:Nat){g:Nat}{cs:List ak}(hk:is[k]? = some (bI g cs t))(hl:cs.length=n*c)(hm:n≤maxLen):Ow w0 w [] t c (some ⟨g,0,none⟩) n n cs :=
 Ow.mk' (m.b k hk) (m.ge _ (bn hk) g rfl) hl hm
theorem Mem.toO(m:Mem w0 w is)(k:Nat){g:Nat}{cs:List ak}(hk:is[k]? = some (bI g cs t))(hl:cs.length=n*c)(hm:n≤maxLen):∃i,i=oI t c (some ⟨g,0,none⟩) n n cs∧i.P w:=⟨_,rfl,(m.bo k hk hl hm).own.1,.inr ⟨g,n,_,rfl,bw _,m.b k hk,av _,hm,by simpa using hl,by simp[←hl]⟩⟩
theorem Mem.new{i:It}(m:Mem w0 w is)(e:dY w w')(hi:i.P w')(hg:∀b,i.own b→w.heap.size≤b):Mem w0 w' (i::is):=by
 have m':=m.ext' e;refine⟨m'.ext,fun j hj=>?_,fun j hj=>?_,bq.2 ⟨fun j hj b h1 h2=>?_,m'.nd⟩⟩
 · rcases ao.1 hj with rfl | hj
   · exact hi
   · exact m'.all j hj
 · rcases ao.1 hj with rfl | hj
   · exact fun b hb=>aw m.ext.size (hg b hb)
   · exact m'.ge j hj
 · have:=j.lt w b (m.all j hj) h2
   have:=hg b h1;omega
theorem Mem.newB{g:Nat}{cs:List ak}(m:Mem w0 w is)(e:dY w w')(hg:w.heap.size≤g)(hB:fE w' g cs t):Mem w0 w' (bI g cs t::is):=m.new e hB (fun b h=>by cases h;exact hg)
theorem Mem.newO{S:List (Option Nat)}{xs:List ak}(m:Mem w0 w is)(e:dY w w')(h:Ow w w' S E c A n cap xs):Mem w0 w' (oI E c A n cap xs::is):=by
 refine m.new e (i:=oI E c A n cap xs) ?_ h.ge;refine⟨h.own.1,?_⟩;rcases h.cases with ⟨rfl,rfl,rfl,_⟩ | ⟨g,cur,rfl,_,h2,h3⟩
 · exact .inl ⟨O,O⟩
 · exact .inr ⟨g,cap,cur,O,bw _,h2,h3⟩
theorem Mem.nilO(m:Mem w0 w is)(E:ay)(c:Nat):Mem w0 w (oI E c none 0 0 []::is):=m.newO (dY.refl w) (Ow.nil w w E c)
theorem adF{i i':It}:∀(is:List It) (k:Nat),is.Pairwise Ap→is[k]? = some i→(∀x∈is,Ap i x→Ap i' x)→(is.set k i').Pairwise Ap
 | [],_,_,h,_=>by cases h
 | j::is,0,hp,h,hc=>by
  cases h;rw[iz];have:=bq.1 hp;exact bq.2 ⟨fun x hx=>hc x (bm _ hx) (this.1 x hx),this.2⟩
 | j::is,k+1,hp,h,hc=>by
  rw[gl];have hp':=bq.1 hp;have h':is[k]? = some i:=h;refine bq.2 ⟨fun x hx=>?_,adF is k hp'.2 h' fun x hx=>hc x (bm _ hx)⟩;rcases ke hx with hx | rfl
  · exact hp'.1 x hx
  · exact (hc j (bj ..) (hp'.1 i (bn h')).symm).symm
theorem Mem.put{i i':It}(m:Mem w0 w is)(k:Nat)(hk:is[k]? = some i)(hos:w'.os=w.os)(ht:w'.tape=w.tape)(ho:w'.output=w.output)(hs:w.heap.size≤w'.heap.size)(hb:∀b,b<w.heap.size→¬i.own b→w'.heap[b]? = w.heap[b]?)
 (hi:i'.P w') (hid:(∀b,i'.own b→i.own b)∨∀b,i'.own b→w.heap.size≤b):Mem w0 w' (is.set k i'):=by
 have hmem:=bn hk;refine⟨⟨hos.trans m.ext.os,ht.trans m.ext.tape,ho.trans m.ext.output,aw m.ext.size hs,fun b hlt=>(hb b (Nat.lt_of_lt_of_le hlt m.ext.size) fun e=>?_).trans (Below.block m.ext b hlt)⟩,fun j hj=>?_,fun j hj b hjb=>?_,adF is k m.nd hk fun x hx ha b h1 h2=>?_⟩
 · have:=m.ge i hmem b e
   omega
 · obtain⟨q,hq,e⟩:=lh hj
   rw[List.getElem_set] at e;split at e
   · subst e;exact hi
   · rename_i hne
     rw[List.length_set] at hq;have hj':j∈is:=e▸fl hq;have hq':is[q]? = some j:=by rw[←e];exact ar hq
     refine j.st w w' (m.all j hj') hs fun b hjb=>hb b (j.lt w b (m.all j hj') hjb) fun hib=>?_;have hklt:k<is.length:=(ax.1 hk).1;have hki:is[k]=i:=(ax.1 hk).2;rcases Nat.lt_or_gt_of_ne hne with h | h
     · have:=kf.1 m.nd k q hklt hq h
       rw[hki,e] at this;exact this b hib hjb
     · have:=kf.1 m.nd q k hq hklt h
       rw[hki,e] at this;exact this b hjb hib
 · rcases ke hj with hj | rfl
   · exact m.ge j hj b hjb
   · rcases hid with hid | hid
     · exact m.ge i hmem b (hid b hjb)
     · exact aw m.ext.size (hid b hjb)
 · rcases hid with hid | hid
   · exact ha b (hid b h1) h2
   · have:=hid b h1
     have:=x.lt w b (m.all x hx) h2;omega
theorem Mem.reO(m:Mem w0 w is)(k:Nat){n' cap':Nat}{xs xs':List ak}(hk:is[k]? = some (oI E c A n cap xs))(h:Ow w0 w [] E c A n' cap' xs'):Mem w0 w (is.set k (oI E c A n' cap' xs')):=by
 refine m.put k hk O O O (av _) (fun _ _ _=>rfl) ?_ (.inl fun _ h=>h);refine⟨h.own.1,?_⟩;rcases h.cases with ⟨rfl,rfl,rfl,_⟩ | ⟨g,cur,rfl,_,h2,h3⟩
 · exact .inl ⟨O,O⟩
 · exact .inr ⟨g,cap',cur,O,bw _,h2,h3⟩
theorem Mem.own(m:Mem w0 w is)(k:Nat){g:Nat}{cs:List ak}(hk:is[k]? = some (bI g cs t))(hl:cs.length=n*c)(hm:n≤maxLen):Mem w0 w (is.set k (oI t c (some ⟨g,0,none⟩) n n cs)):=by
 obtain⟨i,rfl,h⟩:=m.toO k hk hl hm;exact m.put k hk O O O (av _) (fun _ _ _=>rfl) h (.inl fun _ h=>h)
theorem jO{a b:Nat}(h:Nat.ble a b=true):a≤b:=Nat.le_of_ble_eq_true h
theorem nQ{us:List ak}(h:(us.all (·.oneCell'))=true):∀u∈us,u.oneCell'=true:=fun u hu=>dt.1 h u hu
end
section
variable {P:bz} {ds:List dl} {l:List ak} {x y:cd} {T ty:ay}
variable {ops:Array Oper} {Q:Exit→Act→am→Prop} {rest:List Oper} {d:Nat} {pos:String} {after:Array Edge} {w w0:am} {is:List It}
theorem asp{cs:List ak}(m:Mem w0 w is)(hv:(ev l x).cells=cs.toArray)(h:∀g u,Mem w0 u (bI g cs T::is)→au P ops Q rest (Fr (l.set d (.pointer (some ⟨g,0,none⟩))) ds) u) :
 au P ops Q (bp (some d) (.box T x) ty pos after none::rest) (Fr l ds) w:=aff hv fun u g e hg hB=>h g u (m.newB e hg hB)
theorem lA{cs:List ak}{z:ak}(m:Mem w0 w is)(hZ:pU P T z)(hv:z.cells=cs.toArray)(h:∀g u,Mem w0 u (bI g cs T::is)→au P ops Q rest (Fr (l.set d (.pointer (some ⟨g,0,none⟩))) ds) u) :
 au P ops Q (bp (some d) (.alloc T) ty pos after none::rest) (Fr l ds) w:=Ab hZ hv fun u g e hg hB=>h g u (m.newB e hg hB)
theorem aji{g off:Nat}{cs us:List ak}{t:ay}(m:Mem w0 w is)(k:Nat)(hk:is[k]? = some (bI g cs t))(hx:ev l x=.pointer (some ⟨g,off,none⟩))(hv:(ev l y).cells=us.toArray)(hc:dQ P T us.length)(hfit:off+us.length≤cs.length)(h1:(us.all (·.oneCell'))=true)
 (h:∀u,Mem w0 u (is.set k (bI g (bQ cs off us) t))→au P ops Q rest (Fr l ds) u):au P ops Q (bp none (.store T x y) ty pos after none::rest) (Fr l ds) w :=
 kY hx hv hc (m.b k hk) hfit (nQ h1) fun u hC hB=>h u (m.put k hk hC.os hC.tape hC.output (by rw[hC.size];exact av _) (fun b _ hne=>hC.block b fun e=>hne (by rw[e];rfl)) hB (.inl fun _ h=>h))
theorem aab{g off:Nat}{us xs:List ak}{E:ay}{c n cap:Nat}(m:Mem w0 w is)(k:Nat)(hk:is[k]? = some (oI E c (some ⟨g,0,none⟩) n cap xs))(hx:ev l x=.pointer (some ⟨g,off,none⟩))(hv:(ev l y).cells=us.toArray)(hc:dQ P T us.length)(hfit:off+us.length≤n*c)(h1:(us.all (·.oneCell'))=true)
 (h:∀u,Mem w0 u (is.set k (oI E c (some ⟨g,0,none⟩) n cap (bQ xs off us)))→au P ops Q rest (Fr l ds) u):au P ops Q (bp none (.store T x y) ty pos after none::rest) (Fr l ds) w :=
 ajh hx hv hc (m.o k hk) hfit (nQ h1) fun u hW hO=>h u (m.put k hk hW.os hW.tape hW.output hW.size (fun b hb hne=>hW.block b hb hne) (by
  refine⟨hO.own.1,?_⟩;rcases hO.cases with ⟨e,_⟩ | ⟨g,cur,e,_,h2,h3⟩
  · cases e
  · cases e;exact .inr ⟨_,cap,cur,O,bw _,h2,h3⟩) (.inl fun _ h=>h))
theorem oP{v:ak}{f:FuncId}{fo:cd}{xs:Array cd}{args:List ak}{first cap:Array ak}{a0:Array ay}(m:Mem w0 w is)(hf:ev l fo=.func (.func f) first cap)(hxs:first.toList++xs.toList.map (ev l)++cap.toList=args)(hc:gS P f args v)
 (h:∀u,Mem w0 u is→au P ops Q rest (Fr (l.set d v) ds) u):au P ops Q (bp (some d) (.call { callee:=.value fo,args:=xs,argTypes:=a0 }) ty pos after none::rest) (Fr l ds) w :=
 Zj hf hxs hc fun u e=>h u (m.ext' e)
theorem dH{f:FuncId}{fo:cd}{xs:Array cd}{args:List ak}{first cap:Array ak}{a0:Array ay}{R:ak→am→Prop}(m:Mem w0 w is)(hf:ev l fo=.func (.func f) first cap)(hxs:first.toList++xs.toList.map (ev l)++cap.toList=args)(hc:dR P f args w R)
 (h:∀v u,Mem w0 u is→R v u→au P ops Q rest (Fr (l.set d v) ds) u):au P ops Q (bp (some d) (.call { callee:=.value fo,args:=xs,argTypes:=a0 }) ty pos after none::rest) (Fr l ds) w :=
 bB hf hxs hc fun v u e hR=>h v u (m.ext' e) hR
def OR(E:ay)(c:Nat)(R:List ak→Prop)(w:am)(v:ak)(w':am):Prop:=∃A n cap xs,v=.slice A n cap∧Ow w w' [] E c A n cap xs∧R xs
theorem cS{E:ay}{c n cap b nm mcap:Nat}{A B:Option Addr}{z:ak}{xs news:List ak}{a0:Array ay}(m:Mem w0 w is)(k:Nat)(hk:is[k]? = some (oI E c A n cap xs))(ha:a0 = #[T,T])(hu:P.underlying T=some (.slice E))(hi:(P.info? E).map (fun i=>(i.size,i.bytes,i.zero))=some (c,b,some z))(hz:z.cells.size=c)(hc:0<c)
 (hs:ev l x=.slice A n cap) (hx:ev l y=.slice B nm mcap) (hl:news.length=nm*c) (hrow:∀j u,news[j]? = some u→∃a,B=some a∧w.cell? (a.add j)=some u) (h1:∀u∈news,u.oneCell'=true) (h63:n+nm≤9223372036854775807) (hbytes:(n+nm)*b≤140737488355328)
 (h:∀A' cap' u,Mem w0 u (is.set k (oI E c A' (n+nm) cap' (xs++news)))→au P ops Q rest (Fr (l.set d (.slice A' (n+nm) cap')) ds) u) :
 au P ops Q (bp (some d) (.call { callee:=.builtin .append,args:=#[x,y],argTypes:=a0 }) ty pos after none::rest) (Fr l ds) w :=
 Xg ha hu hi hz hc m.ext hs (m.o k hk) hx hl hrow h1 h63 hbytes fun A' cap' u hO hW hF=>h A' cap' u (m.put k hk hW.os hW.tape hW.output hW.size (fun b hb hne=>hW.block b hb hne) (by
  refine⟨hO.own.1,?_⟩;rcases hO.cases with ⟨rfl,e1,rfl,_⟩ | ⟨g,cur,rfl,_,h2,h3⟩
  · exact .inl ⟨by rw[e1],e1⟩
  · exact .inr ⟨g,cap',cur,O,bw _,h2,h3⟩) (by
  rcases hF with rfl | hF
  · exact .inl fun _ h=>h
  · exact .inr fun b hb=>by
     have e:Nu A'=some b:=hb;rw[hF] at e;cases e;exact av _))
theorem Rn{cs:List ak}(m:Mem w0 w is)(hv:ev l x=.agg cs.toArray)(h:∀g u,Mem w0 u (bI g cs T::is)→au P ops Q rest (Fr (l.set d (.pointer (some ⟨g,0,none⟩))) ds) u) :
 au P ops Q (bp (some d) (.box T x) ty pos after none::rest) (Fr l ds) w:=asp m (by rw[hv];rfl) h
theorem asq{v:ak}(m:Mem w0 w is)(hv:ev l x=v)(h1:v.cells = #[v])(h:∀g u,Mem w0 u (bI g [v] T::is)→au P ops Q rest (Fr (l.set d (.pointer (some ⟨g,0,none⟩))) ds) u) :
 au P ops Q (bp (some d) (.box T x) ty pos after none::rest) (Fr l ds) w:=asp m (by rw[hv,h1]) h
theorem cL{g off:Nat}{cs us:List ak}{t:ay}(m:Mem w0 w is)(k:Nat)(hk:is[k]? = some (bI g cs t))(hx:ev l x=.pointer (some ⟨g,off,none⟩))(hv:ev l y=.agg us.toArray)(hc:dQ P T us.length)(hfit:off+us.length≤cs.length)(h1:(us.all (·.oneCell'))=true)
 (h:∀u,Mem w0 u (is.set k (bI g (bQ cs off us) t))→au P ops Q rest (Fr l ds) u):au P ops Q (bp none (.store T x y) ty pos after none::rest) (Fr l ds) w:=aji m k hk hx (by rw[hv];rfl) hc hfit h1 h
theorem fK{g off:Nat}{cs:List ak}{v:ak}{t:ay}(m:Mem w0 w is)(k:Nat)(hk:is[k]? = some (bI g cs t))(hx:ev l x=.pointer (some ⟨g,off,none⟩))(hv:ev l y=v)(hc:dQ P T 1)(hfit:off+1≤cs.length)(h1:v.oneCell'=true∧v.cells = #[v])
 (h:∀u,Mem w0 u (is.set k (bI g (bQ cs off [v]) t))→au P ops Q rest (Fr l ds) u):au P ops Q (bp none (.store T x y) ty pos after none::rest) (Fr l ds) w:=aji (us:=[v]) m k hk hx (by rw[hv,h1.2]) hc hfit (by simp[h1.1]) h
theorem fE.full{g:Nat}{cs:List ak}{t:ay}(h:fE w g cs t)(hA:fP P T true)(hc:dQ P T cs.length):nO P w T ⟨g,0,none⟩ (.agg cs.toArray):=by
 have:=h.row 0;rw[od] at this;exact this.lies hA hc
theorem Mem.s01{w0 w:am}{i j:It}{is:List It}(m:Mem w0 w (i::j::is)):Mem w0 w (j::i::is):=by
 have h1:=bq.1 m.nd;have h2:=bq.1 h1.2;refine⟨m.ext,fun x hx=>m.all x ?_,fun x hx=>m.ge x ?_,bq.2 ⟨fun x hx=>?_,bq.2 ⟨fun x hx=>h1.1 x (bm _ hx),h2.2⟩⟩⟩
 · simp only[ao] at hx ⊢;rcases hx with h | h | h <;> simp[h]
 · simp only[ao] at hx ⊢;rcases hx with h | h | h <;> simp[h]
 · rcases ao.1 hx with rfl | hx
   · exact (h1.1 _ (bj ..)).symm
   · exact h2.1 x hx
/-! ### Regions -/
theorem eB{id:Nat}{a:Act}{l:List Oper}(m:Mem w0 w is)(n:Nat)(hm:P.follows .mixedOrders=true)(hB:Region.lexTailB .any l.toArray n=true)
 (h:cq P l.toArray (fun u=>Mem w0 u is) (fun a'=>∀u,Mem w0 u is→au P l.toArray Q (l.drop n) a' u) (l.take n) a):(Code.region id l.toArray true).wp P Q a w :=
 nR (C:=fun u=>Mem w0 u is) n hm hB (m.ext' (dY.refl w).drawn) h
theorem mq{id:Nat}{a:Act}{l:List Oper}(m:Mem w0 w is)(hm:P.follows .mixedOrders=true)(hB:Region.lexB .any l.toArray=true)
 (h:cq P l.toArray (fun u=>Mem w0 u is) (fun a'=>∀u,Mem w0 u is→Q .normal a' u) l a):(Code.region id l.toArray true).wp P Q a w :=
 wp_region_quiet (C:=fun u=>Mem w0 u is) hm hB (m.ext' (dY.refl w).drawn) (by simpa using h)
theorem mh{id:Nat}{a:Act}{l:List Oper}(m:Mem w0 w is)(bs:List Bool)(o:List (Nat × Bool))(hm:P.follows .mixedOrders=true)(hB:(Region.noSelect l.toArray&&decide (o.length=l.length)&&Is .any l.toArray o (fy l.toArray.size false))=true)
 (hQ:∀c d v a w,Q (.panic c) (Act.put a d v) w→Q (.panic c) a w) {ol:List (Oper × Bool)} (hol:(o.map fun x=>((l.toArray[x.1]?).getD default,x.2))=ol)
 (h:∀u,Mem w0 u is→bJ P l.toArray (fun u=>Mem w0 u (rG bs is)) Q ol a u):(Code.region id l.toArray true).wp P Q a w :=
 Bz o hm hB hQ hol fun u e=>⟨fun u=>Mem w0 u (rG bs is),(m.ext' e).sel bs,h u (m.ext' e)⟩
theorem mhe{id:Nat}{a:Act}{l:List Oper}(m:Mem w0 w is)(bs:List Bool)(o:List (Nat × Bool))(hm:P.follows .mixedOrders=true)(hB:(Region.noSelect l.toArray&&decide (o.length=l.length)&&Is .any l.toArray o (fy l.toArray.size false))=true)
 (hQ:∀c d v a w,Q (.panic c) (Act.put a d v) w→Q (.panic c) a w) {ol:List (Oper × Bool)} (hol:(o.map fun x=>((l.toArray[x.1]?).getD default,x.2))=ol)
 (h:∀u,dY w u→Mem w0 u is→bJ P l.toArray (fun u=>Mem w0 u (rG bs is)) Q ol a u):(Code.region id l.toArray true).wp P Q a w :=
 Bz o hm hB hQ hol fun u e=>⟨fun u=>Mem w0 u (rG bs is),(m.ext' e).sel bs,h u e (m.ext' e)⟩
theorem Xh{id:Nat}{a:Act}{l:List Oper}(m:Mem w0 w is)(bs:List Bool)(t:rZ)(hm:P.follows .mixedOrders=true)(hB:(Region.noSelect l.toArray&&t.ok .any l.toArray l.toArray.size (fy l.toArray.size false))=true)
 (hQ:∀c d v a w,Q (.panic c) (Act.put a d v) w→Q (.panic c) a w)
 (h:∀u,Mem w0 u is→cD P l.toArray (fun u=>Mem w0 u (rG bs is)) Q t a u):(Code.region id l.toArray true).wp P Q a w :=
 Rj t hm hB hQ fun u e=>⟨fun u=>Mem w0 u (rG bs is),(m.ext' e).sel bs,h u (m.ext' e)⟩
theorem mf1{tl:List Oper}{i d:Nat}{T:ay}{cs:List ak}(m:Mem w0 w is)(h:∀g u,Mem w0 u (bI g cs T::is)→au P ops Q tl (Fr (l.set d (.pointer (some ⟨g,0,none⟩))) ds) u) :
 ∀E w',dY w w'→Ln w.heap.size E [⟨i,d,T,cs⟩] w'→(∀x∈[(⟨i,d,T,cs⟩:Al)],∃v,E x.i=some v)→au P ops Q tl (gU E [⟨i,d,T,cs⟩] (Fr l ds)) w' :=
 ap3 fun u g e hg hB=>h g u (m.newB e hg hB)
theorem Mem.newB2{w w':am}{is:List It}{g g2:Nat}{cs cs2:List ak}{t t2:ay}(m:Mem w0 w is)(e:dY w w')(hg:w.heap.size≤g)(hg2:w.heap.size≤g2)(hB:fE w' g cs t)(hB2:fE w' g2 cs2 t2)(hne:g2≠g):Mem w0 w' (bI g2 cs2 t2::bI g cs t::is):=by
 have m1:=m.newB e hg hB;refine⟨m1.ext,fun j hj=>?_,fun j hj=>?_,bq.2 ⟨fun j hj b h1 h2=>?_,m1.nd⟩⟩
 · rcases ao.1 hj with rfl | hj
   · exact hB2
   · exact m1.all j hj
 · rcases ao.1 hj with rfl | hj
   · exact fun b hb=>by cases hb;exact aw m.ext.size hg2
   · exact m1.ge j hj
 · cases h1
   rcases ao.1 hj with rfl | hj
   · cases h2;exact hne O
   · have:=j.lt w _ (m.all j hj) h2
     omega
theorem mf2{tl:List Oper}{i d j e:Nat}{T U:ay}{cs us:List ak}(m:Mem w0 w is)(hij:i≠j)(h:∀g k u,Mem w0 u (bI k us U::bI g cs T::is)→au P ops Q tl (Fr ((l.set d (.pointer (some ⟨g,0,none⟩))).set e (.pointer (some ⟨k,0,none⟩))) ds) u) :
 ∀E w',dY w w'→Ln w.heap.size E [⟨i,d,T,cs⟩,⟨j,e,U,us⟩] w'→(∀x∈[(⟨i,d,T,cs⟩:Al),⟨j,e,U,us⟩],∃v,E x.i=some v)→au P ops Q tl (gU E [⟨i,d,T,cs⟩,⟨j,e,U,us⟩] (Fr l ds)) w' :=
 ap4 hij fun u g k e hg hk hB hK hne=>h g k u (m.newB2 e hg hk hB hK hne)
theorem asr{c:Code}{a:Act}{l:Nat→Nat→List ak}{c1 c2:List ak}{T1 T2:ay}(m:Mem w0 w is)(h1:c.wp P (fun e a' u=>e=.normal∧∃g k,a'=Fr (l g k) ds∧Mem w0 u (bI k c2 T2::bI g c1 T1::is)) a w)
 (h2:∀g k u,Mem w0 u (bI k c2 T2::bI g c1 T1::is)→Q .normal (Fr (l g k) ds) u):c.wp P Q a w:=by
 refine Code.wp_mono ?_ h1;rintro e a' u ⟨rfl,g,k,rfl,m'⟩;exact h2 g k u m'
end
section
variable {P:bz} {w0:am} {is:List It} {l:List ak} {x y:cd} {T ty:ay}
variable {ops:Array Oper} {Q:Act→Prop} {rest:List Oper} {d:Nat} {pos:String} {after:Array Edge} {v:ak} {ds:List dl}
theorem ql{a:Addr}(hx:ev l x=.pointer (some a))(hv:∀u,Mem w0 u is→nO P u T a v)(h:cq P ops (fun u=>Mem w0 u is) Q rest (Fr (l.set d v) ds)):cq P ops (fun u=>Mem w0 u is) Q (bp (some d) (.load T x) ty pos after none::rest) (Fr l ds) :=
 jZ (fun u m=>aZ hx (hv u m)) h
theorem qc{f:FuncId}{fo:cd}{xs:Array cd}{args:List ak}{first cap:Array ak}{a0:Array ay}(hf:ev l fo=.func (.func f) first cap)(hxs:first.toList++xs.toList.map (ev l)++cap.toList=args)(hc:∀u,Mem w0 u is→dR P f args u fun x _=>x=v)
 (h:cq P ops (fun u=>Mem w0 u is) Q rest (Fr (l.set d v) ds)):cq P ops (fun u=>Mem w0 u is) Q (bp (some d) (.call { callee:=.value fo,args:=xs,argTypes:=a0 }) ty pos after none::rest) (Fr l ds):=by
 refine wpQuiet_step fun K hK=>?_;rw[if_pos (by simp[Region.wanted])];refine⟨v,fun w' hw=>?_,?_⟩
 · unfold Oper.quietAt
   rw[iZ,oX (hc w' hw).1 hf hxs _ rfl];refine⟨O,(hc w' hw).2.mono ?_⟩;rintro e w'' ⟨u,rfl,hE,rfl⟩;exact⟨O,hw.ext' hE⟩
 · show K ((Fr l ds).put (some d) v)
   rw[gY];exact hK _ h
theorem kR{f:FuncId}{fo:cd}{xs:Array cd}{args:List ak}{first cap:Array ak}{a0:Array ay}(hf:ev l fo=.func (.func f) first cap)(hxs:first.toList++xs.toList.map (ev l)++cap.toList=args)(hc:gS P f args v)
 (h:cq P ops (fun u=>Mem w0 u is) Q rest (Fr (l.set d v) ds)):cq P ops (fun u=>Mem w0 u is) Q (bp (some d) (.call { callee:=.value fo,args:=xs,argTypes:=a0 }) ty pos after none::rest) (Fr l ds):=qc hf hxs (fun u _=>hc u) h
end
structure GX(w w':am):Prop where
 ext:dY w w'
 dr:w.drawn≤w'.drawn
theorem GX.grow{w':am}(h:GX w w'):∃q os,w'=Sort.grow (w.drewN q) os:=by
 refine⟨w'.drawn-w.drawn,w'.heap.extract w.heap.size w'.heap.size,?_⟩;have e1:w.heap++w'.heap.extract w.heap.size w'.heap.size=w'.heap:=by
  apply lv;intro i;rw[Array.getElem?_append];split
  · rename_i hi
    exact (Below.block h.ext i hi).symm
  · rename_i hi
    rw[Array.getElem?_extract];have:=h.ext.size;split
    · congr 1;omega
    · rw[Array.getElem?_eq_none (by omega)]
 have e2:w.drawn+(w'.drawn-w.drawn)=w'.drawn:=by have:=h.dr;omega
 have h1:=h.ext.os;have h2:=h.ext.tape;have h3:=h.ext.output;cases w;cases w';simp only[Sort.grow,World.drewN] at *
 subst h1 h2 h3;rw[e1,e2]
structure jB(w0 w:am)(is:List It):Prop where
 ext:GX w0 w
 mem:Mem w0 w is
def uU(P:bz)(f:FuncId)(args:List ak)(v:ak):Prop:=∀w,Entr P f∧Calls P f args.toArray w fun e w'=>∃u,e=.returned u∧GX w w'∧u=v
theorem uU.pure{P:bz}{f:FuncId}{args:List ak}{v:ak}(h:uU P f args v):gS P f args v:=fun w=>⟨(h w).1,(h w).2.mono fun _ _ ⟨u,he,hX,hv⟩=>⟨u,he,hX.ext,hv⟩⟩
section
variable {w0 w w':am} {is:List It}
theorem jB.refl(w:am):jB w w []:=⟨⟨dY.refl w,av _⟩,Mem.refl w⟩
theorem jB.go(m:jB w0 w is){js:List It}(h:Mem w0 w' js)(d:w.drawn≤w'.drawn):jB w0 w' js:=⟨⟨h.ext,aw m.ext.dr d⟩,h⟩
theorem jB.ext' (m:jB w0 w is)(e:GX w w'):jB w0 w' is:=m.go (m.mem.ext' e.ext) e.dr
theorem jB.b(m:jB w0 w is)(k:Nat){g:Nat}{cs:List ak}(hk:is[k]? = some (bI g cs t)):fE w g cs t:=m.mem.b k hk
end
section
variable {P:bz} {ds:List dl} {l:List ak} {x y:cd} {T ty:ay}
variable {ops:Array Oper} {Q:Exit→Act→am→Prop} {rest:List Oper} {d:Nat} {pos:String} {after:Array Edge} {w w0:am} {is:List It} {v:ak}
theorem ass{cs:List ak}(m:jB w0 w is)(hv:(ev l x).cells=cs.toArray)(h:∀g u,jB w0 u (bI g cs T::is)→au P ops Q rest (Fr (l.set d (.pointer (some ⟨g,0,none⟩))) ds) u) :
 au P ops Q (bp (some d) (.box T x) ty pos after none::rest) (Fr l ds) w :=
 lU (w':=w.alloc (.cells cs.toArray T)) (v:=.pointer (some ⟨w.heap.size,0,none⟩)) (fun o ho _=>by simp[da,ho,bW,Instr.box,newVar,newRow,hv,newObj,Sem.run]) (h _ _ (m.go (m.mem.newB ((dY.refl w).alloc _) (av _) (jP w cs T)) (av _)))
theorem pW{cs:List ak}(m:jB w0 w is)(hv:ev l x=.agg cs.toArray)(h:∀g u,jB w0 u (bI g cs T::is)→au P ops Q rest (Fr (l.set d (.pointer (some ⟨g,0,none⟩))) ds) u) :
 au P ops Q (bp (some d) (.box T x) ty pos after none::rest) (Fr l ds) w:=ass m (by rw[hv];rfl) h
theorem am9{cs:List ak}{z:ak}(m:jB w0 w is)(hZ:pU P T z)(hv:z.cells=cs.toArray)(h:∀g u,jB w0 u (bI g cs T::is)→au P ops Q rest (Fr (l.set d (.pointer (some ⟨g,0,none⟩))) ds) u) :
 au P ops Q (bp (some d) (.alloc T) ty pos after none::rest) (Fr l ds) w:=by
 obtain⟨inf,hi,hz⟩:=hZ;exact lU (w':=w.alloc (.cells cs.toArray T)) (v:=.pointer (some ⟨w.heap.size,0,none⟩)) (fun o ho _=>by simp[da,ho,Instr.alloc,zeroValue,typeInfo,hi,hz,newVar,newRow,hv,newObj,Sem.run]) (h _ _ (m.go (m.mem.newB ((dY.refl w).alloc _) (av _) (jP w cs T)) (av _)))
theorem ana{g off:Nat}{cs us:List ak}{t:ay}(m:jB w0 w is)(k:Nat)(hk:is[k]? = some (bI g cs t))(hx:ev l x=.pointer (some ⟨g,off,none⟩))(hv:(ev l y).cells=us.toArray)(hc:dQ P T us.length)(hfit:off+us.length≤cs.length)(h1:(us.all (·.oneCell'))=true)
 (h:∀u,jB w0 u (is.set k (bI g (bQ cs off us) t))→au P ops Q rest (Fr l ds) u):au P ops Q (bp none (.store T x y) ty pos after none::rest) (Fr l ds) w:=by
 have hB:=m.b k hk;have hC:=Ac w g (bQ cs off us).toArray;exact Iv (w':=w.setRow g (bQ cs off us).toArray) (fun o ho=>by simp[da,ho,bW,hx,Instr.storeAt,Instr.sureAddr,Iy hc hv hB hfit (nQ h1)])
  (h _ (m.go (m.mem.put k hk hC.os hC.tape hC.output (by rw[hC.size];exact av _) (fun b _ hne=>hC.block b fun e=>hne (by rw[e];rfl)) (setRow_heap w g cs.toArray _ t _ hB) (.inl fun _ h=>h)) (av _)))
theorem ajj{g off:Nat}{cs us:List ak}{t:ay}(m:jB w0 w is)(k:Nat)(hk:is[k]? = some (bI g cs t))(hx:ev l x=.pointer (some ⟨g,off,none⟩))(hv:ev l y=.agg us.toArray)(hc:dQ P T us.length)(hfit:off+us.length≤cs.length)(h1:(us.all (·.oneCell'))=true)
 (h:∀u,jB w0 u (is.set k (bI g (bQ cs off us) t))→au P ops Q rest (Fr l ds) u):au P ops Q (bp none (.store T x y) ty pos after none::rest) (Fr l ds) w:=ana m k hk hx (by rw[hv];rfl) hc hfit h1 h
theorem Pr{f:FuncId}{fo:cd}{xs:Array cd}{args:List ak}{first cap:Array ak}{a0:Array ay}(m:jB w0 w is)(hf:ev l fo=.func (.func f) first cap)(hxs:first.toList++xs.toList.map (ev l)++cap.toList=args)(hc:uU P f args v)
 (h:∀u,jB w0 u is→au P ops Q rest (Fr (l.set d v) ds) u):au P ops Q (bp (some d) (.call { callee:=.value fo,args:=xs,argTypes:=a0 }) ty pos after none::rest) (Fr l ds) w:=by
 refine wpList_plain O fun K hK=>?_;unfold Oper.wp;rw[iZ,oX (hc w).1 hf hxs _ rfl];refine (hc w).2.mono ?_;rintro e w' ⟨u,rfl,hE,rfl⟩;show K ((Fr l ds).put (some d) u) w'
 rw[gY];exact hK _ _ (h w' (m.ext' hE))
theorem jB.drew(m:jB w0 w is):jB w0 { w with drawn:=w.drawn+1 } is:=m.ext' ⟨(dY.refl w).drawn,Nat.le_succ _⟩
theorem Ro{id:Nat}{a:Act}{l:List Oper}(m:jB w0 w is)(n:Nat)(hm:P.follows .mixedOrders=true)(hB:Region.lexTailB .any l.toArray n=true)
 (h:cq P l.toArray (fun u=>jB w0 u is) (fun a'=>∀u,jB w0 u is→au P l.toArray Q (l.drop n) a' u) (l.take n) a):(Code.region id l.toArray true).wp P Q a w :=
 nR (C:=fun u=>jB w0 u is) n hm hB m.drew h
theorem Gmq{id:Nat}{a:Act}{l:List Oper}(m:jB w0 w is)(hm:P.follows .mixedOrders=true)(hB:Region.lexB .any l.toArray=true)
 (h:cq P l.toArray (fun u=>jB w0 u is) (fun a'=>∀u,jB w0 u is→Q .normal a' u) l a):(Code.region id l.toArray true).wp P Q a w :=
 wp_region_quiet (C:=fun u=>jB w0 u is) hm hB m.drew (by simpa using h)
end
section
variable {P:bz} {w0:am} {is:List It} {l:List ak} {x y:cd} {T ty:ay}
variable {ops:Array Oper} {Q:Act→Prop} {rest:List Oper} {d:Nat} {pos:String} {after:Array Edge} {v:ak} {ds:List dl}
theorem Vk{a:Addr}(hx:ev l x=.pointer (some a))(hv:∀u,jB w0 u is→nO P u T a v)(h:cq P ops (fun u=>jB w0 u is) Q rest (Fr (l.set d v) ds)):cq P ops (fun u=>jB w0 u is) Q (bp (some d) (.load T x) ty pos after none::rest) (Fr l ds) :=
 jZ (fun u m=>aZ hx (hv u m)) h
theorem Jj{f:FuncId}{fo:cd}{xs:Array cd}{args:List ak}{first cap:Array ak}{a0:Array ay}(hf:ev l fo=.func (.func f) first cap)(hxs:first.toList++xs.toList.map (ev l)++cap.toList=args)(hc:uU P f args v)
 (h:cq P ops (fun u=>jB w0 u is) Q rest (Fr (l.set d v) ds)):cq P ops (fun u=>jB w0 u is) Q (bp (some d) (.call { callee:=.value fo,args:=xs,argTypes:=a0 }) ty pos after none::rest) (Fr l ds):=by
 refine wpQuiet_step fun K hK=>?_;rw[if_pos (by simp[Region.wanted])];refine⟨v,fun w' hw=>?_,?_⟩
 · unfold Oper.quietAt
   rw[iZ,oX (hc w').1 hf hxs _ rfl];refine⟨O,(hc w').2.mono ?_⟩;rintro e w'' ⟨u,rfl,hE,rfl⟩;exact⟨O,hw.ext' hE⟩
 · show K ((Fr l ds).put (some d) v)
   rw[gY];exact hK _ h
end
def P3.Lt(p q:P3):Prop:=p.x<q.x∨p.x=q.x∧(p.y<q.y∨p.y=q.y∧p.z<q.z)
variable{q:P3}
instance (p q:P3):Decidable (p.Lt q):=by unfold P3.Lt;infer_instance
def sA(p q:P3):Int:=if p.Lt q then -1 else if q.Lt p then 1 else 0
theorem P3.eq{p:P3}(h1:p.x=q.x)(h2:p.y=q.y)(h3:p.z=q.z):p=q:=by
 cases p;cases q;simp_all
instance:DecidableEq P3:=fun p q=>if h:p.x=q.x∧p.y=q.y∧p.z=q.z then isTrue (P3.eq h.1 h.2.1 h.2.2) else isFalse fun e=>h (by subst e;exact⟨rfl,rfl,rfl⟩)
theorem P3.lt_irrefl(p:P3):¬p.Lt p:=by unfold P3.Lt;omega
theorem P3.lt_trans{p r:P3}(h:p.Lt q)(k:q.Lt r):p.Lt r:=by unfold P3.Lt at *;omega
theorem P3.lt_tri(p q:P3):p.Lt q∨p=q∨q.Lt p:=by
 by_cases h1:p.x=q.x
 · by_cases h2:p.y=q.y
   · by_cases h3:p.z=q.z
     · exact .inr (.inl (P3.eq h1 h2 h3))
     · unfold P3.Lt;omega
   · unfold P3.Lt;omega
 · unfold P3.Lt;omega
theorem P3.lt_x{p:P3}(h:¬p.x=q.x):p.Lt q↔p.x<q.x:=by unfold P3.Lt;omega
theorem P3.lt_y{p:P3}(h:p.x=q.x)(h2:¬p.y=q.y):p.Lt q↔p.y<q.y:=by unfold P3.Lt;omega
theorem P3.lt_z{p:P3}(h:p.x=q.x)(h2:p.y=q.y):p.Lt q↔p.z<q.z:=by unfold P3.Lt;omega
@[irreducible] def Ps(c:Bool)(v:ak):ak:=if c then v else undef
theorem lN{v:ak}:Ps true v=v:=by simp[Ps]
theorem De{v:ak}:Ps false v=undef:=by simp[Ps]
theorem aX{c:Bool}{u v:ak}(hb:c=true)(h:u=Ps c v):u=v:=by rw[h,hb,lN]
section
variable {P:bz} {ds:List dl} {l:List ak} {x y:cd} {T ty:ay} {b c:Bool} {v:ak}
theorem cE{z:cd}(hz:ev l z=.bool b)(hx:ev l x=Ps b (.bool c))(hy:ev l y=.bool false):iO P l (.pick z x y) ty (.bool (b&&c)):=by
 have:=Zi (P:=P) (ty:=ty) (x:=x) (y:=y) hz;cases b with
 | false=>simpa[hy] using this
 | true=>simpa[hx,lN] using this
theorem eG{z:cd}(hz:ev l z=.bool b)(hx:ev l x=.bool true)(hy:ev l y=Ps (!b) (.bool c)):iO P l (.pick z x y) ty (.bool (b||c)):=by
 have:=Zi (P:=P) (ty:=ty) (x:=x) (y:=y) hz;cases b with
 | false=>simpa[hy,lN] using this
 | true=>simpa[hx] using this
end
section
variable {P:bz} {ops:Array Oper} {Q:Exit→Act→am→Prop} {rest:List Oper} {d j:Nat} {op:Op} {ty:ay} {pos:String} {after:Array Edge} {v:ak} {b:Bool} {ds:List dl} {l:List ak} {w w0:am} {is:List It}
theorem fO(hw:yielded ops l.toArray j=some b)(hr:b=true→Aa P l op ty v w)(h:au P ops Q rest (Fr (l.set d (Ps b v)) ds) w):au P ops Q (bp (some d) op ty pos after (some (j,true))::rest) (Fr l ds) w:=by
 cases b with
 | false=>rw[De] at h;exact kX hw h
 | true=>rw[lN] at h;exact eY hw (eD (hr O) h)
theorem fG(hw:yielded ops l.toArray j=some b)(hr:(!b)=true→Aa P l op ty v w)(h:au P ops Q rest (Fr (l.set d (Ps (!b) v)) ds) w):au P ops Q (bp (some d) op ty pos after (some (j,false))::rest) (Fr l ds) w:=by
 cases b with
 | true=>rw[jg,De] at h;exact Fc hw h
 | false=>rw[jv,lN] at h;exact eY hw (eD (hr O) h)
theorem dW(hw:yielded ops l.toArray j=some b)(hr:b=true→iO P l op ty v)(h:au P ops Q rest (Fr (l.set d (Ps b v)) ds) w):au P ops Q (bp (some d) op ty pos after (some (j,true))::rest) (Fr l ds) w:=fO hw (fun e=>hr e w) h
theorem eL(hw:yielded ops l.toArray j=some b)(hr:(!b)=true→iO P l op ty v)(h:au P ops Q rest (Fr (l.set d (Ps (!b) v)) ds) w):au P ops Q (bp (some d) op ty pos after (some (j,false))::rest) (Fr l ds) w:=fG hw (fun e=>hr e w) h
theorem afn{f:FuncId}{fo:cd}{xs:Array cd}{args:List ak}{first cap:Array ak}{a0:Array ay}(m:Mem w0 w is)(hw:yielded ops l.toArray j=some b)(hf:ev l fo=.func (.func f) first cap)(hxs:b=true→first.toList++xs.toList.map (ev l)++cap.toList=args)(hc:b=true→gS P f args v)
 (h:∀u,Mem w0 u is→au P ops Q rest (Fr (l.set d (Ps b v)) ds) u):au P ops Q (bp (some d) (.call { callee:=.value fo,args:=xs,argTypes:=a0 }) ty pos after (some (j,true))::rest) (Fr l ds) w:=by
 cases b with
 | false=>simp only[De] at h;exact kX hw (h w m)
 | true=>simp only[lN] at h;exact eY hw (oP m hf (hxs O) (hc O) h)
theorem aac{f:FuncId}{fo:cd}{xs:Array cd}{args:List ak}{first cap:Array ak}{a0:Array ay}(m:Mem w0 w is)(hw:yielded ops l.toArray j=some b)(hf:ev l fo=.func (.func f) first cap)(hxs:(!b)=true→first.toList++xs.toList.map (ev l)++cap.toList=args)(hc:(!b)=true→gS P f args v)
 (h:∀u,Mem w0 u is→au P ops Q rest (Fr (l.set d (Ps (!b) v)) ds) u):au P ops Q (bp (some d) (.call { callee:=.value fo,args:=xs,argTypes:=a0 }) ty pos after (some (j,false))::rest) (Fr l ds) w:=by
 cases b with
 | true=>simp only[jg,De] at h;exact Fc hw (h w m)
 | false=>simp only[jv,lN] at h;exact eY hw (oP m hf (hxs O) (hc O) h)
end
section
variable {P:bz} {ops:Array Oper} {Q:Act→Prop} {C:am→Prop} {rest:List Oper} {d j:Nat} {op:Op} {ty:ay} {pos:String} {after:Array Edge} {v:ak} {b:Bool} {ds:List dl} {l:List ak} {w0:am} {is:List It}
theorem dM(hw:yielded ops l.toArray j=some b)(hr:b=true→∀u,C u→Aa P l op ty v u)(h:cq P ops C Q rest (Fr (l.set d (Ps b v)) ds)):cq P ops C Q (bp (some d) op ty pos after (some (j,true))::rest) (Fr l ds):=by
 cases b with
 | false=>rw[De] at h;exact afe hw h
 | true=>rw[lN] at h;exact nS hw (jZ (hr O) h)
theorem fQ(hw:yielded ops l.toArray j=some b)(hr:(!b)=true→∀u,C u→Aa P l op ty v u)(h:cq P ops C Q rest (Fr (l.set d (Ps (!b) v)) ds)):cq P ops C Q (bp (some d) op ty pos after (some (j,false))::rest) (Fr l ds):=by
 cases b with
 | true=>rw[jg,De] at h;exact Iu hw h
 | false=>rw[jv,lN] at h;exact nS hw (jZ (hr O) h)
theorem bP(hw:yielded ops l.toArray j=some b)(hr:b=true→iO P l op ty v)(h:cq P ops C Q rest (Fr (l.set d (Ps b v)) ds)):cq P ops C Q (bp (some d) op ty pos after (some (j,true))::rest) (Fr l ds):=dM hw (fun e u _=>hr e u) h
theorem cY(hw:yielded ops l.toArray j=some b)(hr:(!b)=true→iO P l op ty v)(h:cq P ops C Q rest (Fr (l.set d (Ps (!b) v)) ds)):cq P ops C Q (bp (some d) op ty pos after (some (j,false))::rest) (Fr l ds):=fQ hw (fun e u _=>hr e u) h
theorem aad{f:FuncId}{fo:cd}{xs:Array cd}{args:List ak}{first cap:Array ak}{a0:Array ay}(hw:yielded ops l.toArray j=some b)(hf:ev l fo=.func (.func f) first cap)(hxs:b=true→first.toList++xs.toList.map (ev l)++cap.toList=args)(hc:b=true→gS P f args v)
 (h:cq P ops (fun u=>Mem w0 u is) Q rest (Fr (l.set d (Ps b v)) ds)):cq P ops (fun u=>Mem w0 u is) Q (bp (some d) (.call { callee:=.value fo,args:=xs,argTypes:=a0 }) ty pos after (some (j,true))::rest) (Fr l ds):=by
 cases b with
 | false=>rw[De] at h;exact afe hw h
 | true=>rw[lN] at h;exact nS hw (kR hf (hxs O) (hc O) h)
theorem afo{f:FuncId}{fo:cd}{xs:Array cd}{args:List ak}{first cap:Array ak}{a0:Array ay}(hw:yielded ops l.toArray j=some b)(hf:ev l fo=.func (.func f) first cap)(hxs:(!b)=true→first.toList++xs.toList.map (ev l)++cap.toList=args)(hc:(!b)=true→gS P f args v)
 (h:cq P ops (fun u=>Mem w0 u is) Q rest (Fr (l.set d (Ps (!b) v)) ds)):cq P ops (fun u=>Mem w0 u is) Q (bp (some d) (.call { callee:=.value fo,args:=xs,argTypes:=a0 }) ty pos after (some (j,false))::rest) (Fr l ds):=by
 cases b with
 | true=>rw[jg,De] at h;exact Iu hw h
 | false=>rw[jv,lN] at h;exact nS hw (kR hf (hxs O) (hc O) h)
end
section
variable {P:bz} {ops:Array Oper} {S:am→Prop} {Q:Exit→Act→am→Prop} {rest:List (Oper × Bool)} {d j:Nat} {op:Op} {ty:ay} {pos:String} {after:Array Edge} {v:ak} {b:Bool} {ds:List dl} {l:List ak} {w:am}
theorem Jk(hw:yielded ops l.toArray j=some b)(hr:b=true→∀u,S u→Aa P l op ty v u)(h:bJ P ops S Q rest (Fr (l.set d (Ps b v)) ds) w):bJ P ops S Q ((bp (some d) op ty pos after (some (j,true)),true)::rest) (Fr l ds) w:=by
 cases b with
 | false=>rw[De] at h;exact am0 hw h
 | true=>rw[lN] at h;exact apT hw (Zu (hr O) h)
theorem Lo(hw:yielded ops l.toArray j=some b)(hr:b=true→iO P l op ty v)(h:bJ P ops S Q rest (Fr (l.set d (Ps b v)) ds) w):bJ P ops S Q ((bp (some d) op ty pos after (some (j,true)),true)::rest) (Fr l ds) w:=Jk hw (fun e u _=>hr e u) h
end
end Go.Lith
namespace Go.Lith
open Go.RowKit Go.ChangeShapes
variable {H:Type} {enc:ay × ak→H} {P:bz} {w:am} {base:Nat} {spare:Nat→Bool} {held:Bool}
def rH(P:bz):Nat→ay→Bool
 | 0,_=>false
 | n+1,t=>match P.underlying t with
  | some (.int .i64)=>decide (P.cellsOf t=1)
  | some (.struct fs)=>(fs.toList.all fun f=>rH P n f.type)&&(gm (P.cellsOf t)).all fun i=>fs.toList.any fun f=>decide (f.offset≤i)&&decide (i<f.offset+P.cellsOf f.type)
  | some (.array m e)=>rH P n e&&decide (P.cellsOf t=m*P.cellsOf e)
  | _=>false
theorem ajk{n:Int}(h:(Lit.int .i64 n).wf=true):pV n:=by
 have:=bounds_i64 h;exact⟨by omega,by omega⟩
theorem rI:∀(n:Nat) (t:ay) (m:Nat) (cs:List ak) (x:DataW H × List MemPlace),rH P n t=true→DataW.trod enc P w base spare held m t cs=some x →
 cs.length=P.cellsOf t∧∀v∈cs,∃z,v=.int .i64 z∧pV z
 | 0,t,m,cs,x,h,_=>by cases h
 | n+1,t,m,cs,x,h,hx=>by
  unfold rH at h;split at h
  · rename_i hu
    obtain⟨z,rfl,_,hz⟩:=DataW.trod_int hu hx;refine⟨by rw[of_decide_eq_true h];rfl,fun v hv=>⟨z,by simpa using hv,ajk hz⟩⟩
  · rename_i fs hu
    simp only[bh,dt,d_,decide_eq_true_eq,gn] at h;obtain⟨ys,k,_,_,hl,hlen,hf⟩:=DataW.trod_struct hu hx;refine⟨hl,fun v hv=>?_⟩;obtain⟨i,hi,rfl⟩:=lh hv;obtain⟨f,hfm,h1,h2⟩:=h.2 i (by rw[←hl];exact hi);obtain⟨j,hj,rfl⟩:=lh hfm;have hj':j<fs.size:=by simpa using hj
    have:=hf j fs[j] (Array.getElem?_eq_getElem hj');rw[ar (by rw[hlen];exact hj')] at this;have hr:=(rI n _ _ _ _ (h.1 _ (fl hj)) this).2;refine hr _ ?_;simp only[Array.getElem_toList] at h1 h2;refine bn (i:=i-fs[j].offset) ?_;rw[fq,if_pos (by omega),eb,show fs[j].offset+(i-fs[j].offset)=i by omega];exact ar hi
  · rename_i q e hu
    simp only[bh,decide_eq_true_eq] at h;obtain⟨ys,k,_,_,hl,hlen,hf⟩:=DataW.trod_array hu hx;refine⟨hl,fun v hv=>?_⟩;obtain⟨i,hi,rfl⟩:=lh hv;rw[hl,h.2] at hi;have hc:0<P.cellsOf e:=by
     rcases ff (P.cellsOf e) with h0 | h0
     · rw[h0] at hi;omega
     · exact h0
    have hq:i / P.cellsOf e<q:=Nat.div_lt_of_lt_mul (by rw[iy];exact hi);have:=hf _ hq;rw[ar (by rw[hlen];exact hq)] at this;have hr:=(rI n _ _ _ _ h.1 this).2;refine hr _ (bn (i:=i%P.cellsOf e) ?_);rw[fq,if_pos (Nat.mod_lt _ hc),eb,iy,np];exact ar _
  · cases h
theorem Xi:∀(n:Nat) (cs:List ak),cs.length=n→(∀v∈cs,∃z,v=.int .i64 z∧pV z)→∃zs:List Int,zs.length=n∧cs=zs.map (.int .i64 ·)∧∀z∈zs,pV z
 | 0,[],_,_=>⟨[],rfl,rfl,fun _ h=>by cases h⟩
 | n+1,v::vs,h,hv=>by
  obtain⟨zs,h1,h2,h3⟩:=Xi n vs (by simpa using h) (fun u hu=>hv u (by simp[hu]));obtain⟨z,rfl,hz⟩:=hv v (by simp);exact⟨z::zs,by simp[h1],by simp[h2],fun u hu=>by rcases ao.1 hu with rfl | hu;exact hz;exact h3 _ hu⟩
theorem adG{a:Addr}{n:Nat}{cs:List ak}(h:w.cells? base a n=some cs):mE w a cs∧base≤a.block:=by
 unfold World.cells? at h;split at h
 · rename_i hb
   refine⟨fun j u hj=>?_,hb⟩;have hl:=mapM_some_length h;have hj':j<cs.length:=(ax.1 hj).1;rw[hl] at hj';have:=mapM_some_get h j j (ar hj'▸by simp);rw[this,hj]
 · cases h
theorem Xj{n m:Nat}{t e:ay}{fuel:Nat}{cs:List ak}{x:DataW H × List MemPlace}(hu:P.underlying t=some (.slice e))(hi:rH P n e=true)(hc:P.cellsOf e=m)(h:DataW.trod enc P w base spare held fuel t cs=some x) :
 ∃(A:Option Addr) (len cap:Nat),cs=[.slice A len cap]∧len≤cap∧cap≤maxLen∧(A=none→len=0)∧∀i,i<len→∃(a:Addr) (zs:List Int),A=some a∧base≤a.block∧mE w (a.add (i*m)) (zs.map (Value.int .i64 ·))∧zs.length=m∧∀z∈zs,pV z:=by
 rcases Deep.open_slice hu h with ⟨rfl,_⟩ | ⟨a,len,cap,k,q,D,Pl,rfl,hb,hl,hm,hk,_,hx⟩
 · exact⟨none,0,0,O,av _,bw _,fun _=>rfl,fun i hi=>absurd hi (Nat.not_lt_zero _)⟩
 · refine⟨some a,len,cap,rfl,hl,hm,fun h=>(by cases h),fun i hi'=>?_⟩
   obtain⟨cs',h1,h2⟩:=hx i (by rw[hk];split <;> omega);obtain⟨h3,h4⟩:=rI n e q _ _ hi h2;obtain⟨zs,h5,rfl,h6⟩:=Xi m cs' (by rw[←hc];exact h3) h4;rw[hc] at h1;exact⟨a,zs,O,hb,(adG h1).1,h5,h6⟩
theorem Df{α:Type}{p:Nat→α→Prop}:∀(n:Nat),(∀i,i<n→∃x,p i x)→∃l:List α,l.length=n∧∀i x,l[i]? = some x→p i x
 | 0,_=>⟨[],rfl,fun i x h=>by simp at h⟩
 | n+1,h=>by
  obtain⟨l,h1,h2⟩:=Df n (fun i hi=>h i (by omega));obtain⟨x,hx⟩:=h n (by omega);refine⟨l++[x],by simp[h1],fun i y hy=>?_⟩;rcases Nat.lt_trichotomy i n with hi | hi | hi
  · exact h2 i y (by rwa [fk (by omega)] at hy)
  · subst hi
    rw[iq (by omega),h1,Nat.sub_self] at hy;cases hy;exact hx
  · rw[iq (by omega),h1] at hy
    have:i-n≠0:=by omega
    cases hd:i-n with
    | zero=>omega
    | succ j=>rw[hd] at hy;simp at hy
structure uG(w:am)(A:Option Addr)(n:Nat)(zs:List Int):Prop where
 len:zs.length=n
 it:∀z∈zs,pV z
 row:∀i z,zs[i]? = some z→∃a,A=some a∧w.cell? (a.add i)=some (.int .i64 z)
theorem uG.ext{w':am}{A:Option Addr}{n:Nat}{zs:List Int}(h:uG w A n zs)(hE:dY w w'):uG w' A n zs :=
 ⟨h.len,h.it,fun i z hi=>let ⟨a,e,hr⟩:=h.row i z hi;⟨a,e,hE.cell hr⟩⟩
theorem uG.get{A:Option Addr}{n:Nat}{zs:List Int}(h:uG w A n zs){i:Nat}(hi:i<n):∃z,zs[i]? = some z∧Iw z∧∃a,A=some a∧w.cell? (a.add i)=some (.int .i64 z):=by
 have hl:i<zs.length:=by rw[h.len];exact hi
 exact⟨zs[i],ar hl,⟨h.it _ (fl hl)⟩,h.row i _ (ar hl)⟩
theorem adH{n:Nat}{t e:ay}{fuel:Nat}{cs:List ak}{x:DataW H × List MemPlace}(hu:P.underlying t=some (.slice e))(hi:rH P n e=true)(hc:P.cellsOf e=1)(h:DataW.trod enc P w base spare held fuel t cs=some x) :
 ∃(A:Option Addr) (len cap:Nat) (zs:List Int),cs=[.slice A len cap]∧len≤cap∧cap≤maxLen∧(A=none→len=0)∧uG w A len zs:=by
 obtain⟨A,len,cap,rfl,h1,h2,h3,h4⟩:=Xj hu hi hc h;obtain⟨zs,h5,h6⟩:=Df (p:=fun i (z:Int)=>pV z∧∃a,A=some a∧w.cell? (a.add i)=some (.int .i64 z)) len (fun i hi=>by
  obtain⟨a,zs,rfl,_,hr,hl,hz⟩:=h4 i hi
  match zs,hl with
  | [z],_=>exact⟨z,hz _ (by simp),a,rfl,by have:=hr 0 _ rfl;rwa [Nat.mul_one,lF,Nat.add_zero] at this⟩)
 refine⟨A,len,cap,zs,O,h1,h2,h3,h5,fun z hz=>?_,fun i z hz=>(h6 i z hz).2⟩;obtain⟨i,hi,rfl⟩:=lh hz;exact (h6 i _ (ar hi)).1
end Go.Lith
namespace Go.Lith
open Go.RowKit
variable{n y x c f k:Nat}{m s kind bits:Int}{zs:List Int}{a d q u:P3}{w0 w:am}{E:ay}{α:Type}
theorem ajl{n:Int}(hm:0<m) : -m<n.tmod m∧n.tmod m<m:=by
 have h1:=Int.tmod_lt_of_pos n hm;have h2:=Int.tmod_lt_of_pos (-n) hm;rw[Int.neg_tmod] at h2;omega
theorem afp{n:Int}(hm:0<m):(n.tmod m+m).tmod m=n%m:=by
 have hb:=ajl (n:=n) hm;rw[oe (by omega)];rcases Int.le_total 0 n with h | h
 · rw[oe h]
   simp
 · have e:n.tmod m = -((-n)%m):=by
    rw[←oe (show 0 ≤ -n by omega),Int.neg_tmod,Int.neg_neg]
   rw[e,Int.add_emod_right];have h2:=Int.emod_add_mul_ediv (-n) m;have h3 : -((-n)%m)=n+m*(-n / m):=by omega
   rw[h3,Int.add_mul_emod_self_left]
theorem tF{n:Int}(hm:0<m):0≤n%m∧n%m<m:=⟨Int.emod_nonneg _ (by omega),Int.emod_lt_of_pos _ hm⟩
/-! ### Hills -/
def hgt(zs:List Int)(x y:Nat):Int:=(zs[(y*7+x)%zs.length]?.getD 0)%64
theorem ap6(zs:List Int)(x y:Nat):0≤hgt zs x y∧hgt zs x y<64:=tF (by decide)
def tU(s:Int)(zs:List Int)(x y:Nat):P3:=⟨(x:Int)*s,(y:Int)*s,100+hgt zs x y⟩
def Cb(a b c d:P3):List T3:=[⟨a,b,c⟩,⟨a,c,d⟩]
def abL(s:Int)(zs:List Int)(y x:Nat):List T3:=Cb (tU s zs x y) (tU s zs (x+1) y) (tU s zs (x+1) (y+1)) (tU s zs x (y+1))
def gT(s:Int)(zs:List Int)(n y x:Nat):List T3:=((gm y).flatMap fun y=>(gm n).flatMap (abL s zs y))++(gm x).flatMap (abL s zs y)
def Lp(s:Int)(zs:List Int)(n:Nat):List T3:=(gm n).flatMap fun y=>(gm n).flatMap (abL s zs y)
theorem An    : gT s zs n n 0=Lp s zs n:=by simp[gT,Lp]
theorem aae    : gT s zs n y n=gT s zs n (y+1) 0:=by
 simp[gT,lg,be]
theorem Vw    : gT s zs n y (x+1)=gT s zs n y x++abL s zs y x:=by
 simp[gT,lg,be]
theorem tV{α β:Type}{f:α→List β}{k:Nat}:∀(l:List α),(∀x∈l,(f x).length=k)→(l.flatMap f).length=l.length*k
 | [],_=>by simp
 | x::l,h=>by
  rw[ci,a_,h x (by simp),tV l (fun y hy=>h y (by simp[hy])),az,gt,ka,Nat.add_comm]
theorem uH    : (gT s zs n y x).length=y*(n*2)+x*2:=by
 unfold gT;rw[a_,tV (k:=n*2) _ (fun y _=>by rw[tV (k:=2) _ (fun _ _=>rfl),ky]),tV (k:=2) _ (fun _ _=>rfl),ky,ky]
def Sm(k:Int)(p:P3):Prop:=(0≤p.x∧p.x≤k)∧(0≤p.y∧p.y≤k)∧(0≤p.z∧p.z≤k)
def SmT(k:Int)(t:T3):Prop:=Sm k t.a∧Sm k t.b∧Sm k t.c
theorem afq{k:Int}{b c:P3}(ha:Sm k a)(hb:Sm k b)(hc:Sm k c)(hd:Sm k d):∀t∈Cb a b c d,SmT k t:=fun t ht=>by
 simp only[Cb,ao,bt,or_false] at ht;rcases ht with rfl | rfl
 · exact⟨ha,hb,hc⟩
 · exact⟨ha,hc,hd⟩
theorem Jl(hx:x≤6)(hy:y≤6):Sm 200 (tU 10 zs x y):=by
 have:=ap6 zs x y;simp only[Sm,tU];omega
theorem abM(hx:x<6)(hy:y<6):∀t∈abL 10 zs y x,SmT 200 t :=
 afq (Jl (by omega) (by omega)) (Jl (by omega) (by omega)) (Jl (by omega) (by omega)) (Jl (by omega) (by omega))
theorem abN(hn:n≤6)(hx:x≤6)(hy:y≤6)(hxy:x=0∨y<6):∀t∈gT 10 zs n y x,SmT 200 t:=fun t ht=>by
 rcases br.1 ht with h | h
 · obtain⟨v,hv,h⟩:=df.1 h
   obtain⟨u,hu,h⟩:=df.1 h;exact abM (by have:=gn.1 hu;omega) (by have:=gn.1 hv;omega) t h
 · obtain⟨u,hu,h⟩:=df.1 h
   have:=gn.1 hu;exact abM (by omega) (by omega) t h
/-! ### Cubes -/
def dB(p:P3)(s:Int)(n:Nat):P3:=⟨p.x+((n%2:Nat):Int)*s,p.y+((n / 2%2:Nat):Int)*s,p.z+((n / 4:Nat):Int)*s⟩
def Dg(p:P3)(s:Int):List T3:=Cb (dB p s 0) (dB p s 2) (dB p s 3) (dB p s 1)++Cb (dB p s 4) (dB p s 5) (dB p s 7) (dB p s 6)++Cb (dB p s 0) (dB p s 1) (dB p s 5) (dB p s 4)
 ++ Cb (dB p s 2) (dB p s 6) (dB p s 7) (dB p s 3)++Cb (dB p s 0) (dB p s 4) (dB p s 6) (dB p s 2)++Cb (dB p s 1) (dB p s 3) (dB p s 7) (dB p s 5)
theorem vE(p:P3)(s:Int):(Dg p s).length=12:=rfl
def vP(n:Nat):P3:=⟨4+((n%3:Nat):Int)*8,5+((n / 3%3:Nat):Int)*8,6+((n / 9:Nat):Int)*8⟩
def stx(f:Nat):Int:=if f=4 then -1 else if f=5 then 1 else 0
def sty(f:Nat):Int:=if f=2 then -1 else if f=3 then 1 else 0
def stz(f:Nat):Int:=if f=0 then -1 else if f=1 then 1 else 0
def Pb(b:Nat)(n:Nat):Bool:=decide (b / 2^n%2=1)
def Jm(b n f:Nat):Bool :=
 let u:=((n%3:Nat):Int)+stx f
 let v:=((n / 3%3:Nat):Int)+sty f
 let w:=((n / 9:Nat):Int)+stz f
 !(decide (0≤u)&&decide (u<3)&&decide (0≤v)&&decide (v<3)&&decide (0≤w)&&decide (w<3)) || !Pb b ((w*3+v)*3+u).toNat
def Gu(n f:Nat):List T3:=((Dg (vP n) 8).drop (2*f)).take 2
def uI(b n f:Nat):List T3:=(gm f).flatMap fun f=>if Jm b n f then Gu n f else []
def jM(b n f:Nat):List T3:=((gm n).flatMap fun n=>if Pb b n then uI b n 6 else [])++uI b n f
def ag5(b:Nat):List T3:=(gm 27).flatMap fun n=>if Pb b n then uI b n 6 else []
theorem Rp{b:Nat}:jM b 27 0=ag5 b:=by simp[jM,ag5,uI]
theorem adI{b:Nat}(h:Pb b n=true):jM b n 6=jM b (n+1) 0:=by
 simp[jM,lg (n:=n),be,h,uI]
theorem ag6{b:Nat}(h:Pb b n=false):jM b n 0=jM b (n+1) 0:=by
 simp[jM,lg (n:=n),be,h,uI]
theorem Xk{b:Nat}(h:Jm b n f=true):jM b n (f+1)=jM b n f++Gu n f:=by
 simp[jM,uI,lg (n:=f),be,h]
theorem adJ{b:Nat}(h:Jm b n f=false):jM b n (f+1)=jM b n f:=by
 simp[jM,uI,lg (n:=f),be,h]
/-! ### What the walks ask for -/
theorem Xl  : (k:Int).tmod (c:Int)=((k%c:Nat):Int):=rfl
theorem ast{b:Nat}{n:Int}(h0:0≤n)(h:n≤63):(b:Int).fdiv (2^(min n.toNat IntKind.i64.bits))=((b / 2^n.toNat:Nat):Int):=by
 have e:min n.toNat IntKind.i64.bits=n.toNat:=dx (by show n.toNat≤64;omega);rw[e,Int.fdiv_eq_ediv_of_nonneg _ (by exact Int.le_of_lt (Int.pow_pos (by decide)))];simp
theorem asu(h:x<9223372036854775808):IntKind.i64.wrap ((dw IntKind.i64.bits (x:Int) &&& dw IntKind.i64.bits 1).toNat:Int)=((x%2:Nat):Int):=by
 have e:(dw IntKind.i64.bits (x:Int) &&& dw IntKind.i64.bits 1).toNat=x%2:=by
  show (dw 64 (x:Int) &&& dw 64 1).toNat=x%2
  rw[BitVec.toNat_and,kh,kh];have h1:((x:Int)%((2^64:Nat):Int)).toNat=x:=by
   have:((2^64:Nat):Int)=18446744073709551616:=rfl;rw[this];omega
  have h2:((1:Int)%((2^64:Nat):Int)).toNat=1:=rfl;rw[h1,h2,Nat.and_one_is_mod]
 rw[e];exact bH (by omega) (by omega)
theorem ajm{b:Nat}(h:b<134217728):b / 2^n<9223372036854775808:=Nat.lt_of_le_of_lt (Nat.div_le_self _ _) (by omega)
theorem ajn{N:Nat}{z:Int}(hl:zs.length=N)(hz:zs[(y*7+x)%N]? = some z):hgt zs x y=z%64:=by
 unfold hgt;rw[hl,hz];rfl
theorem anb{N:Nat}(hl:zs.length=N)(h:¬(0:Int)<(N:Int)):hgt zs x y=0:=by
 have:zs=[]:=eo (by omega);subst this;rfl
theorem ajo    : (gT s zs n y x).flatMap aP++(Cb (tU s zs x y) (tU s zs (x+1) y) (tU s zs (x+1) (y+1)) (tU s zs x (y+1))).flatMap aP=(gT s zs n y (x+1)).flatMap aP:=by
 rw[Vw,be];rfl
theorem ajp{b c:P3}:(gT s zs n y x).length+(Cb a b c d).length=(gT s zs n y (x+1)).length:=by
 rw[uH,uH];show _+2=_
 omega
theorem Dh(hn:n≤6)(hy:y≤6)(hx:x≤6):(gT s zs n y x).length≤84:=by
 rw[uH];have:y*(n*2)≤6*(6*2):=Nat.mul_le_mul hy (by omega);omega
theorem ag7(hn:n≤6):∀t∈Lp 10 zs n,SmT 200 t:=by
 rw[←An];exact abN hn (by omega) hn (.inl O)
theorem ag8(hn:n≤6):(Lp s zs n).length≤84:=by
 rw[←An];exact Dh hn hn (by omega)
def TS(E:ay)(ts:List T3)(w:am)(v:ak)(w':am):Prop:=∃A cap n,n=ts.length∧v=.slice A n cap∧Ow w w' [] E 9 A n cap (ts.flatMap aP)
theorem Ow.tri{S:List (Option Nat)}{cap g i:Nat}{ts:List T3}{t:T3}(h:Ow w0 w S E 9 (kn ⟨g,0,none⟩) n cap (ts.flatMap aP))(ht:ts[i]? = kn t):mE w ((⟨g,0,none⟩:Addr).add (i*9)) [.int .i64 t.a.x,.int .i64 t.a.y,.int .i64 t.a.z,.int .i64 t.b.x,.int .i64 t.b.y,.int .i64 t.b.z,.int .i64 t.c.x,.int .i64 t.c.y,.int .i64 t.c.z]:=by
 show mE w _ (aP t)
 intro j u hj;have hj':j<(aP t).length:=(ax.1 hj).1;rw[lF];refine h.rows _ _ ?_;rw[←eb,Fl ts i t ht,fk hj'];exact hj
theorem apb(h:n<27):Sm 100 (vP n):=by
 simp only[Sm,vP];omega
theorem ajq{p:P3}(h:Sm 100 p)(hn:n<8):Sm 200 (dB p 8 n):=by
 simp only[Sm,dB] at h ⊢;omega
theorem ajr{p:P3}(h:Sm 100 p):∀t∈Dg p 8,SmT 200 t:=fun t ht=>by
 have c:∀n,n<8→Sm 200 (dB p 8 n):=fun n hn=>ajq h hn;simp only[Dg,br] at ht;rcases ht with ((((ht | ht) | ht) | ht) | ht) | ht <;> exact afq (c _ (by decide)) (c _ (by decide)) (c _ (by decide)) (c _ (by decide)) t ht
theorem ajs(h:n<27):∀t∈Gu n f,SmT 200 t:=fun t ht=>ajr (apb h) t (List.mem_of_mem_drop (me ht))
theorem ag9{b:Nat}(h:n<27):∀t∈uI b n f,SmT 200 t:=fun t ht=>by
 obtain⟨k,_,h2⟩:=df.1 ht;split at h2
 · exact ajs h t h2
 · cases h2
theorem anc{b:Nat}:∀t∈ag5 b,SmT 200 t:=fun t ht=>by
 obtain⟨k,hk,h2⟩:=df.1 ht;split at h2
 · exact ag9 (gn.1 hk) t h2
 · cases h2
theorem Hl{α β:Type}{f:α→List β}{k:Nat}:∀(l:List α),(∀x∈l,(f x).length≤k)→(l.flatMap f).length≤l.length*k
 | [],_=>by simp
 | x::l,h=>by
  have h1:=h x (by simp);have h2:=Hl l (fun y hy=>h y (by simp[hy]));rw[ci,a_,az,gt,ka];omega
theorem ajt  : (Gu n f).length≤2:=by unfold Gu;rw[bx];omega
theorem Xm{b:Nat}:(uI b n f).length≤f*2:=by
 have:=Hl (f:=fun f=>if Jm b n f then Gu n f else []) (k:=2) (gm f) (fun x _=>by
  show (if Jm b n x=true then Gu n x else []).length≤2
  split
  · exact ajt
  · exact bw _)
 rwa [ky] at this
theorem Lr{b:Nat}(hn:n≤27)(hf:f≤6):(jM b n f).length≤400:=by
 have h1:=Hl (f:=fun n=>if Pb b n then uI b n 6 else []) (k:=12) (gm n) (fun x _=>by
  show (if Pb b x=true then uI b x 6 else []).length≤12
  split
  · exact Xm
  · exact bw _)
 have h2:=Xm (b:=b) (n:=n) (f:=f);rw[ky] at h1;unfold jM;rw[a_];omega
theorem ane{b:Nat}:(ag5 b).length≤400:=by
 rw[←Rp];exact Lr (by omega) (by omega)
def Fm:List ak:=[.int .i64 0,.int .i64 0,.int .i64 (-1),.int .i64 0,.int .i64 0,.int .i64 1,.int .i64 0,.int .i64 (-1),.int .i64 0,.int .i64 0,.int .i64 1,.int .i64 0,.int .i64 (-1),.int .i64 0,.int .i64 0,.int .i64 1,.int .i64 0,.int .i64 0]
theorem Rq(h:f<6):f=0∨f=1∨f=2∨f=3∨f=4∨f=5:=by omega
theorem asv(h:f<6):Fm[f*3]? = some (.int .i64 (stx f)):=by rcases Rq h with rfl | rfl | rfl | rfl | rfl | rfl <;> rfl
theorem asw(h:f<6):Fm[f*3+1]? = some (.int .i64 (sty f)):=by rcases Rq h with rfl | rfl | rfl | rfl | rfl | rfl <;> rfl
theorem asx(h:f<6):Fm[f*3+2]? = some (.int .i64 (stz f)):=by rcases Rq h with rfl | rfl | rfl | rfl | rfl | rfl <;> rfl
theorem asy(f:Nat):(-1≤stx f∧stx f≤1)∧(-1≤sty f∧sty f≤1)∧(-1≤stz f∧stz f≤1):=by
 unfold stx sty stz
 repeat' split
 all_goals omega
theorem vin{u v w:Int}(hb:(!(!(decide (0≤u)&&decide (u<3)&&decide (0≤v)&&decide (v<3)&&decide (0≤w)&&decide (w<3))))=true):(0≤u∧u<3)∧(0≤v∧v<3)∧0≤w∧w<3:=by
 simp only[Bool.not_not,bh,decide_eq_true_eq] at hb;omega
theorem abO{b n f:Nat}:(!(decide ((0:Int)≤((n%3:Nat):Int)+stx f)&&decide (((n%3:Nat):Int)+stx f<3)&&decide ((0:Int)≤((n / 3%3:Nat):Int)+sty f)&&decide (((n / 3%3:Nat):Int)+sty f<3)&&decide ((0:Int)≤((n / 9:Nat):Int)+stz f)&&decide (((n / 9:Nat):Int)+stz f<3)) ||
 decide (((b / 2^(((((n / 9:Nat):Int)+stz f)*3+(((n / 3%3:Nat):Int)+sty f))*3+(((n%3:Nat):Int)+stx f)).toNat%2:Nat):Int)=0))=Jm b n f:=by
 unfold Jm Pb;simp only
 congr 1
 rw[←decide_not]
 congr 1
 apply propext;constructor <;> intro h <;> omega
theorem aju(h:f<6):∃t u,(Dg (vP n) 8)[2*f]? = some t∧(Dg (vP n) 8)[2*f+1]? = some u∧Gu n f=[t,u]:=by
 have h1:2*f<(Dg (vP n) 8).length:=by rw[vE];omega
 have h2:2*f+1<(Dg (vP n) 8).length:=by rw[vE];omega
 refine⟨_,_,ar h1,ar h2,?_⟩;unfold Gu;rw[el h1,el h2];rfl
theorem aha{b:Nat}{t u:T3}(hp:Gu n f=[t,u])(h:Jm b n f=true):(jM b n f).flatMap aP++[.int .i64 t.a.x,.int .i64 t.a.y,.int .i64 t.a.z,.int .i64 t.b.x,.int .i64 t.b.y,.int .i64 t.b.z,.int .i64 t.c.x,.int .i64 t.c.y,.int .i64 t.c.z,.int .i64 u.a.x,.int .i64 u.a.y,.int .i64 u.a.z,.int .i64 u.b.x,.int .i64 u.b.y,.int .i64 u.b.z,.int .i64 u.c.x,.int .i64 u.c.y,.int .i64 u.c.z]=(jM b n (f+1)).flatMap aP:=by
 rw[Xk h,be,hp];rfl
theorem afr{b:Nat}(hf:f<6)(h:Jm b n f=true):(jM b n f).length+2=(jM b n (f+1)).length:=by
 obtain⟨t,u,_,_,hp⟩:=aju (n:=n) hf;rw[Xk h,a_,hp];rfl
def wZ(kind bits:Int)(zs:List Int):List T3:=if kind%3=0 then ag5 (bits%134217728).toNat else Lp 10 zs (1+kind.tdiv 3%6).toNat
theorem abP{z:Int}(h:pV z):IntKind.i64.wrap (z.tdiv 3)=z.tdiv 3∧pV (z.tdiv 3):=by
 obtain⟨h1,h2⟩:=h;have hb : -9223372036854775808≤z.tdiv 3∧z.tdiv 3<9223372036854775808:=by
  rcases Int.le_total 0 z with hz | hz
  · rw[lw hz];omega
  · have e:z.tdiv 3 = -((-z) / 3):=by
     rw[←lw (show 0 ≤ -z by omega),Int.neg_tdiv,Int.neg_neg]
    rw[e];omega
 exact⟨bH hb.1 hb.2,hb⟩
theorem abQ   : ∀t∈wZ kind bits zs,SmT 200 t:=by
 unfold wZ;split
 · exact anc
 · exact ag7 (by omega)
theorem abR   : (wZ kind bits zs).length≤400:=by
 unfold wZ;split
 · exact ane
 · exact aw (ag8 (by omega)) (by decide)
theorem asb(ts:List T3)(k:Nat):(ts.take k).flatMap aP=(ts.flatMap aP).take (k*9):=by
 induction ts generalizing k with
 | nil=>simp
 | cons t ts ih =>
  cases k with
  | zero=>simp
  | succ k =>
   rw[jx,ci,ci,ih,qg,eE,bf (l:=aP t) (by rw[eE];omega),show (k+1)*9-9=k*9 by omega]
theorem Rr{ts:List T3}{t u:T3}(h:ts[k]? = some t):bQ (ts.flatMap aP) (k*9) (aP u)=(ts.set k u).flatMap aP:=by
 induction ts generalizing k with
 | nil=>cases h
 | cons v ts ih =>
  cases k with
  | zero =>
   unfold bQ;rw[Nat.zero_mul,km,bv,iz,ci,ci,eE,ap,mx,eE,gp (l:=aP v) (by rw[eE];omega)];rfl
  | succ k =>
   have:=ih (k:=k) h;unfold bQ at this ⊢;rw[gl,ci,ci,←this,eE];rw[qg,eE,bf (l:=aP v) (by rw[eE];omega),show (k+1)*9-9=k*9 by omega,mx,eE,gp (l:=aP v) (by rw[eE];omega),show (k+1)*9+9-9=k*9+9 by omega];simp only[dh,bv]
def T3.cor(t:T3)(c:Nat):P3:=if c=0 then t.a else if c=1 then t.b else t.c
def T3.setC(t:T3)(c:Nat)(p:P3):T3:=if c=0 then ⟨p,t.b,t.c⟩ else if c=1 then ⟨t.a,p,t.c⟩ else ⟨t.a,t.b,p⟩
theorem atT{t:T3}{p:P3}(hc:c<3):bQ (aP t) (c*3) [.int .i64 p.x,.int .i64 p.y,.int .i64 p.z]=aP (t.setC c p):=by
 have:c=0∨c=1∨c=2:=by omega
 rcases this with rfl | rfl | rfl <;> rfl
section
variable {w0 w:am} {S:List (Option Nat)} {E:ay} {n cap:Nat} {A:Option Addr} {ts:List T3}
theorem mE.cor{a:Addr}{t:T3}{c:Nat}(h:mE w a (aP t))(hc:c<3):mE w (a.add (c*3)) [.int .i64 (t.cor c).x,.int .i64 (t.cor c).y,.int .i64 (t.cor c).z]:=by
 have:=(h.sub (c*3)).take 3;have e:c=0∨c=1∨c=2:=by omega
 rcases e with rfl | rfl | rfl <;> exact this
theorem cJ.take{N k:Nat}(h:cJ w A N ts)(hk:k≤N):cJ w A k (ts.take k) :=
 ⟨by rw[bx,h.len];omega,fun t ht=>h.it t (me ht),fun i t ht=>h.row i t (by rw[fq] at ht;split at ht;exact ht;cases ht)⟩
theorem ap7{k:Nat}(h:k<ts.length):∃t,ts[k]? = kn t:=⟨_,ar h⟩
theorem afs{q:Int}{N:Nat}(h:0<N):∃k:Nat,q%(N:Int)=(k:Int)∧k<N:=by
 have:=tF (n:=q) (m:=(N:Int)) (by omega);exact⟨(q%(N:Int)).toNat,by omega,by omega⟩
end
section
variable {α:Type} {enc:α→List ak} {c:Nat} {w w':am} {A:Option Addr} {n:Nat} {xs:List α}
structure Aq(enc:α→List ak)(c:Nat)(w:am)(A:Option Addr)(n:Nat)(xs:List α):Prop where
 len:xs.length=n
 row:∀i x,xs[i]? = some x→∃a,A=some a∧mE w (a.add (i*c)) (enc x)
theorem Aq.ext(h:Aq enc c w A n xs)(hE:dY w w'):Aq enc c w' A n xs:=⟨h.len,fun i x hi=>let ⟨a,e,hr⟩:=h.row i x hi;⟨a,e,hr.ext hE⟩⟩
theorem Aq.nil(w:am)(A:Option Addr):Aq enc c w A 0 []:=⟨rfl,fun i x h=>by cases h⟩
theorem Aq.get(h:Aq enc c w A n xs){i:Nat}(hi:i<n):∃x,xs[i]? = some x∧∃a,A=some a∧mE w (a.add (i*c)) (enc x):=by
 have hl:i<xs.length:=by rw[h.len];exact hi
 exact⟨xs[i],ar hl,h.row i _ (ar hl)⟩
theorem Aq.take(h:Aq enc c w A n xs){k:Nat}(hk:k≤n):Aq enc c w A k (xs.take k) :=
 ⟨by rw[bx,h.len];omega,fun i x hx=>h.row i x (by rw[fq] at hx;split at hx;exact hx;cases hx)⟩
theorem kM(hc:∀x,(enc x).length=c):∀xs:List α,(xs.flatMap enc).length=xs.length*c
 | []=>by simp
 | x::xs=>by rw[ci,a_,hc,kM hc xs,az,gt,ka,Nat.add_comm]
theorem As(hc:∀x,(enc x).length=c):∀(xs:List α) (k:Nat),(xs.drop k).flatMap enc=(xs.flatMap enc).drop (k*c)
 | xs,0=>by simp
 | [],k+1=>by simp
 | x::xs,k+1=>by
  rw[List.drop_succ_cons,ci,As hc xs k,mx,hc,gp (l:=enc x) (by rw[hc,gt];omega),gt,ka,eh,bv]
theorem Rs(hc:∀x,(enc x).length=c):∀(xs:List α) (k:Nat),(xs.take k).flatMap enc=(xs.flatMap enc).take (k*c)
 | xs,0=>by simp
 | [],k+1=>by simp
 | x::xs,k+1=>by
  rw[jx,ci,ci,Rs hc xs k,qg,hc,bf (l:=enc x) (by rw[hc,gt];omega),gt,ka,eh]
theorem Rt(hc:∀x,(enc x).length=c){xs:List α}{i:Nat}{x:α}(h:xs[i]? = some x):(xs.flatMap enc).drop (i*c)=enc x++(xs.drop (i+1)).flatMap enc:=by
 rw[←As hc,el (ax.1 h).1,ci,(ax.1 h).2]
theorem Ow.at{w0:am}{S:List (Option Nat)}{cap g i:Nat}{x:α}(hc:∀x,(enc x).length=c)(h:Ow w0 w S E c (kn ⟨g,0,none⟩) n cap (xs.flatMap enc))(hx:xs[i]? = kn x):mE w ((⟨g,0,none⟩:Addr).add (i*c)) (enc x):=by
 intro j u hj;have hj':j<(enc x).length:=(ax.1 hj).1;rw[lF];refine h.rows _ _ ?_;rw[←eb,Rt hc hx,fk hj'];exact hj
theorem Ow.num{w0:am}{S:List (Option Nat)}{cap:Nat}(hc:∀x,(enc x).length=c)(h0:0<c)(h:Ow w0 w S E c A n cap (xs.flatMap enc)):xs.length=n:=by
 have:=h.own.1;rw[kM hc] at this;exact Nat.eq_of_mul_eq_mul_right h0 this
theorem Ow.lat{w0:am}{S:List (Option Nat)}{cap:Nat}(hc:∀x,(enc x).length=c)(h0:0<c)(h:Ow w0 w S E c A n cap (xs.flatMap enc)):Aq enc c w A n xs :=
 ⟨h.num hc h0,fun i x hx=>by
  have hi:=(ax.1 hx).1;have hn:=h.num hc h0;obtain⟨g,rfl⟩:=h.some (by omega);exact⟨_,O,h.at hc hx⟩⟩
theorem Aq.cells(hc:∀x,(enc x).length=c)(h0:0<c)(h:Aq enc c w A n xs):∀j u,(xs.flatMap enc)[j]? = some u→∃a,A=some a∧w.cell? (a.add j)=some u:=fun j u hj=>by
 have hj':=(ax.1 hj).1;rw[kM hc] at hj';have hi:j / c<xs.length:=(Nat.div_lt_iff_lt_mul h0).2 hj';obtain⟨a,rfl,hr⟩:=h.row (j / c) _ (ar hi);refine⟨a,O,?_⟩;have hm:=Nat.mod_lt j h0;have e:j=j / c*c+j%c:=by rw[iy];exact (np j c).symm
 have:=hr (j%c) u (by
  rw[e,←eb,Rt hc (ar hi),fk (by rw[hc];exact hm)] at hj;exact hj)
 rw[lF,←e] at this;exact this
theorem Aq.cellsD(hc:∀x,(enc x).length=c)(h0:0<c)(h:Aq enc c w A n xs){cap q:Nat}(hcap:n≤cap):∀j u,((xs.drop q).flatMap enc)[j]? = some u→∃a,(if cap=q then A else A.map (·.add (q*c)))=some a∧w.cell? (a.add j)=some u:=fun j u hj=>by
 rw[As hc,eb] at hj;have hl:=(ax.1 hj).1;rw[kM hc,h.len] at hl;obtain⟨a,rfl,hcl⟩:=h.cells hc h0 _ _ hj;have:q<n:=by
  refine Nat.lt_of_mul_lt_mul_right (a:=c) ?_;omega
 rw[if_neg (by omega)];exact⟨_,O,by rw[lF];exact hcl⟩
end
theorem cC{ps:List α}{p:α}(h:ps[k]? = some p):ps.take (k+1)=ps.take k++[p]:=by
 rw[List.take_add_one,h];rfl
abbrev E3:=P3 × P3
variable{es:List E3}
def bM(e:E3):List ak:=[.int .i64 e.1.x,.int .i64 e.1.y,.int .i64 e.1.z,.int .i64 e.2.x,.int .i64 e.2.y,.int .i64 e.2.z]
def ed(e:E3):ak:=.agg #[.int .i64 e.1.x,.int .i64 e.1.y,.int .i64 e.1.z,.int .i64 e.2.x,.int .i64 e.2.y,.int .i64 e.2.z]
def qO(p:P3):List ak:=[.int .i64 p.x,.int .i64 p.y,.int .i64 p.z]
theorem aaf(es:List E3):∀u∈es.flatMap bM,u.oneCell'=true:=fun u hu=>by
 obtain⟨e,_,h⟩:=df.1 hu;simp only[bM,ao,bt,or_false] at h;rcases h with rfl | rfl | rfl | rfl | rfl | rfl <;> rfl
theorem Ru(ps:List P3):∀u∈ps.flatMap qO,u.oneCell'=true:=fun u hu=>by
 obtain⟨e,_,h⟩:=df.1 hu;simp only[qO,ao,bt,or_false] at h;rcases h with rfl | rfl | rfl <;> rfl
theorem ap8(t:T3):(aP t).length=9:=rfl
theorem Cj(e:E3):(bM e).length=6:=rfl
theorem Lg(p:P3):(qO p).length=3:=rfl
def aU(ts:List T3):List E3:=ts.flatMap fun t=>[(t.a,t.b),(t.b,t.c),(t.c,t.a)]
theorem wA{ts:List T3}{t:T3}(h:ts[k]? = some t):aU (ts.take (k+1))=aU (ts.take k)++[(t.a,t.b),(t.b,t.c),(t.c,t.a)]:=by
 unfold aU;rw[cC h,be];simp
theorem nF(ts:List T3):(aU ts).length=ts.length*3:=tV ts fun _ _=>rfl
def kN(es:List E3)(e:E3):Nat:=(es.filter fun x=>decide (x=e)).length
theorem abS{x e:E3}(h:es[k]? = some x):kN (es.take (k+1)) e=kN (es.take k) e+if x=e then 1 else 0:=by
 unfold kN;rw[cC h,List.filter_append,a_];by_cases hx:x=e <;> simp[hx]
theorem ap9{e:E3}:kN es e≤es.length:=List.length_filter_le _ _
theorem aqa{is:List α}{i:α}(h:is[k]? = some i):is.set k i=is:=by
 apply gg;intro j;rw[ju];split
 · rename_i e
   subst e;rw[if_pos (ax.1 h).1,h]
 · rfl
theorem Ls{α:Type}:∀(l:List α) (j:Nat) (x:α),l[j]? = some x→(x::l.eraseIdx j).Perm l
 | [],j,x,h=>by cases h
 | y::l,0,x,h=>by cases h;exact .refl _
 | y::l,j+1,x,h=>((List.Perm.swap y x _)).trans ((Ls l j x h).cons y)
theorem Mem.pull{is:List It}(m:Mem w0 w is)(j:Nat){x:It}(hj:is[j]? = some x):Mem w0 w (x::is.eraseIdx j):=by
 have hp:=Ls is j x hj;exact⟨m.ext,fun i hi=>m.all i (hp.mem_iff.1 hi),fun i hi=>m.ge i (hp.mem_iff.1 hi),(hp.pairwise_iff (fun {a b} (h:Ap a b)=>h.symm)).2 m.nd⟩
theorem Mem.mv{is:List It}{y:It}(m:Mem w0 w (y::is))(k:Nat){x:It}(hk:is[k]? = some x):Mem w0 w (is.set k y):=by
 obtain⟨h1,h2⟩:=bq.1 m.nd;have hm:∀i∈is.set k y,i∈y::is:=fun i hi=>(ke hi).elim (bm _) (fun e=>e▸bj);exact⟨m.ext,fun i hi=>m.all i (hm i hi),fun i hi=>m.ge i (hm i hi),adF is k h2 hk fun x hx _=>h1 x hx⟩
theorem dO{a:α}{l:List α}:(a::l).eraseIdx 0=l:=rfl
theorem dP{a:α}{l:List α}  : (a::l).eraseIdx (n+1)=a::l.eraseIdx n:=rfl
def SL(E:ay)(c:Nat)(cs:List ak)(n:Nat)(w:am)(v:ak)(w':am):Prop:=∃A cap n',n'=n∧v=.slice A n' cap∧Ow w w' [] E c A n' cap cs
/-! ### Points put into a sorted list -/
def abT(ps:List P3)(p:P3):Nat:=(ps.takeWhile fun x=>decide (x.Lt p)).length
def iW(ps:List P3)(p:P3):List P3:=if ps[abT ps p]? = some p then ps else ps.take (abT ps p)++[p]++ps.drop (abT ps p)
def cK(ts:List T3):List P3:=ts.foldl (fun ps t=>iW (iW (iW ps t.a) t.b) t.c) []
theorem Jn{ts:List T3}{t:T3}(h:ts[k]? = some t):cK (ts.take (k+1))=iW (iW (iW (cK (ts.take k)) t.a) t.b) t.c:=by
 unfold cK;rw[cC h,iu];rfl
theorem yI(ps:List P3)(p:P3):(iW ps p).length≤ps.length+1:=by
 unfold iW;split
 · omega
 · simp;omega
theorem Di(ts:List T3):(cK ts).length≤ts.length*3:=by
 have:∀(ts:List T3) (ps:List P3),(ts.foldl (fun ps t=>iW (iW (iW ps t.a) t.b) t.c) ps).length≤ps.length+ts.length*3:=by
  intro ts
  induction ts with
  | nil=>intro ps;simp
  | cons t ts ih =>
   intro ps;have h1:=ih (iW (iW (iW ps t.a) t.b) t.c);have h2:=yI ps t.a;have h3:=yI (iW ps t.a) t.b;have h4:=yI (iW (iW ps t.a) t.b) t.c;rw[jp,az];omega
 have:=this ts [];simpa[cK] using this
section
variable {α:Type} {p:α→Bool} {l:List α} {k:Nat}
theorem apc(h:∀j x,j<k→l[j]? = some x→p x=true)(hk:k≤l.length):k≤(l.takeWhile p).length:=by
 induction l generalizing k with
 | nil=>simp at hk;omega
 | cons x l ih =>
  cases k with
  | zero=>omega
  | succ k =>
   have hx:=h 0 x (by omega) rfl;rw[mp,if_pos hx,az];have:=ih (k:=k) (fun j y hj hy=>h (j+1) y (by omega) (by simpa using hy)) (by simp at hk;omega);omega
theorem asA{x:α}(hx:l[k]? = some x)(h:p x=false):(l.takeWhile p).length≤k:=by
 induction l generalizing k with
 | nil=>cases hx
 | cons y l ih =>
  rw[mp];split
  · cases k with
    | zero =>
     rename_i hy;cases hx;rw[h] at hy;cases hy
    | succ k =>
     rw[az];have:=ih (k:=k) (by simpa using hx);omega
  · simp
theorem aqb:(l.takeWhile p).length≤l.length:=(List.takeWhile_sublist p).length_le
theorem apd{x:α}(h:∀j x,j<k→l[j]? = some x→p x=true)(hx:l[k]? = some x)(h2:p x=false):(l.takeWhile p).length=k:=qp (asA hx h2) (apc h (Nat.le_of_lt (ax.1 hx).1))
theorem ajv(h:∀j x,j<l.length→l[j]? = some x→p x=true):(l.takeWhile p).length=l.length:=qp aqb (apc h (av _))
def Pre(p:α→Bool)(l:List α)(k:Nat):Prop:=∀j x,j<k→l[j]? = some x→p x=true
theorem Pre.zero:Pre p l 0:=fun j _ hj=>by omega
theorem Pre.step{x:α}(h:Pre p l k)(hx:l[k]? = some x)(hp:p x=true):Pre p l (k+1):=fun j y hj hy=>by
 rcases dz j k with h1 | h1
 · exact h j y h1 hy
 · obtain rfl:j=k:=by omega
   rw[hx] at hy;cases hy;exact hp
end
/-! ### The border -/
def ltE(a b:E3):Bool:=if a.1≠b.1 then decide (a.1.Lt b.1) else decide (a.2.Lt b.2)
def ahb(es:List E3)(e:E3):Nat:=(es.takeWhile fun x=>ltE x e).length
def adK(es:List E3)(e:E3):List E3:=es.take (ahb es e)++[e]++es.drop (ahb es e)
def rJ(all:List E3)(out:List E3)(e:E3):List E3:=if 0<kN all (e.2,e.1)∨0<kN out e then out else adK out e
def aO(ts:List T3):List E3:=(aU ts).foldl (rJ (aU ts)) []
theorem ahc{all:List E3}{e:E3}(h:es[k]? = some e):(es.take (k+1)).foldl (rJ all) []=rJ all ((es.take k).foldl (rJ all) []) e:=by
 rw[cC h,iu];rfl
theorem yJ{all:List E3}:∀(es out:List E3),(es.foldl (rJ all) out).length≤out.length+es.length
 | [],out=>by simp
 | e::es,out=>by
  have h1:=yJ (all:=all) es (rJ all out e);have h2:(rJ all out e).length≤out.length+1:=by
   unfold rJ adK;split
   · omega
   · simp;omega
  rw[jp,az];omega
/-! ### Pinched corners -/
def T3.fnd(t:T3)(p q:P3):Option P3:=if t.a=p∧t.b=q then some t.c else if t.b=p∧t.c=q then some t.a else if t.c=p∧t.a=q then some t.b else none
variable{ts ms:List T3}{t:T3}
def bE:List T3→P3→P3→Option P3
 | [],_,_=>none
 | t::ts,p,q=>match t.fnd p q with
  | some x=>some x
  | none=>bE ts p q
theorem tW{p:P3}(h:ts[k]? = some t)(h0:bE (ts.take k) p q=none):bE (ts.take (k+1)) p q=t.fnd p q:=by
 rw[cC h];clear h;generalize ts.take k=us at h0 ⊢
 induction us with
 | nil=>simp only[bv,bE];cases t.fnd p q <;> rfl
 | cons u us ih =>
  rw[cn];simp only[bE] at h0 ⊢;cases hu:u.fnd p q with
  | some x=>rw[hu] at h0;cases h0
  | none=>rw[hu] at h0;exact ih h0
theorem Dj{p x:P3}(h:bE (ts.take k) p q=some x):bE ts p q=some x:=by
 induction ts generalizing k with
 | nil=>simp[bE] at h
 | cons u us ih =>
  cases k with
  | zero=>simp[bE] at h
  | succ k =>
   rw[jx] at h;unfold bE at h ⊢;cases hu:u.fnd p q with
   | some y=>rw[hu] at h;exact h
   | none=>rw[hu] at h;exact ih h
def Rv(p:P3)(t:T3)(c:Nat):List T3:=if t.cor c=p then [t] else []
def yK(p:P3)(t:T3)(c:Nat):List T3:=(gm c).flatMap (Rv p t)
def oZ(ts:List T3)(p:P3):List T3:=ts.flatMap fun t=>yK p t 3
def Rw(p:P3)(t:T3)(c:Nat):List P3:=if t.cor c=p then [t.cor ((c+1)%3)] else []
def Dk(p:P3)(t:T3)(c:Nat):List P3:=(gm c).flatMap (Rw p t)
def wB(ts:List T3)(p:P3):List P3:=ts.flatMap fun t=>Dk p t 3
theorem Rx(p:P3)(t:T3)(c:Nat):yK p t (c+1)=yK p t c++Rv p t c:=by simp[yK,lg]
theorem Nv(p:P3)(t:T3)(c:Nat):Dk p t (c+1)=Dk p t c++Rw p t c:=by simp[Dk,lg]
theorem ahd{p:P3}(h:ts[k]? = some t):oZ (ts.take (k+1)) p=oZ (ts.take k) p++yK p t 3:=by
 unfold oZ;rw[cC h,be];simp
theorem adL{p:P3}(h:ts[k]? = some t):wB (ts.take (k+1)) p=wB (ts.take k) p++Dk p t 3:=by
 unfold wB;rw[cC h,be];simp
def Gv(ts:List T3)(p:P3)(k:Nat)(t:T3)(c:Nat):List T3:=oZ (ts.take k) p++yK p t c
def xU(ts:List T3)(p:P3)(k:Nat)(t:T3)(c:Nat):List P3:=wB (ts.take k) p++Dk p t c
theorem ahe{p:P3}(h:t.cor c=p):Gv ts p k t (c+1)=Gv ts p k t c++[t]:=by
 unfold Gv;rw[Rx,Rv,if_pos h,dh]
theorem ajw{p:P3}(h:¬t.cor c=p):Gv ts p k t (c+1)=Gv ts p k t c:=by
 unfold Gv;rw[Rx,Rv,if_neg h,fe]
theorem adM{p:P3}(h:t.cor c=p):xU ts p k t (c+1)=xU ts p k t c++[t.cor ((c+1)%3)]:=by
 unfold xU;rw[Nv,Rw,if_pos h,dh]
theorem ahf{p:P3}(h:¬t.cor c=p):xU ts p k t (c+1)=xU ts p k t c:=by
 unfold xU;rw[Nv,Rw,if_neg h,fe]
theorem ang{p:P3}   : Gv ts p k t 0=oZ (ts.take k) p:=by simp[Gv,yK]
theorem ajx{p:P3}   : xU ts p k t 0=wB (ts.take k) p:=by simp[xU,Dk]
theorem anh{p:P3}(h:ts[k]? = some t):Gv ts p k t 3=oZ (ts.take (k+1)) p:=by rw[ahd h];rfl
theorem ajy{p:P3}(h:ts[k]? = some t):xU ts p k t 3=wB (ts.take (k+1)) p:=by rw[adL h];rfl
theorem nV{x y:P3}:(x.x=y.x∧x.y=y.y∧x.z=y.z)↔x=y:=⟨fun h=>P3.eq h.1 h.2.1 h.2.2,fun h=>by rw[h];exact⟨rfl,rfl,rfl⟩⟩
theorem Au{x y v:P3}:(decide (x.x=y.x∧x.y=y.y∧x.z=y.z)&&decide (u.x=v.x∧u.y=v.y∧u.z=v.z))=true↔x=y∧u=v:=by
 rw[bh,decide_eq_true_eq,decide_eq_true_eq,nV,nV]
theorem Lu{x y v:P3}(h:(decide (x.x=y.x∧x.y=y.y∧x.z=y.z)&&decide (u.x=v.x∧u.y=v.y∧u.z=v.z))=false):¬(x=y∧u=v):=fun k=>by
 rw[Au.2 k] at h;cases h
theorem asB{p:P3}(h:t.cor 0=p∧t.cor 1=q):t.fnd p q=some (t.cor 2):=if_pos h
theorem asC{p:P3}(h0:¬(t.cor 0=p∧t.cor 1=q))(h:t.cor 1=p∧t.cor 2=q):t.fnd p q=some (t.cor 0):=(if_neg h0).trans (if_pos h)
theorem asD{p:P3}(h0:¬(t.cor 0=p∧t.cor 1=q))(h1:¬(t.cor 1=p∧t.cor 2=q))(h:t.cor 2=p∧t.cor 0=q):t.fnd p q=some (t.cor 1):=(if_neg h0).trans ((if_neg h1).trans (if_pos h))
theorem asE{p:P3}(h0:¬(t.cor 0=p∧t.cor 1=q))(h1:¬(t.cor 1=p∧t.cor 2=q))(h2:¬(t.cor 2=p∧t.cor 0=q)):t.fnd p q=none:=(if_neg h0).trans ((if_neg h1).trans (if_neg h2))
def pA(ms:List T3)(p s:P3):Nat→P3→Bool
 | 0,_=>false
 | n+1,at_=>match bE ms p at_ with
  | none=>false
  | some x=>if x=s then true else pA ms p s n x
theorem Xn{p s x:P3}(h:bE ms p x=none):pA ms p s n x=false:=by
 cases n with
 | zero=>rfl
 | succ n=>simp only[pA,h]
theorem abU{p s x:P3}(h:bE ms p x=some s):pA ms p s (n+1) x=true:=by simp[pA,h]
theorem Xo{p s x y:P3}(h:bE ms p x=some y)(hy:¬y=s):pA ms p s (n+1) x=pA ms p s n y:=by simp[pA,h,hy]
def Jo(ts:List T3)(p:P3):Bool:=(wB ts p).any fun s=>pA (oZ ts p) p s ((oZ ts p).length-1) s
def tX(t:T3):Bool:=decide (t.a=t.b)||decide (t.b=t.c)||decide (t.c=t.a)
theorem aag  : (decide (t.a.x=t.b.x∧t.a.y=t.b.y∧t.a.z=t.b.z)||decide (t.b.x=t.c.x∧t.b.y=t.c.y∧t.b.z=t.c.z)||decide (t.c.x=t.a.x∧t.c.y=t.a.y∧t.c.z=t.a.z))=tX t:=by
 simp only[nV,tX]
def cQ(op:Bool)(ts:List T3):Int :=
 if ts.any tX then 20 else if (aU ts).any (fun e=>decide (1<kN (aU ts) e)) then 21
 else if !op&&decide (0<(aO ts).length) then 22 else if (cK ts).any (Jo ts) then 23 else 0
theorem tY{p:α→Bool}{l:List α}{x:α}(hx:l[k]? = some x):(l.take (k+1)).any p=((l.take k).any p||p x):=by
 rw[cC hx,List.any_append];simp
theorem Av{p:α→Bool}{l:List α}{x:α}(hx:l[k]? = some x)(h:p x=true):l.any p=true:=d_.2 ⟨x,bn hx,h⟩
end Go.Lith
namespace Go.Proofs.YtfekpcimgncioaaGreatDoor
open Go.Proofs.Tryz
open Go.RowKit Go.Lith
variable{l:List ak}{ty T':ay}{v0 c0_0 v1 v2 A B C c1_0 c2_0 D E F G H I:ak}{x0 x1 x2 x3 y0 y1 y2 y3 x4 y4 x5 y5 x6 y6 x7 y7 x8 y8:Int}{x y:cd}
abbrev iM:=@underlying107
abbrev Aw:=@underlying112
abbrev wD:=@underlying215
abbrev oQ:=@underlying218
abbrev nH:=@underlying231
abbrev bZ:=@underlying27
abbrev iY:=@underlying3
abbrev oN:=@underlying30
abbrev xA:=@underlying36
abbrev dA:=@underlying39
abbrev adN:=@underlying4
abbrev Dl:=@underlying46
abbrev mL:=@underlying52
abbrev Ry:=@underlying55
abbrev Nw:=@underlying56
abbrev gW:=@underlying65
abbrev tZ:=@underlying9
abbrev Rz:=@underlying93
abbrev Ny:=@underlying97
abbrev Dn:=@underlying99
set_option maxRecDepth 100000
theorem aF:prog.follows .mixedOrders=true:=by kernel_rfl
theorem afu:Entr prog 82:=bO func82 (by kernel_rfl)
theorem adO:Entr prog 114:=bO func114 (by kernel_rfl)
theorem ajz:Entr prog 119:=bO func119 (by kernel_rfl)
theorem ajA:Entr prog 125:=bO func125 (by kernel_rfl)
theorem adP:Entr prog 128:=bO func128 (by kernel_rfl)
theorem ajB:Entr prog 129:=bO func129 (by kernel_rfl)
theorem ajC:Entr prog 195:=bO func195 (by kernel_rfl)
theorem aah:Entr prog 235:=bO func235 (by kernel_rfl)
theorem ajD:Entr prog 276:=bO func276 (by kernel_rfl)
theorem ajE:Entr prog 277:=bO func277 (by kernel_rfl)
theorem ajF:Entr prog 278:=bO func278 (by kernel_rfl)
theorem adQ:Entr prog 336:=bO func336 (by kernel_rfl)
theorem ajG:Entr prog 337:=bO func337 (by kernel_rfl)
theorem cN:dQ prog 3 1:=dZ (by kernel_rfl)
theorem bT:fP prog 3 false:=eA _ iY rfl
theorem mS:pU prog 3 (.int .i64 0):=lR (by kernel_rfl)
theorem tG:dQ prog 4 1:=dZ (by kernel_rfl)
theorem Jp:fP prog 4 false:=eA _ adN rfl
theorem jE:pU prog 4 (.bool false):=lR (by kernel_rfl)
theorem asF:(prog.info? 5).map (fun i=>(i.size,i.bytes,i.zero))=some (1,1,some (.int .u8 0)):=by kernel_rfl
theorem ani:dQ prog 9 1:=dZ (by kernel_rfl)
theorem ape:fP prog 9 false:=eA _ tZ rfl
theorem iU:dQ prog 27 1:=dZ (by kernel_rfl)
theorem nW:fP prog 27 false:=eA _ bZ rfl
theorem afv:pU prog 27 (.slice none 0 0):=lR (by kernel_rfl)
theorem aA:dQ prog 30 3:=dZ (by kernel_rfl)
theorem aH:fP prog 30 true:=eA _ oN rfl
theorem eC:pU prog 30 (.agg #[.int .i64 0,.int .i64 0,.int .i64 0]):=lR (by kernel_rfl)
theorem uJ:(prog.info? 30).map (fun i=>(i.size,i.bytes,i.zero))=some (3,24,some (.agg #[.int .i64 0,.int .i64 0,.int .i64 0])):=by kernel_rfl
theorem yL:dQ prog 36 3:=dZ (by kernel_rfl)
theorem adR:fP prog 36 true:=eA _ xA rfl
theorem anj:pU prog 36 (.agg #[.int .i64 0,.int .i64 0,.int .i64 0]):=lR (by kernel_rfl)
theorem ajH:dQ prog 38 9:=dZ (by kernel_rfl)
theorem aqc:fP prog 38 true:=eA _ underlying38 rfl
theorem aR:dQ prog 39 9:=dZ (by kernel_rfl)
theorem dK:fP prog 39 true:=eA _ dA rfl
theorem afw:pU prog 39 (.agg #[.int .i64 0,.int .i64 0,.int .i64 0,.int .i64 0,.int .i64 0,.int .i64 0,.int .i64 0,.int .i64 0,.int .i64 0]):=lR (by kernel_rfl)
theorem kS:(prog.info? 39).map (fun i=>(i.size,i.bytes,i.zero))=some (9,72,some (.agg #[.int .i64 0,.int .i64 0,.int .i64 0,.int .i64 0,.int .i64 0,.int .i64 0,.int .i64 0,.int .i64 0,.int .i64 0])):=by kernel_rfl
theorem rK:dQ prog 55 6:=dZ (by kernel_rfl)
theorem adS:fP prog 55 true:=eA _ Ry rfl
theorem ank:pU prog 55 (.agg #[.int .i64 0,.int .i64 0,.int .i64 0,.int .i64 0,.int .i64 0,.int .i64 0]):=lR (by kernel_rfl)
theorem aai:(prog.info? 55).map (fun i=>(i.size,i.bytes,i.zero))=some (6,48,some (.agg #[.int .i64 0,.int .i64 0,.int .i64 0,.int .i64 0,.int .i64 0,.int .i64 0])):=by kernel_rfl
theorem eH:dQ prog 56 6:=dZ (by kernel_rfl)
theorem sJ:fP prog 56 true:=eA _ Nw rfl
theorem anl:pU prog 56 (.agg #[.int .i64 0,.int .i64 0,.int .i64 0,.int .i64 0,.int .i64 0,.int .i64 0]):=lR (by kernel_rfl)
theorem Do:(prog.info? 56).map (fun i=>(i.size,i.bytes,i.zero))=some (6,48,some (.agg #[.int .i64 0,.int .i64 0,.int .i64 0,.int .i64 0,.int .i64 0,.int .i64 0])):=by kernel_rfl
theorem ajI:dQ prog 65 1:=dZ (by kernel_rfl)
theorem ajJ:fP prog 65 false:=eA _ gW rfl
theorem Sa:dQ prog 88 1:=dZ (by kernel_rfl)
theorem aaj:fP prog 88 false:=eA _ underlying88 rfl
theorem ajK:fP prog 93 false:=eA _ Rz rfl
theorem aW:dQ prog 95 2:=dZ (by kernel_rfl)
theorem dU:fP prog 95 true:=eA _ underlying95 rfl
theorem Jq:pU prog 95 (.agg #[.bool false,.string ⟨#[]⟩]):=lR (by kernel_rfl)
theorem lG:dQ prog 97 20:=dZ (by kernel_rfl)
theorem Ax:fP prog 97 true:=eA _ Ny rfl
theorem anm:pU prog 97 (.agg #[.bool false,.string ⟨#[]⟩,.bool false,.string ⟨#[]⟩,.bool false,.string ⟨#[]⟩,.bool false,.string ⟨#[]⟩,.bool false,.string ⟨#[]⟩,.bool false,.string ⟨#[]⟩,.bool false,.string ⟨#[]⟩,.bool false,.string ⟨#[]⟩,.bool false,.string ⟨#[]⟩,.bool false,.string ⟨#[]⟩]):=lR (by kernel_rfl)
theorem ajL:dQ prog 99 1:=dZ (by kernel_rfl)
theorem ajM:fP prog 99 false:=eA _ Dn rfl
theorem afx:fP prog 106 false:=eA _ underlying106 rfl
theorem Fo:dQ prog 107 1:=dZ (by kernel_rfl)
theorem vF:fP prog 107 false:=eA _ iM rfl
theorem sK:dQ prog 112 8:=dZ (by kernel_rfl)
theorem Js:fP prog 112 true:=eA _ Aw rfl
theorem ajN:pU prog 112 (.agg #[.int .i64 0,.int .i64 0,.int .i64 0,.int .i64 0,.int .i64 0,.int .i64 0,.bool false,.string ⟨#[]⟩]):=lR (by kernel_rfl)
theorem ann:(prog.info? 112).map (fun i=>(i.size,i.bytes,i.zero))=some (8,72,some (.agg #[.int .i64 0,.int .i64 0,.int .i64 0,.int .i64 0,.int .i64 0,.int .i64 0,.bool false,.string ⟨#[]⟩])):=by kernel_rfl
theorem ahg:dQ prog 168 8:=dZ (by kernel_rfl)
theorem abV:pU prog 168 (.agg #[.bool false,.string ⟨#[]⟩,.bool false,.string ⟨#[]⟩,.bool false,.string ⟨#[]⟩,.bool false,.string ⟨#[]⟩]):=lR (by kernel_rfl)
theorem vK:dQ prog 191 4:=dZ (by kernel_rfl)
theorem sL:dQ prog 215 6:=dZ (by kernel_rfl)
theorem Fp:fP prog 215 true:=eA _ wD rfl
theorem ano:(prog.info? 215).map (fun i=>(i.size,i.bytes,i.zero))=some (6,48,some (.agg #[.int .i64 0,.int .i64 0,.int .i64 0,.int .i64 0,.int .i64 0,.int .i64 0])):=by kernel_rfl
theorem ajO:pU prog 218 (.agg #[.pointer none,.int .i64 0,.int .i64 0,.int .i64 0,.int .i64 0,.int .i64 0,.int .i64 0,.map none,.map none,.slice none 0 0,.slice none 0 0,.slice none 0 0]):=lR (by kernel_rfl)
theorem Xp:dQ prog 222 6:=dZ (by kernel_rfl)
theorem afy:fP prog 222 true:=eA _ underlying222 rfl
theorem Lv:dQ prog 229 8:=dZ (by kernel_rfl)
theorem afz:fP prog 229 true:=eA _ underlying229 rfl
theorem aV:dQ prog 231 1:=dZ (by kernel_rfl)
theorem fL:fP prog 231 false:=eA _ nH rfl
theorem pP:(prog.info? 231).map (fun i=>(i.size,i.bytes,i.zero))=some (1,8,some (.int .u64 0)):=by kernel_rfl
theorem Fq:dQ prog 242 1:=dZ (by kernel_rfl)
theorem aak:fP prog 242 false:=eA _ underlying242 rfl
theorem Lw:dQ prog 243 3:=dZ (by kernel_rfl)
theorem afA:fP prog 243 true:=eA _ underlying243 rfl
theorem abW:pU prog 243 (.agg #[.nilFunc,.nilFunc,.nilFunc]):=lR (by kernel_rfl)
theorem Xq:dQ prog 257 6:=dZ (by kernel_rfl)
theorem anp:fP prog 257 true:=eA _ underlying257 rfl
theorem Xr:dQ prog 273 6:=dZ (by kernel_rfl)
theorem afB:fP prog 273 true:=eA _ underlying273 rfl
theorem ahh:dQ prog 280 18:=dZ (by kernel_rfl)
theorem anq:fP prog 280 true:=eA _ underlying280 rfl
theorem ahi:dQ prog 300 1:=dZ (by kernel_rfl)
theorem anr:fP prog 300 false:=eA _ underlying300 rfl
theorem ajP:pU prog 300 (.slice none 0 0):=lR (by kernel_rfl)
theorem Xs:dQ prog 333 3:=dZ (by kernel_rfl)
theorem afC:fP prog 333 true:=eA _ underlying333 rfl
theorem yM(w:am):((#[{ name := "X", type:=3,offset:=0,embedded:=false,tag := "", pkgPath := "", byteOffset:=0 },{ name := "Y", type:=3,offset:=1,embedded:=false,tag := "", pkgPath := "", byteOffset:=8 },{ name := "Z", type:=3,offset:=2,embedded:=false,tag := "", pkgPath := "", byteOffset:=16 }]:Array Field).mapM fun f=>do pure (f.offset,←sizeOf f.type):Sem (Array (Nat × Nat))).run prog w=.ok #[(0,1),(1,1),(2,1)] w:=by
 simp[jh,fA cN]
theorem asG(w:am):(Instr.build 30 #[]).run prog w=.ok (.agg #[(.int .i64 0),(.int .i64 0),(.int .i64 0)]) w:=eT oN eC yM (by simp[Instr.fill,jQ]) w
theorem abX    : iO prog l (.build 30 #[]) ty (.agg #[(.int .i64 0),(.int .i64 0),(.int .i64 0)]):=mP (vs:=#[]) (by simp) fun w=>asG  w
theorem aqd(h0:v0.cells = #[c0_0])(w:am):(Instr.build 30 #[(0,v0)]).run prog w=.ok (.agg #[c0_0,(.int .i64 0),(.int .i64 0)]) w:=eT oN eC yM (by simp[Instr.fill,jQ,h0]) w
theorem aal{x0:cd}(h0:(ev l x0).cells = #[c0_0]):iO prog l (.build 30 #[(0,x0)]) ty (.agg #[c0_0,(.int .i64 0),(.int .i64 0)]):=mP (vs:=#[(0,ev l x0)]) (by simp) fun w=>aqd h0 w
theorem adT(h0:v0.cells = #[A])(h1:v1.cells = #[B])(h2:v2.cells = #[C])(w:am):(Instr.build 30 #[(0,v0),(1,v1),(2,v2)]).run prog w=.ok (.agg #[A,B,C]) w:=eT oN eC yM (by simp[Instr.fill,jQ,h0,h1,h2]) w
theorem Lx{x0 x1 x2:cd}(h0:(ev l x0).cells = #[A])(h1:(ev l x1).cells = #[B])(h2:(ev l x2).cells = #[C]):iO prog l (.build 30 #[(0,x0),(1,x1),(2,x2)]) ty (.agg #[A,B,C]):=mP (vs:=#[(0,ev l x0),(1,ev l x1),(2,ev l x2)]) (by simp) fun w=>adT h0 h1 h2 w
theorem aqe(h1:v1.cells = #[c1_0])(w:am):(Instr.build 30 #[(1,v1)]).run prog w=.ok (.agg #[(.int .i64 0),c1_0,(.int .i64 0)]) w:=eT oN eC yM (by simp[Instr.fill,jQ,h1]) w
theorem aam{x1:cd}(h1:(ev l x1).cells = #[c1_0]):iO prog l (.build 30 #[(1,x1)]) ty (.agg #[(.int .i64 0),c1_0,(.int .i64 0)]):=mP (vs:=#[(1,ev l x1)]) (by simp) fun w=>aqe h1 w
theorem aqf(h2:v2.cells = #[c2_0])(w:am):(Instr.build 30 #[(2,v2)]).run prog w=.ok (.agg #[(.int .i64 0),(.int .i64 0),c2_0]) w:=eT oN eC yM (by simp[Instr.fill,jQ,h2]) w
theorem aan{x2:cd}(h2:(ev l x2).cells = #[c2_0]):iO prog l (.build 30 #[(2,x2)]) ty (.agg #[(.int .i64 0),(.int .i64 0),c2_0]):=mP (vs:=#[(2,ev l x2)]) (by simp) fun w=>aqf h2 w
theorem adU(h0:v0.cells = #[A,B,C])(h1:v1.cells = #[D,E,F])(h2:v2.cells = #[G,H,I])(w:am):(Instr.build 39 #[(0,v0),(1,v1),(2,v2)]).run prog w=.ok (.agg #[A,B,C,D,E,F,G,H,I]) w:=mW dA afw aA (by simp[Instr.fill,jQ,h0,h1,h2]) w
theorem eU{x0 x1 x2:cd}(h0:(ev l x0).cells = #[A,B,C])(h1:(ev l x1).cells = #[D,E,F])(h2:(ev l x2).cells = #[G,H,I]):iO prog l (.build 39 #[(0,x0),(1,x1),(2,x2)]) ty (.agg #[A,B,C,D,E,F,G,H,I]):=mP (vs:=#[(0,ev l x0),(1,ev l x1),(2,ev l x2)]) (by simp) fun w=>adU h0 h1 h2 w
theorem ahj(w:am):((#[{ name := "From", type:=30,offset:=0,embedded:=false,tag := "", pkgPath := "", byteOffset:=0 },{ name := "To", type:=30,offset:=3,embedded:=false,tag := "", pkgPath := "", byteOffset:=24 }]:Array Field).mapM fun f=>do pure (f.offset,←sizeOf f.type):Sem (Array (Nat × Nat))).run prog w=.ok #[(0,3),(3,3)] w:=by
 simp[jh,fA aA]
theorem ajQ(h0:v0.cells = #[A,B,C])(h1:v1.cells = #[D,E,F])(w:am):(Instr.build 55 #[(0,v0),(1,v1)]).run prog w=.ok (.agg #[A,B,C,D,E,F]) w:=eT Ry ank ahj (by simp[Instr.fill,jQ,h0,h1]) w
theorem rL{x0 x1:cd}(h0:(ev l x0).cells = #[A,B,C])(h1:(ev l x1).cells = #[D,E,F]):iO prog l (.build 55 #[(0,x0),(1,x1)]) ty (.agg #[A,B,C,D,E,F]):=mP (vs:=#[(0,ev l x0),(1,ev l x1)]) (by simp) fun w=>ajQ h0 h1 w
theorem ajR(h0:v0.cells = #[A,B,C])(h1:v1.cells = #[D,E,F])(w:am):(Instr.build 56 #[(0,v0),(1,v1)]).run prog w=.ok (.agg #[A,B,C,D,E,F]) w:=mW Nw anl aA (by simp[Instr.fill,jQ,h0,h1]) w
theorem Sb{x0 x1:cd}(h0:(ev l x0).cells = #[A,B,C])(h1:(ev l x1).cells = #[D,E,F]):iO prog l (.build 56 #[(0,x0),(1,x1)]) ty (.agg #[A,B,C,D,E,F]):=mP (vs:=#[(0,ev l x0),(1,ev l x1)]) (by simp) fun w=>ajR h0 h1 w
theorem Xt(w:am):((#[{ name := "Neg", type:=4,offset:=0,embedded:=false,tag := "", pkgPath := "", byteOffset:=0 },{ name := "Mag", type:=9,offset:=1,embedded:=false,tag := "", pkgPath := "", byteOffset:=8 }]:Array Field).mapM fun f=>do pure (f.offset,←sizeOf f.type):Sem (Array (Nat × Nat))).run prog w=.ok #[(0,1),(1,1)] w:=by
 simp[jh,fA tG,fA ani]
theorem asH(w:am):(Instr.build 95 #[]).run prog w=.ok (.agg #[(.bool false),(.string ⟨#[]⟩)]) w:=eT underlying95 Jq Xt (by simp[Instr.fill,jQ]) w
theorem abY    : iO prog l (.build 95 #[]) ty (.agg #[(.bool false),(.string ⟨#[]⟩)]):=mP (vs:=#[]) (by simp) fun w=>asH  w
theorem ajS(h0:v0.cells = #[A])(h1:v1.cells = #[B])(w:am):(Instr.build 95 #[(0,v0),(1,v1)]).run prog w=.ok (.agg #[A,B]) w:=eT underlying95 Jq Xt (by simp[Instr.fill,jQ,h0,h1]) w
theorem Dp{x0 x1:cd}(h0:(ev l x0).cells = #[A])(h1:(ev l x1).cells = #[B]):iO prog l (.build 95 #[(0,x0),(1,x1)]) ty (.agg #[A,B]):=mP (vs:=#[(0,ev l x0),(1,ev l x1)]) (by simp) fun w=>ajS h0 h1 w
theorem adV(w:am):((#[{ name := "u", type:=30,offset:=0,embedded:=false,tag := "", pkgPath := "lithophane/collapse", byteOffset:=0 },{ name := "v", type:=30,offset:=3,embedded:=false,tag := "", pkgPath := "lithophane/collapse", byteOffset:=24 },{ name := "cost", type:=95,offset:=6,embedded:=false,tag := "", pkgPath := "lithophane/collapse", byteOffset:=48 }]:Array Field).mapM fun f=>do pure (f.offset,←sizeOf f.type):Sem (Array (Nat × Nat))).run prog w=.ok #[(0,3),(3,3),(6,2)] w:=by
 simp[jh,fA aA,fA aW]
theorem abZ(h0:v0.cells = #[A,B,C])(h1:v1.cells = #[D,E,F])(h2:v2.cells = #[G,H])(w:am):(Instr.build 112 #[(0,v0),(1,v1),(2,v2)]).run prog w=.ok (.agg #[A,B,C,D,E,F,G,H]) w:=eT Aw ajN adV (by simp[Instr.fill,jQ,h0,h1,h2]) w
theorem Jt{x0 x1 x2:cd}(h0:(ev l x0).cells = #[A,B,C])(h1:(ev l x1).cells = #[D,E,F])(h2:(ev l x2).cells = #[G,H]):iO prog l (.build 112 #[(0,x0),(1,x1),(2,x2)]) ty (.agg #[A,B,C,D,E,F,G,H]):=mP (vs:=#[(0,ev l x0),(1,ev l x1),(2,ev l x2)]) (by simp) fun w=>abZ h0 h1 h2 w
theorem Vx{v3:ak}(h0:v0.cells = #[A,B])(h1:v1.cells = #[C,D])(h2:v2.cells = #[E,F])(h3:v3.cells = #[G,H])(w:am):(Instr.build 168 #[(0,v0),(1,v1),(2,v2),(3,v3)]).run prog w=.ok (.agg #[A,B,C,D,E,F,G,H]) w:=mW underlying168 abV aW (by simp[Instr.fill,jQ,h0,h1,h2,h3]) w
theorem Gh{x0 x1 x2 x3:cd}(h0:(ev l x0).cells = #[A,B])(h1:(ev l x1).cells = #[C,D])(h2:(ev l x2).cells = #[E,F])(h3:(ev l x3).cells = #[G,H]):iO prog l (.build 168 #[(0,x0),(1,x1),(2,x2),(3,x3)]) ty (.agg #[A,B,C,D,E,F,G,H]):=mP (vs:=#[(0,ev l x0),(1,ev l x1),(2,ev l x2),(3,ev l x3)]) (by simp) fun w=>Vx h0 h1 h2 h3 w
theorem adW(w:am):((#[{ name := "surface", type:=88,offset:=0,embedded:=true,tag := "", pkgPath := "lithophane/collapse", byteOffset:=0 },{ name := "u", type:=30,offset:=1,embedded:=false,tag := "", pkgPath := "lithophane/collapse", byteOffset:=8 },{ name := "v", type:=30,offset:=4,embedded:=false,tag := "", pkgPath := "lithophane/collapse", byteOffset:=32 },{ name := "x", type:=107,offset:=7,embedded:=false,tag := "", pkgPath := "lithophane/collapse", byteOffset:=56 },{ name := "y", type:=107,offset:=8,embedded:=false,tag := "", pkgPath := "lithophane/collapse", byteOffset:=64 },{ name := "moved", type:=27,offset:=9,embedded:=false,tag := "", pkgPath := "lithophane/collapse", byteOffset:=72 },{ name := "old", type:=27,offset:=10,embedded:=false,tag := "", pkgPath := "lithophane/collapse", byteOffset:=96 },{ name := "rest", type:=27,offset:=11,embedded:=false,tag := "", pkgPath := "lithophane/collapse", byteOffset:=120 }]:Array Field).mapM fun f=>do pure (f.offset,←sizeOf f.type):Sem (Array (Nat × Nat))).run prog w=.ok #[(0,1),(1,3),(4,3),(7,1),(8,1),(9,1),(10,1),(11,1)] w:=by
 simp[jh,fA Fo,fA iU,fA aA,fA Sa]
theorem Pc{v3 v4:ak}(h0:v0.cells = #[A])(h1:v1.cells = #[B,C,D])(h2:v2.cells = #[E,F,G])(h3:v3.cells = #[H])(h4:v4.cells = #[I])(w:am):(Instr.build 218 #[(0,v0),(1,v1),(2,v2),(3,v3),(4,v4)]).run prog w=.ok (.agg #[A,B,C,D,E,F,G,H,I,(.slice none 0 0),(.slice none 0 0),(.slice none 0 0)]) w:=eT oQ ajO adW (by simp[Instr.fill,jQ,h0,h1,h2,h3,h4]) w
theorem Ck{x0 x1 x2 x3 x4:cd}(h0:(ev l x0).cells = #[A])(h1:(ev l x1).cells = #[B,C,D])(h2:(ev l x2).cells = #[E,F,G])(h3:(ev l x3).cells = #[H])(h4:(ev l x4).cells = #[I]):iO prog l (.build 218 #[(0,x0),(1,x1),(2,x2),(3,x3),(4,x4)]) ty (.agg #[A,B,C,D,E,F,G,H,I,(.slice none 0 0),(.slice none 0 0),(.slice none 0 0)]):=mP (vs:=#[(0,ev l x0),(1,ev l x1),(2,ev l x2),(3,ev l x3),(4,ev l x4)]) (by simp) fun w=>Pc h0 h1 h2 h3 h4 w
theorem ab0(h0:v0.cells = #[A])(h1:v1.cells = #[B])(h2:v2.cells = #[C])(w:am):(Instr.build 243 #[(0,v0),(1,v1),(2,v2)]).run prog w=.ok (.agg #[A,B,C]) w:=mW underlying243 abW Fq (by simp[Instr.fill,jQ,h0,h1,h2]) w
theorem Ju{x0 x1 x2:cd}(h0:(ev l x0).cells = #[A])(h1:(ev l x1).cells = #[B])(h2:(ev l x2).cells = #[C]):iO prog l (.build 243 #[(0,x0),(1,x1),(2,x2)]) ty (.agg #[A,B,C]):=mP (vs:=#[(0,ev l x0),(1,ev l x1),(2,ev l x2)]) (by simp) fun w=>ab0 h0 h1 h2 w
theorem sM(d:Nat)    : vX prog (d+2) 30 (.agg #[.int .i64 x0,.int .i64 x1,.int .i64 x2]) (.agg #[.int .i64 y0,.int .i64 y1,.int .i64 y2]) (x0=y0∧x1=y1∧x2=y2):=(vX.struct oN (by kernel_rfl) (Gg.cons (by decide) (bU bT rfl) (bU bT rfl) (vX.int (d:=d+0) iY) (Gg.cons (by decide) (bU bT rfl) (bU bT rfl) (vX.int (d:=d+0) iY) (Gg.cons (by decide) (bU bT rfl) (bU bT rfl) (vX.int (d:=d+0) iY) Gg.nil)))).iff (by simp only[and_assoc,and_true])
theorem bS(hx:ev l x=(.agg #[.int .i64 x0,.int .i64 x1,.int .i64 x2]))(hy:ev l y=(.agg #[.int .i64 y0,.int .i64 y1,.int .i64 y2])):iO prog l (.binOp .eql 30 x y T') ty (.bool (decide (x0=y0∧x1=y1∧x2=y2))):=Ra (by kernel_rfl) hx hy (sM 9998)
theorem fR(hx:ev l x=(.agg #[.int .i64 x0,.int .i64 x1,.int .i64 x2]))(hy:ev l y=(.agg #[.int .i64 y0,.int .i64 y1,.int .i64 y2])):iO prog l (.binOp .neq 30 x y T') ty (.bool (decide (¬(x0=y0∧x1=y1∧x2=y2)))):=adu (by kernel_rfl) hx hy (sM 9998)
theorem aqg(d:Nat)    : vX prog (d+2) 36 (.agg #[.int .i64 x0,.int .i64 x1,.int .i64 x2]) (.agg #[.int .i64 y0,.int .i64 y1,.int .i64 y2]) (x0=y0∧x1=y1∧x2=y2):=(vX.array xA cN (tS.cons (bU bT rfl) (bU bT rfl) (vX.int (d:=d+0) iY) (tS.cons (bU bT rfl) (bU bT rfl) (vX.int (d:=d+0) iY) (tS.cons (bU bT rfl) (bU bT rfl) (vX.int (d:=d+0) iY) tS.nil)))).iff (by simp only[and_assoc,and_true])
theorem Xu(hx:ev l x=(.agg #[.int .i64 x0,.int .i64 x1,.int .i64 x2]))(hy:ev l y=(.agg #[.int .i64 y0,.int .i64 y1,.int .i64 y2])):iO prog l (.binOp .eql 36 x y T') ty (.bool (decide (x0=y0∧x1=y1∧x2=y2))):=Ra (by kernel_rfl) hx hy (aqg 9998)
theorem aqh(d:Nat)          : vX prog (d+3) 38 (.agg #[.int .i64 x0,.int .i64 x1,.int .i64 x2,.int .i64 x3,.int .i64 x4,.int .i64 x5,.int .i64 x6,.int .i64 x7,.int .i64 x8]) (.agg #[.int .i64 y0,.int .i64 y1,.int .i64 y2,.int .i64 y3,.int .i64 y4,.int .i64 y5,.int .i64 y6,.int .i64 y7,.int .i64 y8]) (x0=y0∧x1=y1∧x2=y2∧x3=y3∧x4=y4∧x5=y5∧x6=y6∧x7=y7∧x8=y8):=(vX.array underlying38 aA (tS.cons (cZ aH aA rfl) (cZ aH aA rfl) (sM (d+0)) (tS.cons (cZ aH aA rfl) (cZ aH aA rfl) (sM (d+0)) (tS.cons (cZ aH aA rfl) (cZ aH aA rfl) (sM (d+0)) tS.nil)))).iff (by simp only[and_assoc,and_true])
theorem ajT(d:Nat)          : vX prog (d+3) 39 (.agg #[.int .i64 x0,.int .i64 x1,.int .i64 x2,.int .i64 x3,.int .i64 x4,.int .i64 x5,.int .i64 x6,.int .i64 x7,.int .i64 x8]) (.agg #[.int .i64 y0,.int .i64 y1,.int .i64 y2,.int .i64 y3,.int .i64 y4,.int .i64 y5,.int .i64 y6,.int .i64 y7,.int .i64 y8]) (x0=y0∧x1=y1∧x2=y2∧x3=y3∧x4=y4∧x5=y5∧x6=y6∧x7=y7∧x8=y8):=(vX.array dA aA (tS.cons (cZ aH aA rfl) (cZ aH aA rfl) (sM (d+0)) (tS.cons (cZ aH aA rfl) (cZ aH aA rfl) (sM (d+0)) (tS.cons (cZ aH aA rfl) (cZ aH aA rfl) (sM (d+0)) tS.nil)))).iff (by simp only[and_assoc,and_true])
theorem ahk(hx:ev l x=(.agg #[.int .i64 x0,.int .i64 x1,.int .i64 x2,.int .i64 x3,.int .i64 x4,.int .i64 x5,.int .i64 x6,.int .i64 x7,.int .i64 x8]))(hy:ev l y=(.agg #[.int .i64 y0,.int .i64 y1,.int .i64 y2,.int .i64 y3,.int .i64 y4,.int .i64 y5,.int .i64 y6,.int .i64 y7,.int .i64 y8])):iO prog l (.binOp .eql 39 x y T') ty (.bool (decide (x0=y0∧x1=y1∧x2=y2∧x3=y3∧x4=y4∧x5=y5∧x6=y6∧x7=y7∧x8=y8))):=Ra (by kernel_rfl) hx hy (ajT 9997)
theorem adX(d:Nat)       : vX prog (d+3) 56 (.agg #[.int .i64 x0,.int .i64 x1,.int .i64 x2,.int .i64 x3,.int .i64 x4,.int .i64 x5]) (.agg #[.int .i64 y0,.int .i64 y1,.int .i64 y2,.int .i64 y3,.int .i64 y4,.int .i64 y5]) (x0=y0∧x1=y1∧x2=y2∧x3=y3∧x4=y4∧x5=y5):=(vX.array Nw aA (tS.cons (cZ aH aA rfl) (cZ aH aA rfl) (sM (d+0)) (tS.cons (cZ aH aA rfl) (cZ aH aA rfl) (sM (d+0)) tS.nil))).iff (by simp only[and_assoc,and_true])
theorem ahl(hx:ev l x=(.agg #[.int .i64 x0,.int .i64 x1,.int .i64 x2,.int .i64 x3,.int .i64 x4,.int .i64 x5]))(hy:ev l y=(.agg #[.int .i64 y0,.int .i64 y1,.int .i64 y2,.int .i64 y3,.int .i64 y4,.int .i64 y5])):iO prog l (.binOp .eql 56 x y T') ty (.bool (decide (x0=y0∧x1=y1∧x2=y2∧x3=y3∧x4=y4∧x5=y5))):=Ra (by kernel_rfl) hx hy (adX 9997)
theorem ahm(hx:ev l x=(.agg #[.int .i64 x0,.int .i64 x1,.int .i64 x2,.int .i64 x3,.int .i64 x4,.int .i64 x5]))(hy:ev l y=(.agg #[.int .i64 y0,.int .i64 y1,.int .i64 y2,.int .i64 y3,.int .i64 y4,.int .i64 y5])):iO prog l (.binOp .neq 56 x y T') ty (.bool (decide (¬(x0=y0∧x1=y1∧x2=y2∧x3=y3∧x4=y4∧x5=y5)))):=adu (by kernel_rfl) hx hy (adX 9997)
theorem Sc(d:Nat){x0 y0:Bool}{x1 y1:ByteArray}:vX prog (d+2) 95 (.agg #[.bool x0,.string x1]) (.agg #[.bool y0,.string y1]) (x0=y0∧x1=y1):=(vX.struct underlying95 (by kernel_rfl) (Gg.cons (by decide) (bU Jp rfl) (bU Jp rfl) (vX.bool (d:=d+0) adN) (Gg.cons (by decide) (bU ape rfl) (bU ape rfl) (vX.str (d:=d+0) tZ) Gg.nil))).iff (by simp only[and_assoc,and_true])
theorem ahn{x0 y0:Bool}{x1 y1:ByteArray}(hx:ev l x=(.agg #[.bool x0,.string x1]))(hy:ev l y=(.agg #[.bool y0,.string y1])):iO prog l (.binOp .neq 95 x y T') ty (.bool (decide (¬(x0=y0∧x1=y1)))):=adu (by kernel_rfl) hx hy (Sc 9998)
theorem ans(d:Nat)       : vX prog (d+3) 215 (.agg #[.int .i64 x0,.int .i64 x1,.int .i64 x2,.int .i64 x3,.int .i64 x4,.int .i64 x5]) (.agg #[.int .i64 y0,.int .i64 y1,.int .i64 y2,.int .i64 y3,.int .i64 y4,.int .i64 y5]) (x0=y0∧x1=y1∧x2=y2∧x3=y3∧x4=y4∧x5=y5):=(vX.struct wD (by kernel_rfl) (Gg.cons (by decide) (cZ aH aA rfl) (cZ aH aA rfl) (sM (d+0)) (Gg.cons (by decide) (cZ aH aA rfl) (cZ aH aA rfl) (sM (d+0)) Gg.nil))).iff (by simp only[and_assoc,and_true])
theorem ant(d:Nat){x0 y0:Bool}{x1 y1:ByteArray}{x2 y2:Bool}{x3 y3:ByteArray}{x4 y4:Bool}{x5 y5:ByteArray}{x6 y6:Bool}{x7 y7:ByteArray}:vX prog (d+3) 229 (.agg #[.bool x0,.string x1,.bool x2,.string x3,.bool x4,.string x5,.bool x6,.string x7]) (.agg #[.bool y0,.string y1,.bool y2,.string y3,.bool y4,.string y5,.bool y6,.string y7]) (x0=y0∧x1=y1∧x2=y2∧x3=y3∧x4=y4∧x5=y5∧x6=y6∧x7=y7):=(vX.array underlying229 aW (tS.cons (cZ dU aW rfl) (cZ dU aW rfl) (Sc (d+0)) (tS.cons (cZ dU aW rfl) (cZ dU aW rfl) (Sc (d+0)) (tS.cons (cZ dU aW rfl) (cZ dU aW rfl) (Sc (d+0)) (tS.cons (cZ dU aW rfl) (cZ dU aW rfl) (Sc (d+0)) tS.nil))))).iff (by simp only[and_assoc,and_true])
theorem adY{x0 y0:Bool}{x1 y1:ByteArray}{x2 y2:Bool}{x3 y3:ByteArray}{x4 y4:Bool}{x5 y5:ByteArray}{x6 y6:Bool}{x7 y7:ByteArray}(hx:ev l x=(.agg #[.bool x0,.string x1,.bool x2,.string x3,.bool x4,.string x5,.bool x6,.string x7]))(hy:ev l y=(.agg #[.bool y0,.string y1,.bool y2,.string y3,.bool y4,.string y5,.bool y6,.string y7])):iO prog l (.binOp .eql 229 x y T') ty (.bool (decide (x0=y0∧x1=y1∧x2=y2∧x3=y3∧x4=y4∧x5=y5∧x6=y6∧x7=y7))):=Ra (by kernel_rfl) hx hy (ant 9997)
end Go.Proofs.YtfekpcimgncioaaGreatDoor
namespace Go.Proofs.YtfekpcimgncioaaGreatDoor
open Go.Proofs.Tryz
open Go.RowKit Go.Lith
variable{l:List ak}{ty:ay}{x y x0 x1 x2 x3 x4:cd}{k:IntKind}{c0 c1 c2 c3 c4 c5 c6 c7 c8 c9 c10 c11 c12 c13 c14 c15 c16 c17 A B C D E F G H I J K L M N O0 P R S:ak}{ds:List dl}{ops:Array Oper}{rest:List Oper}{d:Nat}{pos:String}{after:Array Edge}{w:am}
theorem kC(hx:ev l x=.agg #[c0,c1,c2])(hy:ev l y=.int k 0):iO prog l (.index 36 x y) ty c0:=qW xA bT cN hx hy (by decide) (by decide) rfl
theorem kD(hx:ev l x=.agg #[c0,c1,c2])(hy:ev l y=.int k 1):iO prog l (.index 36 x y) ty c1:=qW xA bT cN hx hy (by decide) (by decide) rfl
theorem kE(hx:ev l x=.agg #[c0,c1,c2])(hy:ev l y=.int k 2):iO prog l (.index 36 x y) ty c2:=qW xA bT cN hx hy (by decide) (by decide) rfl
theorem kF(hx:ev l x=.agg #[c0,c1,c2,c3,c4,c5,c6,c7,c8])(hy:ev l y=.int k 0):iO prog l (.index 39 x y) ty (.agg #[c0,c1,c2]):=qX dA aH aA hx hy (by decide) (by decide) rfl
theorem kG(hx:ev l x=.agg #[c0,c1,c2,c3,c4,c5,c6,c7,c8])(hy:ev l y=.int k 1):iO prog l (.index 39 x y) ty (.agg #[c3,c4,c5]):=qX dA aH aA hx hy (by decide) (by decide) rfl
theorem kH(hx:ev l x=.agg #[c0,c1,c2,c3,c4,c5,c6,c7,c8])(hy:ev l y=.int k 2):iO prog l (.index 39 x y) ty (.agg #[c6,c7,c8]):=qX dA aH aA hx hy (by decide) (by decide) rfl
theorem Gw(hx:ev l x=.agg #[c0,c1,c2])(hy:ev l y=.int k 0):iO prog l (.index 243 x y) ty c0:=qW underlying243 aak Fq hx hy (by decide) (by decide) rfl
theorem Gx(hx:ev l x=.agg #[c0,c1,c2])(hy:ev l y=.int k 1):iO prog l (.index 243 x y) ty c1:=qW underlying243 aak Fq hx hy (by decide) (by decide) rfl
theorem Gy(hx:ev l x=.agg #[c0,c1,c2])(hy:ev l y=.int k 2):iO prog l (.index 243 x y) ty c2:=qW underlying243 aak Fq hx hy (by decide) (by decide) rfl
theorem Vy(hx:ev l x=.agg #[c0,c1,c2,c3,c4,c5])(hy:ev l y=.int k 0):iO prog l (.index 273 x y) ty (.agg #[c0,c1]):=qX underlying273 dU aW hx hy (by decide) (by decide) rfl
theorem Vz(hx:ev l x=.agg #[c0,c1,c2,c3,c4,c5])(hy:ev l y=.int k 1):iO prog l (.index 273 x y) ty (.agg #[c2,c3]):=qX underlying273 dU aW hx hy (by decide) (by decide) rfl
theorem Wa(hx:ev l x=.agg #[c0,c1,c2,c3,c4,c5])(hy:ev l y=.int k 2):iO prog l (.index 273 x y) ty (.agg #[c4,c5]):=qX underlying273 dU aW hx hy (by decide) (by decide) rfl
theorem Wb(hx:ev l x=.agg #[c0,c1,c2,c3,c4,c5,c6,c7,c8,c9,c10,c11,c12,c13,c14,c15,c16,c17])(hy:ev l y=.int k 0):iO prog l (.index 280 x y) ty (.agg #[c0,c1,c2,c3,c4,c5]):=qX underlying280 Fp sL hx hy (by decide) (by decide) rfl
theorem Wc(hx:ev l x=.agg #[c0,c1,c2,c3,c4,c5,c6,c7,c8,c9,c10,c11,c12,c13,c14,c15,c16,c17])(hy:ev l y=.int k 1):iO prog l (.index 280 x y) ty (.agg #[c6,c7,c8,c9,c10,c11]):=qX underlying280 Fp sL hx hy (by decide) (by decide) rfl
theorem Wd(hx:ev l x=.agg #[c0,c1,c2,c3,c4,c5,c6,c7,c8,c9,c10,c11,c12,c13,c14,c15,c16,c17])(hy:ev l y=.int k 2):iO prog l (.index 280 x y) ty (.agg #[c12,c13,c14,c15,c16,c17]):=qX underlying280 Fp sL hx hy (by decide) (by decide) rfl
theorem We(hx:ev l x=.agg #[c0,c1,c2])(hy:ev l y=.int k 0):iO prog l (.index 333 x y) ty c0:=qW underlying333 bT cN hx hy (by decide) (by decide) rfl
theorem Wf(hx:ev l x=.agg #[c0,c1,c2])(hy:ev l y=.int k 1):iO prog l (.index 333 x y) ty c1:=qW underlying333 bT cN hx hy (by decide) (by decide) rfl
theorem Wg(hx:ev l x=.agg #[c0,c1,c2])(hy:ev l y=.int k 2):iO prog l (.index 333 x y) ty c2:=qW underlying333 bT cN hx hy (by decide) (by decide) rfl
theorem nG{Q:Exit→Act→am→Prop}(h0:(ev l x0).cells = #[A,B,C,D,E,F,G,H,I])(h:∀w' g,dY w w'→w.heap.size≤g→fE w' g [A,B,C,D,E,F,G,H,I] 39→au prog ops Q rest (Fr (l.set d (.slice (some ⟨g,0,none⟩) 1 1)) ds) w'):au prog ops Q (bp (some d) (.buildSlice 27 1 #[(0,x0)]) ty pos after none::rest) (Fr l ds) w :=
 lX (vs:=#[(0,ev l x0)]) (base:=#[.int .i64 0,.int .i64 0,.int .i64 0,.int .i64 0,.int .i64 0,.int .i64 0,.int .i64 0,.int .i64 0,.int .i64 0]) (c:=9) (z:=(.agg #[.int .i64 0,.int .i64 0,.int .i64 0,.int .i64 0,.int .i64 0,.int .i64 0,.int .i64 0,.int .i64 0,.int .i64 0])) bZ (by kernel_rfl) (by decide) (by decide) (by kernel_rfl) (by simp) (by simp[Instr.fill,h0]) h
theorem Fs{Q:Exit→Act→am→Prop}(h0:(ev l x0).cells = #[A,B,C,D,E,F,G,H,I])(h1:(ev l x1).cells = #[J,K,L,M,N,O0,P,R,S])(h:∀w' g,dY w w'→w.heap.size≤g→fE w' g [A,B,C,D,E,F,G,H,I,J,K,L,M,N,O0,P,R,S] 39→au prog ops Q rest (Fr (l.set d (.slice (some ⟨g,0,none⟩) 2 2)) ds) w'):au prog ops Q (bp (some d) (.buildSlice 27 2 #[(0,x0),(1,x1)]) ty pos after none::rest) (Fr l ds) w :=
 lX (vs:=#[(0,ev l x0),(1,ev l x1)]) (base:=#[.int .i64 0,.int .i64 0,.int .i64 0,.int .i64 0,.int .i64 0,.int .i64 0,.int .i64 0,.int .i64 0,.int .i64 0,.int .i64 0,.int .i64 0,.int .i64 0,.int .i64 0,.int .i64 0,.int .i64 0,.int .i64 0,.int .i64 0,.int .i64 0]) (c:=9) (z:=(.agg #[.int .i64 0,.int .i64 0,.int .i64 0,.int .i64 0,.int .i64 0,.int .i64 0,.int .i64 0,.int .i64 0,.int .i64 0])) bZ (by kernel_rfl) (by decide) (by decide) (by kernel_rfl) (by simp) (by simp[Instr.fill,h0,h1]) h
theorem aho{Q:Exit→Act→am→Prop}{T U V W X Y Z b e f i j k m n o p q:ak}(h0:(ev l x0).cells = #[A,B,C,D,E,F,G,H,I])(h1:(ev l x1).cells = #[J,K,L,M,N,O0,P,R,S])(h2:(ev l x2).cells = #[T,U,V,W,X,Y,Z,b,e])(h3:(ev l x3).cells = #[f,i,j,k,m,n,o,p,q])(h:∀w' g,dY w w'→w.heap.size≤g→fE w' g [A,B,C,D,E,F,G,H,I,J,K,L,M,N,O0,P,R,S,T,U,V,W,X,Y,Z,b,e,f,i,j,k,m,n,o,p,q] 39→au prog ops Q rest (Fr (l.set d (.slice (some ⟨g,0,none⟩) 4 4)) ds) w'):au prog ops Q (bp (some d) (.buildSlice 27 4 #[(0,x0),(1,x1),(2,x2),(3,x3)]) ty pos after none::rest) (Fr l ds) w :=
 lX (vs:=#[(0,ev l x0),(1,ev l x1),(2,ev l x2),(3,ev l x3)]) (base:=#[.int .i64 0,.int .i64 0,.int .i64 0,.int .i64 0,.int .i64 0,.int .i64 0,.int .i64 0,.int .i64 0,.int .i64 0,.int .i64 0,.int .i64 0,.int .i64 0,.int .i64 0,.int .i64 0,.int .i64 0,.int .i64 0,.int .i64 0,.int .i64 0,.int .i64 0,.int .i64 0,.int .i64 0,.int .i64 0,.int .i64 0,.int .i64 0,.int .i64 0,.int .i64 0,.int .i64 0,.int .i64 0,.int .i64 0,.int .i64 0,.int .i64 0,.int .i64 0,.int .i64 0,.int .i64 0,.int .i64 0,.int .i64 0]) (c:=9) (z:=(.agg #[.int .i64 0,.int .i64 0,.int .i64 0,.int .i64 0,.int .i64 0,.int .i64 0,.int .i64 0,.int .i64 0,.int .i64 0])) bZ (by kernel_rfl) (by decide) (by decide) (by kernel_rfl) (by simp) (by simp[Instr.fill,h0,h1,h2,h3]) h
theorem ahp{Q:Exit→Act→am→Prop}{x5:cd}{T U V W X Y Z b e f i j k m n o p q r s u A0 A1 A2 A3 A4 A5 A6 A7 A8 A9 B0 B1 B2 B3 B4:ak}(h0:(ev l x0).cells = #[A,B,C,D,E,F,G,H,I])(h1:(ev l x1).cells = #[J,K,L,M,N,O0,P,R,S])(h2:(ev l x2).cells = #[T,U,V,W,X,Y,Z,b,e])(h3:(ev l x3).cells = #[f,i,j,k,m,n,o,p,q])(h4:(ev l x4).cells = #[r,s,u,A0,A1,A2,A3,A4,A5])(h5:(ev l x5).cells = #[A6,A7,A8,A9,B0,B1,B2,B3,B4])(h:∀w' g,dY w w'→w.heap.size≤g→fE w' g [A,B,C,D,E,F,G,H,I,J,K,L,M,N,O0,P,R,S,T,U,V,W,X,Y,Z,b,e,f,i,j,k,m,n,o,p,q,r,s,u,A0,A1,A2,A3,A4,A5,A6,A7,A8,A9,B0,B1,B2,B3,B4] 39→au prog ops Q rest (Fr (l.set d (.slice (some ⟨g,0,none⟩) 6 6)) ds) w'):au prog ops Q (bp (some d) (.buildSlice 27 6 #[(0,x0),(1,x1),(2,x2),(3,x3),(4,x4),(5,x5)]) ty pos after none::rest) (Fr l ds) w :=
 lX (vs:=#[(0,ev l x0),(1,ev l x1),(2,ev l x2),(3,ev l x3),(4,ev l x4),(5,ev l x5)]) (base:=#[.int .i64 0,.int .i64 0,.int .i64 0,.int .i64 0,.int .i64 0,.int .i64 0,.int .i64 0,.int .i64 0,.int .i64 0,.int .i64 0,.int .i64 0,.int .i64 0,.int .i64 0,.int .i64 0,.int .i64 0,.int .i64 0,.int .i64 0,.int .i64 0,.int .i64 0,.int .i64 0,.int .i64 0,.int .i64 0,.int .i64 0,.int .i64 0,.int .i64 0,.int .i64 0,.int .i64 0,.int .i64 0,.int .i64 0,.int .i64 0,.int .i64 0,.int .i64 0,.int .i64 0,.int .i64 0,.int .i64 0,.int .i64 0,.int .i64 0,.int .i64 0,.int .i64 0,.int .i64 0,.int .i64 0,.int .i64 0,.int .i64 0,.int .i64 0,.int .i64 0,.int .i64 0,.int .i64 0,.int .i64 0,.int .i64 0,.int .i64 0,.int .i64 0,.int .i64 0,.int .i64 0,.int .i64 0]) (c:=9) (z:=(.agg #[.int .i64 0,.int .i64 0,.int .i64 0,.int .i64 0,.int .i64 0,.int .i64 0,.int .i64 0,.int .i64 0,.int .i64 0])) bZ (by kernel_rfl) (by decide) (by decide) (by kernel_rfl) (by simp) (by simp[Instr.fill,h0,h1,h2,h3,h4,h5]) h
theorem sN{Q:Exit→Act→am→Prop}(h0:(ev l x0).cells = #[A,B,C,D,E,F])(h:∀w' g,dY w w'→w.heap.size≤g→fE w' g [A,B,C,D,E,F] 55→au prog ops Q rest (Fr (l.set d (.slice (some ⟨g,0,none⟩) 1 1)) ds) w'):au prog ops Q (bp (some d) (.buildSlice 46 1 #[(0,x0)]) ty pos after none::rest) (Fr l ds) w :=
 lX (vs:=#[(0,ev l x0)]) (base:=#[.int .i64 0,.int .i64 0,.int .i64 0,.int .i64 0,.int .i64 0,.int .i64 0]) (c:=6) (z:=(.agg #[.int .i64 0,.int .i64 0,.int .i64 0,.int .i64 0,.int .i64 0,.int .i64 0])) Dl (by kernel_rfl) (by decide) (by decide) (by kernel_rfl) (by simp) (by simp[Instr.fill,h0]) h
theorem Ly{Q:Exit→Act→am→Prop}(h0:(ev l x0).cells = #[A,B,C,D,E,F])(h:∀w' g,dY w w'→w.heap.size≤g→fE w' g [A,B,C,D,E,F] 56→au prog ops Q rest (Fr (l.set d (.slice (some ⟨g,0,none⟩) 1 1)) ds) w'):au prog ops Q (bp (some d) (.buildSlice 52 1 #[(0,x0)]) ty pos after none::rest) (Fr l ds) w :=
 lX (vs:=#[(0,ev l x0)]) (base:=#[.int .i64 0,.int .i64 0,.int .i64 0,.int .i64 0,.int .i64 0,.int .i64 0]) (c:=6) (z:=(.agg #[.int .i64 0,.int .i64 0,.int .i64 0,.int .i64 0,.int .i64 0,.int .i64 0])) mL (by kernel_rfl) (by decide) (by decide) (by kernel_rfl) (by simp) (by simp[Instr.fill,h0]) h
theorem ahq{Q:Exit→Act→am→Prop}(h0:(ev l x0).cells = #[A,B,C,D,E,F])(h1:(ev l x1).cells = #[G,H,I,J,K,L])(h2:(ev l x2).cells = #[M,N,O0,P,R,S])(h:∀w' g,dY w w'→w.heap.size≤g→fE w' g [A,B,C,D,E,F,G,H,I,J,K,L,M,N,O0,P,R,S] 56→au prog ops Q rest (Fr (l.set d (.slice (some ⟨g,0,none⟩) 3 3)) ds) w'):au prog ops Q (bp (some d) (.buildSlice 52 3 #[(0,x0),(1,x1),(2,x2)]) ty pos after none::rest) (Fr l ds) w :=
 lX (vs:=#[(0,ev l x0),(1,ev l x1),(2,ev l x2)]) (base:=#[.int .i64 0,.int .i64 0,.int .i64 0,.int .i64 0,.int .i64 0,.int .i64 0,.int .i64 0,.int .i64 0,.int .i64 0,.int .i64 0,.int .i64 0,.int .i64 0,.int .i64 0,.int .i64 0,.int .i64 0,.int .i64 0,.int .i64 0,.int .i64 0]) (c:=6) (z:=(.agg #[.int .i64 0,.int .i64 0,.int .i64 0,.int .i64 0,.int .i64 0,.int .i64 0])) mL (by kernel_rfl) (by decide) (by decide) (by kernel_rfl) (by simp) (by simp[Instr.fill,h0,h1,h2]) h
theorem sO{Q:Exit→Act→am→Prop}(h0:(ev l x0).cells = #[A,B,C])(h:∀w' g,dY w w'→w.heap.size≤g→fE w' g [A,B,C] 30→au prog ops Q rest (Fr (l.set d (.slice (some ⟨g,0,none⟩) 1 1)) ds) w'):au prog ops Q (bp (some d) (.buildSlice 65 1 #[(0,x0)]) ty pos after none::rest) (Fr l ds) w :=
 lX (vs:=#[(0,ev l x0)]) (base:=#[.int .i64 0,.int .i64 0,.int .i64 0]) (c:=3) (z:=(.agg #[.int .i64 0,.int .i64 0,.int .i64 0])) gW (by kernel_rfl) (by decide) (by decide) (by kernel_rfl) (by simp) (by simp[Instr.fill,h0]) h
theorem Xv{Q:Exit→Act→am→Prop}(h0:(ev l x0).cells = #[A,B,C])(h1:(ev l x1).cells = #[D,E,F])(h2:(ev l x2).cells = #[G,H,I])(h3:(ev l x3).cells = #[J,K,L])(h:∀w' g,dY w w'→w.heap.size≤g→fE w' g [A,B,C,D,E,F,G,H,I,J,K,L] 30→au prog ops Q rest (Fr (l.set d (.slice (some ⟨g,0,none⟩) 4 4)) ds) w'):au prog ops Q (bp (some d) (.buildSlice 65 4 #[(0,x0),(1,x1),(2,x2),(3,x3)]) ty pos after none::rest) (Fr l ds) w :=
 lX (vs:=#[(0,ev l x0),(1,ev l x1),(2,ev l x2),(3,ev l x3)]) (base:=#[.int .i64 0,.int .i64 0,.int .i64 0,.int .i64 0,.int .i64 0,.int .i64 0,.int .i64 0,.int .i64 0,.int .i64 0,.int .i64 0,.int .i64 0,.int .i64 0]) (c:=3) (z:=(.agg #[.int .i64 0,.int .i64 0,.int .i64 0])) gW (by kernel_rfl) (by decide) (by decide) (by kernel_rfl) (by simp) (by simp[Instr.fill,h0,h1,h2,h3]) h
theorem adZ{Q:Exit→Act→am→Prop}(h0:(ev l x0).cells = #[A,B,C,D,E,F,G,H])(h:∀w' g,dY w w'→w.heap.size≤g→fE w' g [A,B,C,D,E,F,G,H] 112→au prog ops Q rest (Fr (l.set d (.slice (some ⟨g,0,none⟩) 1 1)) ds) w'):au prog ops Q (bp (some d) (.buildSlice 105 1 #[(0,x0)]) ty pos after none::rest) (Fr l ds) w :=
 lX (vs:=#[(0,ev l x0)]) (base:=#[.int .i64 0,.int .i64 0,.int .i64 0,.int .i64 0,.int .i64 0,.int .i64 0,.bool false,.string ⟨#[]⟩]) (c:=8) (z:=(.agg #[.int .i64 0,.int .i64 0,.int .i64 0,.int .i64 0,.int .i64 0,.int .i64 0,.bool false,.string ⟨#[]⟩])) underlying105 (by kernel_rfl) (by decide) (by decide) (by kernel_rfl) (by simp) (by simp[Instr.fill,h0]) h
theorem ad0{Q:Exit→Act→am→Prop}(h0:(ev l x0).cells = #[A])(h1:(ev l x1).cells = #[B])(h2:(ev l x2).cells = #[C])(h3:(ev l x3).cells = #[D])(h4:(ev l x4).cells = #[E])(h:∀w' g,dY w w'→w.heap.size≤g→fE w' g [A,B,C,D,E] 151→au prog ops Q rest (Fr (l.set d (.slice (some ⟨g,0,none⟩) 5 5)) ds) w'):au prog ops Q (bp (some d) (.buildSlice 152 5 #[(0,x0),(1,x1),(2,x2),(3,x3),(4,x4)]) ty pos after none::rest) (Fr l ds) w :=
 lX (vs:=#[(0,ev l x0),(1,ev l x1),(2,ev l x2),(3,ev l x3),(4,ev l x4)]) (base:=#[.nilFunc,.nilFunc,.nilFunc,.nilFunc,.nilFunc]) (c:=1) (z:=(.agg #[.nilFunc])) underlying152 (by kernel_rfl) (by decide) (by decide) (by kernel_rfl) (by simp) (by simp[Instr.fill,h0,h1,h2,h3,h4]) h
theorem ad1{Q:Exit→Act→am→Prop}{x5:cd}(h0:(ev l x0).cells = #[A])(h1:(ev l x1).cells = #[B])(h2:(ev l x2).cells = #[C])(h3:(ev l x3).cells = #[D])(h4:(ev l x4).cells = #[E])(h5:(ev l x5).cells = #[F])(h:∀w' g,dY w w'→w.heap.size≤g→fE w' g [A,B,C,D,E,F] 26→au prog ops Q rest (Fr (l.set d (.slice (some ⟨g,0,none⟩) 6 6)) ds) w'):au prog ops Q (bp (some d) (.buildSlice 157 6 #[(0,x0),(1,x1),(2,x2),(3,x3),(4,x4),(5,x5)]) ty pos after none::rest) (Fr l ds) w :=
 lX (vs:=#[(0,ev l x0),(1,ev l x1),(2,ev l x2),(3,ev l x3),(4,ev l x4),(5,ev l x5)]) (base:=#[.nilFunc,.nilFunc,.nilFunc,.nilFunc,.nilFunc,.nilFunc]) (c:=1) (z:=(.nilFunc)) underlying157 (by kernel_rfl) (by decide) (by decide) (by kernel_rfl) (by simp) (by simp[Instr.fill,h0,h1,h2,h3,h4,h5]) h
theorem ad2{Q:Exit→Act→am→Prop}(h0:(ev l x0).cells = #[A,B,C,D,E,F])(h:∀w' g,dY w w'→w.heap.size≤g→fE w' g [A,B,C,D,E,F] 215→au prog ops Q rest (Fr (l.set d (.slice (some ⟨g,0,none⟩) 1 1)) ds) w'):au prog ops Q (bp (some d) (.buildSlice 212 1 #[(0,x0)]) ty pos after none::rest) (Fr l ds) w :=
 lX (vs:=#[(0,ev l x0)]) (base:=#[.int .i64 0,.int .i64 0,.int .i64 0,.int .i64 0,.int .i64 0,.int .i64 0]) (c:=6) (z:=(.agg #[.int .i64 0,.int .i64 0,.int .i64 0,.int .i64 0,.int .i64 0,.int .i64 0])) underlying212 (by kernel_rfl) (by decide) (by decide) (by kernel_rfl) (by simp) (by simp[Instr.fill,h0]) h
end Go.Proofs.YtfekpcimgncioaaGreatDoor
namespace Go.Lith
open Go.RowKit
variable{w:am}{c:Nat}
def iN(w:am)(g:Nat)(es:Array cg)(c:Nat):Prop:=w.heap[g]? = some (.map es c)
def uA(w:am)(r g s:Nat)(seen:Array Nat)(c:Nat):Prop:=w.heap[r]? = some (.mapIter (some g) s seen c)
theorem iN.ext{w':am}{g:Nat}{es:Array cg}(h:iN w g es c)(hE:dY w w'):iN w' g es c:=hE.block h
theorem uA.ext{w':am}{r g s:Nat}{seen:Array Nat}(h:uA w r g s seen c)(hE:dY w w'):uA w' r g s seen c:=hE.block h
theorem iN.lt{g:Nat}{es:Array cg}(h:iN w g es c):g<w.heap.size:=(dj.1 h).1
theorem uA.lt{r g s:Nat}{seen:Array Nat}(h:uA w r g s seen c):r<w.heap.size:=(dj.1 h).1
section
variable {P:bz} {ds:List dl} {l:List ak} {x:cd} {T ty:ay} {ops:Array Oper} {Q:Exit→Act→am→Prop} {rest:List Oper} {d:Nat} {pos:String} {after:Array Edge} {w:am}
theorem ahr(h:∀w' g,dY w w'→w.heap.size≤g→iN w' g #[] 0→au P ops Q rest (Fr (l.set d (.map (some g))) ds) w'):au P ops Q (bp (some d) (.makeMap T none) ty pos after none::rest) (Fr l ds) w :=
 lU (w':=w.alloc (.map #[] 0)) (v:=.map (some w.heap.size)) (fun o ho _=>by simp[da,ho,Instr.makeMap,newObj,Sem.run]) (h _ _ ((dY.refl w).alloc _) (av _) (heap_alloc_new w _))
theorem afD{k e:ay}{g c:Nat}{es:Array cg}(hu:P.underlying T=some (.map k e))(hx:ev l x=.map (some g))(hM:iN w g es c)(h:∀w' r,dY w w'→w.heap.size≤r→uA w' r g c #[] c→au P ops Q rest (Fr (l.set d (.pointer (some ⟨r,0,none⟩))) ds) w') :
 au P ops Q (bp (some d) (.range T x) ty pos after none::rest) (Fr l ds) w :=
 lU (w':=w.alloc (.mapIter (some g) c #[] c)) (v:=.pointer (some ⟨w.heap.size,0,none⟩)) (fun o ho _=>by
  unfold iN at hM;simp[da,ho,bW,hx,Instr.range,cj hu,getObj,hM,newObj,Sem.run]) (h _ _ ((dY.refl w).alloc _) (av _) (heap_alloc_new w _))
end
end Go.Lith
namespace Go.Lith
open Go.RowKit Go.ChangeMaps Go.MapKept
variable{c:Nat}
/-! ### Lists of pairs -/
section
variable {K V:Type} [DecidableEq K]
def fI:List (K × V)→K→V→List (K × V)
 | [],k,v=>[(k,v)]
 | x::D,k,v=>if x.1=k then (k,v)::D else x::fI D k v
def bL:List (K × V)→K→Option V
 | [],_=>none
 | x::D,k=>if x.1=k then some x.2 else bL D k
def sB:List (K × V)→K→List (K × V)
 | [],_=>[]
 | x::D,k=>if x.1=k then D else x::sB D k
def pB:List (K × V)→K→Nat→Option (Nat × V)
 | [],_,_=>none
 | x::D,k,i=>if x.1=k then some (i,x.2) else pB D k (i+1)
theorem nX:∀(D:List (K × V)) (k:K) (i:Nat),pB D k i=none→bL D k=none∧(∀u,fI D k u=D++[(k,u)])∧sB D k=D
 | [],_,_,_=>⟨rfl,fun _=>rfl,rfl⟩
 | x::D,k,i,h=>by
  unfold pB at h;by_cases e:x.1=k
  · rw[if_pos e] at h;cases h
  · rw[if_neg e] at h
    obtain⟨h1,h2,h3⟩:=nX D k (i+1) h;exact⟨by simp[bL,e,h1],fun u=>by simp[fI,e,h2],by simp[sB,e,h3]⟩
theorem lL:∀(D:List (K × V)) (k:K) (i j:Nat) (v:V),pB D k i=some (j,v)→∃p,j=i+p∧D[p]? = some (k,v)∧bL D k=some v∧(∀u,fI D k u=D.set p (k,u))∧sB D k=D.eraseIdx p
 | [],_,_,_,_,h=>by cases h
 | x::D,k,i,j,v,h=>by
  unfold pB at h;by_cases e:x.1=k
  · rw[if_pos e] at h
    cases h;obtain⟨a,b⟩:=x;obtain rfl:a=k:=e;exact⟨0,O,O,by simp[bL],fun u=>by simp[fI],by simp[sB]⟩
  · rw[if_neg e] at h
    obtain⟨p,h1,h2,h3,h4,h5⟩:=lL D k (i+1) j v h;exact⟨p+1,by omega,by simpa using h2,by simp[bL,e,h3],fun u=>by simp[fI,e,h4],by simp[sB,e,h5]⟩
theorem kO:∀(D:List (K × V)) (k k':K) (v:V),bL (fI D k v) k'=if k=k' then some v else bL D k'
 | [],k,k',v=>by simp[fI,bL]
 | x::D,k,k',v=>by
  unfold fI;by_cases e:x.1=k
  · rw[if_pos e]
    subst e;by_cases e':x.1=k' <;> simp[bL,e']
  · rw[if_neg e]
    unfold bL;rw[kO D k k' v];by_cases e':x.1=k'
    · rw[if_pos e',if_pos e',if_neg (fun h=>e (e'.trans h.symm))]
    · rw[if_neg e',if_neg e']
theorem rM:∀{D:List (K × V)} {k:K} {v:V},bL D k=some v→(k,v)∈D
 | [],_,_,h=>by cases h
 | x::D,k,v,h=>by
  unfold bL at h;split at h
  · rename_i e;cases h;subst e;exact bj ..
  · exact bm _ (rM h)
theorem lD:∀{D:List (K × V)} {k:K},bL D k=none↔k∉D.map (·.1)
 | [],_=>by simp[bL]
 | x::D,k=>by
  unfold bL;split
  · rename_i e;simp[e]
  · rename_i e
    rw[lD (D:=D)];simp only[bi,ao,not_or];exact⟨fun h=>⟨fun h'=>e h'.symm,h⟩,fun h=>h.2⟩
theorem lH:∀{D:List (K × V)} {k:K} {v:V},(D.map (·.1)).Nodup→(k,v)∈D→bL D k=some v
 | [],_,_,_,h=>by cases h
 | x::D,k,v,hn,h=>by
  have hn':=fz.1 hn;unfold bL;rcases ao.1 h with rfl | h
  · simp
  · rw[if_neg fun e=>hn'.1 (by show x.1∈_;rw[e];exact cu.2 ⟨_,h,O⟩)]
    exact lH hn'.2 h
theorem vL:∀(D:List (K × V)) (k:K) (v:V),(fI D k v).map (·.1)=if k∈D.map (·.1) then D.map (·.1) else D.map (·.1)++[k]
 | [],k,v=>by simp[fI]
 | x::D,k,v=>by
  unfold fI;by_cases e:x.1=k
  · simp[e]
  · have e':¬k=x.1:=fun h=>e h.symm
    simp only[if_neg e,bi,vL D k v,ao,e',false_or];split <;> simp
theorem sP{D:List (K × V)}(h:(D.map (·.1)).Nodup)(k:K)(v:V):((fI D k v).map (·.1)).Nodup:=by
 rw[vL];split
 · exact h
 · rename_i hk
   exact jj.2 ⟨h,by simp,fun a ha b hb e=>by rw[bg.1 hb] at e;exact hk (e▸ha)⟩
theorem Lz:∀{D:List (K × V)} (k k':K),(D.map (·.1)).Nodup→bL (sB D k) k'=if k=k' then none else bL D k'
 | [],k,k',_=>by simp[sB,bL]
 | x::D,k,k',hn=>by
  have hn':=fz.1 hn;unfold sB;by_cases e:x.1=k
  · rw[if_pos e]
    by_cases e':k=k'
    · rw[if_pos e']
      exact lD.2 (by rw[←e',←e];exact hn'.1)
    · rw[if_neg e']
      simp[bL,e,e']
  · rw[if_neg e]
    unfold bL;rw[Lz k k' hn'.2];by_cases e':x.1=k'
    · rw[if_pos e',if_pos e',if_neg (fun h=>e (e'.trans h.symm))]
    · rw[if_neg e',if_neg e']
theorem ab1:∀(D:List (K × V)) (k:K),(sB D k).Sublist D
 | [],_=>List.Sublist.refl _
 | x::D,k=>by
  unfold sB;split
  · exact List.sublist_cons_self _ _
  · exact (ab1 D k).cons_cons x
theorem Sd{D:List (K × V)}(h:(D.map (·.1)).Nodup)(k:K):((sB D k).map (·.1)).Nodup:=h.sublist ((ab1 D k).map _)
end
/-! ### A map's entries -/
def Wh(e:cg):ak × ak:=(e.key,e.val)
structure bA{K V:Type}(ek:K→ak)(ev:V→ak)(D:List (K × V))(es:Array cg)(c:Nat):Prop where
 cells:es.toList.map Wh=D.map fun x=>(ek x.1,ev x.2)
 born:∀e∈es.toList,e.born<c
 nd:(es.toList.map (·.born)).Nodup
theorem bA.nil{K V:Type}(ek:K→ak)(ev:V→ak):bA ek ev ([]:List (K × V)) #[] 0:=⟨rfl,fun _ h=>by simp at h,by simp⟩
theorem bA.len{K V:Type}{ek:K→ak}{ev:V→ak}{D:List (K × V)}{es:Array cg}(h:bA ek ev D es c):es.size=D.length:=by
 have:=congrArg ou h.cells;simpa using this
structure rN{K:Type}[DecidableEq K](P:bz)(T:ay)(ek:K→ak):Prop where
 chk:∀e k w,(Instr.checkKey e 10000 T (ek k)).run P w=.ok () w
 now:∃t,P.underlying T=some t∧∀a b,Instr.sameNow t (ek a) (ek b)=none∨Instr.sameNow t (ek a) (ek b)=some (decide (a=b))
 eq:∀a b w,(Op.equal T (ek a) (ek b)).run P w=.ok (decide (a=b)) w
 bits:∀a,Instr.sameBits 10000 (ek a) (ek a)=true
section
variable {K V:Type} [DecidableEq K] {P:bz} {T:ay} {ek:K→ak} {ev:V→ak}
theorem Nz(kt:rN P T ek)(k:K)(w:am):∀(L:List cg) (D:List (K × V)) (i:Nat),L.map Wh=D.map (fun x=>(ek x.1,ev x.2)) →
 (Instr.findAsking T (ek k) L i).run P w=.ok ((pB D k i).map fun p=>(p.1,ev p.2)) w
 | [],D,i,h=>by
  obtain rfl:D=[]:=by simpa using h.symm
  simp[Instr.findAsking,pB]
 | e::L,[],i,h=>by simp at h
 | e::L,x::D,i,h=>by
  simp only[bi,l_,Wh,fc] at h;obtain⟨⟨h1,h2⟩,h3⟩:=h;have ih:=Nz kt k w L D (i+1) h3;unfold Instr.findAsking pB;rw[h1,h2];simp only[Sem.run_bind,kt.eq,Result.andThen];by_cases e':x.1=k
  · rw[if_pos (decide_eq_true e'.symm),if_pos e']
    rfl
  · rw[if_neg (by rw[decide_eq_false (Ne.symm e')];exact Bool.false_ne_true),if_neg e']
    exact ih
theorem ab2(t:TypeDesc)(k:K)(hn:∀a b:K,Instr.sameNow t (ek a) (ek b)=none∨Instr.sameNow t (ek a) (ek b)=some (decide (a=b))):∀(L:List cg) (D:List (K × V)) (i:Nat),L.map Wh=D.map (fun x=>(ek x.1,ev x.2)) →
 Instr.findNow t (ek k) L i=none∨Instr.findNow t (ek k) L i=some ((pB D k i).map fun p=>(p.1,ev p.2))
 | [],D,i,h=>by
  obtain rfl:D=[]:=by simpa using h.symm
  simp[Instr.findNow,pB]
 | e::L,[],i,h=>by simp at h
 | e::L,x::D,i,h=>by
  simp only[bi,l_,Wh,fc] at h;obtain⟨⟨h1,h2⟩,h3⟩:=h;have ih:=ab2 t k hn L D (i+1) h3;unfold Instr.findNow pB;rw[h1,h2];rcases hn k x.1 with e0 | e0
  · left;rw[e0]
  · rw[e0]
    by_cases e':x.1=k
    · right;simp[e']
    · rw[show decide (k=x.1)=false from decide_eq_false (Ne.symm e')]
      simpa[e'] using ih
theorem rO(kt:rN P T ek)(k:K)(w:am){es:Array cg}{D:List (K × V)}(h:bA ek ev D es c):(Instr.findKey T (ek k) es.toList).run P w=.ok ((pB D k 0).map fun p=>(p.1,ev p.2)) w:=by
 obtain⟨t,ht,hn⟩:=kt.now;unfold Instr.findKey;simp only[Sem.run_bind,cj ht,Result.andThen];rcases ab2 t k hn es.toList D 0 h.cells with e | e
 · rw[e]
   exact Nz kt k w es.toList D 0 h.cells
 · rw[e]
   rfl
end
section
variable {K V:Type} [DecidableEq K] {P:bz} {T M E ty:ay} {ek:K→ak} {ev:V→ak} {w w0:am} {g c:Nat} {es:Array cg} {D:List (K × V)}
theorem Oa{v0:V}(hu:P.underlying M=some (.map T E))(kt:rN P T ek)(hM:iN w g es c)(hD:bA ek ev D es c)(hz:pU P E (ev v0))(k:K)(b:Bool) :
 (Instr.lookup M (.map (some g)) (ek k) b).run P w=.ok (if b then .tuple #[ev ((bL D k).getD v0),.bool (bL D k).isSome] else ev ((bL D k).getD v0)) w:=by
 unfold iN at hM;obtain⟨inf,hi,hz⟩:=hz;have hzv:(zeroValue E).run P w=.ok (ev v0) w:=by simp[zeroValue,typeInfo,program,Sem.run,hi,hz]
 simp only[Instr.lookup,Sem.run_bind,cj hu,Result.andThen,getObj,Sem.run,hM,Sem.run_pure,kt.chk,rO kt k w hD];cases hf:pB D k 0 with
 | none =>
  obtain⟨h1,_⟩:=nX D k 0 hf;rw[h1];simp only[qq,Sem.run_bind,hzv,Result.andThen,Sem.run_pure];cases b <;> rfl
 | some p =>
  obtain⟨j,v⟩:=p;obtain⟨_,_,_,h1,_⟩:=lL D k 0 j v hf;rw[h1];simp only[ew,Sem.run_pure,Result.andThen];cases b <;> rfl
theorem jH{g:Nat}{o o':Obj}(hM:w.heap[g]? = some o):(setBlock w g o').heap[g]? = some o':=by
 have:=(dj.1 hM).1;simp[setBlock,this]
theorem oF{g:Nat}(o:Obj):Chg w (setBlock w g o) g:=⟨rfl,rfl,rfl,by simp[setBlock],fun k hk=>by simp[setBlock,je (Ne.symm hk)]⟩
theorem Se{α β:Type}(f:α→β)(L:List α)(i:Nat)(x:α)(g:α→α)(hi:L[i]? = some x):(L.modify i g).map f=(L.map f).set i (f (g x)):=by
 apply gg;intro j;simp only[fj,List.getElem?_modify,ju,List.length_map];by_cases e:i=j
 · subst e
   rw[hi];have:=(ax.1 hi).1;simp[this]
 · simp[e]
theorem bA.set(hD:bA ek ev D es c){p:Nat}{k:K}{v:V}(hp:D[p]? = some (k,v))(u:V):bA ek ev (D.set p (k,u)) (es.modify p fun e=>{ e with key:=ek k,val:=ev u }) c:=by
 have hl:es.toList.length=D.length:=by have:=congrArg ou hD.cells;simpa using this
 have hlt:p<es.toList.length:=by rw[hl];exact (ax.1 hp).1
 have hx:es.toList[p]? = some es.toList[p]:=ar hlt;have hb:(es.modify p fun e=>{ e with key:=ek k,val:=ev u }).toList.map (·.born)=es.toList.map (·.born):=by
  rw[pn,Se _ _ _ _ _ hx];apply gg;intro j;rw[ju];split
  · rename_i e;subst e;rw[if_pos (by simpa using hlt),fj,hx];rfl
  · rfl
 refine⟨?_,fun e he=>?_,by rw[hb];exact hD.nd⟩
 · rw[pn,Se _ _ _ _ _ hx,hD.cells,List.map_set]
   rfl
 · have:e.born∈(es.modify p fun e=>{ e with key:=ek k,val:=ev u }).toList.map (·.born):=cu.2 ⟨e,he,rfl⟩
   rw[hb] at this;obtain⟨e',he',hh⟩:=cu.1 this;rw[←hh];exact hD.born e' he'
theorem bA.push(hD:bA ek ev D es c)(k:K)(u:V):bA ek ev (D++[(k,u)]) (es.push { key:=ek k,val:=ev u,born:=c }) (c+1):=by
 refine⟨by simp[hD.cells,Wh],fun e he=>?_,?_⟩
 · rw[oy] at he
   rcases br.1 he with he | he
   · exact Nat.lt_succ_of_lt (hD.born e he)
   · rw[bg.1 he];exact Nat.lt_succ_self _
 · rw[oy,cz]
   refine jj.2 ⟨hD.nd,by simp,fun a ha b hb e=>?_⟩;obtain⟨e',he',rfl⟩:=cu.1 ha;have:b=c:=by simpa using hb
   have:=hD.born e' he';omega
theorem bA.erase(hD:bA ek ev D es c)(p:Nat):bA ek ev (D.eraseIdx p) (es.eraseIdxIfInBounds p) c:=by
 have e:(es.eraseIdxIfInBounds p).toList=es.toList.eraseIdx p:=by
  by_cases h:p<es.size
  · simp[mj,h]
  · simp only[mj,h,dite_false]
    exact (List.eraseIdx_of_length_le (by simpa using Nat.le_of_not_lt h)).symm
 refine⟨?_,fun x hx=>hD.born x ?_,?_⟩
 · rw[e,map_eraseIdx,hD.cells,map_eraseIdx]
 · rw[e] at hx;exact List.mem_of_mem_eraseIdx hx
 · rw[e];exact hD.nd.sublist ((List.eraseIdx_sublist _ _).map _)
theorem ab3(hu:P.underlying M=some (.map T E))(kt:rN P T ek)(hM:iN w g es c)(hD:bA ek ev D es c)(k:K)(u:V) :
 ∃es' c',(Instr.mapUpdate M (.map (some g)) (ek k) (ev u)).run P w=.ok () (setBlock w g (.map es' c'))∧bA ek ev (fI D k u) es' c':=by
 unfold iN at hM;cases hf:pB D k 0 with
 | none =>
  obtain⟨_,h1,_⟩:=nX D k 0 hf;refine⟨_,_,?_,h1 u▸hD.push k u⟩;simp only[Instr.mapUpdate,Sem.run_bind,cj hu,Result.andThen,getObj,Sem.run,hM,Sem.run_pure,kt.chk,rO kt k w hD,hf,qq];exact run_setObj_map _ hM
 | some p =>
  obtain⟨j,v⟩:=p;obtain⟨p,rfl,hp,_,h1,_⟩:=lL D k 0 j v hf;rw[ap] at hf;have hl:es.toList.length=D.length:=by have:=congrArg ou hD.cells;simpa using this
  have hlt:p<es.toList.length:=by rw[hl];exact (ax.1 hp).1
  have hk:((es[p]?).map (·.key)).getD (ek k)=ek k:=by
   have h2:=congrArg (fun L=>L[p]?) hD.cells;simp only[fj,hp,ew] at h2;rw[Array.getElem?_toList] at h2;cases h3:es[p]? with
   | none=>rfl
   | some x =>
    rw[h3] at h2;simp only[ew,fw,Wh,fc] at h2;simpa using h2.1
  refine⟨_,_,?_,h1 u▸hD.set hp u⟩;simp only[Instr.mapUpdate,Sem.run_bind,cj hu,Result.andThen,getObj,Sem.run,hM,Sem.run_pure,kt.chk,rO kt k w hD,hf,ew,hk,Instr.keyThatStays,kt.bits,if_true];exact run_setObj_map _ hM
theorem ab4{T2:ay}(hu:P.underlying M=some (.map T E))(kt:rN P T ek)(hM:iN w g es c)(hD:bA ek ev D es c)(k:K) :
 ∃es' c',(Builtin.delete_ #[M,T2] ty #[.map (some g),ek k]).run P w=.ok (.tuple #[]) (setBlock w g (.map es' c'))∧bA ek ev (sB D k) es' c':=by
 unfold iN at hM;cases hf:pB D k 0 with
 | none =>
  obtain⟨_,_,h1⟩:=nX D k 0 hf;refine⟨es,c,?_,by rw[h1];exact hD⟩;simp[Builtin.delete_,cj hu,getObj,Sem.run,hM,kt.chk,rO kt k w hD,hf,run_setObj_map _ hM,setBlock]
 | some p =>
  obtain⟨j,v⟩:=p;obtain⟨p,rfl,hp,_,_,h1⟩:=lL D k 0 j v hf;rw[ap] at hf;refine⟨_,c,?_,h1▸hD.erase p⟩;simp[Builtin.delete_,cj hu,getObj,Sem.run,hM,kt.chk,rO kt k w hD,hf,run_setObj_map _ hM,setBlock]
/-! ### Ranges -/
def lP(ek:K→ak)(ev:V→ak)(D:List (K × V))(es:Array cg)(seen:Array Nat)(dn rs:List (K × V)):Prop :=
 (dn++rs).Perm D∧∃dE rE:List cg,seen.toList=dE.map (·.born)∧(dE++rE).Perm es.toList∧dE.map Wh=dn.map (fun x=>(ek x.1,ev x.2))∧rE.map Wh=rs.map (fun x=>(ek x.1,ev x.2))
theorem lP.start(hD:bA ek ev D es c):lP ek ev D es #[] [] D:=⟨oz _,[],es.toList,rfl,oz _,rfl,hD.cells⟩
theorem lP.done{seen:Array Nat}{dn:List (K × V)}(h:lP ek ev D es seen dn []):dn.Perm D:=by simpa using h.1
def Nxt(ek:K→ak)(ev:V→ak)(D:List (K × V))(es:Array cg)(dn rs:List (K × V))(b:Bool)(kv vv:ak)(seen':Array Nat):Prop :=
 (b=false∧rs=[])∨(b=true∧∃k v rs',rs.Perm ((k,v)::rs')∧kv=ek k∧vv=ev v∧lP ek ev D es seen' (dn++[(k,v)]) rs')
def Gz(b:Bool)(k v:ak):ak:=.tuple (if b then #[.bool true,k,v] else #[.bool false])
theorem Xw{r s:Nat}{seen:Array Nat}{dn rs:List (K × V)}(hI:uA w r g c seen c)(hM:iN w g es c)(hD:bA ek ev D es c)(hT:lP ek ev D es seen dn rs) :
 ∃b kv vv seen' w1,(w1=w∨w1=w.drew)∧(Instr.next (.pointer (some ⟨r,0,none⟩)) false ty).run P w=.ok (Gz b kv vv) (setBlock w1 r (.mapIter (some g) c seen' c))∧Nxt ek ev D es dn rs b kv vv seen':=by
 obtain⟨hp,dE,rE,h1,h2,h3,h4⟩:=hT;have hnd:((dE++rE).map (·.born)).Nodup:=(h2.map (·.born)).nodup_iff.2 hD.nd;rw[cz,jj] at hnd;have hleft:∀e,e∈(leftOf es seen).toList↔e∈rE:=fun e=>by
  unfold leftOf;simp only[Array.toList_filter,List.mem_filter,Bool.not_eq_true',Array.contains_eq_mem,decide_eq_false_iff_not];rw[←Array.mem_toList_iff (xs:=seen),h1,←h2.mem_iff,br];constructor
  · rintro⟨h | h,hn⟩
    · exact absurd (cu.2 ⟨e,h,O⟩) hn
    · exact h
  · intro h
    exact⟨.inr h,fun hm=>hnd.2.2 _ hm _ (cu.2 ⟨e,h,O⟩) O⟩
 rcases run_next_at (P:=P) w ty r g c c seen es c hI hM hD.born (av _) with ⟨h0,hr⟩ | ⟨e,he,w1,hw1,hr⟩
 · refine⟨false,default,default,seen,w,.inl O,?_,.inl ⟨O,?_⟩⟩
   · rw[hr]
     have:setBlock w r (.mapIter (some g) c seen c)=w:=by
      unfold setBlock;have hlt:=(dj.1 hI).1;have:w.heap.setIfInBounds r (.mapIter (some g) c seen c)=w.heap:=by
       apply lv;intro i;rw[Array.getElem?_setIfInBounds];split
       · rename_i e;subst e;exact hI.symm
       · rfl
      rw[this]
     rw[this];rfl
   · cases rs with
     | nil=>rfl
     | cons x rs =>
      cases rE with
      | nil=>simp at h4
      | cons e rE =>
       have:=(hleft e).2 (bj ..);rw[Array.eq_empty_of_size_eq_zero h0] at this;simp at this
 · obtain⟨s,t,rfl⟩:=List.append_of_mem ((hleft e).1 he)
   rw[cz,bi] at h4;obtain⟨rs1,rs2,rfl,e1,e2⟩:=ni.1 h4.symm;obtain⟨x,rs3,rfl,e3,e4⟩:=og.1 e2;obtain⟨k,v⟩:=x;simp only[Wh,fc] at e3;refine⟨true,e.key,e.val,seen.push e.born,w1,hw1,hr,.inr ⟨O,k,v,rs1++rs3,List.perm_middle,e3.1.symm,e3.2.symm,?_,dE++[e],s++t,?_,?_,?_,?_⟩⟩
   · refine pk ?_ hp
     simp only[dh,cn,bv];exact nz _ List.perm_middle.symm
   · simp[h1]
   · refine pk ?_ h2
     simp only[dh,cn,bv];exact nz _ List.perm_middle.symm
   · simp[h3,Wh,e3]
   · simp[e1,e4]
theorem ad3{r:Nat}{seen:Array Nat}{dn rs:List (K × V)}{k:K}{v:V}(hI:uA w r g c seen c)(hM:iN w g es c)(hD:bA ek ev D es c)(hT:lP ek ev D es seen (dn++[(k,v)]) rs) :
 (Instr.entry (.pointer (some ⟨r,0,none⟩))).run P w=.ok (.tuple #[ek k,ev v]) w:=by
 obtain⟨hp,dE,rE,h1,h2,h3,h4⟩:=hT;rw[cz,bi,List.map_nil] at h3;obtain⟨d1,d2,rfl,e1,e2⟩:=ni.1 h3;obtain⟨e,d3,rfl,e3,e4⟩:=og.1 e2;obtain rfl:d3=[]:=by simpa using e4
 simp only[Wh,fc] at e3;have hs:seen=(d1.map (·.born)).toArray.push e.born:=by
  apply Array.toList_inj.1;rw[h1];simp
 have hm:e∈es.toList:=h2.mem_iff.1 (by simp);rw[hs] at hI;have:=run_entry_at (P:=P) w r g c _ es c e hI hM hm hD.nd;rw[this,e3.1,e3.2]
end
/-! ### Things in memory -/
def mI(g:Nat)(es:Array cg)(c:Nat):It where
 own b:=some g=some b
 P w:=iN w g es c
 lt w b h e:=by cases e;exact h.lt
 st w w' h _ k:=(k g rfl).trans h
def iI(r g c:Nat)(seen:Array Nat):It where
 own b:=some r=some b
 P w:=uA w r g c seen c
 lt w b h e:=by cases e;exact h.lt
 st w w' h _ k:=(k r rfl).trans h
theorem Mem.p{w0 w:am}{is:List It}(m:Mem w0 w is)(k:Nat){g:Nat}{es:Array cg}(hk:is[k]? = some (mI g es c)):iN w g es c:=m.get k hk
theorem Mem.r{w0 w:am}{is:List It}(m:Mem w0 w is)(k:Nat){r g c:Nat}{seen:Array Nat}(hk:is[k]? = some (iI r g c seen)):uA w r g c seen c:=m.get k hk
section
variable {K V:Type} [DecidableEq K] {P:bz} {T M E ty:ay} {ek:K→ak} {ev:V→ak} {w w0:am} {g c:Nat} {es:Array cg} {D:List (K × V)} {is:List It}
variable {ds:List dl} {l:List ak} {x y z:cd} {ops:Array Oper} {Q:Exit→Act→am→Prop} {rest:List Oper} {d:Nat} {pos:String} {after:Array Edge}
theorem iV(m:Mem w0 w is)(h:∀g u,Mem w0 u (mI g #[] 0::is)→au P ops Q rest (Fr (l.set d (.map (some g))) ds) u):au P ops Q (bp (some d) (.makeMap M none) ty pos after none::rest) (Fr l ds) w :=
 ahr fun u g e hg hM=>h g u (m.new (i:=mI g #[] 0) e hM fun b h=>by cases h;exact hg)
theorem sQ(m:Mem w0 w is)(hu:P.underlying M=some (.map T E))(hx:Go.Lith.ev l x=.map (some g))(hM:iN w g es c)(h:∀r u,Mem w0 u (iI r g c #[]::is)→au P ops Q rest (Fr (l.set d (.pointer (some ⟨r,0,none⟩))) ds) u) :
 au P ops Q (bp (some d) (.range M x) ty pos after none::rest) (Fr l ds) w :=
 afD hu hx hM fun u r e hr hI=>h r u (m.new (i:=iI r g c #[]) e hI fun b h=>by cases h;exact hr)
end
section
variable {K V:Type} [DecidableEq K] {P:bz} {T M E ty:ay} {ek:K→ak} {en:V→ak} {w w0:am} {g c:Nat} {es:Array cg} {D:List (K × V)} {is:List It}
variable {ds:List dl} {l:List ak} {x y z:cd} {ops:Array Oper} {Q:Exit→Act→am→Prop} {rest:List Oper} {d:Nat} {pos:String} {after:Array Edge}
theorem cR{v0:V}{k:K}(hu:P.underlying M=some (.map T E))(hz:pU P E (en v0))(kt:rN P T ek)(hx:ev l x=.map (some g))(hy:ev l y=ek k)(hM:iN w g es c)(hD:bA ek en D es c):Aa P l (.lookup M x y false) ty (en ((bL D k).getD v0)) w:=fun o ho _=>by
 have:=Oa hu kt hM hD hz k false;simp only[Bool.false_eq_true,if_false] at this;simp[da,ho,bW,hx,hy,this]
theorem vM{v0:V}{k:K}(hu:P.underlying M=some (.map T E))(hz:pU P E (en v0))(kt:rN P T ek)(hx:ev l x=.map (some g))(hy:ev l y=ek k)(hM:iN w g es c)(hD:bA ek en D es c):Aa P l (.lookup M x y true) ty (.tuple #[en ((bL D k).getD v0),.bool (bL D k).isSome]) w:=fun o ho _=>by
 have:=Oa hu kt hM hD hz k true;simp only[if_true] at this;simp[da,ho,bW,hx,hy,this]
theorem ajU{a0:Array ay}(ha:a0 = #[M])(hu:P.underlying M=some (.map T E))(hx:ev l x=.map (some g))(hM:iN w g es c)(hD:bA ek en D es c):Aa P l (.call { callee:=.builtin .len,args:=#[x],argTypes:=a0 }) ty (.int .i64 D.length) w:=fun o ho _=>by
 subst ha;unfold iN at hM;simp[da,ho,resolve,invoke,builtin,Builtin.len_,bW,hx,cj hu,getObj,Sem.run,hM,goInt,hD.len]
theorem eR{v:V}{a:K}(m:Mem w0 w is)(k:Nat)(hk:is[k]? = some (mI g es c))(hu:P.underlying M=some (.map T E))(kt:rN P T ek)(hx:ev l x=.map (some g))(hy:ev l y=ek a)(hz:ev l z=en v)(hD:bA ek en D es c)
 (h:∀es' c' u,Mem w0 u (is.set k (mI g es' c'))→bA ek en (fI D a v) es' c'→au P ops Q rest (Fr l ds) u):au P ops Q (bp none (.mapUpdate M x y z) ty pos after none::rest) (Fr l ds) w:=by
 have hM:=m.p k hk;obtain⟨es',c',hr,hD'⟩:=ab3 hu kt hM hD a v;have hC:=oF (w:=w) (g:=g) (.map es' c');refine Iv (w':=setBlock w g (.map es' c')) (fun o ho=>by simp[da,ho,bW,hx,hy,hz,hr]) (h es' c' _ ?_ hD');exact m.put k hk hC.os hC.tape hC.output (by rw[hC.size];exact av _) (fun b _ hne=>hC.block b fun e=>hne (by rw[e];rfl)) (jH hM) (.inl fun _ h=>h)
theorem Dr{r:Nat}{seen:Array Nat}{dn rs:List (K × V)}(m:Mem w0 w is)(k:Nat)(hk:is[k]? = some (iI r g c seen))(hx:ev l x=.pointer (some ⟨r,0,none⟩))(hM:iN w g es c)(hD:bA ek en D es c)(hT:lP ek en D es seen dn rs)
 (h:∀b kv vv seen' u,Mem w0 u (is.set k (iI r g c seen'))→Nxt ek en D es dn rs b kv vv seen'→au P ops Q rest (Fr (l.set d (Gz b kv vv)) ds) u) :
 au P ops Q (bp (some d) (.next x false) ty pos after none::rest) (Fr l ds) w:=by
 have hI:=m.r k hk;obtain⟨b,kv,vv,seen',w1,hw1,hr,hN⟩:=Xw (P:=P) (ty:=ty) (s:=0) hI hM hD hT;refine lU (w':=setBlock w1 r (.mapIter (some g) c seen' c)) (v:=Gz b kv vv) (fun o ho hty=>by simp[da,ho,bW,hx,hty,hr]) (h b kv vv seen' _ ?_ hN);have e1:w1.heap=w.heap∧w1.os=w.os∧w1.tape=w.tape∧w1.output=w.output:=by rcases hw1 with rfl | rfl <;> exact⟨rfl,rfl,rfl,rfl⟩
 refine m.put k hk e1.2.1 e1.2.2.1 e1.2.2.2 (by simp[setBlock,e1.1]) (fun b' _ hne=>?_) ?_ (.inl fun _ h=>h)
 · have:b'≠r:=fun e=>hne (by rw[e];rfl)
   simp only[setBlock,e1.1];exact je (Ne.symm this)
 · exact jH (w:=w1) (o:=.mapIter (some g) c seen c) (by rw[e1.1];exact hI)
theorem nL{b:Bool}{kv vv:ak}(hx:ev l x=Gz b kv vv):iO P l (.extract x 0) ty (.bool b):=fun w o ho _=>by
 cases b <;> simp[da,ho,bW,hx,Gz,Instr.extract]
theorem pQ{r:Nat}{seen:Array Nat}{dn rs:List (K × V)}{k:K}{v:V}(hx:ev l x=.pointer (some ⟨r,0,none⟩))(hI:uA w r g c seen c)(hM:iN w g es c)(hD:bA ek en D es c)(hT:lP ek en D es seen (dn++[(k,v)]) rs) :
 Aa P l (.entry x) ty (.tuple #[ek k,en v]) w:=fun o ho _=>by
 have:=ad3 (P:=P) hI hM hD hT;simp[da,ho,bW,hx,this]
theorem nI{f:FuncId}{fo:cd}{xs:Array cd}{args:List ak}{first cap:Array ak}{a0:Array ay}{R:ak→It→Prop}(m:Mem w0 w is)(k:Nat)(hE:Entr P f)(hf:ev l fo=.func (.func f) first cap)(hxs:first.toList++xs.toList.map (ev l)++cap.toList=args)
 (hc:Mem w0 w is→Calls P f args.toArray w fun e w'=>∃v i,e=.returned v∧Mem w0 w' (is.set k i)∧R v i) (h:∀v i u,Mem w0 u (is.set k i)→R v i→au P ops Q rest (Fr (l.set d v) ds) u) :
 au P ops Q (bp (some d) (.call { callee:=.value fo,args:=xs,argTypes:=a0 }) ty pos after none::rest) (Fr l ds) w:=by
 refine wpList_plain O fun K hK=>?_;unfold Oper.wp;rw[iZ,oX hE hf hxs _ rfl];refine (hc m).mono ?_;rintro e w' ⟨v,i,rfl,hM,hR⟩;show K ((Fr l ds).put (some d) v) w'
 rw[gY];exact hK _ _ (h v i w' hM hR)
end
theorem dC{P:bz}{Q:Exit→Act→am→Prop}{l:List ak}{ds:List dl}{c1 c2:Code}{w:am}{x:cd}{b:Bool}(hx:ev l x=.bool b)(ht:b=true→c1.wp P Q (Fr l ds) w)(hf:b=false→c2.wp P Q (Fr l ds) w):(Code.cond x c1 c2).wp P Q (Fr l ds) w:=lV hx ht hf
theorem Sf{α:Type}{is:List α}{k:Nat}{i:α}(h:is[k]? = some i):is.set k i=is:=by
 apply gg;intro j;rw[ju];split
 · rename_i e;subst e
   have:=(ax.1 h).1;rw[if_pos this,h]
 · rfl
theorem Ma{K V:Type}[DecidableEq K]:∀{D:List (K × V)} {k:K} {v:V},bL D k=some v→fI D k v=D
 | [],_,_,h=>by cases h
 | x::D,k,v,h=>by
  unfold bL at h;unfold fI;split at h
  · rename_i e;cases h;subst e;rw[if_pos rfl]
  · rename_i e;rw[if_neg e,Ma h]
/-! ### Keys -/
def sR(P:bz)(e:Bool)(d:Nat)(T:ay)(x:ak):Prop:=∀w,(Instr.checkKey e d T x).run P w=.ok () w
section
variable {P:bz} {e:Bool} {d:Nat} {T E:ay}
theorem uK{β:Type}{w:am}(g:β→PUnit→Sem (ForInStep PUnit)):∀(L:List β),(∀x∈L,(g x ⟨⟩).run P w=.ok (.yield ⟨⟩) w)→(forIn L PUnit.unit g:Sem PUnit).run P w=.ok ⟨⟩ w
 | [],_=>by simp
 | x::L,h=>by
  simp only[List.forIn_cons,Sem.run_bind,h x (bj ..),Result.andThen_ok];exact uK g L fun y hy=>h y (bm _ hy)
theorem sR.int{k k':IntKind}{n:Int}(hu:P.underlying T=some (.int k')):sR P e (d+1) T (.int k n):=fun w=>by
 unfold Instr.checkKey;simp[cj hu]
theorem sR.struct{fs:Array Field}{cs:Array ak}(hu:P.underlying T=some (.struct fs))(h:∀f∈fs.toList,∃v,(∀w,(part f.type cs f.offset).run P w=.ok v w)∧sR P e d f.type v):sR P e (d+1) T (.agg cs):=fun w=>by
 unfold Instr.checkKey;simp only[Sem.run_bind,cj hu,Result.andThen_ok];rw[←Array.forIn_toList];refine (congrArg (fun r=>Result.andThen r _) (uK _ fs.toList fun f hf=>?_)).trans (by rfl);obtain⟨v,h1,h2⟩:=h f hf;by_cases hn:f.name = "_"
 · simp[hn]
 · simp[hn,h1 w,h2 w]
theorem sR.array{n c:Nat}{cs:Array ak}(hu:P.underlying T=some (.array n E))(hc:dQ P E c)(h:∀i,i<n→∃v,(∀w,(part E cs (i*c)).run P w=.ok v w)∧sR P e d E v):sR P e (d+1) T (.agg cs):=fun w=>by
 unfold Instr.checkKey;simp only[Sem.run_bind,cj hu,Result.andThen_ok];simp only[Std.Legacy.Range.forIn_eq_forIn_range',Std.Legacy.Range.size,Nat.sub_zero,Nat.add_one_sub_one,Nat.div_one];refine (congrArg (fun r=>Result.andThen r _) (uK _ (List.range' 0 n) fun i hi=>?_)).trans (by rfl);obtain⟨v,h1,h2⟩:=h i (by simpa using hi);simp[fA hc,h1 w,h2 w]
theorem rN.agg{K:Type}[DecidableEq K]{ek:K→ak}{cs:K→Array ak}(ha:∀k,ek k=.agg (cs k)){t:TypeDesc}(ht:P.underlying T=some t)(hc:∀e k,sR P e 10000 T (ek k))(he:∀a b,vX P 10000 T (ek a) (ek b) (a=b))(hb:∀a,Instr.sameBits 10000 (ek a) (ek a)=true):rN P T ek where
 chk e k w:=hc e k w
 now:=⟨t,ht,fun a b=>.inl (by rw[ha,ha];cases t <;> rfl)⟩
 eq a b w:=Ai (he a b) w
 bits:=hb
end
end Go.Lith
namespace Go.Lith
open Go.RowKit
theorem Mem.gb{w0 w:am}{is:List It}(m:Mem w0 w is)(k:Nat){g:Nat}{cs:List ak}{t:ay}(hk:is[k]? = some (bI g cs t)):w0.heap.size≤g:=m.ge _ (bn hk) g rfl
theorem eV{P:bz}{l:List ak}{x:cd}{ty:ay}{a:Addr}(hx:ev l x=.pointer (some a)):iO P l (.nilCheck x) ty (.pointer (some a)):=fun w o ho _=>by
 simp[da,ho,bW,hx]
theorem asJ{P:bz}{ds:List dl}{Q:Exit→Act→am→Prop}{w w0:am}{is:List It}{c:Code}{a:Act}{l:Nat→List ak}{c1:List ak}{T1:ay}(m:Mem w0 w is)(h1:c.wp P (fun e a' u=>e=.normal∧∃g,a'=Fr (l g) ds∧Mem w0 u (bI g c1 T1::is)) a w)
 (h2:∀g u,Mem w0 u (bI g c1 T1::is)→Q .normal (Fr (l g) ds) u):c.wp P Q a w:=by
 refine Code.wp_mono ?_ h1;rintro e a' u ⟨rfl,g,rfl,m'⟩;exact h2 g u m'
end Go.Lith
