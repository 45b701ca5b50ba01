/-
 Texts of one claim, laid together: Guard, Geo6, Open, Surf, Surf2, Lat, Chk, Facts, Facts2, Map0, Map, Map2, Nc, Vg, Vs, Cj, Vj, Sort, Sets, Box, Wa.
-/
import Derived.OpenShut
import Derived.Lib.SmallJoins
import Derived.Deep.Slices
import Derived.Test.YtfekpcimgncioaaGreatDoorProg
import Derived.Maps.RangeRun
import Derived.Shelf.SlSortCmp.WholeK
import Derived.Shelf.SlSortCmp.NoneTotal
import Derived.Test.YtfekpcimgncioaaGreatDoorG1
open Go renaming Value→ai,World→aj,wpList→au,TypeId→av,Program→bv,Operand→bz,run_underlying→cn,wpQuiet→cu,MapEntry→de,execOp→dj,Deferred→dw
open List renaming getElem?_eq_getElem→ak,mem_cons→an,getElem?_eq_some_iff→ap,flatMap_append→aw,length_cons→ay,mem_singleton→az,length_append→a_,mem_cons_of_mem→bg,mem_cons_self→bh,take_of_length_le→bi,mem_of_getElem?→bj,map_cons→bp,mem_append→br,nil_append→bt,pairwise_cons→bu,length_take→bw,flatMap_cons→b_,cons_append→cg,not_mem_nil→cl,map_append→ct,mem_map→cw,range→c_,append_assoc→da,mem_flatMap→dl,getElem?_drop→dm,getElem?_append_left→dq,getElem?_append_right→d_,getElem?_map→eh,getElem?_take→ei,getD_eq_getElem?_getD→ej,append_nil→eo,any_eq_true→ew,length_drop→fm,getElem?_eq_none→fq,nodup_cons→f_,drop_of_length_le→gh,ext_getElem?→gj,foldl_append→gl,pairwise_append→gr,range_succ→gw,getElem?_cons_succ→iz,nodup_append→jc,getElem?_set→jj,foldl_cons→jv,getElem?_toArray→ky,takeWhile_append_dropWhile→lg,take_succ_cons→li,getElem_of_mem→lj,takeWhile_cons→lk,take_zero→lp,map_eq_append_iff→me,map_eq_cons_iff→nc,take_add_one→nt,drop_append→og,take_append→oh,dropWhile_cons→ow
open Nat renaming le_refl→ao,zero_add→ar,zero_le→cq,lt_or_ge→fp,mod_lt→fw,add_sub_cancel→ii,le_of_not_lt→ir,add_mul→kf,one_mul→oq,le_antisymm→pz,mul_comm→qm
open Bool renaming and_eq_true→ba,not_true→ff,not_false→fh,false_eq_true→pb
open Go.Oper renaming mk→bx
open Go.Exit renaming inBlock→di
open Option renaming getD_some→dx,map_some→fa,bind_some→iu,map_none→p_
open Array renaming getElem?_eq_some_iff→dz,getElem?_toList→fx,getElem?_eq_getElem→g_,mapM_eq_mapM_toList→ip,getElem?_setIfInBounds_ne→i_,getElem?_modify→jz,eraseIdxIfInBounds→ld,toList_push→nw,toList_modify→ov
open Prod.mk renaming injEq→fk
open Int renaming tmod_eq_emod_of_nonneg→fu
open List.Pairwise renaming nil→ki
open List.cons renaming injEq→mf
open List.Perm renaming append_left→mo,refl→ny,trans→ou
set_option linter.unusedSimpArgs false
set_option linter.unusedVariables false
set_option linter.unusedSectionVars false
namespace Go.Lith
open Go.RowKit
@[irreducible] def Ut(c:Bool)(v:ai):ai:=if c then v else undef
theorem mC{v:ai}:Ut true v=v:=by simp[Ut]
theorem Gj{v:ai}:Ut false v=undef:=by simp[Ut]
theorem bB{c:Bool}{u v:ai}(hb:c=true)(h:u=Ut c v):u=v:=by rw[h,hb,mC]
section
variable {P:bv} {ds:List dw} {l:List ai} {x y:bz} {T ty:av} {b c:Bool} {v:ai}
theorem fC{z:bz}(hz:ev l z=.bool b)(hx:ev l x=Ut b (.bool c))(hy:ev l y=.bool false):iB P l (.pick z x y) ty (.bool (b&&c)):=by
 have:=Yt (P:=P) (ty:=ty) (x:=x) (y:=y) hz;cases b with
 | false=>simpa[hy] using this
 | true=>simpa[hx,mC] using this
theorem eD{z:bz}(hz:ev l z=.bool b)(hx:ev l x=.bool true)(hy:ev l y=Ut (!b) (.bool c)):iB P l (.pick z x y) ty (.bool (b||c)):=by
 have:=Yt (P:=P) (ty:=ty) (x:=x) (y:=y) hz;cases b with
 | false=>simpa[hy,mC] using this
 | true=>simpa[hx] using this
end
section
variable {P:bv} {ops:Array Oper} {Q:Exit→Act→aj→Prop} {rest:List Oper} {d j:Nat} {op:Op} {ty:av} {pos:String} {after:Array Edge} {v:ai} {b:Bool} {ds:List dw} {l:List ai} {w w0:aj} {is:List It}
theorem jM(hw:yielded ops l.toArray j=some b)(hr:b=true→Bq P l op ty v w)(h:au P ops Q rest (Fr (l.set d (Ut b v)) ds) w):au P ops Q (bx (some d) op ty pos after (some (j,true))::rest) (Fr l ds) w:=by
 cases b with
 | false=>rw[Gj] at h;exact rJ hw h
 | true=>rw[mC] at h;exact cN hw (gK (hr rfl) h)
theorem eY(hw:yielded ops l.toArray j=some b)(hr:(!b)=true→Bq P l op ty v w)(h:au P ops Q rest (Fr (l.set d (Ut (!b) v)) ds) w):au P ops Q (bx (some d) op ty pos after (some (j,false))::rest) (Fr l ds) w:=by
 cases b with
 | true=>rw[ff,Gj] at h;exact aeC hw h
 | false=>rw[fh,mC] at h;exact cN hw (gK (hr rfl) h)
theorem kZ(hw:yielded ops l.toArray j=some b)(hr:b=true→iB P l op ty v)(h:au P ops Q rest (Fr (l.set d (Ut b v)) ds) w):au P ops Q (bx (some d) op ty pos after (some (j,true))::rest) (Fr l ds) w:=jM hw (fun e=>hr e w) h
theorem dG(hw:yielded ops l.toArray j=some b)(hr:(!b)=true→iB P l op ty v)(h:au P ops Q rest (Fr (l.set d (Ut (!b) v)) ds) w):au P ops Q (bx (some d) op ty pos after (some (j,false))::rest) (Fr l ds) w:=eY hw (fun e=>hr e w) h
theorem aeJ{f:FuncId}{fo:bz}{xs:Array bz}{args:List ai}{first cap:Array ai}{a0:Array av}(m:Mem w0 w is)(hw:yielded ops l.toArray j=some b)(hf:ev l fo=.func (.func f) first cap)(hxs:b=true→first.toList++xs.toList.map (ev l)++cap.toList=args)(hc:b=true→fF P f args v)
 (h:∀u,Mem w0 u is→au P ops Q rest (Fr (l.set d (Ut b v)) ds) u):au P ops Q (bx (some d) (.call { callee:=.value fo,args:=xs,argTypes:=a0 }) ty pos after (some (j,true))::rest) (Fr l ds) w:=by
 cases b with
 | false=>simp only[Gj] at h;exact rJ hw (h w m)
 | true=>simp only[mC] at h;exact cN hw (kY m hf (hxs rfl) (hc rfl) h)
theorem Zl{f:FuncId}{fo:bz}{xs:Array bz}{args:List ai}{first cap:Array ai}{a0:Array av}(m:Mem w0 w is)(hw:yielded ops l.toArray j=some b)(hf:ev l fo=.func (.func f) first cap)(hxs:(!b)=true→first.toList++xs.toList.map (ev l)++cap.toList=args)(hc:(!b)=true→fF P f args v)
 (h:∀u,Mem w0 u is→au P ops Q rest (Fr (l.set d (Ut (!b) v)) ds) u):au P ops Q (bx (some d) (.call { callee:=.value fo,args:=xs,argTypes:=a0 }) ty pos after (some (j,false))::rest) (Fr l ds) w:=by
 cases b with
 | true=>simp only[ff,Gj] at h;exact aeC hw (h w m)
 | false=>simp only[fh,mC] at h;exact cN hw (kY m hf (hxs rfl) (hc rfl) h)
end
section
variable {P:bv} {ops:Array Oper} {Q:Act→Prop} {C:aj→Prop} {rest:List Oper} {d j:Nat} {op:Op} {ty:av} {pos:String} {after:Array Edge} {v:ai} {b:Bool} {ds:List dw} {l:List ai} {w0:aj} {is:List It}
theorem fE(hw:yielded ops l.toArray j=some b)(hr:b=true→∀u,C u→Bq P l op ty v u)(h:cu P ops C Q rest (Fr (l.set d (Ut b v)) ds)):cu P ops C Q (bx (some d) op ty pos after (some (j,true))::rest) (Fr l ds):=by
 cases b with
 | false=>rw[Gj] at h;exact mQ hw h
 | true=>rw[mC] at h;exact bU hw (kK (hr rfl) h)
theorem lW(hw:yielded ops l.toArray j=some b)(hr:(!b)=true→∀u,C u→Bq P l op ty v u)(h:cu P ops C Q rest (Fr (l.set d (Ut (!b) v)) ds)):cu P ops C Q (bx (some d) op ty pos after (some (j,false))::rest) (Fr l ds):=by
 cases b with
 | true=>rw[ff,Gj] at h;exact Ii hw h
 | false=>rw[fh,mC] at h;exact bU hw (kK (hr rfl) h)
theorem dL(hw:yielded ops l.toArray j=some b)(hr:b=true→iB P l op ty v)(h:cu P ops C Q rest (Fr (l.set d (Ut b v)) ds)):cu P ops C Q (bx (some d) op ty pos after (some (j,true))::rest) (Fr l ds):=fE hw (fun e u _=>hr e u) h
theorem dQ(hw:yielded ops l.toArray j=some b)(hr:(!b)=true→iB P l op ty v)(h:cu P ops C Q rest (Fr (l.set d (Ut (!b) v)) ds)):cu P ops C Q (bx (some d) op ty pos after (some (j,false))::rest) (Fr l ds):=lW hw (fun e u _=>hr e u) h
theorem Zm{f:FuncId}{fo:bz}{xs:Array bz}{args:List ai}{first cap:Array ai}{a0:Array av}(hw:yielded ops l.toArray j=some b)(hf:ev l fo=.func (.func f) first cap)(hxs:b=true→first.toList++xs.toList.map (ev l)++cap.toList=args)(hc:b=true→fF P f args v)
 (h:cu P ops (fun u=>Mem w0 u is) Q rest (Fr (l.set d (Ut b v)) ds)):cu P ops (fun u=>Mem w0 u is) Q (bx (some d) (.call { callee:=.value fo,args:=xs,argTypes:=a0 }) ty pos after (some (j,true))::rest) (Fr l ds):=by
 cases b with
 | false=>rw[Gj] at h;exact mQ hw h
 | true=>rw[mC] at h;exact bU hw (jJ hf (hxs rfl) (hc rfl) h)
theorem aeK{f:FuncId}{fo:bz}{xs:Array bz}{args:List ai}{first cap:Array ai}{a0:Array av}(hw:yielded ops l.toArray j=some b)(hf:ev l fo=.func (.func f) first cap)(hxs:(!b)=true→first.toList++xs.toList.map (ev l)++cap.toList=args)(hc:(!b)=true→fF P f args v)
 (h:cu P ops (fun u=>Mem w0 u is) Q rest (Fr (l.set d (Ut (!b) v)) ds)):cu P ops (fun u=>Mem w0 u is) Q (bx (some d) (.call { callee:=.value fo,args:=xs,argTypes:=a0 }) ty pos after (some (j,false))::rest) (Fr l ds):=by
 cases b with
 | true=>rw[ff,Gj] at h;exact Ii hw h
 | false=>rw[fh,mC] at h;exact bU hw (jJ hf (hxs rfl) (hc rfl) h)
end
section
variable {P:bv} {ops:Array Oper} {S:aj→Prop} {Q:Exit→Act→aj→Prop} {rest:List (Oper × Bool)} {d j:Nat} {op:Op} {ty:av} {pos:String} {after:Array Edge} {v:ai} {b:Bool} {ds:List dw} {l:List ai} {w:aj}
theorem Iu(hw:yielded ops l.toArray j=some b)(hr:b=true→∀u,S u→Bq P l op ty v u)(h:bF P ops S Q rest (Fr (l.set d (Ut b v)) ds) w):bF P ops S Q ((bx (some d) op ty pos after (some (j,true)),true)::rest) (Fr l ds) w:=by
 cases b with
 | false=>rw[Gj] at h;exact tU hw h
 | true=>rw[mC] at h;exact oU hw (Zc (hr rfl) h)
theorem Ln(hw:yielded ops l.toArray j=some b)(hr:b=true→iB P l op ty v)(h:bF P ops S Q rest (Fr (l.set d (Ut b v)) ds) w):bF P ops S Q ((bx (some d) op ty pos after (some (j,true)),true)::rest) (Fr l ds) w:=Iu hw (fun e u _=>hr e u) h
end
end Go.Lith
namespace Go.Lith
open Go.RowKit Go.ChangeShapes
variable {H:Type} {enc:av × ai→H} {P:bv} {w:aj} {base:Nat} {spare:Nat→Bool} {held:Bool}
def uY(P:bv):Nat→av→Bool
 | 0,_=>false
 | n+1,t=>match P.underlying t with
  | some (.int .i64)=>decide (P.cellsOf t=1)
  | some (.struct fs)=>(fs.toList.all fun f=>uY P n f.type)&&(c_ (P.cellsOf t)).all fun i=>fs.toList.any fun f=>decide (f.offset≤i)&&decide (i<f.offset+P.cellsOf f.type)
  | some (.array m e)=>uY P n e&&decide (P.cellsOf t=m*P.cellsOf e)
  | _=>false
theorem ao8{n:Int}(h:(Lit.int .i64 n).wf=true):rN n:=by
 have:=bounds_i64 h;exact⟨by omega,by omega⟩
theorem zZ:∀(n:Nat) (t:av) (m:Nat) (cs:List ai) (x:DataW H × List MemPlace),uY P n t=true→DataW.trod enc P w base spare held m t cs=some x →
 cs.length=P.cellsOf t∧∀v∈cs,∃z,v=.int .i64 z∧rN z
 | 0,t,m,cs,x,h,_=>by cases h
 | n+1,t,m,cs,x,h,hx=>by
  unfold uY at h;split at h
  · rename_i hu
    obtain⟨z,rfl,_,hz⟩:=DataW.trod_int hu hx;refine⟨by rw[of_decide_eq_true h];rfl,fun v hv=>⟨z,by simpa using hv,ao8 hz⟩⟩
  · rename_i fs hu
    simp only[ba,List.all_eq_true,ew,decide_eq_true_eq,List.mem_range] at h;obtain⟨ys,k,_,_,hl,hlen,hf⟩:=DataW.trod_struct hu hx;refine⟨hl,fun v hv=>?_⟩;obtain⟨i,hi,rfl⟩:=lj hv;obtain⟨f,hfm,h1,h2⟩:=h.2 i (by rw[←hl];exact hi);obtain⟨j,hj,rfl⟩:=lj hfm;have hj':j<fs.size:=by simpa using hj
    have:=hf j fs[j] (g_ hj');rw[ak (by rw[hlen];exact hj')] at this;have hr:=(zZ n _ _ _ _ (h.1 _ (List.getElem_mem hj)) this).2;refine hr _ ?_;simp only[Array.getElem_toList] at h1 h2;refine bj (i:=i-fs[j].offset) ?_;rw[ei,if_pos (by omega),dm,show fs[j].offset+(i-fs[j].offset)=i by omega];exact ak hi
  · rename_i q e hu
    simp only[ba,decide_eq_true_eq] at h;obtain⟨ys,k,_,_,hl,hlen,hf⟩:=DataW.trod_array hu hx;refine⟨hl,fun v hv=>?_⟩;obtain⟨i,hi,rfl⟩:=lj hv;rw[hl,h.2] at hi;have hc:0<P.cellsOf e:=by
     rcases Nat.eq_zero_or_pos (P.cellsOf e) with h0 | h0
     · rw[h0] at hi;omega
     · exact h0
    have hq:i / P.cellsOf e<q:=Nat.div_lt_of_lt_mul (by rw[qm];exact hi);have:=hf _ hq;rw[ak (by rw[hlen];exact hq)] at this;have hr:=(zZ n _ _ _ _ h.1 this).2;refine hr _ (bj (i:=i%P.cellsOf e) ?_);rw[ei,if_pos (fw _ hc),dm,qm,Nat.div_add_mod];exact ak _
  · cases h
theorem Wi:∀(n:Nat) (cs:List ai),cs.length=n→(∀v∈cs,∃z,v=.int .i64 z∧rN z)→∃zs:List Int,zs.length=n∧cs=zs.map (.int .i64 ·)∧∀z∈zs,rN z
 | 0,[],_,_=>⟨[],rfl,rfl,fun _ h=>by cases h⟩
 | n+1,v::vs,h,hv=>by
  obtain⟨zs,h1,h2,h3⟩:=Wi n vs (by simpa using h) (fun u hu=>hv u (by simp[hu]));obtain⟨z,rfl,hz⟩:=hv v (by simp);exact⟨z::zs,by simp[h1],by simp[h2],fun u hu=>by rcases an.1 hu with rfl | hu;exact hz;exact h3 _ hu⟩
theorem ac2{a:Addr}{n:Nat}{cs:List ai}(h:w.cells? base a n=some cs):mT w a cs∧base≤a.block:=by
 unfold World.cells? at h;split at h
 · rename_i hb
   refine⟨fun j u hj=>?_,hb⟩;have hl:=mapM_some_length h;have hj':j<cs.length:=(ap.1 hj).1;rw[hl] at hj';have:=mapM_some_get h j j (ak hj'▸by simp);rw[this,hj]
 · cases h
theorem af6{n m:Nat}{t e:av}{fuel:Nat}{cs:List ai}{x:DataW H × List MemPlace}(hu:P.underlying t=some (.slice e))(hi:uY P n e=true)(hc:P.cellsOf e=m)(h:DataW.trod enc P w base spare held fuel t cs=some x) :
 ∃(A:Option Addr) (len cap:Nat),cs=[.slice A len cap]∧len≤cap∧cap≤maxLen∧(A=none→len=0)∧∀i,i<len→∃(a:Addr) (zs:List Int),A=some a∧base≤a.block∧mT w (a.add (i*m)) (zs.map (Value.int .i64 ·))∧zs.length=m∧∀z∈zs,rN z:=by
 rcases Deep.open_slice hu h with ⟨rfl,_⟩ | ⟨a,len,cap,k,q,D,Pl,rfl,hb,hl,hm,hk,_,hx⟩
 · exact⟨none,0,0,rfl,ao _,cq _,fun _=>rfl,fun i hi=>absurd hi (Nat.not_lt_zero _)⟩
 · refine⟨some a,len,cap,rfl,hl,hm,fun h=>(by cases h),fun i hi'=>?_⟩
   obtain⟨cs',h1,h2⟩:=hx i (by rw[hk];split <;> omega);obtain⟨h3,h4⟩:=zZ n e q _ _ hi h2;obtain⟨zs,h5,rfl,h6⟩:=Wi m cs' (by rw[←hc];exact h3) h4;rw[hc] at h1;exact⟨a,zs,rfl,hb,(ac2 h1).1,h5,h6⟩
theorem Ns{α:Type}{p:Nat→α→Prop}:∀(n:Nat),(∀i,i<n→∃x,p i x)→∃l:List α,l.length=n∧∀i x,l[i]? = some x→p i x
 | 0,_=>⟨[],rfl,fun i x h=>by simp at h⟩
 | n+1,h=>by
  obtain⟨l,h1,h2⟩:=Ns n (fun i hi=>h i (by omega));obtain⟨x,hx⟩:=h n (by omega);refine⟨l++[x],by simp[h1],fun i y hy=>?_⟩;rcases Nat.lt_trichotomy i n with hi | hi | hi
  · exact h2 i y (by rwa [dq (by omega)] at hy)
  · subst hi
    rw[d_ (by omega),h1,Nat.sub_self] at hy;cases hy;exact hx
  · rw[d_ (by omega),h1] at hy
    have:i-n≠0:=by omega
    cases hd:i-n with
    | zero=>omega
    | succ j=>rw[hd] at hy;simp at hy
structure ah1(w:aj)(A:Option Addr)(n:Nat)(zs:List Int):Prop where
 len:zs.length=n
 it:∀z∈zs,rN z
 row:∀i z,zs[i]? = some z→∃a,A=some a∧w.cell? (a.add i)=some (.int .i64 z)
theorem ac3{n:Nat}{t e:av}{fuel:Nat}{cs:List ai}{x:DataW H × List MemPlace}(hu:P.underlying t=some (.slice e))(hi:uY P n e=true)(hc:P.cellsOf e=1)(h:DataW.trod enc P w base spare held fuel t cs=some x) :
 ∃(A:Option Addr) (len cap:Nat) (zs:List Int),cs=[.slice A len cap]∧len≤cap∧cap≤maxLen∧(A=none→len=0)∧ah1 w A len zs:=by
 obtain⟨A,len,cap,rfl,h1,h2,h3,h4⟩:=af6 hu hi hc h;obtain⟨zs,h5,h6⟩:=Ns (p:=fun i (z:Int)=>rN z∧∃a,A=some a∧w.cell? (a.add i)=some (.int .i64 z)) len (fun i hi=>by
  obtain⟨a,zs,rfl,_,hr,hl,hz⟩:=h4 i hi
  match zs,hl with
  | [z],_=>exact⟨z,hz _ (by simp),a,rfl,by have:=hr 0 _ rfl;rwa [Nat.mul_one,jK,Nat.add_zero] at this⟩)
 refine⟨A,len,cap,zs,rfl,h1,h2,h3,h5,fun z hz=>?_,fun i z hz=>(h6 i z hz).2⟩;obtain⟨i,hi,rfl⟩:=lj hz;exact (h6 i _ (ak hi)).1
end Go.Lith
namespace Go.Lith
open Go.RowKit
variable{n k c:Nat}{E:av}{α:Type}{w:aj}{x q y u s:P3}
theorem an1{n m:Int}(hm:0<m) : -m<n.tmod m∧n.tmod m<m:=by
 have h1:=Int.tmod_lt_of_pos n hm;have h2:=Int.tmod_lt_of_pos (-n) hm;rw[Int.neg_tmod] at h2;omega
theorem alO{n m:Int}(hm:0<m):(n.tmod m+m).tmod m=n%m:=by
 have hb:=an1 (n:=n) hm;rw[fu (by omega)];rcases Int.le_total 0 n with h | h
 · rw[fu h]
   simp
 · have e:n.tmod m = -((-n)%m):=by
    rw[←fu (show 0 ≤ -n by omega),Int.neg_tmod,Int.neg_neg]
   rw[e,Int.add_emod_right];have h2:=Int.emod_add_mul_ediv (-n) m;have h3 : -((-n)%m)=n+m*(-n / m):=by omega
   rw[h3,Int.add_mul_emod_self_left]
/-! ### Hills -/
theorem Nt{α β:Type}{f:α→List β}{k:Nat}:∀(l:List α),(∀x∈l,(f x).length=k)→(l.flatMap f).length=l.length*k
 | [],_=>by simp
 | x::l,h=>by
  rw[b_,a_,h x (by simp),Nt l (fun y hy=>h y (by simp[hy])),ay,kf,oq,Nat.add_comm]
/-! ### Cubes -/
/-! ### What the walks ask for -/
theorem an2  : (k:Int).tmod (c:Int)=((k%c:Nat):Int):=rfl
theorem aru(ts:List T3)(k:Nat):(ts.take k).flatMap aM=(ts.flatMap aM).take (k*9):=by
 induction ts generalizing k with
 | nil=>simp
 | cons t ts ih =>
  cases k with
  | zero=>simp
  | succ k =>
   rw[li,b_,b_,ih,oh,dB,bi (l:=aM t) (by rw[dB];omega),show (k+1)*9-9=k*9 by omega]
theorem ah2{ts:List T3}{t u:T3}(h:ts[k]? = some t):over (ts.flatMap aM) (k*9) (aM u)=(ts.set k u).flatMap aM:=by
 induction ts generalizing k with
 | nil=>cases h
 | cons v ts ih =>
  cases k with
  | zero =>
   unfold over;rw[Nat.zero_mul,lp,bt,List.set_cons_zero,b_,b_,dB,ar,og,dB,gh (l:=aM v) (by rw[dB];omega)];rfl
  | succ k =>
   have:=ih (k:=k) h;unfold over at this ⊢;rw[List.set_cons_succ,b_,b_,←this,dB];rw[oh,dB,bi (l:=aM v) (by rw[dB];omega),show (k+1)*9-9=k*9 by omega,og,dB,gh (l:=aM v) (by rw[dB];omega),show (k+1)*9+9-9=k*9+9 by omega];simp only[da,bt]
def T3.cor(t:T3)(c:Nat):P3:=if c=0 then t.a else if c=1 then t.b else t.c
def T3.setC(t:T3)(c:Nat)(p:P3):T3:=if c=0 then ⟨p,t.b,t.c⟩ else if c=1 then ⟨t.a,p,t.c⟩ else ⟨t.a,t.b,p⟩
theorem alP{t:T3}{p:P3}(hc:c<3):over (aM t) (c*3) [.int .i64 p.x,.int .i64 p.y,.int .i64 p.z]=aM (t.setC c p):=by
 have:c=0∨c=1∨c=2:=by omega
 rcases this with rfl | rfl | rfl <;> rfl
theorem af7{cs us:List ai}{off d:Nat}(h:off+k≤cs.length)(hu:us.length+d≤k):over cs (off+d) us=over cs off (over ((cs.drop off).take k) d us):=by
 have e0:((cs.drop off).take k).length=k:=by rw[bw,fm];omega
 have e1:(over ((cs.drop off).take k) d us).length=k:=by rw[Ci (by omega)];exact e0
 unfold over at e1 ⊢;rw[e1];apply gj;intro j;simp only[da];rcases fp j off with h1 | h1
 · rw[dq (by rw[bw];omega),dq (by rw[bw];omega),ei,ei,if_pos (by omega),if_pos h1]
 · rw[d_ (l₁:=cs.take off) (by rw[bw];omega)]
   have e2:(cs.take off).length=off:=by rw[bw];omega
   have e3:(cs.take (off+d)).length=off+d:=by rw[bw];omega
   rw[e2];rcases fp j (off+d) with h2 | h2
   · rw[dq (by rw[e3];exact h2),dq (by rw[bw,e0];omega),ei,ei,ei,dm,if_pos h2,if_pos (by omega),if_pos (by omega),show off+(j-off)=j by omega]
   · rw[d_ (by rw[e3];exact h2),e3,d_ (l₁:=((cs.drop off).take k).take d) (by rw[bw,e0];omega),bw (l:=(cs.drop off).take k),e0,Nat.min_eq_left (by omega),show j-off-d=j-(off+d) by omega]
     rcases fp (j-(off+d)) us.length with h3 | h3
     · rw[dq h3,dq h3]
     · rw[d_ h3,d_ h3]
       rcases fp j (off+k) with h4 | h4
       · rw[dq (by rw[fm,e0];omega),dm,dm,ei,dm,if_pos (by omega)]
         congr 1
         omega
       · rw[d_ (by rw[fm,e0];omega),dm,dm,fm,e0]
         congr 1
         omega
theorem ah3{ts:List T3}{t:T3}{p:P3}(h:ts[k]? = some t)(hc:c<3):over (ts.flatMap aM) (k*9+c*3) [.int .i64 p.x,.int .i64 p.y,.int .i64 p.z]=(ts.set k (t.setC c p)).flatMap aM:=by
 have hk:k<ts.length:=(ap.1 h).1;have hd:=Ey ts k t h;rw[af7 (k:=9) (by rw[Ez];omega) (by show 3+_≤9;omega),hd,oh,dB,bi (l:=aM t) (by rw[dB];omega),show 9-9=0 from rfl,lp,eo,alP hc,ah2 h]
section
variable {w0 w:aj} {S:List (Option Nat)} {E:av} {n cap:Nat} {A:Option Addr} {ts:List T3}
theorem mT.cor{a:Addr}{t:T3}{c:Nat}(h:mT w a (aM t))(hc:c<3):mT w (a.add (c*3)) [.int .i64 (t.cor c).x,.int .i64 (t.cor c).y,.int .i64 (t.cor c).z]:=by
 have:=(h.sub (c*3)).take 3;have e:c=0∨c=1∨c=2:=by omega
 rcases e with rfl | rfl | rfl <;> exact this
theorem bQ.take{N k:Nat}(h:bQ w A N ts)(hk:k≤N):bQ w A k (ts.take k) :=
 ⟨by rw[bw,h.len];omega,fun t ht=>h.it t (List.mem_of_mem_take ht),fun i t ht=>h.row i t (by rw[ei] at ht;split at ht;exact ht;cases ht)⟩
end
section
variable {α:Type} {enc:α→List ai} {c:Nat} {w w':aj} {A:Option Addr} {n:Nat} {xs:List α}
structure vY(enc:α→List ai)(c:Nat)(w:aj)(A:Option Addr)(n:Nat)(xs:List α):Prop where
 len:xs.length=n
 row:∀i x,xs[i]? = some x→∃a,A=some a∧mT w (a.add (i*c)) (enc x)
theorem vY.ext(h:vY enc c w A n xs)(hE:gJ w w'):vY enc c w' A n xs:=⟨h.len,fun i x hi=>let ⟨a,e,hr⟩:=h.row i x hi;⟨a,e,hr.ext hE⟩⟩
theorem vY.get(h:vY enc c w A n xs){i:Nat}(hi:i<n):∃x,xs[i]? = some x∧∃a,A=some a∧mT w (a.add (i*c)) (enc x):=by
 have hl:i<xs.length:=by rw[h.len];exact hi
 exact⟨xs[i],ak hl,h.row i _ (ak hl)⟩
theorem vY.at{a:Addr}(h:vY enc c w (some a) n xs){i:Nat}{x:α}(hx:xs[i]? = some x):mT w (a.add (i*c)) (enc x):=by
 obtain⟨b,e,hr⟩:=h.row i x hx;cases e;exact hr
theorem vY.take(h:vY enc c w A n xs){k:Nat}(hk:k≤n):vY enc c w A k (xs.take k) :=
 ⟨by rw[bw,h.len];omega,fun i x hx=>h.row i x (by rw[ei] at hx;split at hx;exact hx;cases hx)⟩
theorem jV(hc:∀x,(enc x).length=c):∀xs:List α,(xs.flatMap enc).length=xs.length*c
 | []=>by simp
 | x::xs=>by rw[b_,a_,hc,jV hc xs,ay,kf,oq,Nat.add_comm]
theorem Aa(hc:∀x,(enc x).length=c):∀(xs:List α) (k:Nat),(xs.drop k).flatMap enc=(xs.flatMap enc).drop (k*c)
 | xs,0=>by simp
 | [],k+1=>by simp
 | x::xs,k+1=>by
  rw[List.drop_succ_cons,b_,Aa hc xs k,og,hc,gh (l:=enc x) (by rw[hc,kf];omega),kf,oq,ii,bt]
theorem Rm(hc:∀x,(enc x).length=c):∀(xs:List α) (k:Nat),(xs.take k).flatMap enc=(xs.flatMap enc).take (k*c)
 | xs,0=>by simp
 | [],k+1=>by simp
 | x::xs,k+1=>by
  rw[li,b_,b_,Rm hc xs k,oh,hc,bi (l:=enc x) (by rw[hc,kf];omega),kf,oq,ii]
theorem Rn(hc:∀x,(enc x).length=c){xs:List α}{i:Nat}{x:α}(h:xs[i]? = some x):(xs.flatMap enc).drop (i*c)=enc x++(xs.drop (i+1)).flatMap enc:=by
 rw[←Aa hc,List.drop_eq_getElem_cons (ap.1 h).1,b_,(ap.1 h).2]
theorem Ow.at{w0:aj}{S:List (Option Nat)}{cap g i:Nat}{x:α}(hc:∀x,(enc x).length=c)(h:Ow w0 w S E c (Option.some ⟨g,0,none⟩) n cap (xs.flatMap enc))(hx:xs[i]? = Option.some x):mT w ((⟨g,0,none⟩:Addr).add (i*c)) (enc x):=by
 intro j u hj;have hj':j<(enc x).length:=(ap.1 hj).1;rw[jK];refine h.rows _ _ ?_;rw[←dm,Rn hc hx,dq hj'];exact hj
theorem Ow.num{w0:aj}{S:List (Option Nat)}{cap:Nat}(hc:∀x,(enc x).length=c)(h0:0<c)(h:Ow w0 w S E c A n cap (xs.flatMap enc)):xs.length=n:=by
 have:=h.own.1;rw[jV hc] at this;exact Nat.eq_of_mul_eq_mul_right h0 this
theorem Ow.lat{w0:aj}{S:List (Option Nat)}{cap:Nat}(hc:∀x,(enc x).length=c)(h0:0<c)(h:Ow w0 w S E c A n cap (xs.flatMap enc)):vY enc c w A n xs :=
 ⟨h.num hc h0,fun i x hx=>by
  have hi:=(ap.1 hx).1;have hn:=h.num hc h0;obtain⟨g,rfl⟩:=h.some (by omega);exact⟨_,rfl,h.at hc hx⟩⟩
theorem vY.cells(hc:∀x,(enc x).length=c)(h0:0<c)(h:vY enc c w A n xs):∀j u,(xs.flatMap enc)[j]? = some u→∃a,A=some a∧w.cell? (a.add j)=some u:=fun j u hj=>by
 have hj':=(ap.1 hj).1;rw[jV hc] at hj';have hi:j / c<xs.length:=(Nat.div_lt_iff_lt_mul h0).2 hj';obtain⟨a,rfl,hr⟩:=h.row (j / c) _ (ak hi);refine⟨a,rfl,?_⟩;have hm:=fw j h0;have e:j=j / c*c+j%c:=by rw[qm];exact (Nat.div_add_mod j c).symm
 have:=hr (j%c) u (by
  rw[e,←dm,Rn hc (ak hi),dq (by rw[hc];exact hm)] at hj;exact hj)
 rw[jK,←e] at this;exact this
theorem vY.cellsD(hc:∀x,(enc x).length=c)(h0:0<c)(h:vY enc c w A n xs){cap q:Nat}(hcap:n≤cap):∀j u,((xs.drop q).flatMap enc)[j]? = some u→∃a,(if cap=q then A else A.map (·.add (q*c)))=some a∧w.cell? (a.add j)=some u:=fun j u hj=>by
 rw[Aa hc,dm] at hj;have hl:=(ap.1 hj).1;rw[jV hc,h.len] at hl;obtain⟨a,rfl,hcl⟩:=h.cells hc h0 _ _ hj;have:q<n:=by
  refine Nat.lt_of_mul_lt_mul_right (a:=c) ?_;omega
 rw[if_neg (by omega)];exact⟨_,rfl,by rw[jK];exact hcl⟩
end
theorem bY{ps:List α}{p:α}(h:ps[k]? = some p):ps.take (k+1)=ps.take k++[p]:=by
 rw[nt,h];rfl
abbrev E3:=P3 × P3
variable{es:List E3}
def bO(e:E3):List ai:=[.int .i64 e.1.x,.int .i64 e.1.y,.int .i64 e.1.z,.int .i64 e.2.x,.int .i64 e.2.y,.int .i64 e.2.z]
def ed(e:E3):ai:=.agg #[.int .i64 e.1.x,.int .i64 e.1.y,.int .i64 e.1.z,.int .i64 e.2.x,.int .i64 e.2.y,.int .i64 e.2.z]
def qS(p:P3):List ai:=[.int .i64 p.x,.int .i64 p.y,.int .i64 p.z]
theorem bQ.lat{A:Option Addr}{ts:List T3}(h:bQ w A n ts):vY aM 9 w A n ts:=⟨h.len,h.row⟩
theorem Zn(es:List E3):∀u∈es.flatMap bO,u.oneCell'=true:=fun u hu=>by
 obtain⟨e,_,h⟩:=dl.1 hu;simp only[bO,an,cl,or_false] at h;rcases h with rfl | rfl | rfl | rfl | rfl | rfl <;> rfl
theorem Ro(ps:List P3):∀u∈ps.flatMap qS,u.oneCell'=true:=fun u hu=>by
 obtain⟨e,_,h⟩:=dl.1 hu;simp only[qS,an,cl,or_false] at h;rcases h with rfl | rfl | rfl <;> rfl
theorem ac4(t:T3):(aM t).length=9:=rfl
theorem vZ(e:E3):(bO e).length=6:=rfl
theorem Ld(p:P3):(qS p).length=3:=rfl
def aQ(ts:List T3):List E3:=ts.flatMap fun t=>[(t.a,t.b),(t.b,t.c),(t.c,t.a)]
theorem uZ{ts:List T3}{t:T3}(h:ts[k]? = some t):aQ (ts.take (k+1))=aQ (ts.take k)++[(t.a,t.b),(t.b,t.c),(t.c,t.a)]:=by
 unfold aQ;rw[bY h,aw];simp
theorem mH(ts:List T3):(aQ ts).length=ts.length*3:=Nt ts fun _ _=>rfl
def iC(es:List E3)(e:E3):Nat:=(es.filter fun x=>decide (x=e)).length
theorem abp{x e:E3}(h:es[k]? = some x):iC (es.take (k+1)) e=iC (es.take k) e+if x=e then 1 else 0:=by
 unfold iC;rw[bY h,List.filter_append,a_];by_cases hx:x=e <;> simp[hx]
theorem ao9{e:E3}:iC es e≤es.length:=List.length_filter_le _ _
theorem ac5{is:List α}{i:α}(h:is[k]? = some i):is.set k i=is:=by
 apply gj;intro j;rw[jj];split
 · rename_i e
   subst e;rw[if_pos (ap.1 h).1,h]
 · rfl
theorem Lo{α:Type}:∀(l:List α) (j:Nat) (x:α),l[j]? = some x→(x::l.eraseIdx j).Perm l
 | [],j,x,h=>by cases h
 | y::l,0,x,h=>by cases h;exact .refl _
 | y::l,j+1,x,h=>((List.Perm.swap y x _)).trans ((Lo l j x h).cons y)
theorem Mem.pull{w0:aj}{is:List It}(m:Mem w0 w is)(j:Nat){x:It}(hj:is[j]? = some x):Mem w0 w (x::is.eraseIdx j):=by
 have hp:=Lo is j x hj;exact⟨m.ext,fun i hi=>m.all i (hp.mem_iff.1 hi),fun i hi=>m.ge i (hp.mem_iff.1 hi),(hp.pairwise_iff (fun {a b} (h:Ap a b)=>h.symm)).2 m.nd⟩
theorem Mem.mv{w0:aj}{is:List It}{y:It}(m:Mem w0 w (y::is))(k:Nat){x:It}(hk:is[k]? = some x):Mem w0 w (is.set k y):=by
 obtain⟨h1,h2⟩:=bu.1 m.nd;have hm:∀i∈is.set k y,i∈y::is:=fun i hi=>(List.mem_or_eq_of_mem_set hi).elim (bg _) (fun e=>e▸bh);exact⟨m.ext,fun i hi=>m.all i (hm i hi),fun i hi=>m.ge i (hm i hi),ac1 is k h2 hk fun x hx _=>h1 x hx⟩
theorem dM{a:α}{l:List α}:(a::l).eraseIdx 0=l:=rfl
theorem dN{a:α}{l:List α}  : (a::l).eraseIdx (n+1)=a::l.eraseIdx n:=rfl
def SL(E:av)(c:Nat)(cs:List ai)(n:Nat)(w:aj)(v:ai)(w':aj):Prop:=∃A cap n',n'=n∧v=.slice A n' cap∧Ow w w' [] E c A n' cap cs
/-! ### Points put into a sorted list -/
def abq(ps:List P3)(p:P3):Nat:=(ps.takeWhile fun x=>decide (x.Lt p)).length
def iD(ps:List P3)(p:P3):List P3:=if ps[abq ps p]? = some p then ps else ps.take (abq ps p)++[p]++ps.drop (abq ps p)
def bM(ts:List T3):List P3:=ts.foldl (fun ps t=>iD (iD (iD ps t.a) t.b) t.c) []
theorem Iv{ts:List T3}{t:T3}(h:ts[k]? = some t):bM (ts.take (k+1))=iD (iD (iD (bM (ts.take k)) t.a) t.b) t.c:=by
 unfold bM;rw[bY h,gl];rfl
theorem xV(ps:List P3)(p:P3):(iD ps p).length≤ps.length+1:=by
 unfold iD;split
 · omega
 · simp;omega
theorem rZ(ts:List T3):(bM ts).length≤ts.length*3:=by
 have:∀(ts:List T3) (ps:List P3),(ts.foldl (fun ps t=>iD (iD (iD ps t.a) t.b) t.c) ps).length≤ps.length+ts.length*3:=by
  intro ts
  induction ts with
  | nil=>intro ps;simp
  | cons t ts ih =>
   intro ps;have h1:=ih (iD (iD (iD ps t.a) t.b) t.c);have h2:=xV ps t.a;have h3:=xV (iD ps t.a) t.b;have h4:=xV (iD (iD ps t.a) t.b) t.c;rw[jv,ay];omega
 have:=this ts [];simpa[bM] using this
section
variable {α:Type} {p:α→Bool} {l:List α} {k:Nat}
theorem an3(h:∀j x,j<k→l[j]? = some x→p x=true)(hk:k≤l.length):k≤(l.takeWhile p).length:=by
 induction l generalizing k with
 | nil=>simp at hk;omega
 | cons x l ih =>
  cases k with
  | zero=>omega
  | succ k =>
   have hx:=h 0 x (by omega) rfl;rw[lk,if_pos hx,ay];have:=ih (k:=k) (fun j y hj hy=>h (j+1) y (by omega) (by simpa using hy)) (by simp at hk;omega);omega
theorem arL{x:α}(hx:l[k]? = some x)(h:p x=false):(l.takeWhile p).length≤k:=by
 induction l generalizing k with
 | nil=>cases hx
 | cons y l ih =>
  rw[lk];split
  · cases k with
    | zero =>
     rename_i hy;cases hx;rw[h] at hy;cases hy
    | succ k =>
     rw[ay];have:=ih (k:=k) (by simpa using hx);omega
  · simp
theorem apa:(l.takeWhile p).length≤l.length:=(List.takeWhile_sublist p).length_le
theorem an4{x:α}(h:∀j x,j<k→l[j]? = some x→p x=true)(hx:l[k]? = some x)(h2:p x=false):(l.takeWhile p).length=k:=pz (arL hx h2) (an3 h (Nat.le_of_lt (ap.1 hx).1))
theorem ah4(h:∀j x,j<l.length→l[j]? = some x→p x=true):(l.takeWhile p).length=l.length:=pz apa (an3 h (ao _))
def Pre(p:α→Bool)(l:List α)(k:Nat):Prop:=∀j x,j<k→l[j]? = some x→p x=true
theorem Pre.zero:Pre p l 0:=fun j _ hj=>by omega
theorem Pre.step{x:α}(h:Pre p l k)(hx:l[k]? = some x)(hp:p x=true):Pre p l (k+1):=fun j y hj hy=>by
 rcases fp j k with h1 | h1
 · exact h j y h1 hy
 · obtain rfl:j=k:=by omega
   rw[hx] at hy;cases hy;exact hp
end
/-! ### The border -/
def ltE(a b:E3):Bool:=if a.1≠b.1 then decide (a.1.Lt b.1) else decide (a.2.Lt b.2)
def af8(es:List E3)(e:E3):Nat:=(es.takeWhile fun x=>ltE x e).length
def ac6(es:List E3)(e:E3):List E3:=es.take (af8 es e)++[e]++es.drop (af8 es e)
def pW(all:List E3)(out:List E3)(e:E3):List E3:=if 0<iC all (e.2,e.1)∨0<iC out e then out else ac6 out e
def aY(ts:List T3):List E3:=(aQ ts).foldl (pW (aQ ts)) []
theorem af9{all:List E3}{e:E3}(h:es[k]? = some e):(es.take (k+1)).foldl (pW all) []=pW all ((es.take k).foldl (pW all) []) e:=by
 rw[bY h,gl];rfl
theorem Rp{all:List E3}:∀(es out:List E3),(es.foldl (pW all) out).length≤out.length+es.length
 | [],out=>by simp
 | e::es,out=>by
  have h1:=Rp (all:=all) es (pW all out e);have h2:(pW all out e).length≤out.length+1:=by
   unfold pW ac6;split
   · omega
   · simp;omega
  rw[jv,ay];omega
/-! ### Pinched corners -/
def T3.fnd(t:T3)(p q:P3):Option P3:=if t.a=p∧t.b=q then some t.c else if t.b=p∧t.c=q then some t.a else if t.c=p∧t.a=q then some t.b else none
variable{ts ms:List T3}{t:T3}
def bR:List T3→P3→P3→Option P3
 | [],_,_=>none
 | t::ts,p,q=>match t.fnd p q with
  | some x=>some x
  | none=>bR ts p q
theorem wI{p:P3}(h:ts[k]? = some t)(h0:bR (ts.take k) p q=none):bR (ts.take (k+1)) p q=t.fnd p q:=by
 rw[bY h];clear h;generalize ts.take k=us at h0 ⊢
 induction us with
 | nil=>simp only[bt,bR];cases t.fnd p q <;> rfl
 | cons u us ih =>
  rw[cg];simp only[bR] at h0 ⊢;cases hu:u.fnd p q with
  | some x=>rw[hu] at h0;cases h0
  | none=>rw[hu] at h0;exact ih h0
theorem Da{p:P3}(h:bR (ts.take k) p q=some x):bR ts p q=some x:=by
 induction ts generalizing k with
 | nil=>simp[bR] at h
 | cons u us ih =>
  cases k with
  | zero=>simp[bR] at h
  | succ k =>
   rw[li] at h;unfold bR at h ⊢;cases hu:u.fnd p q with
   | some y=>rw[hu] at h;exact h
   | none=>rw[hu] at h;exact ih h
def Rq(p:P3)(t:T3)(c:Nat):List T3:=if t.cor c=p then [t] else []
def xW(p:P3)(t:T3)(c:Nat):List T3:=(c_ c).flatMap (Rq p t)
def oE(ts:List T3)(p:P3):List T3:=ts.flatMap fun t=>xW p t 3
def Rr(p:P3)(t:T3)(c:Nat):List P3:=if t.cor c=p then [t.cor ((c+1)%3)] else []
def Db(p:P3)(t:T3)(c:Nat):List P3:=(c_ c).flatMap (Rr p t)
def vA(ts:List T3)(p:P3):List P3:=ts.flatMap fun t=>Db p t 3
theorem Rs(p:P3)(t:T3)(c:Nat):xW p t (c+1)=xW p t c++Rq p t c:=by simp[xW,gw]
theorem Nu(p:P3)(t:T3)(c:Nat):Db p t (c+1)=Db p t c++Rr p t c:=by simp[Db,gw]
theorem aga{p:P3}(h:ts[k]? = some t):oE (ts.take (k+1)) p=oE (ts.take k) p++xW p t 3:=by
 unfold oE;rw[bY h,aw];simp
theorem ac7{p:P3}(h:ts[k]? = some t):vA (ts.take (k+1)) p=vA (ts.take k) p++Db p t 3:=by
 unfold vA;rw[bY h,aw];simp
def Gk(ts:List T3)(p:P3)(k:Nat)(t:T3)(c:Nat):List T3:=oE (ts.take k) p++xW p t c
def xF(ts:List T3)(p:P3)(k:Nat)(t:T3)(c:Nat):List P3:=vA (ts.take k) p++Db p t c
theorem agb{p:P3}(h:t.cor c=p):Gk ts p k t (c+1)=Gk ts p k t c++[t]:=by
 unfold Gk;rw[Rs,Rq,if_pos h,da]
theorem ah5{p:P3}(h:¬t.cor c=p):Gk ts p k t (c+1)=Gk ts p k t c:=by
 unfold Gk;rw[Rs,Rq,if_neg h,eo]
theorem ac8{p:P3}(h:t.cor c=p):xF ts p k t (c+1)=xF ts p k t c++[t.cor ((c+1)%3)]:=by
 unfold xF;rw[Nu,Rr,if_pos h,da]
theorem agc{p:P3}(h:¬t.cor c=p):xF ts p k t (c+1)=xF ts p k t c:=by
 unfold xF;rw[Nu,Rr,if_neg h,eo]
theorem alR{p:P3}   : Gk ts p k t 0=oE (ts.take k) p:=by simp[Gk,xW]
theorem ah6{p:P3}   : xF ts p k t 0=vA (ts.take k) p:=by simp[xF,Db]
theorem alS{p:P3}(h:ts[k]? = some t):Gk ts p k t 3=oE (ts.take (k+1)) p:=by rw[aga h];rfl
theorem ah7{p:P3}(h:ts[k]? = some t):xF ts p k t 3=vA (ts.take (k+1)) p:=by rw[ac7 h];rfl
theorem Ab  : (x.x=y.x∧x.y=y.y∧x.z=y.z)↔x=y:=⟨fun h=>P3.eq h.1 h.2.1 h.2.2,fun h=>by rw[h];exact⟨rfl,rfl,rfl⟩⟩
theorem Pq{v:P3}:(decide (x.x=y.x∧x.y=y.y∧x.z=y.z)&&decide (u.x=v.x∧u.y=v.y∧u.z=v.z))=true↔x=y∧u=v:=by
 rw[ba,decide_eq_true_eq,decide_eq_true_eq,Ab,Ab]
theorem ac9{v:P3}(h:(decide (x.x=y.x∧x.y=y.y∧x.z=y.z)&&decide (u.x=v.x∧u.y=v.y∧u.z=v.z))=false):¬(x=y∧u=v):=fun k=>by
 rw[Pq.2 k] at h;cases h
theorem atn{p:P3}(h:t.cor 0=p∧t.cor 1=q):t.fnd p q=some (t.cor 2):=if_pos h
theorem ato{p:P3}(h0:¬(t.cor 0=p∧t.cor 1=q))(h:t.cor 1=p∧t.cor 2=q):t.fnd p q=some (t.cor 0):=(if_neg h0).trans (if_pos h)
theorem atp{p:P3}(h0:¬(t.cor 0=p∧t.cor 1=q))(h1:¬(t.cor 1=p∧t.cor 2=q))(h:t.cor 2=p∧t.cor 0=q):t.fnd p q=some (t.cor 1):=(if_neg h0).trans ((if_neg h1).trans (if_pos h))
theorem atq{p:P3}(h0:¬(t.cor 0=p∧t.cor 1=q))(h1:¬(t.cor 1=p∧t.cor 2=q))(h2:¬(t.cor 2=p∧t.cor 0=q)):t.fnd p q=none:=(if_neg h0).trans ((if_neg h1).trans (if_neg h2))
def oF(ms:List T3)(p s:P3):Nat→P3→Bool
 | 0,_=>false
 | n+1,at_=>match bR ms p at_ with
  | none=>false
  | some x=>if x=s then true else oF ms p s n x
theorem Wj{p:P3}(h:bR ms p x=none):oF ms p s n x=false:=by
 cases n with
 | zero=>rfl
 | succ n=>simp only[oF,h]
theorem abr{p:P3}(h:bR ms p x=some s):oF ms p s (n+1) x=true:=by simp[oF,h]
theorem Wk{p:P3}(h:bR ms p x=some y)(hy:¬y=s):oF ms p s (n+1) x=oF ms p s n y:=by simp[oF,h,hy]
def Dd(ts:List T3)(p:P3):Bool:=(vA ts p).any fun s=>oF (oE ts p) p s ((oE ts p).length-1) s
def oG(t:T3):Bool:=decide (t.a=t.b)||decide (t.b=t.c)||decide (t.c=t.a)
theorem Lp  : (decide (t.a.x=t.b.x∧t.a.y=t.b.y∧t.a.z=t.b.z)||decide (t.b.x=t.c.x∧t.b.y=t.c.y∧t.b.z=t.c.z)||decide (t.c.x=t.a.x∧t.c.y=t.a.y∧t.c.z=t.a.z))=oG t:=by
 simp only[Ab,oG]
def dC(op:Bool)(ts:List T3):Int :=
 if ts.any oG then 20 else if (aQ ts).any (fun e=>decide (1<iC (aQ ts) e)) then 21
 else if !op&&decide (0<(aY ts).length) then 22 else if (bM ts).any (Dd ts) then 23 else 0
theorem pX{p:α→Bool}{l:List α}{x:α}(hx:l[k]? = some x):(l.take (k+1)).any p=((l.take k).any p||p x):=by
 rw[bY hx,List.any_append];simp
theorem wJ{p:α→Bool}{l:List α}{x:α}(hx:l[k]? = some x)(h:p x=true):l.any p=true:=ew.2 ⟨x,bj hx,h⟩
end Go.Lith
namespace Go.Proofs.YtfekpcimgncioaaGreatDoor
open Go.Proofs.Tryz
open Go.RowKit Go.Lith
variable{v0 v1 v2 A B C D E F G H I:ai}{l:List ai}{ty T':av}{x0 x1 x2 x3 y0 y1 y2 y3 x4 y4 x5 y5 x6 y6 x7 y7 x8 y8:Int}{x y:bz}
abbrev nU:=@underlying107
abbrev Ac:=@underlying112
abbrev vB:=@underlying215
abbrev nV:=@underlying218
abbrev nW:=@underlying231
abbrev bL:=@underlying27
abbrev lA:=@underlying3
abbrev vC:=@underlying30
abbrev sA:=@underlying36
abbrev cT:=@underlying39
abbrev Vc:=@underlying4
abbrev xX:=@underlying46
abbrev lT:=@underlying52
abbrev Nv:=@underlying56
abbrev eK:=@underlying65
abbrev sB:=@underlying9
abbrev Rt:=@underlying93
abbrev Nw:=@underlying97
abbrev Ru:=@underlying99
set_option maxRecDepth 100000
theorem aD:prog.follows .mixedOrders=true:=by kernel_rfl
theorem ah8:Entr prog 10:=bP func10 (by kernel_rfl)
theorem an5:Entr prog 79:=bP func79 (by kernel_rfl)
theorem aeM:Entr prog 82:=bP func82 (by kernel_rfl)
theorem ada:Entr prog 114:=bP func114 (by kernel_rfl)
theorem ah9:Entr prog 119:=bP func119 (by kernel_rfl)
theorem aia:Entr prog 125:=bP func125 (by kernel_rfl)
theorem adb:Entr prog 128:=bP func128 (by kernel_rfl)
theorem aib:Entr prog 129:=bP func129 (by kernel_rfl)
theorem aic:Entr prog 195:=bP func195 (by kernel_rfl)
theorem Zo:Entr prog 235:=bP func235 (by kernel_rfl)
theorem aid:Entr prog 276:=bP func276 (by kernel_rfl)
theorem aie:Entr prog 277:=bP func277 (by kernel_rfl)
theorem aif:Entr prog 278:=bP func278 (by kernel_rfl)
theorem adc:Entr prog 336:=bP func336 (by kernel_rfl)
theorem aig:Entr prog 337:=bP func337 (by kernel_rfl)
theorem bD:dH prog 3 1:=dS (by kernel_rfl)
theorem cC:eX prog 3 false:=dJ _ lA rfl
theorem lX:oS prog 3 (.int .i64 0):=lD (by kernel_rfl)
theorem aih:(prog.info? 3).map (fun i=>(i.size,i.bytes,i.zero))=some (1,8,some (.int .i64 0)):=by kernel_rfl
theorem dT:dH prog 4 1:=dS (by kernel_rfl)
theorem oH:eX prog 4 false:=dJ _ Vc rfl
theorem oW:oS prog 4 (.bool false):=lD (by kernel_rfl)
theorem aii:(prog.info? 4).map (fun i=>(i.size,i.bytes,i.zero))=some (1,1,some (.bool false)):=by kernel_rfl
theorem arM:(prog.info? 5).map (fun i=>(i.size,i.bytes,i.zero))=some (1,1,some (.int .u8 0)):=by kernel_rfl
theorem alT:dH prog 9 1:=dS (by kernel_rfl)
theorem an6:eX prog 9 false:=dJ _ sB rfl
theorem aij:eX prog 24 true:=dJ _ underlying24 rfl
theorem gZ:dH prog 27 1:=dS (by kernel_rfl)
theorem sP:eX prog 27 false:=dJ _ bL rfl
theorem aeN:oS prog 27 (.slice none 0 0):=lD (by kernel_rfl)
theorem aA:dH prog 30 3:=dS (by kernel_rfl)
theorem aH:eX prog 30 true:=dJ _ vC rfl
theorem iQ:oS prog 30 (.agg #[.int .i64 0,.int .i64 0,.int .i64 0]):=lD (by kernel_rfl)
theorem qY:(prog.info? 30).map (fun i=>(i.size,i.bytes,i.zero))=some (3,24,some (.agg #[.int .i64 0,.int .i64 0,.int .i64 0])):=by kernel_rfl
theorem Iy:dH prog 36 3:=dS (by kernel_rfl)
theorem Zp:eX prog 36 true:=dJ _ sA rfl
theorem alU:oS prog 36 (.agg #[.int .i64 0,.int .i64 0,.int .i64 0]):=lD (by kernel_rfl)
theorem aik:dH prog 38 9:=dS (by kernel_rfl)
theorem apb:eX prog 38 true:=dJ _ underlying38 rfl
theorem aO:dH prog 39 9:=dS (by kernel_rfl)
theorem cK:eX prog 39 true:=dJ _ cT rfl
theorem aeO:oS prog 39 (.agg #[.int .i64 0,.int .i64 0,.int .i64 0,.int .i64 0,.int .i64 0,.int .i64 0,.int .i64 0,.int .i64 0,.int .i64 0]):=lD (by kernel_rfl)
theorem gR:(prog.info? 39).map (fun i=>(i.size,i.bytes,i.zero))=some (9,72,some (.agg #[.int .i64 0,.int .i64 0,.int .i64 0,.int .i64 0,.int .i64 0,.int .i64 0,.int .i64 0,.int .i64 0,.int .i64 0])):=by kernel_rfl
theorem mD:dH prog 55 6:=dS (by kernel_rfl)
theorem ail:eX prog 55 true:=dJ _ underlying55 rfl
theorem alV:oS prog 55 (.agg #[.int .i64 0,.int .i64 0,.int .i64 0,.int .i64 0,.int .i64 0,.int .i64 0]):=lD (by kernel_rfl)
theorem aim:(prog.info? 55).map (fun i=>(i.size,i.bytes,i.zero))=some (6,48,some (.agg #[.int .i64 0,.int .i64 0,.int .i64 0,.int .i64 0,.int .i64 0,.int .i64 0])):=by kernel_rfl
theorem eP:dH prog 56 6:=dS (by kernel_rfl)
theorem vD:eX prog 56 true:=dJ _ Nv rfl
theorem Ad:(prog.info? 56).map (fun i=>(i.size,i.bytes,i.zero))=some (6,48,some (.agg #[.int .i64 0,.int .i64 0,.int .i64 0,.int .i64 0,.int .i64 0,.int .i64 0])):=by kernel_rfl
theorem ain:dH prog 62 1:=dS (by kernel_rfl)
theorem aio:dH prog 65 1:=dS (by kernel_rfl)
theorem aip:eX prog 65 false:=dJ _ eK rfl
theorem Rv:dH prog 88 1:=dS (by kernel_rfl)
theorem Zq:eX prog 88 false:=dJ _ underlying88 rfl
theorem aiq:eX prog 93 false:=dJ _ Rt rfl
theorem aV:dH prog 95 2:=dS (by kernel_rfl)
theorem eN:eX prog 95 true:=dJ _ underlying95 rfl
theorem Zr:oS prog 95 (.agg #[.bool false,.string ⟨#[]⟩]):=lD (by kernel_rfl)
theorem kR:dH prog 97 20:=dS (by kernel_rfl)
theorem Ae:eX prog 97 true:=dJ _ Nw rfl
theorem alW:oS prog 97 (.agg #[.bool false,.string ⟨#[]⟩,.bool false,.string ⟨#[]⟩,.bool false,.string ⟨#[]⟩,.bool false,.string ⟨#[]⟩,.bool false,.string ⟨#[]⟩,.bool false,.string ⟨#[]⟩,.bool false,.string ⟨#[]⟩,.bool false,.string ⟨#[]⟩,.bool false,.string ⟨#[]⟩,.bool false,.string ⟨#[]⟩]):=lD (by kernel_rfl)
theorem apc:eX prog 99 false:=dJ _ Ru rfl
theorem aeP:eX prog 106 false:=dJ _ underlying106 rfl
theorem Fa:dH prog 107 1:=dS (by kernel_rfl)
theorem tW:eX prog 107 false:=dJ _ nU rfl
theorem qZ:dH prog 112 8:=dS (by kernel_rfl)
theorem Iz:eX prog 112 true:=dJ _ Ac rfl
theorem air:oS prog 112 (.agg #[.int .i64 0,.int .i64 0,.int .i64 0,.int .i64 0,.int .i64 0,.int .i64 0,.bool false,.string ⟨#[]⟩]):=lD (by kernel_rfl)
theorem alX:(prog.info? 112).map (fun i=>(i.size,i.bytes,i.zero))=some (8,72,some (.agg #[.int .i64 0,.int .i64 0,.int .i64 0,.int .i64 0,.int .i64 0,.int .i64 0,.bool false,.string ⟨#[]⟩])):=by kernel_rfl
theorem Lr:dH prog 139 2:=dS (by kernel_rfl)
theorem alY:eX prog 139 true:=dJ _ underlying139 rfl
theorem Rw:oS prog 139 (.agg #[.int .i64 0,.slice none 0 0]):=lD (by kernel_rfl)
theorem agd:dH prog 168 8:=dS (by kernel_rfl)
theorem abt:oS prog 168 (.agg #[.bool false,.string ⟨#[]⟩,.bool false,.string ⟨#[]⟩,.bool false,.string ⟨#[]⟩,.bool false,.string ⟨#[]⟩]):=lD (by kernel_rfl)
theorem rA:dH prog 215 6:=dS (by kernel_rfl)
theorem Fb:eX prog 215 true:=dJ _ vB rfl
theorem alZ:(prog.info? 215).map (fun i=>(i.size,i.bytes,i.zero))=some (6,48,some (.agg #[.int .i64 0,.int .i64 0,.int .i64 0,.int .i64 0,.int .i64 0,.int .i64 0])):=by kernel_rfl
theorem ais:oS prog 218 (.agg #[.pointer none,.int .i64 0,.int .i64 0,.int .i64 0,.int .i64 0,.int .i64 0,.int .i64 0,.map none,.map none,.slice none 0 0,.slice none 0 0,.slice none 0 0]):=lD (by kernel_rfl)
theorem Wl:dH prog 222 6:=dS (by kernel_rfl)
theorem aeQ:eX prog 222 true:=dJ _ underlying222 rfl
theorem Ls:dH prog 229 8:=dS (by kernel_rfl)
theorem aeR:eX prog 229 true:=dJ _ underlying229 rfl
theorem cI:dH prog 231 1:=dS (by kernel_rfl)
theorem lY:eX prog 231 false:=dJ _ nW rfl
theorem Ja:(prog.info? 231).map (fun i=>(i.size,i.bytes,i.zero))=some (1,8,some (.int .u64 0)):=by kernel_rfl
theorem Fc:dH prog 242 1:=dS (by kernel_rfl)
theorem Zs:eX prog 242 false:=dJ _ underlying242 rfl
theorem Lu:dH prog 243 3:=dS (by kernel_rfl)
theorem aeS:eX prog 243 true:=dJ _ underlying243 rfl
theorem abu:oS prog 243 (.agg #[.nilFunc,.nilFunc,.nilFunc]):=lD (by kernel_rfl)
theorem Wm:dH prog 257 6:=dS (by kernel_rfl)
theorem al0:eX prog 257 true:=dJ _ underlying257 rfl
theorem Wn:dH prog 273 6:=dS (by kernel_rfl)
theorem aeT:eX prog 273 true:=dJ _ underlying273 rfl
theorem age:dH prog 280 18:=dS (by kernel_rfl)
theorem al3:eX prog 280 true:=dJ _ underlying280 rfl
theorem agf:dH prog 300 1:=dS (by kernel_rfl)
theorem al4:eX prog 300 false:=dJ _ underlying300 rfl
theorem ait:oS prog 300 (.slice none 0 0):=lD (by kernel_rfl)
theorem Wo:dH prog 333 3:=dS (by kernel_rfl)
theorem aeU:eX prog 333 true:=dJ _ underlying333 rfl
theorem agh(w:aj):((#[{ name := "X", type:=3,offset:=0,embedded:=false,tag := "", pkgPath := "", byteOffset:=0 },{ name := "Y", type:=3,offset:=1,embedded:=false,tag := "", pkgPath := "", byteOffset:=8 },{ name := "Z", type:=3,offset:=2,embedded:=false,tag := "", pkgPath := "", byteOffset:=16 }]:Array Field).mapM fun f=>do pure (f.offset,←sizeOf f.type):Sem (Array (Nat × Nat))).run prog w=.ok #[(0,1),(1,1),(2,1)] w:=by
 simp[ip,eC bD]
theorem ade(h0:v0.cells = #[A])(h1:v1.cells = #[B])(h2:v2.cells = #[C])(w:aj):(Instr.build 30 #[(0,v0),(1,v1),(2,v2)]).run prog w=.ok (.agg #[A,B,C]) w:=iL vC iQ agh (by simp[Instr.fill,nK,h0,h1,h2]) w
theorem xY{x0 x1 x2:bz}(h0:(ev l x0).cells = #[A])(h1:(ev l x1).cells = #[B])(h2:(ev l x2).cells = #[C]):iB prog l (.build 30 #[(0,x0),(1,x1),(2,x2)]) ty (.agg #[A,B,C]):=rK (vs:=#[(0,ev l x0),(1,ev l x1),(2,ev l x2)]) (by simp) fun w=>ade h0 h1 h2 w
theorem adf(h0:v0.cells = #[A,B,C])(h1:v1.cells = #[D,E,F])(h2:v2.cells = #[G,H,I])(w:aj):(Instr.build 39 #[(0,v0),(1,v1),(2,v2)]).run prog w=.ok (.agg #[A,B,C,D,E,F,G,H,I]) w:=oO cT aeO aA (by simp[Instr.fill,nK,h0,h1,h2]) w
theorem lI{x0 x1 x2:bz}(h0:(ev l x0).cells = #[A,B,C])(h1:(ev l x1).cells = #[D,E,F])(h2:(ev l x2).cells = #[G,H,I]):iB prog l (.build 39 #[(0,x0),(1,x1),(2,x2)]) ty (.agg #[A,B,C,D,E,F,G,H,I]):=rK (vs:=#[(0,ev l x0),(1,ev l x1),(2,ev l x2)]) (by simp) fun w=>adf h0 h1 h2 w
theorem agi(w:aj):((#[{ name := "From", type:=30,offset:=0,embedded:=false,tag := "", pkgPath := "", byteOffset:=0 },{ name := "To", type:=30,offset:=3,embedded:=false,tag := "", pkgPath := "", byteOffset:=24 }]:Array Field).mapM fun f=>do pure (f.offset,←sizeOf f.type):Sem (Array (Nat × Nat))).run prog w=.ok #[(0,3),(3,3)] w:=by
 simp[ip,eC aA]
theorem aiu(h0:v0.cells = #[A,B,C])(h1:v1.cells = #[D,E,F])(w:aj):(Instr.build 55 #[(0,v0),(1,v1)]).run prog w=.ok (.agg #[A,B,C,D,E,F]) w:=iL underlying55 alV agi (by simp[Instr.fill,nK,h0,h1]) w
theorem De{x0 x1:bz}(h0:(ev l x0).cells = #[A,B,C])(h1:(ev l x1).cells = #[D,E,F]):iB prog l (.build 55 #[(0,x0),(1,x1)]) ty (.agg #[A,B,C,D,E,F]):=rK (vs:=#[(0,ev l x0),(1,ev l x1)]) (by simp) fun w=>aiu h0 h1 w
theorem agj(w:aj):((#[{ name := "Neg", type:=4,offset:=0,embedded:=false,tag := "", pkgPath := "", byteOffset:=0 },{ name := "Mag", type:=9,offset:=1,embedded:=false,tag := "", pkgPath := "", byteOffset:=8 }]:Array Field).mapM fun f=>do pure (f.offset,←sizeOf f.type):Sem (Array (Nat × Nat))).run prog w=.ok #[(0,1),(1,1)] w:=by
 simp[ip,eC dT,eC alT]
theorem aiv(h0:v0.cells = #[A])(h1:v1.cells = #[B])(w:aj):(Instr.build 95 #[(0,v0),(1,v1)]).run prog w=.ok (.agg #[A,B]) w:=iL underlying95 Zr agj (by simp[Instr.fill,nK,h0,h1]) w
theorem Df{x0 x1:bz}(h0:(ev l x0).cells = #[A])(h1:(ev l x1).cells = #[B]):iB prog l (.build 95 #[(0,x0),(1,x1)]) ty (.agg #[A,B]):=rK (vs:=#[(0,ev l x0),(1,ev l x1)]) (by simp) fun w=>aiv h0 h1 w
theorem adg(w:aj):((#[{ name := "u", type:=30,offset:=0,embedded:=false,tag := "", pkgPath := "lithophane/collapse", byteOffset:=0 },{ name := "v", type:=30,offset:=3,embedded:=false,tag := "", pkgPath := "lithophane/collapse", byteOffset:=24 },{ name := "cost", type:=95,offset:=6,embedded:=false,tag := "", pkgPath := "lithophane/collapse", byteOffset:=48 }]:Array Field).mapM fun f=>do pure (f.offset,←sizeOf f.type):Sem (Array (Nat × Nat))).run prog w=.ok #[(0,3),(3,3),(6,2)] w:=by
 simp[ip,eC aA,eC aV]
theorem abv(h0:v0.cells = #[A,B,C])(h1:v1.cells = #[D,E,F])(h2:v2.cells = #[G,H])(w:aj):(Instr.build 112 #[(0,v0),(1,v1),(2,v2)]).run prog w=.ok (.agg #[A,B,C,D,E,F,G,H]) w:=iL Ac air adg (by simp[Instr.fill,nK,h0,h1,h2]) w
theorem Jb{x0 x1 x2:bz}(h0:(ev l x0).cells = #[A,B,C])(h1:(ev l x1).cells = #[D,E,F])(h2:(ev l x2).cells = #[G,H]):iB prog l (.build 112 #[(0,x0),(1,x1),(2,x2)]) ty (.agg #[A,B,C,D,E,F,G,H]):=rK (vs:=#[(0,ev l x0),(1,ev l x1),(2,ev l x2)]) (by simp) fun w=>abv h0 h1 h2 w
theorem adh(w:aj):((#[{ name := "Level", type:=3,offset:=0,embedded:=false,tag := "", pkgPath := "", byteOffset:=0 },{ name := "In", type:=62,offset:=1,embedded:=false,tag := "", pkgPath := "", byteOffset:=8 }]:Array Field).mapM fun f=>do pure (f.offset,←sizeOf f.type):Sem (Array (Nat × Nat))).run prog w=.ok #[(0,1),(1,1)] w:=by
 simp[ip,eC bD,eC ain]
theorem agk(h0:v0.cells = #[A])(h1:v1.cells = #[B])(w:aj):(Instr.build 139 #[(0,v0),(1,v1)]).run prog w=.ok (.agg #[A,B]) w:=iL underlying139 Rw adh (by simp[Instr.fill,nK,h0,h1]) w
theorem Bo{x0 x1:bz}(h0:(ev l x0).cells = #[A])(h1:(ev l x1).cells = #[B]):iB prog l (.build 139 #[(0,x0),(1,x1)]) ty (.agg #[A,B]):=rK (vs:=#[(0,ev l x0),(1,ev l x1)]) (by simp) fun w=>agk h0 h1 w
theorem Vd{v3:ai}(h0:v0.cells = #[A,B])(h1:v1.cells = #[C,D])(h2:v2.cells = #[E,F])(h3:v3.cells = #[G,H])(w:aj):(Instr.build 168 #[(0,v0),(1,v1),(2,v2),(3,v3)]).run prog w=.ok (.agg #[A,B,C,D,E,F,G,H]) w:=oO underlying168 abt aV (by simp[Instr.fill,nK,h0,h1,h2,h3]) w
theorem Fu{x0 x1 x2 x3:bz}(h0:(ev l x0).cells = #[A,B])(h1:(ev l x1).cells = #[C,D])(h2:(ev l x2).cells = #[E,F])(h3:(ev l x3).cells = #[G,H]):iB prog l (.build 168 #[(0,x0),(1,x1),(2,x2),(3,x3)]) ty (.agg #[A,B,C,D,E,F,G,H]):=rK (vs:=#[(0,ev l x0),(1,ev l x1),(2,ev l x2),(3,ev l x3)]) (by simp) fun w=>Vd h0 h1 h2 h3 w
theorem adi(w:aj):((#[{ name := "surface", type:=88,offset:=0,embedded:=true,tag := "", pkgPath := "lithophane/collapse", byteOffset:=0 },{ name := "u", type:=30,offset:=1,embedded:=false,tag := "", pkgPath := "lithophane/collapse", byteOffset:=8 },{ name := "v", type:=30,offset:=4,embedded:=false,tag := "", pkgPath := "lithophane/collapse", byteOffset:=32 },{ name := "x", type:=107,offset:=7,embedded:=false,tag := "", pkgPath := "lithophane/collapse", byteOffset:=56 },{ name := "y", type:=107,offset:=8,embedded:=false,tag := "", pkgPath := "lithophane/collapse", byteOffset:=64 },{ name := "moved", type:=27,offset:=9,embedded:=false,tag := "", pkgPath := "lithophane/collapse", byteOffset:=72 },{ name := "old", type:=27,offset:=10,embedded:=false,tag := "", pkgPath := "lithophane/collapse", byteOffset:=96 },{ name := "rest", type:=27,offset:=11,embedded:=false,tag := "", pkgPath := "lithophane/collapse", byteOffset:=120 }]:Array Field).mapM fun f=>do pure (f.offset,←sizeOf f.type):Sem (Array (Nat × Nat))).run prog w=.ok #[(0,1),(1,3),(4,3),(7,1),(8,1),(9,1),(10,1),(11,1)] w:=by
 simp[ip,eC Fa,eC gZ,eC aA,eC Rv]
theorem Pb{v3 v4:ai}(h0:v0.cells = #[A])(h1:v1.cells = #[B,C,D])(h2:v2.cells = #[E,F,G])(h3:v3.cells = #[H])(h4:v4.cells = #[I])(w:aj):(Instr.build 218 #[(0,v0),(1,v1),(2,v2),(3,v3),(4,v4)]).run prog w=.ok (.agg #[A,B,C,D,E,F,G,H,I,(.slice none 0 0),(.slice none 0 0),(.slice none 0 0)]) w:=iL nV ais adi (by simp[Instr.fill,nK,h0,h1,h2,h3,h4]) w
theorem Bt{x0 x1 x2 x3 x4:bz}(h0:(ev l x0).cells = #[A])(h1:(ev l x1).cells = #[B,C,D])(h2:(ev l x2).cells = #[E,F,G])(h3:(ev l x3).cells = #[H])(h4:(ev l x4).cells = #[I]):iB prog l (.build 218 #[(0,x0),(1,x1),(2,x2),(3,x3),(4,x4)]) ty (.agg #[A,B,C,D,E,F,G,H,I,(.slice none 0 0),(.slice none 0 0),(.slice none 0 0)]):=rK (vs:=#[(0,ev l x0),(1,ev l x1),(2,ev l x2),(3,ev l x3),(4,ev l x4)]) (by simp) fun w=>Pb h0 h1 h2 h3 h4 w
theorem abw(h0:v0.cells = #[A])(h1:v1.cells = #[B])(h2:v2.cells = #[C])(w:aj):(Instr.build 243 #[(0,v0),(1,v1),(2,v2)]).run prog w=.ok (.agg #[A,B,C]) w:=oO underlying243 abu Fc (by simp[Instr.fill,nK,h0,h1,h2]) w
theorem Jc{x0 x1 x2:bz}(h0:(ev l x0).cells = #[A])(h1:(ev l x1).cells = #[B])(h2:(ev l x2).cells = #[C]):iB prog l (.build 243 #[(0,x0),(1,x1),(2,x2)]) ty (.agg #[A,B,C]):=rK (vs:=#[(0,ev l x0),(1,ev l x1),(2,ev l x2)]) (by simp) fun w=>abw h0 h1 h2 w
theorem oX(d:Nat)    : tV prog (d+2) 30 (.agg #[.int .i64 x0,.int .i64 x1,.int .i64 x2]) (.agg #[.int .i64 y0,.int .i64 y1,.int .i64 y2]) (x0=y0∧x1=y1∧x2=y2):=(tV.struct vC (by kernel_rfl) (yZ.cons (by decide) (cW cC rfl) (cW cC rfl) (tV.int (d:=d+0) lA) (yZ.cons (by decide) (cW cC rfl) (cW cC rfl) (tV.int (d:=d+0) lA) (yZ.cons (by decide) (cW cC rfl) (cW cC rfl) (tV.int (d:=d+0) lA) yZ.nil)))).iff (by simp only[and_assoc,and_true])
theorem bZ(hx:ev l x=(.agg #[.int .i64 x0,.int .i64 x1,.int .i64 x2]))(hy:ev l y=(.agg #[.int .i64 y0,.int .i64 y1,.int .i64 y2])):iB prog l (.binOp .eql 30 x y T') ty (.bool (decide (x0=y0∧x1=y1∧x2=y2))):=Ra (by kernel_rfl) hx hy (oX 9998)
theorem iN(hx:ev l x=(.agg #[.int .i64 x0,.int .i64 x1,.int .i64 x2]))(hy:ev l y=(.agg #[.int .i64 y0,.int .i64 y1,.int .i64 y2])):iB prog l (.binOp .neq 30 x y T') ty (.bool (decide (¬(x0=y0∧x1=y1∧x2=y2)))):=Ze (by kernel_rfl) hx hy (oX 9998)
theorem apd(d:Nat)    : tV prog (d+2) 36 (.agg #[.int .i64 x0,.int .i64 x1,.int .i64 x2]) (.agg #[.int .i64 y0,.int .i64 y1,.int .i64 y2]) (x0=y0∧x1=y1∧x2=y2):=(tV.array sA bD (rY.cons (cW cC rfl) (cW cC rfl) (tV.int (d:=d+0) lA) (rY.cons (cW cC rfl) (cW cC rfl) (tV.int (d:=d+0) lA) (rY.cons (cW cC rfl) (cW cC rfl) (tV.int (d:=d+0) lA) rY.nil)))).iff (by simp only[and_assoc,and_true])
theorem Wp(hx:ev l x=(.agg #[.int .i64 x0,.int .i64 x1,.int .i64 x2]))(hy:ev l y=(.agg #[.int .i64 y0,.int .i64 y1,.int .i64 y2])):iB prog l (.binOp .eql 36 x y T') ty (.bool (decide (x0=y0∧x1=y1∧x2=y2))):=Ra (by kernel_rfl) hx hy (apd 9998)
theorem ape(d:Nat)          : tV prog (d+3) 38 (.agg #[.int .i64 x0,.int .i64 x1,.int .i64 x2,.int .i64 x3,.int .i64 x4,.int .i64 x5,.int .i64 x6,.int .i64 x7,.int .i64 x8]) (.agg #[.int .i64 y0,.int .i64 y1,.int .i64 y2,.int .i64 y3,.int .i64 y4,.int .i64 y5,.int .i64 y6,.int .i64 y7,.int .i64 y8]) (x0=y0∧x1=y1∧x2=y2∧x3=y3∧x4=y4∧x5=y5∧x6=y6∧x7=y7∧x8=y8):=(tV.array underlying38 aA (rY.cons (cS aH aA rfl) (cS aH aA rfl) (oX (d+0)) (rY.cons (cS aH aA rfl) (cS aH aA rfl) (oX (d+0)) (rY.cons (cS aH aA rfl) (cS aH aA rfl) (oX (d+0)) rY.nil)))).iff (by simp only[and_assoc,and_true])
theorem aiw(d:Nat)          : tV prog (d+3) 39 (.agg #[.int .i64 x0,.int .i64 x1,.int .i64 x2,.int .i64 x3,.int .i64 x4,.int .i64 x5,.int .i64 x6,.int .i64 x7,.int .i64 x8]) (.agg #[.int .i64 y0,.int .i64 y1,.int .i64 y2,.int .i64 y3,.int .i64 y4,.int .i64 y5,.int .i64 y6,.int .i64 y7,.int .i64 y8]) (x0=y0∧x1=y1∧x2=y2∧x3=y3∧x4=y4∧x5=y5∧x6=y6∧x7=y7∧x8=y8):=(tV.array cT aA (rY.cons (cS aH aA rfl) (cS aH aA rfl) (oX (d+0)) (rY.cons (cS aH aA rfl) (cS aH aA rfl) (oX (d+0)) (rY.cons (cS aH aA rfl) (cS aH aA rfl) (oX (d+0)) rY.nil)))).iff (by simp only[and_assoc,and_true])
theorem Wq(hx:ev l x=(.agg #[.int .i64 x0,.int .i64 x1,.int .i64 x2,.int .i64 x3,.int .i64 x4,.int .i64 x5,.int .i64 x6,.int .i64 x7,.int .i64 x8]))(hy:ev l y=(.agg #[.int .i64 y0,.int .i64 y1,.int .i64 y2,.int .i64 y3,.int .i64 y4,.int .i64 y5,.int .i64 y6,.int .i64 y7,.int .i64 y8])):iB prog l (.binOp .eql 39 x y T') ty (.bool (decide (x0=y0∧x1=y1∧x2=y2∧x3=y3∧x4=y4∧x5=y5∧x6=y6∧x7=y7∧x8=y8))):=Ra (by kernel_rfl) hx hy (aiw 9997)
theorem agl(hx:ev l x=(.agg #[.int .i64 x0,.int .i64 x1,.int .i64 x2,.int .i64 x3,.int .i64 x4,.int .i64 x5,.int .i64 x6,.int .i64 x7,.int .i64 x8]))(hy:ev l y=(.agg #[.int .i64 y0,.int .i64 y1,.int .i64 y2,.int .i64 y3,.int .i64 y4,.int .i64 y5,.int .i64 y6,.int .i64 y7,.int .i64 y8])):iB prog l (.binOp .neq 39 x y T') ty (.bool (decide (¬(x0=y0∧x1=y1∧x2=y2∧x3=y3∧x4=y4∧x5=y5∧x6=y6∧x7=y7∧x8=y8)))):=Ze (by kernel_rfl) hx hy (aiw 9997)
theorem apf(d:Nat)       : tV prog (d+3) 55 (.agg #[.int .i64 x0,.int .i64 x1,.int .i64 x2,.int .i64 x3,.int .i64 x4,.int .i64 x5]) (.agg #[.int .i64 y0,.int .i64 y1,.int .i64 y2,.int .i64 y3,.int .i64 y4,.int .i64 y5]) (x0=y0∧x1=y1∧x2=y2∧x3=y3∧x4=y4∧x5=y5):=(tV.struct underlying55 (by kernel_rfl) (yZ.cons (by decide) (cS aH aA rfl) (cS aH aA rfl) (oX (d+0)) (yZ.cons (by decide) (cS aH aA rfl) (cS aH aA rfl) (oX (d+0)) yZ.nil))).iff (by simp only[and_assoc,and_true])
theorem agm(hx:ev l x=(.agg #[.int .i64 x0,.int .i64 x1,.int .i64 x2,.int .i64 x3,.int .i64 x4,.int .i64 x5]))(hy:ev l y=(.agg #[.int .i64 y0,.int .i64 y1,.int .i64 y2,.int .i64 y3,.int .i64 y4,.int .i64 y5])):iB prog l (.binOp .neq 55 x y T') ty (.bool (decide (¬(x0=y0∧x1=y1∧x2=y2∧x3=y3∧x4=y4∧x5=y5)))):=Ze (by kernel_rfl) hx hy (apf 9997)
theorem adj(d:Nat)       : tV prog (d+3) 56 (.agg #[.int .i64 x0,.int .i64 x1,.int .i64 x2,.int .i64 x3,.int .i64 x4,.int .i64 x5]) (.agg #[.int .i64 y0,.int .i64 y1,.int .i64 y2,.int .i64 y3,.int .i64 y4,.int .i64 y5]) (x0=y0∧x1=y1∧x2=y2∧x3=y3∧x4=y4∧x5=y5):=(tV.array Nv aA (rY.cons (cS aH aA rfl) (cS aH aA rfl) (oX (d+0)) (rY.cons (cS aH aA rfl) (cS aH aA rfl) (oX (d+0)) rY.nil))).iff (by simp only[and_assoc,and_true])
theorem agn(hx:ev l x=(.agg #[.int .i64 x0,.int .i64 x1,.int .i64 x2,.int .i64 x3,.int .i64 x4,.int .i64 x5]))(hy:ev l y=(.agg #[.int .i64 y0,.int .i64 y1,.int .i64 y2,.int .i64 y3,.int .i64 y4,.int .i64 y5])):iB prog l (.binOp .eql 56 x y T') ty (.bool (decide (x0=y0∧x1=y1∧x2=y2∧x3=y3∧x4=y4∧x5=y5))):=Ra (by kernel_rfl) hx hy (adj 9997)
theorem ago(hx:ev l x=(.agg #[.int .i64 x0,.int .i64 x1,.int .i64 x2,.int .i64 x3,.int .i64 x4,.int .i64 x5]))(hy:ev l y=(.agg #[.int .i64 y0,.int .i64 y1,.int .i64 y2,.int .i64 y3,.int .i64 y4,.int .i64 y5])):iB prog l (.binOp .neq 56 x y T') ty (.bool (decide (¬(x0=y0∧x1=y1∧x2=y2∧x3=y3∧x4=y4∧x5=y5)))):=Ze (by kernel_rfl) hx hy (adj 9997)
theorem Zt(d:Nat){x0 y0:Bool}{x1 y1:ByteArray}:tV prog (d+2) 95 (.agg #[.bool x0,.string x1]) (.agg #[.bool y0,.string y1]) (x0=y0∧x1=y1):=(tV.struct underlying95 (by kernel_rfl) (yZ.cons (by decide) (cW oH rfl) (cW oH rfl) (tV.bool (d:=d+0) Vc) (yZ.cons (by decide) (cW an6 rfl) (cW an6 rfl) (tV.str (d:=d+0) sB) yZ.nil))).iff (by simp only[and_assoc,and_true])
theorem al5(d:Nat)       : tV prog (d+3) 215 (.agg #[.int .i64 x0,.int .i64 x1,.int .i64 x2,.int .i64 x3,.int .i64 x4,.int .i64 x5]) (.agg #[.int .i64 y0,.int .i64 y1,.int .i64 y2,.int .i64 y3,.int .i64 y4,.int .i64 y5]) (x0=y0∧x1=y1∧x2=y2∧x3=y3∧x4=y4∧x5=y5):=(tV.struct vB (by kernel_rfl) (yZ.cons (by decide) (cS aH aA rfl) (cS aH aA rfl) (oX (d+0)) (yZ.cons (by decide) (cS aH aA rfl) (cS aH aA rfl) (oX (d+0)) yZ.nil))).iff (by simp only[and_assoc,and_true])
theorem al6(d:Nat){x0 y0:Bool}{x1 y1:ByteArray}{x2 y2:Bool}{x3 y3:ByteArray}{x4 y4:Bool}{x5 y5:ByteArray}{x6 y6:Bool}{x7 y7:ByteArray}:tV prog (d+3) 229 (.agg #[.bool x0,.string x1,.bool x2,.string x3,.bool x4,.string x5,.bool x6,.string x7]) (.agg #[.bool y0,.string y1,.bool y2,.string y3,.bool y4,.string y5,.bool y6,.string y7]) (x0=y0∧x1=y1∧x2=y2∧x3=y3∧x4=y4∧x5=y5∧x6=y6∧x7=y7):=(tV.array underlying229 aV (rY.cons (cS eN aV rfl) (cS eN aV rfl) (Zt (d+0)) (rY.cons (cS eN aV rfl) (cS eN aV rfl) (Zt (d+0)) (rY.cons (cS eN aV rfl) (cS eN aV rfl) (Zt (d+0)) (rY.cons (cS eN aV rfl) (cS eN aV rfl) (Zt (d+0)) rY.nil))))).iff (by simp only[and_assoc,and_true])
theorem adk{x0 y0:Bool}{x1 y1:ByteArray}{x2 y2:Bool}{x3 y3:ByteArray}{x4 y4:Bool}{x5 y5:ByteArray}{x6 y6:Bool}{x7 y7:ByteArray}(hx:ev l x=(.agg #[.bool x0,.string x1,.bool x2,.string x3,.bool x4,.string x5,.bool x6,.string x7]))(hy:ev l y=(.agg #[.bool y0,.string y1,.bool y2,.string y3,.bool y4,.string y5,.bool y6,.string y7])):iB prog l (.binOp .eql 229 x y T') ty (.bool (decide (x0=y0∧x1=y1∧x2=y2∧x3=y3∧x4=y4∧x5=y5∧x6=y6∧x7=y7))):=Ra (by kernel_rfl) hx hy (al6 9997)
end Go.Proofs.YtfekpcimgncioaaGreatDoor
namespace Go.Proofs.YtfekpcimgncioaaGreatDoor
open Go.Proofs.Tryz
open Go.RowKit Go.Lith
variable{l:List ai}{ty:av}{x y x0 x1 x2 x3:bz}{k:IntKind}{c0 c1 c2 c4 c5 c6 c7 c8 c9 c10 c11 c12 c13 c14 c15 c16 c17 A B C D E F G H I J K L:ai}{ds:List dw}{ops:Array Oper}{rest:List Oper}{d:Nat}{pos:String}{after:Array Edge}{w:aj}
theorem jN(hx:ev l x=.agg #[c0,c1,c2])(hy:ev l y=.int k 0):iB prog l (.index 36 x y) ty c0:=pO sA cC bD hx hy (by decide) (by decide) rfl
theorem jO(hx:ev l x=.agg #[c0,c1,c2])(hy:ev l y=.int k 1):iB prog l (.index 36 x y) ty c1:=pO sA cC bD hx hy (by decide) (by decide) rfl
theorem jP(hx:ev l x=.agg #[c0,c1,c2])(hy:ev l y=.int k 2):iB prog l (.index 36 x y) ty c2:=pO sA cC bD hx hy (by decide) (by decide) rfl
theorem tX{c3:ai}(hx:ev l x=.agg #[c0,c1,c2,c3,c4,c5,c6,c7,c8])(hy:ev l y=.int k 0):iB prog l (.index 39 x y) ty (.agg #[c0,c1,c2]):=pP cT aH aA hx hy (by decide) (by decide) rfl
theorem tY{c3:ai}(hx:ev l x=.agg #[c0,c1,c2,c3,c4,c5,c6,c7,c8])(hy:ev l y=.int k 1):iB prog l (.index 39 x y) ty (.agg #[c3,c4,c5]):=pP cT aH aA hx hy (by decide) (by decide) rfl
theorem tZ{c3:ai}(hx:ev l x=.agg #[c0,c1,c2,c3,c4,c5,c6,c7,c8])(hy:ev l y=.int k 2):iB prog l (.index 39 x y) ty (.agg #[c6,c7,c8]):=pP cT aH aA hx hy (by decide) (by decide) rfl
theorem Gl(hx:ev l x=.agg #[c0,c1,c2])(hy:ev l y=.int k 0):iB prog l (.index 243 x y) ty c0:=pO underlying243 Zs Fc hx hy (by decide) (by decide) rfl
theorem Gm(hx:ev l x=.agg #[c0,c1,c2])(hy:ev l y=.int k 1):iB prog l (.index 243 x y) ty c1:=pO underlying243 Zs Fc hx hy (by decide) (by decide) rfl
theorem Gn(hx:ev l x=.agg #[c0,c1,c2])(hy:ev l y=.int k 2):iB prog l (.index 243 x y) ty c2:=pO underlying243 Zs Fc hx hy (by decide) (by decide) rfl
theorem Ve{c3:ai}(hx:ev l x=.agg #[c0,c1,c2,c3,c4,c5])(hy:ev l y=.int k 0):iB prog l (.index 273 x y) ty (.agg #[c0,c1]):=pP underlying273 eN aV hx hy (by decide) (by decide) rfl
theorem Vf{c3:ai}(hx:ev l x=.agg #[c0,c1,c2,c3,c4,c5])(hy:ev l y=.int k 1):iB prog l (.index 273 x y) ty (.agg #[c2,c3]):=pP underlying273 eN aV hx hy (by decide) (by decide) rfl
theorem Vg{c3:ai}(hx:ev l x=.agg #[c0,c1,c2,c3,c4,c5])(hy:ev l y=.int k 2):iB prog l (.index 273 x y) ty (.agg #[c4,c5]):=pP underlying273 eN aV hx hy (by decide) (by decide) rfl
theorem Vh{c3:ai}(hx:ev l x=.agg #[c0,c1,c2,c3,c4,c5,c6,c7,c8,c9,c10,c11,c12,c13,c14,c15,c16,c17])(hy:ev l y=.int k 0):iB prog l (.index 280 x y) ty (.agg #[c0,c1,c2,c3,c4,c5]):=pP underlying280 Fb rA hx hy (by decide) (by decide) rfl
theorem Vi{c3:ai}(hx:ev l x=.agg #[c0,c1,c2,c3,c4,c5,c6,c7,c8,c9,c10,c11,c12,c13,c14,c15,c16,c17])(hy:ev l y=.int k 1):iB prog l (.index 280 x y) ty (.agg #[c6,c7,c8,c9,c10,c11]):=pP underlying280 Fb rA hx hy (by decide) (by decide) rfl
theorem Vj{c3:ai}(hx:ev l x=.agg #[c0,c1,c2,c3,c4,c5,c6,c7,c8,c9,c10,c11,c12,c13,c14,c15,c16,c17])(hy:ev l y=.int k 2):iB prog l (.index 280 x y) ty (.agg #[c12,c13,c14,c15,c16,c17]):=pP underlying280 Fb rA hx hy (by decide) (by decide) rfl
theorem Vk(hx:ev l x=.agg #[c0,c1,c2])(hy:ev l y=.int k 0):iB prog l (.index 333 x y) ty c0:=pO underlying333 cC bD hx hy (by decide) (by decide) rfl
theorem Vl(hx:ev l x=.agg #[c0,c1,c2])(hy:ev l y=.int k 1):iB prog l (.index 333 x y) ty c1:=pO underlying333 cC bD hx hy (by decide) (by decide) rfl
theorem Vm(hx:ev l x=.agg #[c0,c1,c2])(hy:ev l y=.int k 2):iB prog l (.index 333 x y) ty c2:=pO underlying333 cC bD hx hy (by decide) (by decide) rfl
theorem eF{Q:Exit→Act→aj→Prop}(h0:(ev l x0).cells = #[A,B,C,D,E,F,G,H,I])(h:∀w' g,gJ w w'→w.heap.size≤g→gT w' g [A,B,C,D,E,F,G,H,I] 39→au prog ops Q rest (Fr (l.set d (.slice (some ⟨g,0,none⟩) 1 1)) ds) w'):au prog ops Q (bx (some d) (.buildSlice 27 1 #[(0,x0)]) ty pos after none::rest) (Fr l ds) w :=
 oC (vs:=#[(0,ev l x0)]) (base:=#[.int .i64 0,.int .i64 0,.int .i64 0,.int .i64 0,.int .i64 0,.int .i64 0,.int .i64 0,.int .i64 0,.int .i64 0]) (c:=9) (z:=(.agg #[.int .i64 0,.int .i64 0,.int .i64 0,.int .i64 0,.int .i64 0,.int .i64 0,.int .i64 0,.int .i64 0,.int .i64 0])) bL (by kernel_rfl) (by decide) (by decide) (by kernel_rfl) (by simp) (by simp[Instr.fill,h0]) h
theorem agp{Q:Exit→Act→aj→Prop}{M N O P R S T U V W X Y Z b e f i j k m n o p q:ai}(h0:(ev l x0).cells = #[A,B,C,D,E,F,G,H,I])(h1:(ev l x1).cells = #[J,K,L,M,N,O,P,R,S])(h2:(ev l x2).cells = #[T,U,V,W,X,Y,Z,b,e])(h3:(ev l x3).cells = #[f,i,j,k,m,n,o,p,q])(h:∀w' g,gJ w w'→w.heap.size≤g→gT w' g [A,B,C,D,E,F,G,H,I,J,K,L,M,N,O,P,R,S,T,U,V,W,X,Y,Z,b,e,f,i,j,k,m,n,o,p,q] 39→au prog ops Q rest (Fr (l.set d (.slice (some ⟨g,0,none⟩) 4 4)) ds) w'):au prog ops Q (bx (some d) (.buildSlice 27 4 #[(0,x0),(1,x1),(2,x2),(3,x3)]) ty pos after none::rest) (Fr l ds) w :=
 oC (vs:=#[(0,ev l x0),(1,ev l x1),(2,ev l x2),(3,ev l x3)]) (base:=#[.int .i64 0,.int .i64 0,.int .i64 0,.int .i64 0,.int .i64 0,.int .i64 0,.int .i64 0,.int .i64 0,.int .i64 0,.int .i64 0,.int .i64 0,.int .i64 0,.int .i64 0,.int .i64 0,.int .i64 0,.int .i64 0,.int .i64 0,.int .i64 0,.int .i64 0,.int .i64 0,.int .i64 0,.int .i64 0,.int .i64 0,.int .i64 0,.int .i64 0,.int .i64 0,.int .i64 0,.int .i64 0,.int .i64 0,.int .i64 0,.int .i64 0,.int .i64 0,.int .i64 0,.int .i64 0,.int .i64 0,.int .i64 0]) (c:=9) (z:=(.agg #[.int .i64 0,.int .i64 0,.int .i64 0,.int .i64 0,.int .i64 0,.int .i64 0,.int .i64 0,.int .i64 0,.int .i64 0])) bL (by kernel_rfl) (by decide) (by decide) (by kernel_rfl) (by simp) (by simp[Instr.fill,h0,h1,h2,h3]) h
theorem Lv{Q:Exit→Act→aj→Prop}(h0:(ev l x0).cells = #[A,B,C,D,E,F])(h:∀w' g,gJ w w'→w.heap.size≤g→gT w' g [A,B,C,D,E,F] 55→au prog ops Q rest (Fr (l.set d (.slice (some ⟨g,0,none⟩) 1 1)) ds) w'):au prog ops Q (bx (some d) (.buildSlice 46 1 #[(0,x0)]) ty pos after none::rest) (Fr l ds) w :=
 oC (vs:=#[(0,ev l x0)]) (base:=#[.int .i64 0,.int .i64 0,.int .i64 0,.int .i64 0,.int .i64 0,.int .i64 0]) (c:=6) (z:=(.agg #[.int .i64 0,.int .i64 0,.int .i64 0,.int .i64 0,.int .i64 0,.int .i64 0])) xX (by kernel_rfl) (by decide) (by decide) (by kernel_rfl) (by simp) (by simp[Instr.fill,h0]) h
theorem Fe{Q:Exit→Act→aj→Prop}(h0:(ev l x0).cells = #[A,B,C,D,E,F])(h:∀w' g,gJ w w'→w.heap.size≤g→gT w' g [A,B,C,D,E,F] 56→au prog ops Q rest (Fr (l.set d (.slice (some ⟨g,0,none⟩) 1 1)) ds) w'):au prog ops Q (bx (some d) (.buildSlice 52 1 #[(0,x0)]) ty pos after none::rest) (Fr l ds) w :=
 oC (vs:=#[(0,ev l x0)]) (base:=#[.int .i64 0,.int .i64 0,.int .i64 0,.int .i64 0,.int .i64 0,.int .i64 0]) (c:=6) (z:=(.agg #[.int .i64 0,.int .i64 0,.int .i64 0,.int .i64 0,.int .i64 0,.int .i64 0])) lT (by kernel_rfl) (by decide) (by decide) (by kernel_rfl) (by simp) (by simp[Instr.fill,h0]) h
theorem agq{Q:Exit→Act→aj→Prop}{M N O P R S:ai}(h0:(ev l x0).cells = #[A,B,C,D,E,F])(h1:(ev l x1).cells = #[G,H,I,J,K,L])(h2:(ev l x2).cells = #[M,N,O,P,R,S])(h:∀w' g,gJ w w'→w.heap.size≤g→gT w' g [A,B,C,D,E,F,G,H,I,J,K,L,M,N,O,P,R,S] 56→au prog ops Q rest (Fr (l.set d (.slice (some ⟨g,0,none⟩) 3 3)) ds) w'):au prog ops Q (bx (some d) (.buildSlice 52 3 #[(0,x0),(1,x1),(2,x2)]) ty pos after none::rest) (Fr l ds) w :=
 oC (vs:=#[(0,ev l x0),(1,ev l x1),(2,ev l x2)]) (base:=#[.int .i64 0,.int .i64 0,.int .i64 0,.int .i64 0,.int .i64 0,.int .i64 0,.int .i64 0,.int .i64 0,.int .i64 0,.int .i64 0,.int .i64 0,.int .i64 0,.int .i64 0,.int .i64 0,.int .i64 0,.int .i64 0,.int .i64 0,.int .i64 0]) (c:=6) (z:=(.agg #[.int .i64 0,.int .i64 0,.int .i64 0,.int .i64 0,.int .i64 0,.int .i64 0])) lT (by kernel_rfl) (by decide) (by decide) (by kernel_rfl) (by simp) (by simp[Instr.fill,h0,h1,h2]) h
theorem pD{Q:Exit→Act→aj→Prop}(h0:(ev l x0).cells = #[A,B,C])(h:∀w' g,gJ w w'→w.heap.size≤g→gT w' g [A,B,C] 30→au prog ops Q rest (Fr (l.set d (.slice (some ⟨g,0,none⟩) 1 1)) ds) w'):au prog ops Q (bx (some d) (.buildSlice 65 1 #[(0,x0)]) ty pos after none::rest) (Fr l ds) w :=
 oC (vs:=#[(0,ev l x0)]) (base:=#[.int .i64 0,.int .i64 0,.int .i64 0]) (c:=3) (z:=(.agg #[.int .i64 0,.int .i64 0,.int .i64 0])) eK (by kernel_rfl) (by decide) (by decide) (by kernel_rfl) (by simp) (by simp[Instr.fill,h0]) h
theorem Ws{Q:Exit→Act→aj→Prop}(h0:(ev l x0).cells = #[A,B,C])(h1:(ev l x1).cells = #[D,E,F])(h2:(ev l x2).cells = #[G,H,I])(h3:(ev l x3).cells = #[J,K,L])(h:∀w' g,gJ w w'→w.heap.size≤g→gT w' g [A,B,C,D,E,F,G,H,I,J,K,L] 30→au prog ops Q rest (Fr (l.set d (.slice (some ⟨g,0,none⟩) 4 4)) ds) w'):au prog ops Q (bx (some d) (.buildSlice 65 4 #[(0,x0),(1,x1),(2,x2),(3,x3)]) ty pos after none::rest) (Fr l ds) w :=
 oC (vs:=#[(0,ev l x0),(1,ev l x1),(2,ev l x2),(3,ev l x3)]) (base:=#[.int .i64 0,.int .i64 0,.int .i64 0,.int .i64 0,.int .i64 0,.int .i64 0,.int .i64 0,.int .i64 0,.int .i64 0,.int .i64 0,.int .i64 0,.int .i64 0]) (c:=3) (z:=(.agg #[.int .i64 0,.int .i64 0,.int .i64 0])) eK (by kernel_rfl) (by decide) (by decide) (by kernel_rfl) (by simp) (by simp[Instr.fill,h0,h1,h2,h3]) h
theorem adl{Q:Exit→Act→aj→Prop}(h0:(ev l x0).cells = #[A,B,C,D,E,F,G,H])(h:∀w' g,gJ w w'→w.heap.size≤g→gT w' g [A,B,C,D,E,F,G,H] 112→au prog ops Q rest (Fr (l.set d (.slice (some ⟨g,0,none⟩) 1 1)) ds) w'):au prog ops Q (bx (some d) (.buildSlice 105 1 #[(0,x0)]) ty pos after none::rest) (Fr l ds) w :=
 oC (vs:=#[(0,ev l x0)]) (base:=#[.int .i64 0,.int .i64 0,.int .i64 0,.int .i64 0,.int .i64 0,.int .i64 0,.bool false,.string ⟨#[]⟩]) (c:=8) (z:=(.agg #[.int .i64 0,.int .i64 0,.int .i64 0,.int .i64 0,.int .i64 0,.int .i64 0,.bool false,.string ⟨#[]⟩])) underlying105 (by kernel_rfl) (by decide) (by decide) (by kernel_rfl) (by simp) (by simp[Instr.fill,h0]) h
theorem adm{Q:Exit→Act→aj→Prop}{x4 x5:bz}(h0:(ev l x0).cells = #[A])(h1:(ev l x1).cells = #[B])(h2:(ev l x2).cells = #[C])(h3:(ev l x3).cells = #[D])(h4:(ev l x4).cells = #[E])(h5:(ev l x5).cells = #[F])(h:∀w' g,gJ w w'→w.heap.size≤g→gT w' g [A,B,C,D,E,F] 26→au prog ops Q rest (Fr (l.set d (.slice (some ⟨g,0,none⟩) 6 6)) ds) w'):au prog ops Q (bx (some d) (.buildSlice 157 6 #[(0,x0),(1,x1),(2,x2),(3,x3),(4,x4),(5,x5)]) ty pos after none::rest) (Fr l ds) w :=
 oC (vs:=#[(0,ev l x0),(1,ev l x1),(2,ev l x2),(3,ev l x3),(4,ev l x4),(5,ev l x5)]) (base:=#[.nilFunc,.nilFunc,.nilFunc,.nilFunc,.nilFunc,.nilFunc]) (c:=1) (z:=(.nilFunc)) underlying157 (by kernel_rfl) (by decide) (by decide) (by kernel_rfl) (by simp) (by simp[Instr.fill,h0,h1,h2,h3,h4,h5]) h
theorem adn{Q:Exit→Act→aj→Prop}(h0:(ev l x0).cells = #[A,B,C,D,E,F])(h:∀w' g,gJ w w'→w.heap.size≤g→gT w' g [A,B,C,D,E,F] 215→au prog ops Q rest (Fr (l.set d (.slice (some ⟨g,0,none⟩) 1 1)) ds) w'):au prog ops Q (bx (some d) (.buildSlice 212 1 #[(0,x0)]) ty pos after none::rest) (Fr l ds) w :=
 oC (vs:=#[(0,ev l x0)]) (base:=#[.int .i64 0,.int .i64 0,.int .i64 0,.int .i64 0,.int .i64 0,.int .i64 0]) (c:=6) (z:=(.agg #[.int .i64 0,.int .i64 0,.int .i64 0,.int .i64 0,.int .i64 0,.int .i64 0])) underlying212 (by kernel_rfl) (by decide) (by decide) (by kernel_rfl) (by simp) (by simp[Instr.fill,h0]) h
end Go.Proofs.YtfekpcimgncioaaGreatDoor
namespace Go.Lith
open Go.RowKit
variable{w:aj}{c:Nat}
def iW(w:aj)(g:Nat)(es:Array de)(c:Nat):Prop:=w.heap[g]? = some (.map es c)
def sC(w:aj)(r g s:Nat)(seen:Array Nat)(c:Nat):Prop:=w.heap[r]? = some (.mapIter (some g) s seen c)
theorem iW.ext{w':aj}{g:Nat}{es:Array de}(h:iW w g es c)(hE:gJ w w'):iW w' g es c:=hE.block h
theorem sC.ext{w':aj}{r g s:Nat}{seen:Array Nat}(h:sC w r g s seen c)(hE:gJ w w'):sC w' r g s seen c:=hE.block h
theorem iW.lt{g:Nat}{es:Array de}(h:iW w g es c):g<w.heap.size:=(dz.1 h).1
theorem sC.lt{r g s:Nat}{seen:Array Nat}(h:sC w r g s seen c):r<w.heap.size:=(dz.1 h).1
section
variable {P:bv} {ds:List dw} {l:List ai} {x:bz} {T ty:av} {ops:Array Oper} {Q:Exit→Act→aj→Prop} {rest:List Oper} {d:Nat} {pos:String} {after:Array Edge} {w:aj}
theorem agr(h:∀w' g,gJ w w'→w.heap.size≤g→iW w' g #[] 0→au P ops Q rest (Fr (l.set d (.map (some g))) ds) w'):au P ops Q (bx (some d) (.makeMap T none) ty pos after none::rest) (Fr l ds) w :=
 mK (w':=w.alloc (.map #[] 0)) (v:=.map (some w.heap.size)) (fun o ho _=>by simp[dj,ho,Instr.makeMap,newObj,Sem.run]) (h _ _ ((gJ.refl w).alloc _) (ao _) (heap_alloc_new w _))
theorem aeV{k e:av}{g c:Nat}{es:Array de}(hu:P.underlying T=some (.map k e))(hx:ev l x=.map (some g))(hM:iW w g es c)(h:∀w' r,gJ w w'→w.heap.size≤r→sC w' r g c #[] c→au P ops Q rest (Fr (l.set d (.pointer (some ⟨r,0,none⟩))) ds) w') :
 au P ops Q (bx (some d) (.range T x) ty pos after none::rest) (Fr l ds) w :=
 mK (w':=w.alloc (.mapIter (some g) c #[] c)) (v:=.pointer (some ⟨w.heap.size,0,none⟩)) (fun o ho _=>by
  unfold iW at hM;simp[dj,ho,cJ,hx,Instr.range,cn hu,getObj,hM,newObj,Sem.run]) (h _ _ ((gJ.refl w).alloc _) (ao _) (heap_alloc_new w _))
end
end Go.Lith
namespace Go.Lith
open Go.RowKit Go.ChangeMaps Go.MapKept
/-! ### Lists of pairs -/
section
variable {K V:Type} [DecidableEq K]
def fJ:List (K × V)→K→V→List (K × V)
 | [],k,v=>[(k,v)]
 | x::D,k,v=>if x.1=k then (k,v)::D else x::fJ D k v
def cD:List (K × V)→K→Option V
 | [],_=>none
 | x::D,k=>if x.1=k then some x.2 else cD D k
def Dg:List (K × V)→K→List (K × V)
 | [],_=>[]
 | x::D,k=>if x.1=k then D else x::Dg D k
def qT:List (K × V)→K→Nat→Option (Nat × V)
 | [],_,_=>none
 | x::D,k,i=>if x.1=k then some (i,x.2) else qT D k (i+1)
theorem rB:∀(D:List (K × V)) (k:K) (i:Nat),qT D k i=none→cD D k=none∧(∀u,fJ D k u=D++[(k,u)])∧Dg D k=D
 | [],_,_,_=>⟨rfl,fun _=>rfl,rfl⟩
 | x::D,k,i,h=>by
  unfold qT at h;by_cases e:x.1=k
  · rw[if_pos e] at h;cases h
  · rw[if_neg e] at h
    obtain⟨h1,h2,h3⟩:=rB D k (i+1) h;exact⟨by simp[cD,e,h1],fun u=>by simp[fJ,e,h2],by simp[Dg,e,h3]⟩
theorem mW:∀(D:List (K × V)) (k:K) (i j:Nat) (v:V),qT D k i=some (j,v)→∃p,j=i+p∧D[p]? = some (k,v)∧cD D k=some v∧(∀u,fJ D k u=D.set p (k,u))∧Dg D k=D.eraseIdx p
 | [],_,_,_,_,h=>by cases h
 | x::D,k,i,j,v,h=>by
  unfold qT at h;by_cases e:x.1=k
  · rw[if_pos e] at h
    cases h;obtain⟨a,b⟩:=x;obtain rfl:a=k:=e;exact⟨0,rfl,rfl,by simp[cD],fun u=>by simp[fJ],by simp[Dg]⟩
  · rw[if_neg e] at h
    obtain⟨p,h1,h2,h3,h4,h5⟩:=mW D k (i+1) j v h;exact⟨p+1,by omega,by simpa using h2,by simp[cD,e,h3],fun u=>by simp[fJ,e,h4],by simp[Dg,e,h5]⟩
theorem kN:∀(D:List (K × V)) (k k':K) (v:V),cD (fJ D k v) k'=if k=k' then some v else cD D k'
 | [],k,k',v=>by simp[fJ,cD]
 | x::D,k,k',v=>by
  unfold fJ;by_cases e:x.1=k
  · rw[if_pos e]
    subst e;by_cases e':x.1=k' <;> simp[cD,e']
  · rw[if_neg e]
    unfold cD;rw[kN D k k' v];by_cases e':x.1=k'
    · rw[if_pos e',if_pos e',if_neg (fun h=>e (e'.trans h.symm))]
    · rw[if_neg e',if_neg e']
theorem sD:∀{D:List (K × V)} {k:K} {v:V},cD D k=some v→(k,v)∈D
 | [],_,_,h=>by cases h
 | x::D,k,v,h=>by
  unfold cD at h;split at h
  · rename_i e;cases h;subst e;exact bh ..
  · exact bg _ (sD h)
theorem kO:∀{D:List (K × V)} {k:K},cD D k=none↔k∉D.map (·.1)
 | [],_=>by simp[cD]
 | x::D,k=>by
  unfold cD;split
  · rename_i e;simp[e]
  · rename_i e
    rw[kO (D:=D)];simp only[bp,an,not_or];exact⟨fun h=>⟨fun h'=>e h'.symm,h⟩,fun h=>h.2⟩
theorem pE:∀{D:List (K × V)} {k:K} {v:V},(D.map (·.1)).Nodup→(k,v)∈D→cD D k=some v
 | [],_,_,_,h=>by cases h
 | x::D,k,v,hn,h=>by
  have hn':=f_.1 hn;unfold cD;rcases an.1 h with rfl | h
  · simp
  · rw[if_neg fun e=>hn'.1 (by show x.1∈_;rw[e];exact cw.2 ⟨_,h,rfl⟩)]
    exact pE hn'.2 h
theorem uM:∀(D:List (K × V)) (k:K) (v:V),(fJ D k v).map (·.1)=if k∈D.map (·.1) then D.map (·.1) else D.map (·.1)++[k]
 | [],k,v=>by simp[fJ]
 | x::D,k,v=>by
  unfold fJ;by_cases e:x.1=k
  · simp[e]
  · have e':¬k=x.1:=fun h=>e h.symm
    simp only[if_neg e,bp,uM D k v,an,e',false_or];split <;> simp
theorem vE{D:List (K × V)}(h:(D.map (·.1)).Nodup)(k:K)(v:V):((fJ D k v).map (·.1)).Nodup:=by
 rw[uM];split
 · exact h
 · rename_i hk
   exact jc.2 ⟨h,by simp,fun a ha b hb e=>by rw[az.1 hb] at e;exact hk (e▸ha)⟩
theorem Wt:∀{D:List (K × V)} (k k':K),(D.map (·.1)).Nodup→cD (Dg D k) k'=if k=k' then none else cD D k'
 | [],k,k',_=>by simp[Dg,cD]
 | x::D,k,k',hn=>by
  have hn':=f_.1 hn;unfold Dg;by_cases e:x.1=k
  · rw[if_pos e]
    by_cases e':k=k'
    · rw[if_pos e']
      exact kO.2 (by rw[←e',←e];exact hn'.1)
    · rw[if_neg e']
      simp[cD,e,e']
  · rw[if_neg e]
    unfold cD;rw[Wt k k' hn'.2];by_cases e':x.1=k'
    · rw[if_pos e',if_pos e',if_neg (fun h=>e (e'.trans h.symm))]
    · rw[if_neg e',if_neg e']
theorem abx:∀(D:List (K × V)) (k:K),(Dg D k).Sublist D
 | [],_=>List.Sublist.refl _
 | x::D,k=>by
  unfold Dg;split
  · exact List.sublist_cons_self _ _
  · exact (abx D k).cons_cons x
theorem ado{D:List (K × V)}(h:(D.map (·.1)).Nodup)(k:K):((Dg D k).map (·.1)).Nodup:=h.sublist ((abx D k).map _)
end
/-! ### A map's entries -/
def Vn(e:de):ai × ai:=(e.key,e.val)
structure bJ{K V:Type}(ek:K→ai)(ev:V→ai)(D:List (K × V))(es:Array de)(c:Nat):Prop where
 cells:es.toList.map Vn=D.map fun x=>(ek x.1,ev x.2)
 born:∀e∈es.toList,e.born<c
 nd:(es.toList.map (·.born)).Nodup
theorem bJ.nil{K V:Type}(ek:K→ai)(ev:V→ai):bJ ek ev ([]:List (K × V)) #[] 0:=⟨rfl,fun _ h=>by simp at h,by simp⟩
structure sQ{K:Type}[DecidableEq K](P:bv)(T:av)(ek:K→ai):Prop where
 chk:∀e k w,(Instr.checkKey e 10000 T (ek k)).run P w=.ok () w
 now:∃t,P.underlying T=some t∧∀a b,Instr.sameNow t (ek a) (ek b)=none∨Instr.sameNow t (ek a) (ek b)=some (decide (a=b))
 eq:∀a b w,(Op.equal T (ek a) (ek b)).run P w=.ok (decide (a=b)) w
 bits:∀a,Instr.sameBits 10000 (ek a) (ek a)=true
section
variable {K V:Type} [DecidableEq K] {P:bv} {T:av} {ek:K→ai} {ev:V→ai}
theorem Ny(kt:sQ P T ek)(k:K)(w:aj):∀(L:List de) (D:List (K × V)) (i:Nat),L.map Vn=D.map (fun x=>(ek x.1,ev x.2)) →
 (Instr.findAsking T (ek k) L i).run P w=.ok ((qT D k i).map fun p=>(p.1,ev p.2)) w
 | [],D,i,h=>by
  obtain rfl:D=[]:=by simpa using h.symm
  simp[Instr.findAsking,qT]
 | e::L,[],i,h=>by simp at h
 | e::L,x::D,i,h=>by
  simp only[bp,mf,Vn,fk] at h;obtain⟨⟨h1,h2⟩,h3⟩:=h;have ih:=Ny kt k w L D (i+1) h3;unfold Instr.findAsking qT;rw[h1,h2];simp only[Sem.run_bind,kt.eq,Result.andThen];by_cases e':x.1=k
  · rw[if_pos (decide_eq_true e'.symm),if_pos e']
    rfl
  · rw[if_neg (by rw[decide_eq_false (Ne.symm e')];exact Bool.false_ne_true),if_neg e']
    exact ih
theorem aby(t:TypeDesc)(k:K)(hn:∀a b:K,Instr.sameNow t (ek a) (ek b)=none∨Instr.sameNow t (ek a) (ek b)=some (decide (a=b))):∀(L:List de) (D:List (K × V)) (i:Nat),L.map Vn=D.map (fun x=>(ek x.1,ev x.2)) →
 Instr.findNow t (ek k) L i=none∨Instr.findNow t (ek k) L i=some ((qT D k i).map fun p=>(p.1,ev p.2))
 | [],D,i,h=>by
  obtain rfl:D=[]:=by simpa using h.symm
  simp[Instr.findNow,qT]
 | e::L,[],i,h=>by simp at h
 | e::L,x::D,i,h=>by
  simp only[bp,mf,Vn,fk] at h;obtain⟨⟨h1,h2⟩,h3⟩:=h;have ih:=aby t k hn L D (i+1) h3;unfold Instr.findNow qT;rw[h1,h2];rcases hn k x.1 with e0 | e0
  · left;rw[e0]
  · rw[e0]
    by_cases e':x.1=k
    · right;simp[e']
    · rw[show decide (k=x.1)=false from decide_eq_false (Ne.symm e')]
      simpa[e'] using ih
theorem vF(kt:sQ P T ek)(k:K)(w:aj){es:Array de}{D:List (K × V)}{c:Nat}(h:bJ ek ev D es c):(Instr.findKey T (ek k) es.toList).run P w=.ok ((qT D k 0).map fun p=>(p.1,ev p.2)) w:=by
 obtain⟨t,ht,hn⟩:=kt.now;unfold Instr.findKey;simp only[Sem.run_bind,cn ht,Result.andThen];rcases aby t k hn es.toList D 0 h.cells with e | e
 · rw[e]
   exact Ny kt k w es.toList D 0 h.cells
 · rw[e]
   rfl
end
section
variable {K V:Type} [DecidableEq K] {P:bv} {T M E ty:av} {ek:K→ai} {ev:V→ai} {w w0:aj} {g c:Nat} {es:Array de} {D:List (K × V)}
theorem Nz{v0:V}(hu:P.underlying M=some (.map T E))(kt:sQ P T ek)(hM:iW w g es c)(hD:bJ ek ev D es c)(hz:oS P E (ev v0))(k:K)(b:Bool) :
 (Instr.lookup M (.map (some g)) (ek k) b).run P w=.ok (if b then .tuple #[ev ((cD D k).getD v0),.bool (cD D k).isSome] else ev ((cD D k).getD v0)) w:=by
 unfold iW at hM;obtain⟨inf,hi,hz⟩:=hz;have hzv:(zeroValue E).run P w=.ok (ev v0) w:=by simp[zeroValue,typeInfo,program,Sem.run,hi,hz]
 simp only[Instr.lookup,Sem.run_bind,cn hu,Result.andThen,getObj,Sem.run,hM,Sem.run_pure,kt.chk,vF kt k w hD];cases hf:qT D k 0 with
 | none =>
  obtain⟨h1,_⟩:=rB D k 0 hf;rw[h1];simp only[p_,Sem.run_bind,hzv,Result.andThen,Sem.run_pure];cases b <;> rfl
 | some p =>
  obtain⟨j,v⟩:=p;obtain⟨_,_,_,h1,_⟩:=mW D k 0 j v hf;rw[h1];simp only[fa,Sem.run_pure,Result.andThen];cases b <;> rfl
theorem jU{g:Nat}{o o':Obj}(hM:w.heap[g]? = some o):(setBlock w g o').heap[g]? = some o':=by
 have:=(dz.1 hM).1;simp[setBlock,this]
theorem pY{g:Nat}(o:Obj):Chg w (setBlock w g o) g:=⟨rfl,rfl,rfl,by simp[setBlock],fun k hk=>by simp[setBlock,i_ (Ne.symm hk)]⟩
theorem Rx{α β:Type}(f:α→β)(L:List α)(i:Nat)(x:α)(g:α→α)(hi:L[i]? = some x):(L.modify i g).map f=(L.map f).set i (f (g x)):=by
 apply gj;intro j;simp only[eh,List.getElem?_modify,jj,List.length_map];by_cases e:i=j
 · subst e
   rw[hi];have:=(ap.1 hi).1;simp[this]
 · simp[e]
theorem bJ.set(hD:bJ ek ev D es c){p:Nat}{k:K}{v:V}(hp:D[p]? = some (k,v))(u:V):bJ ek ev (D.set p (k,u)) (es.modify p fun e=>{ e with key:=ek k,val:=ev u }) c:=by
 have hl:es.toList.length=D.length:=by have:=congrArg List.length hD.cells;simpa using this
 have hlt:p<es.toList.length:=by rw[hl];exact (ap.1 hp).1
 have hx:es.toList[p]? = some es.toList[p]:=ak hlt;have hb:(es.modify p fun e=>{ e with key:=ek k,val:=ev u }).toList.map (·.born)=es.toList.map (·.born):=by
  rw[ov,Rx _ _ _ _ _ hx];apply gj;intro j;rw[jj];split
  · rename_i e;subst e;rw[if_pos (by simpa using hlt),eh,hx];rfl
  · rfl
 refine⟨?_,fun e he=>?_,by rw[hb];exact hD.nd⟩
 · rw[ov,Rx _ _ _ _ _ hx,hD.cells,List.map_set]
   rfl
 · have:e.born∈(es.modify p fun e=>{ e with key:=ek k,val:=ev u }).toList.map (·.born):=cw.2 ⟨e,he,rfl⟩
   rw[hb] at this;obtain⟨e',he',hh⟩:=cw.1 this;rw[←hh];exact hD.born e' he'
theorem bJ.push(hD:bJ ek ev D es c)(k:K)(u:V):bJ ek ev (D++[(k,u)]) (es.push { key:=ek k,val:=ev u,born:=c }) (c+1):=by
 refine⟨by simp[hD.cells,Vn],fun e he=>?_,?_⟩
 · rw[nw] at he
   rcases br.1 he with he | he
   · exact Nat.lt_succ_of_lt (hD.born e he)
   · rw[az.1 he];exact Nat.lt_succ_self _
 · rw[nw,ct]
   refine jc.2 ⟨hD.nd,by simp,fun a ha b hb e=>?_⟩;obtain⟨e',he',rfl⟩:=cw.1 ha;have:b=c:=by simpa using hb
   have:=hD.born e' he';omega
theorem bJ.erase(hD:bJ ek ev D es c)(p:Nat):bJ ek ev (D.eraseIdx p) (es.eraseIdxIfInBounds p) c:=by
 have e:(es.eraseIdxIfInBounds p).toList=es.toList.eraseIdx p:=by
  by_cases h:p<es.size
  · simp[ld,h]
  · simp only[ld,h,dite_false]
    exact (List.eraseIdx_of_length_le (by simpa using ir h)).symm
 refine⟨?_,fun x hx=>hD.born x ?_,?_⟩
 · rw[e,map_eraseIdx,hD.cells,map_eraseIdx]
 · rw[e] at hx;exact List.mem_of_mem_eraseIdx hx
 · rw[e];exact hD.nd.sublist ((List.eraseIdx_sublist _ _).map _)
theorem abz(hu:P.underlying M=some (.map T E))(kt:sQ P T ek)(hM:iW w g es c)(hD:bJ ek ev D es c)(k:K)(u:V) :
 ∃es' c',(Instr.mapUpdate M (.map (some g)) (ek k) (ev u)).run P w=.ok () (setBlock w g (.map es' c'))∧bJ ek ev (fJ D k u) es' c':=by
 unfold iW at hM;cases hf:qT D k 0 with
 | none =>
  obtain⟨_,h1,_⟩:=rB D k 0 hf;refine⟨_,_,?_,h1 u▸hD.push k u⟩;simp only[Instr.mapUpdate,Sem.run_bind,cn hu,Result.andThen,getObj,Sem.run,hM,Sem.run_pure,kt.chk,vF kt k w hD,hf,p_];exact run_setObj_map _ hM
 | some p =>
  obtain⟨j,v⟩:=p;obtain⟨p,rfl,hp,_,h1,_⟩:=mW D k 0 j v hf;rw[ar] at hf;have hl:es.toList.length=D.length:=by have:=congrArg List.length hD.cells;simpa using this
  have hlt:p<es.toList.length:=by rw[hl];exact (ap.1 hp).1
  have hk:((es[p]?).map (·.key)).getD (ek k)=ek k:=by
   have h2:=congrArg (fun L=>L[p]?) hD.cells;simp only[eh,hp,fa] at h2;rw[fx] at h2;cases h3:es[p]? with
   | none=>rfl
   | some x =>
    rw[h3] at h2;simp only[fa,Option.some.injEq,Vn,fk] at h2;simpa using h2.1
  refine⟨_,_,?_,h1 u▸hD.set hp u⟩;simp only[Instr.mapUpdate,Sem.run_bind,cn hu,Result.andThen,getObj,Sem.run,hM,Sem.run_pure,kt.chk,vF kt k w hD,hf,fa,hk,Instr.keyThatStays,kt.bits,if_true];exact run_setObj_map _ hM
/-! ### Ranges -/
def oJ(ek:K→ai)(ev:V→ai)(D:List (K × V))(es:Array de)(seen:Array Nat)(dn rs:List (K × V)):Prop :=
 (dn++rs).Perm D∧∃dE rE:List de,seen.toList=dE.map (·.born)∧(dE++rE).Perm es.toList∧dE.map Vn=dn.map (fun x=>(ek x.1,ev x.2))∧rE.map Vn=rs.map (fun x=>(ek x.1,ev x.2))
theorem oJ.start(hD:bJ ek ev D es c):oJ ek ev D es #[] [] D:=⟨ny _,[],es.toList,rfl,ny _,rfl,hD.cells⟩
theorem oJ.done{seen:Array Nat}{dn:List (K × V)}(h:oJ ek ev D es seen dn []):dn.Perm D:=by simpa using h.1
def Nxt(ek:K→ai)(ev:V→ai)(D:List (K × V))(es:Array de)(dn rs:List (K × V))(b:Bool)(kv vv:ai)(seen':Array Nat):Prop :=
 (b=false∧rs=[])∨(b=true∧∃k v rs',rs.Perm ((k,v)::rs')∧kv=ek k∧vv=ev v∧oJ ek ev D es seen' (dn++[(k,v)]) rs')
def Gp(b:Bool)(k v:ai):ai:=.tuple (if b then #[.bool true,k,v] else #[.bool false])
theorem Wu{r s:Nat}{seen:Array Nat}{dn rs:List (K × V)}(hI:sC w r g c seen c)(hM:iW w g es c)(hD:bJ ek ev D es c)(hT:oJ ek ev D es seen dn rs) :
 ∃b kv vv seen' w1,(w1=w∨w1=w.drew)∧(Instr.next (.pointer (some ⟨r,0,none⟩)) false ty).run P w=.ok (Gp b kv vv) (setBlock w1 r (.mapIter (some g) c seen' c))∧Nxt ek ev D es dn rs b kv vv seen':=by
 obtain⟨hp,dE,rE,h1,h2,h3,h4⟩:=hT;have hnd:((dE++rE).map (·.born)).Nodup:=(h2.map (·.born)).nodup_iff.2 hD.nd;rw[ct,jc] at hnd;have hleft:∀e,e∈(leftOf es seen).toList↔e∈rE:=fun e=>by
  unfold leftOf;simp only[Array.toList_filter,List.mem_filter,Bool.not_eq_true',Array.contains_eq_mem,decide_eq_false_iff_not];rw[←Array.mem_toList_iff (xs:=seen),h1,←h2.mem_iff,br];constructor
  · rintro⟨h | h,hn⟩
    · exact absurd (cw.2 ⟨e,h,rfl⟩) hn
    · exact h
  · intro h
    exact⟨.inr h,fun hm=>hnd.2.2 _ hm _ (cw.2 ⟨e,h,rfl⟩) rfl⟩
 rcases run_next_at (P:=P) w ty r g c c seen es c hI hM hD.born (ao _) with ⟨h0,hr⟩ | ⟨e,he,w1,hw1,hr⟩
 · refine⟨false,default,default,seen,w,.inl rfl,?_,.inl ⟨rfl,?_⟩⟩
   · rw[hr]
     have:setBlock w r (.mapIter (some g) c seen c)=w:=by
      unfold setBlock;have hlt:=(dz.1 hI).1;have:w.heap.setIfInBounds r (.mapIter (some g) c seen c)=w.heap:=by
       apply Array.ext_getElem?;intro i;rw[Array.getElem?_setIfInBounds];split
       · rename_i e;subst e;exact hI.symm
       · rfl
      rw[this]
     rw[this];rfl
   · cases rs with
     | nil=>rfl
     | cons x rs =>
      cases rE with
      | nil=>simp at h4
      | cons e rE =>
       have:=(hleft e).2 (bh ..);rw[Array.eq_empty_of_size_eq_zero h0] at this;simp at this
 · obtain⟨s,t,rfl⟩:=List.append_of_mem ((hleft e).1 he)
   rw[ct,bp] at h4;obtain⟨rs1,rs2,rfl,e1,e2⟩:=me.1 h4.symm;obtain⟨x,rs3,rfl,e3,e4⟩:=nc.1 e2;obtain⟨k,v⟩:=x;simp only[Vn,fk] at e3;refine⟨true,e.key,e.val,seen.push e.born,w1,hw1,hr,.inr ⟨rfl,k,v,rs1++rs3,List.perm_middle,e3.1.symm,e3.2.symm,?_,dE++[e],s++t,?_,?_,?_,?_⟩⟩
   · refine ou ?_ hp
     simp only[da,cg,bt];exact mo _ List.perm_middle.symm
   · simp[h1]
   · refine ou ?_ h2
     simp only[da,cg,bt];exact mo _ List.perm_middle.symm
   · simp[h3,Vn,e3]
   · simp[e1,e4]
theorem adp{r:Nat}{seen:Array Nat}{dn rs:List (K × V)}{k:K}{v:V}(hI:sC w r g c seen c)(hM:iW w g es c)(hD:bJ ek ev D es c)(hT:oJ ek ev D es seen (dn++[(k,v)]) rs) :
 (Instr.entry (.pointer (some ⟨r,0,none⟩))).run P w=.ok (.tuple #[ek k,ev v]) w:=by
 obtain⟨hp,dE,rE,h1,h2,h3,h4⟩:=hT;rw[ct,bp,List.map_nil] at h3;obtain⟨d1,d2,rfl,e1,e2⟩:=me.1 h3;obtain⟨e,d3,rfl,e3,e4⟩:=nc.1 e2;obtain rfl:d3=[]:=by simpa using e4
 simp only[Vn,fk] at e3;have hs:seen=(d1.map (·.born)).toArray.push e.born:=by
  apply Array.toList_inj.1;rw[h1];simp
 have hm:e∈es.toList:=h2.mem_iff.1 (by simp);rw[hs] at hI;have:=run_entry_at (P:=P) w r g c _ es c e hI hM hm hD.nd;rw[this,e3.1,e3.2]
end
/-! ### Things in memory -/
def mI(g:Nat)(es:Array de)(c:Nat):It where
 own b:=some g=some b
 P w:=iW w g es c
 lt w b h e:=by cases e;exact h.lt
 st w w' h _ k:=(k g rfl).trans h
def iI(r g c:Nat)(seen:Array Nat):It where
 own b:=some r=some b
 P w:=sC w r g c seen c
 lt w b h e:=by cases e;exact h.lt
 st w w' h _ k:=(k r rfl).trans h
theorem Mem.p{w0 w:aj}{is:List It}(m:Mem w0 w is)(k:Nat){g c:Nat}{es:Array de}(hk:is[k]? = some (mI g es c)):iW w g es c:=m.get k hk
theorem Mem.r{w0 w:aj}{is:List It}(m:Mem w0 w is)(k:Nat){r g c:Nat}{seen:Array Nat}(hk:is[k]? = some (iI r g c seen)):sC w r g c seen c:=m.get k hk
section
variable {K V:Type} [DecidableEq K] {P:bv} {T M E ty:av} {ek:K→ai} {ev:V→ai} {w w0:aj} {g c:Nat} {es:Array de} {D:List (K × V)} {is:List It}
variable {ds:List dw} {l:List ai} {x y z:bz} {ops:Array Oper} {Q:Exit→Act→aj→Prop} {rest:List Oper} {d:Nat} {pos:String} {after:Array Edge}
theorem mE(m:Mem w0 w is)(h:∀g u,Mem w0 u (mI g #[] 0::is)→au P ops Q rest (Fr (l.set d (.map (some g))) ds) u):au P ops Q (bx (some d) (.makeMap M none) ty pos after none::rest) (Fr l ds) w :=
 agr fun u g e hg hM=>h g u (m.new (i:=mI g #[] 0) e hM fun b h=>by cases h;exact hg)
theorem xG(m:Mem w0 w is)(hu:P.underlying M=some (.map T E))(hx:Go.Lith.ev l x=.map (some g))(hM:iW w g es c)(h:∀r u,Mem w0 u (iI r g c #[]::is)→au P ops Q rest (Fr (l.set d (.pointer (some ⟨r,0,none⟩))) ds) u) :
 au P ops Q (bx (some d) (.range M x) ty pos after none::rest) (Fr l ds) w :=
 aeV hu hx hM fun u r e hr hI=>h r u (m.new (i:=iI r g c #[]) e hI fun b h=>by cases h;exact hr)
end
section
variable {K V:Type} [DecidableEq K] {P:bv} {T M E ty:av} {ek:K→ai} {en:V→ai} {w w0:aj} {g c:Nat} {es:Array de} {D:List (K × V)} {is:List It}
variable {ds:List dw} {l:List ai} {x y z:bz} {ops:Array Oper} {Q:Exit→Act→aj→Prop} {rest:List Oper} {d:Nat} {pos:String} {after:Array Edge}
theorem eE{v0:V}{k:K}(hu:P.underlying M=some (.map T E))(hz:oS P E (en v0))(kt:sQ P T ek)(hx:ev l x=.map (some g))(hy:ev l y=ek k)(hM:iW w g es c)(hD:bJ ek en D es c):Bq P l (.lookup M x y false) ty (en ((cD D k).getD v0)) w:=fun o ho _=>by
 have:=Nz hu kt hM hD hz k false;simp only[pb,if_false] at this;simp[dj,ho,cJ,hx,hy,this]
theorem Wv{v0:V}{k:K}(hu:P.underlying M=some (.map T E))(hz:oS P E (en v0))(kt:sQ P T ek)(hx:ev l x=.map (some g))(hy:ev l y=ek k)(hM:iW w g es c)(hD:bJ ek en D es c):Bq P l (.lookup M x y true) ty (.tuple #[en ((cD D k).getD v0),.bool (cD D k).isSome]) w:=fun o ho _=>by
 have:=Nz hu kt hM hD hz k true;simp only[if_true] at this;simp[dj,ho,cJ,hx,hy,this]
theorem nN{v:V}{a:K}(m:Mem w0 w is)(k:Nat)(hk:is[k]? = some (mI g es c))(hu:P.underlying M=some (.map T E))(kt:sQ P T ek)(hx:ev l x=.map (some g))(hy:ev l y=ek a)(hz:ev l z=en v)(hD:bJ ek en D es c)
 (h:∀es' c' u,Mem w0 u (is.set k (mI g es' c'))→bJ ek en (fJ D a v) es' c'→au P ops Q rest (Fr l ds) u):au P ops Q (bx none (.mapUpdate M x y z) ty pos after none::rest) (Fr l ds) w:=by
 have hM:=m.p k hk;obtain⟨es',c',hr,hD'⟩:=abz hu kt hM hD a v;have hC:=pY (w:=w) (g:=g) (.map es' c');refine Ij (w':=setBlock w g (.map es' c')) (fun o ho=>by simp[dj,ho,cJ,hx,hy,hz,hr]) (h es' c' _ ?_ hD');exact m.put k hk hC.os hC.tape hC.output (by rw[hC.size];exact ao _) (fun b _ hne=>hC.block b fun e=>hne (by rw[e];rfl)) (jU hM) (.inl fun _ h=>h)
theorem Oa{r:Nat}{seen:Array Nat}{dn rs:List (K × V)}(m:Mem w0 w is)(k:Nat)(hk:is[k]? = some (iI r g c seen))(hx:ev l x=.pointer (some ⟨r,0,none⟩))(hM:iW w g es c)(hD:bJ ek en D es c)(hT:oJ ek en D es seen dn rs)
 (h:∀b kv vv seen' u,Mem w0 u (is.set k (iI r g c seen'))→Nxt ek en D es dn rs b kv vv seen'→au P ops Q rest (Fr (l.set d (Gp b kv vv)) ds) u) :
 au P ops Q (bx (some d) (.next x false) ty pos after none::rest) (Fr l ds) w:=by
 have hI:=m.r k hk;obtain⟨b,kv,vv,seen',w1,hw1,hr,hN⟩:=Wu (P:=P) (ty:=ty) (s:=0) hI hM hD hT;refine mK (w':=setBlock w1 r (.mapIter (some g) c seen' c)) (v:=Gp b kv vv) (fun o ho hty=>by simp[dj,ho,cJ,hx,hty,hr]) (h b kv vv seen' _ ?_ hN);have e1:w1.heap=w.heap∧w1.os=w.os∧w1.tape=w.tape∧w1.output=w.output:=by rcases hw1 with rfl | rfl <;> exact⟨rfl,rfl,rfl,rfl⟩
 refine m.put k hk e1.2.1 e1.2.2.1 e1.2.2.2 (by simp[setBlock,e1.1]) (fun b' _ hne=>?_) ?_ (.inl fun _ h=>h)
 · have:b'≠r:=fun e=>hne (by rw[e];rfl)
   simp only[setBlock,e1.1];exact i_ (Ne.symm this)
 · exact jU (w:=w1) (o:=.mapIter (some g) c seen c) (by rw[e1.1];exact hI)
theorem pZ{b:Bool}{kv vv:ai}(hx:ev l x=Gp b kv vv):iB P l (.extract x 0) ty (.bool b):=fun w o ho _=>by
 cases b <;> simp[dj,ho,cJ,hx,Gp,Instr.extract]
theorem uA{r:Nat}{seen:Array Nat}{dn rs:List (K × V)}{k:K}{v:V}(hx:ev l x=.pointer (some ⟨r,0,none⟩))(hI:sC w r g c seen c)(hM:iW w g es c)(hD:bJ ek en D es c)(hT:oJ ek en D es seen (dn++[(k,v)]) rs) :
 Bq P l (.entry x) ty (.tuple #[ek k,en v]) w:=fun o ho _=>by
 have:=adp (P:=P) hI hM hD hT;simp[dj,ho,cJ,hx,this]
theorem mM{f:FuncId}{fo:bz}{xs:Array bz}{args:List ai}{first cap:Array ai}{a0:Array av}{R:ai→It→Prop}(m:Mem w0 w is)(k:Nat)(hE:Entr P f)(hf:ev l fo=.func (.func f) first cap)(hxs:first.toList++xs.toList.map (ev l)++cap.toList=args)
 (hc:Mem w0 w is→Calls P f args.toArray w fun e w'=>∃v i,e=.returned v∧Mem w0 w' (is.set k i)∧R v i) (h:∀v i u,Mem w0 u (is.set k i)→R v i→au P ops Q rest (Fr (l.set d v) ds) u) :
 au P ops Q (bx (some d) (.call { callee:=.value fo,args:=xs,argTypes:=a0 }) ty pos after none::rest) (Fr l ds) w:=by
 refine wpList_plain rfl fun K hK=>?_;unfold Oper.wp;rw[kF,pM hE hf hxs _ rfl];refine (hc m).mono ?_;rintro e w' ⟨v,i,rfl,hM,hR⟩;show K ((Fr l ds).put (some d) v) w'
 rw[iE];exact hK _ _ (h v i w' hM hR)
end
theorem eG{P:bv}{Q:Exit→Act→aj→Prop}{l:List ai}{ds:List dw}{c1 c2:Code}{w:aj}{x:bz}{b:Bool}(hx:ev l x=.bool b)(ht:b=true→c1.wp P Q (Fr l ds) w)(hf:b=false→c2.wp P Q (Fr l ds) w):(Code.cond x c1 c2).wp P Q (Fr l ds) w:=iK hx ht hf
theorem Ry{α:Type}{is:List α}{k:Nat}{i:α}(h:is[k]? = some i):is.set k i=is:=by
 apply gj;intro j;rw[jj];split
 · rename_i e;subst e
   have:=(ap.1 h).1;rw[if_pos this,h]
 · rfl
theorem Lw{K V:Type}[DecidableEq K]:∀{D:List (K × V)} {k:K} {v:V},cD D k=some v→fJ D k v=D
 | [],_,_,h=>by cases h
 | x::D,k,v,h=>by
  unfold cD at h;unfold fJ;split at h
  · rename_i e;cases h;subst e;rw[if_pos rfl]
  · rename_i e;rw[if_neg e,Lw h]
/-! ### Keys -/
def xO(P:bv)(e:Bool)(d:Nat)(T:av)(x:ai):Prop:=∀w,(Instr.checkKey e d T x).run P w=.ok () w
section
variable {P:bv} {e:Bool} {d:Nat} {T E:av}
theorem sR{β:Type}{w:aj}(g:β→PUnit→Sem (ForInStep PUnit)):∀(L:List β),(∀x∈L,(g x ⟨⟩).run P w=.ok (.yield ⟨⟩) w)→(forIn L PUnit.unit g:Sem PUnit).run P w=.ok ⟨⟩ w
 | [],_=>by simp
 | x::L,h=>by
  simp only[List.forIn_cons,Sem.run_bind,h x (bh ..),Result.andThen_ok];exact sR g L fun y hy=>h y (bg _ hy)
theorem xO.int{k k':IntKind}{n:Int}(hu:P.underlying T=some (.int k')):xO P e (d+1) T (.int k n):=fun w=>by
 unfold Instr.checkKey;simp[cn hu]
theorem xO.struct{fs:Array Field}{cs:Array ai}(hu:P.underlying T=some (.struct fs))(h:∀f∈fs.toList,∃v,(∀w,(part f.type cs f.offset).run P w=.ok v w)∧xO P e d f.type v):xO P e (d+1) T (.agg cs):=fun w=>by
 unfold Instr.checkKey;simp only[Sem.run_bind,cn hu,Result.andThen_ok];rw[←Array.forIn_toList];refine (congrArg (fun r=>Result.andThen r _) (sR _ fs.toList fun f hf=>?_)).trans (by rfl);obtain⟨v,h1,h2⟩:=h f hf;by_cases hn:f.name = "_"
 · simp[hn]
 · simp[hn,h1 w,h2 w]
theorem xO.array{n c:Nat}{cs:Array ai}(hu:P.underlying T=some (.array n E))(hc:dH P E c)(h:∀i,i<n→∃v,(∀w,(part E cs (i*c)).run P w=.ok v w)∧xO P e d E v):xO P e (d+1) T (.agg cs):=fun w=>by
 unfold Instr.checkKey;simp only[Sem.run_bind,cn hu,Result.andThen_ok];simp only[Std.Legacy.Range.forIn_eq_forIn_range',Std.Legacy.Range.size,Nat.sub_zero,Nat.add_one_sub_one,Nat.div_one];refine (congrArg (fun r=>Result.andThen r _) (sR _ (List.range' 0 n) fun i hi=>?_)).trans (by rfl);obtain⟨v,h1,h2⟩:=h i (by simpa using hi);simp[eC hc,h1 w,h2 w]
theorem sQ.agg{K:Type}[DecidableEq K]{ek:K→ai}{cs:K→Array ai}(ha:∀k,ek k=.agg (cs k)){t:TypeDesc}(ht:P.underlying T=some t)(hc:∀e k,xO P e 10000 T (ek k))(he:∀a b,tV P 10000 T (ek a) (ek b) (a=b))(hb:∀a,Instr.sameBits 10000 (ek a) (ek a)=true):sQ P T ek where
 chk e k w:=hc e k w
 now:=⟨t,ht,fun a b=>.inl (by rw[ha,ha];cases t <;> rfl)⟩
 eq a b w:=zW (he a b) w
 bits:=hb
end
end Go.Lith
namespace Go.Lith
open Go.RowKit
variable{w0:aj}{is:List It}{P:bv}{T:av}{n:Nat}{α:Type}{op:Op}{q:Prop}{ops:Array Oper}{c:Code}
theorem Mem.gb{w:aj}(m:Mem w0 w is)(k:Nat){g:Nat}{cs:List ai}{t:av}(hk:is[k]? = some (bI g cs t)):w0.heap.size≤g:=m.ge _ (bj hk) g rfl
theorem cY{l:List ai}{x:bz}{ty:av}{a:Addr}(hx:ev l x=.pointer (some a)):iB P l (.nilCheck x) ty (.pointer (some a)):=fun w o ho _=>by
 simp[dj,ho,cJ,hx]
inductive Ko where
 | c (c:Code)
 | b (id:Nat)
 | o (ops:Array Oper) (rest:List Oper)
 | k (K:Act→aj→Prop)
 | r (c:Code) (n:Nat)
def Ct(P:bv)(R:Exit→Act→aj→Prop):List Ko→Exit→Act→aj→Prop
 | []=>R
 | .c c::s=>Exit.then (c.wp P (Ct P R s)) (Ct P R s)
 | .b id::s=>di id (Ct P R s)
 | .o ops rest::s=>Exit.then (au P ops (Ct P R s) rest) (Ct P R s)
 | .k K::s=>Exit.then K (Ct P R s)
 | .r c n::s=>Exit.then (Code.rounds P c (Ct P R s) n) (Ct P R s)
def Gt(P:bv)(R:Exit→Act→aj→Prop)(s:List Ko)(a:Act)(w:aj):Prop:=Ct P R s .normal a w
theorem aix{P:bv}{R:Exit→Act→aj→Prop}{a:Act}{w:aj}(h:R .ret a w):∀s,Ct P R s .ret a w
 | []=>h
 | .c _::s | .b _::s | .o _ _::s | .k _::s | .r _ _::s=>aix h s
/-! ### Values taken apart -/
def rO(v:ai)(f:IntKind→Int→Prop):Prop:=match v with | .int k m=>f k m | _=>False
def vvB(v:ai)(f:Bool→Prop):Prop:=match v with | .bool b=>f b | _=>False
def vvP(v:ai)(f:Addr→Prop):Prop:=match v with | .pointer (some a)=>f a | _=>False
def vvS(v:ai)(f:Option Addr→Nat→Nat→Prop):Prop:=match v with | .slice a n c=>f a n c | _=>False
def vvA(v:ai)(f:List ai→Prop):Prop:=match v with | .agg cs=>f cs.toList | _=>False
def vvT(v:ai)(f:List ai→Prop):Prop:=match v with | .tuple cs=>f cs.toList | _=>False
def Cf{α:Type}(o:Option α)(f:α→Prop):Prop:=match o with | some x=>f x | none=>False
def vbX(b:Bool)(p q:Prop):Prop:=match b with | true=>p | false=>q
def vnX(n:Nat)(p:Prop):Prop:=match n with | 0=>False | _+1=>p
def vnE:Nat→Nat→Prop→Prop→Prop
 | 0,0,p,_=>p
 | n+1,m+1,p,q=>vnE n m p q
 | _,_,_,q=>q
def Lx:List ai→Nat→(ai→Prop)→Prop
 | x::_,0,f=>f x
 | _::l,n+1,f=>Lx l n f
 | [],_,_=>False
def Hc:List ai→Nat→Prop
 | [],0=>True
 | _::l,n+1=>Hc l n
 | _,_=>False
theorem Ff:∀{l:List ai} {n:Nat},Hc l n→l.length=n
 | [],0,_=>rfl
 | _::l,n+1,h=>by rw[ay,Ff (l:=l) h]
theorem Pr:∀{l:List ai} {n:Nat} {f:ai→Prop},Lx l n f→∃v,l[n]? = some v∧f v
 | x::_,0,_,h=>⟨x,rfl,h⟩
 | _::l,n+1,_,h=>by rw[iz];exact Pr (l:=l) h
def Zu:List ai→Prop
 | []=>True
 | v::l=>v.oneCell'=true∧Zu l
theorem aeW:∀{l:List ai},Zu l→(l.all (·.oneCell'))=true
 | [],_=>rfl
 | v::l,h=>by rw[List.all_cons,h.1,aeW (l:=l) h.2];rfl
def InR(k:IntKind)(n:Int):Prop:=match k with
 | .i64=>-9223372036854775808≤n∧n<9223372036854775808
 | .i32=>-2147483648≤n∧n<2147483648
 | .u64=>0≤n∧n<18446744073709551616
 | .u32=>0≤n∧n<4294967296
 | .u8=>0≤n∧n<256
 | _=>False
theorem InR.wrap{k:IntKind}{n:Int}(h:InR k n):k.wrap n=n:=by
 cases k <;> first | exact h.elim | exact bG h.1 h.2 | exact ahG h.1 h.2 | exact Cl h.1 h.2 | exact ahF h.1 h.2 | exact alv h.1 h.2
/-! ### Types -/
def uB(P:bv)(T:av):Option (Bool × Nat):=match P.underlying T,P.info? T with
 | some d,some i=>some (Et d,i.size)
 | _,_=>none
theorem Ag{b:Bool}(h:uB P T=some (b,n)):eX P T b∧dH P T n:=by
 unfold uB at h;split at h
 · rename_i d i h1 h2
   cases h;exact⟨⟨d,h1,rfl⟩,⟨i,h2,rfl⟩⟩
 · cases h
def mX(P:bv)(T:av)(i:Nat):Option (Nat × Bool × Nat):=match P.underlying T with
 | some (.struct fs)=>match fs[i]? with
  | some f=>(uB P f.type).map fun x=>(f.offset,x)
  | none=>none
 | _=>none
theorem aeX{i o:Nat}{b:Bool}(h:mX P T i=some (o,b,n)):∃fs f,P.underlying T=some (.struct fs)∧fs[i]? = some f∧f.offset=o∧eX P f.type b∧dH P f.type n:=by
 unfold mX at h;split at h
 · rename_i fs hu
   split at h
   · rename_i f hf
     cases hs:uB P f.type with
     | none=>rw[hs] at h;cases h
     | some x =>
      obtain⟨b',n'⟩:=x;rw[hs] at h;cases h;exact⟨fs,f,hu,hf,rfl,(Ag hs).1,(Ag hs).2⟩
   · cases h
 · cases h
def ixP(P:bv)(T:av):Option (Option Nat × Nat):=match P.underlying T with
 | some (.array n E)=>(uB P E).map fun x=>(some n,x.2)
 | some (.slice E)=>(uB P E).map fun x=>(none,x.2)
 | _=>none
def Jd(P:bv)(T:av):Option av:=match P.underlying T with
 | some (.slice E)=>some E
 | _=>none
theorem al8{E:av}(h:Jd P T=some E):P.underlying T=some (.slice E):=by
 unfold Jd at h;split at h
 · rename_i E' hu;cases h;exact hu
 · cases h
def ikP(P:bv)(T:av):Option IntKind:=match P.underlying T with
 | some (.int k)=>some k
 | _=>none
theorem aiy{k:IntKind}(h:ikP P T=some k):P.underlying T=some (.int k):=by
 unfold ikP at h;split at h
 · rename_i k' hu;cases h;exact hu
 · cases h
def Ly(P:bv)(T:av):Option (List ai):=((P.info? T).bind (·.zero)).map (·.cells.toList)
theorem Zv{cs:List ai}(h:Ly P T=some cs):∃z,oS P T z∧z.cells=cs.toArray:=by
 unfold Ly at h;cases hz:(P.info? T).bind (·.zero) with
 | none=>rw[hz] at h;cases h
 | some z=>rw[hz] at h;cases h;exact⟨z,lD hz,by simp⟩
def Bu(P:bv)(T:av):Option (List (Nat × Nat) × List ai):=match P.underlying T,Ly P T with
 | some (.struct fs),some z=>(fs.toList.mapM fun (f:Field)=>(uB P f.type).map fun x=>(f.offset,x.2)).map fun l=>(l,z)
 | some (.array n E),some z=>(uB P E).map fun x=>((c_ n).map fun i=>(i*x.2,x.2),z)
 | _,_=>none
def Zw:List (Nat × Nat)→Nat→(Nat × Nat→Prop)→Prop
 | x::_,0,f=>f x
 | _::l,n+1,f=>Zw l n f
 | [],_,_=>False
def blV(l:List ai)(pl:List (Nat × Nat)):List (Nat × bz)→List ai→Prop→(Prop→List ai→Prop)→Prop
 | [],cs,q,f=>f q cs
 | (i,x)::ps,cs,q,f=>Zw pl i fun z=>vnX z.2 (blV l pl ps (over cs z.1 (ev l x).cells.toList) (Hc (ev l x).cells.toList z.2∧Hc ((cs.drop z.1).take z.2) z.2∧q) f)
/-! ### Operations -/
def vvX(n:Option Nat)(v:ai)(f:Addr→Nat→Prop):Prop:=match n with
 | some n=>vvP v fun a=>f a n
 | none=>vvS v fun A n _=>Cf A fun a=>f a n
abbrev KV:Type:=Prop→ai→List Nat→List It→Prop
variable{K:KV}
def cV(sc:List Nat)(p:Prop)[Decidable p](K:KV)(is:List It):Prop:=match sc with
 | 0::sc=>K True (.bool (decide p)) sc is
 | 1::sc=>K p (.bool true) sc is
 | 2::sc=>K (¬p) (.bool false) sc is
 | _=>False
def biV(b:BinOp)(x y:ai)(sc:List Nat)(is:List It)(K:KV):Prop:=match b with
 | .add=>rO x fun k m=>rO y fun k' n=>K (k'=k∧InR k (m+n)) (.int k (m+n)) sc is
 | .sub=>rO x fun k m=>rO y fun k' n=>K (k'=k∧InR k (m-n)) (.int k (m-n)) sc is
 | .mul=>rO x fun k m=>rO y fun k' n=>K (k'=k∧InR k (m*n)) (.int k (m*n)) sc is
 | .lss=>rO x fun k m=>rO y fun k' n=>cV sc (m<n) (fun p=>K (k'=k∧p)) is
 | .leq=>rO x fun k m=>rO y fun k' n=>cV sc (m≤n) (fun p=>K (k'=k∧p)) is
 | .gtr=>rO x fun k m=>rO y fun k' n=>cV sc (n<m) (fun p=>K (k'=k∧p)) is
 | .geq=>rO x fun k m=>rO y fun k' n=>cV sc (n≤m) (fun p=>K (k'=k∧p)) is
 | .eql=>rO x fun k m=>rO y fun k' n=>cV sc (m=n) (fun p=>K (k'=k∧p)) is
 | .neq=>rO x fun k m=>rO y fun k' n=>cV sc (m≠n) (fun p=>K (k'=k∧p)) is
 | _=>False
abbrev Ob:Type:=Nat × List ai × av
def atO:List Ob→Nat→(Ob→Prop)→Prop
 | x::_,0,f=>f x
 | _::l,n+1,f=>atO l n f
 | [],_,_=>False
def atB:List It→List Ob→Nat→(Ob→Prop)→Prop
 | i::_,_,0,f=>Cf i.bk f
 | _::is,os,n+1,f=>atB is os n f
 | [],os,n,f=>atO os n f
def atM:List It→Nat→(Ob→Prop)→Prop
 | i::_,0,f=>Cf i.bk f
 | _::is,n+1,f=>atM is n f
 | [],_,_=>False
theorem aiB:∀{os:List Ob} {k:Nat} {f:Ob→Prop},atO os k f→∃x∈os,f x
 | x::_,0,_,h=>⟨x,bh ..,h⟩
 | _::os,k+1,_,h=>let ⟨x,hx,hf⟩:=aiB (os:=os) h;⟨x,bg _ hx,hf⟩
theorem oY{o:Option α}{f:α→Prop}(h:Cf o f):∃x,o=some x∧f x:=by
 cases o with
 | none=>exact h.elim
 | some x=>exact⟨x,rfl,h⟩
theorem ads:∀{is:List It} {k:Nat} {f:Ob→Prop},atM is k f→∃i x,is[k]? = some i∧i.bk=some x∧f x
 | i::_,0,_,h=>let ⟨x,hx,hf⟩:=oY h;⟨i,x,rfl,hx,hf⟩
 | _::is,k+1,_,h=>by rw[iz];exact ads (is:=is) h
theorem aiC:∀{is:List It} {os:List Ob} {k:Nat} {f:Ob→Prop},atB is os k f→(∃i∈is,∃x,i.bk=some x∧f x)∨∃x∈os,f x
 | i::_,_,0,_,h=>let ⟨x,hx,hf⟩:=oY h;.inl ⟨i,bh ..,x,hx,hf⟩
 | _::is,os,k+1,_,h=>(aiC (is:=is) (os:=os) h).imp (fun⟨i,hi,r⟩=>⟨i,bg _ hi,r⟩) id
 | [],_,_,_,h=>.inr (aiB h)
def caV(P:bv)(l:List ai)(is:List It)(b:Builtin)(xs:List bz)(ts:List av)(sc:List Nat)(K:KV):Prop:=match b,xs,ts with
 | .len,[x],[T]=>Cf (Jd P T) fun _=>vvS (ev l x) fun _ n _=>K True (.int .i64 n) sc is
 | .min,[x,y],_=>rO (ev l x) fun k m=>rO (ev l y) fun k' n=>K (k'=k) (.int k (if n<m then n else m)) sc is
 | .max,[x,y],_=>rO (ev l x) fun k m=>rO (ev l y) fun k' n=>K (k'=k) (.int k (if m<n then n else m)) sc is
 | _,_,_=>False
def Gq(P:bv)(l:List ai)(is:List It)(os:List Ob)(pr:Bool)(op:Op)(sc:List Nat)(K:KV):Prop:=match op with
 | .move x=>K True (ev l x) sc is
 | .assign x=>K True (ev l x) sc is
 | .nilCheck x=>vvP (ev l x) fun a=>K True (.pointer (some a)) sc is
 | .pick c x y=>vvB (ev l c) fun b=>vbX b (K True (ev l x) sc is) (K True (ev l y) sc is)
 | .binOp b _ x y _=>biV b (ev l x) (ev l y) sc is K
 | .unOp .not _ x=>vvB (ev l x) fun b=>K True (.bool (!b)) sc is
 | .unOp .neg _ x=>rO (ev l x) fun k m=>K (InR k (0-m)) (.int k (0-m)) sc is
 | .convert T T' x=>Cf (ikP P T) fun _=>Cf (ikP P T') fun k=>rO (ev l x) fun _ m=>K (InR k m) (.int k m) sc is
 | .fieldAddr T x i=>Cf (mX P T i) fun f=>vvP (ev l x) fun a=>vnX f.2.2 (K True (.pointer (some (a.add f.1))) sc is)
 | .indexAddr T x y=>Cf (ixP P T) fun z=>vvX z.1 (ev l x) fun a n=>rO (ev l y) fun _ m=>K (0≤m∧m<n) (.pointer (some (a.add (m.toNat*z.2)))) sc is
 | .field T x i=>Cf (mX P T i) fun f=>vvA (ev l x) fun cs=>vbX f.2.1 (K True (.agg ((cs.drop f.1).take f.2.2).toArray) sc is) (Lx cs f.1 fun v=>K True v sc is)
 | .build T parts=>Cf (Bu P T) fun z=>blV l z.1 parts.toList z.2 True fun q cs=>K q (.agg cs.toArray) sc is
 | .extract x i=>vvT (ev l x) fun cs=>Lx cs i fun v=>K True v sc is
 | .load T x=>match sc with
  | k::sc=>Cf (uB P T) fun z=>vvP (ev l x) fun a=>atB is os k fun g=>vbX z.1 (K (a=⟨g.1,a.off,none⟩∧Hc ((g.2.1.drop a.off).take z.2) z.2) (.agg ((g.2.1.drop a.off).take z.2).toArray) sc is) (Lx g.2.1 a.off fun v=>K (a=⟨g.1,a.off,none⟩) v sc is)
  | []=>False
 | .box T x=>vbX pr False (∀g,K True (.pointer (some ⟨g,0,none⟩)) sc (bI g (ev l x).cells.toList T::is))
 | .alloc T=>vbX pr False (Cf (Ly P T) fun z=>∀g,K True (.pointer (some ⟨g,0,none⟩)) sc (bI g z T::is))
 | .call c=>match c.callee with
  | .builtin b=>caV P l is b c.args.toList c.argTypes.toList sc K
  | _=>False
 | _=>False
def stV(P:bv)(l:List ai)(is:List It)(pr:Bool)(op:Op)(sc:List Nat)(K:KV):Prop:=match op,sc with
 | .store T x y,k::sc=>vbX pr False (Cf (uB P T) fun z=>vnX z.2 (vvP (ev l x) fun a=>atM is k fun g=>K (a=⟨g.1,a.off,none⟩∧Hc ((g.2.1.drop a.off).take z.2) z.2∧Hc (ev l y).cells.toList z.2∧Zu (ev l y).cells.toList) undef sc (is.set k (bI g.1 (over g.2.1 a.off (ev l y).cells.toList) g.2.2))))
 | _,_=>False
def vyv(ops:List Oper)(l:List ai)(j:Nat):ai:=match ops[j]? with
 | some o=>match o.dst with
  | some d=>l.getD d undef
  | none=>undef
 | none=>undef
def vvG(v:ai)(b:Bool)(p q:Prop):Prop:=match v with
 | .bool c=>if c=b then p else q
 | .tuple _=>q
 | _=>False
def Rz(ops:Array Oper)(l:List ai)(g:Option (Nat × Bool))(p q:Prop):Prop:=match g with
 | none=>p
 | some (j,b)=>vvG (vyv ops.toList l j) b p q
def Uu(id:Nat):List Ko→(List Ko→Prop)→Prop
 | .b j::s,f=>vnE id j (f s) (Uu id s f)
 | .c _::s,f=>Uu id s f
 | .o _ _::s,f=>Uu id s f
 | .k _::s,f=>Uu id s f
 | .r _ _::s,f=>Uu id s f
 | [],_=>False
abbrev Kw:Type:=Option (Bool × aj)
def kr:Bool→aj→aj→Prop
 | true,v,w=>v=w
 | false,v,w=>gJ v w
def kpt(k:Kw)(w:aj):Prop:=∀b v,k=some (b,v)→kr b v w
def kpb:Kw→Bool
 | some (b,_)=>b
 | none=>false
def aiE(w0:aj)(is:List It)(X:aj→Prop):Kw→Prop
 | some (true,v)=>X v
 | k=>∀w,Mem w0 w is→kpt k w→X w
theorem aeZ{w:aj}{X:aj→Prop}{k:Kw}(h:aiE w0 is X k)(m:Mem w0 w is)(hk:kpt k w):X w:=by
 rcases k with _ | ⟨b,v⟩
 · exact h w m hk
 · cases b
   · exact h w m hk
   · have e:v=w:=hk true v rfl
     exact e▸h
def V(P:bv)(R:Exit→Act→aj→Prop)(w0:aj)(ds:List dw)(kw:Kw):Nat→List Nat→Prop→List Ko→List ai→List It→Prop
 | 0,_,q,s,l,is=>q∧aiE w0 is (Gt P R s (Fr l ds)) kw
 | n+1,sc,q,.b _::s,l,is=>V P R w0 ds kw n sc q s l is
 | n+1,sc,q,.o _ []::s,l,is=>V P R w0 ds kw n sc q s l is
 | n+1,sc,q,.o ops (o::rest)::s,l,is=>match o.dst with
  | some d=>Rz ops l o.guard (Gq P l is [] (kpb kw) o.op sc fun vc v sc is=>V P R w0 ds kw n sc (vc∧q) (.o ops rest::s) (l.set d v) is) (V P R w0 ds kw n sc q (.o ops rest::s) (l.set d undef) is)
  | none=>Rz ops l o.guard (stV P l is kw.isSome o.op sc fun vc _ sc is=>V P R w0 ds kw n sc (vc∧q) (.o ops rest::s) l is) (V P R w0 ds kw n sc q (.o ops rest::s) l is)
 | n+1,sc,q,.c c::s,l,is=>match c with
  | .seq a b=>V P R w0 ds kw n sc q (.c a :: .c b::s) l is
  | .skip=>V P R w0 ds kw n sc q s l is
  | .block id c=>V P R w0 ds kw n sc q (.c c :: .b id::s) l is
  | .exit id=>Uu id s fun s=>V P R w0 ds kw n sc q s l is
  | .ret=>q∧aiE w0 is (R .ret (Fr l ds)) kw
  | .cond x a b=>vvB (ev l x) fun t=>vbX t (V P R w0 ds kw n sc q (.c a::s) l is) (V P R w0 ds kw n sc q (.c b::s) l is)
  | .region _ ops d=>vbX d False (V P R w0 ds kw n sc q (.o ops ops.toList::s) l is)
  | .loop c=>match sc with
   | k::sc=>V P R w0 ds kw n sc q (.r c k::s) l is
   | []=>False
  | _=>False
 | n+1,sc,q,.r c (k+1)::s,l,is=>V P R w0 ds kw n sc q (.c c :: .r c k::s) l is
 | _,_,_,_,_,_=>False
theorem sT{v:ai}{f:IntKind→Int→Prop}(h:rO v f):∃k m,v=.int k m∧f k m:=by
 cases v <;> first | exact h.elim | exact⟨_,_,rfl,h⟩
theorem adt{v:ai}{f:Bool→Prop}(h:vvB v f):∃b,v=.bool b∧f b:=by
 cases v <;> first | exact h.elim | exact⟨_,rfl,h⟩
theorem Lz{v:ai}{f:Addr→Prop}(h:vvP v f):∃a,v=.pointer (some a)∧f a:=by
 cases v with
 | pointer a=>cases a with
  | none=>exact h.elim
  | some a=>exact⟨_,rfl,h⟩
 | _=>exact h.elim
theorem aiF{v:ai}{f:Option Addr→Nat→Nat→Prop}(h:vvS v f):∃a n c,v=.slice a n c∧f a n c:=by
 cases v <;> first | exact h.elim | exact⟨_,_,_,rfl,h⟩
theorem apg{v:ai}{f:List ai→Prop}(h:vvA v f):∃cs,v=.agg cs∧f cs.toList:=by
 cases v <;> first | exact h.elim | exact⟨_,rfl,h⟩
theorem aph{v:ai}{f:List ai→Prop}(h:vvT v f):∃cs,v=.tuple cs∧f cs.toList:=by
 cases v <;> first | exact h.elim | exact⟨_,rfl,h⟩
theorem Zx{p:Prop}(h:vnX n p):∃m,n=m+1∧p:=by
 cases n with
 | zero=>exact h.elim
 | succ m=>exact⟨m,rfl,h⟩
theorem aiG:∀{n m:Nat} {p q:Prop},vnE n m p q→(n=m∧p)∨(n≠m∧q)
 | 0,0,_,_,h=>.inl ⟨rfl,h⟩
 | n+1,m+1,_,_,h=>(aiG (n:=n) (m:=m) h).imp (fun⟨e,h⟩=>⟨by rw[e],h⟩) fun⟨e,h⟩=>⟨fun c=>e (Nat.succ.inj c),h⟩
 | 0,_+1,_,_,h=>.inr ⟨fun c=>(by cases c),h⟩
 | _+1,0,_,_,h=>.inr ⟨fun c=>(by cases c),h⟩
section
variable {P:bv} {l:List ai} {is:List It} {os:List Ob} {w0:aj} {ds:List dw}
def Yd(P:bv)(l:List ai)(is:List It)(w0:aj)(op:Op)(v:ai):Prop:=∀w,Mem w0 w is→∀ty,Bq P l op ty v w
theorem pF{v:ai}(h:∀ty,iB P l op ty v):Yd P l is w0 op v:=fun w _ ty=>h ty w
theorem arQ{sc:List Nat}{p:Prop}[Decidable p]{is':List It}(h:cV sc p (fun p=>K (q∧p)) is'):∃vc v sc',K (q∧vc) v sc' is'∧(vc→∀{X:ai→Prop},(X (.bool (decide p)))→X v):=by
 unfold cV at h;split at h
 · exact⟨_,_,_,h,fun _ _ hX=>hX⟩
 · exact⟨_,_,_,h,fun hp X hX=>by rwa [decide_eq_true hp] at hX⟩
 · exact⟨_,_,_,h,fun hp X hX=>by rwa [decide_eq_false hp] at hX⟩
 · exact h.elim
theorem api{b:BinOp}{x y:bz}{T':av}{sc:List Nat}(h:biV b (ev l x) (ev l y) sc is K):∃vc v sc',K vc v sc' is∧(vc→Yd P l is w0 (.binOp b T x y T') v):=by
 cases b
 case add | sub | mul =>
  obtain⟨k,m,hx,h⟩:=sT h;obtain⟨k',n,hy,h⟩:=sT h;refine⟨_,_,_,h,fun⟨e,hr⟩=>pF fun ty=>?_⟩;subst e
  first | exact eS hx hy hr.wrap | exact Gd hx hy hr.wrap | exact tC hx hy hr.wrap
 case lss | leq | gtr | geq | eql | neq =>
  obtain⟨k,m,hx,h⟩:=sT h;obtain⟨k',n,hy,h⟩:=sT h;obtain⟨vc,v,sc',h,hX⟩:=arQ h;refine⟨_,_,_,h,fun⟨e,hv⟩=>?_⟩;subst e;refine hX hv (X:=fun v=>Yd P l is w0 _ v) (pF fun ty=>?_)
  first | exact Ge hx hy | exact aa6 hx hy | exact aa7 hx hy | exact arA hx hy | exact xP hx hy | exact tD hx hy
 all_goals exact h.elim
theorem apj{b:Builtin}{xs:List bz}{ts:List av}{sc:List Nat}(h:caV P l is b xs ts sc K):∃vc v sc',K vc v sc' is∧(vc→Yd P l is w0 (.call { callee:=.builtin b,args:=xs.toArray,argTypes:=ts.toArray }) v):=by
 unfold caV at h;split at h
 · obtain⟨E,hE,h⟩:=oY h
   obtain⟨a,n,c,hx,h⟩:=aiF h;exact⟨_,_,_,h,fun _=>pF fun ty=>Lh rfl (al8 hE) hx⟩
 · obtain⟨k,m,hx,h⟩:=sT h
   obtain⟨k',n,hy,h⟩:=sT h;refine⟨_,_,_,h,fun e=>pF fun ty=>?_⟩;subst e;exact arB hx hy rfl
 · obtain⟨k,m,hx,h⟩:=sT h
   obtain⟨k',n,hy,h⟩:=sT h;refine⟨_,_,_,h,fun e=>pF fun ty=>?_⟩;subst e;exact xR hx hy rfl
 · exact h.elim
theorem amd{k:Nat}{f:Ob→Prop}(hos:∀x∈os,gT w0 x.1 x.2.1 x.2.2)(h:atB is os k f):∃x:Ob,(∀w,Mem w0 w is→gT w x.1 x.2.1 x.2.2)∧f x:=by
 rcases aiC h with ⟨i,hi,x,hx,hf⟩ | ⟨x,hx,hf⟩
 · exact⟨x,fun w m=>(i.bkP x hx).2 w (m.all i hi),hf⟩
 · exact⟨x,fun w m=>(hos x hx).ext m.ext,hf⟩
theorem Zy(cs:Array ai)(o n:Nat):cs.extract o (o+n)=((cs.toList.drop o).take n).toArray:=by
 apply Array.ext';simp
theorem ae0:∀{l:List (Nat × Nat)} {n:Nat} {f:Nat × Nat→Prop},Zw l n f→∃z,l[n]? = some z∧f z
 | x::_,0,_,h=>⟨x,rfl,h⟩
 | _::l,n+1,_,h=>by rw[iz];exact ae0 (l:=l) h
theorem agt{cs us:List ai}{o:Nat}{c:ai}(h:o<cs.length):over (cs.set o c) (o+1) us=over cs o (c::us):=by
 unfold over;have e1:(cs.set o c).take (o+1)=cs.take o++[c]:=by
  rw[nt,List.take_set_of_le (ao o),List.getElem?_set_self h];rfl
 have e2:(cs.set o c).drop (o+1+us.length)=cs.drop (o+(us.length+1)):=by
  rw[List.drop_set_of_lt (by omega)]
  congr 1
  omega
 rw[e1,e2];simp
theorem Ww:∀(us:List ai) (off k:Nat) (cs:Array ai),off+k+us.length≤cs.size →
 (us.zipIdx k).foldl (fun (cs:Array ai) (x:ai × Nat)=>cs.setIfInBounds (off+x.2) x.1) cs=(over cs.toList (off+k) us).toArray
 | [],off,k,cs,h=>by simp[over]
 | c::us,off,k,cs,h=>by
  simp only[ay] at h;rw[List.zipIdx_cons,jv,Ww us off (k+1) _ (by simp;omega),←agt (by simp;omega)];simp[Nat.add_assoc]
theorem agu{place:Nat→Option (Nat × Nat)}{cells:Array ai}{i off size:Nat}{v:ai}{rest:List (Nat × ai)}(hp:place i=some (off,size))(hs:v.cells.size=size)(hf:off+size≤cells.size) :
 Instr.fill place cells ((i,v)::rest)=Instr.fill place (over cells.toList off v.cells.toList).toArray rest:=by
 have hc:¬(v.cells.size≠size||off+v.cells.size>cells.size)=true:=by simp;omega
 have hfo:=Ww v.cells.toList off 0 cells (by simp;omega);rw[Instr.fill];simp only[hp];rw[if_neg hc]
 congr 1
 rw[←Array.foldl_toList,Array.toList_zipIdx];exact hfo
theorem aiH{pl:List (Nat × Nat)}:∀{ps:List (Nat × bz)} {cs:List ai} {q:Prop} {f:Prop→List ai→Prop},blV l pl ps cs q f →
 ∃q' cs',f q' cs'∧(q'→q∧Instr.fill (fun i=>pl[i]?) cs.toArray (ps.map fun x=>(x.1,ev l x.2))=some cs'.toArray)
 | [],cs,q,f,h=>⟨q,cs,h,fun hq=>⟨hq,rfl⟩⟩
 | (i,x)::ps,cs,q,f,h=>by
  obtain⟨z,hz,h⟩:=ae0 h;obtain⟨k,hk,h⟩:=Zx h;obtain⟨q',cs',hf,hq⟩:=aiH h;refine⟨q',cs',hf,fun h=>?_⟩;obtain⟨⟨h1,h2,hq0⟩,hfl⟩:=hq h;have h1:=Ff h1;have h2:=Ff h2;rw[bw,fm] at h2;refine⟨hq0,?_⟩;rw[bp,agu (off:=z.1) (size:=z.2) (by rw[hz]) (by simpa using h1) ?_]
  · exact hfl
  · simp
    omega
theorem Wx{p p':Nat→Option (Nat × Nat)}(h:∀i x,p i=some x→p' i=some x):∀{l:List (Nat × ai)} {cells cs:Array ai},Instr.fill p cells l=some cs→Instr.fill p' cells l=some cs
 | [],_,_,e=>e
 | (i,v)::l,cells,cs,e=>by
  rw[Instr.fill] at e ⊢;cases hp:p i with
  | none=>rw[hp] at e;cases e
  | some x =>
   rw[hp] at e;rw[h i x hp];simp only at e ⊢;split at e
   · cases e
   · rename_i hc
     rw[if_neg hc];exact Wx h e
theorem Sa{P:bv}:∀{fs:List Field} {l:List (Nat × Nat)},fs.mapM (fun (f:Field)=>(uB P f.type).map fun x=>(f.offset,x.2))=some l→∀w,(fs.mapM fun f=>do pure (f.offset,←sizeOf f.type):Sem (List (Nat × Nat))).run P w=.ok l w
 | [],l,h,w=>by
  rw[List.mapM_nil] at h ⊢;cases h;rfl
 | f::fs,l,h,w=>by
  rw[List.mapM_cons] at h ⊢;cases hs:uB P f.type with
  | none=>rw[hs] at h;cases h
  | some x =>
   obtain⟨b,n⟩:=x;rw[hs] at h;cases hm:fs.mapM (fun (f:Field)=>(uB P f.type).map fun x=>(f.offset,x.2)) with
   | none=>simp[hm] at h
   | some l' =>
    simp[hm] at h;subst h;have hr:=Sa hm w;simp only[bind_pure_comp] at hr;simp[eC (Ag hs).2,hr]
theorem ame{P:bv}{pl:List (Nat × Nat)}{z:List ai}(h:Bu P T=some (pl,z)){vs:Array (Nat × ai)}{cs:List ai}(hf:Instr.fill (fun i=>pl[i]?) z.toArray vs.toList=some cs.toArray)(w:aj):(Instr.build T vs).run P w=.ok (.agg cs.toArray) w:=by
 unfold Bu at h;split at h
 · rename_i fs z' hu hz
   obtain⟨z0,hz0,hzc⟩:=Zv hz;cases hm:fs.toList.mapM (fun (f:Field)=>(uB P f.type).map fun x=>(f.offset,x.2)) with
   | none=>rw[hm] at h;cases h
   | some l' =>
    rw[hm] at h;cases h;refine iL (places:=pl.toArray) hu hz0 (fun w=>?_) (by rw[hzc];simpa using hf) w;have hr:=Sa hm w;rw[ip];simp only[bind_pure_comp] at hr ⊢;simp[hr]
 · rename_i n E z' hu hz
   obtain⟨z0,hz0,hzc⟩:=Zv hz;cases hs:uB P E with
   | none=>rw[hs] at h;cases h
   | some x =>
    obtain⟨b,c⟩:=x;rw[hs] at h;cases h;refine oO hu hz0 (Ag hs).2 ?_ w;rw[hzc];refine Wx (fun i x hx=>?_) hf;rw[eh] at hx;cases hr:(c_ n)[i]? with
    | none=>rw[hr] at hx;cases hx
    | some j =>
     rw[hr] at hx;have:=ap.1 hr;obtain⟨h1,h2⟩:=this;rw[List.getElem_range] at h2;subst h2;cases hx;rfl
 · cases h
def Bx(P:bv)(l:List ai)(is:List It)(w0:aj)(ds:List dw)(op:Op)(cs:List ai)(T:av):Prop:=∀(d:Nat) (ty:av) (pos:String) (af:Array Edge) (ops:Array Oper) (Q:Exit→Act→aj→Prop) (rest:List Oper) (w:aj),Mem w0 w is→(∀g u,gJ w u→Mem w0 u (bI g cs T::is)→au P ops Q rest (Fr (l.set d (.pointer (some ⟨g,0,none⟩))) ds) u)→au P ops Q (bx (some d) op ty pos af none::rest) (Fr l ds) w
theorem Zz{pr:Bool}{op:Op}{sc:List Nat}{K:KV}(hos:∀x∈os,gT w0 x.1 x.2.1 x.2.2)(h:Gq P l is os pr op sc K) :
 (∃vc v sc',K vc v sc' is∧(vc→Yd P l is w0 op v))∨(pr=false∧∃cs T,(∀g,K True (.pointer (some ⟨g,0,none⟩)) sc (bI g cs T::is))∧Bx P l is w0 ds op cs T):=by
 unfold Gq at h;split at h
 · exact .inl ⟨_,_,_,h,fun _=>pF fun ty=>aG⟩
 · exact .inl ⟨_,_,_,h,fun _=>pF fun ty=>aP⟩
 · obtain⟨a,hx,h⟩:=Lz h
   exact .inl ⟨_,_,_,h,fun _=>pF fun ty=>cY hx⟩
 · obtain⟨b,hc,h⟩:=adt h
   cases b
   · exact .inl ⟨_,_,_,h,fun _=>pF fun ty=>tR hc⟩
   · exact .inl ⟨_,_,_,h,fun _=>pF fun ty=>rL hc⟩
 · exact .inl (api h)
 · obtain⟨b,hx,h⟩:=adt h
   exact .inl ⟨_,_,_,h,fun _=>pF fun ty=>pL hx⟩
 · obtain⟨k,m,hx,h⟩:=sT h
   exact .inl ⟨_,_,_,h,fun hr=>pF fun ty=>wH hx hr.wrap⟩
 · obtain⟨k1,h1,h⟩:=oY h
   obtain⟨k2,h2,h⟩:=oY h;obtain⟨k,m,hx,h⟩:=sT h;exact .inl ⟨_,_,_,h,fun hr=>pF fun ty=>mU (aiy h2) (aiy h1) hx hr.wrap⟩
 · obtain⟨f,hf,h⟩:=oY h
   obtain⟨a,hx,h⟩:=Lz h;obtain⟨m,hm,h⟩:=Zx h;obtain⟨o,b,n⟩:=f;obtain⟨fs,f,h1,h2,h3,h4,h5⟩:=aeX hf;simp only at hm h;rw[hm] at h5;exact .inl ⟨_,_,_,h,fun _=>pF fun ty=>bH h1 h2 h5 hx (by rw[h3])⟩
 · obtain⟨⟨z,c⟩,hz,h⟩:=oY h
   unfold ixP at hz;split at hz
   · rename_i n E hu
     cases hs:uB P E with
     | none=>rw[hs] at hz;cases hz
     | some x =>
      obtain⟨b,c'⟩:=x;rw[hs] at hz;cases hz;obtain⟨a,hx,h⟩:=Lz (show vvP _ _ from h);obtain⟨k,m,hy,h⟩:=sT h;exact .inl ⟨_,_,_,h,fun hv=>pF fun ty=>aJ hu (Ag hs).2 hx hy hv.1 hv.2 rfl⟩
   · rename_i E hu
     cases hs:uB P E with
     | none=>rw[hs] at hz;cases hz
     | some x =>
      obtain⟨b,c'⟩:=x;rw[hs] at hz;cases hz;obtain⟨A,n,cp,hx,h⟩:=aiF (show vvS _ _ from h);obtain⟨a,rfl,h⟩:=oY h;obtain⟨k,m,hy,h⟩:=sT h;exact .inl ⟨_,_,_,h,fun hv=>pF fun ty=>aF hu (Ag hs).2 hx hy hv.1 hv.2 rfl⟩
   · cases hz
 · obtain⟨f,hf,h⟩:=oY h
   obtain⟨cs,hx,h⟩:=apg h;obtain⟨o,b,n⟩:=f;obtain⟨fs,f,h1,h2,h3,h4,h5⟩:=aeX hf;simp only at h;cases b
   · obtain⟨v,hv,h⟩:=Pr h
     exact .inl ⟨_,_,_,h,fun _=>pF fun ty=>ahH h1 h2 h4 hx (by rw[h3];simpa using hv)⟩
   · exact .inl ⟨_,_,_,h,fun _=>pF fun ty=>ahI h1 h2 h4 h5 hx (by rw[h3];exact Zy _ _ _)⟩
 · obtain⟨⟨pl,z⟩,hz,h⟩:=oY h
   obtain⟨q,cs,h,hq⟩:=aiH h;exact .inl ⟨_,_,_,h,fun hv=>pF fun ty=>rK rfl (ame hz (by simpa using (hq hv).2))⟩
 · obtain⟨cs,hx,h⟩:=aph h
   obtain⟨v,hv,h⟩:=Pr h;exact .inl ⟨_,_,_,h,fun _=>pF fun ty=>fB hx (by simpa using hv)⟩
 · split at h
   · obtain⟨z,hz,h⟩:=oY h
     obtain⟨a,hx,h⟩:=Lz h;obtain⟨g,hB,h⟩:=amd hos h;obtain⟨b,n⟩:=z;have hA:=(Ag hz).1;have hC:=(Ag hz).2;cases b
     · obtain⟨v,hv,h⟩:=Pr h
       exact .inl ⟨_,_,_,h,fun e w m ty=>aZ hx (by rw[e];exact (hB w m).lies1 hA hv)⟩
     · exact .inl ⟨_,_,_,h,fun e w m ty=>aZ hx (by rw[e.1];exact (hB w m).lies hA hC rfl (Ff e.2))⟩
   · exact h.elim
 · cases pr
   · refine .inr ⟨rfl,_,_,h,fun d ty pos af ops Q rest w m hk=>ahE (by simp) fun u g e hg hB=>hk g u e (m.newB e hg hB)⟩
   · exact h.elim
 · cases pr
   · obtain⟨cs,hz,h⟩:=oY (show Cf _ _ from h)
     obtain⟨z,h1,h2⟩:=Zv hz;refine .inr ⟨rfl,_,_,h,fun d ty pos af ops Q rest w m hk=>Eu h1 h2 fun u g e hg hB=>hk g u e (m.newB e hg hB)⟩
   · exact h.elim
 · rename_i c
   split at h
   · rename_i b hb
     obtain⟨ce,xs,ts⟩:=c;simp only at hb h;subst hb;have:=apj (w0:=w0) h;simpa using Or.inl this
   · exact h.elim
 · exact h.elim
theorem aiI{pr:Bool}{sc:List Nat}(h:stV P l is pr op sc K):pr=false∧∃vc sc' is',K vc undef sc' is'∧(vc→∀(ty:av) (pos:String) (af:Array Edge) (ops:Array Oper) (Q:Exit→Act→aj→Prop) (rest:List Oper) (w:aj),Mem w0 w is→(∀u,Mem w0 u is'→au P ops Q rest (Fr l ds) u)→au P ops Q (bx none op ty pos af none::rest) (Fr l ds) w):=by
 unfold stV at h;split at h
 · rename_i T x y k sc
   cases pr with
   | true=>exact h.elim
   | false =>
   obtain⟨z,hz,h⟩:=oY (show Cf _ _ from h);obtain⟨n,hn,h⟩:=Zx h;obtain⟨a,hx,h⟩:=Lz h;obtain⟨i,g,hi,hb,h⟩:=ads h;obtain⟨b,z⟩:=z;refine⟨rfl,_,_,_,h,fun⟨e,h1,h2,h3⟩ ty pos af ops Q rest w m hk=>?_⟩;have hC:=(Ag hz).2;have h1:=Ff h1;have h2:=Ff h2;simp only at hn h1 h2;have hP:=i.bkP g hb;have hB:=hP.2 w (m.all i (bj hi));rw[e] at hx;refine yW hx (us:=(ev l y).cells.toList) (by simp) (by rw[h2];exact hC) hB ?_ (jX (aeW h3)) fun u hc hB'=>hk u (m.put k hi hc.os hc.tape hc.output (by rw[hc.size];exact ao _) (fun b _ hne=>hc.block b fun e=>hne ((hP.1 b).2 e)) hB' (.inl fun b hb=>(hP.1 b).2 (by cases hb;rfl)));rw[bw,fm] at h1;omega
 · exact h.elim
theorem apk{v:ai}{b:Bool}{p:Prop}(h:vvG v b p q):(v=.bool b∧p)∨((∀c,v=.bool c→(c == b)=false)∧q):=by
 cases v with
 | bool c =>
  unfold vvG at h;simp only at h;split at h
  · rename_i e;exact .inl ⟨by rw[e],h⟩
  · rename_i e;exact .inr ⟨fun c' e'=>by cases e';simpa using e,h⟩
 | tuple=>exact .inr ⟨fun c e=>(by cases e),h⟩
 | _=>exact h.elim
theorem amf{j:Nat}{b:Bool}(h:vyv ops.toList l j=.bool b):yielded ops l.toArray j=some b:=by
 unfold vyv at h;unfold yielded;simp only[fx] at h;cases ho:ops[j]? with
 | none=>rw[ho] at h;cases h
 | some o =>
  rw[ho] at h;simp only at h;cases hd:o.dst with
  | none=>rw[hd] at h;cases h
  | some d =>
   rw[hd] at h;simp only[ej] at h;simp only[iu,hd,ky];cases hv:l[d]? with
   | none=>rw[hv] at h;cases h
   | some v=>rw[hv] at h;simp only[dx] at h;rw[h]
theorem apl{j:Nat}{b:Bool}(h:yielded ops l.toArray j=some b):vyv ops.toList l j=.bool b:=by
 unfold yielded at h;unfold vyv;simp only[fx];cases ho:ops[j]? with
 | none=>rw[ho] at h;cases h
 | some o =>
  rw[ho] at h;simp only[iu] at h ⊢;cases hd:o.dst with
  | none=>rw[hd] at h;cases h
  | some d =>
   rw[hd] at h;simp only[iu,ky] at h;simp only[ej];cases hv:l[d]? with
   | none=>rw[hv] at h;cases h
   | some v =>
    rw[hv] at h;simp only[dx];cases v <;> first | (cases h;done) | (cases h;rfl)
theorem Ma{g:Option (Nat × Bool)}{p:Prop}(h:Rz ops l g p q):(p∧∀d op ty pos af,Region.wanted (bx d op ty pos af g) (yielded ops l.toArray)=true)∨(q∧∀d op ty pos af,Region.wanted (bx d op ty pos af g) (yielded ops l.toArray)=false):=by
 cases g with
 | none=>exact .inl ⟨h,fun _ _ _ _ _=>rfl⟩
 | some g =>
  obtain⟨j,b⟩:=g;rcases apk h with ⟨e,h⟩ | ⟨e,h⟩
  · exact .inl ⟨h,fun _ _ _ _ _=>by simp[Region.wanted,amf e]⟩
  · refine .inr ⟨h,fun _ _ _ _ _=>?_⟩
    cases hy:yielded ops l.toArray j with
    | none=>simp[Region.wanted,hy]
    | some c=>simpa[Region.wanted,hy] using e c (apl hy)
theorem pG{ops:Array Oper}{Q:Exit→Act→aj→Prop}{rest:List Oper}{d:Option Nat}{op:Op}{ty:av}{pos:String}{af:Array Edge}{g:Option (Nat × Bool)}{w:aj}(hw:Region.wanted (bx d op ty pos af g) (yielded ops l.toArray)=true)
 (h:au P ops Q (bx d op ty pos af none::rest) (Fr l ds) w):au P ops Q (bx d op ty pos af g::rest) (Fr l ds) w:=by
 unfold au at h ⊢;rw[if_pos (by simp[Region.wanted])] at h;rw[if_pos hw];exact h
theorem wK{ops:Array Oper}{Q:Exit→Act→aj→Prop}{rest:List Oper}{o:Oper}{w:aj}(hw:Region.wanted o (yielded ops l.toArray)=false)
 (h:au P ops Q rest ((Fr l ds).put o.dst undef) w):au P ops Q (o::rest) (Fr l ds) w:=by
 unfold au;rw[if_neg (by rw[hw];simp)];exact h
theorem aaa{R:Exit→Act→aj→Prop}{id:Nat}{a:Act}{w:aj}{G:List Ko→Prop}:∀{s:List Ko},Uu id s G→∃s',G s'∧(Ct P R s' .normal a w→Ct P R s (.exit id) a w)
 | .b j::s,h=>by
  rcases aiG h with ⟨e,h⟩ | ⟨e,h⟩
  · refine⟨s,h,fun hs=>?_⟩
    show di j (Ct P R s) (.exit id) a w
    simp only[di];rw[if_pos e];exact hs
  · obtain⟨s',hG,hs⟩:=aaa (R:=R) (a:=a) (w:=w) h
    refine⟨s',hG,fun h=>?_⟩;show di j (Ct P R s) (.exit id) a w
    simp only[di];rw[if_neg e];exact hs h
 | .c _::s,h | .o _ _::s,h | .k _::s,h | .r _ _::s,h=>let ⟨s',hG,hs⟩:=aaa (R:=R) (a:=a) (w:=w) (s:=s) h;⟨s',hG,fun h=>hs h⟩
 | [],h=>h.elim
theorem abB:∀x∈([]:List Ob),gT w0 x.1 x.2.1 x.2.2:=fun _ h=>(by cases h)
theorem amg{k:Kw}{w u:aj}(hp:kpb k=false)(h:kpt k w)(e:gJ w u):kpt k u:=by
 intro b v hk;subst hk;have hb:b=false:=hp;subst hb;exact gJ.trans (h false v rfl) e
theorem rC{R:Exit→Act→aj→Prop}(kw:Kw):∀(n:Nat) (sc:List Nat) (q:Prop) (s:List Ko) (l:List ai) (is:List It),V P R w0 ds kw n sc q s l is→q∧∀w,Mem w0 w is→kpt kw w→Gt P R s (Fr l ds) w
 | 0,_,_,_,_,_,h=>⟨h.1,fun _ m hk=>aeZ h.2 m hk⟩
 | n+1,sc,q,.b _::s,l,is,h=>rC kw n sc q s l is h
 | n+1,sc,q,.o _ []::s,l,is,h=>rC kw n sc q s l is h
 | n+1,sc,q,.o ops (⟨some d,op,ty,pos,af,g⟩::rest)::s,l,is,h=>by
  rcases Ma (show Rz _ _ _ _ _ from h) with ⟨h,hw⟩ | ⟨h,hw⟩
  · rcases Zz (ds:=ds) abB h with ⟨vc,v,sc',h,hy⟩ | ⟨hpr,cs,T,h,hb⟩
    · obtain⟨⟨hv,hq⟩,hk⟩:=rC kw n _ _ _ _ _ h
      exact⟨hq,fun w m hkp=>pG (hw _ _ _ _ _) (gK (hy hv w m ty) (hk w m hkp))⟩
    · exact⟨(rC kw n _ _ _ _ _ (h 0)).1.2,fun w m hkp=>pG (hw _ _ _ _ _) (hb d ty pos af ops _ rest w m fun g u e mu=>(rC kw n _ _ _ _ _ (h g)).2 u mu (amg hpr hkp e))⟩
  · obtain⟨hq,hk⟩:=rC kw n _ _ _ _ _ h
    exact⟨hq,fun w m hkp=>wK (hw _ _ _ _ _) (by rw[iE];exact hk w m hkp)⟩
 | n+1,sc,q,.o ops (⟨none,op,ty,pos,af,g⟩::rest)::s,l,is,h=>by
  rcases Ma (show Rz _ _ _ _ _ from h) with ⟨h,hw⟩ | ⟨h,hw⟩
  · obtain⟨hpr,vc,sc',is',h,hy⟩:=aiI (w0:=w0) (ds:=ds) h
    obtain⟨⟨hv,hq⟩,hk⟩:=rC kw n _ _ _ _ _ h;exact⟨hq,fun w m hkp=>pG (hw _ _ _ _ _) (hy hv ty pos af ops _ rest w m fun u mu=>hk u mu fun b v e=>(by rw[e] at hpr;cases hpr))⟩
  · obtain⟨hq,hk⟩:=rC kw n _ _ _ _ _ h
    exact⟨hq,fun w m hkp=>wK (hw _ _ _ _ _) (hk w m hkp)⟩
 | n+1,sc,q,.c c::s,l,is,h=>by
  cases c with
  | seq a b=>exact (rC kw n _ _ _ _ _ h).imp id fun hk w m hkp=>wp_seq (hk w m hkp)
  | skip=>exact (rC kw n _ _ _ _ _ h).imp id fun hk w m hkp=>wp_skip (hk w m hkp)
  | block id c=>exact (rC kw n _ _ _ _ _ h).imp (fun h=>h) fun hk w m hkp=>wp_block (hk w m hkp)
  | exit id =>
   refine⟨?_,fun w m hkp=>?_⟩
   · obtain⟨s',hG,_⟩:=aaa (P:=P) (R:=R) (a:=Fr l ds) (w:=w0) h
     exact (rC kw n _ _ _ _ _ hG).1
   · obtain⟨s',hG,hs⟩:=aaa (P:=P) (R:=R) (a:=Fr l ds) (w:=w) h
     exact wp_exit (hs ((rC kw n _ _ _ _ _ hG).2 w m hkp))
  | ret=>exact⟨h.1,fun w m hkp=>wp_ret (aix (aeZ h.2 m hkp) s)⟩
  | cond x a b =>
   obtain⟨t,hx,h⟩:=adt h;cases t
   · exact (rC kw n _ _ _ _ _ h).imp id fun hk w m hkp=>afR hx (hk w m hkp)
   · exact (rC kw n _ _ _ _ _ h).imp id fun hk w m hkp=>Cj hx (hk w m hkp)
  | region id ops d =>
   cases d
   · exact (rC kw n _ _ _ _ _ h).imp (fun h=>h) fun hk w m hkp=>wp_region_list (hk w m hkp)
   · exact h.elim
  | loop c =>
   cases sc with
   | nil=>exact h.elim
   | cons k sc=>exact (rC kw n _ _ _ _ _ h).imp (fun h=>h) fun hk w m hkp=>wp_loop_rounds k (hk w m hkp)
  | _=>exact h.elim
 | n+1,sc,q,.r c (k+1)::s,l,is,h=>(rC kw n sc q _ l is h).imp (fun h=>h) fun hk w m hkp=>hk w m hkp
 | _+1,_,_,.r _ 0::_,_,_,h=>h.elim
 | _+1,_,_,.k _::_,_,_,h=>h.elim
 | _+1,_,_,[],_,_,h=>h.elim
/-! ### Regions in a drawn order -/
def VQ{α:Type}(hd:α→Option Oper)(P:bv)(is:List It)(os:List Ob)(ops:Array Oper)(K:List α→List ai→Prop):Nat→List Nat→Prop→List α→List ai→Prop
 | 0,_,q,rest,l=>q∧K rest l
 | n+1,sc,q,x::rest,l=>match hd x with
  | some ⟨some d,op,_,_,_,g⟩=>Rz ops l g (Gq P l is os true op sc fun vc v sc _=>VQ hd P is os ops K n sc (vc∧q) rest (l.set d v)) (VQ hd P is os ops K n sc q rest (l.set d undef))
  | _=>False
 | _+1,_,_,[],_=>False
theorem ae1{α:Type}{hd:α→Option Oper}{ops:Array Oper}{K Y:List α→List ai→Prop}(hos:∀x∈os,gT w0 x.1 x.2.1 x.2.2)(hK:∀rest l,K rest l→Y rest l)
 (hv:∀x d op ty pos af g rest l v,hd x=some ⟨some d,op,ty,pos,af,g⟩→Region.wanted (bx (some d) op ty pos af g) (yielded ops l.toArray)=true→Yd P l is w0 op v→Y rest (l.set d v)→Y (x::rest) l)
 (hp:∀x d op ty pos af g rest l,hd x=some ⟨some d,op,ty,pos,af,g⟩→Region.wanted (bx (some d) op ty pos af g) (yielded ops l.toArray)=false→Y rest (l.set d undef)→Y (x::rest) l) :
 ∀(n:Nat) (sc:List Nat) (q:Prop) (rest:List α) (l:List ai),VQ hd P is os ops K n sc q rest l→q∧Y rest l
 | 0,_,_,_,_,h=>⟨h.1,hK _ _ h.2⟩
 | n+1,sc,q,x::rest,l,h=>by
  unfold VQ at h;split at h
  · rename_i d op ty pos af g hx
    rcases Ma h with ⟨h,hwt⟩ | ⟨h,hwt⟩
    · rcases Zz (ds:=[]) hos h with ⟨vc,v,sc',h,hy⟩ | ⟨e,_⟩
      · obtain⟨⟨h1,hq⟩,hk⟩:=ae1 hos hK hv hp n _ _ _ _ h
        exact⟨hq,hv _ _ _ _ _ _ _ _ _ _ hx (hwt _ _ _ _ _) (hy h1) hk⟩
      · cases e
    · obtain⟨hq,hk⟩:=ae1 hos hK hv hp n _ _ _ _ h
      exact⟨hq,hp _ _ _ _ _ _ _ _ _ hx (hwt _ _ _ _ _) hk⟩
  · exact h.elim
 | _+1,_,_,[],_,h=>h.elim
theorem atr{Q:Act→Prop}(hos:∀x∈os,gT w0 x.1 x.2.1 x.2.2){sc:List Nat}{rest:List Oper}{l:List ai}(h:VQ some P is os ops (fun rest l=>cu P ops (fun u=>Mem w0 u is) Q rest (Fr l ds)) n sc True rest l):cu P ops (fun u=>Mem w0 u is) Q rest (Fr l ds):=by
 refine (ae1 (Y:=fun rest l=>cu P ops (fun u=>Mem w0 u is) Q rest (Fr l ds)) hos (fun _ _ h=>h) (fun x d op ty pos af g rest l v hx hw hy h=>?_) (fun x d op ty pos af g rest l hx hw h=>?_) n sc True rest l h).2
 · cases hx
   have h:=kK (ty:=ty) (pos:=pos) (after:=af) (fun u m=>hy u m ty) h;unfold cu at h ⊢;rw[if_pos (by simp[Region.wanted])] at h;rw[if_pos hw];exact h
 · cases hx
   unfold cu;rw[if_neg (by rw[hw];simp)];show cu P ops _ Q rest ((Fr l ds).put (some d) undef)
   rw[iE];exact h
def hdH(x:Oper × Bool):Option Oper:=match x.2 with
 | true=>some x.1
 | false=>none
theorem ats{Q:Exit→Act→aj→Prop}{w:aj}(hos:∀x∈os,gT w0 x.1 x.2.1 x.2.2){sc:List Nat}{rest:List (Oper × Bool)}{l:List ai}(h:VQ hdH P is os ops (fun rest l=>bF P ops (fun u=>Mem w0 u is) Q rest (Fr l ds) w) n sc True rest l):bF P ops (fun u=>Mem w0 u is) Q rest (Fr l ds) w:=by
 refine (ae1 (Y:=fun rest l=>bF P ops (fun u=>Mem w0 u is) Q rest (Fr l ds) w) hos (fun _ _ h=>h) (fun x d op ty pos af g rest l v hx hw hy h=>?_) (fun x d op ty pos af g rest l hx hw h=>?_) n sc True rest l h).2
 · obtain⟨o,b⟩:=x
   cases b
   · cases hx
   · cases hx
     obtain⟨v,hy,h⟩:=Zc (ty:=ty) (pos:=pos) (after:=af) (fun u m=>hy u m ty) h;refine⟨v,?_,h⟩;rcases hy with ⟨_,hy⟩ | ⟨hn,_⟩
     · exact .inl ⟨hw,hy⟩
     · simp[Region.wanted] at hn
 · obtain⟨o,b⟩:=x
   cases b
   · cases hx
   · cases hx
     refine⟨undef,.inr ⟨hw,rfl⟩,?_⟩;show bF P ops _ Q rest ((Fr l ds).put (some d) undef) w
     rw[iE];exact h
end
theorem nO{P R w0 ds k n sc q s l l' is is'}(h:l=l')(h':is=is'):V P R w0 ds k n sc q s l is=V P R w0 ds k n sc q s l' is':=by rw[h,h']
theorem fK{ops l l' g p q}(h:l=l'):Rz ops l g p q=Rz ops l' g p q:=by rw[h]
theorem fM{P l l' is os pr op sc K}(h:l=l'):Gq P l is os pr op sc K=Gq P l' is os pr op sc K:=by rw[h]
theorem fN{P l l' is pr op sc K}(h:l=l'):stV P l is pr op sc K=stV P l' is pr op sc K:=by rw[h]
theorem fO{P l l' is b xs ts sc K}(h:l=l'):caV P l is b xs ts sc K=caV P l' is b xs ts sc K:=by rw[h]
theorem fP{b x y x' y' sc is K}(h:x=x')(h':y=y'):biV b x y sc is K=biV b x' y' sc is K:=by rw[h,h']
theorem iY{sc sc' p K is}[Decidable p](h:sc=sc'):cV sc p K is=cV sc' p K is:=by rw[h]
theorem fQ{v v' f}(h:v=v'):rO v f=rO v' f:=by rw[h]
theorem fR{v v' f}(h:v=v'):vvB v f=vvB v' f:=by rw[h]
theorem fS{v v' f}(h:v=v'):vvP v f=vvP v' f:=by rw[h]
theorem fT{v v' f}(h:v=v'):vvS v f=vvS v' f:=by rw[h]
theorem fU{v v' f}(h:v=v'):vvA v f=vvA v' f:=by rw[h]
theorem fV{v v' f}(h:v=v'):vvT v f=vvT v' f:=by rw[h]
theorem fW{v v' b p q}(h:v=v'):vvG v b p q=vvG v' b p q:=by rw[h]
theorem fX{o o':Option α}{f}(h:o=o'):Cf o f=Cf o' f:=by rw[h]
theorem fY{b b' p q}(h:b=b'):vbX b p q=vbX b' p q:=by rw[h]
theorem fZ{n n' p}(h:n=n'):vnX n p=vnX n' p:=by rw[h]
theorem gA{n n' m p q}(h:n=n'):vnE n m p q=vnE n' m p q:=by rw[h]
theorem dX{l l' n n' f}(h:l=l')(h':n=n'):Lx l n f=Lx l' n' f:=by rw[h,h']
theorem dY{l l' n f}(h:l=l'):Zw l n f=Zw l' n f:=by rw[h]
theorem gB{l pl ps cs cs' q f}(h:cs=cs'):blV l pl ps cs q f=blV l pl ps cs' q f:=by rw[h]
theorem gC{is is' os k f}(h:is=is'):atB is os k f=atB is' os k f:=by rw[h]
theorem gD{n v v' f}(h:v=v'):vvX n v f=vvX n v' f:=by rw[h]
theorem iZ{hd:α→Option Oper}{P is os ops K n sc q rest l l'}(h:l=l'):VQ hd P is os ops K n sc q rest l=VQ hd P is os ops K n sc q rest l':=by rw[h]
theorem cP{P ops S Q ol a a' w}(h:a=a'):bF P ops S Q ol a w=bF P ops S Q ol a' w:=by rw[h]
theorem gE{os k k' f}(h:k=k'):atO os k f=atO os k' f:=by rw[h]
theorem gF{is k k' f}(h:k=k'):atM is k f=atM is k' f:=by rw[h]
theorem gG{i i' s f}(h:i=i'):Uu i s f=Uu i' s f:=by rw[h]
theorem jA{P R s e a a' w}(h:a=a'):Ct P R s e a w=Ct P R s e a' w:=by rw[h]
theorem cQ{P ops Q rest a a' w}(h:a=a'):au P ops Q rest a w=au P ops Q rest a' w:=by rw[h]
theorem cR{P Q a a' w}(h:a=a'):c.wp P Q a w=c.wp P Q a' w:=by rw[h]
theorem cE{P ops C Q rest a a'}(h:a=a'):cu P ops C Q rest a=cu P ops C Q rest a':=by rw[h]
theorem abC:∀(n:Nat) (p q:Prop),vnE n n p q=p
 | 0,_,_=>rfl
 | n+1,p,q=>abC n p q
theorem arS{i:Nat}{s:List Ko}{f:List Ko→Prop}:Uu i (.b i::s) f=f s:=abC i _ _
theorem kp0{X:aj→Prop}:(q∧aiE w0 is X none)=(q∧∀w,Mem w0 w is→X w):=propext ⟨fun h=>⟨h.1,fun w m=>h.2 w m fun _ _ e=>(by cases e)⟩,fun h=>⟨h.1,fun w m _=>h.2 w m⟩⟩
theorem kp1{w1:aj}{X:aj→Prop}:(q∧aiE w0 is X (some (false,w1)))=(q∧∀w,Mem w0 w is→gJ w1 w→X w):=propext ⟨fun h=>⟨h.1,fun w m e=>h.2 w m fun _ _ e'=>(by cases e';exact e)⟩,fun h=>⟨h.1,fun w m e=>h.2 w m (e _ _ rfl)⟩⟩
def Fz(l:List ai)(ds:List dw):Act:=Fr l ds
section
variable {P:bv} {R:Exit→Act→aj→Prop} {w0 w:aj} {ds:List dw} {s:List Ko} {l:List ai} {is:List It}
theorem zvc(n:Nat)(sc:List Nat)(m:Mem w0 w is)(h:V P R w0 ds none n sc True (.c c::s) l is):c.wp P (Ct P R s) (Fr l ds) w:=(rC none n sc True _ l is h).2 w m fun _ _ e=>(by cases e)
theorem aK(n:Nat)(sc:List Nat)(m:Mem w0 w is)(h:V P R w0 ds (some (true,w)) n sc True (.c c::s) l is):c.wp P (Ct P R s) (Fr l ds) w:=(rC (some (true,w)) n sc True _ l is h).2 w m fun _ _ e=>(by cases e;rfl)
theorem mR(n:Nat)(sc:List Nat)(m:Mem w0 w is)(h:V P R w0 ds none n sc True [.c c] l is):c.wp P R (Fr l ds) w:=(rC none n sc True _ l is h).2 w m fun _ _ e=>(by cases e)
theorem fG(n:Nat)(sc:List Nat)(m:Mem w0 w is)(h:V P R w0 ds (some (true,w)) n sc True [.c c] l is):c.wp P R (Fr l ds) w:=(rC (some (true,w)) n sc True _ l is h).2 w m fun _ _ e=>(by cases e;rfl)
theorem kP{rest:List Oper}(n:Nat)(sc:List Nat)(m:Mem w0 w is)(h:V P R w0 ds none n sc True (.o ops rest::s) l is):au P ops (Ct P R s) rest (Fr l ds) w:=(rC none n sc True _ l is h).2 w m fun _ _ e=>(by cases e)
theorem aL{rest:List Oper}(n:Nat)(sc:List Nat)(m:Mem w0 w is)(h:V P R w0 ds (some (true,w)) n sc True (.o ops rest::s) l is):au P ops (Ct P R s) rest (Fr l ds) w:=(rC (some (true,w)) n sc True _ l is h).2 w m fun _ _ e=>(by cases e;rfl)
theorem eT{Q:Act→Prop}{rest:List Oper}(n:Nat)(sc:List Nat)(h:VQ some P is [] ops (fun rest l=>cu P ops (fun u=>Mem w0 u is) Q rest (Fz l ds)) n sc True rest l):cu P ops (fun u=>Mem w0 u is) Q rest (Fr l ds):=atr abB h
theorem Ps{Q:Exit→Act→aj→Prop}{ol:List (Oper × Bool)}(n:Nat)(sc:List Nat)(h:VQ hdH P is [] ops (fun rest l=>bF P ops (fun u=>Mem w0 u is) Q rest (Fz l ds) w) n sc True ol l):bF P ops (fun u=>Mem w0 u is) Q ol (Fr l ds) w:=ats abB h
theorem wA{rest:List Oper}{f:FuncId}{fo:bz}{xs:Array bz}{args:List ai}{first cap:Array ai}{a0:Array av}{v:ai}{d:Nat}{ty:av}{pos:String}{af:Array Edge}(m:Mem w0 w is)(hf:ev l fo=.func (.func f) first cap)(hxs:first.toList++xs.toList.map (ev l)++cap.toList=args)(hc:fF P f args v)(n:Nat)(sc:List Nat)(h:V P R w0 ds none n sc True (.o ops rest::s) (l.set d v) is):au P ops (Ct P R s) (bx (some d) (.call { callee:=.value fo,args:=xs,argTypes:=a0 }) ty pos af none::rest) (Fr l ds) w :=
 kY m hf hxs hc fun u m=>(rC none n sc True _ _ is h).2 u m fun _ _ e=>(by cases e)
theorem g0{a:Act}(h:c.wp P (Ct P R []) a w):c.wp P R a w:=h
theorem gc{a:Act}(h:c.wp P (Ct P R s) a w):Ct P R (.c c::s) .normal a w:=h
theorem go{rest:List Oper}{a:Act}(h:au P ops (Ct P R s) rest a w):Ct P R (.o ops rest::s) .normal a w:=h
theorem gk{K:Act→aj→Prop}{a:Act}(h:K a w):Ct P R (.k K::s) .normal a w:=h
theorem bX{c:Code}(ts ss:List Nat)(I:Nat→List ai→aj→Prop)(h0:∃n,I n (ts.map (l.getD · undef)) w)
 (hr:∀n vs w,I n vs w→∀(g:Nat→ai) (K:Act→aj→Prop),(∀n' l' w',n'<n→pQ (fD l ts (ts.map (l'.getD · undef))) ss (l'.getD · undef)=l'→I n' (ts.map (l'.getD · undef)) w'→K (Fr l') w')→c.wp P (Ct P R (.k K::s)) (Fr (pQ (fD l ts vs) ss g)) w):(Code.loop c).wp P (Ct P R s) (Fr l) w :=
 aeD ts ss I h0 fun n vs w hI g=>hr n vs w hI g _ fun n' l' w' h1 h2 h3=>⟨n',l',h1,rfl,h2,h3⟩
theorem Wy(n:Nat)(sc:List Nat)(m:Mem w0 w is)(h:V P R w0 ds none n sc True s l is):Ct P R s .normal (Fr l ds) w:=(rC none n sc True _ l is h).2 w m fun _ _ e=>(by cases e)
theorem aW(n:Nat)(sc:List Nat)(m:Mem w0 w is)(h:V P R w0 ds (some (true,w)) n sc True s l is):Ct P R s .normal (Fr l ds) w:=(rC (some (true,w)) n sc True _ l is h).2 w m fun _ _ e=>(by cases e;rfl)
end
section
variable {P:bv} {ds:List dw} {l:List ai}
theorem ae2{c:Code}{Q:Exit→Act→aj→Prop}{w:aj}(ts ss:List Nat)(J:List ai→aj→Prop)
 (hc:c.wp P (Exit.then (fun a' w'=>∃l',a'=Fr l' ds∧pQ (fD l ts (ts.map (l'.getD · undef))) ss (l'.getD · undef)=l'∧J (ts.map (l'.getD · undef)) w') Q) (Fr l ds) w)
 (hn:∀vs u,J vs u→∀g:Nat→ai,Q .normal (Fr (pQ (fD l ts vs) ss g) ds) u):c.wp P Q (Fr l ds) w:=by
 refine Code.wp_mono ?_ hc;intro e a w' h;cases e with
 | normal =>
  obtain⟨l',rfl,he,hJ⟩:=h;rw[←he];exact hn _ _ hJ _
 | exit id=>exact h
 | goto id=>exact h
 | ret=>exact h
 | panic ch=>exact h
 | outgrown=>exact h
theorem amh{c:Code}{Q:Exit→Act→aj→Prop}{w0 w:aj}{is:List It}(m:Mem w0 w is)(ts ss:List Nat)(J:List ai→Prop)
 (hc:c.wp P (Exit.then (fun a' w'=>∃l',a'=Fr l' ds∧pQ (fD l ts (ts.map (l'.getD · undef))) ss (l'.getD · undef)=l'∧Mem w0 w' is∧J (ts.map (l'.getD · undef))) Q) (Fr l ds) w)
 (hn:∀vs u,Mem w0 u is→J vs→∀g:Nat→ai,Q .normal (Fr (pQ (fD l ts vs) ss g) ds) u):c.wp P Q (Fr l ds) w :=
 ae2 ts ss (fun vs w'=>Mem w0 w' is∧J vs) hc fun vs u h g=>hn vs u h.1 h.2 g
theorem ami{c:Code}{Q:Exit→Act→aj→Prop}{w0 w:aj}{is:List It}(m:Mem w0 w is)(k:Nat)(ts ss:List Nat)(J:List ai→It→Prop)
 (hc:c.wp P (Exit.then (fun a' w'=>∃l' i,a'=Fr l' ds∧pQ (fD l ts (ts.map (l'.getD · undef))) ss (l'.getD · undef)=l'∧Mem w0 w' (is.set k i)∧J (ts.map (l'.getD · undef)) i) Q) (Fr l ds) w)
 (hn:∀vs i u,Mem w0 u (is.set k i)→J vs i→∀g:Nat→ai,Q .normal (Fr (pQ (fD l ts vs) ss g) ds) u):c.wp P Q (Fr l ds) w:=by
 refine ae2 ts ss (fun vs w'=>∃i,Mem w0 w' (is.set k i)∧J vs i) (Code.wp_mono ?_ hc) fun vs u h g=>?_
 · intro e a w' h
   cases e with
   | normal=>obtain⟨l',i,h1,h2,h3,h4⟩:=h;exact⟨l',h1,h2,i,h3,h4⟩
   | exit id=>exact h
   | goto id=>exact h
   | ret=>exact h
   | panic ch=>exact h
   | outgrown=>exact h
 · obtain⟨i,h1,h2⟩:=h
   exact hn vs i u h1 h2 g
end
section
variable {P:bv} {R:Exit→Act→aj→Prop} {w0 w:aj} {ds:List dw} {s:List Ko} {l:List ai} {is:List It}
theorem Sb{c:Code}(m:Mem w0 w is)(ts ss:List Nat)(J:List ai→Prop)
 (hc:∀K:Act→aj→Prop,(∀l' w',pQ (fD l ts (ts.map (l'.getD · undef))) ss (l'.getD · undef)=l'→Mem w0 w' is→J (ts.map (l'.getD · undef))→K (Fr l' ds) w')→c.wp P (Ct P R (.k K::s)) (Fr l ds) w)
 (hn:∀vs u,Mem w0 u is→J vs→∀g:Nat→ai,Ct P R s .normal (Fr (pQ (fD l ts vs) ss g) ds) u):c.wp P (Ct P R s) (Fr l ds) w :=
 amh m ts ss J (hc _ fun l' w' h1 h2 h3=>⟨l',rfl,h1,h2,h3⟩) hn
theorem iO{c:Code}(m:Mem w0 w is)(k:Nat)(ts ss:List Nat)(J:List ai→It→Prop)
 (hc:∀K:Act→aj→Prop,(∀l' i w',pQ (fD l ts (ts.map (l'.getD · undef))) ss (l'.getD · undef)=l'→Mem w0 w' (is.set k i)→J (ts.map (l'.getD · undef)) i→K (Fr l' ds) w')→c.wp P (Ct P R (.k K::s)) (Fr l ds) w)
 (hn:∀vs i u,Mem w0 u (is.set k i)→J vs i→∀g:Nat→ai,Ct P R s .normal (Fr (pQ (fD l ts vs) ss g) ds) u):c.wp P (Ct P R s) (Fr l ds) w :=
 ami m k ts ss J (hc _ fun l' i w' h1 h2 h3=>⟨l',i,rfl,h1,h2,h3⟩) hn
end
end Go.Lith
namespace Go.Lith
open Go.RowKit Go.Proofs Go.Sort Go.Shelf
theorem aiJ{α:Type}{enc:α→List ai}{k:Nat}(hk:∀x,(enc x).length=k)(h0:0<k):∀(L:List α) (t:Nat),(L.flatMap enc)[t]? = (L[t / k]?).bind fun x=>(enc x)[t%k]?
 | [],t=>by simp
 | x::L,t=>by
  rw[b_,List.getElem?_append];by_cases h:t<k
  · rw[if_pos (by rw[hk];exact h),Nat.div_eq_of_lt h,Nat.mod_eq_of_lt h]
    rfl
  · rw[if_neg (by rw[hk];exact h),hk,aiJ hk h0 L (t-k)]
    have e1:t / k=(t-k) / k+1:=by rw[Nat.div_eq t k,if_pos ⟨h0,ir h⟩]
    have e2:t%k=(t-k)%k:=Nat.mod_eq_sub_mod (ir h);rw[e1,e2,iz]
theorem Ah{α:Type}[Inhabited α]{enc:α→List ai}{k:Nat}(hk:∀x,(enc x).length=k)(h0:0<k)(L:List α):(flatK enc k L.toArray).toList=L.flatMap enc:=by
 have hlen:(L.flatMap enc).length=L.length*k:=by
  induction L with
  | nil=>simp
  | cons x L ih=>rw[b_,a_,ih,hk,ay,kf];omega
 apply gj;intro t;by_cases ht:t<L.length*k
 · have hd:t / k<L.length:=by
    rw[Nat.div_lt_iff_lt_mul h0];exact ht
   have hm:t%k<k:=fw _ h0;have h1:=get_flatK enc k L.toArray t (by simpa using ht);rw[getElem!_pos _ t (by simpa using ht)] at h1;rw[aiJ hk h0,ak hd,iu,fx,g_ (by simpa using ht),h1,ak (show t%k<(enc L[t / k]).length by rw[hk];exact hm)]
   congr 1
   rw[getElem!_pos L.toArray _ (by simpa using hd),List.getElem_toArray,getElem!_pos _ _ (by rw[hk];exact hm)]
 · rw[fq (by simpa using ir ht),fq (by rw[hlen];exact ir ht)]
section
variable {α:Type} [Inhabited α] {P:bv} {ρ:Ren} {enc:α→List ai} {c:Nat} {E:av} {w w0:aj} {is:List It} {A:Option Addr} {n cap:Nat}
theorem agv{g:Nat}{xs:List α}{cur:Array ai}(hk:∀x,(enc x).length=c)(h0:0<c)(hg:w.heap[g]? = some (.cells cur E (0,0)))(h:cur.toList.take (xs.length*c)=xs.flatMap enc):HoldsK enc c w g 0 xs.toArray:=by
 intro j hj;have hl:=Ah hk h0 xs;have hj':j<xs.length*c:=by simpa using hj
 have e:(flatK enc c xs.toArray)[j]? = cur[j]?:=by
  rw[←fx,hl,←h,ei,if_pos hj',fx]
 rw[g_ hj] at e;refine⟨?_,?_⟩
 · simp only[World.cell?,hg,ar,Option.isSome_none,pb,if_false]
   rw[←e,getElem!_pos _ j hj];rfl
 · simp[World.frozen?,hg]
theorem Vo{g:Nat}{xs ys:List α}{cur:Array ai}{q:Nat}{os:Array Obj}(hk:∀x,(enc x).length=c)(h0:0<c)(hg:w.heap[g]? = some (.cells cur E (0,0)))(hl:xs.length*c≤cur.size)(hlen:ys.length=xs.length) :
 ∃cur':Array ai,(sortWorldK enc c w g 0 q ys.toArray os).heap[g]? = some (.cells cur' E (0,0))∧cur'.size=cur.size∧cur'.toList.take (xs.length*c)=ys.flatMap enc:=by
 have hlt:g<w.heap.size:=(dz.1 hg).1;refine⟨putCells id 0 (flatK enc c ys.toArray) cur,?_,by simp[putCells],?_⟩
 · unfold sortWorldK putRowK putRow mapBlock grow
   simp only;rw[Array.getElem?_append_left (by simpa[ahead] using hlt),jz];simp[ahead,hg,onCells]
 · have hf:=Ah hk h0 ys
   apply gj;intro t;rw[ei,←hf,fx,fx];have hs:(flatK enc c ys.toArray).size=xs.length*c:=by simp[hlen]
   split
   · rename_i ht
     have:t<cur.size:=Nat.lt_of_lt_of_le ht hl;simp only[putCells,Array.getElem?_mapIdx,g_ this,fa,cq,ar,true_and,Nat.sub_zero,hs,ht,if_true];rw[g_ (by rw[hs];exact ht),getElem!_pos _ t (by rw[hs];exact ht)];rfl
   · rename_i ht
     rw[Array.getElem?_eq_none (by rw[hs];exact ir ht)]
theorem Dh(L:SlLaysF0.n6 P ρ)(aE:∀w,(isAgg (ρ.t 24)).run P w=.ok true w)(zE:∀w,(Go.sizeOf (ρ.t 24)).run P w=.ok c w)(hk:∀x,(enc x).length=c)(h0:0<c)(h1:∀x,∀v∈enc x,v.oneCell'=true)
 (cf:α→α→Int) (hO:SWO (ltOf cf)) {f:FuncId} (hcmp:∀x y,tF P f [.agg (enc x).toArray,.agg (enc y).toArray] (.int .i64 (cf x y))) {xs:List α} (m:Mem w0 w is) (k:Nat) (hi:is[k]? = some (oI E c A n cap (xs.flatMap enc))) (hsz:n<4611686018427387904) :
 Calls P (ρ.f 6) #[.slice A n cap,.func (.func f) #[] #[]] w fun e w'=>∃v i,e=.returned v∧Mem w0 w' (is.set k i)∧(v=.tuple #[]∧∃ys:List α,i=oI E c A n cap (ys.flatMap enc)∧ys.Perm xs∧ys.Pairwise fun a b=>ltOf cf b a=false):=by
 have h:w.ownsRow 0 E c (.slice A n cap) n (xs.flatMap enc):=m.get k hi;have hlen:(xs.flatMap enc).length=xs.length*c:=by
  have:=Ah hk h0 xs;rw[←this];simp
 have hn:xs.length=n:=by
  have:=h.1;rw[hlen] at this;exact Nat.eq_of_mul_eq_mul_right h0 this
 have hge:=fun b hb=>m.ge _ (bj hi) b hb;rcases oD h with ⟨rfl,rfl,rfl,hx⟩ | ⟨g,cur,rfl,_,hg,hcap,hmax,hcur,htake⟩
 · refine (AnyF.slices_SortFunc_none L none 0 _ w).mono ?_
   rintro e w' ⟨rfl,rfl⟩;obtain rfl:xs=[]:=List.eq_nil_of_length_eq_zero hn;refine⟨_,oI E c none 0 0 [],rfl,?_,rfl,[],rfl,ny _,.nil⟩;have:is.set k (oI E c none 0 0 [])=is:=by
    apply gj;intro j;rw[jj];split
    · rename_i e;subst e
      have:=(ap.1 hi).1;rw[if_pos this,hi];rfl
    · rfl
   rw[this];exact m
 · have hlt:g<w.heap.size:=(dz.1 hg).1
   rw[←hn] at htake;have hH:=agv (xs:=xs) hk h0 hg htake;have hx:=AnyQ.slices_SortFunc L c aE zE enc hk h1 cf hO f #[] g 0 cap xs.toArray w (fun args w'=>tP (hcmp default default w').1) (fun mm os dk _ x y=>by
    have:=((hcmp x y (sortWorldK enc c w g 0 mm dk os)).2.mono fun e w' h=>(show e=.returned (.int .i64 (cf x y))∧∃q os',w'=grow ((sortWorldK enc c w g 0 mm dk os).drewN q) os' from by obtain⟨u,rfl,hX,rfl⟩:=h;exact⟨rfl,hX.grow⟩))
    simpa using this) hH hlt (by simpa[hn] using hsz)
   have es:xs.toArray.size=n:=by simpa using hn
   rw[es] at hx;refine hx.mono ?_;rintro e w' ⟨rfl,d',q,os,hp,hs,rfl⟩;have hd:d'.size=n:=by rw[hp.1];exact es
   obtain⟨ys,rfl⟩:∃ys:List α,d'=ys.toArray:=⟨d'.toList,by simp⟩
   have hyl:ys.length=n:=by simpa using hd
   have hcs:xs.length*c≤cur.size:=by rw[hn,hcur];exact Nat.mul_le_mul_right _ hcap
   obtain⟨cur',e1,e2,e3⟩:=Vo (q:=q) (os:=os) (ys:=ys) hk h0 hg hcs (by rw[hyl,hn]);refine⟨_,oI E c (some ⟨g,0,none⟩) n cap (ys.flatMap enc),rfl,?_,rfl,ys,rfl,?_,?_⟩
   · refine m.put k hi rfl rfl rfl ?_ (fun b hb hne=>?_) ?_ (.inl fun _ h=>h)
     · simp[sortWorldK,putRowK,putRow,mapBlock,grow,ahead]
     · have hbg:g≠b:=fun e=>hne (by rw[e];rfl)
       unfold sortWorldK putRowK putRow mapBlock grow;simp only;rw[Array.getElem?_append_left (by simpa[ahead] using hb),jz,if_neg hbg];rfl
     · refine⟨?_,.inr ⟨g,cap,cur',rfl,cq _,e1,hcap,hmax,by rw[e2,hcur],?_⟩⟩
       · have:=Ah hk h0 ys
         rw[←this];simp[hyl]
       · rw[←hn];exact e3
   · have:=hp.2.2
     simpa[hyl,hn,bi (Nat.le_of_eq hyl),bi (Nat.le_of_eq hn),List.extract_eq_take_drop] using this
   · rw[List.pairwise_iff_getElem]
     intro i j hi' hj' hij;have:=hs i j (cq _) hij (by rw[←hyl];exact hj');rw[getElem!_pos _ i (by simpa using hi'),getElem!_pos _ j (by simpa using hj')] at this;simpa using this
end
end Go.Lith
namespace Go.Lith
open Go.RowKit Go.Sort
variable{K:Type}
instance:Inhabited P3:=⟨⟨0,0,0⟩⟩
def dU(p:P3):List ai:=[.int .i64 p.x,.int .i64 p.y,.int .i64 p.z]
theorem Oc(p:P3):∀v∈dU p,v.oneCell'=true:=fun v h=>by
 simp only[dU,an,cl,or_false] at h;rcases h with rfl | rfl | rfl <;> rfl
theorem mF(p q:P3):(qO p q<0)↔p.Lt q:=by
 unfold qO;split
 · simp[*]
 · split <;> simp[*]
theorem abE:SWO (Go.Proofs.ltOf qO) where
 irrefl x:=by simp[Go.Proofs.ltOf,mF,P3.lt_irrefl]
 trans x y z h1 h2:=by
  simp only[Go.Proofs.ltOf,decide_eq_true_eq,mF] at *
  exact P3.lt_trans h1 h2
 ntrans x y z h1 h2:=by
  simp only[Go.Proofs.ltOf,decide_eq_false_iff_not,mF] at *
  unfold P3.Lt at *
  omega
theorem oJ.len{V:Type}[DecidableEq K]{ek:K→ai}{en:V→ai}{D dn rs:List (K × V)}{es:Array de}{seen:Array Nat}(h:oJ ek en D es seen dn rs):dn.length+rs.length=D.length:=by
 have:=h.1.length_eq;simpa using this
theorem Je{V:Type}[DecidableEq K]{ek:K→ai}{en:V→ai}{D dn rs:List (K × V)}{es:Array de}{b:Bool}{kv vv:ai}{sn:Array Nat}(hb:b=false)(h:Nxt ek en D es dn rs b kv vv sn):rs=[]:=by
 rcases h with ⟨_,h⟩ | ⟨h,_⟩
 · exact h
 · rw[h] at hb;cases hb
theorem Jf{K V:Type}[DecidableEq K]{ek:K→ai}{en:V→ai}{D dn rs:List (K × V)}{es:Array de}{b:Bool}{kv vv:ai}{sn:Array Nat}(hb:b=true)(h:Nxt ek en D es dn rs b kv vv sn) :
 ∃k v rs',rs.Perm ((k,v)::rs')∧oJ ek en D es sn (dn++[(k,v)]) rs':=by
 rcases h with ⟨h,_⟩ | ⟨_,k,v,rs',h1,_,_,h2⟩
 · rw[h] at hb;cases hb
 · exact⟨k,v,rs',h1,h2⟩
def Di(D:List (P3 × Bool))(ps:List P3):List (P3 × Bool):=ps.foldl (fun D p=>fJ D p true) D
theorem abF{V:Type}[DecidableEq K](D:List (K × V))(k a:K)(v:V):a∈(fJ D k v).map (·.1)↔a∈D.map (·.1)∨a=k:=by
 rw[uM];split
 · exact⟨.inl,fun h=>h.elim id (fun e=>e▸‹_›)⟩
 · simp
theorem Wz:∀(ps:List P3) (D:List (P3 × Bool)) (a:P3),a∈(Di D ps).map (·.1)↔a∈D.map (·.1)∨a∈ps
 | [],D,a=>by simp[Di]
 | p::ps,D,a=>by
  have:=Wz ps (fJ D p true) a;unfold Di at this ⊢;rw[jv,this,abF,an,or_assoc]
theorem Od:∀(ps:List P3) (D:List (P3 × Bool)),(D.map (·.1)).Nodup→((Di D ps).map (·.1)).Nodup
 | [],_,h=>h
 | p::ps,D,h=>Od ps (fJ D p true) (vE h p true)
theorem mY{K V:Type}[DecidableEq K]:∀(D:List (K × V)) (k:K) (v:V),(fJ D k v).length≤D.length+1
 | [],_,_=>by simp[fJ]
 | x::D,k,v=>by
  unfold fJ;split
  · simp
  · simp only[ay]
    exact Nat.succ_le_succ (mY D k v)
theorem Jg:∀(ps:List P3) (D:List (P3 × Bool)),(Di D ps).length≤D.length+ps.length
 | [],D=>ao _
 | p::ps,D=>Nat.le_trans (Jg ps (fJ D p true)) (by
  have:=mY D p true;simp only[ay];omega)
theorem agw(D:List (P3 × Bool))(ps qs:List P3):Di D (ps++qs)=Di (Di D ps) qs:=gl ..
def cA(ts:List T3):List P3:=ts.flatMap fun t=>[t.a,t.b,t.c]
def rD(ps:List P3):Prop:=ps.Pairwise fun a b=>a.Lt b
theorem agx{ps:List P3}(hn:ps.Nodup)(h:ps.Pairwise fun a b=>¬b.Lt a):rD ps:=by
 have:=hn.and h;exact this.imp fun {a b} h=>(P3.lt_tri a b).resolve_right (by rintro (e | e);exact h.1 e;exact h.2 e)
theorem Sc:∀{ps qs:List P3},rD ps→rD qs→(∀a,a∈ps↔a∈qs)→ps=qs
 | [],[],_,_,_=>rfl
 | [],q::qs,_,_,h=>by have:=(h q).2 (bh ..);cases this
 | p::ps,[],_,_,h=>by have:=(h p).1 (bh ..);cases this
 | p::ps,q::qs,hp,hq,h=>by
  have hp':=bu.1 hp;have hq':=bu.1 hq;have e:p=q:=by
   rcases an.1 ((h p).1 (bh ..)) with e | e
   · exact e
   · rcases an.1 ((h q).2 (bh ..)) with e' | e'
     · exact e'.symm
     · exact absurd (P3.lt_trans (hq'.1 p e) (hp'.1 q e')) (P3.lt_irrefl _)
  subst e
  congr 1
  refine Sc hp'.2 hq'.2 fun a=>⟨fun ha=>?_,fun ha=>?_⟩
  · rcases an.1 ((h a).1 (bg _ ha)) with e | e
    · subst e;exact absurd (hp'.1 _ ha) (P3.lt_irrefl _)
    · exact e
  · rcases an.1 ((h a).2 (bg _ ha)) with e | e
    · subst e;exact absurd (hq'.1 _ ha) (P3.lt_irrefl _)
    · exact e
end Go.Lith
namespace Go.Lith
open Go.RowKit
variable{k:Nat}{ts:List T3}{t:T3}{a x:E3}{es:List E3}
theorem agy{α:Type}{ps:List α}{p:α}(h:ps[k]? = some p):ps.take (k+1)=ps.take k++[p]:=by
 rw[nt,h];rfl
theorem Sd(h:ts[k]? = some t):cA (ts.take (k+1))=cA (ts.take k)++[t.a,t.b,t.c]:=by
 unfold cA;rw[agy h,aw];simp
theorem adu(h:ts[k]? = some t):Di [] (cA (ts.take (k+1)))=fJ (fJ (fJ (Di [] (cA (ts.take k))) t.a true) t.b true) t.c true:=by
 rw[Sd h,agw];rfl
theorem uC(ts:List T3):(cA ts).length=ts.length*3:=by
 unfold cA
 induction ts with
 | nil=>rfl
 | cons t ts ih=>rw[b_,a_,ih];simp only[ay,List.length_nil];omega
theorem aiK{ps:List P3}:(ps.flatMap dU).length=ps.length*3:=by
 induction ps with
 | nil=>rfl
 | cons p ps ih=>rw[b_,a_,ih,show (dU p).length=3 from rfl,ay];omega
theorem He{α:Type}{R:α→α→Prop}(irr:∀a,¬R a a)(tr:∀a b c,R a b→R b c→R a c):∀{l m:List α},l.Pairwise R→m.Pairwise R→(∀a,a∈l↔a∈m)→l=m
 | [],[],_,_,_=>rfl
 | [],y::m,_,_,h=>absurd ((h y).2 (bh ..)) (by simp)
 | x::l,[],_,_,h=>absurd ((h x).1 (bh ..)) (by simp)
 | x::l,y::m,hl,hm,h=>by
  obtain⟨h1,h2⟩:=bu.1 hl;obtain⟨k1,k2⟩:=bu.1 hm;have e:x=y:=by
   rcases an.1 ((h x).1 (bh ..)) with e | hx
   · exact e
   · rcases an.1 ((h y).2 (bh ..)) with e | hy
     · exact e.symm
     · exact absurd (tr _ _ _ (h1 y hy) (k1 x hx)) (irr x)
  subst e;rw[He irr tr h2 k2 fun a=>⟨fun ha=>?_,fun ha=>?_⟩]
  · rcases an.1 ((h a).1 (bg _ ha)) with rfl | k
    · exact absurd (h1 a ha) (irr a)
    · exact k
  · rcases an.1 ((h a).2 (bg _ ha)) with rfl | k
    · exact absurd (k1 a ha) (irr a)
    · exact k
/-! ### Edges in order -/
def Le(a b:E3):Prop:=a.1.Lt b.1∨a.1=b.1∧a.2.Lt b.2
theorem ae3{b:E3}:ltE a b=true↔Le a b:=by
 unfold ltE Le;by_cases h:a.1=b.1
 · rw[if_neg (not_not_intro h),decide_eq_true_eq]
   exact⟨fun k=>.inr ⟨h,k⟩,fun k=>k.elim (fun k=>absurd (h▸k) (P3.lt_irrefl _)) (·.2)⟩
 · rw[if_pos h,decide_eq_true_eq]
   exact⟨.inl,fun k=>k.elim id (fun k=>absurd k.1 h)⟩
theorem Le.irrefl(a:E3):¬Le a a:=fun h=>h.elim (P3.lt_irrefl _) fun h=>P3.lt_irrefl _ h.2
theorem Le.trans{b c:E3}(h:Le a b)(k:Le b c):Le a c:=by
 rcases h with h | ⟨h,h'⟩
 · rcases k with k | ⟨k,_⟩
   · exact .inl (P3.lt_trans h k)
   · exact .inl (k▸h)
 · rcases k with k | ⟨k,k'⟩
   · exact .inl (h▸k)
   · exact .inr ⟨h.trans k,P3.lt_trans h' k'⟩
theorem Le.tri(a b:E3):Le a b∨a=b∨Le b a:=by
 rcases P3.lt_tri a.1 b.1 with h | h | h
 · exact .inl (.inl h)
 · rcases P3.lt_tri a.2 b.2 with k | k | k
   · exact .inl (.inr ⟨h,k⟩)
   · exact .inr (.inl (Prod.ext h k))
   · exact .inr (.inr (.inr ⟨h.symm,k⟩))
 · exact .inr (.inr (.inl h))
def oP(es:List E3):Prop:=es.Pairwise Le
theorem Oe{fs:List E3}(h:oP es)(k:oP fs)(e:∀a,a∈es↔a∈fs):es=fs:=He Le.irrefl (fun _ _ _=>Le.trans) h k e
theorem aab{α:Type}{p:α→Bool}:∀(l:List α),l.take (l.takeWhile p).length=l.takeWhile p
 | []=>rfl
 | x::l=>by
  rw[lk];split
  · rw[ay,li,aab l]
  · rfl
theorem aac{α:Type}{p:α→Bool}:∀(l:List α),l.drop (l.takeWhile p).length=l.dropWhile p
 | []=>rfl
 | x::l=>by
  rw[lk,ow];split
  · rw[ay,List.drop_succ_cons,aac l]
  · rfl
theorem ae4(es:List E3)(e:E3):ac6 es e=es.takeWhile (fun x=>ltE x e)++[e]++es.dropWhile (fun x=>ltE x e):=by
 unfold ac6 af8;rw[aab,aac]
theorem aiL{e:E3}:x∈ac6 es e↔x=e∨x∈es:=by
 rw[ae4]
 conv=>rhs;rw[←lg (p:=fun x=>ltE x e) (l:=es)]
 simp only[br,az];exact⟨fun h=>h.elim (fun h=>h.elim (fun h=>.inr (.inl h)) .inl) (fun h=>.inr (.inr h)),fun h=>h.elim (fun h=>.inl (.inr h)) (fun h=>h.elim (fun h=>.inl (.inl h)) .inr)⟩
theorem an7{e:E3}:∀{es:List E3},oP es→e∉es→∀x∈es.dropWhile (fun x=>ltE x e),Le e x
 | [],_,_,x,h=>by cases h
 | y::ys,hs,he,x,h=>by
  obtain⟨h1,h2⟩:=bu.1 hs;rw[ow] at h;split at h
  · exact an7 h2 (fun k=>he (bg _ k)) x h
  · rename_i hy
    have hy':Le e y:=by
     rcases Le.tri y e with k | k | k
     · exact absurd (ae3.2 k) hy
     · exact absurd (k▸bh ..) he
     · exact k
    rcases an.1 h with rfl | h
    · exact hy'
    · exact hy'.trans (h1 x h)
theorem adv{α:Type}{p:α→Bool}{x:α}:∀{l:List α},x∈l.takeWhile p→p x=true
 | [],h=>by cases h
 | y::l,h=>by
  rw[lk] at h;split at h
  · rename_i hy
    rcases an.1 h with rfl | h
    · exact hy
    · exact adv h
  · cases h
theorem arT{e:E3}  : ∀x∈es.takeWhile (fun x=>ltE x e),Le x e:=fun x h=>ae3.1 (adv (p:=fun x=>ltE x e) h)
theorem abG{e:E3}(hs:oP es)(he:e∉es):oP (ac6 es e):=by
 rw[ae4];have h0:=hs;rw[oP,←lg (p:=fun x=>ltE x e) (l:=es)] at h0;obtain⟨h1,h2,h3⟩:=gr.1 h0;refine gr.2 ⟨gr.2 ⟨h1,List.pairwise_singleton _ _,fun x hx y hy=>?_⟩,h2,fun x hx y hy=>?_⟩
 · rw[az.1 hy];exact arT x hx
 · rcases br.1 hx with hx | hx
   · exact h3 x hx y hy
   · rw[az.1 hx];exact an7 hs he y hy
theorem oK{e:E3}:0<iC es e↔e∈es:=by
 unfold iC;rw[List.length_pos_iff_exists_mem];simp
theorem Mb{all:List E3}:∀(es out:List E3),oP out→oP (es.foldl (pW all) out)∧∀x,x∈es.foldl (pW all) out↔x∈out∨x∈es∧(x.2,x.1)∉all
 | [],out,h=>⟨h,fun x=>by simp⟩
 | e::es,out,h=>by
  have key:oP (pW all out e)∧∀x,x∈pW all out e↔x∈out∨x=e∧(x.2,x.1)∉all:=by
   unfold pW;split
   · rename_i hc
     refine⟨h,fun x=>⟨.inl,fun k=>k.elim id fun q=>?_⟩⟩;obtain⟨rfl,q⟩:=q;exact hc.elim (fun hc=>absurd (oK.1 hc) q) (fun hc=>oK.1 hc)
   · rename_i hc
     have h1:e∉out:=fun k=>hc (.inr (oK.2 k));have h2:(e.2,e.1)∉all:=fun k=>hc (.inl (oK.2 k));refine⟨abG h h1,fun x=>aiL.trans ⟨fun k=>k.elim (fun k=>.inr ⟨k,k▸h2⟩) .inl,fun k=>k.elim .inr fun k=>.inl k.1⟩⟩
  obtain⟨i1,i2⟩:=Mb es (pW all out e) key.1;refine⟨i1,fun x=>?_⟩;rw[jv,i2,key.2,an,or_assoc];refine or_congr Iff.rfl ⟨fun k=>k.elim (fun k=>⟨.inl k.1,k.2⟩) (fun k=>⟨.inr k.1,k.2⟩),fun k=>k.1.elim (fun h=>.inl ⟨h,k.2⟩) (fun h=>.inr ⟨h,k.2⟩)⟩
theorem rP(ts:List T3):oP (aY ts):=(Mb (all:=aQ ts) (aQ ts) [] ki).1
theorem Hf{e:E3}:e∈aY ts↔e∈aQ ts∧(e.2,e.1)∉aQ ts:=by
 have:=(Mb (all:=aQ ts) (aQ ts) [] ki).2 e;unfold aY;rw[this];simp
/-! ### Keys put into a set -/
section
variable {K:Type} [DecidableEq K]
def gS(D:List (K × Bool))(ks:List K):List (K × Bool):=ks.foldl (fun D k=>fJ D k true) D
theorem vG:∀(ks:List K) (D:List (K × Bool)) (a:K),a∈(gS D ks).map (·.1)↔a∈D.map (·.1)∨a∈ks
 | [],D,a=>by simp[gS]
 | k::ks,D,a=>by
  have:=vG ks (fJ D k true) a;unfold gS at this ⊢;rw[jv,this,abF,an,or_assoc]
theorem Hg:∀(ks:List K) (D:List (K × Bool)),(D.map (·.1)).Nodup→((gS D ks).map (·.1)).Nodup
 | [],_,h=>h
 | k::ks,D,h=>Hg ks (fJ D k true) (vE h k true)
theorem pH:∀(ks:List K) (D:List (K × Bool)),(gS D ks).length≤D.length+ks.length
 | [],_=>ao _
 | k::ks,D=>by
  have h1:=pH ks (fJ D k true);have h2:=mY D k true;show (gS (fJ D k true) ks).length≤_
  rw[ay];omega
theorem Se:∀(ks:List K) (D:List (K × Bool)) (a:K),cD (gS D ks) a=if a∈ks then some true else cD D a
 | [],D,a=>by simp[gS]
 | k::ks,D,a=>by
  have h:=Se ks (fJ D k true) a;show cD (gS (fJ D k true) ks) a=_
  rw[h,kN];by_cases h1:a∈ks
  · rw[if_pos h1,if_pos (bg _ h1)]
  · rw[if_neg h1]
    by_cases h2:k=a
    · rw[if_pos h2,if_pos (h2▸bh ..)]
    · rw[if_neg h2,if_neg (fun k'=>(an.1 k').elim (fun e=>h2 e.symm) h1)]
theorem aiM(D:List (K × Bool))(ks ls:List K):gS D (ks++ls)=gS (gS D ks) ls:=gl ..
theorem sE(ks:List K)(a:K):(cD (gS [] ks) a).getD false=decide (a∈ks):=by
 rw[Se];by_cases h:a∈ks
 · rw[if_pos h,decide_eq_true h];rfl
 · rw[if_neg h,decide_eq_false h];rfl
theorem abH{ks:List K}{a:K}:(cD (gS [] ks) a).getD false=true↔a∈ks:=by
 rw[Se];by_cases h:a∈ks
 · rw[if_pos h];exact⟨fun _=>h,fun _=>rfl⟩
 · rw[if_neg h];exact⟨fun k=>(by cases k),fun k=>absurd k h⟩
end
/-! ### No edge twice -/
theorem nP{e:E3}  : iC (x::es) e=(if x=e then 1 else 0)+iC es e:=by
 unfold iC;by_cases h:x=e
 · rw[List.filter_cons_of_pos (by simpa using h),ay,if_pos h];omega
 · rw[List.filter_cons_of_neg (by simpa using h),if_neg h];omega
theorem Fg:∀{es:List E3},es.Nodup↔∀e,iC es e≤1
 | []=>by simp[iC]
 | x::es=>by
  rw[f_,Fg (es:=es)];constructor
  · rintro⟨h1,h2⟩ e
    rw[nP];by_cases h:x=e
    · have:¬0<iC es e:=fun k=>h1 (h▸oK.1 k)
      rw[if_pos h];omega
    · rw[if_neg h];have:=h2 e;omega
  · intro h
    refine⟨fun k=>?_,fun e=>?_⟩
    · have h1:=h x
      rw[nP,if_pos rfl] at h1;have:=oK.2 k;omega
    · have:=h e
      rw[nP] at this;omega
theorem Jh  : (es.any fun e=>decide (1<iC es e))=decide (¬es.Nodup):=by
 rw[Bool.eq_iff_iff,ew,decide_eq_true_eq,Fg];constructor
 · rintro⟨e,_,h⟩ k
   have:=k e;simp only[decide_eq_true_eq] at h;omega
 · intro h
   obtain⟨e,he⟩:=Classical.not_forall.1 h;exact⟨e,oK.1 (by omega),by simpa using Nat.not_le.1 he⟩
theorem vH{α:Type}{es:List α}{e:α}:(es++[e]).Nodup↔es.Nodup∧e∉es:=by
 rw[jc];constructor
 · rintro⟨h1,_,h3⟩
   exact⟨h1,fun k=>h3 e k e (by simp) rfl⟩
 · rintro⟨h1,h2⟩
   exact⟨h1,by simp,fun a ha b hb e'=>h2 (by rw[←az.1 hb,←e'];exact ha)⟩
end Go.Lith
