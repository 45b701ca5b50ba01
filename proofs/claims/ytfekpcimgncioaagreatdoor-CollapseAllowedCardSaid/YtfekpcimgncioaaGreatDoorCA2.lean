/-
 Texts of one claim, laid together: Guard, Geo6, Open, Surf, Surf2, Lat, Chk, Facts, Facts2, Map0, Map, Map2, Nc, Vg, Vs, Cj, Vj, Sort, Sets, Box, Wa.
-/
import Derived.OpenShut
import Derived.Lib.SmallJoins
import Derived.Deep.Slices
import Derived.Test.YtfekpcimgncioaaGreatDoorProg
import Derived.Maps.RangeRun
import Derived.Shelf.SlSortCmp.WholeK
import Derived.Shelf.SlSortCmp.NoneTotal
import Derived.Test.YtfekpcimgncioaaGreatDoorCA1
open Go renaming Value→ai,World→aj,wpList→ar,TypeId→az,Program→bp,Operand→bx,run_underlying→cd,MapEntry→ck,wpQuiet→cl,execOp→de,Deferred→dx
open List renaming getElem?_eq_getElem→am,mem_cons→an,getElem?_eq_some_iff→ap,length_append→au,length_cons→aw,take_of_length_le→ay,flatMap_append→a_,mem_of_getElem?→be,mem_singleton→bf,map_cons→bh,mem_append→bi,pairwise_cons→br,mem_cons_of_mem→bt,mem_cons_self→bu,length_take→bv,getElem?_eq_none→bz,nil_append→b_,not_mem_nil→cg,cons_append→cj,getElem?_append_left→cn,map_append→cv,getElem?_drop→di,append_assoc→dl,getElem?_take→dm,flatMap_cons→dt,getElem?_append_right→dw,mem_map→eh,any_eq_true→el,getElem?_map→fb,append_nil→fe,mem_flatMap→fk,length_drop→ft,ext_getElem?→fw,pairwise_append→fz,drop_of_length_le→gp,nodup_cons→gt,getElem?_cons_succ→gw,getD_eq_getElem?_getD→gz,foldl_append→iq,foldl_cons→jd,getElem?_set→jh,range→ji,take_zero→jx,nodup_append→jy,getElem_of_mem→kd,getElem?_toArray→km,takeWhile_append_dropWhile→la,take_succ_cons→lc,takeWhile_cons→ld,map_eq_append_iff→lq,map_eq_cons_iff→mj,dropWhile_cons→mr,take_add_one→nq,drop_append→ob,take_append→oc
open Nat renaming zero_add→aq,le_refl→av,zero_le→bw,lt_or_ge→dq,add_sub_cancel→gr,le_of_not_lt→ik,mod_lt→jr,add_mul→jw,one_mul→oo,le_antisymm→pm,mul_comm→qd
open Bool renaming and_eq_true→bg,not_false→fj,not_true→fp,false_eq_true→nf
open Go.Oper renaming mk→bm
open Go.Exit renaming inBlock→cw
open Option renaming getD_some→df,map_some→fl,bind_some→il,map_none→po
open Array renaming getElem?_eq_some_iff→dz,getElem?_toList→fu,getElem?_eq_getElem→gm,mapM_eq_mapM_toList→ie,getElem?_setIfInBounds_ne→ir,getElem?_modify→jq,eraseIdxIfInBounds→kz,toList_push→nt,toList_modify→ot
open Prod.mk renaming injEq→gh
open Int renaming tmod_eq_emod_of_nonneg→jk
open List.Pairwise renaming nil→kx
open List.cons renaming injEq→lv
open List.Perm renaming append_left→l_,refl→nu,trans→pq
set_option linter.unusedSimpArgs false
set_option linter.unusedVariables false
set_option linter.unusedSectionVars false
namespace Go.Lith
open Go.RowKit
@[irreducible] def Pm(c:Bool)(v:ai):ai:=if c then v else undef
theorem jI{v:ai}:Pm true v=v:=by simp[Pm]
theorem Bk{v:ai}:Pm false v=undef:=by simp[Pm]
theorem aX{c:Bool}{u v:ai}(hb:c=true)(h:u=Pm c v):u=v:=by rw[h,hb,jI]
section
variable {P:bp} {ds:List dx} {l:List ai} {x y:bx} {T ty:az} {b c:Bool} {v:ai}
theorem bW{z:bx}(hz:ev l z=.bool b)(hx:ev l x=Pm b (.bool c))(hy:ev l y=.bool false):iR P l (.pick z x y) ty (.bool (b&&c)):=by
 have:=Xb (P:=P) (ty:=ty) (x:=x) (y:=y) hz;cases b with
 | false=>simpa[hy] using this
 | true=>simpa[hx,jI] using this
theorem cC{z:bx}(hz:ev l z=.bool b)(hx:ev l x=.bool true)(hy:ev l y=Pm (!b) (.bool c)):iR P l (.pick z x y) ty (.bool (b||c)):=by
 have:=Xb (P:=P) (ty:=ty) (x:=x) (y:=y) hz;cases b with
 | false=>simpa[hy,jI] using this
 | true=>simpa[hx] using this
end
section
variable {P:bp} {ops:Array Oper} {Q:Exit→Act→aj→Prop} {rest:List Oper} {d j:Nat} {op:Op} {ty:az} {pos:String} {after:Array Edge} {v:ai} {b:Bool} {ds:List dx} {l:List ai} {w w0:aj} {is:List It}
theorem iF(hw:yielded ops l.toArray j=some b)(hr:b=true→Ak P l op ty v w)(h:ar P ops Q rest (Fr (l.set d (Pm b v)) ds) w):ar P ops Q (bm (some d) op ty pos after (some (j,true))::rest) (Fr l ds) w:=by
 cases b with
 | false=>rw[Bk] at h;exact pH hw h
 | true=>rw[jI] at h;exact eB hw (fO (hr O) h)
theorem bV(hw:yielded ops l.toArray j=some b)(hr:(!b)=true→Ak P l op ty v w)(h:ar P ops Q rest (Fr (l.set d (Pm (!b) v)) ds) w):ar P ops Q (bm (some d) op ty pos after (some (j,false))::rest) (Fr l ds) w:=by
 cases b with
 | true=>rw[fp,Bk] at h;exact Nn hw h
 | false=>rw[fj,jI] at h;exact eB hw (fO (hr O) h)
theorem cS(hw:yielded ops l.toArray j=some b)(hr:b=true→iR P l op ty v)(h:ar P ops Q rest (Fr (l.set d (Pm b v)) ds) w):ar P ops Q (bm (some d) op ty pos after (some (j,true))::rest) (Fr l ds) w:=iF hw (fun e=>hr e w) h
theorem bA(hw:yielded ops l.toArray j=some b)(hr:(!b)=true→iR P l op ty v)(h:ar P ops Q rest (Fr (l.set d (Pm (!b) v)) ds) w):ar P ops Q (bm (some d) op ty pos after (some (j,false))::rest) (Fr l ds) w:=bV hw (fun e=>hr e w) h
theorem adZ{f:FuncId}{fo:bx}{xs:Array bx}{args:List ai}{first cap:Array ai}{a0:Array az}(m:Mem w0 w is)(hw:yielded ops l.toArray j=some b)(hf:ev l fo=.func (.func f) first cap)(hxs:b=true→first.toList++xs.toList.map (ev l)++cap.toList=args)(hc:b=true→dS P f args v)
 (h:∀u,Mem w0 u is→ar P ops Q rest (Fr (l.set d (Pm b v)) ds) u):ar P ops Q (bm (some d) (.call { callee:=.value fo,args:=xs,argTypes:=a0 }) ty pos after (some (j,true))::rest) (Fr l ds) w:=by
 cases b with
 | false=>simp only[Bk] at h;exact pH hw (h w m)
 | true=>simp only[jI] at h;exact eB hw (lD m hf (hxs O) (hc O) h)
theorem xZ{f:FuncId}{fo:bx}{xs:Array bx}{args:List ai}{first cap:Array ai}{a0:Array az}(m:Mem w0 w is)(hw:yielded ops l.toArray j=some b)(hf:ev l fo=.func (.func f) first cap)(hxs:(!b)=true→first.toList++xs.toList.map (ev l)++cap.toList=args)(hc:(!b)=true→dS P f args v)
 (h:∀u,Mem w0 u is→ar P ops Q rest (Fr (l.set d (Pm (!b) v)) ds) u):ar P ops Q (bm (some d) (.call { callee:=.value fo,args:=xs,argTypes:=a0 }) ty pos after (some (j,false))::rest) (Fr l ds) w:=by
 cases b with
 | true=>simp only[fp,Bk] at h;exact Nn hw (h w m)
 | false=>simp only[fj,jI] at h;exact eB hw (lD m hf (hxs O) (hc O) h)
end
section
variable {P:bp} {ops:Array Oper} {Q:Act→Prop} {C:aj→Prop} {rest:List Oper} {d j:Nat} {op:Op} {ty:az} {pos:String} {after:Array Edge} {v:ai} {b:Bool} {ds:List dx} {l:List ai} {w0:aj} {is:List It}
theorem eF(hw:yielded ops l.toArray j=some b)(hr:b=true→∀u,C u→Ak P l op ty v u)(h:cl P ops C Q rest (Fr (l.set d (Pm b v)) ds)):cl P ops C Q (bm (some d) op ty pos after (some (j,true))::rest) (Fr l ds):=by
 cases b with
 | false=>rw[Bk] at h;exact pI hw h
 | true=>rw[jI] at h;exact dH hw (kP (hr O) h)
theorem pU(hw:yielded ops l.toArray j=some b)(hr:(!b)=true→∀u,C u→Ak P l op ty v u)(h:cl P ops C Q rest (Fr (l.set d (Pm (!b) v)) ds)):cl P ops C Q (bm (some d) op ty pos after (some (j,false))::rest) (Fr l ds):=by
 cases b with
 | true=>rw[fp,Bk] at h;exact Gw hw h
 | false=>rw[fj,jI] at h;exact dH hw (kP (hr O) h)
theorem cT(hw:yielded ops l.toArray j=some b)(hr:b=true→iR P l op ty v)(h:cl P ops C Q rest (Fr (l.set d (Pm b v)) ds)):cl P ops C Q (bm (some d) op ty pos after (some (j,true))::rest) (Fr l ds):=eF hw (fun e u _=>hr e u) h
theorem iO(hw:yielded ops l.toArray j=some b)(hr:(!b)=true→iR P l op ty v)(h:cl P ops C Q rest (Fr (l.set d (Pm (!b) v)) ds)):cl P ops C Q (bm (some d) op ty pos after (some (j,false))::rest) (Fr l ds):=pU hw (fun e u _=>hr e u) h
theorem Hk{f:FuncId}{fo:bx}{xs:Array bx}{args:List ai}{first cap:Array ai}{a0:Array az}(hw:yielded ops l.toArray j=some b)(hf:ev l fo=.func (.func f) first cap)(hxs:b=true→first.toList++xs.toList.map (ev l)++cap.toList=args)(hc:b=true→dS P f args v)
 (h:cl P ops (fun u=>Mem w0 u is) Q rest (Fr (l.set d (Pm b v)) ds)):cl P ops (fun u=>Mem w0 u is) Q (bm (some d) (.call { callee:=.value fo,args:=xs,argTypes:=a0 }) ty pos after (some (j,true))::rest) (Fr l ds):=by
 cases b with
 | false=>rw[Bk] at h;exact pI hw h
 | true=>rw[jI] at h;exact dH hw (fD hf (hxs O) (hc O) h)
theorem ad0{f:FuncId}{fo:bx}{xs:Array bx}{args:List ai}{first cap:Array ai}{a0:Array az}(hw:yielded ops l.toArray j=some b)(hf:ev l fo=.func (.func f) first cap)(hxs:(!b)=true→first.toList++xs.toList.map (ev l)++cap.toList=args)(hc:(!b)=true→dS P f args v)
 (h:cl P ops (fun u=>Mem w0 u is) Q rest (Fr (l.set d (Pm (!b) v)) ds)):cl P ops (fun u=>Mem w0 u is) Q (bm (some d) (.call { callee:=.value fo,args:=xs,argTypes:=a0 }) ty pos after (some (j,false))::rest) (Fr l ds):=by
 cases b with
 | true=>rw[fp,Bk] at h;exact Gw hw h
 | false=>rw[fj,jI] at h;exact dH hw (fD hf (hxs O) (hc O) h)
end
section
variable {P:bp} {ops:Array Oper} {S:aj→Prop} {Q:Exit→Act→aj→Prop} {rest:List (Oper × Bool)} {d j:Nat} {op:Op} {ty:az} {pos:String} {after:Array Edge} {v:ai} {b:Bool} {ds:List dx} {l:List ai} {w:aj}
theorem vH(hw:yielded ops l.toArray j=some b)(hr:b=true→∀u,S u→Ak P l op ty v u)(h:bS P ops S Q rest (Fr (l.set d (Pm b v)) ds) w):bS P ops S Q ((bm (some d) op ty pos after (some (j,true)),true)::rest) (Fr l ds) w:=by
 cases b with
 | false=>rw[Bk] at h;exact tF hw h
 | true=>rw[jI] at h;exact wA hw (Xj (hr O) h)
theorem kQ(hw:yielded ops l.toArray j=some b)(hr:b=true→iR P l op ty v)(h:bS P ops S Q rest (Fr (l.set d (Pm b v)) ds) w):bS P ops S Q ((bm (some d) op ty pos after (some (j,true)),true)::rest) (Fr l ds) w:=vH hw (fun e u _=>hr e u) h
end
end Go.Lith
namespace Go.Lith
open Go.RowKit Go.ChangeShapes
variable {H:Type} {enc:az × ai→H} {P:bp} {w:aj} {base:Nat} {spare:Nat→Bool} {held:Bool}
def uC(P:bp):Nat→az→Bool
 | 0,_=>false
 | n+1,t=>match P.underlying t with
  | some (.int .i64)=>decide (P.cellsOf t=1)
  | some (.struct fs)=>(fs.toList.all fun f=>uC P n f.type)&&(ji (P.cellsOf t)).all fun i=>fs.toList.any fun f=>decide (f.offset≤i)&&decide (i<f.offset+P.cellsOf f.type)
  | some (.array m e)=>uC P n e&&decide (P.cellsOf t=m*P.cellsOf e)
  | _=>false
theorem anW{n:Int}(h:(Lit.int .i64 n).wf=true):rT n:=by
 have:=bounds_i64 h;exact⟨by omega,by omega⟩
theorem yA:∀(n:Nat) (t:az) (m:Nat) (cs:List ai) (x:DataW H × List MemPlace),uC P n t=true→DataW.trod enc P w base spare held m t cs=some x →
 cs.length=P.cellsOf t∧∀v∈cs,∃z,v=.int .i64 z∧rT z
 | 0,t,m,cs,x,h,_=>by cases h
 | n+1,t,m,cs,x,h,hx=>by
  unfold uC at h;split at h
  · rename_i hu
    obtain⟨z,rfl,_,hz⟩:=DataW.trod_int hu hx;refine⟨by rw[of_decide_eq_true h];rfl,fun v hv=>⟨z,by simpa using hv,anW hz⟩⟩
  · rename_i fs hu
    simp only[bg,List.all_eq_true,el,decide_eq_true_eq,List.mem_range] at h;obtain⟨ys,k,_,_,hl,hlen,hf⟩:=DataW.trod_struct hu hx;refine⟨hl,fun v hv=>?_⟩;obtain⟨i,hi,rfl⟩:=kd hv;obtain⟨f,hfm,h1,h2⟩:=h.2 i (by rw[←hl];exact hi);obtain⟨j,hj,rfl⟩:=kd hfm;have hj':j<fs.size:=by simpa using hj
    have:=hf j fs[j] (gm hj');rw[am (by rw[hlen];exact hj')] at this;have hr:=(yA n _ _ _ _ (h.1 _ (List.getElem_mem hj)) this).2;refine hr _ ?_;simp only[Array.getElem_toList] at h1 h2;refine be (i:=i-fs[j].offset) ?_;rw[dm,if_pos (by omega),di,show fs[j].offset+(i-fs[j].offset)=i by omega];exact am hi
  · rename_i q e hu
    simp only[bg,decide_eq_true_eq] at h;obtain⟨ys,k,_,_,hl,hlen,hf⟩:=DataW.trod_array hu hx;refine⟨hl,fun v hv=>?_⟩;obtain⟨i,hi,rfl⟩:=kd hv;rw[hl,h.2] at hi;have hc:0<P.cellsOf e:=by
     rcases Nat.eq_zero_or_pos (P.cellsOf e) with h0 | h0
     · rw[h0] at hi;omega
     · exact h0
    have hq:i / P.cellsOf e<q:=Nat.div_lt_of_lt_mul (by rw[qd];exact hi);have:=hf _ hq;rw[am (by rw[hlen];exact hq)] at this;have hr:=(yA n _ _ _ _ h.1 this).2;refine hr _ (be (i:=i%P.cellsOf e) ?_);rw[dm,if_pos (jr _ hc),di,qd,Nat.div_add_mod];exact am _
  · cases h
theorem Ur:∀(n:Nat) (cs:List ai),cs.length=n→(∀v∈cs,∃z,v=.int .i64 z∧rT z)→∃zs:List Int,zs.length=n∧cs=zs.map (.int .i64 ·)∧∀z∈zs,rT z
 | 0,[],_,_=>⟨[],rfl,rfl,fun _ h=>by cases h⟩
 | n+1,v::vs,h,hv=>by
  obtain⟨zs,h1,h2,h3⟩:=Ur n vs (by simpa using h) (fun u hu=>hv u (by simp[hu]));obtain⟨z,rfl,hz⟩:=hv v (by simp);exact⟨z::zs,by simp[h1],by simp[h2],fun u hu=>by rcases an.1 hu with rfl | hu;exact hz;exact h3 _ hu⟩
theorem Pn{a:Addr}{n:Nat}{cs:List ai}(h:w.cells? base a n=some cs):mD w a cs∧base≤a.block:=by
 unfold World.cells? at h;split at h
 · rename_i hb
   refine⟨fun j u hj=>?_,hb⟩;have hl:=mapM_some_length h;have hj':j<cs.length:=(ap.1 hj).1;rw[hl] at hj';have:=mapM_some_get h j j (am hj'▸by simp);rw[this,hj]
 · cases h
theorem ae9{n m:Nat}{t e:az}{fuel:Nat}{cs:List ai}{x:DataW H × List MemPlace}(hu:P.underlying t=some (.slice e))(hi:uC P n e=true)(hc:P.cellsOf e=m)(h:DataW.trod enc P w base spare held fuel t cs=some x) :
 ∃(A:Option Addr) (len cap:Nat),cs=[.slice A len cap]∧len≤cap∧cap≤maxLen∧(A=none→len=0)∧∀i,i<len→∃(a:Addr) (zs:List Int),A=some a∧base≤a.block∧mD w (a.add (i*m)) (zs.map (Value.int .i64 ·))∧zs.length=m∧∀z∈zs,rT z:=by
 rcases Deep.open_slice hu h with ⟨rfl,_⟩ | ⟨a,len,cap,k,q,D,Pl,rfl,hb,hl,hm,hk,_,hx⟩
 · exact⟨none,0,0,O,av _,bw _,fun _=>rfl,fun i hi=>absurd hi (Nat.not_lt_zero _)⟩
 · refine⟨some a,len,cap,rfl,hl,hm,fun h=>(by cases h),fun i hi'=>?_⟩
   obtain⟨cs',h1,h2⟩:=hx i (by rw[hk];split <;> omega);obtain⟨h3,h4⟩:=yA n e q _ _ hi h2;obtain⟨zs,h5,rfl,h6⟩:=Ur m cs' (by rw[←hc];exact h3) h4;rw[hc] at h1;exact⟨a,zs,O,hb,(Pn h1).1,h5,h6⟩
theorem Bl{α:Type}{p:Nat→α→Prop}:∀(n:Nat),(∀i,i<n→∃x,p i x)→∃l:List α,l.length=n∧∀i x,l[i]? = some x→p i x
 | 0,_=>⟨[],rfl,fun i x h=>by simp at h⟩
 | n+1,h=>by
  obtain⟨l,h1,h2⟩:=Bl n (fun i hi=>h i (by omega));obtain⟨x,hx⟩:=h n (by omega);refine⟨l++[x],by simp[h1],fun i y hy=>?_⟩;rcases Nat.lt_trichotomy i n with hi | hi | hi
  · exact h2 i y (by rwa [cn (by omega)] at hy)
  · subst hi
    rw[dw (by omega),h1,Nat.sub_self] at hy;cases hy;exact hx
  · rw[dw (by omega),h1] at hy
    have:i-n≠0:=by omega
    cases hd:i-n with
    | zero=>omega
    | succ j=>rw[hd] at hy;simp at hy
structure ahe(w:aj)(A:Option Addr)(n:Nat)(zs:List Int):Prop where
 len:zs.length=n
 it:∀z∈zs,rT z
 row:∀i z,zs[i]? = some z→∃a,A=some a∧w.cell? (a.add i)=some (.int .i64 z)
theorem acb{n:Nat}{t e:az}{fuel:Nat}{cs:List ai}{x:DataW H × List MemPlace}(hu:P.underlying t=some (.slice e))(hi:uC P n e=true)(hc:P.cellsOf e=1)(h:DataW.trod enc P w base spare held fuel t cs=some x) :
 ∃(A:Option Addr) (len cap:Nat) (zs:List Int),cs=[.slice A len cap]∧len≤cap∧cap≤maxLen∧(A=none→len=0)∧ahe w A len zs:=by
 obtain⟨A,len,cap,rfl,h1,h2,h3,h4⟩:=ae9 hu hi hc h;obtain⟨zs,h5,h6⟩:=Bl (p:=fun i (z:Int)=>rT z∧∃a,A=some a∧w.cell? (a.add i)=some (.int .i64 z)) len (fun i hi=>by
  obtain⟨a,zs,rfl,_,hr,hl,hz⟩:=h4 i hi
  match zs,hl with
  | [z],_=>exact⟨z,hz _ (by simp),a,rfl,by have:=hr 0 _ rfl;rwa [Nat.mul_one,jW,Nat.add_zero] at this⟩)
 refine⟨A,len,cap,zs,O,h1,h2,h3,h5,fun z hz=>?_,fun i z hz=>(h6 i z hz).2⟩;obtain⟨i,hi,rfl⟩:=kd hz;exact (h6 i _ (am hi)).1
end Go.Lith
namespace Go.Lith
open Go.RowKit
variable{n k c:Nat}{E:az}{α:Type}{w:aj}{x q y u s:P3}
theorem amX{n m:Int}(hm:0<m) : -m<n.tmod m∧n.tmod m<m:=by
 have h1:=Int.tmod_lt_of_pos n hm;have h2:=Int.tmod_lt_of_pos (-n) hm;rw[Int.neg_tmod] at h2;omega
theorem ak8{n m:Int}(hm:0<m):(n.tmod m+m).tmod m=n%m:=by
 have hb:=amX (n:=n) hm;rw[jk (by omega)];rcases Int.le_total 0 n with h | h
 · rw[jk h]
   simp
 · have e:n.tmod m = -((-n)%m):=by
    rw[←jk (show 0 ≤ -n by omega),Int.neg_tmod,Int.neg_neg]
   rw[e,Int.add_emod_right];have h2:=Int.emod_add_mul_ediv (-n) m;have h3 : -((-n)%m)=n+m*(-n / m):=by omega
   rw[h3,Int.add_mul_emod_self_left]
/-! ### Hills -/
theorem Mf{α β:Type}{f:α→List β}{k:Nat}:∀(l:List α),(∀x∈l,(f x).length=k)→(l.flatMap f).length=l.length*k
 | [],_=>by simp
 | x::l,h=>by
  rw[dt,au,h x (by simp),Mf l (fun y hy=>h y (by simp[hy])),aw,jw,oo,Nat.add_comm]
/-! ### Cubes -/
/-! ### What the walks ask for -/
theorem amY  : (k:Int).tmod (c:Int)=((k%c:Nat):Int):=rfl
theorem ap5(ts:List T3)(k:Nat):(ts.take k).flatMap aN=(ts.flatMap aN).take (k*9):=by
 induction ts generalizing k with
 | nil=>simp
 | cons t ts ih =>
  cases k with
  | zero=>simp
  | succ k =>
   rw[lc,dt,dt,ih,oc,dM,ay (l:=aN t) (by rw[dM];omega),show (k+1)*9-9=k*9 by omega]
theorem ahf{ts:List T3}{t u:T3}(h:ts[k]? = some t):over (ts.flatMap aN) (k*9) (aN u)=(ts.set k u).flatMap aN:=by
 induction ts generalizing k with
 | nil=>cases h
 | cons v ts ih =>
  cases k with
  | zero =>
   unfold over;rw[Nat.zero_mul,jx,b_,List.set_cons_zero,dt,dt,dM,aq,ob,dM,gp (l:=aN v) (by rw[dM];omega)];rfl
  | succ k =>
   have:=ih (k:=k) h;unfold over at this ⊢;rw[List.set_cons_succ,dt,dt,←this,dM];rw[oc,dM,ay (l:=aN v) (by rw[dM];omega),show (k+1)*9-9=k*9 by omega,ob,dM,gp (l:=aN v) (by rw[dM];omega),show (k+1)*9+9-9=k*9+9 by omega];simp only[dl,b_]
def T3.cor(t:T3)(c:Nat):P3:=if c=0 then t.a else if c=1 then t.b else t.c
def T3.setC(t:T3)(c:Nat)(p:P3):T3:=if c=0 then ⟨p,t.b,t.c⟩ else if c=1 then ⟨t.a,p,t.c⟩ else ⟨t.a,t.b,p⟩
theorem ak9{t:T3}{p:P3}(hc:c<3):over (aN t) (c*3) [.int .i64 p.x,.int .i64 p.y,.int .i64 p.z]=aN (t.setC c p):=by
 have:c=0∨c=1∨c=2:=by omega
 rcases this with rfl | rfl | rfl <;> rfl
theorem afa{cs us:List ai}{off d:Nat}(h:off+k≤cs.length)(hu:us.length+d≤k):over cs (off+d) us=over cs off (over ((cs.drop off).take k) d us):=by
 have e0:((cs.drop off).take k).length=k:=by rw[bv,ft];omega
 have e1:(over ((cs.drop off).take k) d us).length=k:=by rw[Aw (by omega)];exact e0
 unfold over at e1 ⊢;rw[e1];apply fw;intro j;simp only[dl];rcases dq j off with h1 | h1
 · rw[cn (by rw[bv];omega),cn (by rw[bv];omega),dm,dm,if_pos (by omega),if_pos h1]
 · rw[dw (l₁:=cs.take off) (by rw[bv];omega)]
   have e2:(cs.take off).length=off:=by rw[bv];omega
   have e3:(cs.take (off+d)).length=off+d:=by rw[bv];omega
   rw[e2];rcases dq j (off+d) with h2 | h2
   · rw[cn (by rw[e3];exact h2),cn (by rw[bv,e0];omega),dm,dm,dm,di,if_pos h2,if_pos (by omega),if_pos (by omega),show off+(j-off)=j by omega]
   · rw[dw (by rw[e3];exact h2),e3,dw (l₁:=((cs.drop off).take k).take d) (by rw[bv,e0];omega),bv (l:=(cs.drop off).take k),e0,Nat.min_eq_left (by omega),show j-off-d=j-(off+d) by omega]
     rcases dq (j-(off+d)) us.length with h3 | h3
     · rw[cn h3,cn h3]
     · rw[dw h3,dw h3]
       rcases dq j (off+k) with h4 | h4
       · rw[cn (by rw[ft,e0];omega),di,di,dm,di,if_pos (by omega)]
         congr 1
         omega
       · rw[dw (by rw[ft,e0];omega),di,di,ft,e0]
         congr 1
         omega
theorem ahg{ts:List T3}{t:T3}{p:P3}(h:ts[k]? = some t)(hc:c<3):over (ts.flatMap aN) (k*9+c*3) [.int .i64 p.x,.int .i64 p.y,.int .i64 p.z]=(ts.set k (t.setC c p)).flatMap aN:=by
 have hk:k<ts.length:=(ap.1 h).1;have hd:=Dg ts k t h;rw[afa (k:=9) (by rw[Dh];omega) (by show 3+_≤9;omega),hd,oc,dM,ay (l:=aN t) (by rw[dM];omega),show 9-9=0 from rfl,jx,fe,ak9 hc,ahf h]
section
variable {w0 w:aj} {S:List (Option Nat)} {E:az} {n cap:Nat} {A:Option Addr} {ts:List T3}
theorem mD.cor{a:Addr}{t:T3}{c:Nat}(h:mD w a (aN t))(hc:c<3):mD w (a.add (c*3)) [.int .i64 (t.cor c).x,.int .i64 (t.cor c).y,.int .i64 (t.cor c).z]:=by
 have:=(h.sub (c*3)).take 3;have e:c=0∨c=1∨c=2:=by omega
 rcases e with rfl | rfl | rfl <;> exact this
theorem bU.take{N k:Nat}(h:bU w A N ts)(hk:k≤N):bU w A k (ts.take k) :=
 ⟨by rw[bv,h.len];omega,fun t ht=>h.it t (List.mem_of_mem_take ht),fun i t ht=>h.row i t (by rw[dm] at ht;split at ht;exact ht;cases ht)⟩
end
section
variable {α:Type} {enc:α→List ai} {c:Nat} {w w':aj} {A:Option Addr} {n:Nat} {xs:List α}
structure sU(enc:α→List ai)(c:Nat)(w:aj)(A:Option Addr)(n:Nat)(xs:List α):Prop where
 len:xs.length=n
 row:∀i x,xs[i]? = some x→∃a,A=some a∧mD w (a.add (i*c)) (enc x)
theorem sU.ext(h:sU enc c w A n xs)(hE:fQ w w'):sU enc c w' A n xs:=⟨h.len,fun i x hi=>let ⟨a,e,hr⟩:=h.row i x hi;⟨a,e,hr.ext hE⟩⟩
theorem sU.nil(w:aj)(A:Option Addr):sU enc c w A 0 []:=⟨rfl,fun i x h=>by cases h⟩
theorem sU.get(h:sU enc c w A n xs){i:Nat}(hi:i<n):∃x,xs[i]? = some x∧∃a,A=some a∧mD w (a.add (i*c)) (enc x):=by
 have hl:i<xs.length:=by rw[h.len];exact hi
 exact⟨xs[i],am hl,h.row i _ (am hl)⟩
theorem sU.at{a:Addr}(h:sU enc c w (some a) n xs){i:Nat}{x:α}(hx:xs[i]? = some x):mD w (a.add (i*c)) (enc x):=by
 obtain⟨b,e,hr⟩:=h.row i x hx;cases e;exact hr
theorem sU.take(h:sU enc c w A n xs){k:Nat}(hk:k≤n):sU enc c w A k (xs.take k) :=
 ⟨by rw[bv,h.len];omega,fun i x hx=>h.row i x (by rw[dm] at hx;split at hx;exact hx;cases hx)⟩
theorem kD(hc:∀x,(enc x).length=c):∀xs:List α,(xs.flatMap enc).length=xs.length*c
 | []=>by simp
 | x::xs=>by rw[dt,au,hc,kD hc xs,aw,jw,oo,Nat.add_comm]
theorem yB(hc:∀x,(enc x).length=c):∀(xs:List α) (k:Nat),(xs.drop k).flatMap enc=(xs.flatMap enc).drop (k*c)
 | xs,0=>by simp
 | [],k+1=>by simp
 | x::xs,k+1=>by
  rw[List.drop_succ_cons,dt,yB hc xs k,ob,hc,gp (l:=enc x) (by rw[hc,jw];omega),jw,oo,gr,b_]
theorem Po(hc:∀x,(enc x).length=c):∀(xs:List α) (k:Nat),(xs.take k).flatMap enc=(xs.flatMap enc).take (k*c)
 | xs,0=>by simp
 | [],k+1=>by simp
 | x::xs,k+1=>by
  rw[lc,dt,dt,Po hc xs k,oc,hc,ay (l:=enc x) (by rw[hc,jw];omega),jw,oo,gr]
theorem Pp(hc:∀x,(enc x).length=c){xs:List α}{i:Nat}{x:α}(h:xs[i]? = some x):(xs.flatMap enc).drop (i*c)=enc x++(xs.drop (i+1)).flatMap enc:=by
 rw[←yB hc,List.drop_eq_getElem_cons (ap.1 h).1,dt,(ap.1 h).2]
theorem Ow.at{w0:aj}{S:List (Option Nat)}{cap g i:Nat}{x:α}(hc:∀x,(enc x).length=c)(h:Ow w0 w S E c (Option.some ⟨g,0,none⟩) n cap (xs.flatMap enc))(hx:xs[i]? = Option.some x):mD w ((⟨g,0,none⟩:Addr).add (i*c)) (enc x):=by
 intro j u hj;have hj':j<(enc x).length:=(ap.1 hj).1;rw[jW];refine h.rows _ _ ?_;rw[←di,Pp hc hx,cn hj'];exact hj
theorem Ow.num{w0:aj}{S:List (Option Nat)}{cap:Nat}(hc:∀x,(enc x).length=c)(h0:0<c)(h:Ow w0 w S E c A n cap (xs.flatMap enc)):xs.length=n:=by
 have:=h.own.1;rw[kD hc] at this;exact Nat.eq_of_mul_eq_mul_right h0 this
theorem Ow.lat{w0:aj}{S:List (Option Nat)}{cap:Nat}(hc:∀x,(enc x).length=c)(h0:0<c)(h:Ow w0 w S E c A n cap (xs.flatMap enc)):sU enc c w A n xs :=
 ⟨h.num hc h0,fun i x hx=>by
  have hi:=(ap.1 hx).1;have hn:=h.num hc h0;obtain⟨g,rfl⟩:=h.some (by omega);exact⟨_,O,h.at hc hx⟩⟩
theorem sU.cells(hc:∀x,(enc x).length=c)(h0:0<c)(h:sU enc c w A n xs):∀j u,(xs.flatMap enc)[j]? = some u→∃a,A=some a∧w.cell? (a.add j)=some u:=fun j u hj=>by
 have hj':=(ap.1 hj).1;rw[kD hc] at hj';have hi:j / c<xs.length:=(Nat.div_lt_iff_lt_mul h0).2 hj';obtain⟨a,rfl,hr⟩:=h.row (j / c) _ (am hi);refine⟨a,O,?_⟩;have hm:=jr j h0;have e:j=j / c*c+j%c:=by rw[qd];exact (Nat.div_add_mod j c).symm
 have:=hr (j%c) u (by
  rw[e,←di,Pp hc (am hi),cn (by rw[hc];exact hm)] at hj;exact hj)
 rw[jW,←e] at this;exact this
theorem sU.cellsD(hc:∀x,(enc x).length=c)(h0:0<c)(h:sU enc c w A n xs){cap q:Nat}(hcap:n≤cap):∀j u,((xs.drop q).flatMap enc)[j]? = some u→∃a,(if cap=q then A else A.map (·.add (q*c)))=some a∧w.cell? (a.add j)=some u:=fun j u hj=>by
 rw[yB hc,di] at hj;have hl:=(ap.1 hj).1;rw[kD hc,h.len] at hl;obtain⟨a,rfl,hcl⟩:=h.cells hc h0 _ _ hj;have:q<n:=by
  refine Nat.lt_of_mul_lt_mul_right (a:=c) ?_;omega
 rw[if_neg (by omega)];exact⟨_,O,by rw[jW];exact hcl⟩
end
theorem cH{ps:List α}{p:α}(h:ps[k]? = some p):ps.take (k+1)=ps.take k++[p]:=by
 rw[nq,h];rfl
abbrev E3:=P3 × P3
variable{es:List E3}
def cY(e:E3):List ai:=[.int .i64 e.1.x,.int .i64 e.1.y,.int .i64 e.1.z,.int .i64 e.2.x,.int .i64 e.2.y,.int .i64 e.2.z]
def ed(e:E3):ai:=.agg #[.int .i64 e.1.x,.int .i64 e.1.y,.int .i64 e.1.z,.int .i64 e.2.x,.int .i64 e.2.y,.int .i64 e.2.z]
def lB(p:P3):List ai:=[.int .i64 p.x,.int .i64 p.y,.int .i64 p.z]
theorem bU.lat{A:Option Addr}{ts:List T3}(h:bU w A n ts):sU aN 9 w A n ts:=⟨h.len,h.row⟩
theorem Xr(es:List E3):∀u∈es.flatMap cY,u.oneCell'=true:=fun u hu=>by
 obtain⟨e,_,h⟩:=fk.1 hu;simp only[cY,an,cg,or_false] at h;rcases h with rfl | rfl | rfl | rfl | rfl | rfl <;> rfl
theorem Pq(ps:List P3):∀u∈ps.flatMap lB,u.oneCell'=true:=fun u hu=>by
 obtain⟨e,_,h⟩:=fk.1 hu;simp only[lB,an,cg,or_false] at h;rcases h with rfl | rfl | rfl <;> rfl
theorem ala(t:T3):(aN t).length=9:=rfl
theorem Nh(e:E3):(cY e).length=6:=rfl
theorem yC(p:P3):(lB p).length=3:=rfl
def bE(ts:List T3):List E3:=ts.flatMap fun t=>[(t.a,t.b),(t.b,t.c),(t.c,t.a)]
theorem uD{ts:List T3}{t:T3}(h:ts[k]? = some t):bE (ts.take (k+1))=bE (ts.take k)++[(t.a,t.b),(t.b,t.c),(t.c,t.a)]:=by
 unfold bE;rw[cH h,a_];simp
theorem qW(ts:List T3):(bE ts).length=ts.length*3:=Mf ts fun _ _=>rfl
def lV(es:List E3)(e:E3):Nat:=(es.filter fun x=>decide (x=e)).length
theorem aax{x e:E3}(h:es[k]? = some x):lV (es.take (k+1)) e=lV (es.take k) e+if x=e then 1 else 0:=by
 unfold lV;rw[cH h,List.filter_append,au];by_cases hx:x=e <;> simp[hx]
theorem anX{e:E3}:lV es e≤es.length:=List.length_filter_le _ _
theorem anY{is:List α}{i:α}(h:is[k]? = some i):is.set k i=is:=by
 apply fw;intro j;rw[jh];split
 · rename_i e
   subst e;rw[if_pos (ap.1 h).1,h]
 · rfl
theorem Kf{α:Type}:∀(l:List α) (j:Nat) (x:α),l[j]? = some x→(x::l.eraseIdx j).Perm l
 | [],j,x,h=>by cases h
 | y::l,0,x,h=>by cases h;exact .refl _
 | y::l,j+1,x,h=>((List.Perm.swap y x _)).trans ((Kf l j x h).cons y)
theorem Mem.pull{w0:aj}{is:List It}(m:Mem w0 w is)(j:Nat){x:It}(hj:is[j]? = some x):Mem w0 w (x::is.eraseIdx j):=by
 have hp:=Kf is j x hj;exact⟨m.ext,fun i hi=>m.all i (hp.mem_iff.1 hi),fun i hi=>m.ge i (hp.mem_iff.1 hi),(hp.pairwise_iff (fun {a b} (h:Ap a b)=>h.symm)).2 m.nd⟩
theorem Mem.mv{w0:aj}{is:List It}{y:It}(m:Mem w0 w (y::is))(k:Nat){x:It}(hk:is[k]? = some x):Mem w0 w (is.set k y):=by
 obtain⟨h1,h2⟩:=br.1 m.nd;have hm:∀i∈is.set k y,i∈y::is:=fun i hi=>(List.mem_or_eq_of_mem_set hi).elim (bt _) (fun e=>e▸bu);exact⟨m.ext,fun i hi=>m.all i (hm i hi),fun i hi=>m.ge i (hm i hi),aca is k h2 hk fun x hx _=>h1 x hx⟩
theorem dW{a:α}{l:List α}:(a::l).eraseIdx 0=l:=rfl
theorem dX{a:α}{l:List α}  : (a::l).eraseIdx (n+1)=a::l.eraseIdx n:=rfl
def SL(E:az)(c:Nat)(cs:List ai)(n:Nat)(w:aj)(v:ai)(w':aj):Prop:=∃A cap n',n'=n∧v=.slice A n' cap∧Ow w w' [] E c A n' cap cs
/-! ### Points put into a sorted list -/
def aay(ps:List P3)(p:P3):Nat:=(ps.takeWhile fun x=>decide (x.Lt p)).length
def iL(ps:List P3)(p:P3):List P3:=if ps[aay ps p]? = some p then ps else ps.take (aay ps p)++[p]++ps.drop (aay ps p)
def dY(ts:List T3):List P3:=ts.foldl (fun ps t=>iL (iL (iL ps t.a) t.b) t.c) []
theorem Hl{ts:List T3}{t:T3}(h:ts[k]? = some t):dY (ts.take (k+1))=iL (iL (iL (dY (ts.take k)) t.a) t.b) t.c:=by
 unfold dY;rw[cH h,iq];rfl
theorem wT(ps:List P3)(p:P3):(iL ps p).length≤ps.length+1:=by
 unfold iL;split
 · omega
 · simp;omega
theorem Mg(ts:List T3):(dY ts).length≤ts.length*3:=by
 have:∀(ts:List T3) (ps:List P3),(ts.foldl (fun ps t=>iL (iL (iL ps t.a) t.b) t.c) ps).length≤ps.length+ts.length*3:=by
  intro ts
  induction ts with
  | nil=>intro ps;simp
  | cons t ts ih =>
   intro ps;have h1:=ih (iL (iL (iL ps t.a) t.b) t.c);have h2:=wT ps t.a;have h3:=wT (iL ps t.a) t.b;have h4:=wT (iL (iL ps t.a) t.b) t.c;rw[jd,aw];omega
 have:=this ts [];simpa[dY] using this
section
variable {α:Type} {p:α→Bool} {l:List α} {k:Nat}
theorem amZ(h:∀j x,j<k→l[j]? = some x→p x=true)(hk:k≤l.length):k≤(l.takeWhile p).length:=by
 induction l generalizing k with
 | nil=>simp at hk;omega
 | cons x l ih =>
  cases k with
  | zero=>omega
  | succ k =>
   have hx:=h 0 x (by omega) rfl;rw[ld,if_pos hx,aw];have:=ih (k:=k) (fun j y hj hy=>h (j+1) y (by omega) (by simpa using hy)) (by simp at hk;omega);omega
theorem aqj{x:α}(hx:l[k]? = some x)(h:p x=false):(l.takeWhile p).length≤k:=by
 induction l generalizing k with
 | nil=>cases hx
 | cons y l ih =>
  rw[ld];split
  · cases k with
    | zero =>
     rename_i hy;cases hx;rw[h] at hy;cases hy
    | succ k =>
     rw[aw];have:=ih (k:=k) (by simpa using hx);omega
  · simp
theorem anZ:(l.takeWhile p).length≤l.length:=(List.takeWhile_sublist p).length_le
theorem am0{x:α}(h:∀j x,j<k→l[j]? = some x→p x=true)(hx:l[k]? = some x)(h2:p x=false):(l.takeWhile p).length=k:=pm (aqj hx h2) (amZ h (Nat.le_of_lt (ap.1 hx).1))
theorem ahh(h:∀j x,j<l.length→l[j]? = some x→p x=true):(l.takeWhile p).length=l.length:=pm anZ (amZ h (av _))
def Pre(p:α→Bool)(l:List α)(k:Nat):Prop:=∀j x,j<k→l[j]? = some x→p x=true
theorem Pre.zero:Pre p l 0:=fun j _ hj=>by omega
theorem Pre.step{x:α}(h:Pre p l k)(hx:l[k]? = some x)(hp:p x=true):Pre p l (k+1):=fun j y hj hy=>by
 rcases dq j k with h1 | h1
 · exact h j y h1 hy
 · obtain rfl:j=k:=by omega
   rw[hx] at hy;cases hy;exact hp
end
/-! ### The border -/
def ltE(a b:E3):Bool:=if a.1≠b.1 then decide (a.1.Lt b.1) else decide (a.2.Lt b.2)
def afb(es:List E3)(e:E3):Nat:=(es.takeWhile fun x=>ltE x e).length
def acc(es:List E3)(e:E3):List E3:=es.take (afb es e)++[e]++es.drop (afb es e)
def pV(all:List E3)(out:List E3)(e:E3):List E3:=if 0<lV all (e.2,e.1)∨0<lV out e then out else acc out e
def bK(ts:List T3):List E3:=(bE ts).foldl (pV (bE ts)) []
theorem afc{all:List E3}{e:E3}(h:es[k]? = some e):(es.take (k+1)).foldl (pV all) []=pV all ((es.take k).foldl (pV all) []) e:=by
 rw[cH h,iq];rfl
theorem Hm{all:List E3}:∀(es out:List E3),(es.foldl (pV all) out).length≤out.length+es.length
 | [],out=>by simp
 | e::es,out=>by
  have h1:=Hm (all:=all) es (pV all out e);have h2:(pV all out e).length≤out.length+1:=by
   unfold pV acc;split
   · omega
   · simp;omega
  rw[jd,aw];omega
/-! ### Pinched corners -/
def T3.fnd(t:T3)(p q:P3):Option P3:=if t.a=p∧t.b=q then some t.c else if t.b=p∧t.c=q then some t.a else if t.c=p∧t.a=q then some t.b else none
variable{ts ms:List T3}{t:T3}
def cE:List T3→P3→P3→Option P3
 | [],_,_=>none
 | t::ts,p,q=>match t.fnd p q with
  | some x=>some x
  | none=>cE ts p q
theorem vI{p:P3}(h:ts[k]? = some t)(h0:cE (ts.take k) p q=none):cE (ts.take (k+1)) p q=t.fnd p q:=by
 rw[cH h];clear h;generalize ts.take k=us at h0 ⊢
 induction us with
 | nil=>simp only[b_,cE];cases t.fnd p q <;> rfl
 | cons u us ih =>
  rw[cj];simp only[cE] at h0 ⊢;cases hu:u.fnd p q with
  | some x=>rw[hu] at h0;cases h0
  | none=>rw[hu] at h0;exact ih h0
theorem Bm{p:P3}(h:cE (ts.take k) p q=some x):cE ts p q=some x:=by
 induction ts generalizing k with
 | nil=>simp[cE] at h
 | cons u us ih =>
  cases k with
  | zero=>simp[cE] at h
  | succ k =>
   rw[lc] at h;unfold cE at h ⊢;cases hu:u.fnd p q with
   | some y=>rw[hu] at h;exact h
   | none=>rw[hu] at h;exact ih h
def Pr(p:P3)(t:T3)(c:Nat):List T3:=if t.cor c=p then [t] else []
def wU(p:P3)(t:T3)(c:Nat):List T3:=(ji c).flatMap (Pr p t)
def nZ(ts:List T3)(p:P3):List T3:=ts.flatMap fun t=>wU p t 3
def Ps(p:P3)(t:T3)(c:Nat):List P3:=if t.cor c=p then [t.cor ((c+1)%3)] else []
def Bn(p:P3)(t:T3)(c:Nat):List P3:=(ji c).flatMap (Ps p t)
def uE(ts:List T3)(p:P3):List P3:=ts.flatMap fun t=>Bn p t 3
theorem Pt(p:P3)(t:T3)(c:Nat):wU p t (c+1)=wU p t c++Pr p t c:=by simp[wU,List.range_succ]
theorem Mh(p:P3)(t:T3)(c:Nat):Bn p t (c+1)=Bn p t c++Ps p t c:=by simp[Bn,List.range_succ]
theorem afd{p:P3}(h:ts[k]? = some t):nZ (ts.take (k+1)) p=nZ (ts.take k) p++wU p t 3:=by
 unfold nZ;rw[cH h,a_];simp
theorem acd{p:P3}(h:ts[k]? = some t):uE (ts.take (k+1)) p=uE (ts.take k) p++Bn p t 3:=by
 unfold uE;rw[cH h,a_];simp
def Et(ts:List T3)(p:P3)(k:Nat)(t:T3)(c:Nat):List T3:=nZ (ts.take k) p++wU p t c
def wD(ts:List T3)(p:P3)(k:Nat)(t:T3)(c:Nat):List P3:=uE (ts.take k) p++Bn p t c
theorem afe{p:P3}(h:t.cor c=p):Et ts p k t (c+1)=Et ts p k t c++[t]:=by
 unfold Et;rw[Pt,Pr,if_pos h,dl]
theorem ahi{p:P3}(h:¬t.cor c=p):Et ts p k t (c+1)=Et ts p k t c:=by
 unfold Et;rw[Pt,Pr,if_neg h,fe]
theorem ace{p:P3}(h:t.cor c=p):wD ts p k t (c+1)=wD ts p k t c++[t.cor ((c+1)%3)]:=by
 unfold wD;rw[Mh,Ps,if_pos h,dl]
theorem aff{p:P3}(h:¬t.cor c=p):wD ts p k t (c+1)=wD ts p k t c:=by
 unfold wD;rw[Mh,Ps,if_neg h,fe]
theorem alc{p:P3}   : Et ts p k t 0=nZ (ts.take k) p:=by simp[Et,wU]
theorem ahj{p:P3}   : wD ts p k t 0=uE (ts.take k) p:=by simp[wD,Bn]
theorem ald{p:P3}(h:ts[k]? = some t):Et ts p k t 3=nZ (ts.take (k+1)) p:=by rw[afd h];rfl
theorem ahk{p:P3}(h:ts[k]? = some t):wD ts p k t 3=uE (ts.take (k+1)) p:=by rw[acd h];rfl
theorem yD  : (x.x=y.x∧x.y=y.y∧x.z=y.z)↔x=y:=⟨fun h=>P3.eq h.1 h.2.1 h.2.2,fun h=>by rw[h];exact⟨rfl,rfl,rfl⟩⟩
theorem Nr{v:P3}:(decide (x.x=y.x∧x.y=y.y∧x.z=y.z)&&decide (u.x=v.x∧u.y=v.y∧u.z=v.z))=true↔x=y∧u=v:=by
 rw[bg,decide_eq_true_eq,decide_eq_true_eq,yD,yD]
theorem acf{v:P3}(h:(decide (x.x=y.x∧x.y=y.y∧x.z=y.z)&&decide (u.x=v.x∧u.y=v.y∧u.z=v.z))=false):¬(x=y∧u=v):=fun k=>by
 rw[Nr.2 k] at h;cases h
theorem arI{p:P3}(h:t.cor 0=p∧t.cor 1=q):t.fnd p q=some (t.cor 2):=if_pos h
theorem arJ{p:P3}(h0:¬(t.cor 0=p∧t.cor 1=q))(h:t.cor 1=p∧t.cor 2=q):t.fnd p q=some (t.cor 0):=(if_neg h0).trans (if_pos h)
theorem arK{p:P3}(h0:¬(t.cor 0=p∧t.cor 1=q))(h1:¬(t.cor 1=p∧t.cor 2=q))(h:t.cor 2=p∧t.cor 0=q):t.fnd p q=some (t.cor 1):=(if_neg h0).trans ((if_neg h1).trans (if_pos h))
theorem arL{p:P3}(h0:¬(t.cor 0=p∧t.cor 1=q))(h1:¬(t.cor 1=p∧t.cor 2=q))(h2:¬(t.cor 2=p∧t.cor 0=q)):t.fnd p q=none:=(if_neg h0).trans ((if_neg h1).trans (if_neg h2))
def oA(ms:List T3)(p s:P3):Nat→P3→Bool
 | 0,_=>false
 | n+1,at_=>match cE ms p at_ with
  | none=>false
  | some x=>if x=s then true else oA ms p s n x
theorem Us{p:P3}(h:cE ms p x=none):oA ms p s n x=false:=by
 cases n with
 | zero=>rfl
 | succ n=>simp only[oA,h]
theorem aaz{p:P3}(h:cE ms p x=some s):oA ms p s (n+1) x=true:=by simp[oA,h]
theorem Ut{p:P3}(h:cE ms p x=some y)(hy:¬y=s):oA ms p s (n+1) x=oA ms p s n y:=by simp[oA,h,hy]
def Hn(ts:List T3)(p:P3):Bool:=(uE ts p).any fun s=>oA (nZ ts p) p s ((nZ ts p).length-1) s
def wV(t:T3):Bool:=decide (t.a=t.b)||decide (t.b=t.c)||decide (t.c=t.a)
theorem Xs  : (decide (t.a.x=t.b.x∧t.a.y=t.b.y∧t.a.z=t.b.z)||decide (t.b.x=t.c.x∧t.b.y=t.c.y∧t.b.z=t.c.z)||decide (t.c.x=t.a.x∧t.c.y=t.a.y∧t.c.z=t.a.z))=wV t:=by
 simp only[yD,wV]
def fW(op:Bool)(ts:List T3):Int :=
 if ts.any wV then 20 else if (bE ts).any (fun e=>decide (1<lV (bE ts) e)) then 21
 else if !op&&decide (0<(bK ts).length) then 22 else if (dY ts).any (Hn ts) then 23 else 0
theorem wW{p:α→Bool}{l:List α}{x:α}(hx:l[k]? = some x):(l.take (k+1)).any p=((l.take k).any p||p x):=by
 rw[cH hx,List.any_append];simp
theorem Ho{p:α→Bool}{l:List α}{x:α}(hx:l[k]? = some x)(h:p x=true):l.any p=true:=el.2 ⟨x,be hx,h⟩
end Go.Lith
namespace Go.Proofs.YtfekpcimgncioaaGreatDoor
open Go.Proofs.Tryz
open Go.RowKit Go.Lith
variable{v0 v1 v2 A B C D E F G H I:ai}{l:List ai}{ty T':az}{x0 x1 x2 x3 y0 y1 y2 y3 x4 y4 x5 y5 x6 y6 x7 y7 x8 y8:Int}{x y:bx}
abbrev nP:=@underlying107
abbrev yE:=@underlying112
abbrev uF:=@underlying215
abbrev nQ:=@underlying218
abbrev lJ:=@underlying231
abbrev Kg:=@underlying257
abbrev cD:=@underlying27
abbrev jN:=@underlying3
abbrev fT:=@underlying30
abbrev oM:=@underlying300
abbrev qO:=@underlying36
abbrev cF:=@underlying39
abbrev Pu:=@underlying4
abbrev oB:=@underlying52
abbrev Eu:=@underlying56
abbrev cN:=@underlying65
abbrev pC:=@underlying9
abbrev Pv:=@underlying93
abbrev Mi:=@underlying97
abbrev Pw:=@underlying99
set_option maxRecDepth 100000
theorem aB:prog.follows .mixedOrders=true:=by kernel_rfl
theorem ad2:Entr prog 82:=bJ func82 (by kernel_rfl)
theorem acg:Entr prog 114:=bJ func114 (by kernel_rfl)
theorem ahl:Entr prog 119:=bJ func119 (by kernel_rfl)
theorem ahm:Entr prog 125:=bJ func125 (by kernel_rfl)
theorem ach:Entr prog 128:=bJ func128 (by kernel_rfl)
theorem ahn:Entr prog 129:=bJ func129 (by kernel_rfl)
theorem aho:Entr prog 195:=bJ func195 (by kernel_rfl)
theorem Xt:Entr prog 235:=bJ func235 (by kernel_rfl)
theorem ahp:Entr prog 276:=bJ func276 (by kernel_rfl)
theorem ahq:Entr prog 277:=bJ func277 (by kernel_rfl)
theorem ahr:Entr prog 278:=bJ func278 (by kernel_rfl)
theorem aci:Entr prog 336:=bJ func336 (by kernel_rfl)
theorem ahs:Entr prog 337:=bJ func337 (by kernel_rfl)
theorem aV:dQ prog 3 1:=dV (by kernel_rfl)
theorem bF:fA prog 3 false:=dO _ jN rfl
theorem lW:nU prog 3 (.int .i64 0):=kX (by kernel_rfl)
theorem sV:(prog.info? 3).map (fun i=>(i.size,i.bytes,i.zero))=some (1,8,some (.int .i64 0)):=by kernel_rfl
theorem eM:dQ prog 4 1:=dV (by kernel_rfl)
theorem oV:fA prog 4 false:=dO _ Pu rfl
theorem oN:nU prog 4 (.bool false):=kX (by kernel_rfl)
theorem am1:(prog.info? 4).map (fun i=>(i.size,i.bytes,i.zero))=some (1,1,some (.bool false)):=by kernel_rfl
theorem Uu:(prog.info? 5).map (fun i=>(i.size,i.bytes,i.zero))=some (1,1,some (.int .u8 0)):=by kernel_rfl
theorem ale:dQ prog 9 1:=dV (by kernel_rfl)
theorem am2:fA prog 9 false:=dO _ pC rfl
theorem aht:dQ prog 23 1:=dV (by kernel_rfl)
theorem an0:fA prog 23 false:=dO _ underlying23 rfl
theorem an1:fA prog 24 true:=dO _ underlying24 rfl
theorem iG:dQ prog 27 1:=dV (by kernel_rfl)
theorem sL:fA prog 27 false:=dO _ cD rfl
theorem ad3:nU prog 27 (.slice none 0 0):=kX (by kernel_rfl)
theorem aA:dQ prog 30 3:=dV (by kernel_rfl)
theorem aG:fA prog 30 true:=dO _ fT rfl
theorem iZ:nU prog 30 (.agg #[.int .i64 0,.int .i64 0,.int .i64 0]):=kX (by kernel_rfl)
theorem mX:(prog.info? 30).map (fun i=>(i.size,i.bytes,i.zero))=some (3,24,some (.agg #[.int .i64 0,.int .i64 0,.int .i64 0])):=by kernel_rfl
theorem jJ:dQ prog 36 3:=dV (by kernel_rfl)
theorem uG:fA prog 36 true:=dO _ qO rfl
theorem Di:nU prog 36 (.agg #[.int .i64 0,.int .i64 0,.int .i64 0]):=kX (by kernel_rfl)
theorem ahu:dQ prog 38 9:=dV (by kernel_rfl)
theorem an2:fA prog 38 true:=dO _ underlying38 rfl
theorem aP:dQ prog 39 9:=dV (by kernel_rfl)
theorem cA:fA prog 39 true:=dO _ cF rfl
theorem ad4:nU prog 39 (.agg #[.int .i64 0,.int .i64 0,.int .i64 0,.int .i64 0,.int .i64 0,.int .i64 0,.int .i64 0,.int .i64 0,.int .i64 0]):=kX (by kernel_rfl)
theorem jK:(prog.info? 39).map (fun i=>(i.size,i.bytes,i.zero))=some (9,72,some (.agg #[.int .i64 0,.int .i64 0,.int .i64 0,.int .i64 0,.int .i64 0,.int .i64 0,.int .i64 0,.int .i64 0,.int .i64 0])):=by kernel_rfl
theorem Hp:dQ prog 55 6:=dV (by kernel_rfl)
theorem ahv:fA prog 55 true:=dO _ underlying55 rfl
theorem alf:nU prog 55 (.agg #[.int .i64 0,.int .i64 0,.int .i64 0,.int .i64 0,.int .i64 0,.int .i64 0]):=kX (by kernel_rfl)
theorem ahw:(prog.info? 55).map (fun i=>(i.size,i.bytes,i.zero))=some (6,48,some (.agg #[.int .i64 0,.int .i64 0,.int .i64 0,.int .i64 0,.int .i64 0,.int .i64 0])):=by kernel_rfl
theorem iV:dQ prog 56 6:=dV (by kernel_rfl)
theorem Ft:fA prog 56 true:=dO _ Eu rfl
theorem Bo:(prog.info? 56).map (fun i=>(i.size,i.bytes,i.zero))=some (6,48,some (.agg #[.int .i64 0,.int .i64 0,.int .i64 0,.int .i64 0,.int .i64 0,.int .i64 0])):=by kernel_rfl
theorem ahx:dQ prog 62 1:=dV (by kernel_rfl)
theorem ahy:dQ prog 65 1:=dV (by kernel_rfl)
theorem ahz:fA prog 65 false:=dO _ cN rfl
theorem Px:dQ prog 88 1:=dV (by kernel_rfl)
theorem Xu:fA prog 88 false:=dO _ underlying88 rfl
theorem ahA:fA prog 93 false:=dO _ Pv rfl
theorem aR:dQ prog 95 2:=dV (by kernel_rfl)
theorem cM:fA prog 95 true:=dO _ underlying95 rfl
theorem yF:nU prog 95 (.agg #[.bool false,.string ⟨#[]⟩]):=kX (by kernel_rfl)
theorem kZ:dQ prog 97 20:=dV (by kernel_rfl)
theorem yG:fA prog 97 true:=dO _ Mi rfl
theorem alg:nU prog 97 (.agg #[.bool false,.string ⟨#[]⟩,.bool false,.string ⟨#[]⟩,.bool false,.string ⟨#[]⟩,.bool false,.string ⟨#[]⟩,.bool false,.string ⟨#[]⟩,.bool false,.string ⟨#[]⟩,.bool false,.string ⟨#[]⟩,.bool false,.string ⟨#[]⟩,.bool false,.string ⟨#[]⟩,.bool false,.string ⟨#[]⟩]):=kX (by kernel_rfl)
theorem an3:fA prog 99 false:=dO _ Pw rfl
theorem ad5:fA prog 106 false:=dO _ underlying106 rfl
theorem Dj:dQ prog 107 1:=dV (by kernel_rfl)
theorem tI:fA prog 107 false:=dO _ nP rfl
theorem qX:dQ prog 112 8:=dV (by kernel_rfl)
theorem Hq:fA prog 112 true:=dO _ yE rfl
theorem ahB:nU prog 112 (.agg #[.int .i64 0,.int .i64 0,.int .i64 0,.int .i64 0,.int .i64 0,.int .i64 0,.bool false,.string ⟨#[]⟩]):=kX (by kernel_rfl)
theorem alh:(prog.info? 112).map (fun i=>(i.size,i.bytes,i.zero))=some (8,72,some (.agg #[.int .i64 0,.int .i64 0,.int .i64 0,.int .i64 0,.int .i64 0,.int .i64 0,.bool false,.string ⟨#[]⟩])):=by kernel_rfl
theorem Kh:dQ prog 139 2:=dV (by kernel_rfl)
theorem ali:fA prog 139 true:=dO _ underlying139 rfl
theorem Py:nU prog 139 (.agg #[.int .i64 0,.slice none 0 0]):=kX (by kernel_rfl)
theorem afg:dQ prog 168 8:=dV (by kernel_rfl)
theorem aaA:nU prog 168 (.agg #[.bool false,.string ⟨#[]⟩,.bool false,.string ⟨#[]⟩,.bool false,.string ⟨#[]⟩,.bool false,.string ⟨#[]⟩]):=kX (by kernel_rfl)
theorem qY:dQ prog 215 6:=dV (by kernel_rfl)
theorem Dk:fA prog 215 true:=dO _ uF rfl
theorem alj:(prog.info? 215).map (fun i=>(i.size,i.bytes,i.zero))=some (6,48,some (.agg #[.int .i64 0,.int .i64 0,.int .i64 0,.int .i64 0,.int .i64 0,.int .i64 0])):=by kernel_rfl
theorem ahC:nU prog 218 (.agg #[.pointer none,.int .i64 0,.int .i64 0,.int .i64 0,.int .i64 0,.int .i64 0,.int .i64 0,.map none,.map none,.slice none 0 0,.slice none 0 0,.slice none 0 0]):=kX (by kernel_rfl)
theorem Uv:dQ prog 222 6:=dV (by kernel_rfl)
theorem ad6:fA prog 222 true:=dO _ underlying222 rfl
theorem Ki:dQ prog 229 8:=dV (by kernel_rfl)
theorem ad7:fA prog 229 true:=dO _ underlying229 rfl
theorem cJ:dQ prog 231 1:=dV (by kernel_rfl)
theorem lX:fA prog 231 false:=dO _ lJ rfl
theorem Hr:(prog.info? 231).map (fun i=>(i.size,i.bytes,i.zero))=some (1,8,some (.int .u64 0)):=by kernel_rfl
theorem Dl:dQ prog 242 1:=dV (by kernel_rfl)
theorem Xv:fA prog 242 false:=dO _ underlying242 rfl
theorem Kj:dQ prog 243 3:=dV (by kernel_rfl)
theorem ad8:fA prog 243 true:=dO _ underlying243 rfl
theorem aaB:nU prog 243 (.agg #[.nilFunc,.nilFunc,.nilFunc]):=kX (by kernel_rfl)
theorem oW:dQ prog 257 6:=dV (by kernel_rfl)
theorem Ns:fA prog 257 true:=dO _ Kg rfl
theorem aaC:nU prog 257 (.agg #[.bool false,.string ⟨#[]⟩,.bool false,.string ⟨#[]⟩,.bool false,.string ⟨#[]⟩]):=kX (by kernel_rfl)
theorem Uw:dQ prog 273 6:=dV (by kernel_rfl)
theorem ad9:fA prog 273 true:=dO _ underlying273 rfl
theorem afh:dQ prog 280 18:=dV (by kernel_rfl)
theorem alk:fA prog 280 true:=dO _ underlying280 rfl
theorem afi:dQ prog 300 1:=dV (by kernel_rfl)
theorem alm:fA prog 300 false:=dO _ oM rfl
theorem ahD:nU prog 300 (.slice none 0 0):=kX (by kernel_rfl)
theorem Ux:dQ prog 333 3:=dV (by kernel_rfl)
theorem aea:fA prog 333 true:=dO _ underlying333 rfl
theorem afj(w:aj):((#[{ name := "X", type:=3,offset:=0,embedded:=false,tag := "", pkgPath := "", byteOffset:=0 },{ name := "Y", type:=3,offset:=1,embedded:=false,tag := "", pkgPath := "", byteOffset:=8 },{ name := "Z", type:=3,offset:=2,embedded:=false,tag := "", pkgPath := "", byteOffset:=16 }]:Array Field).mapM fun f=>do pure (f.offset,←sizeOf f.type):Sem (Array (Nat × Nat))).run prog w=.ok #[(0,1),(1,1),(2,1)] w:=by
 simp[ie,eG aV]
theorem acj(h0:v0.cells = #[A])(h1:v1.cells = #[B])(h2:v2.cells = #[C])(w:aj):(Instr.build 30 #[(0,v0),(1,v1),(2,v2)]).run prog w=.ok (.agg #[A,B,C]) w:=iW fT iZ afj (by simp[Instr.fill,lG,h0,h1,h2]) w
theorem wX{x0 x1 x2:bx}(h0:(ev l x0).cells = #[A])(h1:(ev l x1).cells = #[B])(h2:(ev l x2).cells = #[C]):iR prog l (.build 30 #[(0,x0),(1,x1),(2,x2)]) ty (.agg #[A,B,C]):=oF (vs:=#[(0,ev l x0),(1,ev l x1),(2,ev l x2)]) (by simp) fun w=>acj h0 h1 h2 w
theorem ack(h0:v0.cells = #[A])(h1:v1.cells = #[B])(h2:v2.cells = #[C])(w:aj):(Instr.build 36 #[(0,v0),(1,v1),(2,v2)]).run prog w=.ok (.agg #[A,B,C]) w:=kR qO Di aV (by simp[Instr.fill,lG,h0,h1,h2]) w
theorem wY{x0 x1 x2:bx}(h0:(ev l x0).cells = #[A])(h1:(ev l x1).cells = #[B])(h2:(ev l x2).cells = #[C]):iR prog l (.build 36 #[(0,x0),(1,x1),(2,x2)]) ty (.agg #[A,B,C]):=oF (vs:=#[(0,ev l x0),(1,ev l x1),(2,ev l x2)]) (by simp) fun w=>ack h0 h1 h2 w
theorem acl(h0:v0.cells = #[A,B,C])(h1:v1.cells = #[D,E,F])(h2:v2.cells = #[G,H,I])(w:aj):(Instr.build 39 #[(0,v0),(1,v1),(2,v2)]).run prog w=.ok (.agg #[A,B,C,D,E,F,G,H,I]) w:=kR cF ad4 aA (by simp[Instr.fill,lG,h0,h1,h2]) w
theorem Kk{x0 x1 x2:bx}(h0:(ev l x0).cells = #[A,B,C])(h1:(ev l x1).cells = #[D,E,F])(h2:(ev l x2).cells = #[G,H,I]):iR prog l (.build 39 #[(0,x0),(1,x1),(2,x2)]) ty (.agg #[A,B,C,D,E,F,G,H,I]):=oF (vs:=#[(0,ev l x0),(1,ev l x1),(2,ev l x2)]) (by simp) fun w=>acl h0 h1 h2 w
theorem afk(w:aj):((#[{ name := "From", type:=30,offset:=0,embedded:=false,tag := "", pkgPath := "", byteOffset:=0 },{ name := "To", type:=30,offset:=3,embedded:=false,tag := "", pkgPath := "", byteOffset:=24 }]:Array Field).mapM fun f=>do pure (f.offset,←sizeOf f.type):Sem (Array (Nat × Nat))).run prog w=.ok #[(0,3),(3,3)] w:=by
 simp[ie,eG aA]
theorem ahE(h0:v0.cells = #[A,B,C])(h1:v1.cells = #[D,E,F])(w:aj):(Instr.build 55 #[(0,v0),(1,v1)]).run prog w=.ok (.agg #[A,B,C,D,E,F]) w:=iW underlying55 alf afk (by simp[Instr.fill,lG,h0,h1]) w
theorem Bp{x0 x1:bx}(h0:(ev l x0).cells = #[A,B,C])(h1:(ev l x1).cells = #[D,E,F]):iR prog l (.build 55 #[(0,x0),(1,x1)]) ty (.agg #[A,B,C,D,E,F]):=oF (vs:=#[(0,ev l x0),(1,ev l x1)]) (by simp) fun w=>ahE h0 h1 w
theorem afl(w:aj):((#[{ name := "Neg", type:=4,offset:=0,embedded:=false,tag := "", pkgPath := "", byteOffset:=0 },{ name := "Mag", type:=9,offset:=1,embedded:=false,tag := "", pkgPath := "", byteOffset:=8 }]:Array Field).mapM fun f=>do pure (f.offset,←sizeOf f.type):Sem (Array (Nat × Nat))).run prog w=.ok #[(0,1),(1,1)] w:=by
 simp[ie,eG eM,eG ale]
theorem ahF(h0:v0.cells = #[A])(h1:v1.cells = #[B])(w:aj):(Instr.build 95 #[(0,v0),(1,v1)]).run prog w=.ok (.agg #[A,B]) w:=iW underlying95 yF afl (by simp[Instr.fill,lG,h0,h1]) w
theorem Bq{x0 x1:bx}(h0:(ev l x0).cells = #[A])(h1:(ev l x1).cells = #[B]):iR prog l (.build 95 #[(0,x0),(1,x1)]) ty (.agg #[A,B]):=oF (vs:=#[(0,ev l x0),(1,ev l x1)]) (by simp) fun w=>ahF h0 h1 w
theorem acm(w:aj):((#[{ name := "u", type:=30,offset:=0,embedded:=false,tag := "", pkgPath := "lithophane/collapse", byteOffset:=0 },{ name := "v", type:=30,offset:=3,embedded:=false,tag := "", pkgPath := "lithophane/collapse", byteOffset:=24 },{ name := "cost", type:=95,offset:=6,embedded:=false,tag := "", pkgPath := "lithophane/collapse", byteOffset:=48 }]:Array Field).mapM fun f=>do pure (f.offset,←sizeOf f.type):Sem (Array (Nat × Nat))).run prog w=.ok #[(0,3),(3,3),(6,2)] w:=by
 simp[ie,eG aA,eG aR]
theorem aaD(h0:v0.cells = #[A,B,C])(h1:v1.cells = #[D,E,F])(h2:v2.cells = #[G,H])(w:aj):(Instr.build 112 #[(0,v0),(1,v1),(2,v2)]).run prog w=.ok (.agg #[A,B,C,D,E,F,G,H]) w:=iW yE ahB acm (by simp[Instr.fill,lG,h0,h1,h2]) w
theorem Hs{x0 x1 x2:bx}(h0:(ev l x0).cells = #[A,B,C])(h1:(ev l x1).cells = #[D,E,F])(h2:(ev l x2).cells = #[G,H]):iR prog l (.build 112 #[(0,x0),(1,x1),(2,x2)]) ty (.agg #[A,B,C,D,E,F,G,H]):=oF (vs:=#[(0,ev l x0),(1,ev l x1),(2,ev l x2)]) (by simp) fun w=>aaD h0 h1 h2 w
theorem acn(w:aj):((#[{ name := "Level", type:=3,offset:=0,embedded:=false,tag := "", pkgPath := "", byteOffset:=0 },{ name := "In", type:=62,offset:=1,embedded:=false,tag := "", pkgPath := "", byteOffset:=8 }]:Array Field).mapM fun f=>do pure (f.offset,←sizeOf f.type):Sem (Array (Nat × Nat))).run prog w=.ok #[(0,1),(1,1)] w:=by
 simp[ie,eG aV,eG ahx]
theorem afm(h0:v0.cells = #[A])(h1:v1.cells = #[B])(w:aj):(Instr.build 139 #[(0,v0),(1,v1)]).run prog w=.ok (.agg #[A,B]) w:=iW underlying139 Py acn (by simp[Instr.fill,lG,h0,h1]) w
theorem Ah{x0 x1:bx}(h0:(ev l x0).cells = #[A])(h1:(ev l x1).cells = #[B]):iR prog l (.build 139 #[(0,x0),(1,x1)]) ty (.agg #[A,B]):=oF (vs:=#[(0,ev l x0),(1,ev l x1)]) (by simp) fun w=>afm h0 h1 w
theorem Tk{v3:ai}(h0:v0.cells = #[A,B])(h1:v1.cells = #[C,D])(h2:v2.cells = #[E,F])(h3:v3.cells = #[G,H])(w:aj):(Instr.build 168 #[(0,v0),(1,v1),(2,v2),(3,v3)]).run prog w=.ok (.agg #[A,B,C,D,E,F,G,H]) w:=kR underlying168 aaA aR (by simp[Instr.fill,lG,h0,h1,h2,h3]) w
theorem Eg{x0 x1 x2 x3:bx}(h0:(ev l x0).cells = #[A,B])(h1:(ev l x1).cells = #[C,D])(h2:(ev l x2).cells = #[E,F])(h3:(ev l x3).cells = #[G,H]):iR prog l (.build 168 #[(0,x0),(1,x1),(2,x2),(3,x3)]) ty (.agg #[A,B,C,D,E,F,G,H]):=oF (vs:=#[(0,ev l x0),(1,ev l x1),(2,ev l x2),(3,ev l x3)]) (by simp) fun w=>Tk h0 h1 h2 h3 w
theorem aco(w:aj):((#[{ name := "surface", type:=88,offset:=0,embedded:=true,tag := "", pkgPath := "lithophane/collapse", byteOffset:=0 },{ name := "u", type:=30,offset:=1,embedded:=false,tag := "", pkgPath := "lithophane/collapse", byteOffset:=8 },{ name := "v", type:=30,offset:=4,embedded:=false,tag := "", pkgPath := "lithophane/collapse", byteOffset:=32 },{ name := "x", type:=107,offset:=7,embedded:=false,tag := "", pkgPath := "lithophane/collapse", byteOffset:=56 },{ name := "y", type:=107,offset:=8,embedded:=false,tag := "", pkgPath := "lithophane/collapse", byteOffset:=64 },{ name := "moved", type:=27,offset:=9,embedded:=false,tag := "", pkgPath := "lithophane/collapse", byteOffset:=72 },{ name := "old", type:=27,offset:=10,embedded:=false,tag := "", pkgPath := "lithophane/collapse", byteOffset:=96 },{ name := "rest", type:=27,offset:=11,embedded:=false,tag := "", pkgPath := "lithophane/collapse", byteOffset:=120 }]:Array Field).mapM fun f=>do pure (f.offset,←sizeOf f.type):Sem (Array (Nat × Nat))).run prog w=.ok #[(0,1),(1,3),(4,3),(7,1),(8,1),(9,1),(10,1),(11,1)] w:=by
 simp[ie,eG Dj,eG iG,eG aA,eG Px]
theorem Ni{v3 v4:ai}(h0:v0.cells = #[A])(h1:v1.cells = #[B,C,D])(h2:v2.cells = #[E,F,G])(h3:v3.cells = #[H])(h4:v4.cells = #[I])(w:aj):(Instr.build 218 #[(0,v0),(1,v1),(2,v2),(3,v3),(4,v4)]).run prog w=.ok (.agg #[A,B,C,D,E,F,G,H,I,(.slice none 0 0),(.slice none 0 0),(.slice none 0 0)]) w:=iW nQ ahC aco (by simp[Instr.fill,lG,h0,h1,h2,h3,h4]) w
theorem Aq{x0 x1 x2 x3 x4:bx}(h0:(ev l x0).cells = #[A])(h1:(ev l x1).cells = #[B,C,D])(h2:(ev l x2).cells = #[E,F,G])(h3:(ev l x3).cells = #[H])(h4:(ev l x4).cells = #[I]):iR prog l (.build 218 #[(0,x0),(1,x1),(2,x2),(3,x3),(4,x4)]) ty (.agg #[A,B,C,D,E,F,G,H,I,(.slice none 0 0),(.slice none 0 0),(.slice none 0 0)]):=oF (vs:=#[(0,ev l x0),(1,ev l x1),(2,ev l x2),(3,ev l x3),(4,ev l x4)]) (by simp) fun w=>Ni h0 h1 h2 h3 h4 w
theorem aaE(h0:v0.cells = #[A])(h1:v1.cells = #[B])(h2:v2.cells = #[C])(w:aj):(Instr.build 243 #[(0,v0),(1,v1),(2,v2)]).run prog w=.ok (.agg #[A,B,C]) w:=kR underlying243 aaB Dl (by simp[Instr.fill,lG,h0,h1,h2]) w
theorem Ht{x0 x1 x2:bx}(h0:(ev l x0).cells = #[A])(h1:(ev l x1).cells = #[B])(h2:(ev l x2).cells = #[C]):iR prog l (.build 243 #[(0,x0),(1,x1),(2,x2)]) ty (.agg #[A,B,C]):=oF (vs:=#[(0,ev l x0),(1,ev l x1),(2,ev l x2)]) (by simp) fun w=>aaE h0 h1 h2 w
theorem aaF(h0:v0.cells = #[A,B])(h1:v1.cells = #[C,D])(h2:v2.cells = #[E,F])(w:aj):(Instr.build 257 #[(0,v0),(1,v1),(2,v2)]).run prog w=.ok (.agg #[A,B,C,D,E,F]) w:=kR Kg aaC aR (by simp[Instr.fill,lG,h0,h1,h2]) w
theorem Hu{x0 x1 x2:bx}(h0:(ev l x0).cells = #[A,B])(h1:(ev l x1).cells = #[C,D])(h2:(ev l x2).cells = #[E,F]):iR prog l (.build 257 #[(0,x0),(1,x1),(2,x2)]) ty (.agg #[A,B,C,D,E,F]):=oF (vs:=#[(0,ev l x0),(1,ev l x1),(2,ev l x2)]) (by simp) fun w=>aaF h0 h1 h2 w
theorem oO(d:Nat)    : tG prog (d+2) 30 (.agg #[.int .i64 x0,.int .i64 x1,.int .i64 x2]) (.agg #[.int .i64 y0,.int .i64 y1,.int .i64 y2]) (x0=y0∧x1=y1∧x2=y2):=(tG.struct fT (by kernel_rfl) (xV.cons (by decide) (cZ bF rfl) (cZ bF rfl) (tG.int (d:=d+0) jN) (xV.cons (by decide) (cZ bF rfl) (cZ bF rfl) (tG.int (d:=d+0) jN) (xV.cons (by decide) (cZ bF rfl) (cZ bF rfl) (tG.int (d:=d+0) jN) xV.nil)))).iff (by simp only[and_assoc,and_true])
theorem cB(hx:ev l x=(.agg #[.int .i64 x0,.int .i64 x1,.int .i64 x2]))(hy:ev l y=(.agg #[.int .i64 y0,.int .i64 y1,.int .i64 y2])):iR prog l (.binOp .eql 30 x y T') ty (.bool (decide (x0=y0∧x1=y1∧x2=y2))):=Oy (by kernel_rfl) hx hy (oO 9998)
theorem fH(hx:ev l x=(.agg #[.int .i64 x0,.int .i64 x1,.int .i64 x2]))(hy:ev l y=(.agg #[.int .i64 y0,.int .i64 y1,.int .i64 y2])):iR prog l (.binOp .neq 30 x y T') ty (.bool (decide (¬(x0=y0∧x1=y1∧x2=y2)))):=agY (by kernel_rfl) hx hy (oO 9998)
theorem an4(d:Nat)    : tG prog (d+2) 36 (.agg #[.int .i64 x0,.int .i64 x1,.int .i64 x2]) (.agg #[.int .i64 y0,.int .i64 y1,.int .i64 y2]) (x0=y0∧x1=y1∧x2=y2):=(tG.array qO aV (rS.cons (cZ bF rfl) (cZ bF rfl) (tG.int (d:=d+0) jN) (rS.cons (cZ bF rfl) (cZ bF rfl) (tG.int (d:=d+0) jN) (rS.cons (cZ bF rfl) (cZ bF rfl) (tG.int (d:=d+0) jN) rS.nil)))).iff (by simp only[and_assoc,and_true])
theorem Dn(hx:ev l x=(.agg #[.int .i64 x0,.int .i64 x1,.int .i64 x2]))(hy:ev l y=(.agg #[.int .i64 y0,.int .i64 y1,.int .i64 y2])):iR prog l (.binOp .eql 36 x y T') ty (.bool (decide (x0=y0∧x1=y1∧x2=y2))):=Oy (by kernel_rfl) hx hy (an4 9998)
theorem an5(d:Nat)          : tG prog (d+3) 38 (.agg #[.int .i64 x0,.int .i64 x1,.int .i64 x2,.int .i64 x3,.int .i64 x4,.int .i64 x5,.int .i64 x6,.int .i64 x7,.int .i64 x8]) (.agg #[.int .i64 y0,.int .i64 y1,.int .i64 y2,.int .i64 y3,.int .i64 y4,.int .i64 y5,.int .i64 y6,.int .i64 y7,.int .i64 y8]) (x0=y0∧x1=y1∧x2=y2∧x3=y3∧x4=y4∧x5=y5∧x6=y6∧x7=y7∧x8=y8):=(tG.array underlying38 aA (rS.cons (cX aG aA rfl) (cX aG aA rfl) (oO (d+0)) (rS.cons (cX aG aA rfl) (cX aG aA rfl) (oO (d+0)) (rS.cons (cX aG aA rfl) (cX aG aA rfl) (oO (d+0)) rS.nil)))).iff (by simp only[and_assoc,and_true])
theorem an6(d:Nat)          : tG prog (d+3) 39 (.agg #[.int .i64 x0,.int .i64 x1,.int .i64 x2,.int .i64 x3,.int .i64 x4,.int .i64 x5,.int .i64 x6,.int .i64 x7,.int .i64 x8]) (.agg #[.int .i64 y0,.int .i64 y1,.int .i64 y2,.int .i64 y3,.int .i64 y4,.int .i64 y5,.int .i64 y6,.int .i64 y7,.int .i64 y8]) (x0=y0∧x1=y1∧x2=y2∧x3=y3∧x4=y4∧x5=y5∧x6=y6∧x7=y7∧x8=y8):=(tG.array cF aA (rS.cons (cX aG aA rfl) (cX aG aA rfl) (oO (d+0)) (rS.cons (cX aG aA rfl) (cX aG aA rfl) (oO (d+0)) (rS.cons (cX aG aA rfl) (cX aG aA rfl) (oO (d+0)) rS.nil)))).iff (by simp only[and_assoc,and_true])
theorem Uy(hx:ev l x=(.agg #[.int .i64 x0,.int .i64 x1,.int .i64 x2,.int .i64 x3,.int .i64 x4,.int .i64 x5,.int .i64 x6,.int .i64 x7,.int .i64 x8]))(hy:ev l y=(.agg #[.int .i64 y0,.int .i64 y1,.int .i64 y2,.int .i64 y3,.int .i64 y4,.int .i64 y5,.int .i64 y6,.int .i64 y7,.int .i64 y8])):iR prog l (.binOp .eql 39 x y T') ty (.bool (decide (x0=y0∧x1=y1∧x2=y2∧x3=y3∧x4=y4∧x5=y5∧x6=y6∧x7=y7∧x8=y8))):=Oy (by kernel_rfl) hx hy (an6 9997)
theorem an7(d:Nat)       : tG prog (d+3) 55 (.agg #[.int .i64 x0,.int .i64 x1,.int .i64 x2,.int .i64 x3,.int .i64 x4,.int .i64 x5]) (.agg #[.int .i64 y0,.int .i64 y1,.int .i64 y2,.int .i64 y3,.int .i64 y4,.int .i64 y5]) (x0=y0∧x1=y1∧x2=y2∧x3=y3∧x4=y4∧x5=y5):=(tG.struct underlying55 (by kernel_rfl) (xV.cons (by decide) (cX aG aA rfl) (cX aG aA rfl) (oO (d+0)) (xV.cons (by decide) (cX aG aA rfl) (cX aG aA rfl) (oO (d+0)) xV.nil))).iff (by simp only[and_assoc,and_true])
theorem afn(hx:ev l x=(.agg #[.int .i64 x0,.int .i64 x1,.int .i64 x2,.int .i64 x3,.int .i64 x4,.int .i64 x5]))(hy:ev l y=(.agg #[.int .i64 y0,.int .i64 y1,.int .i64 y2,.int .i64 y3,.int .i64 y4,.int .i64 y5])):iR prog l (.binOp .neq 55 x y T') ty (.bool (decide (¬(x0=y0∧x1=y1∧x2=y2∧x3=y3∧x4=y4∧x5=y5)))):=agY (by kernel_rfl) hx hy (an7 9997)
theorem ahG(d:Nat)       : tG prog (d+3) 56 (.agg #[.int .i64 x0,.int .i64 x1,.int .i64 x2,.int .i64 x3,.int .i64 x4,.int .i64 x5]) (.agg #[.int .i64 y0,.int .i64 y1,.int .i64 y2,.int .i64 y3,.int .i64 y4,.int .i64 y5]) (x0=y0∧x1=y1∧x2=y2∧x3=y3∧x4=y4∧x5=y5):=(tG.array Eu aA (rS.cons (cX aG aA rfl) (cX aG aA rfl) (oO (d+0)) (rS.cons (cX aG aA rfl) (cX aG aA rfl) (oO (d+0)) rS.nil))).iff (by simp only[and_assoc,and_true])
theorem afo(hx:ev l x=(.agg #[.int .i64 x0,.int .i64 x1,.int .i64 x2,.int .i64 x3,.int .i64 x4,.int .i64 x5]))(hy:ev l y=(.agg #[.int .i64 y0,.int .i64 y1,.int .i64 y2,.int .i64 y3,.int .i64 y4,.int .i64 y5])):iR prog l (.binOp .eql 56 x y T') ty (.bool (decide (x0=y0∧x1=y1∧x2=y2∧x3=y3∧x4=y4∧x5=y5))):=Oy (by kernel_rfl) hx hy (ahG 9997)
theorem Xw(d:Nat){x0 y0:Bool}{x1 y1:ByteArray}:tG prog (d+2) 95 (.agg #[.bool x0,.string x1]) (.agg #[.bool y0,.string y1]) (x0=y0∧x1=y1):=(tG.struct underlying95 (by kernel_rfl) (xV.cons (by decide) (cZ oV rfl) (cZ oV rfl) (tG.bool (d:=d+0) Pu) (xV.cons (by decide) (cZ am2 rfl) (cZ am2 rfl) (tG.str (d:=d+0) pC) xV.nil))).iff (by simp only[and_assoc,and_true])
theorem aln(d:Nat)       : tG prog (d+3) 215 (.agg #[.int .i64 x0,.int .i64 x1,.int .i64 x2,.int .i64 x3,.int .i64 x4,.int .i64 x5]) (.agg #[.int .i64 y0,.int .i64 y1,.int .i64 y2,.int .i64 y3,.int .i64 y4,.int .i64 y5]) (x0=y0∧x1=y1∧x2=y2∧x3=y3∧x4=y4∧x5=y5):=(tG.struct uF (by kernel_rfl) (xV.cons (by decide) (cX aG aA rfl) (cX aG aA rfl) (oO (d+0)) (xV.cons (by decide) (cX aG aA rfl) (cX aG aA rfl) (oO (d+0)) xV.nil))).iff (by simp only[and_assoc,and_true])
theorem alo(d:Nat){x0 y0:Bool}{x1 y1:ByteArray}{x2 y2:Bool}{x3 y3:ByteArray}{x4 y4:Bool}{x5 y5:ByteArray}{x6 y6:Bool}{x7 y7:ByteArray}:tG prog (d+3) 229 (.agg #[.bool x0,.string x1,.bool x2,.string x3,.bool x4,.string x5,.bool x6,.string x7]) (.agg #[.bool y0,.string y1,.bool y2,.string y3,.bool y4,.string y5,.bool y6,.string y7]) (x0=y0∧x1=y1∧x2=y2∧x3=y3∧x4=y4∧x5=y5∧x6=y6∧x7=y7):=(tG.array underlying229 aR (rS.cons (cX cM aR rfl) (cX cM aR rfl) (Xw (d+0)) (rS.cons (cX cM aR rfl) (cX cM aR rfl) (Xw (d+0)) (rS.cons (cX cM aR rfl) (cX cM aR rfl) (Xw (d+0)) (rS.cons (cX cM aR rfl) (cX cM aR rfl) (Xw (d+0)) rS.nil))))).iff (by simp only[and_assoc,and_true])
theorem acp{x0 y0:Bool}{x1 y1:ByteArray}{x2 y2:Bool}{x3 y3:ByteArray}{x4 y4:Bool}{x5 y5:ByteArray}{x6 y6:Bool}{x7 y7:ByteArray}(hx:ev l x=(.agg #[.bool x0,.string x1,.bool x2,.string x3,.bool x4,.string x5,.bool x6,.string x7]))(hy:ev l y=(.agg #[.bool y0,.string y1,.bool y2,.string y3,.bool y4,.string y5,.bool y6,.string y7])):iR prog l (.binOp .eql 229 x y T') ty (.bool (decide (x0=y0∧x1=y1∧x2=y2∧x3=y3∧x4=y4∧x5=y5∧x6=y6∧x7=y7))):=Oy (by kernel_rfl) hx hy (alo 9997)
end Go.Proofs.YtfekpcimgncioaaGreatDoor
namespace Go.Proofs.YtfekpcimgncioaaGreatDoor
open Go.Proofs.Tryz
open Go.RowKit Go.Lith
variable{l:List ai}{ty:az}{x y x0 x1 x2 x3:bx}{k:IntKind}{c0 c1 c2 c3 c4 c5 c6 c7 c8 c9 c10 c11 c12 c13 c14 c15 c16 c17 A B C D E F G H I J K L:ai}{ds:List dx}{ops:Array Oper}{rest:List Oper}{d:Nat}{pos:String}{after:Array Edge}{w:aj}
theorem jY(hx:ev l x=.agg #[c0,c1,c2])(hy:ev l y=.int k 0):iR prog l (.index 36 x y) ty c0:=pL qO bF aV hx hy (by decide) (by decide) rfl
theorem jZ(hx:ev l x=.agg #[c0,c1,c2])(hy:ev l y=.int k 1):iR prog l (.index 36 x y) ty c1:=pL qO bF aV hx hy (by decide) (by decide) rfl
theorem kA(hx:ev l x=.agg #[c0,c1,c2])(hy:ev l y=.int k 2):iR prog l (.index 36 x y) ty c2:=pL qO bF aV hx hy (by decide) (by decide) rfl
theorem tJ(hx:ev l x=.agg #[c0,c1,c2,c3,c4,c5,c6,c7,c8])(hy:ev l y=.int k 0):iR prog l (.index 39 x y) ty (.agg #[c0,c1,c2]):=pM cF aG aA hx hy (by decide) (by decide) rfl
theorem tK(hx:ev l x=.agg #[c0,c1,c2,c3,c4,c5,c6,c7,c8])(hy:ev l y=.int k 1):iR prog l (.index 39 x y) ty (.agg #[c3,c4,c5]):=pM cF aG aA hx hy (by decide) (by decide) rfl
theorem tL(hx:ev l x=.agg #[c0,c1,c2,c3,c4,c5,c6,c7,c8])(hy:ev l y=.int k 2):iR prog l (.index 39 x y) ty (.agg #[c6,c7,c8]):=pM cF aG aA hx hy (by decide) (by decide) rfl
theorem Ev(hx:ev l x=.agg #[c0,c1,c2])(hy:ev l y=.int k 0):iR prog l (.index 243 x y) ty c0:=pL underlying243 Xv Dl hx hy (by decide) (by decide) rfl
theorem Ew(hx:ev l x=.agg #[c0,c1,c2])(hy:ev l y=.int k 1):iR prog l (.index 243 x y) ty c1:=pL underlying243 Xv Dl hx hy (by decide) (by decide) rfl
theorem Ex(hx:ev l x=.agg #[c0,c1,c2])(hy:ev l y=.int k 2):iR prog l (.index 243 x y) ty c2:=pL underlying243 Xv Dl hx hy (by decide) (by decide) rfl
theorem Tl(hx:ev l x=.agg #[c0,c1,c2,c3,c4,c5])(hy:ev l y=.int k 0):iR prog l (.index 273 x y) ty (.agg #[c0,c1]):=pM underlying273 cM aR hx hy (by decide) (by decide) rfl
theorem Tm(hx:ev l x=.agg #[c0,c1,c2,c3,c4,c5])(hy:ev l y=.int k 1):iR prog l (.index 273 x y) ty (.agg #[c2,c3]):=pM underlying273 cM aR hx hy (by decide) (by decide) rfl
theorem Tn(hx:ev l x=.agg #[c0,c1,c2,c3,c4,c5])(hy:ev l y=.int k 2):iR prog l (.index 273 x y) ty (.agg #[c4,c5]):=pM underlying273 cM aR hx hy (by decide) (by decide) rfl
theorem To(hx:ev l x=.agg #[c0,c1,c2,c3,c4,c5,c6,c7,c8,c9,c10,c11,c12,c13,c14,c15,c16,c17])(hy:ev l y=.int k 0):iR prog l (.index 280 x y) ty (.agg #[c0,c1,c2,c3,c4,c5]):=pM underlying280 Dk qY hx hy (by decide) (by decide) rfl
theorem Tp(hx:ev l x=.agg #[c0,c1,c2,c3,c4,c5,c6,c7,c8,c9,c10,c11,c12,c13,c14,c15,c16,c17])(hy:ev l y=.int k 1):iR prog l (.index 280 x y) ty (.agg #[c6,c7,c8,c9,c10,c11]):=pM underlying280 Dk qY hx hy (by decide) (by decide) rfl
theorem Tq(hx:ev l x=.agg #[c0,c1,c2,c3,c4,c5,c6,c7,c8,c9,c10,c11,c12,c13,c14,c15,c16,c17])(hy:ev l y=.int k 2):iR prog l (.index 280 x y) ty (.agg #[c12,c13,c14,c15,c16,c17]):=pM underlying280 Dk qY hx hy (by decide) (by decide) rfl
theorem Tr(hx:ev l x=.agg #[c0,c1,c2])(hy:ev l y=.int k 0):iR prog l (.index 333 x y) ty c0:=pL underlying333 bF aV hx hy (by decide) (by decide) rfl
theorem Ts(hx:ev l x=.agg #[c0,c1,c2])(hy:ev l y=.int k 1):iR prog l (.index 333 x y) ty c1:=pL underlying333 bF aV hx hy (by decide) (by decide) rfl
theorem Tt(hx:ev l x=.agg #[c0,c1,c2])(hy:ev l y=.int k 2):iR prog l (.index 333 x y) ty c2:=pL underlying333 bF aV hx hy (by decide) (by decide) rfl
theorem eZ{Q:Exit→Act→aj→Prop}(h0:(ev l x0).cells = #[A,B,C,D,E,F,G,H,I])(h:∀w' g,fQ w w'→w.heap.size≤g→fR w' g [A,B,C,D,E,F,G,H,I] 39→ar prog ops Q rest (Fr (l.set d (.slice (some ⟨g,0,none⟩) 1 1)) ds) w'):ar prog ops Q (bm (some d) (.buildSlice 27 1 #[(0,x0)]) ty pos after none::rest) (Fr l ds) w :=
 lY (vs:=#[(0,ev l x0)]) (base:=#[.int .i64 0,.int .i64 0,.int .i64 0,.int .i64 0,.int .i64 0,.int .i64 0,.int .i64 0,.int .i64 0,.int .i64 0]) (c:=9) (z:=(.agg #[.int .i64 0,.int .i64 0,.int .i64 0,.int .i64 0,.int .i64 0,.int .i64 0,.int .i64 0,.int .i64 0,.int .i64 0])) cD (by kernel_rfl) (by decide) (by decide) (by kernel_rfl) (by simp) (by simp[Instr.fill,h0]) h
theorem afp{Q:Exit→Act→aj→Prop}{M N O0 P R S T U V W X Y Z b e f i j k m n o p q:ai}(h0:(ev l x0).cells = #[A,B,C,D,E,F,G,H,I])(h1:(ev l x1).cells = #[J,K,L,M,N,O0,P,R,S])(h2:(ev l x2).cells = #[T,U,V,W,X,Y,Z,b,e])(h3:(ev l x3).cells = #[f,i,j,k,m,n,o,p,q])(h:∀w' g,fQ w w'→w.heap.size≤g→fR w' g [A,B,C,D,E,F,G,H,I,J,K,L,M,N,O0,P,R,S,T,U,V,W,X,Y,Z,b,e,f,i,j,k,m,n,o,p,q] 39→ar prog ops Q rest (Fr (l.set d (.slice (some ⟨g,0,none⟩) 4 4)) ds) w'):ar prog ops Q (bm (some d) (.buildSlice 27 4 #[(0,x0),(1,x1),(2,x2),(3,x3)]) ty pos after none::rest) (Fr l ds) w :=
 lY (vs:=#[(0,ev l x0),(1,ev l x1),(2,ev l x2),(3,ev l x3)]) (base:=#[.int .i64 0,.int .i64 0,.int .i64 0,.int .i64 0,.int .i64 0,.int .i64 0,.int .i64 0,.int .i64 0,.int .i64 0,.int .i64 0,.int .i64 0,.int .i64 0,.int .i64 0,.int .i64 0,.int .i64 0,.int .i64 0,.int .i64 0,.int .i64 0,.int .i64 0,.int .i64 0,.int .i64 0,.int .i64 0,.int .i64 0,.int .i64 0,.int .i64 0,.int .i64 0,.int .i64 0,.int .i64 0,.int .i64 0,.int .i64 0,.int .i64 0,.int .i64 0,.int .i64 0,.int .i64 0,.int .i64 0,.int .i64 0]) (c:=9) (z:=(.agg #[.int .i64 0,.int .i64 0,.int .i64 0,.int .i64 0,.int .i64 0,.int .i64 0,.int .i64 0,.int .i64 0,.int .i64 0])) cD (by kernel_rfl) (by decide) (by decide) (by kernel_rfl) (by simp) (by simp[Instr.fill,h0,h1,h2,h3]) h
theorem Kl{Q:Exit→Act→aj→Prop}(h0:(ev l x0).cells = #[A,B,C,D,E,F])(h:∀w' g,fQ w w'→w.heap.size≤g→fR w' g [A,B,C,D,E,F] 55→ar prog ops Q rest (Fr (l.set d (.slice (some ⟨g,0,none⟩) 1 1)) ds) w'):ar prog ops Q (bm (some d) (.buildSlice 46 1 #[(0,x0)]) ty pos after none::rest) (Fr l ds) w :=
 lY (vs:=#[(0,ev l x0)]) (base:=#[.int .i64 0,.int .i64 0,.int .i64 0,.int .i64 0,.int .i64 0,.int .i64 0]) (c:=6) (z:=(.agg #[.int .i64 0,.int .i64 0,.int .i64 0,.int .i64 0,.int .i64 0,.int .i64 0])) underlying46 (by kernel_rfl) (by decide) (by decide) (by kernel_rfl) (by simp) (by simp[Instr.fill,h0]) h
theorem Km{Q:Exit→Act→aj→Prop}(h0:(ev l x0).cells = #[A,B,C,D,E,F])(h:∀w' g,fQ w w'→w.heap.size≤g→fR w' g [A,B,C,D,E,F] 56→ar prog ops Q rest (Fr (l.set d (.slice (some ⟨g,0,none⟩) 1 1)) ds) w'):ar prog ops Q (bm (some d) (.buildSlice 52 1 #[(0,x0)]) ty pos after none::rest) (Fr l ds) w :=
 lY (vs:=#[(0,ev l x0)]) (base:=#[.int .i64 0,.int .i64 0,.int .i64 0,.int .i64 0,.int .i64 0,.int .i64 0]) (c:=6) (z:=(.agg #[.int .i64 0,.int .i64 0,.int .i64 0,.int .i64 0,.int .i64 0,.int .i64 0])) oB (by kernel_rfl) (by decide) (by decide) (by kernel_rfl) (by simp) (by simp[Instr.fill,h0]) h
theorem afq{Q:Exit→Act→aj→Prop}{M N O0 P R S:ai}(h0:(ev l x0).cells = #[A,B,C,D,E,F])(h1:(ev l x1).cells = #[G,H,I,J,K,L])(h2:(ev l x2).cells = #[M,N,O0,P,R,S])(h:∀w' g,fQ w w'→w.heap.size≤g→fR w' g [A,B,C,D,E,F,G,H,I,J,K,L,M,N,O0,P,R,S] 56→ar prog ops Q rest (Fr (l.set d (.slice (some ⟨g,0,none⟩) 3 3)) ds) w'):ar prog ops Q (bm (some d) (.buildSlice 52 3 #[(0,x0),(1,x1),(2,x2)]) ty pos after none::rest) (Fr l ds) w :=
 lY (vs:=#[(0,ev l x0),(1,ev l x1),(2,ev l x2)]) (base:=#[.int .i64 0,.int .i64 0,.int .i64 0,.int .i64 0,.int .i64 0,.int .i64 0,.int .i64 0,.int .i64 0,.int .i64 0,.int .i64 0,.int .i64 0,.int .i64 0,.int .i64 0,.int .i64 0,.int .i64 0,.int .i64 0,.int .i64 0,.int .i64 0]) (c:=6) (z:=(.agg #[.int .i64 0,.int .i64 0,.int .i64 0,.int .i64 0,.int .i64 0,.int .i64 0])) oB (by kernel_rfl) (by decide) (by decide) (by kernel_rfl) (by simp) (by simp[Instr.fill,h0,h1,h2]) h
theorem kW{Q:Exit→Act→aj→Prop}(h0:(ev l x0).cells = #[A,B,C])(h:∀w' g,fQ w w'→w.heap.size≤g→fR w' g [A,B,C] 30→ar prog ops Q rest (Fr (l.set d (.slice (some ⟨g,0,none⟩) 1 1)) ds) w'):ar prog ops Q (bm (some d) (.buildSlice 65 1 #[(0,x0)]) ty pos after none::rest) (Fr l ds) w :=
 lY (vs:=#[(0,ev l x0)]) (base:=#[.int .i64 0,.int .i64 0,.int .i64 0]) (c:=3) (z:=(.agg #[.int .i64 0,.int .i64 0,.int .i64 0])) cN (by kernel_rfl) (by decide) (by decide) (by kernel_rfl) (by simp) (by simp[Instr.fill,h0]) h
theorem Uz{Q:Exit→Act→aj→Prop}(h0:(ev l x0).cells = #[A,B,C])(h1:(ev l x1).cells = #[D,E,F])(h:∀w' g,fQ w w'→w.heap.size≤g→fR w' g [A,B,C,D,E,F] 30→ar prog ops Q rest (Fr (l.set d (.slice (some ⟨g,0,none⟩) 2 2)) ds) w'):ar prog ops Q (bm (some d) (.buildSlice 65 2 #[(0,x0),(1,x1)]) ty pos after none::rest) (Fr l ds) w :=
 lY (vs:=#[(0,ev l x0),(1,ev l x1)]) (base:=#[.int .i64 0,.int .i64 0,.int .i64 0,.int .i64 0,.int .i64 0,.int .i64 0]) (c:=3) (z:=(.agg #[.int .i64 0,.int .i64 0,.int .i64 0])) cN (by kernel_rfl) (by decide) (by decide) (by kernel_rfl) (by simp) (by simp[Instr.fill,h0,h1]) h
theorem afr{Q:Exit→Act→aj→Prop}(h0:(ev l x0).cells = #[A,B,C])(h1:(ev l x1).cells = #[D,E,F])(h2:(ev l x2).cells = #[G,H,I])(h:∀w' g,fQ w w'→w.heap.size≤g→fR w' g [A,B,C,D,E,F,G,H,I] 30→ar prog ops Q rest (Fr (l.set d (.slice (some ⟨g,0,none⟩) 3 3)) ds) w'):ar prog ops Q (bm (some d) (.buildSlice 65 3 #[(0,x0),(1,x1),(2,x2)]) ty pos after none::rest) (Fr l ds) w :=
 lY (vs:=#[(0,ev l x0),(1,ev l x1),(2,ev l x2)]) (base:=#[.int .i64 0,.int .i64 0,.int .i64 0,.int .i64 0,.int .i64 0,.int .i64 0,.int .i64 0,.int .i64 0,.int .i64 0]) (c:=3) (z:=(.agg #[.int .i64 0,.int .i64 0,.int .i64 0])) cN (by kernel_rfl) (by decide) (by decide) (by kernel_rfl) (by simp) (by simp[Instr.fill,h0,h1,h2]) h
theorem Do{Q:Exit→Act→aj→Prop}(h0:(ev l x0).cells = #[A,B,C])(h1:(ev l x1).cells = #[D,E,F])(h2:(ev l x2).cells = #[G,H,I])(h3:(ev l x3).cells = #[J,K,L])(h:∀w' g,fQ w w'→w.heap.size≤g→fR w' g [A,B,C,D,E,F,G,H,I,J,K,L] 30→ar prog ops Q rest (Fr (l.set d (.slice (some ⟨g,0,none⟩) 4 4)) ds) w'):ar prog ops Q (bm (some d) (.buildSlice 65 4 #[(0,x0),(1,x1),(2,x2),(3,x3)]) ty pos after none::rest) (Fr l ds) w :=
 lY (vs:=#[(0,ev l x0),(1,ev l x1),(2,ev l x2),(3,ev l x3)]) (base:=#[.int .i64 0,.int .i64 0,.int .i64 0,.int .i64 0,.int .i64 0,.int .i64 0,.int .i64 0,.int .i64 0,.int .i64 0,.int .i64 0,.int .i64 0,.int .i64 0]) (c:=3) (z:=(.agg #[.int .i64 0,.int .i64 0,.int .i64 0])) cN (by kernel_rfl) (by decide) (by decide) (by kernel_rfl) (by simp) (by simp[Instr.fill,h0,h1,h2,h3]) h
theorem acq{Q:Exit→Act→aj→Prop}(h0:(ev l x0).cells = #[A,B,C,D,E,F,G,H])(h:∀w' g,fQ w w'→w.heap.size≤g→fR w' g [A,B,C,D,E,F,G,H] 112→ar prog ops Q rest (Fr (l.set d (.slice (some ⟨g,0,none⟩) 1 1)) ds) w'):ar prog ops Q (bm (some d) (.buildSlice 105 1 #[(0,x0)]) ty pos after none::rest) (Fr l ds) w :=
 lY (vs:=#[(0,ev l x0)]) (base:=#[.int .i64 0,.int .i64 0,.int .i64 0,.int .i64 0,.int .i64 0,.int .i64 0,.bool false,.string ⟨#[]⟩]) (c:=8) (z:=(.agg #[.int .i64 0,.int .i64 0,.int .i64 0,.int .i64 0,.int .i64 0,.int .i64 0,.bool false,.string ⟨#[]⟩])) underlying105 (by kernel_rfl) (by decide) (by decide) (by kernel_rfl) (by simp) (by simp[Instr.fill,h0]) h
theorem acr{Q:Exit→Act→aj→Prop}{x4 x5:bx}(h0:(ev l x0).cells = #[A])(h1:(ev l x1).cells = #[B])(h2:(ev l x2).cells = #[C])(h3:(ev l x3).cells = #[D])(h4:(ev l x4).cells = #[E])(h5:(ev l x5).cells = #[F])(h:∀w' g,fQ w w'→w.heap.size≤g→fR w' g [A,B,C,D,E,F] 26→ar prog ops Q rest (Fr (l.set d (.slice (some ⟨g,0,none⟩) 6 6)) ds) w'):ar prog ops Q (bm (some d) (.buildSlice 157 6 #[(0,x0),(1,x1),(2,x2),(3,x3),(4,x4),(5,x5)]) ty pos after none::rest) (Fr l ds) w :=
 lY (vs:=#[(0,ev l x0),(1,ev l x1),(2,ev l x2),(3,ev l x3),(4,ev l x4),(5,ev l x5)]) (base:=#[.nilFunc,.nilFunc,.nilFunc,.nilFunc,.nilFunc,.nilFunc]) (c:=1) (z:=(.nilFunc)) underlying157 (by kernel_rfl) (by decide) (by decide) (by kernel_rfl) (by simp) (by simp[Instr.fill,h0,h1,h2,h3,h4,h5]) h
theorem acs{Q:Exit→Act→aj→Prop}(h0:(ev l x0).cells = #[A,B,C,D,E,F])(h:∀w' g,fQ w w'→w.heap.size≤g→fR w' g [A,B,C,D,E,F] 215→ar prog ops Q rest (Fr (l.set d (.slice (some ⟨g,0,none⟩) 1 1)) ds) w'):ar prog ops Q (bm (some d) (.buildSlice 212 1 #[(0,x0)]) ty pos after none::rest) (Fr l ds) w :=
 lY (vs:=#[(0,ev l x0)]) (base:=#[.int .i64 0,.int .i64 0,.int .i64 0,.int .i64 0,.int .i64 0,.int .i64 0]) (c:=6) (z:=(.agg #[.int .i64 0,.int .i64 0,.int .i64 0,.int .i64 0,.int .i64 0,.int .i64 0])) underlying212 (by kernel_rfl) (by decide) (by decide) (by kernel_rfl) (by simp) (by simp[Instr.fill,h0]) h
end Go.Proofs.YtfekpcimgncioaaGreatDoor
namespace Go.Lith
open Go.RowKit
variable{w:aj}{c:Nat}
def jO(w:aj)(g:Nat)(es:Array ck)(c:Nat):Prop:=w.heap[g]? = some (.map es c)
def rU(w:aj)(r g s:Nat)(seen:Array Nat)(c:Nat):Prop:=w.heap[r]? = some (.mapIter (some g) s seen c)
theorem jO.ext{w':aj}{g:Nat}{es:Array ck}(h:jO w g es c)(hE:fQ w w'):jO w' g es c:=hE.block h
theorem rU.ext{w':aj}{r g s:Nat}{seen:Array Nat}(h:rU w r g s seen c)(hE:fQ w w'):rU w' r g s seen c:=hE.block h
theorem jO.lt{g:Nat}{es:Array ck}(h:jO w g es c):g<w.heap.size:=(dz.1 h).1
theorem rU.lt{r g s:Nat}{seen:Array Nat}(h:rU w r g s seen c):r<w.heap.size:=(dz.1 h).1
section
variable {P:bp} {ds:List dx} {l:List ai} {x:bx} {T ty:az} {ops:Array Oper} {Q:Exit→Act→aj→Prop} {rest:List Oper} {d:Nat} {pos:String} {after:Array Edge} {w:aj}
theorem afs(h:∀w' g,fQ w w'→w.heap.size≤g→jO w' g #[] 0→ar P ops Q rest (Fr (l.set d (.map (some g))) ds) w'):ar P ops Q (bm (some d) (.makeMap T none) ty pos after none::rest) (Fr l ds) w :=
 mJ (w':=w.alloc (.map #[] 0)) (v:=.map (some w.heap.size)) (fun o ho _=>by simp[de,ho,Instr.makeMap,newObj,Sem.run]) (h _ _ ((fQ.refl w).alloc _) (av _) (heap_alloc_new w _))
theorem aeb{k e:az}{g c:Nat}{es:Array ck}(hu:P.underlying T=some (.map k e))(hx:ev l x=.map (some g))(hM:jO w g es c)(h:∀w' r,fQ w w'→w.heap.size≤r→rU w' r g c #[] c→ar P ops Q rest (Fr (l.set d (.pointer (some ⟨r,0,none⟩))) ds) w') :
 ar P ops Q (bm (some d) (.range T x) ty pos after none::rest) (Fr l ds) w :=
 mJ (w':=w.alloc (.mapIter (some g) c #[] c)) (v:=.pointer (some ⟨w.heap.size,0,none⟩)) (fun o ho _=>by
  unfold jO at hM;simp[de,ho,cK,hx,Instr.range,cd hu,getObj,hM,newObj,Sem.run]) (h _ _ ((fQ.refl w).alloc _) (av _) (heap_alloc_new w _))
end
end Go.Lith
namespace Go.Lith
open Go.RowKit Go.ChangeMaps Go.MapKept
/-! ### Lists of pairs -/
section
variable {K V:Type} [DecidableEq K]
def fP:List (K × V)→K→V→List (K × V)
 | [],k,v=>[(k,v)]
 | x::D,k,v=>if x.1=k then (k,v)::D else x::fP D k v
def cL:List (K × V)→K→Option V
 | [],_=>none
 | x::D,k=>if x.1=k then some x.2 else cL D k
def Br:List (K × V)→K→List (K × V)
 | [],_=>[]
 | x::D,k=>if x.1=k then D else x::Br D k
def qQ:List (K × V)→K→Nat→Option (Nat × V)
 | [],_,_=>none
 | x::D,k,i=>if x.1=k then some (i,x.2) else qQ D k (i+1)
theorem qZ:∀(D:List (K × V)) (k:K) (i:Nat),qQ D k i=none→cL D k=none∧(∀u,fP D k u=D++[(k,u)])∧Br D k=D
 | [],_,_,_=>⟨rfl,fun _=>rfl,rfl⟩
 | x::D,k,i,h=>by
  unfold qQ at h;by_cases e:x.1=k
  · rw[if_pos e] at h;cases h
  · rw[if_neg e] at h
    obtain⟨h1,h2,h3⟩:=qZ D k (i+1) h;exact⟨by simp[cL,e,h1],fun u=>by simp[fP,e,h2],by simp[Br,e,h3]⟩
theorem mY:∀(D:List (K × V)) (k:K) (i j:Nat) (v:V),qQ D k i=some (j,v)→∃p,j=i+p∧D[p]? = some (k,v)∧cL D k=some v∧(∀u,fP D k u=D.set p (k,u))∧Br D k=D.eraseIdx p
 | [],_,_,_,_,h=>by cases h
 | x::D,k,i,j,v,h=>by
  unfold qQ at h;by_cases e:x.1=k
  · rw[if_pos e] at h
    cases h;obtain⟨a,b⟩:=x;obtain rfl:a=k:=e;exact⟨0,O,O,by simp[cL],fun u=>by simp[fP],by simp[Br]⟩
  · rw[if_neg e] at h
    obtain⟨p,h1,h2,h3,h4,h5⟩:=mY D k (i+1) j v h;exact⟨p+1,by omega,by simpa using h2,by simp[cL,e,h3],fun u=>by simp[fP,e,h4],by simp[Br,e,h5]⟩
theorem mG:∀(D:List (K × V)) (k k':K) (v:V),cL (fP D k v) k'=if k=k' then some v else cL D k'
 | [],k,k',v=>by simp[fP,cL]
 | x::D,k,k',v=>by
  unfold fP;by_cases e:x.1=k
  · rw[if_pos e]
    subst e;by_cases e':x.1=k' <;> simp[cL,e']
  · rw[if_neg e]
    unfold cL;rw[mG D k k' v];by_cases e':x.1=k'
    · rw[if_pos e',if_pos e',if_neg (fun h=>e (e'.trans h.symm))]
    · rw[if_neg e',if_neg e']
theorem Bt:∀{D:List (K × V)} {k:K} {v:V},cL D k=some v→(k,v)∈D
 | [],_,_,h=>by cases h
 | x::D,k,v,h=>by
  unfold cL at h;split at h
  · rename_i e;cases h;subst e;exact bu ..
  · exact bt _ (Bt h)
theorem oX:∀{D:List (K × V)} {k:K},cL D k=none↔k∉D.map (·.1)
 | [],_=>by simp[cL]
 | x::D,k=>by
  unfold cL;split
  · rename_i e;simp[e]
  · rename_i e
    rw[oX (D:=D)];simp only[bh,an,not_or];exact⟨fun h=>⟨fun h'=>e h'.symm,h⟩,fun h=>h.2⟩
theorem vJ:∀{D:List (K × V)} {k:K} {v:V},(D.map (·.1)).Nodup→(k,v)∈D→cL D k=some v
 | [],_,_,_,h=>by cases h
 | x::D,k,v,hn,h=>by
  have hn':=gt.1 hn;unfold cL;rcases an.1 h with rfl | h
  · simp
  · rw[if_neg fun e=>hn'.1 (by show x.1∈_;rw[e];exact eh.2 ⟨_,h,O⟩)]
    exact vJ hn'.2 h
theorem wZ:∀(D:List (K × V)) (k:K) (v:V),(fP D k v).map (·.1)=if k∈D.map (·.1) then D.map (·.1) else D.map (·.1)++[k]
 | [],k,v=>by simp[fP]
 | x::D,k,v=>by
  unfold fP;by_cases e:x.1=k
  · simp[e]
  · have e':¬k=x.1:=fun h=>e h.symm
    simp only[if_neg e,bh,wZ D k v,an,e',false_or];split <;> simp
theorem uH{D:List (K × V)}(h:(D.map (·.1)).Nodup)(k:K)(v:V):((fP D k v).map (·.1)).Nodup:=by
 rw[wZ];split
 · exact h
 · rename_i hk
   exact jy.2 ⟨h,by simp,fun a ha b hb e=>by rw[bf.1 hb] at e;exact hk (e▸ha)⟩
theorem Va:∀{D:List (K × V)} (k k':K),(D.map (·.1)).Nodup→cL (Br D k) k'=if k=k' then none else cL D k'
 | [],k,k',_=>by simp[Br,cL]
 | x::D,k,k',hn=>by
  have hn':=gt.1 hn;unfold Br;by_cases e:x.1=k
  · rw[if_pos e]
    by_cases e':k=k'
    · rw[if_pos e']
      exact oX.2 (by rw[←e',←e];exact hn'.1)
    · rw[if_neg e']
      simp[cL,e,e']
  · rw[if_neg e]
    unfold cL;rw[Va k k' hn'.2];by_cases e':x.1=k'
    · rw[if_pos e',if_pos e',if_neg (fun h=>e (e'.trans h.symm))]
    · rw[if_neg e',if_neg e']
theorem aaG:∀(D:List (K × V)) (k:K),(Br D k).Sublist D
 | [],_=>List.Sublist.refl _
 | x::D,k=>by
  unfold Br;split
  · exact List.sublist_cons_self _ _
  · exact (aaG D k).cons_cons x
theorem acu{D:List (K × V)}(h:(D.map (·.1)).Nodup)(k:K):((Br D k).map (·.1)).Nodup:=h.sublist ((aaG D k).map _)
end
/-! ### A map's entries -/
def Tu(e:ck):ai × ai:=(e.key,e.val)
structure bT{K V:Type}(ek:K→ai)(ev:V→ai)(D:List (K × V))(es:Array ck)(c:Nat):Prop where
 cells:es.toList.map Tu=D.map fun x=>(ek x.1,ev x.2)
 born:∀e∈es.toList,e.born<c
 nd:(es.toList.map (·.born)).Nodup
theorem bT.nil{K V:Type}(ek:K→ai)(ev:V→ai):bT ek ev ([]:List (K × V)) #[] 0:=⟨rfl,fun _ h=>by simp at h,by simp⟩
structure sM{K:Type}[DecidableEq K](P:bp)(T:az)(ek:K→ai):Prop where
 chk:∀e k w,(Instr.checkKey e 10000 T (ek k)).run P w=.ok () w
 now:∃t,P.underlying T=some t∧∀a b,Instr.sameNow t (ek a) (ek b)=none∨Instr.sameNow t (ek a) (ek b)=some (decide (a=b))
 eq:∀a b w,(Op.equal T (ek a) (ek b)).run P w=.ok (decide (a=b)) w
 bits:∀a,Instr.sameBits 10000 (ek a) (ek a)=true
section
variable {K V:Type} [DecidableEq K] {P:bp} {T:az} {ek:K→ai} {ev:V→ai}
theorem Mj(kt:sM P T ek)(k:K)(w:aj):∀(L:List ck) (D:List (K × V)) (i:Nat),L.map Tu=D.map (fun x=>(ek x.1,ev x.2)) →
 (Instr.findAsking T (ek k) L i).run P w=.ok ((qQ D k i).map fun p=>(p.1,ev p.2)) w
 | [],D,i,h=>by
  obtain rfl:D=[]:=by simpa using h.symm
  simp[Instr.findAsking,qQ]
 | e::L,[],i,h=>by simp at h
 | e::L,x::D,i,h=>by
  simp only[bh,lv,Tu,gh] at h;obtain⟨⟨h1,h2⟩,h3⟩:=h;have ih:=Mj kt k w L D (i+1) h3;unfold Instr.findAsking qQ;rw[h1,h2];simp only[Sem.run_bind,kt.eq,Result.andThen];by_cases e':x.1=k
  · rw[if_pos (decide_eq_true e'.symm),if_pos e']
    rfl
  · rw[if_neg (by rw[decide_eq_false (Ne.symm e')];exact Bool.false_ne_true),if_neg e']
    exact ih
theorem aaH(t:TypeDesc)(k:K)(hn:∀a b:K,Instr.sameNow t (ek a) (ek b)=none∨Instr.sameNow t (ek a) (ek b)=some (decide (a=b))):∀(L:List ck) (D:List (K × V)) (i:Nat),L.map Tu=D.map (fun x=>(ek x.1,ev x.2)) →
 Instr.findNow t (ek k) L i=none∨Instr.findNow t (ek k) L i=some ((qQ D k i).map fun p=>(p.1,ev p.2))
 | [],D,i,h=>by
  obtain rfl:D=[]:=by simpa using h.symm
  simp[Instr.findNow,qQ]
 | e::L,[],i,h=>by simp at h
 | e::L,x::D,i,h=>by
  simp only[bh,lv,Tu,gh] at h;obtain⟨⟨h1,h2⟩,h3⟩:=h;have ih:=aaH t k hn L D (i+1) h3;unfold Instr.findNow qQ;rw[h1,h2];rcases hn k x.1 with e0 | e0
  · left;rw[e0]
  · rw[e0]
    by_cases e':x.1=k
    · right;simp[e']
    · rw[show decide (k=x.1)=false from decide_eq_false (Ne.symm e')]
      simpa[e'] using ih
theorem uI(kt:sM P T ek)(k:K)(w:aj){es:Array ck}{D:List (K × V)}{c:Nat}(h:bT ek ev D es c):(Instr.findKey T (ek k) es.toList).run P w=.ok ((qQ D k 0).map fun p=>(p.1,ev p.2)) w:=by
 obtain⟨t,ht,hn⟩:=kt.now;unfold Instr.findKey;simp only[Sem.run_bind,cd ht,Result.andThen];rcases aaH t k hn es.toList D 0 h.cells with e | e
 · rw[e]
   exact Mj kt k w es.toList D 0 h.cells
 · rw[e]
   rfl
end
section
variable {K V:Type} [DecidableEq K] {P:bp} {T M E ty:az} {ek:K→ai} {ev:V→ai} {w w0:aj} {g c:Nat} {es:Array ck} {D:List (K × V)}
theorem Mk{v0:V}(hu:P.underlying M=some (.map T E))(kt:sM P T ek)(hM:jO w g es c)(hD:bT ek ev D es c)(hz:nU P E (ev v0))(k:K)(b:Bool) :
 (Instr.lookup M (.map (some g)) (ek k) b).run P w=.ok (if b then .tuple #[ev ((cL D k).getD v0),.bool (cL D k).isSome] else ev ((cL D k).getD v0)) w:=by
 unfold jO at hM;obtain⟨inf,hi,hz⟩:=hz;have hzv:(zeroValue E).run P w=.ok (ev v0) w:=by simp[zeroValue,typeInfo,program,Sem.run,hi,hz]
 simp only[Instr.lookup,Sem.run_bind,cd hu,Result.andThen,getObj,Sem.run,hM,Sem.run_pure,kt.chk,uI kt k w hD];cases hf:qQ D k 0 with
 | none =>
  obtain⟨h1,_⟩:=qZ D k 0 hf;rw[h1];simp only[po,Sem.run_bind,hzv,Result.andThen,Sem.run_pure];cases b <;> rfl
 | some p =>
  obtain⟨j,v⟩:=p;obtain⟨_,_,_,h1,_⟩:=mY D k 0 j v hf;rw[h1];simp only[fl,Sem.run_pure,Result.andThen];cases b <;> rfl
theorem kB{g:Nat}{o o':Obj}(hM:w.heap[g]? = some o):(setBlock w g o').heap[g]? = some o':=by
 have:=(dz.1 hM).1;simp[setBlock,this]
theorem pW{g:Nat}(o:Obj):Chg w (setBlock w g o) g:=⟨rfl,rfl,rfl,by simp[setBlock],fun k hk=>by simp[setBlock,ir (Ne.symm hk)]⟩
theorem Pz{α β:Type}(f:α→β)(L:List α)(i:Nat)(x:α)(g:α→α)(hi:L[i]? = some x):(L.modify i g).map f=(L.map f).set i (f (g x)):=by
 apply fw;intro j;simp only[fb,List.getElem?_modify,jh,List.length_map];by_cases e:i=j
 · subst e
   rw[hi];have:=(ap.1 hi).1;simp[this]
 · simp[e]
theorem bT.set(hD:bT ek ev D es c){p:Nat}{k:K}{v:V}(hp:D[p]? = some (k,v))(u:V):bT ek ev (D.set p (k,u)) (es.modify p fun e=>{ e with key:=ek k,val:=ev u }) c:=by
 have hl:es.toList.length=D.length:=by have:=congrArg List.length hD.cells;simpa using this
 have hlt:p<es.toList.length:=by rw[hl];exact (ap.1 hp).1
 have hx:es.toList[p]? = some es.toList[p]:=am hlt;have hb:(es.modify p fun e=>{ e with key:=ek k,val:=ev u }).toList.map (·.born)=es.toList.map (·.born):=by
  rw[ot,Pz _ _ _ _ _ hx];apply fw;intro j;rw[jh];split
  · rename_i e;subst e;rw[if_pos (by simpa using hlt),fb,hx];rfl
  · rfl
 refine⟨?_,fun e he=>?_,by rw[hb];exact hD.nd⟩
 · rw[ot,Pz _ _ _ _ _ hx,hD.cells,List.map_set]
   rfl
 · have:e.born∈(es.modify p fun e=>{ e with key:=ek k,val:=ev u }).toList.map (·.born):=eh.2 ⟨e,he,rfl⟩
   rw[hb] at this;obtain⟨e',he',hh⟩:=eh.1 this;rw[←hh];exact hD.born e' he'
theorem bT.push(hD:bT ek ev D es c)(k:K)(u:V):bT ek ev (D++[(k,u)]) (es.push { key:=ek k,val:=ev u,born:=c }) (c+1):=by
 refine⟨by simp[hD.cells,Tu],fun e he=>?_,?_⟩
 · rw[nt] at he
   rcases bi.1 he with he | he
   · exact Nat.lt_succ_of_lt (hD.born e he)
   · rw[bf.1 he];exact Nat.lt_succ_self _
 · rw[nt,cv]
   refine jy.2 ⟨hD.nd,by simp,fun a ha b hb e=>?_⟩;obtain⟨e',he',rfl⟩:=eh.1 ha;have:b=c:=by simpa using hb
   have:=hD.born e' he';omega
theorem bT.erase(hD:bT ek ev D es c)(p:Nat):bT ek ev (D.eraseIdx p) (es.eraseIdxIfInBounds p) c:=by
 have e:(es.eraseIdxIfInBounds p).toList=es.toList.eraseIdx p:=by
  by_cases h:p<es.size
  · simp[kz,h]
  · simp only[kz,h,dite_false]
    exact (List.eraseIdx_of_length_le (by simpa using ik h)).symm
 refine⟨?_,fun x hx=>hD.born x ?_,?_⟩
 · rw[e,map_eraseIdx,hD.cells,map_eraseIdx]
 · rw[e] at hx;exact List.mem_of_mem_eraseIdx hx
 · rw[e];exact hD.nd.sublist ((List.eraseIdx_sublist _ _).map _)
theorem aaI(hu:P.underlying M=some (.map T E))(kt:sM P T ek)(hM:jO w g es c)(hD:bT ek ev D es c)(k:K)(u:V) :
 ∃es' c',(Instr.mapUpdate M (.map (some g)) (ek k) (ev u)).run P w=.ok () (setBlock w g (.map es' c'))∧bT ek ev (fP D k u) es' c':=by
 unfold jO at hM;cases hf:qQ D k 0 with
 | none =>
  obtain⟨_,h1,_⟩:=qZ D k 0 hf;refine⟨_,_,?_,h1 u▸hD.push k u⟩;simp only[Instr.mapUpdate,Sem.run_bind,cd hu,Result.andThen,getObj,Sem.run,hM,Sem.run_pure,kt.chk,uI kt k w hD,hf,po];exact run_setObj_map _ hM
 | some p =>
  obtain⟨j,v⟩:=p;obtain⟨p,rfl,hp,_,h1,_⟩:=mY D k 0 j v hf;rw[aq] at hf;have hl:es.toList.length=D.length:=by have:=congrArg List.length hD.cells;simpa using this
  have hlt:p<es.toList.length:=by rw[hl];exact (ap.1 hp).1
  have hk:((es[p]?).map (·.key)).getD (ek k)=ek k:=by
   have h2:=congrArg (fun L=>L[p]?) hD.cells;simp only[fb,hp,fl] at h2;rw[fu] at h2;cases h3:es[p]? with
   | none=>rfl
   | some x =>
    rw[h3] at h2;simp only[fl,Option.some.injEq,Tu,gh] at h2;simpa using h2.1
  refine⟨_,_,?_,h1 u▸hD.set hp u⟩;simp only[Instr.mapUpdate,Sem.run_bind,cd hu,Result.andThen,getObj,Sem.run,hM,Sem.run_pure,kt.chk,uI kt k w hD,hf,fl,hk,Instr.keyThatStays,kt.bits,if_true];exact run_setObj_map _ hM
/-! ### Ranges -/
def oC(ek:K→ai)(ev:V→ai)(D:List (K × V))(es:Array ck)(seen:Array Nat)(dn rs:List (K × V)):Prop :=
 (dn++rs).Perm D∧∃dE rE:List ck,seen.toList=dE.map (·.born)∧(dE++rE).Perm es.toList∧dE.map Tu=dn.map (fun x=>(ek x.1,ev x.2))∧rE.map Tu=rs.map (fun x=>(ek x.1,ev x.2))
theorem oC.start(hD:bT ek ev D es c):oC ek ev D es #[] [] D:=⟨nu _,[],es.toList,rfl,nu _,rfl,hD.cells⟩
theorem oC.done{seen:Array Nat}{dn:List (K × V)}(h:oC ek ev D es seen dn []):dn.Perm D:=by simpa using h.1
def Nxt(ek:K→ai)(ev:V→ai)(D:List (K × V))(es:Array ck)(dn rs:List (K × V))(b:Bool)(kv vv:ai)(seen':Array Nat):Prop :=
 (b=false∧rs=[])∨(b=true∧∃k v rs',rs.Perm ((k,v)::rs')∧kv=ek k∧vv=ev v∧oC ek ev D es seen' (dn++[(k,v)]) rs')
def Ey(b:Bool)(k v:ai):ai:=.tuple (if b then #[.bool true,k,v] else #[.bool false])
theorem Vb{r s:Nat}{seen:Array Nat}{dn rs:List (K × V)}(hI:rU w r g c seen c)(hM:jO w g es c)(hD:bT ek ev D es c)(hT:oC ek ev D es seen dn rs) :
 ∃b kv vv seen' w1,(w1=w∨w1=w.drew)∧(Instr.next (.pointer (some ⟨r,0,none⟩)) false ty).run P w=.ok (Ey b kv vv) (setBlock w1 r (.mapIter (some g) c seen' c))∧Nxt ek ev D es dn rs b kv vv seen':=by
 obtain⟨hp,dE,rE,h1,h2,h3,h4⟩:=hT;have hnd:((dE++rE).map (·.born)).Nodup:=(h2.map (·.born)).nodup_iff.2 hD.nd;rw[cv,jy] at hnd;have hleft:∀e,e∈(leftOf es seen).toList↔e∈rE:=fun e=>by
  unfold leftOf;simp only[Array.toList_filter,List.mem_filter,Bool.not_eq_true',Array.contains_eq_mem,decide_eq_false_iff_not];rw[←Array.mem_toList_iff (xs:=seen),h1,←h2.mem_iff,bi];constructor
  · rintro⟨h | h,hn⟩
    · exact absurd (eh.2 ⟨e,h,O⟩) hn
    · exact h
  · intro h
    exact⟨.inr h,fun hm=>hnd.2.2 _ hm _ (eh.2 ⟨e,h,O⟩) O⟩
 rcases run_next_at (P:=P) w ty r g c c seen es c hI hM hD.born (av _) with ⟨h0,hr⟩ | ⟨e,he,w1,hw1,hr⟩
 · refine⟨false,default,default,seen,w,.inl O,?_,.inl ⟨O,?_⟩⟩
   · rw[hr]
     have:setBlock w r (.mapIter (some g) c seen c)=w:=by
      unfold setBlock;have hlt:=(dz.1 hI).1;have:w.heap.setIfInBounds r (.mapIter (some g) c seen c)=w.heap:=by
       apply Array.ext_getElem?;intro i;rw[Array.getElem?_setIfInBounds];split
       · rename_i e;subst e;exact hI.symm
       · rfl
      rw[this]
     rw[this];rfl
   · cases rs with
     | nil=>rfl
     | cons x rs =>
      cases rE with
      | nil=>simp at h4
      | cons e rE =>
       have:=(hleft e).2 (bu ..);rw[Array.eq_empty_of_size_eq_zero h0] at this;simp at this
 · obtain⟨s,t,rfl⟩:=List.append_of_mem ((hleft e).1 he)
   rw[cv,bh] at h4;obtain⟨rs1,rs2,rfl,e1,e2⟩:=lq.1 h4.symm;obtain⟨x,rs3,rfl,e3,e4⟩:=mj.1 e2;obtain⟨k,v⟩:=x;simp only[Tu,gh] at e3;refine⟨true,e.key,e.val,seen.push e.born,w1,hw1,hr,.inr ⟨O,k,v,rs1++rs3,List.perm_middle,e3.1.symm,e3.2.symm,?_,dE++[e],s++t,?_,?_,?_,?_⟩⟩
   · refine pq ?_ hp
     simp only[dl,cj,b_];exact l_ _ List.perm_middle.symm
   · simp[h1]
   · refine pq ?_ h2
     simp only[dl,cj,b_];exact l_ _ List.perm_middle.symm
   · simp[h3,Tu,e3]
   · simp[e1,e4]
theorem acv{r:Nat}{seen:Array Nat}{dn rs:List (K × V)}{k:K}{v:V}(hI:rU w r g c seen c)(hM:jO w g es c)(hD:bT ek ev D es c)(hT:oC ek ev D es seen (dn++[(k,v)]) rs) :
 (Instr.entry (.pointer (some ⟨r,0,none⟩))).run P w=.ok (.tuple #[ek k,ev v]) w:=by
 obtain⟨hp,dE,rE,h1,h2,h3,h4⟩:=hT;rw[cv,bh,List.map_nil] at h3;obtain⟨d1,d2,rfl,e1,e2⟩:=lq.1 h3;obtain⟨e,d3,rfl,e3,e4⟩:=mj.1 e2;obtain rfl:d3=[]:=by simpa using e4
 simp only[Tu,gh] at e3;have hs:seen=(d1.map (·.born)).toArray.push e.born:=by
  apply Array.toList_inj.1;rw[h1];simp
 have hm:e∈es.toList:=h2.mem_iff.1 (by simp);rw[hs] at hI;have:=run_entry_at (P:=P) w r g c _ es c e hI hM hm hD.nd;rw[this,e3.1,e3.2]
end
/-! ### Things in memory -/
def mI(g:Nat)(es:Array ck)(c:Nat):It where
 own b:=some g=some b
 P w:=jO w g es c
 lt w b h e:=by cases e;exact h.lt
 st w w' h _ k:=(k g rfl).trans h
def iI(r g c:Nat)(seen:Array Nat):It where
 own b:=some r=some b
 P w:=rU w r g c seen c
 lt w b h e:=by cases e;exact h.lt
 st w w' h _ k:=(k r rfl).trans h
theorem Mem.p{w0 w:aj}{is:List It}(m:Mem w0 w is)(k:Nat){g c:Nat}{es:Array ck}(hk:is[k]? = some (mI g es c)):jO w g es c:=m.get k hk
theorem Mem.r{w0 w:aj}{is:List It}(m:Mem w0 w is)(k:Nat){r g c:Nat}{seen:Array Nat}(hk:is[k]? = some (iI r g c seen)):rU w r g c seen c:=m.get k hk
section
variable {K V:Type} [DecidableEq K] {P:bp} {T M E ty:az} {ek:K→ai} {ev:V→ai} {w w0:aj} {g c:Nat} {es:Array ck} {D:List (K × V)} {is:List It}
variable {ds:List dx} {l:List ai} {x y z:bx} {ops:Array Oper} {Q:Exit→Act→aj→Prop} {rest:List Oper} {d:Nat} {pos:String} {after:Array Edge}
theorem lZ(m:Mem w0 w is)(h:∀g u,Mem w0 u (mI g #[] 0::is)→ar P ops Q rest (Fr (l.set d (.map (some g))) ds) u):ar P ops Q (bm (some d) (.makeMap M none) ty pos after none::rest) (Fr l ds) w :=
 afs fun u g e hg hM=>h g u (m.new (i:=mI g #[] 0) e hM fun b h=>by cases h;exact hg)
theorem wE(m:Mem w0 w is)(hu:P.underlying M=some (.map T E))(hx:Go.Lith.ev l x=.map (some g))(hM:jO w g es c)(h:∀r u,Mem w0 u (iI r g c #[]::is)→ar P ops Q rest (Fr (l.set d (.pointer (some ⟨r,0,none⟩))) ds) u) :
 ar P ops Q (bm (some d) (.range M x) ty pos after none::rest) (Fr l ds) w :=
 aeb hu hx hM fun u r e hr hI=>h r u (m.new (i:=iI r g c #[]) e hI fun b h=>by cases h;exact hr)
end
section
variable {K V:Type} [DecidableEq K] {P:bp} {T M E ty:az} {ek:K→ai} {en:V→ai} {w w0:aj} {g c:Nat} {es:Array ck} {D:List (K × V)} {is:List It}
variable {ds:List dx} {l:List ai} {x y z:bx} {ops:Array Oper} {Q:Exit→Act→aj→Prop} {rest:List Oper} {d:Nat} {pos:String} {after:Array Edge}
theorem eH{v0:V}{k:K}(hu:P.underlying M=some (.map T E))(hz:nU P E (en v0))(kt:sM P T ek)(hx:ev l x=.map (some g))(hy:ev l y=ek k)(hM:jO w g es c)(hD:bT ek en D es c):Ak P l (.lookup M x y false) ty (en ((cL D k).getD v0)) w:=fun o ho _=>by
 have:=Mk hu kt hM hD hz k false;simp only[nf,if_false] at this;simp[de,ho,cK,hx,hy,this]
theorem Vc{v0:V}{k:K}(hu:P.underlying M=some (.map T E))(hz:nU P E (en v0))(kt:sM P T ek)(hx:ev l x=.map (some g))(hy:ev l y=ek k)(hM:jO w g es c)(hD:bT ek en D es c):Ak P l (.lookup M x y true) ty (.tuple #[en ((cL D k).getD v0),.bool (cL D k).isSome]) w:=fun o ho _=>by
 have:=Mk hu kt hM hD hz k true;simp only[if_true] at this;simp[de,ho,cK,hx,hy,this]
theorem nI{v:V}{a:K}(m:Mem w0 w is)(k:Nat)(hk:is[k]? = some (mI g es c))(hu:P.underlying M=some (.map T E))(kt:sM P T ek)(hx:ev l x=.map (some g))(hy:ev l y=ek a)(hz:ev l z=en v)(hD:bT ek en D es c)
 (h:∀es' c' u,Mem w0 u (is.set k (mI g es' c'))→bT ek en (fP D a v) es' c'→ar P ops Q rest (Fr l ds) u):ar P ops Q (bm none (.mapUpdate M x y z) ty pos after none::rest) (Fr l ds) w:=by
 have hM:=m.p k hk;obtain⟨es',c',hr,hD'⟩:=aaI hu kt hM hD a v;have hC:=pW (w:=w) (g:=g) (.map es' c');refine Gy (w':=setBlock w g (.map es' c')) (fun o ho=>by simp[de,ho,cK,hx,hy,hz,hr]) (h es' c' _ ?_ hD');exact m.put k hk hC.os hC.tape hC.output (by rw[hC.size];exact av _) (fun b _ hne=>hC.block b fun e=>hne (by rw[e];rfl)) (kB hM) (.inl fun _ h=>h)
theorem Ml{r:Nat}{seen:Array Nat}{dn rs:List (K × V)}(m:Mem w0 w is)(k:Nat)(hk:is[k]? = some (iI r g c seen))(hx:ev l x=.pointer (some ⟨r,0,none⟩))(hM:jO w g es c)(hD:bT ek en D es c)(hT:oC ek en D es seen dn rs)
 (h:∀b kv vv seen' u,Mem w0 u (is.set k (iI r g c seen'))→Nxt ek en D es dn rs b kv vv seen'→ar P ops Q rest (Fr (l.set d (Ey b kv vv)) ds) u) :
 ar P ops Q (bm (some d) (.next x false) ty pos after none::rest) (Fr l ds) w:=by
 have hI:=m.r k hk;obtain⟨b,kv,vv,seen',w1,hw1,hr,hN⟩:=Vb (P:=P) (ty:=ty) (s:=0) hI hM hD hT;refine mJ (w':=setBlock w1 r (.mapIter (some g) c seen' c)) (v:=Ey b kv vv) (fun o ho hty=>by simp[de,ho,cK,hx,hty,hr]) (h b kv vv seen' _ ?_ hN);have e1:w1.heap=w.heap∧w1.os=w.os∧w1.tape=w.tape∧w1.output=w.output:=by rcases hw1 with rfl | rfl <;> exact⟨rfl,rfl,rfl,rfl⟩
 refine m.put k hk e1.2.1 e1.2.2.1 e1.2.2.2 (by simp[setBlock,e1.1]) (fun b' _ hne=>?_) ?_ (.inl fun _ h=>h)
 · have:b'≠r:=fun e=>hne (by rw[e];rfl)
   simp only[setBlock,e1.1];exact ir (Ne.symm this)
 · exact kB (w:=w1) (o:=.mapIter (some g) c seen c) (by rw[e1.1];exact hI)
theorem pX{b:Bool}{kv vv:ai}(hx:ev l x=Ey b kv vv):iR P l (.extract x 0) ty (.bool b):=fun w o ho _=>by
 cases b <;> simp[de,ho,cK,hx,Ey,Instr.extract]
theorem tM{r:Nat}{seen:Array Nat}{dn rs:List (K × V)}{k:K}{v:V}(hx:ev l x=.pointer (some ⟨r,0,none⟩))(hI:rU w r g c seen c)(hM:jO w g es c)(hD:bT ek en D es c)(hT:oC ek en D es seen (dn++[(k,v)]) rs) :
 Ak P l (.entry x) ty (.tuple #[ek k,en v]) w:=fun o ho _=>by
 have:=acv (P:=P) hI hM hD hT;simp[de,ho,cK,hx,this]
theorem mL{f:FuncId}{fo:bx}{xs:Array bx}{args:List ai}{first cap:Array ai}{a0:Array az}{R:ai→It→Prop}(m:Mem w0 w is)(k:Nat)(hE:Entr P f)(hf:ev l fo=.func (.func f) first cap)(hxs:first.toList++xs.toList.map (ev l)++cap.toList=args)
 (hc:Mem w0 w is→Calls P f args.toArray w fun e w'=>∃v i,e=.returned v∧Mem w0 w' (is.set k i)∧R v i) (h:∀v i u,Mem w0 u (is.set k i)→R v i→ar P ops Q rest (Fr (l.set d v) ds) u) :
 ar P ops Q (bm (some d) (.call { callee:=.value fo,args:=xs,argTypes:=a0 }) ty pos after none::rest) (Fr l ds) w:=by
 refine wpList_plain O fun K hK=>?_;unfold Oper.wp;rw[kI,pJ hE hf hxs _ rfl];refine (hc m).mono ?_;rintro e w' ⟨v,i,rfl,hM,hR⟩;show K ((Fr l ds).put (some d) v) w'
 rw[iN];exact hK _ _ (h v i w' hM hR)
end
theorem cR{P:bp}{Q:Exit→Act→aj→Prop}{l:List ai}{ds:List dx}{c1 c2:Code}{w:aj}{x:bx}{b:Bool}(hx:ev l x=.bool b)(ht:b=true→c1.wp P Q (Fr l ds) w)(hf:b=false→c2.wp P Q (Fr l ds) w):(Code.cond x c1 c2).wp P Q (Fr l ds) w:=gE hx ht hf
theorem Qd{α:Type}{is:List α}{k:Nat}{i:α}(h:is[k]? = some i):is.set k i=is:=by
 apply fw;intro j;rw[jh];split
 · rename_i e;subst e
   have:=(ap.1 h).1;rw[if_pos this,h]
 · rfl
theorem Kn{K V:Type}[DecidableEq K]:∀{D:List (K × V)} {k:K} {v:V},cL D k=some v→fP D k v=D
 | [],_,_,h=>by cases h
 | x::D,k,v,h=>by
  unfold cL at h;unfold fP;split at h
  · rename_i e;cases h;subst e;rw[if_pos rfl]
  · rename_i e;rw[if_neg e,Kn h]
/-! ### Keys -/
def wM(P:bp)(e:Bool)(d:Nat)(T:az)(x:ai):Prop:=∀w,(Instr.checkKey e d T x).run P w=.ok () w
section
variable {P:bp} {e:Bool} {d:Nat} {T E:az}
theorem sN{β:Type}{w:aj}(g:β→PUnit→Sem (ForInStep PUnit)):∀(L:List β),(∀x∈L,(g x ⟨⟩).run P w=.ok (.yield ⟨⟩) w)→(forIn L PUnit.unit g:Sem PUnit).run P w=.ok ⟨⟩ w
 | [],_=>by simp
 | x::L,h=>by
  simp only[List.forIn_cons,Sem.run_bind,h x (bu ..),Result.andThen_ok];exact sN g L fun y hy=>h y (bt _ hy)
theorem wM.int{k k':IntKind}{n:Int}(hu:P.underlying T=some (.int k')):wM P e (d+1) T (.int k n):=fun w=>by
 unfold Instr.checkKey;simp[cd hu]
theorem wM.struct{fs:Array Field}{cs:Array ai}(hu:P.underlying T=some (.struct fs))(h:∀f∈fs.toList,∃v,(∀w,(part f.type cs f.offset).run P w=.ok v w)∧wM P e d f.type v):wM P e (d+1) T (.agg cs):=fun w=>by
 unfold Instr.checkKey;simp only[Sem.run_bind,cd hu,Result.andThen_ok];rw[←Array.forIn_toList];refine (congrArg (fun r=>Result.andThen r _) (sN _ fs.toList fun f hf=>?_)).trans (by rfl);obtain⟨v,h1,h2⟩:=h f hf;by_cases hn:f.name = "_"
 · simp[hn]
 · simp[hn,h1 w,h2 w]
theorem wM.array{n c:Nat}{cs:Array ai}(hu:P.underlying T=some (.array n E))(hc:dQ P E c)(h:∀i,i<n→∃v,(∀w,(part E cs (i*c)).run P w=.ok v w)∧wM P e d E v):wM P e (d+1) T (.agg cs):=fun w=>by
 unfold Instr.checkKey;simp only[Sem.run_bind,cd hu,Result.andThen_ok];simp only[Std.Legacy.Range.forIn_eq_forIn_range',Std.Legacy.Range.size,Nat.sub_zero,Nat.add_one_sub_one,Nat.div_one];refine (congrArg (fun r=>Result.andThen r _) (sN _ (List.range' 0 n) fun i hi=>?_)).trans (by rfl);obtain⟨v,h1,h2⟩:=h i (by simpa using hi);simp[eG hc,h1 w,h2 w]
theorem sM.agg{K:Type}[DecidableEq K]{ek:K→ai}{cs:K→Array ai}(ha:∀k,ek k=.agg (cs k)){t:TypeDesc}(ht:P.underlying T=some t)(hc:∀e k,wM P e 10000 T (ek k))(he:∀a b,tG P 10000 T (ek a) (ek b) (a=b))(hb:∀a,Instr.sameBits 10000 (ek a) (ek a)=true):sM P T ek where
 chk e k w:=hc e k w
 now:=⟨t,ht,fun a b=>.inl (by rw[ha,ha];cases t <;> rfl)⟩
 eq a b w:=xW (he a b) w
 bits:=hb
end
end Go.Lith
namespace Go.Lith
open Go.RowKit
variable{w0:aj}{is:List It}{P:bp}{T:az}{n:Nat}{α:Type}{op:Op}{q:Prop}{ops:Array Oper}{c:Code}
theorem Mem.gb{w:aj}(m:Mem w0 w is)(k:Nat){g:Nat}{cs:List ai}{t:az}(hk:is[k]? = some (bI g cs t)):w0.heap.size≤g:=m.ge _ (be hk) g rfl
theorem dJ{l:List ai}{x:bx}{ty:az}{a:Addr}(hx:ev l x=.pointer (some a)):iR P l (.nilCheck x) ty (.pointer (some a)):=fun w o ho _=>by
 simp[de,ho,cK,hx]
inductive Ko where
 | c (c:Code)
 | b (id:Nat)
 | o (ops:Array Oper) (rest:List Oper)
 | k (K:Act→aj→Prop)
 | r (c:Code) (n:Nat)
def Ct(P:bp)(R:Exit→Act→aj→Prop):List Ko→Exit→Act→aj→Prop
 | []=>R
 | .c c::s=>Exit.then (c.wp P (Ct P R s)) (Ct P R s)
 | .b id::s=>cw id (Ct P R s)
 | .o ops rest::s=>Exit.then (ar P ops (Ct P R s) rest) (Ct P R s)
 | .k K::s=>Exit.then K (Ct P R s)
 | .r c n::s=>Exit.then (Code.rounds P c (Ct P R s) n) (Ct P R s)
def Gt(P:bp)(R:Exit→Act→aj→Prop)(s:List Ko)(a:Act)(w:aj):Prop:=Ct P R s .normal a w
theorem ahH{P:bp}{R:Exit→Act→aj→Prop}{a:Act}{w:aj}(h:R .ret a w):∀s,Ct P R s .ret a w
 | []=>h
 | .c _::s | .b _::s | .o _ _::s | .k _::s | .r _ _::s=>ahH h s
/-! ### Values taken apart -/
def rJ(v:ai)(f:IntKind→Int→Prop):Prop:=match v with | .int k m=>f k m | _=>False
def vvB(v:ai)(f:Bool→Prop):Prop:=match v with | .bool b=>f b | _=>False
def vvP(v:ai)(f:Addr→Prop):Prop:=match v with | .pointer (some a)=>f a | _=>False
def vvS(v:ai)(f:Option Addr→Nat→Nat→Prop):Prop:=match v with | .slice a n c=>f a n c | _=>False
def vvA(v:ai)(f:List ai→Prop):Prop:=match v with | .agg cs=>f cs.toList | _=>False
def vvT(v:ai)(f:List ai→Prop):Prop:=match v with | .tuple cs=>f cs.toList | _=>False
def Au{α:Type}(o:Option α)(f:α→Prop):Prop:=match o with | some x=>f x | none=>False
def vbX(b:Bool)(p q:Prop):Prop:=match b with | true=>p | false=>q
def vnX(n:Nat)(p:Prop):Prop:=match n with | 0=>False | _+1=>p
def vnE:Nat→Nat→Prop→Prop→Prop
 | 0,0,p,_=>p
 | n+1,m+1,p,q=>vnE n m p q
 | _,_,_,q=>q
def Kq:List ai→Nat→(ai→Prop)→Prop
 | x::_,0,f=>f x
 | _::l,n+1,f=>Kq l n f
 | [],_,_=>False
def Fu:List ai→Nat→Prop
 | [],0=>True
 | _::l,n+1=>Fu l n
 | _,_=>False
theorem Dp:∀{l:List ai} {n:Nat},Fu l n→l.length=n
 | [],0,_=>rfl
 | _::l,n+1,h=>by rw[aw,Dp (l:=l) h]
theorem Nt:∀{l:List ai} {n:Nat} {f:ai→Prop},Kq l n f→∃v,l[n]? = some v∧f v
 | x::_,0,_,h=>⟨x,rfl,h⟩
 | _::l,n+1,_,h=>by rw[gw];exact Nt (l:=l) h
def Xx:List ai→Prop
 | []=>True
 | v::l=>v.oneCell'=true∧Xx l
theorem aec:∀{l:List ai},Xx l→(l.all (·.oneCell'))=true
 | [],_=>rfl
 | v::l,h=>by rw[List.all_cons,h.1,aec (l:=l) h.2];rfl
def InR(k:IntKind)(n:Int):Prop:=match k with
 | .i64=>-9223372036854775808≤n∧n<9223372036854775808
 | .i32=>-2147483648≤n∧n<2147483648
 | .u64=>0≤n∧n<18446744073709551616
 | .u32=>0≤n∧n<4294967296
 | .u8=>0≤n∧n<256
 | _=>False
theorem InR.wrap{k:IntKind}{n:Int}(h:InR k n):k.wrap n=n:=by
 cases k <;> first | exact h.elim | exact bP h.1 h.2 | exact agQ h.1 h.2 | exact wO h.1 h.2 | exact agP h.1 h.2 | exact adO h.1 h.2
/-! ### Types -/
def tT(P:bp)(T:az):Option (Bool × Nat):=match P.underlying T,P.info? T with
 | some d,some i=>some (Cy d,i.size)
 | _,_=>none
theorem yH{b:Bool}(h:tT P T=some (b,n)):fA P T b∧dQ P T n:=by
 unfold tT at h;split at h
 · rename_i d i h1 h2
   cases h;exact⟨⟨d,h1,O⟩,⟨i,h2,O⟩⟩
 · cases h
def nR(P:bp)(T:az)(i:Nat):Option (Nat × Bool × Nat):=match P.underlying T with
 | some (.struct fs)=>match fs[i]? with
  | some f=>(tT P f.type).map fun x=>(f.offset,x)
  | none=>none
 | _=>none
theorem aed{i o:Nat}{b:Bool}(h:nR P T i=some (o,b,n)):∃fs f,P.underlying T=some (.struct fs)∧fs[i]? = some f∧f.offset=o∧fA P f.type b∧dQ P f.type n:=by
 unfold nR at h;split at h
 · rename_i fs hu
   split at h
   · rename_i f hf
     cases hs:tT P f.type with
     | none=>rw[hs] at h;cases h
     | some x =>
      obtain⟨b',n'⟩:=x;rw[hs] at h;cases h;exact⟨fs,f,hu,hf,O,(yH hs).1,(yH hs).2⟩
   · cases h
 · cases h
def ixP(P:bp)(T:az):Option (Option Nat × Nat):=match P.underlying T with
 | some (.array n E)=>(tT P E).map fun x=>(some n,x.2)
 | some (.slice E)=>(tT P E).map fun x=>(none,x.2)
 | _=>none
def Fv(P:bp)(T:az):Option az:=match P.underlying T with
 | some (.slice E)=>some E
 | _=>none
theorem alq{E:az}(h:Fv P T=some E):P.underlying T=some (.slice E):=by
 unfold Fv at h;split at h
 · rename_i E' hu;cases h;exact hu
 · cases h
def ikP(P:bp)(T:az):Option IntKind:=match P.underlying T with
 | some (.int k)=>some k
 | _=>none
theorem ahI{k:IntKind}(h:ikP P T=some k):P.underlying T=some (.int k):=by
 unfold ikP at h;split at h
 · rename_i k' hu;cases h;exact hu
 · cases h
def Kr(P:bp)(T:az):Option (List ai):=((P.info? T).bind (·.zero)).map (·.cells.toList)
theorem Xy{cs:List ai}(h:Kr P T=some cs):∃z,nU P T z∧z.cells=cs.toArray:=by
 unfold Kr at h;cases hz:(P.info? T).bind (·.zero) with
 | none=>rw[hz] at h;cases h
 | some z=>rw[hz] at h;cases h;exact⟨z,kX hz,by simp⟩
def xA(P:bp)(T:az):Option (List (Nat × Nat) × List ai):=match P.underlying T,Kr P T with
 | some (.struct fs),some z=>(fs.toList.mapM fun (f:Field)=>(tT P f.type).map fun x=>(f.offset,x.2)).map fun l=>(l,z)
 | some (.array n E),some z=>(tT P E).map fun x=>((ji n).map fun i=>(i*x.2,x.2),z)
 | _,_=>none
def Xz:List (Nat × Nat)→Nat→(Nat × Nat→Prop)→Prop
 | x::_,0,f=>f x
 | _::l,n+1,f=>Xz l n f
 | [],_,_=>False
def blV(l:List ai)(pl:List (Nat × Nat)):List (Nat × bx)→List ai→Prop→(Prop→List ai→Prop)→Prop
 | [],cs,q,f=>f q cs
 | (i,x)::ps,cs,q,f=>Xz pl i fun z=>vnX z.2 (blV l pl ps (over cs z.1 (ev l x).cells.toList) (Fu (ev l x).cells.toList z.2∧Fu ((cs.drop z.1).take z.2) z.2∧q) f)
/-! ### Operations -/
def vvX(n:Option Nat)(v:ai)(f:Addr→Nat→Prop):Prop:=match n with
 | some n=>vvP v fun a=>f a n
 | none=>vvS v fun A n _=>Au A fun a=>f a n
abbrev KV:Type:=Prop→ai→List Nat→List It→Prop
variable{K:KV}
def cV(sc:List Nat)(p:Prop)[Decidable p](K:KV)(is:List It):Prop:=match sc with
 | 0::sc=>K True (.bool (decide p)) sc is
 | 1::sc=>K p (.bool true) sc is
 | 2::sc=>K (¬p) (.bool false) sc is
 | _=>False
def biV(b:BinOp)(x y:ai)(sc:List Nat)(is:List It)(K:KV):Prop:=match b with
 | .add=>rJ x fun k m=>rJ y fun k' n=>K (k'=k∧InR k (m+n)) (.int k (m+n)) sc is
 | .sub=>rJ x fun k m=>rJ y fun k' n=>K (k'=k∧InR k (m-n)) (.int k (m-n)) sc is
 | .mul=>rJ x fun k m=>rJ y fun k' n=>K (k'=k∧InR k (m*n)) (.int k (m*n)) sc is
 | .lss=>rJ x fun k m=>rJ y fun k' n=>cV sc (m<n) (fun p=>K (k'=k∧p)) is
 | .leq=>rJ x fun k m=>rJ y fun k' n=>cV sc (m≤n) (fun p=>K (k'=k∧p)) is
 | .gtr=>rJ x fun k m=>rJ y fun k' n=>cV sc (n<m) (fun p=>K (k'=k∧p)) is
 | .geq=>rJ x fun k m=>rJ y fun k' n=>cV sc (n≤m) (fun p=>K (k'=k∧p)) is
 | .eql=>rJ x fun k m=>rJ y fun k' n=>cV sc (m=n) (fun p=>K (k'=k∧p)) is
 | .neq=>rJ x fun k m=>rJ y fun k' n=>cV sc (m≠n) (fun p=>K (k'=k∧p)) is
 | _=>False
abbrev Ob:Type:=Nat × List ai × az
def atO:List Ob→Nat→(Ob→Prop)→Prop
 | x::_,0,f=>f x
 | _::l,n+1,f=>atO l n f
 | [],_,_=>False
def atB:List It→List Ob→Nat→(Ob→Prop)→Prop
 | i::_,_,0,f=>Au i.bk f
 | _::is,os,n+1,f=>atB is os n f
 | [],os,n,f=>atO os n f
def atM:List It→Nat→(Ob→Prop)→Prop
 | i::_,0,f=>Au i.bk f
 | _::is,n+1,f=>atM is n f
 | [],_,_=>False
theorem ahL:∀{os:List Ob} {k:Nat} {f:Ob→Prop},atO os k f→∃x∈os,f x
 | x::_,0,_,h=>⟨x,bu ..,h⟩
 | _::os,k+1,_,h=>let ⟨x,hx,hf⟩:=ahL (os:=os) h;⟨x,bt _ hx,hf⟩
theorem oP{o:Option α}{f:α→Prop}(h:Au o f):∃x,o=some x∧f x:=by
 cases o with
 | none=>exact h.elim
 | some x=>exact⟨x,rfl,h⟩
theorem acy:∀{is:List It} {k:Nat} {f:Ob→Prop},atM is k f→∃i x,is[k]? = some i∧i.bk=some x∧f x
 | i::_,0,_,h=>let ⟨x,hx,hf⟩:=oP h;⟨i,x,rfl,hx,hf⟩
 | _::is,k+1,_,h=>by rw[gw];exact acy (is:=is) h
theorem ahM:∀{is:List It} {os:List Ob} {k:Nat} {f:Ob→Prop},atB is os k f→(∃i∈is,∃x,i.bk=some x∧f x)∨∃x∈os,f x
 | i::_,_,0,_,h=>let ⟨x,hx,hf⟩:=oP h;.inl ⟨i,bu ..,x,hx,hf⟩
 | _::is,os,k+1,_,h=>(ahM (is:=is) (os:=os) h).imp (fun⟨i,hi,r⟩=>⟨i,bt _ hi,r⟩) id
 | [],_,_,_,h=>.inr (ahL h)
def caV(P:bp)(l:List ai)(is:List It)(b:Builtin)(xs:List bx)(ts:List az)(sc:List Nat)(K:KV):Prop:=match b,xs,ts with
 | .len,[x],[T]=>Au (Fv P T) fun _=>vvS (ev l x) fun _ n _=>K True (.int .i64 n) sc is
 | .min,[x,y],_=>rJ (ev l x) fun k m=>rJ (ev l y) fun k' n=>K (k'=k) (.int k (if n<m then n else m)) sc is
 | .max,[x,y],_=>rJ (ev l x) fun k m=>rJ (ev l y) fun k' n=>K (k'=k) (.int k (if m<n then n else m)) sc is
 | _,_,_=>False
def Ez(P:bp)(l:List ai)(is:List It)(os:List Ob)(pr:Bool)(op:Op)(sc:List Nat)(K:KV):Prop:=match op with
 | .move x=>K True (ev l x) sc is
 | .assign x=>K True (ev l x) sc is
 | .nilCheck x=>vvP (ev l x) fun a=>K True (.pointer (some a)) sc is
 | .pick c x y=>vvB (ev l c) fun b=>vbX b (K True (ev l x) sc is) (K True (ev l y) sc is)
 | .binOp b _ x y _=>biV b (ev l x) (ev l y) sc is K
 | .unOp .not _ x=>vvB (ev l x) fun b=>K True (.bool (!b)) sc is
 | .unOp .neg _ x=>rJ (ev l x) fun k m=>K (InR k (0-m)) (.int k (0-m)) sc is
 | .convert T T' x=>Au (ikP P T) fun _=>Au (ikP P T') fun k=>rJ (ev l x) fun _ m=>K (InR k m) (.int k m) sc is
 | .fieldAddr T x i=>Au (nR P T i) fun f=>vvP (ev l x) fun a=>vnX f.2.2 (K True (.pointer (some (a.add f.1))) sc is)
 | .indexAddr T x y=>Au (ixP P T) fun z=>vvX z.1 (ev l x) fun a n=>rJ (ev l y) fun _ m=>K (0≤m∧m<n) (.pointer (some (a.add (m.toNat*z.2)))) sc is
 | .field T x i=>Au (nR P T i) fun f=>vvA (ev l x) fun cs=>vbX f.2.1 (K True (.agg ((cs.drop f.1).take f.2.2).toArray) sc is) (Kq cs f.1 fun v=>K True v sc is)
 | .build T parts=>Au (xA P T) fun z=>blV l z.1 parts.toList z.2 True fun q cs=>K q (.agg cs.toArray) sc is
 | .extract x i=>vvT (ev l x) fun cs=>Kq cs i fun v=>K True v sc is
 | .load T x=>match sc with
  | k::sc=>Au (tT P T) fun z=>vvP (ev l x) fun a=>atB is os k fun g=>vbX z.1 (K (a=⟨g.1,a.off,none⟩∧Fu ((g.2.1.drop a.off).take z.2) z.2) (.agg ((g.2.1.drop a.off).take z.2).toArray) sc is) (Kq g.2.1 a.off fun v=>K (a=⟨g.1,a.off,none⟩) v sc is)
  | []=>False
 | .box T x=>vbX pr False (∀g,K True (.pointer (some ⟨g,0,none⟩)) sc (bI g (ev l x).cells.toList T::is))
 | .alloc T=>vbX pr False (Au (Kr P T) fun z=>∀g,K True (.pointer (some ⟨g,0,none⟩)) sc (bI g z T::is))
 | .call c=>match c.callee with
  | .builtin b=>caV P l is b c.args.toList c.argTypes.toList sc K
  | _=>False
 | _=>False
def stV(P:bp)(l:List ai)(is:List It)(pr:Bool)(op:Op)(sc:List Nat)(K:KV):Prop:=match op,sc with
 | .store T x y,k::sc=>vbX pr False (Au (tT P T) fun z=>vnX z.2 (vvP (ev l x) fun a=>atM is k fun g=>K (a=⟨g.1,a.off,none⟩∧Fu ((g.2.1.drop a.off).take z.2) z.2∧Fu (ev l y).cells.toList z.2∧Xx (ev l y).cells.toList) undef sc (is.set k (bI g.1 (over g.2.1 a.off (ev l y).cells.toList) g.2.2))))
 | _,_=>False
def vyv(ops:List Oper)(l:List ai)(j:Nat):ai:=match ops[j]? with
 | some o=>match o.dst with
  | some d=>l.getD d undef
  | none=>undef
 | none=>undef
def vvG(v:ai)(b:Bool)(p q:Prop):Prop:=match v with
 | .bool c=>if c=b then p else q
 | .tuple _=>q
 | _=>False
def Qe(ops:Array Oper)(l:List ai)(g:Option (Nat × Bool))(p q:Prop):Prop:=match g with
 | none=>p
 | some (j,b)=>vvG (vyv ops.toList l j) b p q
def Td(id:Nat):List Ko→(List Ko→Prop)→Prop
 | .b j::s,f=>vnE id j (f s) (Td id s f)
 | .c _::s,f=>Td id s f
 | .o _ _::s,f=>Td id s f
 | .k _::s,f=>Td id s f
 | .r _ _::s,f=>Td id s f
 | [],_=>False
abbrev Kw:Type:=Option (Bool × aj)
def kr:Bool→aj→aj→Prop
 | true,v,w=>v=w
 | false,v,w=>fQ v w
def kpt(k:Kw)(w:aj):Prop:=∀b v,k=some (b,v)→kr b v w
def kpb:Kw→Bool
 | some (b,_)=>b
 | none=>false
def ahO(w0:aj)(is:List It)(X:aj→Prop):Kw→Prop
 | some (true,v)=>X v
 | k=>∀w,Mem w0 w is→kpt k w→X w
theorem aef{w:aj}{X:aj→Prop}{k:Kw}(h:ahO w0 is X k)(m:Mem w0 w is)(hk:kpt k w):X w:=by
 rcases k with _ | ⟨b,v⟩
 · exact h w m hk
 · cases b
   · exact h w m hk
   · have e:v=w:=hk true v rfl
     exact e▸h
def V(P:bp)(R:Exit→Act→aj→Prop)(w0:aj)(ds:List dx)(kw:Kw):Nat→List Nat→Prop→List Ko→List ai→List It→Prop
 | 0,_,q,s,l,is=>q∧ahO w0 is (Gt P R s (Fr l ds)) kw
 | n+1,sc,q,.b _::s,l,is=>V P R w0 ds kw n sc q s l is
 | n+1,sc,q,.o _ []::s,l,is=>V P R w0 ds kw n sc q s l is
 | n+1,sc,q,.o ops (o::rest)::s,l,is=>match o.dst with
  | some d=>Qe ops l o.guard (Ez P l is [] (kpb kw) o.op sc fun vc v sc is=>V P R w0 ds kw n sc (vc∧q) (.o ops rest::s) (l.set d v) is) (V P R w0 ds kw n sc q (.o ops rest::s) (l.set d undef) is)
  | none=>Qe ops l o.guard (stV P l is kw.isSome o.op sc fun vc _ sc is=>V P R w0 ds kw n sc (vc∧q) (.o ops rest::s) l is) (V P R w0 ds kw n sc q (.o ops rest::s) l is)
 | n+1,sc,q,.c c::s,l,is=>match c with
  | .seq a b=>V P R w0 ds kw n sc q (.c a :: .c b::s) l is
  | .skip=>V P R w0 ds kw n sc q s l is
  | .block id c=>V P R w0 ds kw n sc q (.c c :: .b id::s) l is
  | .exit id=>Td id s fun s=>V P R w0 ds kw n sc q s l is
  | .ret=>q∧ahO w0 is (R .ret (Fr l ds)) kw
  | .cond x a b=>vvB (ev l x) fun t=>vbX t (V P R w0 ds kw n sc q (.c a::s) l is) (V P R w0 ds kw n sc q (.c b::s) l is)
  | .region _ ops d=>vbX d False (V P R w0 ds kw n sc q (.o ops ops.toList::s) l is)
  | .loop c=>match sc with
   | k::sc=>V P R w0 ds kw n sc q (.r c k::s) l is
   | []=>False
  | _=>False
 | n+1,sc,q,.r c (k+1)::s,l,is=>V P R w0 ds kw n sc q (.c c :: .r c k::s) l is
 | _,_,_,_,_,_=>False
theorem sO{v:ai}{f:IntKind→Int→Prop}(h:rJ v f):∃k m,v=.int k m∧f k m:=by
 cases v <;> first | exact h.elim | exact⟨_,_,rfl,h⟩
theorem acz{v:ai}{f:Bool→Prop}(h:vvB v f):∃b,v=.bool b∧f b:=by
 cases v <;> first | exact h.elim | exact⟨_,rfl,h⟩
theorem Ks{v:ai}{f:Addr→Prop}(h:vvP v f):∃a,v=.pointer (some a)∧f a:=by
 cases v with
 | pointer a=>cases a with
  | none=>exact h.elim
  | some a=>exact⟨_,rfl,h⟩
 | _=>exact h.elim
theorem ahP{v:ai}{f:Option Addr→Nat→Nat→Prop}(h:vvS v f):∃a n c,v=.slice a n c∧f a n c:=by
 cases v <;> first | exact h.elim | exact⟨_,_,_,rfl,h⟩
theorem an8{v:ai}{f:List ai→Prop}(h:vvA v f):∃cs,v=.agg cs∧f cs.toList:=by
 cases v <;> first | exact h.elim | exact⟨_,rfl,h⟩
theorem an9{v:ai}{f:List ai→Prop}(h:vvT v f):∃cs,v=.tuple cs∧f cs.toList:=by
 cases v <;> first | exact h.elim | exact⟨_,rfl,h⟩
theorem Ya{p:Prop}(h:vnX n p):∃m,n=m+1∧p:=by
 cases n with
 | zero=>exact h.elim
 | succ m=>exact⟨m,rfl,h⟩
theorem ahQ:∀{n m:Nat} {p q:Prop},vnE n m p q→(n=m∧p)∨(n≠m∧q)
 | 0,0,_,_,h=>.inl ⟨rfl,h⟩
 | n+1,m+1,_,_,h=>(ahQ (n:=n) (m:=m) h).imp (fun⟨e,h⟩=>⟨by rw[e],h⟩) fun⟨e,h⟩=>⟨fun c=>e (Nat.succ.inj c),h⟩
 | 0,_+1,_,_,h=>.inr ⟨fun c=>(by cases c),h⟩
 | _+1,0,_,_,h=>.inr ⟨fun c=>(by cases c),h⟩
section
variable {P:bp} {l:List ai} {is:List It} {os:List Ob} {w0:aj} {ds:List dx}
def Yd(P:bp)(l:List ai)(is:List It)(w0:aj)(op:Op)(v:ai):Prop:=∀w,Mem w0 w is→∀ty,Ak P l op ty v w
theorem oY{v:ai}(h:∀ty,iR P l op ty v):Yd P l is w0 op v:=fun w _ ty=>h ty w
theorem aqn{sc:List Nat}{p:Prop}[Decidable p]{is':List It}(h:cV sc p (fun p=>K (q∧p)) is'):∃vc v sc',K (q∧vc) v sc' is'∧(vc→∀{X:ai→Prop},(X (.bool (decide p)))→X v):=by
 unfold cV at h;split at h
 · exact⟨_,_,_,h,fun _ _ hX=>hX⟩
 · exact⟨_,_,_,h,fun hp X hX=>by rwa [decide_eq_true hp] at hX⟩
 · exact⟨_,_,_,h,fun hp X hX=>by rwa [decide_eq_false hp] at hX⟩
 · exact h.elim
theorem aoa{b:BinOp}{x y:bx}{T':az}{sc:List Nat}(h:biV b (ev l x) (ev l y) sc is K):∃vc v sc',K vc v sc' is∧(vc→Yd P l is w0 (.binOp b T x y T') v):=by
 cases b
 case add | sub | mul =>
  obtain⟨k,m,hx,h⟩:=sO h;obtain⟨k',n,hy,h⟩:=sO h;refine⟨_,_,_,h,fun⟨e,hr⟩=>oY fun ty=>?_⟩;subst e
  first | exact fC hx hy hr.wrap | exact Ac hx hy hr.wrap | exact lE hx hy hr.wrap
 case lss | leq | gtr | geq | eql | neq =>
  obtain⟨k,m,hx,h⟩:=sO h;obtain⟨k',n,hy,h⟩:=sO h;obtain⟨vc,v,sc',h,hX⟩:=aqn h;refine⟨_,_,_,h,fun⟨e,hv⟩=>?_⟩;subst e;refine hX hv (X:=fun v=>Yd P l is w0 _ v) (oY fun ty=>?_)
  first | exact qL hx hy | exact En hx hy | exact aag hx hy | exact Gx hx hy | exact rP hx hy | exact qM hx hy
 all_goals exact h.elim
theorem aob{b:Builtin}{xs:List bx}{ts:List az}{sc:List Nat}(h:caV P l is b xs ts sc K):∃vc v sc',K vc v sc' is∧(vc→Yd P l is w0 (.call { callee:=.builtin b,args:=xs.toArray,argTypes:=ts.toArray }) v):=by
 unfold caV at h;split at h
 · obtain⟨E,hE,h⟩:=oP h
   obtain⟨a,n,c,hx,h⟩:=ahP h;exact⟨_,_,_,h,fun _=>oY fun ty=>Jw O (alq hE) hx⟩
 · obtain⟨k,m,hx,h⟩:=sO h
   obtain⟨k',n,hy,h⟩:=sO h;refine⟨_,_,_,h,fun e=>oY fun ty=>?_⟩;subst e;exact ap9 hx hy O
 · obtain⟨k,m,hx,h⟩:=sO h
   obtain⟨k',n,hy,h⟩:=sO h;refine⟨_,_,_,h,fun e=>oY fun ty=>?_⟩;subst e;exact wN hx hy O
 · exact h.elim
theorem alv{k:Nat}{f:Ob→Prop}(hos:∀x∈os,fR w0 x.1 x.2.1 x.2.2)(h:atB is os k f):∃x:Ob,(∀w,Mem w0 w is→fR w x.1 x.2.1 x.2.2)∧f x:=by
 rcases ahM h with ⟨i,hi,x,hx,hf⟩ | ⟨x,hx,hf⟩
 · exact⟨x,fun w m=>(i.bkP x hx).2 w (m.all i hi),hf⟩
 · exact⟨x,fun w m=>(hos x hx).ext m.ext,hf⟩
theorem Yb(cs:Array ai)(o n:Nat):cs.extract o (o+n)=((cs.toList.drop o).take n).toArray:=by
 apply Array.ext';simp
theorem aeg:∀{l:List (Nat × Nat)} {n:Nat} {f:Nat × Nat→Prop},Xz l n f→∃z,l[n]? = some z∧f z
 | x::_,0,_,h=>⟨x,rfl,h⟩
 | _::l,n+1,_,h=>by rw[gw];exact aeg (l:=l) h
theorem afu{cs us:List ai}{o:Nat}{c:ai}(h:o<cs.length):over (cs.set o c) (o+1) us=over cs o (c::us):=by
 unfold over;have e1:(cs.set o c).take (o+1)=cs.take o++[c]:=by
  rw[nq,List.take_set_of_le (av o),List.getElem?_set_self h];rfl
 have e2:(cs.set o c).drop (o+1+us.length)=cs.drop (o+(us.length+1)):=by
  rw[List.drop_set_of_lt (by omega)]
  congr 1
  omega
 rw[e1,e2];simp
theorem Vd:∀(us:List ai) (off k:Nat) (cs:Array ai),off+k+us.length≤cs.size →
 (us.zipIdx k).foldl (fun (cs:Array ai) (x:ai × Nat)=>cs.setIfInBounds (off+x.2) x.1) cs=(over cs.toList (off+k) us).toArray
 | [],off,k,cs,h=>by simp[over]
 | c::us,off,k,cs,h=>by
  simp only[aw] at h;rw[List.zipIdx_cons,jd,Vd us off (k+1) _ (by simp;omega),←afu (by simp;omega)];simp[Nat.add_assoc]
theorem afv{place:Nat→Option (Nat × Nat)}{cells:Array ai}{i off size:Nat}{v:ai}{rest:List (Nat × ai)}(hp:place i=some (off,size))(hs:v.cells.size=size)(hf:off+size≤cells.size) :
 Instr.fill place cells ((i,v)::rest)=Instr.fill place (over cells.toList off v.cells.toList).toArray rest:=by
 have hc:¬(v.cells.size≠size||off+v.cells.size>cells.size)=true:=by simp;omega
 have hfo:=Vd v.cells.toList off 0 cells (by simp;omega);rw[Instr.fill];simp only[hp];rw[if_neg hc]
 congr 1
 rw[←Array.foldl_toList,Array.toList_zipIdx];exact hfo
theorem ahR{pl:List (Nat × Nat)}:∀{ps:List (Nat × bx)} {cs:List ai} {q:Prop} {f:Prop→List ai→Prop},blV l pl ps cs q f →
 ∃q' cs',f q' cs'∧(q'→q∧Instr.fill (fun i=>pl[i]?) cs.toArray (ps.map fun x=>(x.1,ev l x.2))=some cs'.toArray)
 | [],cs,q,f,h=>⟨q,cs,h,fun hq=>⟨hq,rfl⟩⟩
 | (i,x)::ps,cs,q,f,h=>by
  obtain⟨z,hz,h⟩:=aeg h;obtain⟨k,hk,h⟩:=Ya h;obtain⟨q',cs',hf,hq⟩:=ahR h;refine⟨q',cs',hf,fun h=>?_⟩;obtain⟨⟨h1,h2,hq0⟩,hfl⟩:=hq h;have h1:=Dp h1;have h2:=Dp h2;rw[bv,ft] at h2;refine⟨hq0,?_⟩;rw[bh,afv (off:=z.1) (size:=z.2) (by rw[hz]) (by simpa using h1) ?_]
  · exact hfl
  · simp
    omega
theorem Ve{p p':Nat→Option (Nat × Nat)}(h:∀i x,p i=some x→p' i=some x):∀{l:List (Nat × ai)} {cells cs:Array ai},Instr.fill p cells l=some cs→Instr.fill p' cells l=some cs
 | [],_,_,e=>e
 | (i,v)::l,cells,cs,e=>by
  rw[Instr.fill] at e ⊢;cases hp:p i with
  | none=>rw[hp] at e;cases e
  | some x =>
   rw[hp] at e;rw[h i x hp];simp only at e ⊢;split at e
   · cases e
   · rename_i hc
     rw[if_neg hc];exact Ve h e
theorem Qf{P:bp}:∀{fs:List Field} {l:List (Nat × Nat)},fs.mapM (fun (f:Field)=>(tT P f.type).map fun x=>(f.offset,x.2))=some l→∀w,(fs.mapM fun f=>do pure (f.offset,←sizeOf f.type):Sem (List (Nat × Nat))).run P w=.ok l w
 | [],l,h,w=>by
  rw[List.mapM_nil] at h ⊢;cases h;rfl
 | f::fs,l,h,w=>by
  rw[List.mapM_cons] at h ⊢;cases hs:tT P f.type with
  | none=>rw[hs] at h;cases h
  | some x =>
   obtain⟨b,n⟩:=x;rw[hs] at h;cases hm:fs.mapM (fun (f:Field)=>(tT P f.type).map fun x=>(f.offset,x.2)) with
   | none=>simp[hm] at h
   | some l' =>
    simp[hm] at h;subst h;have hr:=Qf hm w;simp only[bind_pure_comp] at hr;simp[eG (yH hs).2,hr]
theorem alw{P:bp}{pl:List (Nat × Nat)}{z:List ai}(h:xA P T=some (pl,z)){vs:Array (Nat × ai)}{cs:List ai}(hf:Instr.fill (fun i=>pl[i]?) z.toArray vs.toList=some cs.toArray)(w:aj):(Instr.build T vs).run P w=.ok (.agg cs.toArray) w:=by
 unfold xA at h;split at h
 · rename_i fs z' hu hz
   obtain⟨z0,hz0,hzc⟩:=Xy hz;cases hm:fs.toList.mapM (fun (f:Field)=>(tT P f.type).map fun x=>(f.offset,x.2)) with
   | none=>rw[hm] at h;cases h
   | some l' =>
    rw[hm] at h;cases h;refine iW (places:=pl.toArray) hu hz0 (fun w=>?_) (by rw[hzc];simpa using hf) w;have hr:=Qf hm w;rw[ie];simp only[bind_pure_comp] at hr ⊢;simp[hr]
 · rename_i n E z' hu hz
   obtain⟨z0,hz0,hzc⟩:=Xy hz;cases hs:tT P E with
   | none=>rw[hs] at h;cases h
   | some x =>
    obtain⟨b,c⟩:=x;rw[hs] at h;cases h;refine kR hu hz0 (yH hs).2 ?_ w;rw[hzc];refine Ve (fun i x hx=>?_) hf;rw[fb] at hx;cases hr:(ji n)[i]? with
    | none=>rw[hr] at hx;cases hx
    | some j =>
     rw[hr] at hx;have:=ap.1 hr;obtain⟨h1,h2⟩:=this;rw[List.getElem_range] at h2;subst h2;cases hx;rfl
 · cases h
def Bx(P:bp)(l:List ai)(is:List It)(w0:aj)(ds:List dx)(op:Op)(cs:List ai)(T:az):Prop:=∀(d:Nat) (ty:az) (pos:String) (af:Array Edge) (ops:Array Oper) (Q:Exit→Act→aj→Prop) (rest:List Oper) (w:aj),Mem w0 w is→(∀g u,fQ w u→Mem w0 u (bI g cs T::is)→ar P ops Q rest (Fr (l.set d (.pointer (some ⟨g,0,none⟩))) ds) u)→ar P ops Q (bm (some d) op ty pos af none::rest) (Fr l ds) w
theorem Yc{pr:Bool}{op:Op}{sc:List Nat}{K:KV}(hos:∀x∈os,fR w0 x.1 x.2.1 x.2.2)(h:Ez P l is os pr op sc K) :
 (∃vc v sc',K vc v sc' is∧(vc→Yd P l is w0 op v))∨(pr=false∧∃cs T,(∀g,K True (.pointer (some ⟨g,0,none⟩)) sc (bI g cs T::is))∧Bx P l is w0 ds op cs T):=by
 unfold Ez at h;split at h
 · exact .inl ⟨_,_,_,h,fun _=>oY fun ty=>aH⟩
 · exact .inl ⟨_,_,_,h,fun _=>oY fun ty=>aO⟩
 · obtain⟨a,hx,h⟩:=Ks h
   exact .inl ⟨_,_,_,h,fun _=>oY fun ty=>dJ hx⟩
 · obtain⟨b,hc,h⟩:=acz h
   cases b
   · exact .inl ⟨_,_,_,h,fun _=>oY fun ty=>Da hc⟩
   · exact .inl ⟨_,_,_,h,fun _=>oY fun ty=>rH hc⟩
 · exact .inl (aoa h)
 · obtain⟨b,hx,h⟩:=acz h
   exact .inl ⟨_,_,_,h,fun _=>oY fun ty=>nV hx⟩
 · obtain⟨k,m,hx,h⟩:=sO h
   exact .inl ⟨_,_,_,h,fun hr=>oY fun ty=>tY hx hr.wrap⟩
 · obtain⟨k1,h1,h⟩:=oP h
   obtain⟨k2,h2,h⟩:=oP h;obtain⟨k,m,hx,h⟩:=sO h;exact .inl ⟨_,_,_,h,fun hr=>oY fun ty=>jE (ahI h2) (ahI h1) hx hr.wrap⟩
 · obtain⟨f,hf,h⟩:=oP h
   obtain⟨a,hx,h⟩:=Ks h;obtain⟨m,hm,h⟩:=Ya h;obtain⟨o,b,n⟩:=f;obtain⟨fs,f,h1,h2,h3,h4,h5⟩:=aed hf;simp only at hm h;rw[hm] at h5;exact .inl ⟨_,_,_,h,fun _=>oY fun ty=>aW h1 h2 h5 hx (by rw[h3])⟩
 · obtain⟨⟨z,c⟩,hz,h⟩:=oP h
   unfold ixP at hz;split at hz
   · rename_i n E hu
     cases hs:tT P E with
     | none=>rw[hs] at hz;cases hz
     | some x =>
      obtain⟨b,c'⟩:=x;rw[hs] at hz;cases hz;obtain⟨a,hx,h⟩:=Ks (show vvP _ _ from h);obtain⟨k,m,hy,h⟩:=sO h;exact .inl ⟨_,_,_,h,fun hv=>oY fun ty=>aJ hu (yH hs).2 hx hy hv.1 hv.2 O⟩
   · rename_i E hu
     cases hs:tT P E with
     | none=>rw[hs] at hz;cases hz
     | some x =>
      obtain⟨b,c'⟩:=x;rw[hs] at hz;cases hz;obtain⟨A,n,cp,hx,h⟩:=ahP (show vvS _ _ from h);obtain⟨a,rfl,h⟩:=oP h;obtain⟨k,m,hy,h⟩:=sO h;exact .inl ⟨_,_,_,h,fun hv=>oY fun ty=>aF hu (yH hs).2 hx hy hv.1 hv.2 O⟩
   · cases hz
 · obtain⟨f,hf,h⟩:=oP h
   obtain⟨cs,hx,h⟩:=an8 h;obtain⟨o,b,n⟩:=f;obtain⟨fs,f,h1,h2,h3,h4,h5⟩:=aed hf;simp only at h;cases b
   · obtain⟨v,hv,h⟩:=Nt h
     exact .inl ⟨_,_,_,h,fun _=>oY fun ty=>agR h1 h2 h4 hx (by rw[h3];simpa using hv)⟩
   · exact .inl ⟨_,_,_,h,fun _=>oY fun ty=>agS h1 h2 h4 h5 hx (by rw[h3];exact Yb _ _ _)⟩
 · obtain⟨⟨pl,z⟩,hz,h⟩:=oP h
   obtain⟨q,cs,h,hq⟩:=ahR h;exact .inl ⟨_,_,_,h,fun hv=>oY fun ty=>oF O (alw hz (by simpa using (hq hv).2))⟩
 · obtain⟨cs,hx,h⟩:=an9 h
   obtain⟨v,hv,h⟩:=Nt h;exact .inl ⟨_,_,_,h,fun _=>oY fun ty=>fG hx (by simpa using hv)⟩
 · split at h
   · obtain⟨z,hz,h⟩:=oP h
     obtain⟨a,hx,h⟩:=Ks h;obtain⟨g,hB,h⟩:=alv hos h;obtain⟨b,n⟩:=z;have hA:=(yH hz).1;have hC:=(yH hz).2;cases b
     · obtain⟨v,hv,h⟩:=Nt h
       exact .inl ⟨_,_,_,h,fun e w m ty=>aY hx (by rw[e];exact (hB w m).lies1 hA hv)⟩
     · exact .inl ⟨_,_,_,h,fun e w m ty=>aY hx (by rw[e.1];exact (hB w m).lies hA hC O (Dp e.2))⟩
   · exact h.elim
 · cases pr
   · refine .inr ⟨O,_,_,h,fun d ty pos af ops Q rest w m hk=>agO (by simp) fun u g e hg hB=>hk g u e (m.newB e hg hB)⟩
   · exact h.elim
 · cases pr
   · obtain⟨cs,hz,h⟩:=oP (show Au _ _ from h)
     obtain⟨z,h1,h2⟩:=Xy hz;refine .inr ⟨O,_,_,h,fun d ty pos af ops Q rest w m hk=>Cz h1 h2 fun u g e hg hB=>hk g u e (m.newB e hg hB)⟩
   · exact h.elim
 · rename_i c
   split at h
   · rename_i b hb
     obtain⟨ce,xs,ts⟩:=c;simp only at hb h;subst hb;have:=aob (w0:=w0) h;simpa using Or.inl this
   · exact h.elim
 · exact h.elim
theorem ahS{pr:Bool}{sc:List Nat}(h:stV P l is pr op sc K):pr=false∧∃vc sc' is',K vc undef sc' is'∧(vc→∀(ty:az) (pos:String) (af:Array Edge) (ops:Array Oper) (Q:Exit→Act→aj→Prop) (rest:List Oper) (w:aj),Mem w0 w is→(∀u,Mem w0 u is'→ar P ops Q rest (Fr l ds) u)→ar P ops Q (bm none op ty pos af none::rest) (Fr l ds) w):=by
 unfold stV at h;split at h
 · rename_i T x y k sc
   cases pr with
   | true=>exact h.elim
   | false =>
   obtain⟨z,hz,h⟩:=oP (show Au _ _ from h);obtain⟨n,hn,h⟩:=Ya h;obtain⟨a,hx,h⟩:=Ks h;obtain⟨i,g,hi,hb,h⟩:=acy h;obtain⟨b,z⟩:=z;refine⟨O,_,_,_,h,fun⟨e,h1,h2,h3⟩ ty pos af ops Q rest w m hk=>?_⟩;have hC:=(yH hz).2;have h1:=Dp h1;have h2:=Dp h2;simp only at hn h1 h2;have hP:=i.bkP g hb;have hB:=hP.2 w (m.all i (be hi));rw[e] at hx;refine xR hx (us:=(ev l y).cells.toList) (by simp) (by rw[h2];exact hC) hB ?_ (fV (aec h3)) fun u hc hB'=>hk u (m.put k hi hc.os hc.tape hc.output (by rw[hc.size];exact av _) (fun b _ hne=>hc.block b fun e=>hne ((hP.1 b).2 e)) hB' (.inl fun b hb=>(hP.1 b).2 (by cases hb;rfl)));rw[bv,ft] at h1;omega
 · exact h.elim
theorem aoc{v:ai}{b:Bool}{p:Prop}(h:vvG v b p q):(v=.bool b∧p)∨((∀c,v=.bool c→(c == b)=false)∧q):=by
 cases v with
 | bool c =>
  unfold vvG at h;simp only at h;split at h
  · rename_i e;exact .inl ⟨by rw[e],h⟩
  · rename_i e;exact .inr ⟨fun c' e'=>by cases e';simpa using e,h⟩
 | tuple=>exact .inr ⟨fun c e=>(by cases e),h⟩
 | _=>exact h.elim
theorem alx{j:Nat}{b:Bool}(h:vyv ops.toList l j=.bool b):yielded ops l.toArray j=some b:=by
 unfold vyv at h;unfold yielded;simp only[fu] at h;cases ho:ops[j]? with
 | none=>rw[ho] at h;cases h
 | some o =>
  rw[ho] at h;simp only at h;cases hd:o.dst with
  | none=>rw[hd] at h;cases h
  | some d =>
   rw[hd] at h;simp only[gz] at h;simp only[il,hd,km];cases hv:l[d]? with
   | none=>rw[hv] at h;cases h
   | some v=>rw[hv] at h;simp only[df] at h;rw[h]
theorem aod{j:Nat}{b:Bool}(h:yielded ops l.toArray j=some b):vyv ops.toList l j=.bool b:=by
 unfold yielded at h;unfold vyv;simp only[fu];cases ho:ops[j]? with
 | none=>rw[ho] at h;cases h
 | some o =>
  rw[ho] at h;simp only[il] at h ⊢;cases hd:o.dst with
  | none=>rw[hd] at h;cases h
  | some d =>
   rw[hd] at h;simp only[il,km] at h;simp only[gz];cases hv:l[d]? with
   | none=>rw[hv] at h;cases h
   | some v =>
    rw[hv] at h;simp only[df];cases v <;> first | (cases h;done) | (cases h;rfl)
theorem Kt{g:Option (Nat × Bool)}{p:Prop}(h:Qe ops l g p q):(p∧∀d op ty pos af,Region.wanted (bm d op ty pos af g) (yielded ops l.toArray)=true)∨(q∧∀d op ty pos af,Region.wanted (bm d op ty pos af g) (yielded ops l.toArray)=false):=by
 cases g with
 | none=>exact .inl ⟨h,fun _ _ _ _ _=>rfl⟩
 | some g =>
  obtain⟨j,b⟩:=g;rcases aoc h with ⟨e,h⟩ | ⟨e,h⟩
  · exact .inl ⟨h,fun _ _ _ _ _=>by simp[Region.wanted,alx e]⟩
  · refine .inr ⟨h,fun _ _ _ _ _=>?_⟩
    cases hy:yielded ops l.toArray j with
    | none=>simp[Region.wanted,hy]
    | some c=>simpa[Region.wanted,hy] using e c (aod hy)
theorem oZ{ops:Array Oper}{Q:Exit→Act→aj→Prop}{rest:List Oper}{d:Option Nat}{op:Op}{ty:az}{pos:String}{af:Array Edge}{g:Option (Nat × Bool)}{w:aj}(hw:Region.wanted (bm d op ty pos af g) (yielded ops l.toArray)=true)
 (h:ar P ops Q (bm d op ty pos af none::rest) (Fr l ds) w):ar P ops Q (bm d op ty pos af g::rest) (Fr l ds) w:=by
 unfold ar at h ⊢;rw[if_pos (by simp[Region.wanted])] at h;rw[if_pos hw];exact h
theorem vK{ops:Array Oper}{Q:Exit→Act→aj→Prop}{rest:List Oper}{o:Oper}{w:aj}(hw:Region.wanted o (yielded ops l.toArray)=false)
 (h:ar P ops Q rest ((Fr l ds).put o.dst undef) w):ar P ops Q (o::rest) (Fr l ds) w:=by
 unfold ar;rw[if_neg (by rw[hw];simp)];exact h
theorem Ye{R:Exit→Act→aj→Prop}{id:Nat}{a:Act}{w:aj}{G:List Ko→Prop}:∀{s:List Ko},Td id s G→∃s',G s'∧(Ct P R s' .normal a w→Ct P R s (.exit id) a w)
 | .b j::s,h=>by
  rcases ahQ h with ⟨e,h⟩ | ⟨e,h⟩
  · refine⟨s,h,fun hs=>?_⟩
    show cw j (Ct P R s) (.exit id) a w
    simp only[cw];rw[if_pos e];exact hs
  · obtain⟨s',hG,hs⟩:=Ye (R:=R) (a:=a) (w:=w) h
    refine⟨s',hG,fun h=>?_⟩;show cw j (Ct P R s) (.exit id) a w
    simp only[cw];rw[if_neg e];exact hs h
 | .c _::s,h | .o _ _::s,h | .k _::s,h | .r _ _::s,h=>let ⟨s',hG,hs⟩:=Ye (R:=R) (a:=a) (w:=w) (s:=s) h;⟨s',hG,fun h=>hs h⟩
 | [],h=>h.elim
theorem aaK:∀x∈([]:List Ob),fR w0 x.1 x.2.1 x.2.2:=fun _ h=>(by cases h)
theorem aly{k:Kw}{w u:aj}(hp:kpb k=false)(h:kpt k w)(e:fQ w u):kpt k u:=by
 intro b v hk;subst hk;have hb:b=false:=hp;subst hb;exact fQ.trans (h false v O) e
theorem rA{R:Exit→Act→aj→Prop}(kw:Kw):∀(n:Nat) (sc:List Nat) (q:Prop) (s:List Ko) (l:List ai) (is:List It),V P R w0 ds kw n sc q s l is→q∧∀w,Mem w0 w is→kpt kw w→Gt P R s (Fr l ds) w
 | 0,_,_,_,_,_,h=>⟨h.1,fun _ m hk=>aef h.2 m hk⟩
 | n+1,sc,q,.b _::s,l,is,h=>rA kw n sc q s l is h
 | n+1,sc,q,.o _ []::s,l,is,h=>rA kw n sc q s l is h
 | n+1,sc,q,.o ops (⟨some d,op,ty,pos,af,g⟩::rest)::s,l,is,h=>by
  rcases Kt (show Qe _ _ _ _ _ from h) with ⟨h,hw⟩ | ⟨h,hw⟩
  · rcases Yc (ds:=ds) aaK h with ⟨vc,v,sc',h,hy⟩ | ⟨hpr,cs,T,h,hb⟩
    · obtain⟨⟨hv,hq⟩,hk⟩:=rA kw n _ _ _ _ _ h
      exact⟨hq,fun w m hkp=>oZ (hw _ _ _ _ _) (fO (hy hv w m ty) (hk w m hkp))⟩
    · exact⟨(rA kw n _ _ _ _ _ (h 0)).1.2,fun w m hkp=>oZ (hw _ _ _ _ _) (hb d ty pos af ops _ rest w m fun g u e mu=>(rA kw n _ _ _ _ _ (h g)).2 u mu (aly hpr hkp e))⟩
  · obtain⟨hq,hk⟩:=rA kw n _ _ _ _ _ h
    exact⟨hq,fun w m hkp=>vK (hw _ _ _ _ _) (by rw[iN];exact hk w m hkp)⟩
 | n+1,sc,q,.o ops (⟨none,op,ty,pos,af,g⟩::rest)::s,l,is,h=>by
  rcases Kt (show Qe _ _ _ _ _ from h) with ⟨h,hw⟩ | ⟨h,hw⟩
  · obtain⟨hpr,vc,sc',is',h,hy⟩:=ahS (w0:=w0) (ds:=ds) h
    obtain⟨⟨hv,hq⟩,hk⟩:=rA kw n _ _ _ _ _ h;exact⟨hq,fun w m hkp=>oZ (hw _ _ _ _ _) (hy hv ty pos af ops _ rest w m fun u mu=>hk u mu fun b v e=>(by rw[e] at hpr;cases hpr))⟩
  · obtain⟨hq,hk⟩:=rA kw n _ _ _ _ _ h
    exact⟨hq,fun w m hkp=>vK (hw _ _ _ _ _) (hk w m hkp)⟩
 | n+1,sc,q,.c c::s,l,is,h=>by
  cases c with
  | seq a b=>exact (rA kw n _ _ _ _ _ h).imp id fun hk w m hkp=>wp_seq (hk w m hkp)
  | skip=>exact (rA kw n _ _ _ _ _ h).imp id fun hk w m hkp=>wp_skip (hk w m hkp)
  | block id c=>exact (rA kw n _ _ _ _ _ h).imp (fun h=>h) fun hk w m hkp=>wp_block (hk w m hkp)
  | exit id =>
   refine⟨?_,fun w m hkp=>?_⟩
   · obtain⟨s',hG,_⟩:=Ye (P:=P) (R:=R) (a:=Fr l ds) (w:=w0) h
     exact (rA kw n _ _ _ _ _ hG).1
   · obtain⟨s',hG,hs⟩:=Ye (P:=P) (R:=R) (a:=Fr l ds) (w:=w) h
     exact wp_exit (hs ((rA kw n _ _ _ _ _ hG).2 w m hkp))
  | ret=>exact⟨h.1,fun w m hkp=>wp_ret (ahH (aef h.2 m hkp) s)⟩
  | cond x a b =>
   obtain⟨t,hx,h⟩:=acz h;cases t
   · exact (rA kw n _ _ _ _ _ h).imp id fun hk w m hkp=>aeX hx (hk w m hkp)
   · exact (rA kw n _ _ _ _ _ h).imp id fun hk w m hkp=>Ax hx (hk w m hkp)
  | region id ops d =>
   cases d
   · exact (rA kw n _ _ _ _ _ h).imp (fun h=>h) fun hk w m hkp=>wp_region_list (hk w m hkp)
   · exact h.elim
  | loop c =>
   cases sc with
   | nil=>exact h.elim
   | cons k sc=>exact (rA kw n _ _ _ _ _ h).imp (fun h=>h) fun hk w m hkp=>wp_loop_rounds k (hk w m hkp)
  | _=>exact h.elim
 | n+1,sc,q,.r c (k+1)::s,l,is,h=>(rA kw n sc q _ l is h).imp (fun h=>h) fun hk w m hkp=>hk w m hkp
 | _+1,_,_,.r _ 0::_,_,_,h=>h.elim
 | _+1,_,_,.k _::_,_,_,h=>h.elim
 | _+1,_,_,[],_,_,h=>h.elim
/-! ### Regions in a drawn order -/
def VQ{α:Type}(hd:α→Option Oper)(P:bp)(is:List It)(os:List Ob)(ops:Array Oper)(K:List α→List ai→Prop):Nat→List Nat→Prop→List α→List ai→Prop
 | 0,_,q,rest,l=>q∧K rest l
 | n+1,sc,q,x::rest,l=>match hd x with
  | some ⟨some d,op,_,_,_,g⟩=>Qe ops l g (Ez P l is os true op sc fun vc v sc _=>VQ hd P is os ops K n sc (vc∧q) rest (l.set d v)) (VQ hd P is os ops K n sc q rest (l.set d undef))
  | _=>False
 | _+1,_,_,[],_=>False
theorem aeh{α:Type}{hd:α→Option Oper}{ops:Array Oper}{K Y:List α→List ai→Prop}(hos:∀x∈os,fR w0 x.1 x.2.1 x.2.2)(hK:∀rest l,K rest l→Y rest l)
 (hv:∀x d op ty pos af g rest l v,hd x=some ⟨some d,op,ty,pos,af,g⟩→Region.wanted (bm (some d) op ty pos af g) (yielded ops l.toArray)=true→Yd P l is w0 op v→Y rest (l.set d v)→Y (x::rest) l)
 (hp:∀x d op ty pos af g rest l,hd x=some ⟨some d,op,ty,pos,af,g⟩→Region.wanted (bm (some d) op ty pos af g) (yielded ops l.toArray)=false→Y rest (l.set d undef)→Y (x::rest) l) :
 ∀(n:Nat) (sc:List Nat) (q:Prop) (rest:List α) (l:List ai),VQ hd P is os ops K n sc q rest l→q∧Y rest l
 | 0,_,_,_,_,h=>⟨h.1,hK _ _ h.2⟩
 | n+1,sc,q,x::rest,l,h=>by
  unfold VQ at h;split at h
  · rename_i d op ty pos af g hx
    rcases Kt h with ⟨h,hwt⟩ | ⟨h,hwt⟩
    · rcases Yc (ds:=[]) hos h with ⟨vc,v,sc',h,hy⟩ | ⟨e,_⟩
      · obtain⟨⟨h1,hq⟩,hk⟩:=aeh hos hK hv hp n _ _ _ _ h
        exact⟨hq,hv _ _ _ _ _ _ _ _ _ _ hx (hwt _ _ _ _ _) (hy h1) hk⟩
      · cases e
    · obtain⟨hq,hk⟩:=aeh hos hK hv hp n _ _ _ _ h
      exact⟨hq,hp _ _ _ _ _ _ _ _ _ hx (hwt _ _ _ _ _) hk⟩
  · exact h.elim
 | _+1,_,_,[],_,h=>h.elim
theorem arM{Q:Act→Prop}(hos:∀x∈os,fR w0 x.1 x.2.1 x.2.2){sc:List Nat}{rest:List Oper}{l:List ai}(h:VQ some P is os ops (fun rest l=>cl P ops (fun u=>Mem w0 u is) Q rest (Fr l ds)) n sc True rest l):cl P ops (fun u=>Mem w0 u is) Q rest (Fr l ds):=by
 refine (aeh (Y:=fun rest l=>cl P ops (fun u=>Mem w0 u is) Q rest (Fr l ds)) hos (fun _ _ h=>h) (fun x d op ty pos af g rest l v hx hw hy h=>?_) (fun x d op ty pos af g rest l hx hw h=>?_) n sc True rest l h).2
 · cases hx
   have h:=kP (ty:=ty) (pos:=pos) (after:=af) (fun u m=>hy u m ty) h;unfold cl at h ⊢;rw[if_pos (by simp[Region.wanted])] at h;rw[if_pos hw];exact h
 · cases hx
   unfold cl;rw[if_neg (by rw[hw];simp)];show cl P ops _ Q rest ((Fr l ds).put (some d) undef)
   rw[iN];exact h
def hdH(x:Oper × Bool):Option Oper:=match x.2 with
 | true=>some x.1
 | false=>none
theorem arN{Q:Exit→Act→aj→Prop}{w:aj}(hos:∀x∈os,fR w0 x.1 x.2.1 x.2.2){sc:List Nat}{rest:List (Oper × Bool)}{l:List ai}(h:VQ hdH P is os ops (fun rest l=>bS P ops (fun u=>Mem w0 u is) Q rest (Fr l ds) w) n sc True rest l):bS P ops (fun u=>Mem w0 u is) Q rest (Fr l ds) w:=by
 refine (aeh (Y:=fun rest l=>bS P ops (fun u=>Mem w0 u is) Q rest (Fr l ds) w) hos (fun _ _ h=>h) (fun x d op ty pos af g rest l v hx hw hy h=>?_) (fun x d op ty pos af g rest l hx hw h=>?_) n sc True rest l h).2
 · obtain⟨o,b⟩:=x
   cases b
   · cases hx
   · cases hx
     obtain⟨v,hy,h⟩:=Xj (ty:=ty) (pos:=pos) (after:=af) (fun u m=>hy u m ty) h;refine⟨v,?_,h⟩;rcases hy with ⟨_,hy⟩ | ⟨hn,_⟩
     · exact .inl ⟨hw,hy⟩
     · simp[Region.wanted] at hn
 · obtain⟨o,b⟩:=x
   cases b
   · cases hx
   · cases hx
     refine⟨undef,.inr ⟨hw,O⟩,?_⟩;show bS P ops _ Q rest ((Fr l ds).put (some d) undef) w
     rw[iN];exact h
end
theorem pD{P R w0 ds k n sc q s l l' is is'}(h:l=l')(h':is=is'):V P R w0 ds k n sc q s l is=V P R w0 ds k n sc q s l' is':=by rw[h,h']
theorem gF{ops l l' g p q}(h:l=l'):Qe ops l g p q=Qe ops l' g p q:=by rw[h]
theorem gG{P l l' is os pr op sc K}(h:l=l'):Ez P l is os pr op sc K=Ez P l' is os pr op sc K:=by rw[h]
theorem gH{P l l' is pr op sc K}(h:l=l'):stV P l is pr op sc K=stV P l' is pr op sc K:=by rw[h]
theorem gI{P l l' is b xs ts sc K}(h:l=l'):caV P l is b xs ts sc K=caV P l' is b xs ts sc K:=by rw[h]
theorem gJ{b x y x' y' sc is K}(h:x=x')(h':y=y'):biV b x y sc is K=biV b x' y' sc is K:=by rw[h,h']
theorem kL{sc sc' p K is}[Decidable p](h:sc=sc'):cV sc p K is=cV sc' p K is:=by rw[h]
theorem gK{v v' f}(h:v=v'):rJ v f=rJ v' f:=by rw[h]
theorem gL{v v' f}(h:v=v'):vvB v f=vvB v' f:=by rw[h]
theorem gM{v v' f}(h:v=v'):vvP v f=vvP v' f:=by rw[h]
theorem gN{v v' f}(h:v=v'):vvS v f=vvS v' f:=by rw[h]
theorem gQ{v v' f}(h:v=v'):vvA v f=vvA v' f:=by rw[h]
theorem gR{v v' f}(h:v=v'):vvT v f=vvT v' f:=by rw[h]
theorem gS{v v' b p q}(h:v=v'):vvG v b p q=vvG v' b p q:=by rw[h]
theorem gT{o o':Option α}{f}(h:o=o'):Au o f=Au o' f:=by rw[h]
theorem gU{b b' p q}(h:b=b'):vbX b p q=vbX b' p q:=by rw[h]
theorem gV{n n' p}(h:n=n'):vnX n p=vnX n' p:=by rw[h]
theorem gW{n n' m p q}(h:n=n'):vnE n m p q=vnE n' m p q:=by rw[h]
theorem eU{l l' n n' f}(h:l=l')(h':n=n'):Kq l n f=Kq l' n' f:=by rw[h,h']
theorem eV{l l' n f}(h:l=l'):Xz l n f=Xz l' n f:=by rw[h]
theorem gX{l pl ps cs cs' q f}(h:cs=cs'):blV l pl ps cs q f=blV l pl ps cs' q f:=by rw[h]
theorem gY{is is' os k f}(h:is=is'):atB is os k f=atB is' os k f:=by rw[h]
theorem gZ{n v v' f}(h:v=v'):vvX n v f=vvX n v' f:=by rw[h]
theorem kM{hd:α→Option Oper}{P is os ops K n sc q rest l l'}(h:l=l'):VQ hd P is os ops K n sc q rest l=VQ hd P is os ops K n sc q rest l':=by rw[h]
theorem dD{P ops S Q ol a a' w}(h:a=a'):bS P ops S Q ol a w=bS P ops S Q ol a' w:=by rw[h]
theorem iA{os k k' f}(h:k=k'):atO os k f=atO os k' f:=by rw[h]
theorem iB{is k k' f}(h:k=k'):atM is k f=atM is k' f:=by rw[h]
theorem iC{i i' s f}(h:i=i'):Td i s f=Td i' s f:=by rw[h]
theorem kN{P R s e a a' w}(h:a=a'):Ct P R s e a w=Ct P R s e a' w:=by rw[h]
theorem dF{P ops Q rest a a' w}(h:a=a'):ar P ops Q rest a w=ar P ops Q rest a' w:=by rw[h]
theorem dG{P Q a a' w}(h:a=a'):c.wp P Q a w=c.wp P Q a' w:=by rw[h]
theorem cW{P ops C Q rest a a'}(h:a=a'):cl P ops C Q rest a=cl P ops C Q rest a':=by rw[h]
theorem aaL:∀(n:Nat) (p q:Prop),vnE n n p q=p
 | 0,_,_=>rfl
 | n+1,p,q=>aaL n p q
theorem aqp{i:Nat}{s:List Ko}{f:List Ko→Prop}:Td i (.b i::s) f=f s:=aaL i _ _
theorem kp0{X:aj→Prop}:(q∧ahO w0 is X none)=(q∧∀w,Mem w0 w is→X w):=propext ⟨fun h=>⟨h.1,fun w m=>h.2 w m fun _ _ e=>(by cases e)⟩,fun h=>⟨h.1,fun w m _=>h.2 w m⟩⟩
theorem kp1{w1:aj}{X:aj→Prop}:(q∧ahO w0 is X (some (false,w1)))=(q∧∀w,Mem w0 w is→fQ w1 w→X w):=propext ⟨fun h=>⟨h.1,fun w m e=>h.2 w m fun _ _ e'=>(by cases e';exact e)⟩,fun h=>⟨h.1,fun w m e=>h.2 w m (e _ _ rfl)⟩⟩
def Fz(l:List ai)(ds:List dx):Act:=Fr l ds
section
variable {P:bp} {R:Exit→Act→aj→Prop} {w0 w:aj} {ds:List dx} {s:List Ko} {l:List ai} {is:List It}
theorem Vf(n:Nat)(sc:List Nat)(m:Mem w0 w is)(h:V P R w0 ds none n sc True (.c c::s) l is):c.wp P (Ct P R s) (Fr l ds) w:=(rA none n sc True _ l is h).2 w m fun _ _ e=>(by cases e)
theorem aK(n:Nat)(sc:List Nat)(m:Mem w0 w is)(h:V P R w0 ds (some (true,w)) n sc True (.c c::s) l is):c.wp P (Ct P R s) (Fr l ds) w:=(rA (some (true,w)) n sc True _ l is h).2 w m fun _ _ e=>(by cases e;rfl)
theorem iY(n:Nat)(sc:List Nat)(m:Mem w0 w is)(h:V P R w0 ds none n sc True [.c c] l is):c.wp P R (Fr l ds) w:=(rA none n sc True _ l is h).2 w m fun _ _ e=>(by cases e)
theorem fI(n:Nat)(sc:List Nat)(m:Mem w0 w is)(h:V P R w0 ds (some (true,w)) n sc True [.c c] l is):c.wp P R (Fr l ds) w:=(rA (some (true,w)) n sc True _ l is h).2 w m fun _ _ e=>(by cases e;rfl)
theorem jS{rest:List Oper}(n:Nat)(sc:List Nat)(m:Mem w0 w is)(h:V P R w0 ds none n sc True (.o ops rest::s) l is):ar P ops (Ct P R s) rest (Fr l ds) w:=(rA none n sc True _ l is h).2 w m fun _ _ e=>(by cases e)
theorem aL{rest:List Oper}(n:Nat)(sc:List Nat)(m:Mem w0 w is)(h:V P R w0 ds (some (true,w)) n sc True (.o ops rest::s) l is):ar P ops (Ct P R s) rest (Fr l ds) w:=(rA (some (true,w)) n sc True _ l is h).2 w m fun _ _ e=>(by cases e;rfl)
theorem dZ{Q:Act→Prop}{rest:List Oper}(n:Nat)(sc:List Nat)(h:VQ some P is [] ops (fun rest l=>cl P ops (fun u=>Mem w0 u is) Q rest (Fz l ds)) n sc True rest l):cl P ops (fun u=>Mem w0 u is) Q rest (Fr l ds):=arM aaK h
theorem Hv{Q:Exit→Act→aj→Prop}{ol:List (Oper × Bool)}(n:Nat)(sc:List Nat)(h:VQ hdH P is [] ops (fun rest l=>bS P ops (fun u=>Mem w0 u is) Q rest (Fz l ds) w) n sc True ol l):bS P ops (fun u=>Mem w0 u is) Q ol (Fr l ds) w:=arN aaK h
theorem nF{rest:List Oper}{f:FuncId}{fo:bx}{xs:Array bx}{args:List ai}{first cap:Array ai}{a0:Array az}{v:ai}{d:Nat}{ty:az}{pos:String}{af:Array Edge}(m:Mem w0 w is)(hf:ev l fo=.func (.func f) first cap)(hxs:first.toList++xs.toList.map (ev l)++cap.toList=args)(hc:dS P f args v)(n:Nat)(sc:List Nat)(h:V P R w0 ds none n sc True (.o ops rest::s) (l.set d v) is):ar P ops (Ct P R s) (bm (some d) (.call { callee:=.value fo,args:=xs,argTypes:=a0 }) ty pos af none::rest) (Fr l ds) w :=
 lD m hf hxs hc fun u m=>(rA none n sc True _ _ is h).2 u m fun _ _ e=>(by cases e)
theorem g0{a:Act}(h:c.wp P (Ct P R []) a w):c.wp P R a w:=h
theorem gc{a:Act}(h:c.wp P (Ct P R s) a w):Ct P R (.c c::s) .normal a w:=h
theorem go{rest:List Oper}{a:Act}(h:ar P ops (Ct P R s) rest a w):Ct P R (.o ops rest::s) .normal a w:=h
theorem gk{K:Act→aj→Prop}{a:Act}(h:K a w):Ct P R (.k K::s) .normal a w:=h
theorem bX{c:Code}(ts ss:List Nat)(I:Nat→List ai→aj→Prop)(h0:∃n,I n (ts.map (l.getD · undef)) w)
 (hr:∀n vs w,I n vs w→∀(g:Nat→ai) (K:Act→aj→Prop),(∀n' l' w',n'<n→pN (fJ l ts (ts.map (l'.getD · undef))) ss (l'.getD · undef)=l'→I n' (ts.map (l'.getD · undef)) w'→K (Fr l') w')→c.wp P (Ct P R (.k K::s)) (Fr (pN (fJ l ts vs) ss g)) w):(Code.loop c).wp P (Ct P R s) (Fr l) w :=
 adP ts ss I h0 fun n vs w hI g=>hr n vs w hI g _ fun n' l' w' h1 h2 h3=>⟨n',l',h1,rfl,h2,h3⟩
theorem Nu(n:Nat)(sc:List Nat)(m:Mem w0 w is)(h:V P R w0 ds none n sc True s l is):Ct P R s .normal (Fr l ds) w:=(rA none n sc True _ l is h).2 w m fun _ _ e=>(by cases e)
theorem aU(n:Nat)(sc:List Nat)(m:Mem w0 w is)(h:V P R w0 ds (some (true,w)) n sc True s l is):Ct P R s .normal (Fr l ds) w:=(rA (some (true,w)) n sc True _ l is h).2 w m fun _ _ e=>(by cases e;rfl)
end
section
variable {P:bp} {ds:List dx} {l:List ai}
theorem aei{c:Code}{Q:Exit→Act→aj→Prop}{w:aj}(ts ss:List Nat)(J:List ai→aj→Prop)
 (hc:c.wp P (Exit.then (fun a' w'=>∃l',a'=Fr l' ds∧pN (fJ l ts (ts.map (l'.getD · undef))) ss (l'.getD · undef)=l'∧J (ts.map (l'.getD · undef)) w') Q) (Fr l ds) w)
 (hn:∀vs u,J vs u→∀g:Nat→ai,Q .normal (Fr (pN (fJ l ts vs) ss g) ds) u):c.wp P Q (Fr l ds) w:=by
 refine Code.wp_mono ?_ hc;intro e a w' h;cases e with
 | normal =>
  obtain⟨l',rfl,he,hJ⟩:=h;rw[←he];exact hn _ _ hJ _
 | exit id=>exact h
 | goto id=>exact h
 | ret=>exact h
 | panic ch=>exact h
 | outgrown=>exact h
theorem alz{c:Code}{Q:Exit→Act→aj→Prop}{w0 w:aj}{is:List It}(m:Mem w0 w is)(ts ss:List Nat)(J:List ai→Prop)
 (hc:c.wp P (Exit.then (fun a' w'=>∃l',a'=Fr l' ds∧pN (fJ l ts (ts.map (l'.getD · undef))) ss (l'.getD · undef)=l'∧Mem w0 w' is∧J (ts.map (l'.getD · undef))) Q) (Fr l ds) w)
 (hn:∀vs u,Mem w0 u is→J vs→∀g:Nat→ai,Q .normal (Fr (pN (fJ l ts vs) ss g) ds) u):c.wp P Q (Fr l ds) w :=
 aei ts ss (fun vs w'=>Mem w0 w' is∧J vs) hc fun vs u h g=>hn vs u h.1 h.2 g
theorem alA{c:Code}{Q:Exit→Act→aj→Prop}{w0 w:aj}{is:List It}(m:Mem w0 w is)(k:Nat)(ts ss:List Nat)(J:List ai→It→Prop)
 (hc:c.wp P (Exit.then (fun a' w'=>∃l' i,a'=Fr l' ds∧pN (fJ l ts (ts.map (l'.getD · undef))) ss (l'.getD · undef)=l'∧Mem w0 w' (is.set k i)∧J (ts.map (l'.getD · undef)) i) Q) (Fr l ds) w)
 (hn:∀vs i u,Mem w0 u (is.set k i)→J vs i→∀g:Nat→ai,Q .normal (Fr (pN (fJ l ts vs) ss g) ds) u):c.wp P Q (Fr l ds) w:=by
 refine aei ts ss (fun vs w'=>∃i,Mem w0 w' (is.set k i)∧J vs i) (Code.wp_mono ?_ hc) fun vs u h g=>?_
 · intro e a w' h
   cases e with
   | normal=>obtain⟨l',i,h1,h2,h3,h4⟩:=h;exact⟨l',h1,h2,i,h3,h4⟩
   | exit id=>exact h
   | goto id=>exact h
   | ret=>exact h
   | panic ch=>exact h
   | outgrown=>exact h
 · obtain⟨i,h1,h2⟩:=h
   exact hn vs i u h1 h2 g
end
section
variable {P:bp} {R:Exit→Act→aj→Prop} {w0 w:aj} {ds:List dx} {s:List Ko} {l:List ai} {is:List It}
theorem Qg{c:Code}(m:Mem w0 w is)(ts ss:List Nat)(J:List ai→Prop)
 (hc:∀K:Act→aj→Prop,(∀l' w',pN (fJ l ts (ts.map (l'.getD · undef))) ss (l'.getD · undef)=l'→Mem w0 w' is→J (ts.map (l'.getD · undef))→K (Fr l' ds) w')→c.wp P (Ct P R (.k K::s)) (Fr l ds) w)
 (hn:∀vs u,Mem w0 u is→J vs→∀g:Nat→ai,Ct P R s .normal (Fr (pN (fJ l ts vs) ss g) ds) u):c.wp P (Ct P R s) (Fr l ds) w :=
 alz m ts ss J (hc _ fun l' w' h1 h2 h3=>⟨l',rfl,h1,h2,h3⟩) hn
theorem iP{c:Code}(m:Mem w0 w is)(k:Nat)(ts ss:List Nat)(J:List ai→It→Prop)
 (hc:∀K:Act→aj→Prop,(∀l' i w',pN (fJ l ts (ts.map (l'.getD · undef))) ss (l'.getD · undef)=l'→Mem w0 w' (is.set k i)→J (ts.map (l'.getD · undef)) i→K (Fr l' ds) w')→c.wp P (Ct P R (.k K::s)) (Fr l ds) w)
 (hn:∀vs i u,Mem w0 u (is.set k i)→J vs i→∀g:Nat→ai,Ct P R s .normal (Fr (pN (fJ l ts vs) ss g) ds) u):c.wp P (Ct P R s) (Fr l ds) w :=
 alA m k ts ss J (hc _ fun l' i w' h1 h2 h3=>⟨l',i,rfl,h1,h2,h3⟩) hn
end
end Go.Lith
namespace Go.Lith
open Go.RowKit Go.Proofs Go.Sort Go.Shelf
theorem ahT{α:Type}{enc:α→List ai}{k:Nat}(hk:∀x,(enc x).length=k)(h0:0<k):∀(L:List α) (t:Nat),(L.flatMap enc)[t]? = (L[t / k]?).bind fun x=>(enc x)[t%k]?
 | [],t=>by simp
 | x::L,t=>by
  rw[dt,List.getElem?_append];by_cases h:t<k
  · rw[if_pos (by rw[hk];exact h),Nat.div_eq_of_lt h,Nat.mod_eq_of_lt h]
    rfl
  · rw[if_neg (by rw[hk];exact h),hk,ahT hk h0 L (t-k)]
    have e1:t / k=(t-k) / k+1:=by rw[Nat.div_eq t k,if_pos ⟨h0,ik h⟩]
    have e2:t%k=(t-k)%k:=Nat.mod_eq_sub_mod (ik h);rw[e1,e2,gw]
theorem yI{α:Type}[Inhabited α]{enc:α→List ai}{k:Nat}(hk:∀x,(enc x).length=k)(h0:0<k)(L:List α):(flatK enc k L.toArray).toList=L.flatMap enc:=by
 have hlen:(L.flatMap enc).length=L.length*k:=by
  induction L with
  | nil=>simp
  | cons x L ih=>rw[dt,au,ih,hk,aw,jw];omega
 apply fw;intro t;by_cases ht:t<L.length*k
 · have hd:t / k<L.length:=by
    rw[Nat.div_lt_iff_lt_mul h0];exact ht
   have hm:t%k<k:=jr _ h0;have h1:=get_flatK enc k L.toArray t (by simpa using ht);rw[getElem!_pos _ t (by simpa using ht)] at h1;rw[ahT hk h0,am hd,il,fu,gm (by simpa using ht),h1,am (show t%k<(enc L[t / k]).length by rw[hk];exact hm)]
   congr 1
   rw[getElem!_pos L.toArray _ (by simpa using hd),List.getElem_toArray,getElem!_pos _ _ (by rw[hk];exact hm)]
 · rw[bz (by simpa using ik ht),bz (by rw[hlen];exact ik ht)]
section
variable {α:Type} [Inhabited α] {P:bp} {ρ:Ren} {enc:α→List ai} {c:Nat} {E:az} {w w0:aj} {is:List It} {A:Option Addr} {n cap:Nat}
theorem afw{g:Nat}{xs:List α}{cur:Array ai}(hk:∀x,(enc x).length=c)(h0:0<c)(hg:w.heap[g]? = some (.cells cur E (0,0)))(h:cur.toList.take (xs.length*c)=xs.flatMap enc):HoldsK enc c w g 0 xs.toArray:=by
 intro j hj;have hl:=yI hk h0 xs;have hj':j<xs.length*c:=by simpa using hj
 have e:(flatK enc c xs.toArray)[j]? = cur[j]?:=by
  rw[←fu,hl,←h,dm,if_pos hj',fu]
 rw[gm hj] at e;refine⟨?_,?_⟩
 · simp only[World.cell?,hg,aq,Option.isSome_none,nf,if_false]
   rw[←e,getElem!_pos _ j hj];rfl
 · simp[World.frozen?,hg]
theorem Tv{g:Nat}{xs ys:List α}{cur:Array ai}{q:Nat}{os:Array Obj}(hk:∀x,(enc x).length=c)(h0:0<c)(hg:w.heap[g]? = some (.cells cur E (0,0)))(hl:xs.length*c≤cur.size)(hlen:ys.length=xs.length) :
 ∃cur':Array ai,(sortWorldK enc c w g 0 q ys.toArray os).heap[g]? = some (.cells cur' E (0,0))∧cur'.size=cur.size∧cur'.toList.take (xs.length*c)=ys.flatMap enc:=by
 have hlt:g<w.heap.size:=(dz.1 hg).1;refine⟨putCells id 0 (flatK enc c ys.toArray) cur,?_,by simp[putCells],?_⟩
 · unfold sortWorldK putRowK putRow mapBlock grow
   simp only;rw[Array.getElem?_append_left (by simpa[ahead] using hlt),jq];simp[ahead,hg,onCells]
 · have hf:=yI hk h0 ys
   apply fw;intro t;rw[dm,←hf,fu,fu];have hs:(flatK enc c ys.toArray).size=xs.length*c:=by simp[hlen]
   split
   · rename_i ht
     have:t<cur.size:=Nat.lt_of_lt_of_le ht hl;simp only[putCells,Array.getElem?_mapIdx,gm this,fl,bw,aq,true_and,Nat.sub_zero,hs,ht,if_true];rw[gm (by rw[hs];exact ht),getElem!_pos _ t (by rw[hs];exact ht)];rfl
   · rename_i ht
     rw[Array.getElem?_eq_none (by rw[hs];exact ik ht)]
theorem Bu(L:SlLaysF0.n6 P ρ)(aE:∀w,(isAgg (ρ.t 24)).run P w=.ok true w)(zE:∀w,(Go.sizeOf (ρ.t 24)).run P w=.ok c w)(hk:∀x,(enc x).length=c)(h0:0<c)(h1:∀x,∀v∈enc x,v.oneCell'=true)
 (cf:α→α→Int) (hO:SWO (ltOf cf)) {f:FuncId} (hcmp:∀x y,sT P f [.agg (enc x).toArray,.agg (enc y).toArray] (.int .i64 (cf x y))) {xs:List α} (m:Mem w0 w is) (k:Nat) (hi:is[k]? = some (oI E c A n cap (xs.flatMap enc))) (hsz:n<4611686018427387904) :
 Calls P (ρ.f 6) #[.slice A n cap,.func (.func f) #[] #[]] w fun e w'=>∃v i,e=.returned v∧Mem w0 w' (is.set k i)∧(v=.tuple #[]∧∃ys:List α,i=oI E c A n cap (ys.flatMap enc)∧ys.Perm xs∧ys.Pairwise fun a b=>ltOf cf b a=false):=by
 have h:w.ownsRow 0 E c (.slice A n cap) n (xs.flatMap enc):=m.get k hi;have hlen:(xs.flatMap enc).length=xs.length*c:=by
  have:=yI hk h0 xs;rw[←this];simp
 have hn:xs.length=n:=by
  have:=h.1;rw[hlen] at this;exact Nat.eq_of_mul_eq_mul_right h0 this
 have hge:=fun b hb=>m.ge _ (be hi) b hb;rcases nY h with ⟨rfl,rfl,rfl,hx⟩ | ⟨g,cur,rfl,_,hg,hcap,hmax,hcur,htake⟩
 · refine (AnyF.slices_SortFunc_none L none 0 _ w).mono ?_
   rintro e w' ⟨rfl,rfl⟩;obtain rfl:xs=[]:=List.eq_nil_of_length_eq_zero hn;refine⟨_,oI E c none 0 0 [],O,?_,O,[],O,nu _,.nil⟩;have:is.set k (oI E c none 0 0 [])=is:=by
    apply fw;intro j;rw[jh];split
    · rename_i e;subst e
      have:=(ap.1 hi).1;rw[if_pos this,hi];rfl
    · rfl
   rw[this];exact m
 · have hlt:g<w.heap.size:=(dz.1 hg).1
   rw[←hn] at htake;have hH:=afw (xs:=xs) hk h0 hg htake;have hx:=AnyQ.slices_SortFunc L c aE zE enc hk h1 cf hO f #[] g 0 cap xs.toArray w (fun args w'=>tD (hcmp default default w').1) (fun mm os dk _ x y=>by
    have:=((hcmp x y (sortWorldK enc c w g 0 mm dk os)).2.mono fun e w' h=>(show e=.returned (.int .i64 (cf x y))∧∃q os',w'=grow ((sortWorldK enc c w g 0 mm dk os).drewN q) os' from by obtain⟨u,rfl,hX,rfl⟩:=h;exact⟨O,hX.grow⟩))
    simpa using this) hH hlt (by simpa[hn] using hsz)
   have es:xs.toArray.size=n:=by simpa using hn
   rw[es] at hx;refine hx.mono ?_;rintro e w' ⟨rfl,d',q,os,hp,hs,rfl⟩;have hd:d'.size=n:=by rw[hp.1];exact es
   obtain⟨ys,rfl⟩:∃ys:List α,d'=ys.toArray:=⟨d'.toList,by simp⟩
   have hyl:ys.length=n:=by simpa using hd
   have hcs:xs.length*c≤cur.size:=by rw[hn,hcur];exact Nat.mul_le_mul_right _ hcap
   obtain⟨cur',e1,e2,e3⟩:=Tv (q:=q) (os:=os) (ys:=ys) hk h0 hg hcs (by rw[hyl,hn]);refine⟨_,oI E c (some ⟨g,0,none⟩) n cap (ys.flatMap enc),O,?_,O,ys,O,?_,?_⟩
   · refine m.put k hi O O O ?_ (fun b hb hne=>?_) ?_ (.inl fun _ h=>h)
     · simp[sortWorldK,putRowK,putRow,mapBlock,grow,ahead]
     · have hbg:g≠b:=fun e=>hne (by rw[e];rfl)
       unfold sortWorldK putRowK putRow mapBlock grow;simp only;rw[Array.getElem?_append_left (by simpa[ahead] using hb),jq,if_neg hbg];rfl
     · refine⟨?_,.inr ⟨g,cap,cur',O,bw _,e1,hcap,hmax,by rw[e2,hcur],?_⟩⟩
       · have:=yI hk h0 ys
         rw[←this];simp[hyl]
       · rw[←hn];exact e3
   · have:=hp.2.2
     simpa[hyl,hn,ay (Nat.le_of_eq hyl),ay (Nat.le_of_eq hn),List.extract_eq_take_drop] using this
   · rw[List.pairwise_iff_getElem]
     intro i j hi' hj' hij;have:=hs i j (bw _) hij (by rw[←hyl];exact hj');rw[getElem!_pos _ i (by simpa using hi'),getElem!_pos _ j (by simpa using hj')] at this;simpa using this
end
end Go.Lith
namespace Go.Lith
open Go.RowKit Go.Sort
variable{K:Type}
instance:Inhabited P3:=⟨⟨0,0,0⟩⟩
def bO(p:P3):List ai:=[.int .i64 p.x,.int .i64 p.y,.int .i64 p.z]
theorem Mm(p:P3):∀v∈bO p,v.oneCell'=true:=fun v h=>by
 simp only[bO,an,cg,or_false] at h;rcases h with rfl | rfl | rfl <;> rfl
theorem mA(p q:P3):(qK p q<0)↔p.Lt q:=by
 unfold qK;split
 · simp[*]
 · split <;> simp[*]
theorem aaM:SWO (Go.Proofs.ltOf qK) where
 irrefl x:=by simp[Go.Proofs.ltOf,mA,P3.lt_irrefl]
 trans x y z h1 h2:=by
  simp only[Go.Proofs.ltOf,decide_eq_true_eq,mA] at *
  exact P3.lt_trans h1 h2
 ntrans x y z h1 h2:=by
  simp only[Go.Proofs.ltOf,decide_eq_false_iff_not,mA] at *
  unfold P3.Lt at *
  omega
theorem oC.len{V:Type}[DecidableEq K]{ek:K→ai}{en:V→ai}{D dn rs:List (K × V)}{es:Array ck}{seen:Array Nat}(h:oC ek en D es seen dn rs):dn.length+rs.length=D.length:=by
 have:=h.1.length_eq;simpa using this
theorem Hw{V:Type}[DecidableEq K]{ek:K→ai}{en:V→ai}{D dn rs:List (K × V)}{es:Array ck}{b:Bool}{kv vv:ai}{sn:Array Nat}(hb:b=false)(h:Nxt ek en D es dn rs b kv vv sn):rs=[]:=by
 rcases h with ⟨_,h⟩ | ⟨h,_⟩
 · exact h
 · rw[h] at hb;cases hb
theorem Hx{K V:Type}[DecidableEq K]{ek:K→ai}{en:V→ai}{D dn rs:List (K × V)}{es:Array ck}{b:Bool}{kv vv:ai}{sn:Array Nat}(hb:b=true)(h:Nxt ek en D es dn rs b kv vv sn) :
 ∃k v rs',rs.Perm ((k,v)::rs')∧oC ek en D es sn (dn++[(k,v)]) rs':=by
 rcases h with ⟨h,_⟩ | ⟨_,k,v,rs',h1,_,_,h2⟩
 · rw[h] at hb;cases hb
 · exact⟨k,v,rs',h1,h2⟩
def By(D:List (P3 × Bool))(ps:List P3):List (P3 × Bool):=ps.foldl (fun D p=>fP D p true) D
theorem aaN{V:Type}[DecidableEq K](D:List (K × V))(k a:K)(v:V):a∈(fP D k v).map (·.1)↔a∈D.map (·.1)∨a=k:=by
 rw[wZ];split
 · exact⟨.inl,fun h=>h.elim id (fun e=>e▸‹_›)⟩
 · simp
theorem Vg:∀(ps:List P3) (D:List (P3 × Bool)) (a:P3),a∈(By D ps).map (·.1)↔a∈D.map (·.1)∨a∈ps
 | [],D,a=>by simp[By]
 | p::ps,D,a=>by
  have:=Vg ps (fP D p true) a;unfold By at this ⊢;rw[jd,this,aaN,an,or_assoc]
theorem Mn:∀(ps:List P3) (D:List (P3 × Bool)),(D.map (·.1)).Nodup→((By D ps).map (·.1)).Nodup
 | [],_,h=>h
 | p::ps,D,h=>Mn ps (fP D p true) (uH h p true)
theorem vL{K V:Type}[DecidableEq K]:∀(D:List (K × V)) (k:K) (v:V),(fP D k v).length≤D.length+1
 | [],_,_=>by simp[fP]
 | x::D,k,v=>by
  unfold fP;split
  · simp
  · simp only[aw]
    exact Nat.succ_le_succ (vL D k v)
theorem Hy:∀(ps:List P3) (D:List (P3 × Bool)),(By D ps).length≤D.length+ps.length
 | [],D=>av _
 | p::ps,D=>Nat.le_trans (Hy ps (fP D p true)) (by
  have:=vL D p true;simp only[aw];omega)
theorem afx(D:List (P3 × Bool))(ps qs:List P3):By D (ps++qs)=By (By D ps) qs:=iq ..
def dT(ts:List T3):List P3:=ts.flatMap fun t=>[t.a,t.b,t.c]
def uJ(ps:List P3):Prop:=ps.Pairwise fun a b=>a.Lt b
theorem afy{ps:List P3}(hn:ps.Nodup)(h:ps.Pairwise fun a b=>¬b.Lt a):uJ ps:=by
 have:=hn.and h;exact this.imp fun {a b} h=>(P3.lt_tri a b).resolve_right (by rintro (e | e);exact h.1 e;exact h.2 e)
end Go.Lith
namespace Go.Lith
open Go.RowKit
variable{k:Nat}{ts:List T3}{t:T3}{a x:E3}{es:List E3}
theorem Vh{α:Type}{ps:List α}{p:α}(h:ps[k]? = some p):ps.take (k+1)=ps.take k++[p]:=by
 rw[nq,h];rfl
theorem Qh(h:ts[k]? = some t):dT (ts.take (k+1))=dT (ts.take k)++[t.a,t.b,t.c]:=by
 unfold dT;rw[Vh h,a_];simp
theorem acA(h:ts[k]? = some t):By [] (dT (ts.take (k+1)))=fP (fP (fP (By [] (dT (ts.take k))) t.a true) t.b true) t.c true:=by
 rw[Qh h,afx];rfl
theorem pY(ts:List T3):(dT ts).length=ts.length*3:=by
 unfold dT
 induction ts with
 | nil=>rfl
 | cons t ts ih=>rw[dt,au,ih];simp only[aw,List.length_nil];omega
theorem ahU{ps:List P3}:(ps.flatMap bO).length=ps.length*3:=by
 induction ps with
 | nil=>rfl
 | cons p ps ih=>rw[dt,au,ih,show (bO p).length=3 from rfl,aw];omega
theorem yJ{α:Type}{R:α→α→Prop}(irr:∀a,¬R a a)(tr:∀a b c,R a b→R b c→R a c):∀{l m:List α},l.Pairwise R→m.Pairwise R→(∀a,a∈l↔a∈m)→l=m
 | [],[],_,_,_=>rfl
 | [],y::m,_,_,h=>absurd ((h y).2 (bu ..)) (by simp)
 | x::l,[],_,_,h=>absurd ((h x).1 (bu ..)) (by simp)
 | x::l,y::m,hl,hm,h=>by
  obtain⟨h1,h2⟩:=br.1 hl;obtain⟨k1,k2⟩:=br.1 hm;have e:x=y:=by
   rcases an.1 ((h x).1 (bu ..)) with e | hx
   · exact e
   · rcases an.1 ((h y).2 (bu ..)) with e | hy
     · exact e.symm
     · exact absurd (tr _ _ _ (h1 y hy) (k1 x hx)) (irr x)
  subst e;rw[yJ irr tr h2 k2 fun a=>⟨fun ha=>?_,fun ha=>?_⟩]
  · rcases an.1 ((h a).1 (bt _ ha)) with rfl | k
    · exact absurd (h1 a ha) (irr a)
    · exact k
  · rcases an.1 ((h a).2 (bt _ ha)) with rfl | k
    · exact absurd (k1 a ha) (irr a)
    · exact k
/-! ### Edges in order -/
def Mo(a b:E3):Prop:=a.1.Lt b.1∨a.1=b.1∧a.2.Lt b.2
theorem aej{b:E3}:ltE a b=true↔Mo a b:=by
 unfold ltE Mo;by_cases h:a.1=b.1
 · rw[if_neg (not_not_intro h),decide_eq_true_eq]
   exact⟨fun k=>.inr ⟨h,k⟩,fun k=>k.elim (fun k=>absurd (h▸k) (P3.lt_irrefl _)) (·.2)⟩
 · rw[if_pos h,decide_eq_true_eq]
   exact⟨.inl,fun k=>k.elim id (fun k=>absurd k.1 h)⟩
theorem Mo.irrefl(a:E3):¬Mo a a:=fun h=>h.elim (P3.lt_irrefl _) fun h=>P3.lt_irrefl _ h.2
theorem Mo.trans{b c:E3}(h:Mo a b)(k:Mo b c):Mo a c:=by
 rcases h with h | ⟨h,h'⟩
 · rcases k with k | ⟨k,_⟩
   · exact .inl (P3.lt_trans h k)
   · exact .inl (k▸h)
 · rcases k with k | ⟨k,k'⟩
   · exact .inl (h▸k)
   · exact .inr ⟨h.trans k,P3.lt_trans h' k'⟩
theorem Mo.tri(a b:E3):Mo a b∨a=b∨Mo b a:=by
 rcases P3.lt_tri a.1 b.1 with h | h | h
 · exact .inl (.inl h)
 · rcases P3.lt_tri a.2 b.2 with k | k | k
   · exact .inl (.inr ⟨h,k⟩)
   · exact .inr (.inl (Prod.ext h k))
   · exact .inr (.inr (.inr ⟨h.symm,k⟩))
 · exact .inr (.inr (.inl h))
def rK(es:List E3):Prop:=es.Pairwise Mo
theorem aaO{fs:List E3}(h:rK es)(k:rK fs)(e:∀a,a∈es↔a∈fs):es=fs:=yJ Mo.irrefl (fun _ _ _=>Mo.trans) h k e
theorem Yf{α:Type}{p:α→Bool}:∀(l:List α),l.take (l.takeWhile p).length=l.takeWhile p
 | []=>rfl
 | x::l=>by
  rw[ld];split
  · rw[aw,lc,Yf l]
  · rfl
theorem Yg{α:Type}{p:α→Bool}:∀(l:List α),l.drop (l.takeWhile p).length=l.dropWhile p
 | []=>rfl
 | x::l=>by
  rw[ld,mr];split
  · rw[aw,List.drop_succ_cons,Yg l]
  · rfl
theorem aek(es:List E3)(e:E3):acc es e=es.takeWhile (fun x=>ltE x e)++[e]++es.dropWhile (fun x=>ltE x e):=by
 unfold acc afb;rw[Yf,Yg]
theorem ahV{e:E3}:x∈acc es e↔x=e∨x∈es:=by
 rw[aek]
 conv=>rhs;rw[←la (p:=fun x=>ltE x e) (l:=es)]
 simp only[bi,bf];exact⟨fun h=>h.elim (fun h=>h.elim (fun h=>.inr (.inl h)) .inl) (fun h=>.inr (.inr h)),fun h=>h.elim (fun h=>.inl (.inr h)) (fun h=>h.elim (fun h=>.inl (.inl h)) .inr)⟩
theorem am3{e:E3}:∀{es:List E3},rK es→e∉es→∀x∈es.dropWhile (fun x=>ltE x e),Mo e x
 | [],_,_,x,h=>by cases h
 | y::ys,hs,he,x,h=>by
  obtain⟨h1,h2⟩:=br.1 hs;rw[mr] at h;split at h
  · exact am3 h2 (fun k=>he (bt _ k)) x h
  · rename_i hy
    have hy':Mo e y:=by
     rcases Mo.tri y e with k | k | k
     · exact absurd (aej.2 k) hy
     · exact absurd (k▸bu ..) he
     · exact k
    rcases an.1 h with rfl | h
    · exact hy'
    · exact hy'.trans (h1 x h)
theorem acB{α:Type}{p:α→Bool}{x:α}:∀{l:List α},x∈l.takeWhile p→p x=true
 | [],h=>by cases h
 | y::l,h=>by
  rw[ld] at h;split at h
  · rename_i hy
    rcases an.1 h with rfl | h
    · exact hy
    · exact acB h
  · cases h
theorem aqq{e:E3}  : ∀x∈es.takeWhile (fun x=>ltE x e),Mo x e:=fun x h=>aej.1 (acB (p:=fun x=>ltE x e) h)
theorem aaP{e:E3}(hs:rK es)(he:e∉es):rK (acc es e):=by
 rw[aek];have h0:=hs;rw[rK,←la (p:=fun x=>ltE x e) (l:=es)] at h0;obtain⟨h1,h2,h3⟩:=fz.1 h0;refine fz.2 ⟨fz.2 ⟨h1,List.pairwise_singleton _ _,fun x hx y hy=>?_⟩,h2,fun x hx y hy=>?_⟩
 · rw[bf.1 hy];exact aqq x hx
 · rcases bi.1 hx with hx | hx
   · exact h3 x hx y hy
   · rw[bf.1 hx];exact am3 hs he y hy
theorem uK{e:E3}:0<lV es e↔e∈es:=by
 unfold lV;rw[List.length_pos_iff_exists_mem];simp
theorem Ku{all:List E3}:∀(es out:List E3),rK out→rK (es.foldl (pV all) out)∧∀x,x∈es.foldl (pV all) out↔x∈out∨x∈es∧(x.2,x.1)∉all
 | [],out,h=>⟨h,fun x=>by simp⟩
 | e::es,out,h=>by
  have key:rK (pV all out e)∧∀x,x∈pV all out e↔x∈out∨x=e∧(x.2,x.1)∉all:=by
   unfold pV;split
   · rename_i hc
     refine⟨h,fun x=>⟨.inl,fun k=>k.elim id fun q=>?_⟩⟩;obtain⟨rfl,q⟩:=q;exact hc.elim (fun hc=>absurd (uK.1 hc) q) (fun hc=>uK.1 hc)
   · rename_i hc
     have h1:e∉out:=fun k=>hc (.inr (uK.2 k));have h2:(e.2,e.1)∉all:=fun k=>hc (.inl (uK.2 k));refine⟨aaP h h1,fun x=>ahV.trans ⟨fun k=>k.elim (fun k=>.inr ⟨k,k▸h2⟩) .inl,fun k=>k.elim .inr fun k=>.inl k.1⟩⟩
  obtain⟨i1,i2⟩:=Ku es (pV all out e) key.1;refine⟨i1,fun x=>?_⟩;rw[jd,i2,key.2,an,or_assoc];refine or_congr Iff.rfl ⟨fun k=>k.elim (fun k=>⟨.inl k.1,k.2⟩) (fun k=>⟨.inr k.1,k.2⟩),fun k=>k.1.elim (fun h=>.inl ⟨h,k.2⟩) (fun h=>.inr ⟨h,k.2⟩)⟩
theorem Tw(ts:List T3):rK (bK ts):=(Ku (all:=bE ts) (bE ts) [] kx).1
theorem acC{e:E3}:e∈bK ts↔e∈bE ts∧(e.2,e.1)∉bE ts:=by
 have:=(Ku (all:=bE ts) (bE ts) [] kx).2 e;unfold bK;rw[this];simp
/-! ### Keys put into a set -/
section
variable {K:Type} [DecidableEq K]
def fZ(D:List (K × Bool))(ks:List K):List (K × Bool):=ks.foldl (fun D k=>fP D k true) D
theorem uL:∀(ks:List K) (D:List (K × Bool)) (a:K),a∈(fZ D ks).map (·.1)↔a∈D.map (·.1)∨a∈ks
 | [],D,a=>by simp[fZ]
 | k::ks,D,a=>by
  have:=uL ks (fP D k true) a;unfold fZ at this ⊢;rw[jd,this,aaN,an,or_assoc]
theorem Fw:∀(ks:List K) (D:List (K × Bool)),(D.map (·.1)).Nodup→((fZ D ks).map (·.1)).Nodup
 | [],_,h=>h
 | k::ks,D,h=>Fw ks (fP D k true) (uH h k true)
theorem pA:∀(ks:List K) (D:List (K × Bool)),(fZ D ks).length≤D.length+ks.length
 | [],_=>av _
 | k::ks,D=>by
  have h1:=pA ks (fP D k true);have h2:=vL D k true;show (fZ (fP D k true) ks).length≤_
  rw[aw];omega
theorem Qi:∀(ks:List K) (D:List (K × Bool)) (a:K),cL (fZ D ks) a=if a∈ks then some true else cL D a
 | [],D,a=>by simp[fZ]
 | k::ks,D,a=>by
  have h:=Qi ks (fP D k true) a;show cL (fZ (fP D k true) ks) a=_
  rw[h,mG];by_cases h1:a∈ks
  · rw[if_pos h1,if_pos (bt _ h1)]
  · rw[if_neg h1]
    by_cases h2:k=a
    · rw[if_pos h2,if_pos (h2▸bu ..)]
    · rw[if_neg h2,if_neg (fun k'=>(an.1 k').elim (fun e=>h2 e.symm) h1)]
theorem ahW(D:List (K × Bool))(ks ls:List K):fZ D (ks++ls)=fZ (fZ D ks) ls:=iq ..
theorem rV(ks:List K)(a:K):(cL (fZ [] ks) a).getD false=decide (a∈ks):=by
 rw[Qi];by_cases h:a∈ks
 · rw[if_pos h,decide_eq_true h];rfl
 · rw[if_neg h,decide_eq_false h];rfl
theorem aaQ{ks:List K}{a:K}:(cL (fZ [] ks) a).getD false=true↔a∈ks:=by
 rw[Qi];by_cases h:a∈ks
 · rw[if_pos h];exact⟨fun _=>h,fun _=>rfl⟩
 · rw[if_neg h];exact⟨fun k=>(by cases k),fun k=>absurd k h⟩
end
/-! ### No edge twice -/
theorem Kv{e:E3}  : lV (x::es) e=(if x=e then 1 else 0)+lV es e:=by
 unfold lV;by_cases h:x=e
 · rw[List.filter_cons_of_pos (by simpa using h),aw,if_pos h];omega
 · rw[List.filter_cons_of_neg (by simpa using h),if_neg h];omega
theorem Vi:∀{es:List E3},es.Nodup↔∀e,lV es e≤1
 | []=>by simp[lV]
 | x::es=>by
  rw[gt,Vi (es:=es)];constructor
  · rintro⟨h1,h2⟩ e
    rw[Kv];by_cases h:x=e
    · have:¬0<lV es e:=fun k=>h1 (h▸uK.1 k)
      rw[if_pos h];omega
    · rw[if_neg h];have:=h2 e;omega
  · intro h
    refine⟨fun k=>?_,fun e=>?_⟩
    · have h1:=h x
      rw[Kv,if_pos rfl] at h1;have:=uK.2 k;omega
    · have:=h e
      rw[Kv] at this;omega
theorem Hz  : (es.any fun e=>decide (1<lV es e))=decide (¬es.Nodup):=by
 rw[Bool.eq_iff_iff,el,decide_eq_true_eq,Vi];constructor
 · rintro⟨e,_,h⟩ k
   have:=k e;simp only[decide_eq_true_eq] at h;omega
 · intro h
   obtain⟨e,he⟩:=Classical.not_forall.1 h;exact⟨e,uK.1 (by omega),by simpa using Nat.not_le.1 he⟩
theorem Fx{α:Type}{es:List α}{e:α}:(es++[e]).Nodup↔es.Nodup∧e∉es:=by
 rw[jy];constructor
 · rintro⟨h1,_,h3⟩
   exact⟨h1,fun k=>h3 e k e (by simp) O⟩
 · rintro⟨h1,h2⟩
   exact⟨h1,by simp,fun a ha b hb e'=>h2 (by rw[←bf.1 hb,←e'];exact ha)⟩
end Go.Lith
