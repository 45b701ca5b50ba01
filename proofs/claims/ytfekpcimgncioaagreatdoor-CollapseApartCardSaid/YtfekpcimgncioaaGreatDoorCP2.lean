/-
 Texts of one claim, laid together: Guard, Geo6, Open, Surf, Surf2, Lat, Chk, Facts, Facts2, Map0, Map, Map2, Nc, Vg, Vs, Cj, Vj, Sort, Sets, Box, Wa.
-/
import Derived.OpenShut
import Derived.Lib.SmallJoins
import Derived.Deep.Slices
import Derived.Test.YtfekpcimgncioaaGreatDoorProg
import Derived.Maps.RangeRun
import Derived.Shelf.SlSortCmp.WholeK
import Derived.Shelf.SlSortCmp.NoneTotal
import Derived.Test.YtfekpcimgncioaaGreatDoorCP1
open Go renaming Value→ai,World→aj,wpList→ar,TypeId→az,Program→br,Operand→bw,run_underlying→cd,wpQuiet→cw,MapEntry→c_,execOp→dm,Deferred→dz
open List renaming getElem?_eq_getElem→am,mem_cons→an,getElem?_eq_some_iff→ap,length_cons→av,length_append→aw,flatMap_append→ay,take_of_length_le→a_,mem_singleton→bf,mem_cons_of_mem→bg,mem_of_getElem?→bh,mem_append→bi,map_cons→bj,mem_cons_self→bm,length_take→bp,pairwise_cons→bt,getElem?_eq_none→bz,nil_append→b_,not_mem_nil→cg,cons_append→cn,append_assoc→cq,map_append→ct,getElem?_append_left→cu,range→df,mem_map→dh,flatMap_cons→di,getElem?_drop→dj,getElem?_append_right→dt,getElem?_take→d_,mem_flatMap→el,getD_eq_getElem?_getD→eo,append_nil→fa,getElem?_map→fb,any_eq_true→fe,length_drop→fl,ext_getElem?→fw,drop_of_length_le→gi,pairwise_append→gj,nodup_cons→gt,foldl_append→gz,getElem?_cons_succ→ic,range_succ→im,getElem?_set→jp,nodup_append→jr,foldl_cons→jx,take_zero→kf,getElem?_toArray→ky,takeWhile_append_dropWhile→ln,take_succ_cons→lp,getElem_of_mem→lq,takeWhile_cons→lu,map_eq_append_iff→mc,map_eq_cons_iff→nc,dropWhile_cons→ni,take_add_one→ob,drop_append→oq,take_append→ot
open Nat renaming le_refl→aq,zero_add→au,zero_le→cv,lt_or_ge→eu,add_sub_cancel→g_,le_of_not_lt→io,mod_lt→ji,add_mul→ke,one_mul→o_,mul_comm→qo
open Bool renaming and_eq_true→be,not_false→fh,not_true→fi,false_eq_true→me
open Go.Oper renaming mk→bu
open Go.Exit renaming inBlock→dl
open Option renaming getD_some→dq,map_some→fm,bind_some→ip,map_none→qe
open Array renaming getElem?_eq_some_iff→ee,getElem?_toList→fv,getElem?_eq_getElem→gq,mapM_eq_mapM_toList→ik,getElem?_setIfInBounds_ne→iy,getElem?_modify→j_,eraseIdxIfInBounds→ll,toList_push→oc,toList_modify→pa
open Prod.mk renaming injEq→ft
open Int renaming tmod_eq_emod_of_nonneg→i_
open List.Pairwise renaming nil→li
open List.cons renaming injEq→mg
open List.Perm renaming append_left→mo,refl→od,trans→qg
set_option linter.unusedSimpArgs false
set_option linter.unusedVariables false
set_option linter.unusedSectionVars false
namespace Go.Lith
open Go.RowKit
@[irreducible] def Us(c:Bool)(v:ai):ai:=if c then v else undef
theorem lS{v:ai}:Us true v=v:=by simp[Us]
theorem Fp{v:ai}:Us false v=undef:=by simp[Us]
theorem aY{c:Bool}{u v:ai}(hb:c=true)(h:u=Us c v):u=v:=by rw[h,hb,lS]
section
variable {P:br} {ds:List dz} {l:List ai} {x y:bw} {T ty:az} {b c:Bool} {v:ai}
theorem cC{z:bw}(hz:ev l z=.bool b)(hx:ev l x=Us b (.bool c))(hy:ev l y=.bool false):gN P l (.pick z x y) ty (.bool (b&&c)):=by
 have:=Yw (P:=P) (ty:=ty) (x:=x) (y:=y) hz;cases b with
 | false=>simpa[hy] using this
 | true=>simpa[hx,lS] using this
theorem cE{z:bw}(hz:ev l z=.bool b)(hx:ev l x=.bool true)(hy:ev l y=Us (!b) (.bool c)):gN P l (.pick z x y) ty (.bool (b||c)):=by
 have:=Yw (P:=P) (ty:=ty) (x:=x) (y:=y) hz;cases b with
 | false=>simpa[hy,lS] using this
 | true=>simpa[hx] using this
end
section
variable {P:br} {ops:Array Oper} {Q:Exit→Act→aj→Prop} {rest:List Oper} {d j:Nat} {op:Op} {ty:az} {pos:String} {after:Array Edge} {v:ai} {b:Bool} {ds:List dz} {l:List ai} {w w0:aj} {is:List It}
theorem jT(hw:yielded ops l.toArray j=some b)(hr:b=true→Bb P l op ty v w)(h:ar P ops Q rest (Fr (l.set d (Us b v)) ds) w):ar P ops Q (bu (some d) op ty pos after (some (j,true))::rest) (Fr l ds) w:=by
 cases b with
 | false=>rw[Fp] at h;exact rI hw h
 | true=>rw[lS] at h;exact eE hw (fG (hr O) h)
theorem cA(hw:yielded ops l.toArray j=some b)(hr:(!b)=true→Bb P l op ty v w)(h:ar P ops Q rest (Fr (l.set d (Us (!b) v)) ds) w):ar P ops Q (bu (some d) op ty pos after (some (j,false))::rest) (Fr l ds) w:=by
 cases b with
 | true=>rw[fi,Fp] at h;exact aeY hw h
 | false=>rw[fh,lS] at h;exact eE hw (fG (hr O) h)
theorem dA(hw:yielded ops l.toArray j=some b)(hr:b=true→gN P l op ty v)(h:ar P ops Q rest (Fr (l.set d (Us b v)) ds) w):ar P ops Q (bu (some d) op ty pos after (some (j,true))::rest) (Fr l ds) w:=jT hw (fun e=>hr e w) h
theorem bB(hw:yielded ops l.toArray j=some b)(hr:(!b)=true→gN P l op ty v)(h:ar P ops Q rest (Fr (l.set d (Us (!b) v)) ds) w):ar P ops Q (bu (some d) op ty pos after (some (j,false))::rest) (Fr l ds) w:=cA hw (fun e=>hr e w) h
theorem ae9{f:FuncId}{fo:bw}{xs:Array bw}{args:List ai}{first cap:Array ai}{a0:Array az}(m:Mem w0 w is)(hw:yielded ops l.toArray j=some b)(hf:ev l fo=.func (.func f) first cap)(hxs:b=true→first.toList++xs.toList.map (ev l)++cap.toList=args)(hc:b=true→dT P f args v)
 (h:∀u,Mem w0 u is→ar P ops Q rest (Fr (l.set d (Us b v)) ds) u):ar P ops Q (bu (some d) (.call { callee:=.value fo,args:=xs,argTypes:=a0 }) ty pos after (some (j,true))::rest) (Fr l ds) w:=by
 cases b with
 | false=>simp only[Fp] at h;exact rI hw (h w m)
 | true=>simp only[lS] at h;exact eE hw (kO m hf (hxs O) (hc O) h)
theorem Pc{f:FuncId}{fo:bw}{xs:Array bw}{args:List ai}{first cap:Array ai}{a0:Array az}(m:Mem w0 w is)(hw:yielded ops l.toArray j=some b)(hf:ev l fo=.func (.func f) first cap)(hxs:(!b)=true→first.toList++xs.toList.map (ev l)++cap.toList=args)(hc:(!b)=true→dT P f args v)
 (h:∀u,Mem w0 u is→ar P ops Q rest (Fr (l.set d (Us (!b) v)) ds) u):ar P ops Q (bu (some d) (.call { callee:=.value fo,args:=xs,argTypes:=a0 }) ty pos after (some (j,false))::rest) (Fr l ds) w:=by
 cases b with
 | true=>simp only[fi,Fp] at h;exact aeY hw (h w m)
 | false=>simp only[fh,lS] at h;exact eE hw (kO m hf (hxs O) (hc O) h)
end
section
variable {P:br} {ops:Array Oper} {Q:Act→Prop} {C:aj→Prop} {rest:List Oper} {d j:Nat} {op:Op} {ty:az} {pos:String} {after:Array Edge} {v:ai} {b:Bool} {ds:List dz} {l:List ai} {w0:aj} {is:List It}
theorem eR(hw:yielded ops l.toArray j=some b)(hr:b=true→∀u,C u→Bb P l op ty v u)(h:cw P ops C Q rest (Fr (l.set d (Us b v)) ds)):cw P ops C Q (bu (some d) op ty pos after (some (j,true))::rest) (Fr l ds):=by
 cases b with
 | false=>rw[Fp] at h;exact pL hw h
 | true=>rw[lS] at h;exact cZ hw (kN (hr O) h)
theorem pX(hw:yielded ops l.toArray j=some b)(hr:(!b)=true→∀u,C u→Bb P l op ty v u)(h:cw P ops C Q rest (Fr (l.set d (Us (!b) v)) ds)):cw P ops C Q (bu (some d) op ty pos after (some (j,false))::rest) (Fr l ds):=by
 cases b with
 | true=>rw[fi,Fp] at h;exact Hn hw h
 | false=>rw[fh,lS] at h;exact cZ hw (kN (hr O) h)
theorem dU(hw:yielded ops l.toArray j=some b)(hr:b=true→gN P l op ty v)(h:cw P ops C Q rest (Fr (l.set d (Us b v)) ds)):cw P ops C Q (bu (some d) op ty pos after (some (j,true))::rest) (Fr l ds):=eR hw (fun e u _=>hr e u) h
theorem gM(hw:yielded ops l.toArray j=some b)(hr:(!b)=true→gN P l op ty v)(h:cw P ops C Q rest (Fr (l.set d (Us (!b) v)) ds)):cw P ops C Q (bu (some d) op ty pos after (some (j,false))::rest) (Fr l ds):=pX hw (fun e u _=>hr e u) h
theorem Zm{f:FuncId}{fo:bw}{xs:Array bw}{args:List ai}{first cap:Array ai}{a0:Array az}(hw:yielded ops l.toArray j=some b)(hf:ev l fo=.func (.func f) first cap)(hxs:b=true→first.toList++xs.toList.map (ev l)++cap.toList=args)(hc:b=true→dT P f args v)
 (h:cw P ops (fun u=>Mem w0 u is) Q rest (Fr (l.set d (Us b v)) ds)):cw P ops (fun u=>Mem w0 u is) Q (bu (some d) (.call { callee:=.value fo,args:=xs,argTypes:=a0 }) ty pos after (some (j,true))::rest) (Fr l ds):=by
 cases b with
 | false=>rw[Fp] at h;exact pL hw h
 | true=>rw[lS] at h;exact cZ hw (eX hf (hxs O) (hc O) h)
theorem afa{f:FuncId}{fo:bw}{xs:Array bw}{args:List ai}{first cap:Array ai}{a0:Array az}(hw:yielded ops l.toArray j=some b)(hf:ev l fo=.func (.func f) first cap)(hxs:(!b)=true→first.toList++xs.toList.map (ev l)++cap.toList=args)(hc:(!b)=true→dT P f args v)
 (h:cw P ops (fun u=>Mem w0 u is) Q rest (Fr (l.set d (Us (!b) v)) ds)):cw P ops (fun u=>Mem w0 u is) Q (bu (some d) (.call { callee:=.value fo,args:=xs,argTypes:=a0 }) ty pos after (some (j,false))::rest) (Fr l ds):=by
 cases b with
 | true=>rw[fi,Fp] at h;exact Hn hw h
 | false=>rw[fh,lS] at h;exact cZ hw (eX hf (hxs O) (hc O) h)
end
section
variable {P:br} {ops:Array Oper} {S:aj→Prop} {Q:Exit→Act→aj→Prop} {rest:List (Oper × Bool)} {d j:Nat} {op:Op} {ty:az} {pos:String} {after:Array Edge} {v:ai} {b:Bool} {ds:List dz} {l:List ai} {w:aj}
theorem Ib(hw:yielded ops l.toArray j=some b)(hr:b=true→∀u,S u→Bb P l op ty v u)(h:bQ P ops S Q rest (Fr (l.set d (Us b v)) ds) w):bQ P ops S Q ((bu (some d) op ty pos after (some (j,true)),true)::rest) (Fr l ds) w:=by
 cases b with
 | false=>rw[Fp] at h;exact tM hw h
 | true=>rw[lS] at h;exact Bq hw (Ze (hr O) h)
theorem Ld(hw:yielded ops l.toArray j=some b)(hr:b=true→gN P l op ty v)(h:bQ P ops S Q rest (Fr (l.set d (Us b v)) ds) w):bQ P ops S Q ((bu (some d) op ty pos after (some (j,true)),true)::rest) (Fr l ds) w:=Ib hw (fun e u _=>hr e u) h
end
end Go.Lith
namespace Go.Lith
open Go.RowKit Go.ChangeShapes
variable {H:Type} {enc:az × ai→H} {P:br} {w:aj} {base:Nat} {spare:Nat→Bool} {held:Bool}
def uN(P:br):Nat→az→Bool
 | 0,_=>false
 | n+1,t=>match P.underlying t with
  | some (.int .i64)=>decide (P.cellsOf t=1)
  | some (.struct fs)=>(fs.toList.all fun f=>uN P n f.type)&&(df (P.cellsOf t)).all fun i=>fs.toList.any fun f=>decide (f.offset≤i)&&decide (i<f.offset+P.cellsOf f.type)
  | some (.array m e)=>uN P n e&&decide (P.cellsOf t=m*P.cellsOf e)
  | _=>false
theorem apU{n:Int}(h:(Lit.int .i64 n).wf=true):sP n:=by
 have:=bounds_i64 h;exact⟨by omega,by omega⟩
theorem yM:∀(n:Nat) (t:az) (m:Nat) (cs:List ai) (x:DataW H × List MemPlace),uN P n t=true→DataW.trod enc P w base spare held m t cs=some x →
 cs.length=P.cellsOf t∧∀v∈cs,∃z,v=.int .i64 z∧sP z
 | 0,t,m,cs,x,h,_=>by cases h
 | n+1,t,m,cs,x,h,hx=>by
  unfold uN at h;split at h
  · rename_i hu
    obtain⟨z,rfl,_,hz⟩:=DataW.trod_int hu hx;refine⟨by rw[of_decide_eq_true h];rfl,fun v hv=>⟨z,by simpa using hv,apU hz⟩⟩
  · rename_i fs hu
    simp only[be,List.all_eq_true,fe,decide_eq_true_eq,List.mem_range] at h;obtain⟨ys,k,_,_,hl,hlen,hf⟩:=DataW.trod_struct hu hx;refine⟨hl,fun v hv=>?_⟩;obtain⟨i,hi,rfl⟩:=lq hv;obtain⟨f,hfm,h1,h2⟩:=h.2 i (by rw[←hl];exact hi);obtain⟨j,hj,rfl⟩:=lq hfm;have hj':j<fs.size:=by simpa using hj
    have:=hf j fs[j] (gq hj');rw[am (by rw[hlen];exact hj')] at this;have hr:=(yM n _ _ _ _ (h.1 _ (List.getElem_mem hj)) this).2;refine hr _ ?_;simp only[Array.getElem_toList] at h1 h2;refine bh (i:=i-fs[j].offset) ?_;rw[d_,if_pos (by omega),dj,show fs[j].offset+(i-fs[j].offset)=i by omega];exact am hi
  · rename_i q e hu
    simp only[be,decide_eq_true_eq] at h;obtain⟨ys,k,_,_,hl,hlen,hf⟩:=DataW.trod_array hu hx;refine⟨hl,fun v hv=>?_⟩;obtain⟨i,hi,rfl⟩:=lq hv;rw[hl,h.2] at hi;have hc:0<P.cellsOf e:=by
     rcases Nat.eq_zero_or_pos (P.cellsOf e) with h0 | h0
     · rw[h0] at hi;omega
     · exact h0
    have hq:i / P.cellsOf e<q:=Nat.div_lt_of_lt_mul (by rw[qo];exact hi);have:=hf _ hq;rw[am (by rw[hlen];exact hq)] at this;have hr:=(yM n _ _ _ _ h.1 this).2;refine hr _ (bh (i:=i%P.cellsOf e) ?_);rw[d_,if_pos (ji _ hc),dj,qo,Nat.div_add_mod];exact am _
  · cases h
theorem Wj:∀(n:Nat) (cs:List ai),cs.length=n→(∀v∈cs,∃z,v=.int .i64 z∧sP z)→∃zs:List Int,zs.length=n∧cs=zs.map (.int .i64 ·)∧∀z∈zs,sP z
 | 0,[],_,_=>⟨[],rfl,rfl,fun _ h=>by cases h⟩
 | n+1,v::vs,h,hv=>by
  obtain⟨zs,h1,h2,h3⟩:=Wj n vs (by simpa using h) (fun u hu=>hv u (by simp[hu]));obtain⟨z,rfl,hz⟩:=hv v (by simp);exact⟨z::zs,by simp[h1],by simp[h2],fun u hu=>by rcases an.1 hu with rfl | hu;exact hz;exact h3 _ hu⟩
theorem ade{a:Addr}{n:Nat}{cs:List ai}(h:w.cells? base a n=some cs):mX w a cs∧base≤a.block:=by
 unfold World.cells? at h;split at h
 · rename_i hb
   refine⟨fun j u hj=>?_,hb⟩;have hl:=mapM_some_length h;have hj':j<cs.length:=(ap.1 hj).1;rw[hl] at hj';have:=mapM_some_get h j j (am hj'▸by simp);rw[this,hj]
 · cases h
theorem agm{n m:Nat}{t e:az}{fuel:Nat}{cs:List ai}{x:DataW H × List MemPlace}(hu:P.underlying t=some (.slice e))(hi:uN P n e=true)(hc:P.cellsOf e=m)(h:DataW.trod enc P w base spare held fuel t cs=some x) :
 ∃(A:Option Addr) (len cap:Nat),cs=[.slice A len cap]∧len≤cap∧cap≤maxLen∧(A=none→len=0)∧∀i,i<len→∃(a:Addr) (zs:List Int),A=some a∧base≤a.block∧mX w (a.add (i*m)) (zs.map (Value.int .i64 ·))∧zs.length=m∧∀z∈zs,sP z:=by
 rcases Deep.open_slice hu h with ⟨rfl,_⟩ | ⟨a,len,cap,k,q,D,Pl,rfl,hb,hl,hm,hk,_,hx⟩
 · exact⟨none,0,0,O,aq _,cv _,fun _=>rfl,fun i hi=>absurd hi (Nat.not_lt_zero _)⟩
 · refine⟨some a,len,cap,rfl,hl,hm,fun h=>(by cases h),fun i hi'=>?_⟩
   obtain⟨cs',h1,h2⟩:=hx i (by rw[hk];split <;> omega);obtain⟨h3,h4⟩:=yM n e q _ _ hi h2;obtain⟨zs,h5,rfl,h6⟩:=Wj m cs' (by rw[←hc];exact h3) h4;rw[hc] at h1;exact⟨a,zs,O,hb,(ade h1).1,h5,h6⟩
theorem Nj{α:Type}{p:Nat→α→Prop}:∀(n:Nat),(∀i,i<n→∃x,p i x)→∃l:List α,l.length=n∧∀i x,l[i]? = some x→p i x
 | 0,_=>⟨[],rfl,fun i x h=>by simp at h⟩
 | n+1,h=>by
  obtain⟨l,h1,h2⟩:=Nj n (fun i hi=>h i (by omega));obtain⟨x,hx⟩:=h n (by omega);refine⟨l++[x],by simp[h1],fun i y hy=>?_⟩;rcases Nat.lt_trichotomy i n with hi | hi | hi
  · exact h2 i y (by rwa [cu (by omega)] at hy)
  · subst hi
    rw[dt (by omega),h1,Nat.sub_self] at hy;cases hy;exact hx
  · rw[dt (by omega),h1] at hy
    have:i-n≠0:=by omega
    cases hd:i-n with
    | zero=>omega
    | succ j=>rw[hd] at hy;simp at hy
structure aip(w:aj)(A:Option Addr)(n:Nat)(zs:List Int):Prop where
 len:zs.length=n
 it:∀z∈zs,sP z
 row:∀i z,zs[i]? = some z→∃a,A=some a∧w.cell? (a.add i)=some (.int .i64 z)
theorem adf{n:Nat}{t e:az}{fuel:Nat}{cs:List ai}{x:DataW H × List MemPlace}(hu:P.underlying t=some (.slice e))(hi:uN P n e=true)(hc:P.cellsOf e=1)(h:DataW.trod enc P w base spare held fuel t cs=some x) :
 ∃(A:Option Addr) (len cap:Nat) (zs:List Int),cs=[.slice A len cap]∧len≤cap∧cap≤maxLen∧(A=none→len=0)∧aip w A len zs:=by
 obtain⟨A,len,cap,rfl,h1,h2,h3,h4⟩:=agm hu hi hc h;obtain⟨zs,h5,h6⟩:=Nj (p:=fun i (z:Int)=>sP z∧∃a,A=some a∧w.cell? (a.add i)=some (.int .i64 z)) len (fun i hi=>by
  obtain⟨a,zs,rfl,_,hr,hl,hz⟩:=h4 i hi
  match zs,hl with
  | [z],_=>exact⟨z,hz _ (by simp),a,rfl,by have:=hr 0 _ rfl;rwa [Nat.mul_one,jR,Nat.add_zero] at this⟩)
 refine⟨A,len,cap,zs,O,h1,h2,h3,h5,fun z hz=>?_,fun i z hz=>(h6 i z hz).2⟩;obtain⟨i,hi,rfl⟩:=lq hz;exact (h6 i _ (am hi)).1
end Go.Lith
namespace Go.Lith
open Go.RowKit
variable{n k c:Nat}{E:az}{α:Type}{w:aj}{x q y u s:P3}
theorem aoQ{n m:Int}(hm:0<m) : -m<n.tmod m∧n.tmod m<m:=by
 have h1:=Int.tmod_lt_of_pos n hm;have h2:=Int.tmod_lt_of_pos (-n) hm;rw[Int.neg_tmod] at h2;omega
theorem amA{n m:Int}(hm:0<m):(n.tmod m+m).tmod m=n%m:=by
 have hb:=aoQ (n:=n) hm;rw[i_ (by omega)];rcases Int.le_total 0 n with h | h
 · rw[i_ h]
   simp
 · have e:n.tmod m = -((-n)%m):=by
    rw[←i_ (show 0 ≤ -n by omega),Int.neg_tmod,Int.neg_neg]
   rw[e,Int.add_emod_right];have h2:=Int.emod_add_mul_ediv (-n) m;have h3 : -((-n)%m)=n+m*(-n / m):=by omega
   rw[h3,Int.add_mul_emod_self_left]
/-! ### Hills -/
theorem Nk{α β:Type}{f:α→List β}{k:Nat}:∀(l:List α),(∀x∈l,(f x).length=k)→(l.flatMap f).length=l.length*k
 | [],_=>by simp
 | x::l,h=>by
  rw[di,aw,h x (by simp),Nk l (fun y hy=>h y (by simp[hy])),av,ke,o_,Nat.add_comm]
/-! ### Cubes -/
/-! ### What the walks ask for -/
theorem aoR  : (k:Int).tmod (c:Int)=((k%c:Nat):Int):=rfl
theorem asd(ts:List T3)(k:Nat):(ts.take k).flatMap aN=(ts.flatMap aN).take (k*9):=by
 induction ts generalizing k with
 | nil=>simp
 | cons t ts ih =>
  cases k with
  | zero=>simp
  | succ k =>
   rw[lp,di,di,ih,ot,dJ,a_ (l:=aN t) (by rw[dJ];omega),show (k+1)*9-9=k*9 by omega]
theorem aiq{ts:List T3}{t u:T3}(h:ts[k]? = some t):over (ts.flatMap aN) (k*9) (aN u)=(ts.set k u).flatMap aN:=by
 induction ts generalizing k with
 | nil=>cases h
 | cons v ts ih =>
  cases k with
  | zero =>
   unfold over;rw[Nat.zero_mul,kf,b_,List.set_cons_zero,di,di,dJ,au,oq,dJ,gi (l:=aN v) (by rw[dJ];omega)];rfl
  | succ k =>
   have:=ih (k:=k) h;unfold over at this ⊢;rw[List.set_cons_succ,di,di,←this,dJ];rw[ot,dJ,a_ (l:=aN v) (by rw[dJ];omega),show (k+1)*9-9=k*9 by omega,oq,dJ,gi (l:=aN v) (by rw[dJ];omega),show (k+1)*9+9-9=k*9+9 by omega];simp only[cq,b_]
def T3.cor(t:T3)(c:Nat):P3:=if c=0 then t.a else if c=1 then t.b else t.c
def T3.setC(t:T3)(c:Nat)(p:P3):T3:=if c=0 then ⟨p,t.b,t.c⟩ else if c=1 then ⟨t.a,p,t.c⟩ else ⟨t.a,t.b,p⟩
theorem amB{t:T3}{p:P3}(hc:c<3):over (aN t) (c*3) [.int .i64 p.x,.int .i64 p.y,.int .i64 p.z]=aN (t.setC c p):=by
 have:c=0∨c=1∨c=2:=by omega
 rcases this with rfl | rfl | rfl <;> rfl
theorem agn{cs us:List ai}{off d:Nat}(h:off+k≤cs.length)(hu:us.length+d≤k):over cs (off+d) us=over cs off (over ((cs.drop off).take k) d us):=by
 have e0:((cs.drop off).take k).length=k:=by rw[bp,fl];omega
 have e1:(over ((cs.drop off).take k) d us).length=k:=by rw[Bl (by omega)];exact e0
 unfold over at e1 ⊢;rw[e1];apply fw;intro j;simp only[cq];rcases eu j off with h1 | h1
 · rw[cu (by rw[bp];omega),cu (by rw[bp];omega),d_,d_,if_pos (by omega),if_pos h1]
 · rw[dt (l₁:=cs.take off) (by rw[bp];omega)]
   have e2:(cs.take off).length=off:=by rw[bp];omega
   have e3:(cs.take (off+d)).length=off+d:=by rw[bp];omega
   rw[e2];rcases eu j (off+d) with h2 | h2
   · rw[cu (by rw[e3];exact h2),cu (by rw[bp,e0];omega),d_,d_,d_,dj,if_pos h2,if_pos (by omega),if_pos (by omega),show off+(j-off)=j by omega]
   · rw[dt (by rw[e3];exact h2),e3,dt (l₁:=((cs.drop off).take k).take d) (by rw[bp,e0];omega),bp (l:=(cs.drop off).take k),e0,Nat.min_eq_left (by omega),show j-off-d=j-(off+d) by omega]
     rcases eu (j-(off+d)) us.length with h3 | h3
     · rw[cu h3,cu h3]
     · rw[dt h3,dt h3]
       rcases eu j (off+k) with h4 | h4
       · rw[cu (by rw[fl,e0];omega),dj,dj,d_,dj,if_pos (by omega)]
         congr 1
         omega
       · rw[dt (by rw[fl,e0];omega),dj,dj,fl,e0]
         congr 1
         omega
theorem air{ts:List T3}{t:T3}{p:P3}(h:ts[k]? = some t)(hc:c<3):over (ts.flatMap aN) (k*9+c*3) [.int .i64 p.x,.int .i64 p.y,.int .i64 p.z]=(ts.set k (t.setC c p)).flatMap aN:=by
 have hk:k<ts.length:=(ap.1 h).1;have hd:=Eb ts k t h;rw[agn (k:=9) (by rw[Ec];omega) (by show 3+_≤9;omega),hd,ot,dJ,a_ (l:=aN t) (by rw[dJ];omega),show 9-9=0 from rfl,kf,fa,amB hc,aiq h]
section
variable {w0 w:aj} {S:List (Option Nat)} {E:az} {n cap:Nat} {A:Option Addr} {ts:List T3}
theorem mX.cor{a:Addr}{t:T3}{c:Nat}(h:mX w a (aN t))(hc:c<3):mX w (a.add (c*3)) [.int .i64 (t.cor c).x,.int .i64 (t.cor c).y,.int .i64 (t.cor c).z]:=by
 have:=(h.sub (c*3)).take 3;have e:c=0∨c=1∨c=2:=by omega
 rcases e with rfl | rfl | rfl <;> exact this
theorem bV.take{N k:Nat}(h:bV w A N ts)(hk:k≤N):bV w A k (ts.take k) :=
 ⟨by rw[bp,h.len];omega,fun t ht=>h.it t (List.mem_of_mem_take ht),fun i t ht=>h.row i t (by rw[d_] at ht;split at ht;exact ht;cases ht)⟩
end
section
variable {α:Type} {enc:α→List ai} {c:Nat} {w w':aj} {A:Option Addr} {n:Nat} {xs:List α}
structure vJ(enc:α→List ai)(c:Nat)(w:aj)(A:Option Addr)(n:Nat)(xs:List α):Prop where
 len:xs.length=n
 row:∀i x,xs[i]? = some x→∃a,A=some a∧mX w (a.add (i*c)) (enc x)
theorem vJ.ext(h:vJ enc c w A n xs)(hE:fQ w w'):vJ enc c w' A n xs:=⟨h.len,fun i x hi=>let ⟨a,e,hr⟩:=h.row i x hi;⟨a,e,hr.ext hE⟩⟩
theorem vJ.get(h:vJ enc c w A n xs){i:Nat}(hi:i<n):∃x,xs[i]? = some x∧∃a,A=some a∧mX w (a.add (i*c)) (enc x):=by
 have hl:i<xs.length:=by rw[h.len];exact hi
 exact⟨xs[i],am hl,h.row i _ (am hl)⟩
theorem vJ.at{a:Addr}(h:vJ enc c w (some a) n xs){i:Nat}{x:α}(hx:xs[i]? = some x):mX w (a.add (i*c)) (enc x):=by
 obtain⟨b,e,hr⟩:=h.row i x hx;cases e;exact hr
theorem vJ.take(h:vJ enc c w A n xs){k:Nat}(hk:k≤n):vJ enc c w A k (xs.take k) :=
 ⟨by rw[bp,h.len];omega,fun i x hx=>h.row i x (by rw[d_] at hx;split at hx;exact hx;cases hx)⟩
theorem kB(hc:∀x,(enc x).length=c):∀xs:List α,(xs.flatMap enc).length=xs.length*c
 | []=>by simp
 | x::xs=>by rw[di,aw,hc,kB hc xs,av,ke,o_,Nat.add_comm]
theorem yN(hc:∀x,(enc x).length=c):∀(xs:List α) (k:Nat),(xs.drop k).flatMap enc=(xs.flatMap enc).drop (k*c)
 | xs,0=>by simp
 | [],k+1=>by simp
 | x::xs,k+1=>by
  rw[List.drop_succ_cons,di,yN hc xs k,oq,hc,gi (l:=enc x) (by rw[hc,ke];omega),ke,o_,g_,b_]
theorem Qz(hc:∀x,(enc x).length=c):∀(xs:List α) (k:Nat),(xs.take k).flatMap enc=(xs.flatMap enc).take (k*c)
 | xs,0=>by simp
 | [],k+1=>by simp
 | x::xs,k+1=>by
  rw[lp,di,di,Qz hc xs k,ot,hc,a_ (l:=enc x) (by rw[hc,ke];omega),ke,o_,g_]
theorem Ra(hc:∀x,(enc x).length=c){xs:List α}{i:Nat}{x:α}(h:xs[i]? = some x):(xs.flatMap enc).drop (i*c)=enc x++(xs.drop (i+1)).flatMap enc:=by
 rw[←yN hc,List.drop_eq_getElem_cons (ap.1 h).1,di,(ap.1 h).2]
theorem Ow.at{w0:aj}{S:List (Option Nat)}{cap g i:Nat}{x:α}(hc:∀x,(enc x).length=c)(h:Ow w0 w S E c (Option.some ⟨g,0,none⟩) n cap (xs.flatMap enc))(hx:xs[i]? = Option.some x):mX w ((⟨g,0,none⟩:Addr).add (i*c)) (enc x):=by
 intro j u hj;have hj':j<(enc x).length:=(ap.1 hj).1;rw[jR];refine h.rows _ _ ?_;rw[←dj,Ra hc hx,cu hj'];exact hj
theorem Ow.num{w0:aj}{S:List (Option Nat)}{cap:Nat}(hc:∀x,(enc x).length=c)(h0:0<c)(h:Ow w0 w S E c A n cap (xs.flatMap enc)):xs.length=n:=by
 have:=h.own.1;rw[kB hc] at this;exact Nat.eq_of_mul_eq_mul_right h0 this
theorem Ow.lat{w0:aj}{S:List (Option Nat)}{cap:Nat}(hc:∀x,(enc x).length=c)(h0:0<c)(h:Ow w0 w S E c A n cap (xs.flatMap enc)):vJ enc c w A n xs :=
 ⟨h.num hc h0,fun i x hx=>by
  have hi:=(ap.1 hx).1;have hn:=h.num hc h0;obtain⟨g,rfl⟩:=h.some (by omega);exact⟨_,O,h.at hc hx⟩⟩
theorem vJ.cells(hc:∀x,(enc x).length=c)(h0:0<c)(h:vJ enc c w A n xs):∀j u,(xs.flatMap enc)[j]? = some u→∃a,A=some a∧w.cell? (a.add j)=some u:=fun j u hj=>by
 have hj':=(ap.1 hj).1;rw[kB hc] at hj';have hi:j / c<xs.length:=(Nat.div_lt_iff_lt_mul h0).2 hj';obtain⟨a,rfl,hr⟩:=h.row (j / c) _ (am hi);refine⟨a,O,?_⟩;have hm:=ji j h0;have e:j=j / c*c+j%c:=by rw[qo];exact (Nat.div_add_mod j c).symm
 have:=hr (j%c) u (by
  rw[e,←dj,Ra hc (am hi),cu (by rw[hc];exact hm)] at hj;exact hj)
 rw[jR,←e] at this;exact this
theorem vJ.cellsD(hc:∀x,(enc x).length=c)(h0:0<c)(h:vJ enc c w A n xs){cap q:Nat}(hcap:n≤cap):∀j u,((xs.drop q).flatMap enc)[j]? = some u→∃a,(if cap=q then A else A.map (·.add (q*c)))=some a∧w.cell? (a.add j)=some u:=fun j u hj=>by
 rw[yN hc,dj] at hj;have hl:=(ap.1 hj).1;rw[kB hc,h.len] at hl;obtain⟨a,rfl,hcl⟩:=h.cells hc h0 _ _ hj;have:q<n:=by
  refine Nat.lt_of_mul_lt_mul_right (a:=c) ?_;omega
 rw[if_neg (by omega)];exact⟨_,O,by rw[jR];exact hcl⟩
end
theorem cJ{ps:List α}{p:α}(h:ps[k]? = some p):ps.take (k+1)=ps.take k++[p]:=by
 rw[ob,h];rfl
abbrev E3:=P3 × P3
variable{es:List E3}
def dD(e:E3):List ai:=[.int .i64 e.1.x,.int .i64 e.1.y,.int .i64 e.1.z,.int .i64 e.2.x,.int .i64 e.2.y,.int .i64 e.2.z]
def ed(e:E3):ai:=.agg #[.int .i64 e.1.x,.int .i64 e.1.y,.int .i64 e.1.z,.int .i64 e.2.x,.int .i64 e.2.y,.int .i64 e.2.z]
def lA(p:P3):List ai:=[.int .i64 p.x,.int .i64 p.y,.int .i64 p.z]
theorem bV.lat{A:Option Addr}{ts:List T3}(h:bV w A n ts):vJ aN 9 w A n ts:=⟨h.len,h.row⟩
theorem Zn(es:List E3):∀u∈es.flatMap dD,u.oneCell'=true:=fun u hu=>by
 obtain⟨e,_,h⟩:=el.1 hu;simp only[dD,an,cg,or_false] at h;rcases h with rfl | rfl | rfl | rfl | rfl | rfl <;> rfl
theorem Rb(ps:List P3):∀u∈ps.flatMap lA,u.oneCell'=true:=fun u hu=>by
 obtain⟨e,_,h⟩:=el.1 hu;simp only[lA,an,cg,or_false] at h;rcases h with rfl | rfl | rfl <;> rfl
theorem ais(t:T3):(aN t).length=9:=rfl
theorem Oq(e:E3):(dD e).length=6:=rfl
theorem yO(p:P3):(lA p).length=3:=rfl
def aX(ts:List T3):List E3:=ts.flatMap fun t=>[(t.a,t.b),(t.b,t.c),(t.c,t.a)]
theorem uO{ts:List T3}{t:T3}(h:ts[k]? = some t):aX (ts.take (k+1))=aX (ts.take k)++[(t.a,t.b),(t.b,t.c),(t.c,t.a)]:=by
 unfold aX;rw[cJ h,ay];simp
theorem uC(ts:List T3):(aX ts).length=ts.length*3:=Nk ts fun _ _=>rfl
def lV(es:List E3)(e:E3):Nat:=(es.filter fun x=>decide (x=e)).length
theorem abi{x e:E3}(h:es[k]? = some x):lV (es.take (k+1)) e=lV (es.take k) e+if x=e then 1 else 0:=by
 unfold lV;rw[cJ h,List.filter_append,aw];by_cases hx:x=e <;> simp[hx]
theorem apV{e:E3}:lV es e≤es.length:=List.length_filter_le _ _
theorem adg{is:List α}{i:α}(h:is[k]? = some i):is.set k i=is:=by
 apply fw;intro j;rw[jp];split
 · rename_i e
   subst e;rw[if_pos (ap.1 h).1,h]
 · rfl
theorem Le{α:Type}:∀(l:List α) (j:Nat) (x:α),l[j]? = some x→(x::l.eraseIdx j).Perm l
 | [],j,x,h=>by cases h
 | y::l,0,x,h=>by cases h;exact .refl _
 | y::l,j+1,x,h=>((List.Perm.swap y x _)).trans ((Le l j x h).cons y)
theorem Mem.pull{w0:aj}{is:List It}(m:Mem w0 w is)(j:Nat){x:It}(hj:is[j]? = some x):Mem w0 w (x::is.eraseIdx j):=by
 have hp:=Le is j x hj;exact⟨m.ext,fun i hi=>m.all i (hp.mem_iff.1 hi),fun i hi=>m.ge i (hp.mem_iff.1 hi),(hp.pairwise_iff (fun {a b} (h:Ap a b)=>h.symm)).2 m.nd⟩
theorem Mem.mv{w0:aj}{is:List It}{y:It}(m:Mem w0 w (y::is))(k:Nat){x:It}(hk:is[k]? = some x):Mem w0 w (is.set k y):=by
 obtain⟨h1,h2⟩:=bt.1 m.nd;have hm:∀i∈is.set k y,i∈y::is:=fun i hi=>(List.mem_or_eq_of_mem_set hi).elim (bg _) (fun e=>e▸bm);exact⟨m.ext,fun i hi=>m.all i (hm i hi),fun i hi=>m.ge i (hm i hi),adc is k h2 hk fun x hx _=>h1 x hx⟩
theorem dY{a:α}{l:List α}:(a::l).eraseIdx 0=l:=rfl
theorem dZ{a:α}{l:List α}  : (a::l).eraseIdx (n+1)=a::l.eraseIdx n:=rfl
def SL(E:az)(c:Nat)(cs:List ai)(n:Nat)(w:aj)(v:ai)(w':aj):Prop:=∃A cap n',n'=n∧v=.slice A n' cap∧Ow w w' [] E c A n' cap cs
/-! ### Points put into a sorted list -/
def abj(ps:List P3)(p:P3):Nat:=(ps.takeWhile fun x=>decide (x.Lt p)).length
def gK(ps:List P3)(p:P3):List P3:=if ps[abj ps p]? = some p then ps else ps.take (abj ps p)++[p]++ps.drop (abj ps p)
def dR(ts:List T3):List P3:=ts.foldl (fun ps t=>gK (gK (gK ps t.a) t.b) t.c) []
theorem Ic{ts:List T3}{t:T3}(h:ts[k]? = some t):dR (ts.take (k+1))=gK (gK (gK (dR (ts.take k)) t.a) t.b) t.c:=by
 unfold dR;rw[cJ h,gz];rfl
theorem xC(ps:List P3)(p:P3):(gK ps p).length≤ps.length+1:=by
 unfold gK;split
 · omega
 · simp;omega
theorem Nl(ts:List T3):(dR ts).length≤ts.length*3:=by
 have:∀(ts:List T3) (ps:List P3),(ts.foldl (fun ps t=>gK (gK (gK ps t.a) t.b) t.c) ps).length≤ps.length+ts.length*3:=by
  intro ts
  induction ts with
  | nil=>intro ps;simp
  | cons t ts ih =>
   intro ps;have h1:=ih (gK (gK (gK ps t.a) t.b) t.c);have h2:=xC ps t.a;have h3:=xC (gK ps t.a) t.b;have h4:=xC (gK (gK ps t.a) t.b) t.c;rw[jx,av];omega
 have:=this ts [];simpa[dR] using this
section
variable {α:Type} {p:α→Bool} {l:List α} {k:Nat}
theorem aoS(h:∀j x,j<k→l[j]? = some x→p x=true)(hk:k≤l.length):k≤(l.takeWhile p).length:=by
 induction l generalizing k with
 | nil=>simp at hk;omega
 | cons x l ih =>
  cases k with
  | zero=>omega
  | succ k =>
   have hx:=h 0 x (by omega) rfl;rw[lu,if_pos hx,av];have:=ih (k:=k) (fun j y hj hy=>h (j+1) y (by omega) (by simpa using hy)) (by simp at hk;omega);omega
theorem asv{x:α}(hx:l[k]? = some x)(h:p x=false):(l.takeWhile p).length≤k:=by
 induction l generalizing k with
 | nil=>cases hx
 | cons y l ih =>
  rw[lu];split
  · cases k with
    | zero =>
     rename_i hy;cases hx;rw[h] at hy;cases hy
    | succ k =>
     rw[av];have:=ih (k:=k) (by simpa using hx);omega
  · simp
theorem apW:(l.takeWhile p).length≤l.length:=(List.takeWhile_sublist p).length_le
theorem aoT{x:α}(h:∀j x,j<k→l[j]? = some x→p x=true)(hx:l[k]? = some x)(h2:p x=false):(l.takeWhile p).length=k:=Nat.le_antisymm (asv hx h2) (aoS h (Nat.le_of_lt (ap.1 hx).1))
theorem ait(h:∀j x,j<l.length→l[j]? = some x→p x=true):(l.takeWhile p).length=l.length:=Nat.le_antisymm apW (aoS h (aq _))
def Pre(p:α→Bool)(l:List α)(k:Nat):Prop:=∀j x,j<k→l[j]? = some x→p x=true
theorem Pre.zero:Pre p l 0:=fun j _ hj=>by omega
theorem Pre.step{x:α}(h:Pre p l k)(hx:l[k]? = some x)(hp:p x=true):Pre p l (k+1):=fun j y hj hy=>by
 rcases eu j k with h1 | h1
 · exact h j y h1 hy
 · obtain rfl:j=k:=by omega
   rw[hx] at hy;cases hy;exact hp
end
/-! ### The border -/
def ltE(a b:E3):Bool:=if a.1≠b.1 then decide (a.1.Lt b.1) else decide (a.2.Lt b.2)
def ago(es:List E3)(e:E3):Nat:=(es.takeWhile fun x=>ltE x e).length
def adh(es:List E3)(e:E3):List E3:=es.take (ago es e)++[e]++es.drop (ago es e)
def pY(all:List E3)(out:List E3)(e:E3):List E3:=if 0<lV all (e.2,e.1)∨0<lV out e then out else adh out e
def cN(ts:List T3):List E3:=(aX ts).foldl (pY (aX ts)) []
theorem agp{all:List E3}{e:E3}(h:es[k]? = some e):(es.take (k+1)).foldl (pY all) []=pY all ((es.take k).foldl (pY all) []) e:=by
 rw[cJ h,gz];rfl
theorem Rc{all:List E3}:∀(es out:List E3),(es.foldl (pY all) out).length≤out.length+es.length
 | [],out=>by simp
 | e::es,out=>by
  have h1:=Rc (all:=all) es (pY all out e);have h2:(pY all out e).length≤out.length+1:=by
   unfold pY adh;split
   · omega
   · simp;omega
  rw[jx,av];omega
/-! ### Pinched corners -/
def T3.fnd(t:T3)(p q:P3):Option P3:=if t.a=p∧t.b=q then some t.c else if t.b=p∧t.c=q then some t.a else if t.c=p∧t.a=q then some t.b else none
variable{ts ms:List T3}{t:T3}
def bS:List T3→P3→P3→Option P3
 | [],_,_=>none
 | t::ts,p,q=>match t.fnd p q with
  | some x=>some x
  | none=>bS ts p q
theorem vR{p:P3}(h:ts[k]? = some t)(h0:bS (ts.take k) p q=none):bS (ts.take (k+1)) p q=t.fnd p q:=by
 rw[cJ h];clear h;generalize ts.take k=us at h0 ⊢
 induction us with
 | nil=>simp only[b_,bS];cases t.fnd p q <;> rfl
 | cons u us ih =>
  rw[cn];simp only[bS] at h0 ⊢;cases hu:u.fnd p q with
  | some x=>rw[hu] at h0;cases h0
  | none=>rw[hu] at h0;exact ih h0
theorem Ce{p:P3}(h:bS (ts.take k) p q=some x):bS ts p q=some x:=by
 induction ts generalizing k with
 | nil=>simp[bS] at h
 | cons u us ih =>
  cases k with
  | zero=>simp[bS] at h
  | succ k =>
   rw[lp] at h;unfold bS at h ⊢;cases hu:u.fnd p q with
   | some y=>rw[hu] at h;exact h
   | none=>rw[hu] at h;exact ih h
def Re(p:P3)(t:T3)(c:Nat):List T3:=if t.cor c=p then [t] else []
def xD(p:P3)(t:T3)(c:Nat):List T3:=(df c).flatMap (Re p t)
def oH(ts:List T3)(p:P3):List T3:=ts.flatMap fun t=>xD p t 3
def Rf(p:P3)(t:T3)(c:Nat):List P3:=if t.cor c=p then [t.cor ((c+1)%3)] else []
def Cf(p:P3)(t:T3)(c:Nat):List P3:=(df c).flatMap (Rf p t)
def uP(ts:List T3)(p:P3):List P3:=ts.flatMap fun t=>Cf p t 3
theorem Rg(p:P3)(t:T3)(c:Nat):xD p t (c+1)=xD p t c++Re p t c:=by simp[xD,im]
theorem Nm(p:P3)(t:T3)(c:Nat):Cf p t (c+1)=Cf p t c++Rf p t c:=by simp[Cf,im]
theorem agq{p:P3}(h:ts[k]? = some t):oH (ts.take (k+1)) p=oH (ts.take k) p++xD p t 3:=by
 unfold oH;rw[cJ h,ay];simp
theorem adi{p:P3}(h:ts[k]? = some t):uP (ts.take (k+1)) p=uP (ts.take k) p++Cf p t 3:=by
 unfold uP;rw[cJ h,ay];simp
def Fq(ts:List T3)(p:P3)(k:Nat)(t:T3)(c:Nat):List T3:=oH (ts.take k) p++xD p t c
def wL(ts:List T3)(p:P3)(k:Nat)(t:T3)(c:Nat):List P3:=uP (ts.take k) p++Cf p t c
theorem agr{p:P3}(h:t.cor c=p):Fq ts p k t (c+1)=Fq ts p k t c++[t]:=by
 unfold Fq;rw[Rg,Re,if_pos h,cq]
theorem aiu{p:P3}(h:¬t.cor c=p):Fq ts p k t (c+1)=Fq ts p k t c:=by
 unfold Fq;rw[Rg,Re,if_neg h,fa]
theorem adj{p:P3}(h:t.cor c=p):wL ts p k t (c+1)=wL ts p k t c++[t.cor ((c+1)%3)]:=by
 unfold wL;rw[Nm,Rf,if_pos h,cq]
theorem ags{p:P3}(h:¬t.cor c=p):wL ts p k t (c+1)=wL ts p k t c:=by
 unfold wL;rw[Nm,Rf,if_neg h,fa]
theorem amD{p:P3}   : Fq ts p k t 0=oH (ts.take k) p:=by simp[Fq,xD]
theorem aiv{p:P3}   : wL ts p k t 0=uP (ts.take k) p:=by simp[wL,Cf]
theorem amE{p:P3}(h:ts[k]? = some t):Fq ts p k t 3=oH (ts.take (k+1)) p:=by rw[agq h];rfl
theorem aiw{p:P3}(h:ts[k]? = some t):wL ts p k t 3=uP (ts.take (k+1)) p:=by rw[adi h];rfl
theorem yP  : (x.x=y.x∧x.y=y.y∧x.z=y.z)↔x=y:=⟨fun h=>P3.eq h.1 h.2.1 h.2.2,fun h=>by rw[h];exact⟨rfl,rfl,rfl⟩⟩
theorem Pd{v:P3}:(decide (x.x=y.x∧x.y=y.y∧x.z=y.z)&&decide (u.x=v.x∧u.y=v.y∧u.z=v.z))=true↔x=y∧u=v:=by
 rw[be,decide_eq_true_eq,decide_eq_true_eq,yP,yP]
theorem adk{v:P3}(h:(decide (x.x=y.x∧x.y=y.y∧x.z=y.z)&&decide (u.x=v.x∧u.y=v.y∧u.z=v.z))=false):¬(x=y∧u=v):=fun k=>by
 rw[Pd.2 k] at h;cases h
theorem aue{p:P3}(h:t.cor 0=p∧t.cor 1=q):t.fnd p q=some (t.cor 2):=if_pos h
theorem auf{p:P3}(h0:¬(t.cor 0=p∧t.cor 1=q))(h:t.cor 1=p∧t.cor 2=q):t.fnd p q=some (t.cor 0):=(if_neg h0).trans (if_pos h)
theorem aug{p:P3}(h0:¬(t.cor 0=p∧t.cor 1=q))(h1:¬(t.cor 1=p∧t.cor 2=q))(h:t.cor 2=p∧t.cor 0=q):t.fnd p q=some (t.cor 1):=(if_neg h0).trans ((if_neg h1).trans (if_pos h))
theorem auh{p:P3}(h0:¬(t.cor 0=p∧t.cor 1=q))(h1:¬(t.cor 1=p∧t.cor 2=q))(h2:¬(t.cor 2=p∧t.cor 0=q)):t.fnd p q=none:=(if_neg h0).trans ((if_neg h1).trans (if_neg h2))
def oJ(ms:List T3)(p s:P3):Nat→P3→Bool
 | 0,_=>false
 | n+1,at_=>match bS ms p at_ with
  | none=>false
  | some x=>if x=s then true else oJ ms p s n x
theorem Wk{p:P3}(h:bS ms p x=none):oJ ms p s n x=false:=by
 cases n with
 | zero=>rfl
 | succ n=>simp only[oJ,h]
theorem abk{p:P3}(h:bS ms p x=some s):oJ ms p s (n+1) x=true:=by simp[oJ,h]
theorem Wl{p:P3}(h:bS ms p x=some y)(hy:¬y=s):oJ ms p s (n+1) x=oJ ms p s n y:=by simp[oJ,h,hy]
def Ie(ts:List T3)(p:P3):Bool:=(uP ts p).any fun s=>oJ (oH ts p) p s ((oH ts p).length-1) s
def rX(t:T3):Bool:=decide (t.a=t.b)||decide (t.b=t.c)||decide (t.c=t.a)
theorem Zo  : (decide (t.a.x=t.b.x∧t.a.y=t.b.y∧t.a.z=t.b.z)||decide (t.b.x=t.c.x∧t.b.y=t.c.y∧t.b.z=t.c.z)||decide (t.c.x=t.a.x∧t.c.y=t.a.y∧t.c.z=t.a.z))=rX t:=by
 simp only[yP,rX]
def fH(op:Bool)(ts:List T3):Int :=
 if ts.any rX then 20 else if (aX ts).any (fun e=>decide (1<lV (aX ts) e)) then 21
 else if !op&&decide (0<(cN ts).length) then 22 else if (dR ts).any (Ie ts) then 23 else 0
theorem xE{p:α→Bool}{l:List α}{x:α}(hx:l[k]? = some x):(l.take (k+1)).any p=((l.take k).any p||p x):=by
 rw[cJ hx,List.any_append];simp
theorem If{p:α→Bool}{l:List α}{x:α}(hx:l[k]? = some x)(h:p x=true):l.any p=true:=fe.2 ⟨x,bh hx,h⟩
end Go.Lith
namespace Go.Proofs.YtfekpcimgncioaaGreatDoor
open Go.Proofs.Tryz
open Go.RowKit Go.Lith
variable{v0 v1 v2 A B C D E F G H I:ai}{l:List ai}{ty T':az}{x0 x1 x2 x3 y0 y1 y2 y3 x4 y4 x5 y5 x6 y6 x7 y7 x8 y8:Int}{x y:bw}
abbrev nY:=@underlying107
abbrev yQ:=@underlying112
abbrev uQ:=@underlying215
abbrev nZ:=@underlying218
abbrev lH:=@underlying231
abbrev Lf:=@underlying257
abbrev cH:=@underlying27
abbrev jE:=@underlying3
abbrev fT:=@underlying30
abbrev oT:=@underlying300
abbrev qR:=@underlying36
abbrev cM:=@underlying39
abbrev Va:=@underlying4
abbrev pZ:=@underlying52
abbrev Nn:=@underlying56
abbrev cT:=@underlying65
abbrev pI:=@underlying9
abbrev Rh:=@underlying93
abbrev No:=@underlying97
abbrev Ri:=@underlying99
set_option maxRecDepth 100000
theorem aC:prog.follows .mixedOrders=true:=by kernel_rfl
theorem afc:Entr prog 82:=bK func82 (by kernel_rfl)
theorem adl:Entr prog 114:=bK func114 (by kernel_rfl)
theorem aix:Entr prog 119:=bK func119 (by kernel_rfl)
theorem aiy:Entr prog 125:=bK func125 (by kernel_rfl)
theorem adm:Entr prog 128:=bK func128 (by kernel_rfl)
theorem aiz:Entr prog 129:=bK func129 (by kernel_rfl)
theorem aiA:Entr prog 195:=bK func195 (by kernel_rfl)
theorem Zp:Entr prog 235:=bK func235 (by kernel_rfl)
theorem aiB:Entr prog 276:=bK func276 (by kernel_rfl)
theorem aiC:Entr prog 277:=bK func277 (by kernel_rfl)
theorem aiD:Entr prog 278:=bK func278 (by kernel_rfl)
theorem adn:Entr prog 336:=bK func336 (by kernel_rfl)
theorem aiE:Entr prog 337:=bK func337 (by kernel_rfl)
theorem aU:dO prog 3 1:=eB (by kernel_rfl)
theorem bD:eU prog 3 false:=dP _ jE rfl
theorem lW:oD prog 3 (.int .i64 0):=kV (by kernel_rfl)
theorem tA:(prog.info? 3).map (fun i=>(i.size,i.bytes,i.zero))=some (1,8,some (.int .i64 0)):=by kernel_rfl
theorem eK:dO prog 4 1:=eB (by kernel_rfl)
theorem pB:eU prog 4 false:=dP _ Va rfl
theorem oU:oD prog 4 (.bool false):=kV (by kernel_rfl)
theorem aoU:(prog.info? 4).map (fun i=>(i.size,i.bytes,i.zero))=some (1,1,some (.bool false)):=by kernel_rfl
theorem Wm:(prog.info? 5).map (fun i=>(i.size,i.bytes,i.zero))=some (1,1,some (.int .u8 0)):=by kernel_rfl
theorem amF:dO prog 9 1:=eB (by kernel_rfl)
theorem aoV:eU prog 9 false:=dP _ pI rfl
theorem apX:eU prog 24 true:=dP _ underlying24 rfl
theorem gH:dO prog 27 1:=eB (by kernel_rfl)
theorem sQ:eU prog 27 false:=dP _ cH rfl
theorem afd:oD prog 27 (.slice none 0 0):=kV (by kernel_rfl)
theorem aA:dO prog 30 3:=eB (by kernel_rfl)
theorem aH:eU prog 30 true:=dP _ fT rfl
theorem iW:oD prog 30 (.agg #[.int .i64 0,.int .i64 0,.int .i64 0]):=kV (by kernel_rfl)
theorem oV:(prog.info? 30).map (fun i=>(i.size,i.bytes,i.zero))=some (3,24,some (.agg #[.int .i64 0,.int .i64 0,.int .i64 0])):=by kernel_rfl
theorem jC:dO prog 36 3:=eB (by kernel_rfl)
theorem uR:eU prog 36 true:=dP _ qR rfl
theorem Ed:oD prog 36 (.agg #[.int .i64 0,.int .i64 0,.int .i64 0]):=kV (by kernel_rfl)
theorem aiF:dO prog 38 9:=eB (by kernel_rfl)
theorem apY:eU prog 38 true:=dP _ underlying38 rfl
theorem aP:dO prog 39 9:=eB (by kernel_rfl)
theorem cF:eU prog 39 true:=dP _ cM rfl
theorem amG:oD prog 39 (.agg #[.int .i64 0,.int .i64 0,.int .i64 0,.int .i64 0,.int .i64 0,.int .i64 0,.int .i64 0,.int .i64 0,.int .i64 0]):=kV (by kernel_rfl)
theorem jK:(prog.info? 39).map (fun i=>(i.size,i.bytes,i.zero))=some (9,72,some (.agg #[.int .i64 0,.int .i64 0,.int .i64 0,.int .i64 0,.int .i64 0,.int .i64 0,.int .i64 0,.int .i64 0,.int .i64 0])):=by kernel_rfl
theorem Ig:dO prog 55 6:=eB (by kernel_rfl)
theorem aiG:eU prog 55 true:=dP _ underlying55 rfl
theorem amH:oD prog 55 (.agg #[.int .i64 0,.int .i64 0,.int .i64 0,.int .i64 0,.int .i64 0,.int .i64 0]):=kV (by kernel_rfl)
theorem aiH:(prog.info? 55).map (fun i=>(i.size,i.bytes,i.zero))=some (6,48,some (.agg #[.int .i64 0,.int .i64 0,.int .i64 0,.int .i64 0,.int .i64 0,.int .i64 0])):=by kernel_rfl
theorem jQ:dO prog 56 6:=eB (by kernel_rfl)
theorem Gn:eU prog 56 true:=dP _ Nn rfl
theorem Cg:(prog.info? 56).map (fun i=>(i.size,i.bytes,i.zero))=some (6,48,some (.agg #[.int .i64 0,.int .i64 0,.int .i64 0,.int .i64 0,.int .i64 0,.int .i64 0])):=by kernel_rfl
theorem aiI:dO prog 62 1:=eB (by kernel_rfl)
theorem aiJ:dO prog 65 1:=eB (by kernel_rfl)
theorem aiK:eU prog 65 false:=dP _ cT rfl
theorem Rj:dO prog 88 1:=eB (by kernel_rfl)
theorem Zq:eU prog 88 false:=dP _ underlying88 rfl
theorem aiL:eU prog 93 false:=dP _ Rh rfl
theorem aQ:dO prog 95 2:=eB (by kernel_rfl)
theorem cI:eU prog 95 true:=dP _ underlying95 rfl
theorem yR:oD prog 95 (.agg #[.bool false,.string ⟨#[]⟩]):=kV (by kernel_rfl)
theorem kX:dO prog 97 20:=eB (by kernel_rfl)
theorem yS:eU prog 97 true:=dP _ No rfl
theorem amI:oD prog 97 (.agg #[.bool false,.string ⟨#[]⟩,.bool false,.string ⟨#[]⟩,.bool false,.string ⟨#[]⟩,.bool false,.string ⟨#[]⟩,.bool false,.string ⟨#[]⟩,.bool false,.string ⟨#[]⟩,.bool false,.string ⟨#[]⟩,.bool false,.string ⟨#[]⟩,.bool false,.string ⟨#[]⟩,.bool false,.string ⟨#[]⟩]):=kV (by kernel_rfl)
theorem apZ:eU prog 99 false:=dP _ Ri rfl
theorem afe:eU prog 106 false:=dP _ underlying106 rfl
theorem Ee:dO prog 107 1:=eB (by kernel_rfl)
theorem tP:eU prog 107 false:=dP _ nY rfl
theorem qY:dO prog 112 8:=eB (by kernel_rfl)
theorem Ih:eU prog 112 true:=dP _ yQ rfl
theorem aiM:oD prog 112 (.agg #[.int .i64 0,.int .i64 0,.int .i64 0,.int .i64 0,.int .i64 0,.int .i64 0,.bool false,.string ⟨#[]⟩]):=kV (by kernel_rfl)
theorem amJ:(prog.info? 112).map (fun i=>(i.size,i.bytes,i.zero))=some (8,72,some (.agg #[.int .i64 0,.int .i64 0,.int .i64 0,.int .i64 0,.int .i64 0,.int .i64 0,.bool false,.string ⟨#[]⟩])):=by kernel_rfl
theorem Lg:dO prog 139 2:=eB (by kernel_rfl)
theorem amK:eU prog 139 true:=dP _ underlying139 rfl
theorem Rk:oD prog 139 (.agg #[.int .i64 0,.slice none 0 0]):=kV (by kernel_rfl)
theorem agt:dO prog 168 8:=eB (by kernel_rfl)
theorem abl:oD prog 168 (.agg #[.bool false,.string ⟨#[]⟩,.bool false,.string ⟨#[]⟩,.bool false,.string ⟨#[]⟩,.bool false,.string ⟨#[]⟩]):=kV (by kernel_rfl)
theorem qZ:dO prog 215 6:=eB (by kernel_rfl)
theorem Ef:eU prog 215 true:=dP _ uQ rfl
theorem amL:(prog.info? 215).map (fun i=>(i.size,i.bytes,i.zero))=some (6,48,some (.agg #[.int .i64 0,.int .i64 0,.int .i64 0,.int .i64 0,.int .i64 0,.int .i64 0])):=by kernel_rfl
theorem aiN:oD prog 218 (.agg #[.pointer none,.int .i64 0,.int .i64 0,.int .i64 0,.int .i64 0,.int .i64 0,.int .i64 0,.map none,.map none,.slice none 0 0,.slice none 0 0,.slice none 0 0]):=kV (by kernel_rfl)
theorem Wn:dO prog 222 6:=eB (by kernel_rfl)
theorem aff:eU prog 222 true:=dP _ underlying222 rfl
theorem Lh:dO prog 229 8:=eB (by kernel_rfl)
theorem afg:eU prog 229 true:=dP _ underlying229 rfl
theorem cB:dO prog 231 1:=eB (by kernel_rfl)
theorem lX:eU prog 231 false:=dP _ lH rfl
theorem Ii:(prog.info? 231).map (fun i=>(i.size,i.bytes,i.zero))=some (1,8,some (.int .u64 0)):=by kernel_rfl
theorem Eg:dO prog 242 1:=eB (by kernel_rfl)
theorem Zr:eU prog 242 false:=dP _ underlying242 rfl
theorem Li:dO prog 243 3:=eB (by kernel_rfl)
theorem afh:eU prog 243 true:=dP _ underlying243 rfl
theorem abm:oD prog 243 (.agg #[.nilFunc,.nilFunc,.nilFunc]):=kV (by kernel_rfl)
theorem pC:dO prog 257 6:=eB (by kernel_rfl)
theorem Pe:eU prog 257 true:=dP _ Lf rfl
theorem abn:oD prog 257 (.agg #[.bool false,.string ⟨#[]⟩,.bool false,.string ⟨#[]⟩,.bool false,.string ⟨#[]⟩]):=kV (by kernel_rfl)
theorem Wo:dO prog 273 6:=eB (by kernel_rfl)
theorem afi:eU prog 273 true:=dP _ underlying273 rfl
theorem agu:dO prog 280 18:=eB (by kernel_rfl)
theorem amM:eU prog 280 true:=dP _ underlying280 rfl
theorem agv:dO prog 300 1:=eB (by kernel_rfl)
theorem amN:eU prog 300 false:=dP _ oT rfl
theorem aiO:oD prog 300 (.slice none 0 0):=kV (by kernel_rfl)
theorem Wp:dO prog 333 3:=eB (by kernel_rfl)
theorem afj:eU prog 333 true:=dP _ underlying333 rfl
theorem agw(w:aj):((#[{ name := "X", type:=3,offset:=0,embedded:=false,tag := "", pkgPath := "", byteOffset:=0 },{ name := "Y", type:=3,offset:=1,embedded:=false,tag := "", pkgPath := "", byteOffset:=8 },{ name := "Z", type:=3,offset:=2,embedded:=false,tag := "", pkgPath := "", byteOffset:=16 }]:Array Field).mapM fun f=>do pure (f.offset,←sizeOf f.type):Sem (Array (Nat × Nat))).run prog w=.ok #[(0,1),(1,1),(2,1)] w:=by
 simp[ik,eG aU]
theorem ado(h0:v0.cells = #[A])(h1:v1.cells = #[B])(h2:v2.cells = #[C])(w:aj):(Instr.build 30 #[(0,v0),(1,v1),(2,v2)]).run prog w=.ok (.agg #[A,B,C]) w:=gT fT iW agw (by simp[Instr.fill,lE,h0,h1,h2]) w
theorem xF{x0 x1 x2:bw}(h0:(ev l x0).cells = #[A])(h1:(ev l x1).cells = #[B])(h2:(ev l x2).cells = #[C]):gN prog l (.build 30 #[(0,x0),(1,x1),(2,x2)]) ty (.agg #[A,B,C]):=oN (vs:=#[(0,ev l x0),(1,ev l x1),(2,ev l x2)]) (by simp) fun w=>ado h0 h1 h2 w
theorem adp(h0:v0.cells = #[A])(h1:v1.cells = #[B])(h2:v2.cells = #[C])(w:aj):(Instr.build 36 #[(0,v0),(1,v1),(2,v2)]).run prog w=.ok (.agg #[A,B,C]) w:=kP qR Ed aU (by simp[Instr.fill,lE,h0,h1,h2]) w
theorem xG{x0 x1 x2:bw}(h0:(ev l x0).cells = #[A])(h1:(ev l x1).cells = #[B])(h2:(ev l x2).cells = #[C]):gN prog l (.build 36 #[(0,x0),(1,x1),(2,x2)]) ty (.agg #[A,B,C]):=oN (vs:=#[(0,ev l x0),(1,ev l x1),(2,ev l x2)]) (by simp) fun w=>adp h0 h1 h2 w
theorem adq(h0:v0.cells = #[A,B,C])(h1:v1.cells = #[D,E,F])(h2:v2.cells = #[G,H,I])(w:aj):(Instr.build 39 #[(0,v0),(1,v1),(2,v2)]).run prog w=.ok (.agg #[A,B,C,D,E,F,G,H,I]) w:=kP cM amG aA (by simp[Instr.fill,lE,h0,h1,h2]) w
theorem Lj{x0 x1 x2:bw}(h0:(ev l x0).cells = #[A,B,C])(h1:(ev l x1).cells = #[D,E,F])(h2:(ev l x2).cells = #[G,H,I]):gN prog l (.build 39 #[(0,x0),(1,x1),(2,x2)]) ty (.agg #[A,B,C,D,E,F,G,H,I]):=oN (vs:=#[(0,ev l x0),(1,ev l x1),(2,ev l x2)]) (by simp) fun w=>adq h0 h1 h2 w
theorem agx(w:aj):((#[{ name := "From", type:=30,offset:=0,embedded:=false,tag := "", pkgPath := "", byteOffset:=0 },{ name := "To", type:=30,offset:=3,embedded:=false,tag := "", pkgPath := "", byteOffset:=24 }]:Array Field).mapM fun f=>do pure (f.offset,←sizeOf f.type):Sem (Array (Nat × Nat))).run prog w=.ok #[(0,3),(3,3)] w:=by
 simp[ik,eG aA]
theorem aiP(h0:v0.cells = #[A,B,C])(h1:v1.cells = #[D,E,F])(w:aj):(Instr.build 55 #[(0,v0),(1,v1)]).run prog w=.ok (.agg #[A,B,C,D,E,F]) w:=gT underlying55 amH agx (by simp[Instr.fill,lE,h0,h1]) w
theorem Ch{x0 x1:bw}(h0:(ev l x0).cells = #[A,B,C])(h1:(ev l x1).cells = #[D,E,F]):gN prog l (.build 55 #[(0,x0),(1,x1)]) ty (.agg #[A,B,C,D,E,F]):=oN (vs:=#[(0,ev l x0),(1,ev l x1)]) (by simp) fun w=>aiP h0 h1 w
theorem agy(w:aj):((#[{ name := "Neg", type:=4,offset:=0,embedded:=false,tag := "", pkgPath := "", byteOffset:=0 },{ name := "Mag", type:=9,offset:=1,embedded:=false,tag := "", pkgPath := "", byteOffset:=8 }]:Array Field).mapM fun f=>do pure (f.offset,←sizeOf f.type):Sem (Array (Nat × Nat))).run prog w=.ok #[(0,1),(1,1)] w:=by
 simp[ik,eG eK,eG amF]
theorem aiQ(h0:v0.cells = #[A])(h1:v1.cells = #[B])(w:aj):(Instr.build 95 #[(0,v0),(1,v1)]).run prog w=.ok (.agg #[A,B]) w:=gT underlying95 yR agy (by simp[Instr.fill,lE,h0,h1]) w
theorem Ci{x0 x1:bw}(h0:(ev l x0).cells = #[A])(h1:(ev l x1).cells = #[B]):gN prog l (.build 95 #[(0,x0),(1,x1)]) ty (.agg #[A,B]):=oN (vs:=#[(0,ev l x0),(1,ev l x1)]) (by simp) fun w=>aiQ h0 h1 w
theorem adr(w:aj):((#[{ name := "u", type:=30,offset:=0,embedded:=false,tag := "", pkgPath := "lithophane/collapse", byteOffset:=0 },{ name := "v", type:=30,offset:=3,embedded:=false,tag := "", pkgPath := "lithophane/collapse", byteOffset:=24 },{ name := "cost", type:=95,offset:=6,embedded:=false,tag := "", pkgPath := "lithophane/collapse", byteOffset:=48 }]:Array Field).mapM fun f=>do pure (f.offset,←sizeOf f.type):Sem (Array (Nat × Nat))).run prog w=.ok #[(0,3),(3,3),(6,2)] w:=by
 simp[ik,eG aA,eG aQ]
theorem abo(h0:v0.cells = #[A,B,C])(h1:v1.cells = #[D,E,F])(h2:v2.cells = #[G,H])(w:aj):(Instr.build 112 #[(0,v0),(1,v1),(2,v2)]).run prog w=.ok (.agg #[A,B,C,D,E,F,G,H]) w:=gT yQ aiM adr (by simp[Instr.fill,lE,h0,h1,h2]) w
theorem Ij{x0 x1 x2:bw}(h0:(ev l x0).cells = #[A,B,C])(h1:(ev l x1).cells = #[D,E,F])(h2:(ev l x2).cells = #[G,H]):gN prog l (.build 112 #[(0,x0),(1,x1),(2,x2)]) ty (.agg #[A,B,C,D,E,F,G,H]):=oN (vs:=#[(0,ev l x0),(1,ev l x1),(2,ev l x2)]) (by simp) fun w=>abo h0 h1 h2 w
theorem ads(w:aj):((#[{ name := "Level", type:=3,offset:=0,embedded:=false,tag := "", pkgPath := "", byteOffset:=0 },{ name := "In", type:=62,offset:=1,embedded:=false,tag := "", pkgPath := "", byteOffset:=8 }]:Array Field).mapM fun f=>do pure (f.offset,←sizeOf f.type):Sem (Array (Nat × Nat))).run prog w=.ok #[(0,1),(1,1)] w:=by
 simp[ik,eG aU,eG aiI]
theorem agz(h0:v0.cells = #[A])(h1:v1.cells = #[B])(w:aj):(Instr.build 139 #[(0,v0),(1,v1)]).run prog w=.ok (.agg #[A,B]) w:=gT underlying139 Rk ads (by simp[Instr.fill,lE,h0,h1]) w
theorem Az{x0 x1:bw}(h0:(ev l x0).cells = #[A])(h1:(ev l x1).cells = #[B]):gN prog l (.build 139 #[(0,x0),(1,x1)]) ty (.agg #[A,B]):=oN (vs:=#[(0,ev l x0),(1,ev l x1)]) (by simp) fun w=>agz h0 h1 w
theorem Vb{v3:ai}(h0:v0.cells = #[A,B])(h1:v1.cells = #[C,D])(h2:v2.cells = #[E,F])(h3:v3.cells = #[G,H])(w:aj):(Instr.build 168 #[(0,v0),(1,v1),(2,v2),(3,v3)]).run prog w=.ok (.agg #[A,B,C,D,E,F,G,H]) w:=kP underlying168 abl aQ (by simp[Instr.fill,lE,h0,h1,h2,h3]) w
theorem Fa{x0 x1 x2 x3:bw}(h0:(ev l x0).cells = #[A,B])(h1:(ev l x1).cells = #[C,D])(h2:(ev l x2).cells = #[E,F])(h3:(ev l x3).cells = #[G,H]):gN prog l (.build 168 #[(0,x0),(1,x1),(2,x2),(3,x3)]) ty (.agg #[A,B,C,D,E,F,G,H]):=oN (vs:=#[(0,ev l x0),(1,ev l x1),(2,ev l x2),(3,ev l x3)]) (by simp) fun w=>Vb h0 h1 h2 h3 w
theorem adt(w:aj):((#[{ name := "surface", type:=88,offset:=0,embedded:=true,tag := "", pkgPath := "lithophane/collapse", byteOffset:=0 },{ name := "u", type:=30,offset:=1,embedded:=false,tag := "", pkgPath := "lithophane/collapse", byteOffset:=8 },{ name := "v", type:=30,offset:=4,embedded:=false,tag := "", pkgPath := "lithophane/collapse", byteOffset:=32 },{ name := "x", type:=107,offset:=7,embedded:=false,tag := "", pkgPath := "lithophane/collapse", byteOffset:=56 },{ name := "y", type:=107,offset:=8,embedded:=false,tag := "", pkgPath := "lithophane/collapse", byteOffset:=64 },{ name := "moved", type:=27,offset:=9,embedded:=false,tag := "", pkgPath := "lithophane/collapse", byteOffset:=72 },{ name := "old", type:=27,offset:=10,embedded:=false,tag := "", pkgPath := "lithophane/collapse", byteOffset:=96 },{ name := "rest", type:=27,offset:=11,embedded:=false,tag := "", pkgPath := "lithophane/collapse", byteOffset:=120 }]:Array Field).mapM fun f=>do pure (f.offset,←sizeOf f.type):Sem (Array (Nat × Nat))).run prog w=.ok #[(0,1),(1,3),(4,3),(7,1),(8,1),(9,1),(10,1),(11,1)] w:=by
 simp[ik,eG Ee,eG gH,eG aA,eG Rj]
theorem Ot{v3 v4:ai}(h0:v0.cells = #[A])(h1:v1.cells = #[B,C,D])(h2:v2.cells = #[E,F,G])(h3:v3.cells = #[H])(h4:v4.cells = #[I])(w:aj):(Instr.build 218 #[(0,v0),(1,v1),(2,v2),(3,v3),(4,v4)]).run prog w=.ok (.agg #[A,B,C,D,E,F,G,H,I,(.slice none 0 0),(.slice none 0 0),(.slice none 0 0)]) w:=gT nZ aiN adt (by simp[Instr.fill,lE,h0,h1,h2,h3,h4]) w
theorem Be{x0 x1 x2 x3 x4:bw}(h0:(ev l x0).cells = #[A])(h1:(ev l x1).cells = #[B,C,D])(h2:(ev l x2).cells = #[E,F,G])(h3:(ev l x3).cells = #[H])(h4:(ev l x4).cells = #[I]):gN prog l (.build 218 #[(0,x0),(1,x1),(2,x2),(3,x3),(4,x4)]) ty (.agg #[A,B,C,D,E,F,G,H,I,(.slice none 0 0),(.slice none 0 0),(.slice none 0 0)]):=oN (vs:=#[(0,ev l x0),(1,ev l x1),(2,ev l x2),(3,ev l x3),(4,ev l x4)]) (by simp) fun w=>Ot h0 h1 h2 h3 h4 w
theorem abp(h0:v0.cells = #[A])(h1:v1.cells = #[B])(h2:v2.cells = #[C])(w:aj):(Instr.build 243 #[(0,v0),(1,v1),(2,v2)]).run prog w=.ok (.agg #[A,B,C]) w:=kP underlying243 abm Eg (by simp[Instr.fill,lE,h0,h1,h2]) w
theorem Ik{x0 x1 x2:bw}(h0:(ev l x0).cells = #[A])(h1:(ev l x1).cells = #[B])(h2:(ev l x2).cells = #[C]):gN prog l (.build 243 #[(0,x0),(1,x1),(2,x2)]) ty (.agg #[A,B,C]):=oN (vs:=#[(0,ev l x0),(1,ev l x1),(2,ev l x2)]) (by simp) fun w=>abp h0 h1 h2 w
theorem abq(h0:v0.cells = #[A,B])(h1:v1.cells = #[C,D])(h2:v2.cells = #[E,F])(w:aj):(Instr.build 257 #[(0,v0),(1,v1),(2,v2)]).run prog w=.ok (.agg #[A,B,C,D,E,F]) w:=kP Lf abn aQ (by simp[Instr.fill,lE,h0,h1,h2]) w
theorem Il{x0 x1 x2:bw}(h0:(ev l x0).cells = #[A,B])(h1:(ev l x1).cells = #[C,D])(h2:(ev l x2).cells = #[E,F]):gN prog l (.build 257 #[(0,x0),(1,x1),(2,x2)]) ty (.agg #[A,B,C,D,E,F]):=oN (vs:=#[(0,ev l x0),(1,ev l x1),(2,ev l x2)]) (by simp) fun w=>abq h0 h1 h2 w
theorem oW(d:Nat)    : tN prog (d+2) 30 (.agg #[.int .i64 x0,.int .i64 x1,.int .i64 x2]) (.agg #[.int .i64 y0,.int .i64 y1,.int .i64 y2]) (x0=y0∧x1=y1∧x2=y2):=(tN.struct fT (by kernel_rfl) (yI.cons (by decide) (cU bD rfl) (cU bD rfl) (tN.int (d:=d+0) jE) (yI.cons (by decide) (cU bD rfl) (cU bD rfl) (tN.int (d:=d+0) jE) (yI.cons (by decide) (cU bD rfl) (cU bD rfl) (tN.int (d:=d+0) jE) yI.nil)))).iff (by simp only[and_assoc,and_true])
theorem cK(hx:ev l x=(.agg #[.int .i64 x0,.int .i64 x1,.int .i64 x2]))(hy:ev l y=(.agg #[.int .i64 y0,.int .i64 y1,.int .i64 y2])):gN prog l (.binOp .eql 30 x y T') ty (.bool (decide (x0=y0∧x1=y1∧x2=y2))):=Ql (by kernel_rfl) hx hy (oW 9998)
theorem gW(hx:ev l x=(.agg #[.int .i64 x0,.int .i64 x1,.int .i64 x2]))(hy:ev l y=(.agg #[.int .i64 y0,.int .i64 y1,.int .i64 y2])):gN prog l (.binOp .neq 30 x y T') ty (.bool (decide (¬(x0=y0∧x1=y1∧x2=y2)))):=ah9 (by kernel_rfl) hx hy (oW 9998)
theorem ap0(d:Nat)    : tN prog (d+2) 36 (.agg #[.int .i64 x0,.int .i64 x1,.int .i64 x2]) (.agg #[.int .i64 y0,.int .i64 y1,.int .i64 y2]) (x0=y0∧x1=y1∧x2=y2):=(tN.array qR aU (rW.cons (cU bD rfl) (cU bD rfl) (tN.int (d:=d+0) jE) (rW.cons (cU bD rfl) (cU bD rfl) (tN.int (d:=d+0) jE) (rW.cons (cU bD rfl) (cU bD rfl) (tN.int (d:=d+0) jE) rW.nil)))).iff (by simp only[and_assoc,and_true])
theorem Eh(hx:ev l x=(.agg #[.int .i64 x0,.int .i64 x1,.int .i64 x2]))(hy:ev l y=(.agg #[.int .i64 y0,.int .i64 y1,.int .i64 y2])):gN prog l (.binOp .eql 36 x y T') ty (.bool (decide (x0=y0∧x1=y1∧x2=y2))):=Ql (by kernel_rfl) hx hy (ap0 9998)
theorem ap1(d:Nat)          : tN prog (d+3) 38 (.agg #[.int .i64 x0,.int .i64 x1,.int .i64 x2,.int .i64 x3,.int .i64 x4,.int .i64 x5,.int .i64 x6,.int .i64 x7,.int .i64 x8]) (.agg #[.int .i64 y0,.int .i64 y1,.int .i64 y2,.int .i64 y3,.int .i64 y4,.int .i64 y5,.int .i64 y6,.int .i64 y7,.int .i64 y8]) (x0=y0∧x1=y1∧x2=y2∧x3=y3∧x4=y4∧x5=y5∧x6=y6∧x7=y7∧x8=y8):=(tN.array underlying38 aA (rW.cons (cR aH aA rfl) (cR aH aA rfl) (oW (d+0)) (rW.cons (cR aH aA rfl) (cR aH aA rfl) (oW (d+0)) (rW.cons (cR aH aA rfl) (cR aH aA rfl) (oW (d+0)) rW.nil)))).iff (by simp only[and_assoc,and_true])
theorem ap2(d:Nat)          : tN prog (d+3) 39 (.agg #[.int .i64 x0,.int .i64 x1,.int .i64 x2,.int .i64 x3,.int .i64 x4,.int .i64 x5,.int .i64 x6,.int .i64 x7,.int .i64 x8]) (.agg #[.int .i64 y0,.int .i64 y1,.int .i64 y2,.int .i64 y3,.int .i64 y4,.int .i64 y5,.int .i64 y6,.int .i64 y7,.int .i64 y8]) (x0=y0∧x1=y1∧x2=y2∧x3=y3∧x4=y4∧x5=y5∧x6=y6∧x7=y7∧x8=y8):=(tN.array cM aA (rW.cons (cR aH aA rfl) (cR aH aA rfl) (oW (d+0)) (rW.cons (cR aH aA rfl) (cR aH aA rfl) (oW (d+0)) (rW.cons (cR aH aA rfl) (cR aH aA rfl) (oW (d+0)) rW.nil)))).iff (by simp only[and_assoc,and_true])
theorem Wq(hx:ev l x=(.agg #[.int .i64 x0,.int .i64 x1,.int .i64 x2,.int .i64 x3,.int .i64 x4,.int .i64 x5,.int .i64 x6,.int .i64 x7,.int .i64 x8]))(hy:ev l y=(.agg #[.int .i64 y0,.int .i64 y1,.int .i64 y2,.int .i64 y3,.int .i64 y4,.int .i64 y5,.int .i64 y6,.int .i64 y7,.int .i64 y8])):gN prog l (.binOp .eql 39 x y T') ty (.bool (decide (x0=y0∧x1=y1∧x2=y2∧x3=y3∧x4=y4∧x5=y5∧x6=y6∧x7=y7∧x8=y8))):=Ql (by kernel_rfl) hx hy (ap2 9997)
theorem ap3(d:Nat)       : tN prog (d+3) 55 (.agg #[.int .i64 x0,.int .i64 x1,.int .i64 x2,.int .i64 x3,.int .i64 x4,.int .i64 x5]) (.agg #[.int .i64 y0,.int .i64 y1,.int .i64 y2,.int .i64 y3,.int .i64 y4,.int .i64 y5]) (x0=y0∧x1=y1∧x2=y2∧x3=y3∧x4=y4∧x5=y5):=(tN.struct underlying55 (by kernel_rfl) (yI.cons (by decide) (cR aH aA rfl) (cR aH aA rfl) (oW (d+0)) (yI.cons (by decide) (cR aH aA rfl) (cR aH aA rfl) (oW (d+0)) yI.nil))).iff (by simp only[and_assoc,and_true])
theorem agA(hx:ev l x=(.agg #[.int .i64 x0,.int .i64 x1,.int .i64 x2,.int .i64 x3,.int .i64 x4,.int .i64 x5]))(hy:ev l y=(.agg #[.int .i64 y0,.int .i64 y1,.int .i64 y2,.int .i64 y3,.int .i64 y4,.int .i64 y5])):gN prog l (.binOp .neq 55 x y T') ty (.bool (decide (¬(x0=y0∧x1=y1∧x2=y2∧x3=y3∧x4=y4∧x5=y5)))):=ah9 (by kernel_rfl) hx hy (ap3 9997)
theorem aiR(d:Nat)       : tN prog (d+3) 56 (.agg #[.int .i64 x0,.int .i64 x1,.int .i64 x2,.int .i64 x3,.int .i64 x4,.int .i64 x5]) (.agg #[.int .i64 y0,.int .i64 y1,.int .i64 y2,.int .i64 y3,.int .i64 y4,.int .i64 y5]) (x0=y0∧x1=y1∧x2=y2∧x3=y3∧x4=y4∧x5=y5):=(tN.array Nn aA (rW.cons (cR aH aA rfl) (cR aH aA rfl) (oW (d+0)) (rW.cons (cR aH aA rfl) (cR aH aA rfl) (oW (d+0)) rW.nil))).iff (by simp only[and_assoc,and_true])
theorem agB(hx:ev l x=(.agg #[.int .i64 x0,.int .i64 x1,.int .i64 x2,.int .i64 x3,.int .i64 x4,.int .i64 x5]))(hy:ev l y=(.agg #[.int .i64 y0,.int .i64 y1,.int .i64 y2,.int .i64 y3,.int .i64 y4,.int .i64 y5])):gN prog l (.binOp .eql 56 x y T') ty (.bool (decide (x0=y0∧x1=y1∧x2=y2∧x3=y3∧x4=y4∧x5=y5))):=Ql (by kernel_rfl) hx hy (aiR 9997)
theorem Zs(d:Nat){x0 y0:Bool}{x1 y1:ByteArray}:tN prog (d+2) 95 (.agg #[.bool x0,.string x1]) (.agg #[.bool y0,.string y1]) (x0=y0∧x1=y1):=(tN.struct underlying95 (by kernel_rfl) (yI.cons (by decide) (cU pB rfl) (cU pB rfl) (tN.bool (d:=d+0) Va) (yI.cons (by decide) (cU aoV rfl) (cU aoV rfl) (tN.str (d:=d+0) pI) yI.nil))).iff (by simp only[and_assoc,and_true])
theorem amO(d:Nat)       : tN prog (d+3) 215 (.agg #[.int .i64 x0,.int .i64 x1,.int .i64 x2,.int .i64 x3,.int .i64 x4,.int .i64 x5]) (.agg #[.int .i64 y0,.int .i64 y1,.int .i64 y2,.int .i64 y3,.int .i64 y4,.int .i64 y5]) (x0=y0∧x1=y1∧x2=y2∧x3=y3∧x4=y4∧x5=y5):=(tN.struct uQ (by kernel_rfl) (yI.cons (by decide) (cR aH aA rfl) (cR aH aA rfl) (oW (d+0)) (yI.cons (by decide) (cR aH aA rfl) (cR aH aA rfl) (oW (d+0)) yI.nil))).iff (by simp only[and_assoc,and_true])
theorem amP(d:Nat){x0 y0:Bool}{x1 y1:ByteArray}{x2 y2:Bool}{x3 y3:ByteArray}{x4 y4:Bool}{x5 y5:ByteArray}{x6 y6:Bool}{x7 y7:ByteArray}:tN prog (d+3) 229 (.agg #[.bool x0,.string x1,.bool x2,.string x3,.bool x4,.string x5,.bool x6,.string x7]) (.agg #[.bool y0,.string y1,.bool y2,.string y3,.bool y4,.string y5,.bool y6,.string y7]) (x0=y0∧x1=y1∧x2=y2∧x3=y3∧x4=y4∧x5=y5∧x6=y6∧x7=y7):=(tN.array underlying229 aQ (rW.cons (cR cI aQ rfl) (cR cI aQ rfl) (Zs (d+0)) (rW.cons (cR cI aQ rfl) (cR cI aQ rfl) (Zs (d+0)) (rW.cons (cR cI aQ rfl) (cR cI aQ rfl) (Zs (d+0)) (rW.cons (cR cI aQ rfl) (cR cI aQ rfl) (Zs (d+0)) rW.nil))))).iff (by simp only[and_assoc,and_true])
theorem adu{x0 y0:Bool}{x1 y1:ByteArray}{x2 y2:Bool}{x3 y3:ByteArray}{x4 y4:Bool}{x5 y5:ByteArray}{x6 y6:Bool}{x7 y7:ByteArray}(hx:ev l x=(.agg #[.bool x0,.string x1,.bool x2,.string x3,.bool x4,.string x5,.bool x6,.string x7]))(hy:ev l y=(.agg #[.bool y0,.string y1,.bool y2,.string y3,.bool y4,.string y5,.bool y6,.string y7])):gN prog l (.binOp .eql 229 x y T') ty (.bool (decide (x0=y0∧x1=y1∧x2=y2∧x3=y3∧x4=y4∧x5=y5∧x6=y6∧x7=y7))):=Ql (by kernel_rfl) hx hy (amP 9997)
end Go.Proofs.YtfekpcimgncioaaGreatDoor
namespace Go.Proofs.YtfekpcimgncioaaGreatDoor
open Go.Proofs.Tryz
open Go.RowKit Go.Lith
variable{l:List ai}{ty:az}{x y x0 x1 x2 x3:bw}{k:IntKind}{c0 c1 c2 c4 c5 c6 c7 c8 c9 c10 c11 c12 c13 c14 c15 c16 c17 A B C D E F G H I J K L:ai}{ds:List dz}{ops:Array Oper}{rest:List Oper}{d:Nat}{pos:String}{after:Array Edge}{w:aj}
theorem jU(hx:ev l x=.agg #[c0,c1,c2])(hy:ev l y=.int k 0):gN prog l (.index 36 x y) ty c0:=pO qR bD aU hx hy (by decide) (by decide) rfl
theorem jV(hx:ev l x=.agg #[c0,c1,c2])(hy:ev l y=.int k 1):gN prog l (.index 36 x y) ty c1:=pO qR bD aU hx hy (by decide) (by decide) rfl
theorem jW(hx:ev l x=.agg #[c0,c1,c2])(hy:ev l y=.int k 2):gN prog l (.index 36 x y) ty c2:=pO qR bD aU hx hy (by decide) (by decide) rfl
theorem tQ{c3:ai}(hx:ev l x=.agg #[c0,c1,c2,c3,c4,c5,c6,c7,c8])(hy:ev l y=.int k 0):gN prog l (.index 39 x y) ty (.agg #[c0,c1,c2]):=pP cM aH aA hx hy (by decide) (by decide) rfl
theorem tR{c3:ai}(hx:ev l x=.agg #[c0,c1,c2,c3,c4,c5,c6,c7,c8])(hy:ev l y=.int k 1):gN prog l (.index 39 x y) ty (.agg #[c3,c4,c5]):=pP cM aH aA hx hy (by decide) (by decide) rfl
theorem tT{c3:ai}(hx:ev l x=.agg #[c0,c1,c2,c3,c4,c5,c6,c7,c8])(hy:ev l y=.int k 2):gN prog l (.index 39 x y) ty (.agg #[c6,c7,c8]):=pP cM aH aA hx hy (by decide) (by decide) rfl
theorem Fs(hx:ev l x=.agg #[c0,c1,c2])(hy:ev l y=.int k 0):gN prog l (.index 243 x y) ty c0:=pO underlying243 Zr Eg hx hy (by decide) (by decide) rfl
theorem Ft(hx:ev l x=.agg #[c0,c1,c2])(hy:ev l y=.int k 1):gN prog l (.index 243 x y) ty c1:=pO underlying243 Zr Eg hx hy (by decide) (by decide) rfl
theorem Fu(hx:ev l x=.agg #[c0,c1,c2])(hy:ev l y=.int k 2):gN prog l (.index 243 x y) ty c2:=pO underlying243 Zr Eg hx hy (by decide) (by decide) rfl
theorem Vc{c3:ai}(hx:ev l x=.agg #[c0,c1,c2,c3,c4,c5])(hy:ev l y=.int k 0):gN prog l (.index 273 x y) ty (.agg #[c0,c1]):=pP underlying273 cI aQ hx hy (by decide) (by decide) rfl
theorem Vd{c3:ai}(hx:ev l x=.agg #[c0,c1,c2,c3,c4,c5])(hy:ev l y=.int k 1):gN prog l (.index 273 x y) ty (.agg #[c2,c3]):=pP underlying273 cI aQ hx hy (by decide) (by decide) rfl
theorem Ve{c3:ai}(hx:ev l x=.agg #[c0,c1,c2,c3,c4,c5])(hy:ev l y=.int k 2):gN prog l (.index 273 x y) ty (.agg #[c4,c5]):=pP underlying273 cI aQ hx hy (by decide) (by decide) rfl
theorem Vf{c3:ai}(hx:ev l x=.agg #[c0,c1,c2,c3,c4,c5,c6,c7,c8,c9,c10,c11,c12,c13,c14,c15,c16,c17])(hy:ev l y=.int k 0):gN prog l (.index 280 x y) ty (.agg #[c0,c1,c2,c3,c4,c5]):=pP underlying280 Ef qZ hx hy (by decide) (by decide) rfl
theorem Vg{c3:ai}(hx:ev l x=.agg #[c0,c1,c2,c3,c4,c5,c6,c7,c8,c9,c10,c11,c12,c13,c14,c15,c16,c17])(hy:ev l y=.int k 1):gN prog l (.index 280 x y) ty (.agg #[c6,c7,c8,c9,c10,c11]):=pP underlying280 Ef qZ hx hy (by decide) (by decide) rfl
theorem Vh{c3:ai}(hx:ev l x=.agg #[c0,c1,c2,c3,c4,c5,c6,c7,c8,c9,c10,c11,c12,c13,c14,c15,c16,c17])(hy:ev l y=.int k 2):gN prog l (.index 280 x y) ty (.agg #[c12,c13,c14,c15,c16,c17]):=pP underlying280 Ef qZ hx hy (by decide) (by decide) rfl
theorem Vi(hx:ev l x=.agg #[c0,c1,c2])(hy:ev l y=.int k 0):gN prog l (.index 333 x y) ty c0:=pO underlying333 bD aU hx hy (by decide) (by decide) rfl
theorem Vj(hx:ev l x=.agg #[c0,c1,c2])(hy:ev l y=.int k 1):gN prog l (.index 333 x y) ty c1:=pO underlying333 bD aU hx hy (by decide) (by decide) rfl
theorem Vk(hx:ev l x=.agg #[c0,c1,c2])(hy:ev l y=.int k 2):gN prog l (.index 333 x y) ty c2:=pO underlying333 bD aU hx hy (by decide) (by decide) rfl
theorem eZ{Q:Exit→Act→aj→Prop}(h0:(ev l x0).cells = #[A,B,C,D,E,F,G,H,I])(h:∀w' g,fQ w w'→w.heap.size≤g→fR w' g [A,B,C,D,E,F,G,H,I] 39→ar prog ops Q rest (Fr (l.set d (.slice (some ⟨g,0,none⟩) 1 1)) ds) w'):ar prog ops Q (bu (some d) (.buildSlice 27 1 #[(0,x0)]) ty pos after none::rest) (Fr l ds) w :=
 lZ (vs:=#[(0,ev l x0)]) (base:=#[.int .i64 0,.int .i64 0,.int .i64 0,.int .i64 0,.int .i64 0,.int .i64 0,.int .i64 0,.int .i64 0,.int .i64 0]) (c:=9) (z:=(.agg #[.int .i64 0,.int .i64 0,.int .i64 0,.int .i64 0,.int .i64 0,.int .i64 0,.int .i64 0,.int .i64 0,.int .i64 0])) cH (by kernel_rfl) (by decide) (by decide) (by kernel_rfl) (by simp) (by simp[Instr.fill,h0]) h
theorem agC{Q:Exit→Act→aj→Prop}{M N O0 P R S T U V W X Y Z b e f i j k m n o p q:ai}(h0:(ev l x0).cells = #[A,B,C,D,E,F,G,H,I])(h1:(ev l x1).cells = #[J,K,L,M,N,O0,P,R,S])(h2:(ev l x2).cells = #[T,U,V,W,X,Y,Z,b,e])(h3:(ev l x3).cells = #[f,i,j,k,m,n,o,p,q])(h:∀w' g,fQ w w'→w.heap.size≤g→fR w' g [A,B,C,D,E,F,G,H,I,J,K,L,M,N,O0,P,R,S,T,U,V,W,X,Y,Z,b,e,f,i,j,k,m,n,o,p,q] 39→ar prog ops Q rest (Fr (l.set d (.slice (some ⟨g,0,none⟩) 4 4)) ds) w'):ar prog ops Q (bu (some d) (.buildSlice 27 4 #[(0,x0),(1,x1),(2,x2),(3,x3)]) ty pos after none::rest) (Fr l ds) w :=
 lZ (vs:=#[(0,ev l x0),(1,ev l x1),(2,ev l x2),(3,ev l x3)]) (base:=#[.int .i64 0,.int .i64 0,.int .i64 0,.int .i64 0,.int .i64 0,.int .i64 0,.int .i64 0,.int .i64 0,.int .i64 0,.int .i64 0,.int .i64 0,.int .i64 0,.int .i64 0,.int .i64 0,.int .i64 0,.int .i64 0,.int .i64 0,.int .i64 0,.int .i64 0,.int .i64 0,.int .i64 0,.int .i64 0,.int .i64 0,.int .i64 0,.int .i64 0,.int .i64 0,.int .i64 0,.int .i64 0,.int .i64 0,.int .i64 0,.int .i64 0,.int .i64 0,.int .i64 0,.int .i64 0,.int .i64 0,.int .i64 0]) (c:=9) (z:=(.agg #[.int .i64 0,.int .i64 0,.int .i64 0,.int .i64 0,.int .i64 0,.int .i64 0,.int .i64 0,.int .i64 0,.int .i64 0])) cH (by kernel_rfl) (by decide) (by decide) (by kernel_rfl) (by simp) (by simp[Instr.fill,h0,h1,h2,h3]) h
theorem Lk{Q:Exit→Act→aj→Prop}(h0:(ev l x0).cells = #[A,B,C,D,E,F])(h:∀w' g,fQ w w'→w.heap.size≤g→fR w' g [A,B,C,D,E,F] 55→ar prog ops Q rest (Fr (l.set d (.slice (some ⟨g,0,none⟩) 1 1)) ds) w'):ar prog ops Q (bu (some d) (.buildSlice 46 1 #[(0,x0)]) ty pos after none::rest) (Fr l ds) w :=
 lZ (vs:=#[(0,ev l x0)]) (base:=#[.int .i64 0,.int .i64 0,.int .i64 0,.int .i64 0,.int .i64 0,.int .i64 0]) (c:=6) (z:=(.agg #[.int .i64 0,.int .i64 0,.int .i64 0,.int .i64 0,.int .i64 0,.int .i64 0])) underlying46 (by kernel_rfl) (by decide) (by decide) (by kernel_rfl) (by simp) (by simp[Instr.fill,h0]) h
theorem Ll{Q:Exit→Act→aj→Prop}(h0:(ev l x0).cells = #[A,B,C,D,E,F])(h:∀w' g,fQ w w'→w.heap.size≤g→fR w' g [A,B,C,D,E,F] 56→ar prog ops Q rest (Fr (l.set d (.slice (some ⟨g,0,none⟩) 1 1)) ds) w'):ar prog ops Q (bu (some d) (.buildSlice 52 1 #[(0,x0)]) ty pos after none::rest) (Fr l ds) w :=
 lZ (vs:=#[(0,ev l x0)]) (base:=#[.int .i64 0,.int .i64 0,.int .i64 0,.int .i64 0,.int .i64 0,.int .i64 0]) (c:=6) (z:=(.agg #[.int .i64 0,.int .i64 0,.int .i64 0,.int .i64 0,.int .i64 0,.int .i64 0])) pZ (by kernel_rfl) (by decide) (by decide) (by kernel_rfl) (by simp) (by simp[Instr.fill,h0]) h
theorem agD{Q:Exit→Act→aj→Prop}{M N O0 P R S:ai}(h0:(ev l x0).cells = #[A,B,C,D,E,F])(h1:(ev l x1).cells = #[G,H,I,J,K,L])(h2:(ev l x2).cells = #[M,N,O0,P,R,S])(h:∀w' g,fQ w w'→w.heap.size≤g→fR w' g [A,B,C,D,E,F,G,H,I,J,K,L,M,N,O0,P,R,S] 56→ar prog ops Q rest (Fr (l.set d (.slice (some ⟨g,0,none⟩) 3 3)) ds) w'):ar prog ops Q (bu (some d) (.buildSlice 52 3 #[(0,x0),(1,x1),(2,x2)]) ty pos after none::rest) (Fr l ds) w :=
 lZ (vs:=#[(0,ev l x0),(1,ev l x1),(2,ev l x2)]) (base:=#[.int .i64 0,.int .i64 0,.int .i64 0,.int .i64 0,.int .i64 0,.int .i64 0,.int .i64 0,.int .i64 0,.int .i64 0,.int .i64 0,.int .i64 0,.int .i64 0,.int .i64 0,.int .i64 0,.int .i64 0,.int .i64 0,.int .i64 0,.int .i64 0]) (c:=6) (z:=(.agg #[.int .i64 0,.int .i64 0,.int .i64 0,.int .i64 0,.int .i64 0,.int .i64 0])) pZ (by kernel_rfl) (by decide) (by decide) (by kernel_rfl) (by simp) (by simp[Instr.fill,h0,h1,h2]) h
theorem mJ{Q:Exit→Act→aj→Prop}(h0:(ev l x0).cells = #[A,B,C])(h:∀w' g,fQ w w'→w.heap.size≤g→fR w' g [A,B,C] 30→ar prog ops Q rest (Fr (l.set d (.slice (some ⟨g,0,none⟩) 1 1)) ds) w'):ar prog ops Q (bu (some d) (.buildSlice 65 1 #[(0,x0)]) ty pos after none::rest) (Fr l ds) w :=
 lZ (vs:=#[(0,ev l x0)]) (base:=#[.int .i64 0,.int .i64 0,.int .i64 0]) (c:=3) (z:=(.agg #[.int .i64 0,.int .i64 0,.int .i64 0])) cT (by kernel_rfl) (by decide) (by decide) (by kernel_rfl) (by simp) (by simp[Instr.fill,h0]) h
theorem Ws{Q:Exit→Act→aj→Prop}(h0:(ev l x0).cells = #[A,B,C])(h1:(ev l x1).cells = #[D,E,F])(h:∀w' g,fQ w w'→w.heap.size≤g→fR w' g [A,B,C,D,E,F] 30→ar prog ops Q rest (Fr (l.set d (.slice (some ⟨g,0,none⟩) 2 2)) ds) w'):ar prog ops Q (bu (some d) (.buildSlice 65 2 #[(0,x0),(1,x1)]) ty pos after none::rest) (Fr l ds) w :=
 lZ (vs:=#[(0,ev l x0),(1,ev l x1)]) (base:=#[.int .i64 0,.int .i64 0,.int .i64 0,.int .i64 0,.int .i64 0,.int .i64 0]) (c:=3) (z:=(.agg #[.int .i64 0,.int .i64 0,.int .i64 0])) cT (by kernel_rfl) (by decide) (by decide) (by kernel_rfl) (by simp) (by simp[Instr.fill,h0,h1]) h
theorem agE{Q:Exit→Act→aj→Prop}(h0:(ev l x0).cells = #[A,B,C])(h1:(ev l x1).cells = #[D,E,F])(h2:(ev l x2).cells = #[G,H,I])(h:∀w' g,fQ w w'→w.heap.size≤g→fR w' g [A,B,C,D,E,F,G,H,I] 30→ar prog ops Q rest (Fr (l.set d (.slice (some ⟨g,0,none⟩) 3 3)) ds) w'):ar prog ops Q (bu (some d) (.buildSlice 65 3 #[(0,x0),(1,x1),(2,x2)]) ty pos after none::rest) (Fr l ds) w :=
 lZ (vs:=#[(0,ev l x0),(1,ev l x1),(2,ev l x2)]) (base:=#[.int .i64 0,.int .i64 0,.int .i64 0,.int .i64 0,.int .i64 0,.int .i64 0,.int .i64 0,.int .i64 0,.int .i64 0]) (c:=3) (z:=(.agg #[.int .i64 0,.int .i64 0,.int .i64 0])) cT (by kernel_rfl) (by decide) (by decide) (by kernel_rfl) (by simp) (by simp[Instr.fill,h0,h1,h2]) h
theorem Ei{Q:Exit→Act→aj→Prop}(h0:(ev l x0).cells = #[A,B,C])(h1:(ev l x1).cells = #[D,E,F])(h2:(ev l x2).cells = #[G,H,I])(h3:(ev l x3).cells = #[J,K,L])(h:∀w' g,fQ w w'→w.heap.size≤g→fR w' g [A,B,C,D,E,F,G,H,I,J,K,L] 30→ar prog ops Q rest (Fr (l.set d (.slice (some ⟨g,0,none⟩) 4 4)) ds) w'):ar prog ops Q (bu (some d) (.buildSlice 65 4 #[(0,x0),(1,x1),(2,x2),(3,x3)]) ty pos after none::rest) (Fr l ds) w :=
 lZ (vs:=#[(0,ev l x0),(1,ev l x1),(2,ev l x2),(3,ev l x3)]) (base:=#[.int .i64 0,.int .i64 0,.int .i64 0,.int .i64 0,.int .i64 0,.int .i64 0,.int .i64 0,.int .i64 0,.int .i64 0,.int .i64 0,.int .i64 0,.int .i64 0]) (c:=3) (z:=(.agg #[.int .i64 0,.int .i64 0,.int .i64 0])) cT (by kernel_rfl) (by decide) (by decide) (by kernel_rfl) (by simp) (by simp[Instr.fill,h0,h1,h2,h3]) h
theorem adv{Q:Exit→Act→aj→Prop}(h0:(ev l x0).cells = #[A,B,C,D,E,F,G,H])(h:∀w' g,fQ w w'→w.heap.size≤g→fR w' g [A,B,C,D,E,F,G,H] 112→ar prog ops Q rest (Fr (l.set d (.slice (some ⟨g,0,none⟩) 1 1)) ds) w'):ar prog ops Q (bu (some d) (.buildSlice 105 1 #[(0,x0)]) ty pos after none::rest) (Fr l ds) w :=
 lZ (vs:=#[(0,ev l x0)]) (base:=#[.int .i64 0,.int .i64 0,.int .i64 0,.int .i64 0,.int .i64 0,.int .i64 0,.bool false,.string ⟨#[]⟩]) (c:=8) (z:=(.agg #[.int .i64 0,.int .i64 0,.int .i64 0,.int .i64 0,.int .i64 0,.int .i64 0,.bool false,.string ⟨#[]⟩])) underlying105 (by kernel_rfl) (by decide) (by decide) (by kernel_rfl) (by simp) (by simp[Instr.fill,h0]) h
theorem adw{Q:Exit→Act→aj→Prop}{x4 x5:bw}(h0:(ev l x0).cells = #[A])(h1:(ev l x1).cells = #[B])(h2:(ev l x2).cells = #[C])(h3:(ev l x3).cells = #[D])(h4:(ev l x4).cells = #[E])(h5:(ev l x5).cells = #[F])(h:∀w' g,fQ w w'→w.heap.size≤g→fR w' g [A,B,C,D,E,F] 26→ar prog ops Q rest (Fr (l.set d (.slice (some ⟨g,0,none⟩) 6 6)) ds) w'):ar prog ops Q (bu (some d) (.buildSlice 157 6 #[(0,x0),(1,x1),(2,x2),(3,x3),(4,x4),(5,x5)]) ty pos after none::rest) (Fr l ds) w :=
 lZ (vs:=#[(0,ev l x0),(1,ev l x1),(2,ev l x2),(3,ev l x3),(4,ev l x4),(5,ev l x5)]) (base:=#[.nilFunc,.nilFunc,.nilFunc,.nilFunc,.nilFunc,.nilFunc]) (c:=1) (z:=(.nilFunc)) underlying157 (by kernel_rfl) (by decide) (by decide) (by kernel_rfl) (by simp) (by simp[Instr.fill,h0,h1,h2,h3,h4,h5]) h
theorem adx{Q:Exit→Act→aj→Prop}(h0:(ev l x0).cells = #[A,B,C,D,E,F])(h:∀w' g,fQ w w'→w.heap.size≤g→fR w' g [A,B,C,D,E,F] 215→ar prog ops Q rest (Fr (l.set d (.slice (some ⟨g,0,none⟩) 1 1)) ds) w'):ar prog ops Q (bu (some d) (.buildSlice 212 1 #[(0,x0)]) ty pos after none::rest) (Fr l ds) w :=
 lZ (vs:=#[(0,ev l x0)]) (base:=#[.int .i64 0,.int .i64 0,.int .i64 0,.int .i64 0,.int .i64 0,.int .i64 0]) (c:=6) (z:=(.agg #[.int .i64 0,.int .i64 0,.int .i64 0,.int .i64 0,.int .i64 0,.int .i64 0])) underlying212 (by kernel_rfl) (by decide) (by decide) (by kernel_rfl) (by simp) (by simp[Instr.fill,h0]) h
end Go.Proofs.YtfekpcimgncioaaGreatDoor
namespace Go.Lith
open Go.RowKit
variable{w:aj}{c:Nat}
def jF(w:aj)(g:Nat)(es:Array c_)(c:Nat):Prop:=w.heap[g]? = some (.map es c)
def rY(w:aj)(r g s:Nat)(seen:Array Nat)(c:Nat):Prop:=w.heap[r]? = some (.mapIter (some g) s seen c)
theorem jF.ext{w':aj}{g:Nat}{es:Array c_}(h:jF w g es c)(hE:fQ w w'):jF w' g es c:=hE.block h
theorem rY.ext{w':aj}{r g s:Nat}{seen:Array Nat}(h:rY w r g s seen c)(hE:fQ w w'):rY w' r g s seen c:=hE.block h
theorem jF.lt{g:Nat}{es:Array c_}(h:jF w g es c):g<w.heap.size:=(ee.1 h).1
theorem rY.lt{r g s:Nat}{seen:Array Nat}(h:rY w r g s seen c):r<w.heap.size:=(ee.1 h).1
section
variable {P:br} {ds:List dz} {l:List ai} {x:bw} {T ty:az} {ops:Array Oper} {Q:Exit→Act→aj→Prop} {rest:List Oper} {d:Nat} {pos:String} {after:Array Edge} {w:aj}
theorem agF(h:∀w' g,fQ w w'→w.heap.size≤g→jF w' g #[] 0→ar P ops Q rest (Fr (l.set d (.map (some g))) ds) w'):ar P ops Q (bu (some d) (.makeMap T none) ty pos after none::rest) (Fr l ds) w :=
 mM (w':=w.alloc (.map #[] 0)) (v:=.map (some w.heap.size)) (fun o ho _=>by simp[dm,ho,Instr.makeMap,newObj,Sem.run]) (h _ _ ((fQ.refl w).alloc _) (aq _) (heap_alloc_new w _))
theorem afk{k e:az}{g c:Nat}{es:Array c_}(hu:P.underlying T=some (.map k e))(hx:ev l x=.map (some g))(hM:jF w g es c)(h:∀w' r,fQ w w'→w.heap.size≤r→rY w' r g c #[] c→ar P ops Q rest (Fr (l.set d (.pointer (some ⟨r,0,none⟩))) ds) w') :
 ar P ops Q (bu (some d) (.range T x) ty pos after none::rest) (Fr l ds) w :=
 mM (w':=w.alloc (.mapIter (some g) c #[] c)) (v:=.pointer (some ⟨w.heap.size,0,none⟩)) (fun o ho _=>by
  unfold jF at hM;simp[dm,ho,cD,hx,Instr.range,cd hu,getObj,hM,newObj,Sem.run]) (h _ _ ((fQ.refl w).alloc _) (aq _) (heap_alloc_new w _))
end
end Go.Lith
namespace Go.Lith
open Go.RowKit Go.ChangeMaps Go.MapKept
/-! ### Lists of pairs -/
section
variable {K V:Type} [DecidableEq K]
def fI:List (K × V)→K→V→List (K × V)
 | [],k,v=>[(k,v)]
 | x::D,k,v=>if x.1=k then (k,v)::D else x::fI D k v
def cG:List (K × V)→K→Option V
 | [],_=>none
 | x::D,k=>if x.1=k then some x.2 else cG D k
def Cj:List (K × V)→K→List (K × V)
 | [],_=>[]
 | x::D,k=>if x.1=k then D else x::Cj D k
def qS:List (K × V)→K→Nat→Option (Nat × V)
 | [],_,_=>none
 | x::D,k,i=>if x.1=k then some (i,x.2) else qS D k (i+1)
theorem rA:∀(D:List (K × V)) (k:K) (i:Nat),qS D k i=none→cG D k=none∧(∀u,fI D k u=D++[(k,u)])∧Cj D k=D
 | [],_,_,_=>⟨rfl,fun _=>rfl,rfl⟩
 | x::D,k,i,h=>by
  unfold qS at h;by_cases e:x.1=k
  · rw[if_pos e] at h;cases h
  · rw[if_neg e] at h
    obtain⟨h1,h2,h3⟩:=rA D k (i+1) h;exact⟨by simp[cG,e,h1],fun u=>by simp[fI,e,h2],by simp[Cj,e,h3]⟩
theorem nC:∀(D:List (K × V)) (k:K) (i j:Nat) (v:V),qS D k i=some (j,v)→∃p,j=i+p∧D[p]? = some (k,v)∧cG D k=some v∧(∀u,fI D k u=D.set p (k,u))∧Cj D k=D.eraseIdx p
 | [],_,_,_,_,h=>by cases h
 | x::D,k,i,j,v,h=>by
  unfold qS at h;by_cases e:x.1=k
  · rw[if_pos e] at h
    cases h;obtain⟨a,b⟩:=x;obtain rfl:a=k:=e;exact⟨0,O,O,by simp[cG],fun u=>by simp[fI],by simp[Cj]⟩
  · rw[if_neg e] at h
    obtain⟨p,h1,h2,h3,h4,h5⟩:=nC D k (i+1) j v h;exact⟨p+1,by omega,by simpa using h2,by simp[cG,e,h3],fun u=>by simp[fI,e,h4],by simp[Cj,e,h5]⟩
theorem mK:∀(D:List (K × V)) (k k':K) (v:V),cG (fI D k v) k'=if k=k' then some v else cG D k'
 | [],k,k',v=>by simp[fI,cG]
 | x::D,k,k',v=>by
  unfold fI;by_cases e:x.1=k
  · rw[if_pos e]
    subst e;by_cases e':x.1=k' <;> simp[cG,e']
  · rw[if_neg e]
    unfold cG;rw[mK D k k' v];by_cases e':x.1=k'
    · rw[if_pos e',if_pos e',if_neg (fun h=>e (e'.trans h.symm))]
    · rw[if_neg e',if_neg e']
theorem Ck:∀{D:List (K × V)} {k:K} {v:V},cG D k=some v→(k,v)∈D
 | [],_,_,h=>by cases h
 | x::D,k,v,h=>by
  unfold cG at h;split at h
  · rename_i e;cases h;subst e;exact bm ..
  · exact bg _ (Ck h)
theorem pD:∀{D:List (K × V)} {k:K},cG D k=none↔k∉D.map (·.1)
 | [],_=>by simp[cG]
 | x::D,k=>by
  unfold cG;split
  · rename_i e;simp[e]
  · rename_i e
    rw[pD (D:=D)];simp only[bj,an,not_or];exact⟨fun h=>⟨fun h'=>e h'.symm,h⟩,fun h=>h.2⟩
theorem vS:∀{D:List (K × V)} {k:K} {v:V},(D.map (·.1)).Nodup→(k,v)∈D→cG D k=some v
 | [],_,_,_,h=>by cases h
 | x::D,k,v,hn,h=>by
  have hn':=gt.1 hn;unfold cG;rcases an.1 h with rfl | h
  · simp
  · rw[if_neg fun e=>hn'.1 (by show x.1∈_;rw[e];exact dh.2 ⟨_,h,O⟩)]
    exact vS hn'.2 h
theorem xH:∀(D:List (K × V)) (k:K) (v:V),(fI D k v).map (·.1)=if k∈D.map (·.1) then D.map (·.1) else D.map (·.1)++[k]
 | [],k,v=>by simp[fI]
 | x::D,k,v=>by
  unfold fI;by_cases e:x.1=k
  · simp[e]
  · have e':¬k=x.1:=fun h=>e h.symm
    simp only[if_neg e,bj,xH D k v,an,e',false_or];split <;> simp
theorem uS{D:List (K × V)}(h:(D.map (·.1)).Nodup)(k:K)(v:V):((fI D k v).map (·.1)).Nodup:=by
 rw[xH];split
 · exact h
 · rename_i hk
   exact jr.2 ⟨h,by simp,fun a ha b hb e=>by rw[bf.1 hb] at e;exact hk (e▸ha)⟩
theorem Wt:∀{D:List (K × V)} (k k':K),(D.map (·.1)).Nodup→cG (Cj D k) k'=if k=k' then none else cG D k'
 | [],k,k',_=>by simp[Cj,cG]
 | x::D,k,k',hn=>by
  have hn':=gt.1 hn;unfold Cj;by_cases e:x.1=k
  · rw[if_pos e]
    by_cases e':k=k'
    · rw[if_pos e']
      exact pD.2 (by rw[←e',←e];exact hn'.1)
    · rw[if_neg e']
      simp[cG,e,e']
  · rw[if_neg e]
    unfold cG;rw[Wt k k' hn'.2];by_cases e':x.1=k'
    · rw[if_pos e',if_pos e',if_neg (fun h=>e (e'.trans h.symm))]
    · rw[if_neg e',if_neg e']
theorem abr:∀(D:List (K × V)) (k:K),(Cj D k).Sublist D
 | [],_=>List.Sublist.refl _
 | x::D,k=>by
  unfold Cj;split
  · exact List.sublist_cons_self _ _
  · exact (abr D k).cons_cons x
theorem ady{D:List (K × V)}(h:(D.map (·.1)).Nodup)(k:K):((Cj D k).map (·.1)).Nodup:=h.sublist ((abr D k).map _)
end
/-! ### A map's entries -/
def Vl(e:c_):ai × ai:=(e.key,e.val)
structure bO{K V:Type}(ek:K→ai)(ev:V→ai)(D:List (K × V))(es:Array c_)(c:Nat):Prop where
 cells:es.toList.map Vl=D.map fun x=>(ek x.1,ev x.2)
 born:∀e∈es.toList,e.born<c
 nd:(es.toList.map (·.born)).Nodup
theorem bO.nil{K V:Type}(ek:K→ai)(ev:V→ai):bO ek ev ([]:List (K × V)) #[] 0:=⟨rfl,fun _ h=>by simp at h,by simp⟩
structure sR{K:Type}[DecidableEq K](P:br)(T:az)(ek:K→ai):Prop where
 chk:∀e k w,(Instr.checkKey e 10000 T (ek k)).run P w=.ok () w
 now:∃t,P.underlying T=some t∧∀a b,Instr.sameNow t (ek a) (ek b)=none∨Instr.sameNow t (ek a) (ek b)=some (decide (a=b))
 eq:∀a b w,(Op.equal T (ek a) (ek b)).run P w=.ok (decide (a=b)) w
 bits:∀a,Instr.sameBits 10000 (ek a) (ek a)=true
section
variable {K V:Type} [DecidableEq K] {P:br} {T:az} {ek:K→ai} {ev:V→ai}
theorem Np(kt:sR P T ek)(k:K)(w:aj):∀(L:List c_) (D:List (K × V)) (i:Nat),L.map Vl=D.map (fun x=>(ek x.1,ev x.2)) →
 (Instr.findAsking T (ek k) L i).run P w=.ok ((qS D k i).map fun p=>(p.1,ev p.2)) w
 | [],D,i,h=>by
  obtain rfl:D=[]:=by simpa using h.symm
  simp[Instr.findAsking,qS]
 | e::L,[],i,h=>by simp at h
 | e::L,x::D,i,h=>by
  simp only[bj,mg,Vl,ft] at h;obtain⟨⟨h1,h2⟩,h3⟩:=h;have ih:=Np kt k w L D (i+1) h3;unfold Instr.findAsking qS;rw[h1,h2];simp only[Sem.run_bind,kt.eq,Result.andThen];by_cases e':x.1=k
  · rw[if_pos (decide_eq_true e'.symm),if_pos e']
    rfl
  · rw[if_neg (by rw[decide_eq_false (Ne.symm e')];exact Bool.false_ne_true),if_neg e']
    exact ih
theorem abt(t:TypeDesc)(k:K)(hn:∀a b:K,Instr.sameNow t (ek a) (ek b)=none∨Instr.sameNow t (ek a) (ek b)=some (decide (a=b))):∀(L:List c_) (D:List (K × V)) (i:Nat),L.map Vl=D.map (fun x=>(ek x.1,ev x.2)) →
 Instr.findNow t (ek k) L i=none∨Instr.findNow t (ek k) L i=some ((qS D k i).map fun p=>(p.1,ev p.2))
 | [],D,i,h=>by
  obtain rfl:D=[]:=by simpa using h.symm
  simp[Instr.findNow,qS]
 | e::L,[],i,h=>by simp at h
 | e::L,x::D,i,h=>by
  simp only[bj,mg,Vl,ft] at h;obtain⟨⟨h1,h2⟩,h3⟩:=h;have ih:=abt t k hn L D (i+1) h3;unfold Instr.findNow qS;rw[h1,h2];rcases hn k x.1 with e0 | e0
  · left;rw[e0]
  · rw[e0]
    by_cases e':x.1=k
    · right;simp[e']
    · rw[show decide (k=x.1)=false from decide_eq_false (Ne.symm e')]
      simpa[e'] using ih
theorem uT(kt:sR P T ek)(k:K)(w:aj){es:Array c_}{D:List (K × V)}{c:Nat}(h:bO ek ev D es c):(Instr.findKey T (ek k) es.toList).run P w=.ok ((qS D k 0).map fun p=>(p.1,ev p.2)) w:=by
 obtain⟨t,ht,hn⟩:=kt.now;unfold Instr.findKey;simp only[Sem.run_bind,cd ht,Result.andThen];rcases abt t k hn es.toList D 0 h.cells with e | e
 · rw[e]
   exact Np kt k w es.toList D 0 h.cells
 · rw[e]
   rfl
end
section
variable {K V:Type} [DecidableEq K] {P:br} {T M E ty:az} {ek:K→ai} {ev:V→ai} {w w0:aj} {g c:Nat} {es:Array c_} {D:List (K × V)}
theorem Nq{v0:V}(hu:P.underlying M=some (.map T E))(kt:sR P T ek)(hM:jF w g es c)(hD:bO ek ev D es c)(hz:oD P E (ev v0))(k:K)(b:Bool) :
 (Instr.lookup M (.map (some g)) (ek k) b).run P w=.ok (if b then .tuple #[ev ((cG D k).getD v0),.bool (cG D k).isSome] else ev ((cG D k).getD v0)) w:=by
 unfold jF at hM;obtain⟨inf,hi,hz⟩:=hz;have hzv:(zeroValue E).run P w=.ok (ev v0) w:=by simp[zeroValue,typeInfo,program,Sem.run,hi,hz]
 simp only[Instr.lookup,Sem.run_bind,cd hu,Result.andThen,getObj,Sem.run,hM,Sem.run_pure,kt.chk,uT kt k w hD];cases hf:qS D k 0 with
 | none =>
  obtain⟨h1,_⟩:=rA D k 0 hf;rw[h1];simp only[qe,Sem.run_bind,hzv,Result.andThen,Sem.run_pure];cases b <;> rfl
 | some p =>
  obtain⟨j,v⟩:=p;obtain⟨_,_,_,h1,_⟩:=nC D k 0 j v hf;rw[h1];simp only[fm,Sem.run_pure,Result.andThen];cases b <;> rfl
theorem jZ{g:Nat}{o o':Obj}(hM:w.heap[g]? = some o):(setBlock w g o').heap[g]? = some o':=by
 have:=(ee.1 hM).1;simp[setBlock,this]
theorem qA{g:Nat}(o:Obj):Chg w (setBlock w g o) g:=⟨rfl,rfl,rfl,by simp[setBlock],fun k hk=>by simp[setBlock,iy (Ne.symm hk)]⟩
theorem Rl{α β:Type}(f:α→β)(L:List α)(i:Nat)(x:α)(g:α→α)(hi:L[i]? = some x):(L.modify i g).map f=(L.map f).set i (f (g x)):=by
 apply fw;intro j;simp only[fb,List.getElem?_modify,jp,List.length_map];by_cases e:i=j
 · subst e
   rw[hi];have:=(ap.1 hi).1;simp[this]
 · simp[e]
theorem bO.set(hD:bO ek ev D es c){p:Nat}{k:K}{v:V}(hp:D[p]? = some (k,v))(u:V):bO ek ev (D.set p (k,u)) (es.modify p fun e=>{ e with key:=ek k,val:=ev u }) c:=by
 have hl:es.toList.length=D.length:=by have:=congrArg List.length hD.cells;simpa using this
 have hlt:p<es.toList.length:=by rw[hl];exact (ap.1 hp).1
 have hx:es.toList[p]? = some es.toList[p]:=am hlt;have hb:(es.modify p fun e=>{ e with key:=ek k,val:=ev u }).toList.map (·.born)=es.toList.map (·.born):=by
  rw[pa,Rl _ _ _ _ _ hx];apply fw;intro j;rw[jp];split
  · rename_i e;subst e;rw[if_pos (by simpa using hlt),fb,hx];rfl
  · rfl
 refine⟨?_,fun e he=>?_,by rw[hb];exact hD.nd⟩
 · rw[pa,Rl _ _ _ _ _ hx,hD.cells,List.map_set]
   rfl
 · have:e.born∈(es.modify p fun e=>{ e with key:=ek k,val:=ev u }).toList.map (·.born):=dh.2 ⟨e,he,rfl⟩
   rw[hb] at this;obtain⟨e',he',hh⟩:=dh.1 this;rw[←hh];exact hD.born e' he'
theorem bO.push(hD:bO ek ev D es c)(k:K)(u:V):bO ek ev (D++[(k,u)]) (es.push { key:=ek k,val:=ev u,born:=c }) (c+1):=by
 refine⟨by simp[hD.cells,Vl],fun e he=>?_,?_⟩
 · rw[oc] at he
   rcases bi.1 he with he | he
   · exact Nat.lt_succ_of_lt (hD.born e he)
   · rw[bf.1 he];exact Nat.lt_succ_self _
 · rw[oc,ct]
   refine jr.2 ⟨hD.nd,by simp,fun a ha b hb e=>?_⟩;obtain⟨e',he',rfl⟩:=dh.1 ha;have:b=c:=by simpa using hb
   have:=hD.born e' he';omega
theorem bO.erase(hD:bO ek ev D es c)(p:Nat):bO ek ev (D.eraseIdx p) (es.eraseIdxIfInBounds p) c:=by
 have e:(es.eraseIdxIfInBounds p).toList=es.toList.eraseIdx p:=by
  by_cases h:p<es.size
  · simp[ll,h]
  · simp only[ll,h,dite_false]
    exact (List.eraseIdx_of_length_le (by simpa using io h)).symm
 refine⟨?_,fun x hx=>hD.born x ?_,?_⟩
 · rw[e,map_eraseIdx,hD.cells,map_eraseIdx]
 · rw[e] at hx;exact List.mem_of_mem_eraseIdx hx
 · rw[e];exact hD.nd.sublist ((List.eraseIdx_sublist _ _).map _)
theorem abu(hu:P.underlying M=some (.map T E))(kt:sR P T ek)(hM:jF w g es c)(hD:bO ek ev D es c)(k:K)(u:V) :
 ∃es' c',(Instr.mapUpdate M (.map (some g)) (ek k) (ev u)).run P w=.ok () (setBlock w g (.map es' c'))∧bO ek ev (fI D k u) es' c':=by
 unfold jF at hM;cases hf:qS D k 0 with
 | none =>
  obtain⟨_,h1,_⟩:=rA D k 0 hf;refine⟨_,_,?_,h1 u▸hD.push k u⟩;simp only[Instr.mapUpdate,Sem.run_bind,cd hu,Result.andThen,getObj,Sem.run,hM,Sem.run_pure,kt.chk,uT kt k w hD,hf,qe];exact run_setObj_map _ hM
 | some p =>
  obtain⟨j,v⟩:=p;obtain⟨p,rfl,hp,_,h1,_⟩:=nC D k 0 j v hf;rw[au] at hf;have hl:es.toList.length=D.length:=by have:=congrArg List.length hD.cells;simpa using this
  have hlt:p<es.toList.length:=by rw[hl];exact (ap.1 hp).1
  have hk:((es[p]?).map (·.key)).getD (ek k)=ek k:=by
   have h2:=congrArg (fun L=>L[p]?) hD.cells;simp only[fb,hp,fm] at h2;rw[fv] at h2;cases h3:es[p]? with
   | none=>rfl
   | some x =>
    rw[h3] at h2;simp only[fm,Option.some.injEq,Vl,ft] at h2;simpa using h2.1
  refine⟨_,_,?_,h1 u▸hD.set hp u⟩;simp only[Instr.mapUpdate,Sem.run_bind,cd hu,Result.andThen,getObj,Sem.run,hM,Sem.run_pure,kt.chk,uT kt k w hD,hf,fm,hk,Instr.keyThatStays,kt.bits,if_true];exact run_setObj_map _ hM
/-! ### Ranges -/
def oK(ek:K→ai)(ev:V→ai)(D:List (K × V))(es:Array c_)(seen:Array Nat)(dn rs:List (K × V)):Prop :=
 (dn++rs).Perm D∧∃dE rE:List c_,seen.toList=dE.map (·.born)∧(dE++rE).Perm es.toList∧dE.map Vl=dn.map (fun x=>(ek x.1,ev x.2))∧rE.map Vl=rs.map (fun x=>(ek x.1,ev x.2))
theorem oK.start(hD:bO ek ev D es c):oK ek ev D es #[] [] D:=⟨od _,[],es.toList,rfl,od _,rfl,hD.cells⟩
theorem oK.done{seen:Array Nat}{dn:List (K × V)}(h:oK ek ev D es seen dn []):dn.Perm D:=by simpa using h.1
def Nxt(ek:K→ai)(ev:V→ai)(D:List (K × V))(es:Array c_)(dn rs:List (K × V))(b:Bool)(kv vv:ai)(seen':Array Nat):Prop :=
 (b=false∧rs=[])∨(b=true∧∃k v rs',rs.Perm ((k,v)::rs')∧kv=ek k∧vv=ev v∧oK ek ev D es seen' (dn++[(k,v)]) rs')
def Fv(b:Bool)(k v:ai):ai:=.tuple (if b then #[.bool true,k,v] else #[.bool false])
theorem Wu{r s:Nat}{seen:Array Nat}{dn rs:List (K × V)}(hI:rY w r g c seen c)(hM:jF w g es c)(hD:bO ek ev D es c)(hT:oK ek ev D es seen dn rs) :
 ∃b kv vv seen' w1,(w1=w∨w1=w.drew)∧(Instr.next (.pointer (some ⟨r,0,none⟩)) false ty).run P w=.ok (Fv b kv vv) (setBlock w1 r (.mapIter (some g) c seen' c))∧Nxt ek ev D es dn rs b kv vv seen':=by
 obtain⟨hp,dE,rE,h1,h2,h3,h4⟩:=hT;have hnd:((dE++rE).map (·.born)).Nodup:=(h2.map (·.born)).nodup_iff.2 hD.nd;rw[ct,jr] at hnd;have hleft:∀e,e∈(leftOf es seen).toList↔e∈rE:=fun e=>by
  unfold leftOf;simp only[Array.toList_filter,List.mem_filter,Bool.not_eq_true',Array.contains_eq_mem,decide_eq_false_iff_not];rw[←Array.mem_toList_iff (xs:=seen),h1,←h2.mem_iff,bi];constructor
  · rintro⟨h | h,hn⟩
    · exact absurd (dh.2 ⟨e,h,O⟩) hn
    · exact h
  · intro h
    exact⟨.inr h,fun hm=>hnd.2.2 _ hm _ (dh.2 ⟨e,h,O⟩) O⟩
 rcases run_next_at (P:=P) w ty r g c c seen es c hI hM hD.born (aq _) with ⟨h0,hr⟩ | ⟨e,he,w1,hw1,hr⟩
 · refine⟨false,default,default,seen,w,.inl O,?_,.inl ⟨O,?_⟩⟩
   · rw[hr]
     have:setBlock w r (.mapIter (some g) c seen c)=w:=by
      unfold setBlock;have hlt:=(ee.1 hI).1;have:w.heap.setIfInBounds r (.mapIter (some g) c seen c)=w.heap:=by
       apply Array.ext_getElem?;intro i;rw[Array.getElem?_setIfInBounds];split
       · rename_i e;subst e;exact hI.symm
       · rfl
      rw[this]
     rw[this];rfl
   · cases rs with
     | nil=>rfl
     | cons x rs =>
      cases rE with
      | nil=>simp at h4
      | cons e rE =>
       have:=(hleft e).2 (bm ..);rw[Array.eq_empty_of_size_eq_zero h0] at this;simp at this
 · obtain⟨s,t,rfl⟩:=List.append_of_mem ((hleft e).1 he)
   rw[ct,bj] at h4;obtain⟨rs1,rs2,rfl,e1,e2⟩:=mc.1 h4.symm;obtain⟨x,rs3,rfl,e3,e4⟩:=nc.1 e2;obtain⟨k,v⟩:=x;simp only[Vl,ft] at e3;refine⟨true,e.key,e.val,seen.push e.born,w1,hw1,hr,.inr ⟨O,k,v,rs1++rs3,List.perm_middle,e3.1.symm,e3.2.symm,?_,dE++[e],s++t,?_,?_,?_,?_⟩⟩
   · refine qg ?_ hp
     simp only[cq,cn,b_];exact mo _ List.perm_middle.symm
   · simp[h1]
   · refine qg ?_ h2
     simp only[cq,cn,b_];exact mo _ List.perm_middle.symm
   · simp[h3,Vl,e3]
   · simp[e1,e4]
theorem adz{r:Nat}{seen:Array Nat}{dn rs:List (K × V)}{k:K}{v:V}(hI:rY w r g c seen c)(hM:jF w g es c)(hD:bO ek ev D es c)(hT:oK ek ev D es seen (dn++[(k,v)]) rs) :
 (Instr.entry (.pointer (some ⟨r,0,none⟩))).run P w=.ok (.tuple #[ek k,ev v]) w:=by
 obtain⟨hp,dE,rE,h1,h2,h3,h4⟩:=hT;rw[ct,bj,List.map_nil] at h3;obtain⟨d1,d2,rfl,e1,e2⟩:=mc.1 h3;obtain⟨e,d3,rfl,e3,e4⟩:=nc.1 e2;obtain rfl:d3=[]:=by simpa using e4
 simp only[Vl,ft] at e3;have hs:seen=(d1.map (·.born)).toArray.push e.born:=by
  apply Array.toList_inj.1;rw[h1];simp
 have hm:e∈es.toList:=h2.mem_iff.1 (by simp);rw[hs] at hI;have:=run_entry_at (P:=P) w r g c _ es c e hI hM hm hD.nd;rw[this,e3.1,e3.2]
end
/-! ### Things in memory -/
def mI(g:Nat)(es:Array c_)(c:Nat):It where
 own b:=some g=some b
 P w:=jF w g es c
 lt w b h e:=by cases e;exact h.lt
 st w w' h _ k:=(k g rfl).trans h
def iI(r g c:Nat)(seen:Array Nat):It where
 own b:=some r=some b
 P w:=rY w r g c seen c
 lt w b h e:=by cases e;exact h.lt
 st w w' h _ k:=(k r rfl).trans h
theorem Mem.p{w0 w:aj}{is:List It}(m:Mem w0 w is)(k:Nat){g c:Nat}{es:Array c_}(hk:is[k]? = some (mI g es c)):jF w g es c:=m.get k hk
theorem Mem.r{w0 w:aj}{is:List It}(m:Mem w0 w is)(k:Nat){r g c:Nat}{seen:Array Nat}(hk:is[k]? = some (iI r g c seen)):rY w r g c seen c:=m.get k hk
section
variable {K V:Type} [DecidableEq K] {P:br} {T M E ty:az} {ek:K→ai} {ev:V→ai} {w w0:aj} {g c:Nat} {es:Array c_} {D:List (K × V)} {is:List It}
variable {ds:List dz} {l:List ai} {x y z:bw} {ops:Array Oper} {Q:Exit→Act→aj→Prop} {rest:List Oper} {d:Nat} {pos:String} {after:Array Edge}
theorem mA(m:Mem w0 w is)(h:∀g u,Mem w0 u (mI g #[] 0::is)→ar P ops Q rest (Fr (l.set d (.map (some g))) ds) u):ar P ops Q (bu (some d) (.makeMap M none) ty pos after none::rest) (Fr l ds) w :=
 agF fun u g e hg hM=>h g u (m.new (i:=mI g #[] 0) e hM fun b h=>by cases h;exact hg)
theorem wM(m:Mem w0 w is)(hu:P.underlying M=some (.map T E))(hx:Go.Lith.ev l x=.map (some g))(hM:jF w g es c)(h:∀r u,Mem w0 u (iI r g c #[]::is)→ar P ops Q rest (Fr (l.set d (.pointer (some ⟨r,0,none⟩))) ds) u) :
 ar P ops Q (bu (some d) (.range M x) ty pos after none::rest) (Fr l ds) w :=
 afk hu hx hM fun u r e hr hI=>h r u (m.new (i:=iI r g c #[]) e hI fun b h=>by cases h;exact hr)
end
section
variable {K V:Type} [DecidableEq K] {P:br} {T M E ty:az} {ek:K→ai} {en:V→ai} {w w0:aj} {g c:Nat} {es:Array c_} {D:List (K × V)} {is:List It}
variable {ds:List dz} {l:List ai} {x y z:bw} {ops:Array Oper} {Q:Exit→Act→aj→Prop} {rest:List Oper} {d:Nat} {pos:String} {after:Array Edge}
theorem eH{v0:V}{k:K}(hu:P.underlying M=some (.map T E))(hz:oD P E (en v0))(kt:sR P T ek)(hx:ev l x=.map (some g))(hy:ev l y=ek k)(hM:jF w g es c)(hD:bO ek en D es c):Bb P l (.lookup M x y false) ty (en ((cG D k).getD v0)) w:=fun o ho _=>by
 have:=Nq hu kt hM hD hz k false;simp only[me,if_false] at this;simp[dm,ho,cD,hx,hy,this]
theorem Wv{v0:V}{k:K}(hu:P.underlying M=some (.map T E))(hz:oD P E (en v0))(kt:sR P T ek)(hx:ev l x=.map (some g))(hy:ev l y=ek k)(hM:jF w g es c)(hD:bO ek en D es c):Bb P l (.lookup M x y true) ty (.tuple #[en ((cG D k).getD v0),.bool (cG D k).isSome]) w:=fun o ho _=>by
 have:=Nq hu kt hM hD hz k true;simp only[if_true] at this;simp[dm,ho,cD,hx,hy,this]
theorem nN{v:V}{a:K}(m:Mem w0 w is)(k:Nat)(hk:is[k]? = some (mI g es c))(hu:P.underlying M=some (.map T E))(kt:sR P T ek)(hx:ev l x=.map (some g))(hy:ev l y=ek a)(hz:ev l z=en v)(hD:bO ek en D es c)
 (h:∀es' c' u,Mem w0 u (is.set k (mI g es' c'))→bO ek en (fI D a v) es' c'→ar P ops Q rest (Fr l ds) u):ar P ops Q (bu none (.mapUpdate M x y z) ty pos after none::rest) (Fr l ds) w:=by
 have hM:=m.p k hk;obtain⟨es',c',hr,hD'⟩:=abu hu kt hM hD a v;have hC:=qA (w:=w) (g:=g) (.map es' c');refine Hp (w':=setBlock w g (.map es' c')) (fun o ho=>by simp[dm,ho,cD,hx,hy,hz,hr]) (h es' c' _ ?_ hD');exact m.put k hk hC.os hC.tape hC.output (by rw[hC.size];exact aq _) (fun b _ hne=>hC.block b fun e=>hne (by rw[e];rfl)) (jZ hM) (.inl fun _ h=>h)
theorem Nr{r:Nat}{seen:Array Nat}{dn rs:List (K × V)}(m:Mem w0 w is)(k:Nat)(hk:is[k]? = some (iI r g c seen))(hx:ev l x=.pointer (some ⟨r,0,none⟩))(hM:jF w g es c)(hD:bO ek en D es c)(hT:oK ek en D es seen dn rs)
 (h:∀b kv vv seen' u,Mem w0 u (is.set k (iI r g c seen'))→Nxt ek en D es dn rs b kv vv seen'→ar P ops Q rest (Fr (l.set d (Fv b kv vv)) ds) u) :
 ar P ops Q (bu (some d) (.next x false) ty pos after none::rest) (Fr l ds) w:=by
 have hI:=m.r k hk;obtain⟨b,kv,vv,seen',w1,hw1,hr,hN⟩:=Wu (P:=P) (ty:=ty) (s:=0) hI hM hD hT;refine mM (w':=setBlock w1 r (.mapIter (some g) c seen' c)) (v:=Fv b kv vv) (fun o ho hty=>by simp[dm,ho,cD,hx,hty,hr]) (h b kv vv seen' _ ?_ hN);have e1:w1.heap=w.heap∧w1.os=w.os∧w1.tape=w.tape∧w1.output=w.output:=by rcases hw1 with rfl | rfl <;> exact⟨rfl,rfl,rfl,rfl⟩
 refine m.put k hk e1.2.1 e1.2.2.1 e1.2.2.2 (by simp[setBlock,e1.1]) (fun b' _ hne=>?_) ?_ (.inl fun _ h=>h)
 · have:b'≠r:=fun e=>hne (by rw[e];rfl)
   simp only[setBlock,e1.1];exact iy (Ne.symm this)
 · exact jZ (w:=w1) (o:=.mapIter (some g) c seen c) (by rw[e1.1];exact hI)
theorem qB{b:Bool}{kv vv:ai}(hx:ev l x=Fv b kv vv):gN P l (.extract x 0) ty (.bool b):=fun w o ho _=>by
 cases b <;> simp[dm,ho,cD,hx,Fv,Instr.extract]
theorem tU{r:Nat}{seen:Array Nat}{dn rs:List (K × V)}{k:K}{v:V}(hx:ev l x=.pointer (some ⟨r,0,none⟩))(hI:rY w r g c seen c)(hM:jF w g es c)(hD:bO ek en D es c)(hT:oK ek en D es seen (dn++[(k,v)]) rs) :
 Bb P l (.entry x) ty (.tuple #[ek k,en v]) w:=fun o ho _=>by
 have:=adz (P:=P) hI hM hD hT;simp[dm,ho,cD,hx,this]
theorem mO{f:FuncId}{fo:bw}{xs:Array bw}{args:List ai}{first cap:Array ai}{a0:Array az}{R:ai→It→Prop}(m:Mem w0 w is)(k:Nat)(hE:Entr P f)(hf:ev l fo=.func (.func f) first cap)(hxs:first.toList++xs.toList.map (ev l)++cap.toList=args)
 (hc:Mem w0 w is→Calls P f args.toArray w fun e w'=>∃v i,e=.returned v∧Mem w0 w' (is.set k i)∧R v i) (h:∀v i u,Mem w0 u (is.set k i)→R v i→ar P ops Q rest (Fr (l.set d v) ds) u) :
 ar P ops Q (bu (some d) (.call { callee:=.value fo,args:=xs,argTypes:=a0 }) ty pos after none::rest) (Fr l ds) w:=by
 refine wpList_plain O fun K hK=>?_;unfold Oper.wp;rw[kJ,pM hE hf hxs _ rfl];refine (hc m).mono ?_;rintro e w' ⟨v,i,rfl,hM,hR⟩;show K ((Fr l ds).put (some d) v) w'
 rw[gL];exact hK _ _ (h v i w' hM hR)
end
theorem dK{P:br}{Q:Exit→Act→aj→Prop}{l:List ai}{ds:List dz}{c1 c2:Code}{w:aj}{x:bw}{b:Bool}(hx:ev l x=.bool b)(ht:b=true→c1.wp P Q (Fr l ds) w)(hf:b=false→c2.wp P Q (Fr l ds) w):(Code.cond x c1 c2).wp P Q (Fr l ds) w:=gF hx ht hf
theorem Rm{α:Type}{is:List α}{k:Nat}{i:α}(h:is[k]? = some i):is.set k i=is:=by
 apply fw;intro j;rw[jp];split
 · rename_i e;subst e
   have:=(ap.1 h).1;rw[if_pos this,h]
 · rfl
theorem Lm{K V:Type}[DecidableEq K]:∀{D:List (K × V)} {k:K} {v:V},cG D k=some v→fI D k v=D
 | [],_,_,h=>by cases h
 | x::D,k,v,h=>by
  unfold cG at h;unfold fI;split at h
  · rename_i e;cases h;subst e;rw[if_pos rfl]
  · rename_i e;rw[if_neg e,Lm h]
/-! ### Keys -/
def wV(P:br)(e:Bool)(d:Nat)(T:az)(x:ai):Prop:=∀w,(Instr.checkKey e d T x).run P w=.ok () w
section
variable {P:br} {e:Bool} {d:Nat} {T E:az}
theorem sT{β:Type}{w:aj}(g:β→PUnit→Sem (ForInStep PUnit)):∀(L:List β),(∀x∈L,(g x ⟨⟩).run P w=.ok (.yield ⟨⟩) w)→(forIn L PUnit.unit g:Sem PUnit).run P w=.ok ⟨⟩ w
 | [],_=>by simp
 | x::L,h=>by
  simp only[List.forIn_cons,Sem.run_bind,h x (bm ..),Result.andThen_ok];exact sT g L fun y hy=>h y (bg _ hy)
theorem wV.int{k k':IntKind}{n:Int}(hu:P.underlying T=some (.int k')):wV P e (d+1) T (.int k n):=fun w=>by
 unfold Instr.checkKey;simp[cd hu]
theorem wV.struct{fs:Array Field}{cs:Array ai}(hu:P.underlying T=some (.struct fs))(h:∀f∈fs.toList,∃v,(∀w,(part f.type cs f.offset).run P w=.ok v w)∧wV P e d f.type v):wV P e (d+1) T (.agg cs):=fun w=>by
 unfold Instr.checkKey;simp only[Sem.run_bind,cd hu,Result.andThen_ok];rw[←Array.forIn_toList];refine (congrArg (fun r=>Result.andThen r _) (sT _ fs.toList fun f hf=>?_)).trans (by rfl);obtain⟨v,h1,h2⟩:=h f hf;by_cases hn:f.name = "_"
 · simp[hn]
 · simp[hn,h1 w,h2 w]
theorem wV.array{n c:Nat}{cs:Array ai}(hu:P.underlying T=some (.array n E))(hc:dO P E c)(h:∀i,i<n→∃v,(∀w,(part E cs (i*c)).run P w=.ok v w)∧wV P e d E v):wV P e (d+1) T (.agg cs):=fun w=>by
 unfold Instr.checkKey;simp only[Sem.run_bind,cd hu,Result.andThen_ok];simp only[Std.Legacy.Range.forIn_eq_forIn_range',Std.Legacy.Range.size,Nat.sub_zero,Nat.add_one_sub_one,Nat.div_one];refine (congrArg (fun r=>Result.andThen r _) (sT _ (List.range' 0 n) fun i hi=>?_)).trans (by rfl);obtain⟨v,h1,h2⟩:=h i (by simpa using hi);simp[eG hc,h1 w,h2 w]
theorem sR.agg{K:Type}[DecidableEq K]{ek:K→ai}{cs:K→Array ai}(ha:∀k,ek k=.agg (cs k)){t:TypeDesc}(ht:P.underlying T=some t)(hc:∀e k,wV P e 10000 T (ek k))(he:∀a b,tN P 10000 T (ek a) (ek b) (a=b))(hb:∀a,Instr.sameBits 10000 (ek a) (ek a)=true):sR P T ek where
 chk e k w:=hc e k w
 now:=⟨t,ht,fun a b=>.inl (by rw[ha,ha];cases t <;> rfl)⟩
 eq a b w:=yJ (he a b) w
 bits:=hb
end
end Go.Lith
namespace Go.Lith
open Go.RowKit
variable{w0:aj}{is:List It}{P:br}{T:az}{n:Nat}{α:Type}{op:Op}{q:Prop}{ops:Array Oper}{c:Code}
theorem Mem.gb{w:aj}(m:Mem w0 w is)(k:Nat){g:Nat}{cs:List ai}{t:az}(hk:is[k]? = some (bI g cs t)):w0.heap.size≤g:=m.ge _ (bh hk) g rfl
theorem dB{l:List ai}{x:bw}{ty:az}{a:Addr}(hx:ev l x=.pointer (some a)):gN P l (.nilCheck x) ty (.pointer (some a)):=fun w o ho _=>by
 simp[dm,ho,cD,hx]
inductive Ko where
 | c (c:Code)
 | b (id:Nat)
 | o (ops:Array Oper) (rest:List Oper)
 | k (K:Act→aj→Prop)
 | r (c:Code) (n:Nat)
def Ct(P:br)(R:Exit→Act→aj→Prop):List Ko→Exit→Act→aj→Prop
 | []=>R
 | .c c::s=>Exit.then (c.wp P (Ct P R s)) (Ct P R s)
 | .b id::s=>dl id (Ct P R s)
 | .o ops rest::s=>Exit.then (ar P ops (Ct P R s) rest) (Ct P R s)
 | .k K::s=>Exit.then K (Ct P R s)
 | .r c n::s=>Exit.then (Code.rounds P c (Ct P R s) n) (Ct P R s)
def Gt(P:br)(R:Exit→Act→aj→Prop)(s:List Ko)(a:Act)(w:aj):Prop:=Ct P R s .normal a w
theorem aiS{P:br}{R:Exit→Act→aj→Prop}{a:Act}{w:aj}(h:R .ret a w):∀s,Ct P R s .ret a w
 | []=>h
 | .c _::s | .b _::s | .o _ _::s | .k _::s | .r _ _::s=>aiS h s
/-! ### Values taken apart -/
def rK(v:ai)(f:IntKind→Int→Prop):Prop:=match v with | .int k m=>f k m | _=>False
def vvB(v:ai)(f:Bool→Prop):Prop:=match v with | .bool b=>f b | _=>False
def vvP(v:ai)(f:Addr→Prop):Prop:=match v with | .pointer (some a)=>f a | _=>False
def vvS(v:ai)(f:Option Addr→Nat→Nat→Prop):Prop:=match v with | .slice a n c=>f a n c | _=>False
def vvA(v:ai)(f:List ai→Prop):Prop:=match v with | .agg cs=>f cs.toList | _=>False
def vvT(v:ai)(f:List ai→Prop):Prop:=match v with | .tuple cs=>f cs.toList | _=>False
def Bj{α:Type}(o:Option α)(f:α→Prop):Prop:=match o with | some x=>f x | none=>False
def vbX(b:Bool)(p q:Prop):Prop:=match b with | true=>p | false=>q
def vnX(n:Nat)(p:Prop):Prop:=match n with | 0=>False | _+1=>p
def vnE:Nat→Nat→Prop→Prop→Prop
 | 0,0,p,_=>p
 | n+1,m+1,p,q=>vnE n m p q
 | _,_,_,q=>q
def Ln:List ai→Nat→(ai→Prop)→Prop
 | x::_,0,f=>f x
 | _::l,n+1,f=>Ln l n f
 | [],_,_=>False
def Gp:List ai→Nat→Prop
 | [],0=>True
 | _::l,n+1=>Gp l n
 | _,_=>False
theorem Ej:∀{l:List ai} {n:Nat},Gp l n→l.length=n
 | [],0,_=>rfl
 | _::l,n+1,h=>by rw[av,Ej (l:=l) h]
theorem Pf:∀{l:List ai} {n:Nat} {f:ai→Prop},Ln l n f→∃v,l[n]? = some v∧f v
 | x::_,0,_,h=>⟨x,rfl,h⟩
 | _::l,n+1,_,h=>by rw[ic];exact Pf (l:=l) h
def Zt:List ai→Prop
 | []=>True
 | v::l=>v.oneCell'=true∧Zt l
theorem afl:∀{l:List ai},Zt l→(l.all (·.oneCell'))=true
 | [],_=>rfl
 | v::l,h=>by rw[List.all_cons,h.1,afl (l:=l) h.2];rfl
def InR(k:IntKind)(n:Int):Prop:=match k with
 | .i64=>-9223372036854775808≤n∧n<9223372036854775808
 | .i32=>-2147483648≤n∧n<2147483648
 | .u64=>0≤n∧n<18446744073709551616
 | .u32=>0≤n∧n<4294967296
 | .u8=>0≤n∧n<256
 | _=>False
theorem InR.wrap{k:IntKind}{n:Int}(h:InR k n):k.wrap n=n:=by
 cases k <;> first | exact h.elim | exact bM h.1 h.2 | exact ah2 h.1 h.2 | exact wX h.1 h.2 | exact ah1 h.1 h.2 | exact aeZ h.1 h.2
/-! ### Types -/
def tV(P:br)(T:az):Option (Bool × Nat):=match P.underlying T,P.info? T with
 | some d,some i=>some (Dv d,i.size)
 | _,_=>none
theorem yT{b:Bool}(h:tV P T=some (b,n)):eU P T b∧dO P T n:=by
 unfold tV at h;split at h
 · rename_i d i h1 h2
   cases h;exact⟨⟨d,h1,O⟩,⟨i,h2,O⟩⟩
 · cases h
def oA(P:br)(T:az)(i:Nat):Option (Nat × Bool × Nat):=match P.underlying T with
 | some (.struct fs)=>match fs[i]? with
  | some f=>(tV P f.type).map fun x=>(f.offset,x)
  | none=>none
 | _=>none
theorem afm{i o:Nat}{b:Bool}(h:oA P T i=some (o,b,n)):∃fs f,P.underlying T=some (.struct fs)∧fs[i]? = some f∧f.offset=o∧eU P f.type b∧dO P f.type n:=by
 unfold oA at h;split at h
 · rename_i fs hu
   split at h
   · rename_i f hf
     cases hs:tV P f.type with
     | none=>rw[hs] at h;cases h
     | some x =>
      obtain⟨b',n'⟩:=x;rw[hs] at h;cases h;exact⟨fs,f,hu,hf,O,(yT hs).1,(yT hs).2⟩
   · cases h
 · cases h
def ixP(P:br)(T:az):Option (Option Nat × Nat):=match P.underlying T with
 | some (.array n E)=>(tV P E).map fun x=>(some n,x.2)
 | some (.slice E)=>(tV P E).map fun x=>(none,x.2)
 | _=>none
def Im(P:br)(T:az):Option az:=match P.underlying T with
 | some (.slice E)=>some E
 | _=>none
theorem amR{E:az}(h:Im P T=some E):P.underlying T=some (.slice E):=by
 unfold Im at h;split at h
 · rename_i E' hu;cases h;exact hu
 · cases h
def ikP(P:br)(T:az):Option IntKind:=match P.underlying T with
 | some (.int k)=>some k
 | _=>none
theorem aiT{k:IntKind}(h:ikP P T=some k):P.underlying T=some (.int k):=by
 unfold ikP at h;split at h
 · rename_i k' hu;cases h;exact hu
 · cases h
def Lo(P:br)(T:az):Option (List ai):=((P.info? T).bind (·.zero)).map (·.cells.toList)
theorem Zu{cs:List ai}(h:Lo P T=some cs):∃z,oD P T z∧z.cells=cs.toArray:=by
 unfold Lo at h;cases hz:(P.info? T).bind (·.zero) with
 | none=>rw[hz] at h;cases h
 | some z=>rw[hz] at h;cases h;exact⟨z,kV hz,by simp⟩
def xI(P:br)(T:az):Option (List (Nat × Nat) × List ai):=match P.underlying T,Lo P T with
 | some (.struct fs),some z=>(fs.toList.mapM fun (f:Field)=>(tV P f.type).map fun x=>(f.offset,x.2)).map fun l=>(l,z)
 | some (.array n E),some z=>(tV P E).map fun x=>((df n).map fun i=>(i*x.2,x.2),z)
 | _,_=>none
def Zv:List (Nat × Nat)→Nat→(Nat × Nat→Prop)→Prop
 | x::_,0,f=>f x
 | _::l,n+1,f=>Zv l n f
 | [],_,_=>False
def blV(l:List ai)(pl:List (Nat × Nat)):List (Nat × bw)→List ai→Prop→(Prop→List ai→Prop)→Prop
 | [],cs,q,f=>f q cs
 | (i,x)::ps,cs,q,f=>Zv pl i fun z=>vnX z.2 (blV l pl ps (over cs z.1 (ev l x).cells.toList) (Gp (ev l x).cells.toList z.2∧Gp ((cs.drop z.1).take z.2) z.2∧q) f)
/-! ### Operations -/
def vvX(n:Option Nat)(v:ai)(f:Addr→Nat→Prop):Prop:=match n with
 | some n=>vvP v fun a=>f a n
 | none=>vvS v fun A n _=>Bj A fun a=>f a n
abbrev KV:Type:=Prop→ai→List Nat→List It→Prop
variable{K:KV}
def cV(sc:List Nat)(p:Prop)[Decidable p](K:KV)(is:List It):Prop:=match sc with
 | 0::sc=>K True (.bool (decide p)) sc is
 | 1::sc=>K p (.bool true) sc is
 | 2::sc=>K (¬p) (.bool false) sc is
 | _=>False
def biV(b:BinOp)(x y:ai)(sc:List Nat)(is:List It)(K:KV):Prop:=match b with
 | .add=>rK x fun k m=>rK y fun k' n=>K (k'=k∧InR k (m+n)) (.int k (m+n)) sc is
 | .sub=>rK x fun k m=>rK y fun k' n=>K (k'=k∧InR k (m-n)) (.int k (m-n)) sc is
 | .mul=>rK x fun k m=>rK y fun k' n=>K (k'=k∧InR k (m*n)) (.int k (m*n)) sc is
 | .lss=>rK x fun k m=>rK y fun k' n=>cV sc (m<n) (fun p=>K (k'=k∧p)) is
 | .leq=>rK x fun k m=>rK y fun k' n=>cV sc (m≤n) (fun p=>K (k'=k∧p)) is
 | .gtr=>rK x fun k m=>rK y fun k' n=>cV sc (n<m) (fun p=>K (k'=k∧p)) is
 | .geq=>rK x fun k m=>rK y fun k' n=>cV sc (n≤m) (fun p=>K (k'=k∧p)) is
 | .eql=>rK x fun k m=>rK y fun k' n=>cV sc (m=n) (fun p=>K (k'=k∧p)) is
 | .neq=>rK x fun k m=>rK y fun k' n=>cV sc (m≠n) (fun p=>K (k'=k∧p)) is
 | _=>False
abbrev Ob:Type:=Nat × List ai × az
def atO:List Ob→Nat→(Ob→Prop)→Prop
 | x::_,0,f=>f x
 | _::l,n+1,f=>atO l n f
 | [],_,_=>False
def atB:List It→List Ob→Nat→(Ob→Prop)→Prop
 | i::_,_,0,f=>Bj i.bk f
 | _::is,os,n+1,f=>atB is os n f
 | [],os,n,f=>atO os n f
def atM:List It→Nat→(Ob→Prop)→Prop
 | i::_,0,f=>Bj i.bk f
 | _::is,n+1,f=>atM is n f
 | [],_,_=>False
theorem aiW:∀{os:List Ob} {k:Nat} {f:Ob→Prop},atO os k f→∃x∈os,f x
 | x::_,0,_,h=>⟨x,bm ..,h⟩
 | _::os,k+1,_,h=>let ⟨x,hx,hf⟩:=aiW (os:=os) h;⟨x,bg _ hx,hf⟩
theorem oX{o:Option α}{f:α→Prop}(h:Bj o f):∃x,o=some x∧f x:=by
 cases o with
 | none=>exact h.elim
 | some x=>exact⟨x,rfl,h⟩
theorem adC:∀{is:List It} {k:Nat} {f:Ob→Prop},atM is k f→∃i x,is[k]? = some i∧i.bk=some x∧f x
 | i::_,0,_,h=>let ⟨x,hx,hf⟩:=oX h;⟨i,x,rfl,hx,hf⟩
 | _::is,k+1,_,h=>by rw[ic];exact adC (is:=is) h
theorem aiX:∀{is:List It} {os:List Ob} {k:Nat} {f:Ob→Prop},atB is os k f→(∃i∈is,∃x,i.bk=some x∧f x)∨∃x∈os,f x
 | i::_,_,0,_,h=>let ⟨x,hx,hf⟩:=oX h;.inl ⟨i,bm ..,x,hx,hf⟩
 | _::is,os,k+1,_,h=>(aiX (is:=is) (os:=os) h).imp (fun⟨i,hi,r⟩=>⟨i,bg _ hi,r⟩) id
 | [],_,_,_,h=>.inr (aiW h)
def caV(P:br)(l:List ai)(is:List It)(b:Builtin)(xs:List bw)(ts:List az)(sc:List Nat)(K:KV):Prop:=match b,xs,ts with
 | .len,[x],[T]=>Bj (Im P T) fun _=>vvS (ev l x) fun _ n _=>K True (.int .i64 n) sc is
 | .min,[x,y],_=>rK (ev l x) fun k m=>rK (ev l y) fun k' n=>K (k'=k) (.int k (if n<m then n else m)) sc is
 | .max,[x,y],_=>rK (ev l x) fun k m=>rK (ev l y) fun k' n=>K (k'=k) (.int k (if m<n then n else m)) sc is
 | _,_,_=>False
def Fw(P:br)(l:List ai)(is:List It)(os:List Ob)(pr:Bool)(op:Op)(sc:List Nat)(K:KV):Prop:=match op with
 | .move x=>K True (ev l x) sc is
 | .assign x=>K True (ev l x) sc is
 | .nilCheck x=>vvP (ev l x) fun a=>K True (.pointer (some a)) sc is
 | .pick c x y=>vvB (ev l c) fun b=>vbX b (K True (ev l x) sc is) (K True (ev l y) sc is)
 | .binOp b _ x y _=>biV b (ev l x) (ev l y) sc is K
 | .unOp .not _ x=>vvB (ev l x) fun b=>K True (.bool (!b)) sc is
 | .unOp .neg _ x=>rK (ev l x) fun k m=>K (InR k (0-m)) (.int k (0-m)) sc is
 | .convert T T' x=>Bj (ikP P T) fun _=>Bj (ikP P T') fun k=>rK (ev l x) fun _ m=>K (InR k m) (.int k m) sc is
 | .fieldAddr T x i=>Bj (oA P T i) fun f=>vvP (ev l x) fun a=>vnX f.2.2 (K True (.pointer (some (a.add f.1))) sc is)
 | .indexAddr T x y=>Bj (ixP P T) fun z=>vvX z.1 (ev l x) fun a n=>rK (ev l y) fun _ m=>K (0≤m∧m<n) (.pointer (some (a.add (m.toNat*z.2)))) sc is
 | .field T x i=>Bj (oA P T i) fun f=>vvA (ev l x) fun cs=>vbX f.2.1 (K True (.agg ((cs.drop f.1).take f.2.2).toArray) sc is) (Ln cs f.1 fun v=>K True v sc is)
 | .build T parts=>Bj (xI P T) fun z=>blV l z.1 parts.toList z.2 True fun q cs=>K q (.agg cs.toArray) sc is
 | .extract x i=>vvT (ev l x) fun cs=>Ln cs i fun v=>K True v sc is
 | .load T x=>match sc with
  | k::sc=>Bj (tV P T) fun z=>vvP (ev l x) fun a=>atB is os k fun g=>vbX z.1 (K (a=⟨g.1,a.off,none⟩∧Gp ((g.2.1.drop a.off).take z.2) z.2) (.agg ((g.2.1.drop a.off).take z.2).toArray) sc is) (Ln g.2.1 a.off fun v=>K (a=⟨g.1,a.off,none⟩) v sc is)
  | []=>False
 | .box T x=>vbX pr False (∀g,K True (.pointer (some ⟨g,0,none⟩)) sc (bI g (ev l x).cells.toList T::is))
 | .alloc T=>vbX pr False (Bj (Lo P T) fun z=>∀g,K True (.pointer (some ⟨g,0,none⟩)) sc (bI g z T::is))
 | .call c=>match c.callee with
  | .builtin b=>caV P l is b c.args.toList c.argTypes.toList sc K
  | _=>False
 | _=>False
def stV(P:br)(l:List ai)(is:List It)(pr:Bool)(op:Op)(sc:List Nat)(K:KV):Prop:=match op,sc with
 | .store T x y,k::sc=>vbX pr False (Bj (tV P T) fun z=>vnX z.2 (vvP (ev l x) fun a=>atM is k fun g=>K (a=⟨g.1,a.off,none⟩∧Gp ((g.2.1.drop a.off).take z.2) z.2∧Gp (ev l y).cells.toList z.2∧Zt (ev l y).cells.toList) undef sc (is.set k (bI g.1 (over g.2.1 a.off (ev l y).cells.toList) g.2.2))))
 | _,_=>False
def vyv(ops:List Oper)(l:List ai)(j:Nat):ai:=match ops[j]? with
 | some o=>match o.dst with
  | some d=>l.getD d undef
  | none=>undef
 | none=>undef
def vvG(v:ai)(b:Bool)(p q:Prop):Prop:=match v with
 | .bool c=>if c=b then p else q
 | .tuple _=>q
 | _=>False
def Rn(ops:Array Oper)(l:List ai)(g:Option (Nat × Bool))(p q:Prop):Prop:=match g with
 | none=>p
 | some (j,b)=>vvG (vyv ops.toList l j) b p q
def Ut(id:Nat):List Ko→(List Ko→Prop)→Prop
 | .b j::s,f=>vnE id j (f s) (Ut id s f)
 | .c _::s,f=>Ut id s f
 | .o _ _::s,f=>Ut id s f
 | .k _::s,f=>Ut id s f
 | .r _ _::s,f=>Ut id s f
 | [],_=>False
abbrev Kw:Type:=Option (Bool × aj)
def kr:Bool→aj→aj→Prop
 | true,v,w=>v=w
 | false,v,w=>fQ v w
def kpt(k:Kw)(w:aj):Prop:=∀b v,k=some (b,v)→kr b v w
def kpb:Kw→Bool
 | some (b,_)=>b
 | none=>false
def aiZ(w0:aj)(is:List It)(X:aj→Prop):Kw→Prop
 | some (true,v)=>X v
 | k=>∀w,Mem w0 w is→kpt k w→X w
theorem afo{w:aj}{X:aj→Prop}{k:Kw}(h:aiZ w0 is X k)(m:Mem w0 w is)(hk:kpt k w):X w:=by
 rcases k with _ | ⟨b,v⟩
 · exact h w m hk
 · cases b
   · exact h w m hk
   · have e:v=w:=hk true v rfl
     exact e▸h
def V(P:br)(R:Exit→Act→aj→Prop)(w0:aj)(ds:List dz)(kw:Kw):Nat→List Nat→Prop→List Ko→List ai→List It→Prop
 | 0,_,q,s,l,is=>q∧aiZ w0 is (Gt P R s (Fr l ds)) kw
 | n+1,sc,q,.b _::s,l,is=>V P R w0 ds kw n sc q s l is
 | n+1,sc,q,.o _ []::s,l,is=>V P R w0 ds kw n sc q s l is
 | n+1,sc,q,.o ops (o::rest)::s,l,is=>match o.dst with
  | some d=>Rn ops l o.guard (Fw P l is [] (kpb kw) o.op sc fun vc v sc is=>V P R w0 ds kw n sc (vc∧q) (.o ops rest::s) (l.set d v) is) (V P R w0 ds kw n sc q (.o ops rest::s) (l.set d undef) is)
  | none=>Rn ops l o.guard (stV P l is kw.isSome o.op sc fun vc _ sc is=>V P R w0 ds kw n sc (vc∧q) (.o ops rest::s) l is) (V P R w0 ds kw n sc q (.o ops rest::s) l is)
 | n+1,sc,q,.c c::s,l,is=>match c with
  | .seq a b=>V P R w0 ds kw n sc q (.c a :: .c b::s) l is
  | .skip=>V P R w0 ds kw n sc q s l is
  | .block id c=>V P R w0 ds kw n sc q (.c c :: .b id::s) l is
  | .exit id=>Ut id s fun s=>V P R w0 ds kw n sc q s l is
  | .ret=>q∧aiZ w0 is (R .ret (Fr l ds)) kw
  | .cond x a b=>vvB (ev l x) fun t=>vbX t (V P R w0 ds kw n sc q (.c a::s) l is) (V P R w0 ds kw n sc q (.c b::s) l is)
  | .region _ ops d=>vbX d False (V P R w0 ds kw n sc q (.o ops ops.toList::s) l is)
  | .loop c=>match sc with
   | k::sc=>V P R w0 ds kw n sc q (.r c k::s) l is
   | []=>False
  | _=>False
 | n+1,sc,q,.r c (k+1)::s,l,is=>V P R w0 ds kw n sc q (.c c :: .r c k::s) l is
 | _,_,_,_,_,_=>False
theorem sU{v:ai}{f:IntKind→Int→Prop}(h:rK v f):∃k m,v=.int k m∧f k m:=by
 cases v <;> first | exact h.elim | exact⟨_,_,rfl,h⟩
theorem adD{v:ai}{f:Bool→Prop}(h:vvB v f):∃b,v=.bool b∧f b:=by
 cases v <;> first | exact h.elim | exact⟨_,rfl,h⟩
theorem Lp{v:ai}{f:Addr→Prop}(h:vvP v f):∃a,v=.pointer (some a)∧f a:=by
 cases v with
 | pointer a=>cases a with
  | none=>exact h.elim
  | some a=>exact⟨_,rfl,h⟩
 | _=>exact h.elim
theorem ai0{v:ai}{f:Option Addr→Nat→Nat→Prop}(h:vvS v f):∃a n c,v=.slice a n c∧f a n c:=by
 cases v <;> first | exact h.elim | exact⟨_,_,_,rfl,h⟩
theorem ap4{v:ai}{f:List ai→Prop}(h:vvA v f):∃cs,v=.agg cs∧f cs.toList:=by
 cases v <;> first | exact h.elim | exact⟨_,rfl,h⟩
theorem ap5{v:ai}{f:List ai→Prop}(h:vvT v f):∃cs,v=.tuple cs∧f cs.toList:=by
 cases v <;> first | exact h.elim | exact⟨_,rfl,h⟩
theorem Zw{p:Prop}(h:vnX n p):∃m,n=m+1∧p:=by
 cases n with
 | zero=>exact h.elim
 | succ m=>exact⟨m,rfl,h⟩
theorem ai1:∀{n m:Nat} {p q:Prop},vnE n m p q→(n=m∧p)∨(n≠m∧q)
 | 0,0,_,_,h=>.inl ⟨rfl,h⟩
 | n+1,m+1,_,_,h=>(ai1 (n:=n) (m:=m) h).imp (fun⟨e,h⟩=>⟨by rw[e],h⟩) fun⟨e,h⟩=>⟨fun c=>e (Nat.succ.inj c),h⟩
 | 0,_+1,_,_,h=>.inr ⟨fun c=>(by cases c),h⟩
 | _+1,0,_,_,h=>.inr ⟨fun c=>(by cases c),h⟩
section
variable {P:br} {l:List ai} {is:List It} {os:List Ob} {w0:aj} {ds:List dz}
def Yd(P:br)(l:List ai)(is:List It)(w0:aj)(op:Op)(v:ai):Prop:=∀w,Mem w0 w is→∀ty,Bb P l op ty v w
theorem pE{v:ai}(h:∀ty,gN P l op ty v):Yd P l is w0 op v:=fun w _ ty=>h ty w
theorem asz{sc:List Nat}{p:Prop}[Decidable p]{is':List It}(h:cV sc p (fun p=>K (q∧p)) is'):∃vc v sc',K (q∧vc) v sc' is'∧(vc→∀{X:ai→Prop},(X (.bool (decide p)))→X v):=by
 unfold cV at h;split at h
 · exact⟨_,_,_,h,fun _ _ hX=>hX⟩
 · exact⟨_,_,_,h,fun hp X hX=>by rwa [decide_eq_true hp] at hX⟩
 · exact⟨_,_,_,h,fun hp X hX=>by rwa [decide_eq_false hp] at hX⟩
 · exact h.elim
theorem ap6{b:BinOp}{x y:bw}{T':az}{sc:List Nat}(h:biV b (ev l x) (ev l y) sc is K):∃vc v sc',K vc v sc' is∧(vc→Yd P l is w0 (.binOp b T x y T') v):=by
 cases b
 case add | sub | mul =>
  obtain⟨k,m,hx,h⟩:=sU h;obtain⟨k',n,hy,h⟩:=sU h;refine⟨_,_,_,h,fun⟨e,hr⟩=>pE fun ty=>?_⟩;subst e
  first | exact fB hx hy hr.wrap | exact Aw hx hy hr.wrap | exact lC hx hy hr.wrap
 case lss | leq | gtr | geq | eql | neq =>
  obtain⟨k,m,hx,h⟩:=sU h;obtain⟨k',n,hy,h⟩:=sU h;obtain⟨vc,v,sc',h,hX⟩:=asz h;refine⟨_,_,_,h,fun⟨e,hv⟩=>?_⟩;subst e;refine hX hv (X:=fun v=>Yd P l is w0 _ v) (pE fun ty=>?_)
  first | exact rR hx hy | exact Fj hx hy | exact aa1 hx hy | exact Ho hx hy | exact uJ hx hy | exact rS hx hy
 all_goals exact h.elim
theorem ap7{b:Builtin}{xs:List bw}{ts:List az}{sc:List Nat}(h:caV P l is b xs ts sc K):∃vc v sc',K vc v sc' is∧(vc→Yd P l is w0 (.call { callee:=.builtin b,args:=xs.toArray,argTypes:=ts.toArray }) v):=by
 unfold caV at h;split at h
 · obtain⟨E,hE,h⟩:=oX h
   obtain⟨a,n,c,hx,h⟩:=ai0 h;exact⟨_,_,_,h,fun _=>pE fun ty=>Kv O (amR hE) hx⟩
 · obtain⟨k,m,hx,h⟩:=sU h
   obtain⟨k',n,hy,h⟩:=sU h;refine⟨_,_,_,h,fun e=>pE fun ty=>?_⟩;subst e;exact asj hx hy O
 · obtain⟨k,m,hx,h⟩:=sU h
   obtain⟨k',n,hy,h⟩:=sU h;refine⟨_,_,_,h,fun e=>pE fun ty=>?_⟩;subst e;exact wW hx hy O
 · exact h.elim
theorem amW{k:Nat}{f:Ob→Prop}(hos:∀x∈os,fR w0 x.1 x.2.1 x.2.2)(h:atB is os k f):∃x:Ob,(∀w,Mem w0 w is→fR w x.1 x.2.1 x.2.2)∧f x:=by
 rcases aiX h with ⟨i,hi,x,hx,hf⟩ | ⟨x,hx,hf⟩
 · exact⟨x,fun w m=>(i.bkP x hx).2 w (m.all i hi),hf⟩
 · exact⟨x,fun w m=>(hos x hx).ext m.ext,hf⟩
theorem Zx(cs:Array ai)(o n:Nat):cs.extract o (o+n)=((cs.toList.drop o).take n).toArray:=by
 apply Array.ext';simp
theorem afp:∀{l:List (Nat × Nat)} {n:Nat} {f:Nat × Nat→Prop},Zv l n f→∃z,l[n]? = some z∧f z
 | x::_,0,_,h=>⟨x,rfl,h⟩
 | _::l,n+1,_,h=>by rw[ic];exact afp (l:=l) h
theorem agH{cs us:List ai}{o:Nat}{c:ai}(h:o<cs.length):over (cs.set o c) (o+1) us=over cs o (c::us):=by
 unfold over;have e1:(cs.set o c).take (o+1)=cs.take o++[c]:=by
  rw[ob,List.take_set_of_le (aq o),List.getElem?_set_self h];rfl
 have e2:(cs.set o c).drop (o+1+us.length)=cs.drop (o+(us.length+1)):=by
  rw[List.drop_set_of_lt (by omega)]
  congr 1
  omega
 rw[e1,e2];simp
theorem Ww:∀(us:List ai) (off k:Nat) (cs:Array ai),off+k+us.length≤cs.size →
 (us.zipIdx k).foldl (fun (cs:Array ai) (x:ai × Nat)=>cs.setIfInBounds (off+x.2) x.1) cs=(over cs.toList (off+k) us).toArray
 | [],off,k,cs,h=>by simp[over]
 | c::us,off,k,cs,h=>by
  simp only[av] at h;rw[List.zipIdx_cons,jx,Ww us off (k+1) _ (by simp;omega),←agH (by simp;omega)];simp[Nat.add_assoc]
theorem agI{place:Nat→Option (Nat × Nat)}{cells:Array ai}{i off size:Nat}{v:ai}{rest:List (Nat × ai)}(hp:place i=some (off,size))(hs:v.cells.size=size)(hf:off+size≤cells.size) :
 Instr.fill place cells ((i,v)::rest)=Instr.fill place (over cells.toList off v.cells.toList).toArray rest:=by
 have hc:¬(v.cells.size≠size||off+v.cells.size>cells.size)=true:=by simp;omega
 have hfo:=Ww v.cells.toList off 0 cells (by simp;omega);rw[Instr.fill];simp only[hp];rw[if_neg hc]
 congr 1
 rw[←Array.foldl_toList,Array.toList_zipIdx];exact hfo
theorem ai2{pl:List (Nat × Nat)}:∀{ps:List (Nat × bw)} {cs:List ai} {q:Prop} {f:Prop→List ai→Prop},blV l pl ps cs q f →
 ∃q' cs',f q' cs'∧(q'→q∧Instr.fill (fun i=>pl[i]?) cs.toArray (ps.map fun x=>(x.1,ev l x.2))=some cs'.toArray)
 | [],cs,q,f,h=>⟨q,cs,h,fun hq=>⟨hq,rfl⟩⟩
 | (i,x)::ps,cs,q,f,h=>by
  obtain⟨z,hz,h⟩:=afp h;obtain⟨k,hk,h⟩:=Zw h;obtain⟨q',cs',hf,hq⟩:=ai2 h;refine⟨q',cs',hf,fun h=>?_⟩;obtain⟨⟨h1,h2,hq0⟩,hfl⟩:=hq h;have h1:=Ej h1;have h2:=Ej h2;rw[bp,fl] at h2;refine⟨hq0,?_⟩;rw[bj,agI (off:=z.1) (size:=z.2) (by rw[hz]) (by simpa using h1) ?_]
  · exact hfl
  · simp
    omega
theorem Wx{p p':Nat→Option (Nat × Nat)}(h:∀i x,p i=some x→p' i=some x):∀{l:List (Nat × ai)} {cells cs:Array ai},Instr.fill p cells l=some cs→Instr.fill p' cells l=some cs
 | [],_,_,e=>e
 | (i,v)::l,cells,cs,e=>by
  rw[Instr.fill] at e ⊢;cases hp:p i with
  | none=>rw[hp] at e;cases e
  | some x =>
   rw[hp] at e;rw[h i x hp];simp only at e ⊢;split at e
   · cases e
   · rename_i hc
     rw[if_neg hc];exact Wx h e
theorem Ro{P:br}:∀{fs:List Field} {l:List (Nat × Nat)},fs.mapM (fun (f:Field)=>(tV P f.type).map fun x=>(f.offset,x.2))=some l→∀w,(fs.mapM fun f=>do pure (f.offset,←sizeOf f.type):Sem (List (Nat × Nat))).run P w=.ok l w
 | [],l,h,w=>by
  rw[List.mapM_nil] at h ⊢;cases h;rfl
 | f::fs,l,h,w=>by
  rw[List.mapM_cons] at h ⊢;cases hs:tV P f.type with
  | none=>rw[hs] at h;cases h
  | some x =>
   obtain⟨b,n⟩:=x;rw[hs] at h;cases hm:fs.mapM (fun (f:Field)=>(tV P f.type).map fun x=>(f.offset,x.2)) with
   | none=>simp[hm] at h
   | some l' =>
    simp[hm] at h;subst h;have hr:=Ro hm w;simp only[bind_pure_comp] at hr;simp[eG (yT hs).2,hr]
theorem amX{P:br}{pl:List (Nat × Nat)}{z:List ai}(h:xI P T=some (pl,z)){vs:Array (Nat × ai)}{cs:List ai}(hf:Instr.fill (fun i=>pl[i]?) z.toArray vs.toList=some cs.toArray)(w:aj):(Instr.build T vs).run P w=.ok (.agg cs.toArray) w:=by
 unfold xI at h;split at h
 · rename_i fs z' hu hz
   obtain⟨z0,hz0,hzc⟩:=Zu hz;cases hm:fs.toList.mapM (fun (f:Field)=>(tV P f.type).map fun x=>(f.offset,x.2)) with
   | none=>rw[hm] at h;cases h
   | some l' =>
    rw[hm] at h;cases h;refine gT (places:=pl.toArray) hu hz0 (fun w=>?_) (by rw[hzc];simpa using hf) w;have hr:=Ro hm w;rw[ik];simp only[bind_pure_comp] at hr ⊢;simp[hr]
 · rename_i n E z' hu hz
   obtain⟨z0,hz0,hzc⟩:=Zu hz;cases hs:tV P E with
   | none=>rw[hs] at h;cases h
   | some x =>
    obtain⟨b,c⟩:=x;rw[hs] at h;cases h;refine kP hu hz0 (yT hs).2 ?_ w;rw[hzc];refine Wx (fun i x hx=>?_) hf;rw[fb] at hx;cases hr:(df n)[i]? with
    | none=>rw[hr] at hx;cases hx
    | some j =>
     rw[hr] at hx;have:=ap.1 hr;obtain⟨h1,h2⟩:=this;rw[List.getElem_range] at h2;subst h2;cases hx;rfl
 · cases h
def Bx(P:br)(l:List ai)(is:List It)(w0:aj)(ds:List dz)(op:Op)(cs:List ai)(T:az):Prop:=∀(d:Nat) (ty:az) (pos:String) (af:Array Edge) (ops:Array Oper) (Q:Exit→Act→aj→Prop) (rest:List Oper) (w:aj),Mem w0 w is→(∀g u,fQ w u→Mem w0 u (bI g cs T::is)→ar P ops Q rest (Fr (l.set d (.pointer (some ⟨g,0,none⟩))) ds) u)→ar P ops Q (bu (some d) op ty pos af none::rest) (Fr l ds) w
theorem Zy{pr:Bool}{op:Op}{sc:List Nat}{K:KV}(hos:∀x∈os,fR w0 x.1 x.2.1 x.2.2)(h:Fw P l is os pr op sc K) :
 (∃vc v sc',K vc v sc' is∧(vc→Yd P l is w0 op v))∨(pr=false∧∃cs T,(∀g,K True (.pointer (some ⟨g,0,none⟩)) sc (bI g cs T::is))∧Bx P l is w0 ds op cs T):=by
 unfold Fw at h;split at h
 · exact .inl ⟨_,_,_,h,fun _=>pE fun ty=>aI⟩
 · exact .inl ⟨_,_,_,h,fun _=>pE fun ty=>aO⟩
 · obtain⟨a,hx,h⟩:=Lp h
   exact .inl ⟨_,_,_,h,fun _=>pE fun ty=>dB hx⟩
 · obtain⟨b,hc,h⟩:=adD h
   cases b
   · exact .inl ⟨_,_,_,h,fun _=>pE fun ty=>Hs hc⟩
   · exact .inl ⟨_,_,_,h,fun _=>pE fun ty=>tL hc⟩
 · exact .inl (ap6 h)
 · obtain⟨b,hx,h⟩:=adD h
   exact .inl ⟨_,_,_,h,fun _=>pE fun ty=>rT hx⟩
 · obtain⟨k,m,hx,h⟩:=sU h
   exact .inl ⟨_,_,_,h,fun hr=>pE fun ty=>uK hx hr.wrap⟩
 · obtain⟨k1,h1,h⟩:=oX h
   obtain⟨k2,h2,h⟩:=oX h;obtain⟨k,m,hx,h⟩:=sU h;exact .inl ⟨_,_,_,h,fun hr=>pE fun ty=>jA (aiT h2) (aiT h1) hx hr.wrap⟩
 · obtain⟨f,hf,h⟩:=oX h
   obtain⟨a,hx,h⟩:=Lp h;obtain⟨m,hm,h⟩:=Zw h;obtain⟨o,b,n⟩:=f;obtain⟨fs,f,h1,h2,h3,h4,h5⟩:=afm hf;simp only at hm h;rw[hm] at h5;exact .inl ⟨_,_,_,h,fun _=>pE fun ty=>aV h1 h2 h5 hx (by rw[h3])⟩
 · obtain⟨⟨z,c⟩,hz,h⟩:=oX h
   unfold ixP at hz;split at hz
   · rename_i n E hu
     cases hs:tV P E with
     | none=>rw[hs] at hz;cases hz
     | some x =>
      obtain⟨b,c'⟩:=x;rw[hs] at hz;cases hz;obtain⟨a,hx,h⟩:=Lp (show vvP _ _ from h);obtain⟨k,m,hy,h⟩:=sU h;exact .inl ⟨_,_,_,h,fun hv=>pE fun ty=>aK hu (yT hs).2 hx hy hv.1 hv.2 O⟩
   · rename_i E hu
     cases hs:tV P E with
     | none=>rw[hs] at hz;cases hz
     | some x =>
      obtain⟨b,c'⟩:=x;rw[hs] at hz;cases hz;obtain⟨A,n,cp,hx,h⟩:=ai0 (show vvS _ _ from h);obtain⟨a,rfl,h⟩:=oX h;obtain⟨k,m,hy,h⟩:=sU h;exact .inl ⟨_,_,_,h,fun hv=>pE fun ty=>aF hu (yT hs).2 hx hy hv.1 hv.2 O⟩
   · cases hz
 · obtain⟨f,hf,h⟩:=oX h
   obtain⟨cs,hx,h⟩:=ap4 h;obtain⟨o,b,n⟩:=f;obtain⟨fs,f,h1,h2,h3,h4,h5⟩:=afm hf;simp only at h;cases b
   · obtain⟨v,hv,h⟩:=Pf h
     exact .inl ⟨_,_,_,h,fun _=>pE fun ty=>ah3 h1 h2 h4 hx (by rw[h3];simpa using hv)⟩
   · exact .inl ⟨_,_,_,h,fun _=>pE fun ty=>ah4 h1 h2 h4 h5 hx (by rw[h3];exact Zx _ _ _)⟩
 · obtain⟨⟨pl,z⟩,hz,h⟩:=oX h
   obtain⟨q,cs,h,hq⟩:=ai2 h;exact .inl ⟨_,_,_,h,fun hv=>pE fun ty=>oN O (amX hz (by simpa using (hq hv).2))⟩
 · obtain⟨cs,hx,h⟩:=ap5 h
   obtain⟨v,hv,h⟩:=Pf h;exact .inl ⟨_,_,_,h,fun _=>pE fun ty=>eY hx (by simpa using hv)⟩
 · split at h
   · obtain⟨z,hz,h⟩:=oX h
     obtain⟨a,hx,h⟩:=Lp h;obtain⟨g,hB,h⟩:=amW hos h;obtain⟨b,n⟩:=z;have hA:=(yT hz).1;have hC:=(yT hz).2;cases b
     · obtain⟨v,hv,h⟩:=Pf h
       exact .inl ⟨_,_,_,h,fun e w m ty=>aZ hx (by rw[e];exact (hB w m).lies1 hA hv)⟩
     · exact .inl ⟨_,_,_,h,fun e w m ty=>aZ hx (by rw[e.1];exact (hB w m).lies hA hC O (Ej e.2))⟩
   · exact h.elim
 · cases pr
   · refine .inr ⟨O,_,_,h,fun d ty pos af ops Q rest w m hk=>ah0 (by simp) fun u g e hg hB=>hk g u e (m.newB e hg hB)⟩
   · exact h.elim
 · cases pr
   · obtain⟨cs,hz,h⟩:=oX (show Bj _ _ from h)
     obtain⟨z,h1,h2⟩:=Zu hz;refine .inr ⟨O,_,_,h,fun d ty pos af ops Q rest w m hk=>Dw h1 h2 fun u g e hg hB=>hk g u e (m.newB e hg hB)⟩
   · exact h.elim
 · rename_i c
   split at h
   · rename_i b hb
     obtain⟨ce,xs,ts⟩:=c;simp only at hb h;subst hb;have:=ap7 (w0:=w0) h;simpa using Or.inl this
   · exact h.elim
 · exact h.elim
theorem ai3{pr:Bool}{sc:List Nat}(h:stV P l is pr op sc K):pr=false∧∃vc sc' is',K vc undef sc' is'∧(vc→∀(ty:az) (pos:String) (af:Array Edge) (ops:Array Oper) (Q:Exit→Act→aj→Prop) (rest:List Oper) (w:aj),Mem w0 w is→(∀u,Mem w0 u is'→ar P ops Q rest (Fr l ds) u)→ar P ops Q (bu none op ty pos af none::rest) (Fr l ds) w):=by
 unfold stV at h;split at h
 · rename_i T x y k sc
   cases pr with
   | true=>exact h.elim
   | false =>
   obtain⟨z,hz,h⟩:=oX (show Bj _ _ from h);obtain⟨n,hn,h⟩:=Zw h;obtain⟨a,hx,h⟩:=Lp h;obtain⟨i,g,hi,hb,h⟩:=adC h;obtain⟨b,z⟩:=z;refine⟨O,_,_,_,h,fun⟨e,h1,h2,h3⟩ ty pos af ops Q rest w m hk=>?_⟩;have hC:=(yT hz).2;have h1:=Ej h1;have h2:=Ej h2;simp only at hn h1 h2;have hP:=i.bkP g hb;have hB:=hP.2 w (m.all i (bh hi));rw[e] at hx;refine yD hx (us:=(ev l y).cells.toList) (by simp) (by rw[h2];exact hC) hB ?_ (gB (afl h3)) fun u hc hB'=>hk u (m.put k hi hc.os hc.tape hc.output (by rw[hc.size];exact aq _) (fun b _ hne=>hc.block b fun e=>hne ((hP.1 b).2 e)) hB' (.inl fun b hb=>(hP.1 b).2 (by cases hb;rfl)));rw[bp,fl] at h1;omega
 · exact h.elim
theorem ap8{v:ai}{b:Bool}{p:Prop}(h:vvG v b p q):(v=.bool b∧p)∨((∀c,v=.bool c→(c == b)=false)∧q):=by
 cases v with
 | bool c =>
  unfold vvG at h;simp only at h;split at h
  · rename_i e;exact .inl ⟨by rw[e],h⟩
  · rename_i e;exact .inr ⟨fun c' e'=>by cases e';simpa using e,h⟩
 | tuple=>exact .inr ⟨fun c e=>(by cases e),h⟩
 | _=>exact h.elim
theorem amY{j:Nat}{b:Bool}(h:vyv ops.toList l j=.bool b):yielded ops l.toArray j=some b:=by
 unfold vyv at h;unfold yielded;simp only[fv] at h;cases ho:ops[j]? with
 | none=>rw[ho] at h;cases h
 | some o =>
  rw[ho] at h;simp only at h;cases hd:o.dst with
  | none=>rw[hd] at h;cases h
  | some d =>
   rw[hd] at h;simp only[eo] at h;simp only[ip,hd,ky];cases hv:l[d]? with
   | none=>rw[hv] at h;cases h
   | some v=>rw[hv] at h;simp only[dq] at h;rw[h]
theorem ap9{j:Nat}{b:Bool}(h:yielded ops l.toArray j=some b):vyv ops.toList l j=.bool b:=by
 unfold yielded at h;unfold vyv;simp only[fv];cases ho:ops[j]? with
 | none=>rw[ho] at h;cases h
 | some o =>
  rw[ho] at h;simp only[ip] at h ⊢;cases hd:o.dst with
  | none=>rw[hd] at h;cases h
  | some d =>
   rw[hd] at h;simp only[ip,ky] at h;simp only[eo];cases hv:l[d]? with
   | none=>rw[hv] at h;cases h
   | some v =>
    rw[hv] at h;simp only[dq];cases v <;> first | (cases h;done) | (cases h;rfl)
theorem Lr{g:Option (Nat × Bool)}{p:Prop}(h:Rn ops l g p q):(p∧∀d op ty pos af,Region.wanted (bu d op ty pos af g) (yielded ops l.toArray)=true)∨(q∧∀d op ty pos af,Region.wanted (bu d op ty pos af g) (yielded ops l.toArray)=false):=by
 cases g with
 | none=>exact .inl ⟨h,fun _ _ _ _ _=>rfl⟩
 | some g =>
  obtain⟨j,b⟩:=g;rcases ap8 h with ⟨e,h⟩ | ⟨e,h⟩
  · exact .inl ⟨h,fun _ _ _ _ _=>by simp[Region.wanted,amY e]⟩
  · refine .inr ⟨h,fun _ _ _ _ _=>?_⟩
    cases hy:yielded ops l.toArray j with
    | none=>simp[Region.wanted,hy]
    | some c=>simpa[Region.wanted,hy] using e c (ap9 hy)
theorem pF{ops:Array Oper}{Q:Exit→Act→aj→Prop}{rest:List Oper}{d:Option Nat}{op:Op}{ty:az}{pos:String}{af:Array Edge}{g:Option (Nat × Bool)}{w:aj}(hw:Region.wanted (bu d op ty pos af g) (yielded ops l.toArray)=true)
 (h:ar P ops Q (bu d op ty pos af none::rest) (Fr l ds) w):ar P ops Q (bu d op ty pos af g::rest) (Fr l ds) w:=by
 unfold ar at h ⊢;rw[if_pos (by simp[Region.wanted])] at h;rw[if_pos hw];exact h
theorem vT{ops:Array Oper}{Q:Exit→Act→aj→Prop}{rest:List Oper}{o:Oper}{w:aj}(hw:Region.wanted o (yielded ops l.toArray)=false)
 (h:ar P ops Q rest ((Fr l ds).put o.dst undef) w):ar P ops Q (o::rest) (Fr l ds) w:=by
 unfold ar;rw[if_neg (by rw[hw];simp)];exact h
theorem Zz{R:Exit→Act→aj→Prop}{id:Nat}{a:Act}{w:aj}{G:List Ko→Prop}:∀{s:List Ko},Ut id s G→∃s',G s'∧(Ct P R s' .normal a w→Ct P R s (.exit id) a w)
 | .b j::s,h=>by
  rcases ai1 h with ⟨e,h⟩ | ⟨e,h⟩
  · refine⟨s,h,fun hs=>?_⟩
    show dl j (Ct P R s) (.exit id) a w
    simp only[dl];rw[if_pos e];exact hs
  · obtain⟨s',hG,hs⟩:=Zz (R:=R) (a:=a) (w:=w) h
    refine⟨s',hG,fun h=>?_⟩;show dl j (Ct P R s) (.exit id) a w
    simp only[dl];rw[if_neg e];exact hs h
 | .c _::s,h | .o _ _::s,h | .k _::s,h | .r _ _::s,h=>let ⟨s',hG,hs⟩:=Zz (R:=R) (a:=a) (w:=w) (s:=s) h;⟨s',hG,fun h=>hs h⟩
 | [],h=>h.elim
theorem abw:∀x∈([]:List Ob),fR w0 x.1 x.2.1 x.2.2:=fun _ h=>(by cases h)
theorem amZ{k:Kw}{w u:aj}(hp:kpb k=false)(h:kpt k w)(e:fQ w u):kpt k u:=by
 intro b v hk;subst hk;have hb:b=false:=hp;subst hb;exact fQ.trans (h false v O) e
theorem rB{R:Exit→Act→aj→Prop}(kw:Kw):∀(n:Nat) (sc:List Nat) (q:Prop) (s:List Ko) (l:List ai) (is:List It),V P R w0 ds kw n sc q s l is→q∧∀w,Mem w0 w is→kpt kw w→Gt P R s (Fr l ds) w
 | 0,_,_,_,_,_,h=>⟨h.1,fun _ m hk=>afo h.2 m hk⟩
 | n+1,sc,q,.b _::s,l,is,h=>rB kw n sc q s l is h
 | n+1,sc,q,.o _ []::s,l,is,h=>rB kw n sc q s l is h
 | n+1,sc,q,.o ops (⟨some d,op,ty,pos,af,g⟩::rest)::s,l,is,h=>by
  rcases Lr (show Rn _ _ _ _ _ from h) with ⟨h,hw⟩ | ⟨h,hw⟩
  · rcases Zy (ds:=ds) abw h with ⟨vc,v,sc',h,hy⟩ | ⟨hpr,cs,T,h,hb⟩
    · obtain⟨⟨hv,hq⟩,hk⟩:=rB kw n _ _ _ _ _ h
      exact⟨hq,fun w m hkp=>pF (hw _ _ _ _ _) (fG (hy hv w m ty) (hk w m hkp))⟩
    · exact⟨(rB kw n _ _ _ _ _ (h 0)).1.2,fun w m hkp=>pF (hw _ _ _ _ _) (hb d ty pos af ops _ rest w m fun g u e mu=>(rB kw n _ _ _ _ _ (h g)).2 u mu (amZ hpr hkp e))⟩
  · obtain⟨hq,hk⟩:=rB kw n _ _ _ _ _ h
    exact⟨hq,fun w m hkp=>vT (hw _ _ _ _ _) (by rw[gL];exact hk w m hkp)⟩
 | n+1,sc,q,.o ops (⟨none,op,ty,pos,af,g⟩::rest)::s,l,is,h=>by
  rcases Lr (show Rn _ _ _ _ _ from h) with ⟨h,hw⟩ | ⟨h,hw⟩
  · obtain⟨hpr,vc,sc',is',h,hy⟩:=ai3 (w0:=w0) (ds:=ds) h
    obtain⟨⟨hv,hq⟩,hk⟩:=rB kw n _ _ _ _ _ h;exact⟨hq,fun w m hkp=>pF (hw _ _ _ _ _) (hy hv ty pos af ops _ rest w m fun u mu=>hk u mu fun b v e=>(by rw[e] at hpr;cases hpr))⟩
  · obtain⟨hq,hk⟩:=rB kw n _ _ _ _ _ h
    exact⟨hq,fun w m hkp=>vT (hw _ _ _ _ _) (hk w m hkp)⟩
 | n+1,sc,q,.c c::s,l,is,h=>by
  cases c with
  | seq a b=>exact (rB kw n _ _ _ _ _ h).imp id fun hk w m hkp=>wp_seq (hk w m hkp)
  | skip=>exact (rB kw n _ _ _ _ _ h).imp id fun hk w m hkp=>wp_skip (hk w m hkp)
  | block id c=>exact (rB kw n _ _ _ _ _ h).imp (fun h=>h) fun hk w m hkp=>wp_block (hk w m hkp)
  | exit id =>
   refine⟨?_,fun w m hkp=>?_⟩
   · obtain⟨s',hG,_⟩:=Zz (P:=P) (R:=R) (a:=Fr l ds) (w:=w0) h
     exact (rB kw n _ _ _ _ _ hG).1
   · obtain⟨s',hG,hs⟩:=Zz (P:=P) (R:=R) (a:=Fr l ds) (w:=w) h
     exact wp_exit (hs ((rB kw n _ _ _ _ _ hG).2 w m hkp))
  | ret=>exact⟨h.1,fun w m hkp=>wp_ret (aiS (afo h.2 m hkp) s)⟩
  | cond x a b =>
   obtain⟨t,hx,h⟩:=adD h;cases t
   · exact (rB kw n _ _ _ _ _ h).imp id fun hk w m hkp=>af9 hx (hk w m hkp)
   · exact (rB kw n _ _ _ _ _ h).imp id fun hk w m hkp=>Bm hx (hk w m hkp)
  | region id ops d =>
   cases d
   · exact (rB kw n _ _ _ _ _ h).imp (fun h=>h) fun hk w m hkp=>wp_region_list (hk w m hkp)
   · exact h.elim
  | loop c =>
   cases sc with
   | nil=>exact h.elim
   | cons k sc=>exact (rB kw n _ _ _ _ _ h).imp (fun h=>h) fun hk w m hkp=>wp_loop_rounds k (hk w m hkp)
  | _=>exact h.elim
 | n+1,sc,q,.r c (k+1)::s,l,is,h=>(rB kw n sc q _ l is h).imp (fun h=>h) fun hk w m hkp=>hk w m hkp
 | _+1,_,_,.r _ 0::_,_,_,h=>h.elim
 | _+1,_,_,.k _::_,_,_,h=>h.elim
 | _+1,_,_,[],_,_,h=>h.elim
/-! ### Regions in a drawn order -/
def VQ{α:Type}(hd:α→Option Oper)(P:br)(is:List It)(os:List Ob)(ops:Array Oper)(K:List α→List ai→Prop):Nat→List Nat→Prop→List α→List ai→Prop
 | 0,_,q,rest,l=>q∧K rest l
 | n+1,sc,q,x::rest,l=>match hd x with
  | some ⟨some d,op,_,_,_,g⟩=>Rn ops l g (Fw P l is os true op sc fun vc v sc _=>VQ hd P is os ops K n sc (vc∧q) rest (l.set d v)) (VQ hd P is os ops K n sc q rest (l.set d undef))
  | _=>False
 | _+1,_,_,[],_=>False
theorem afq{α:Type}{hd:α→Option Oper}{ops:Array Oper}{K Y:List α→List ai→Prop}(hos:∀x∈os,fR w0 x.1 x.2.1 x.2.2)(hK:∀rest l,K rest l→Y rest l)
 (hv:∀x d op ty pos af g rest l v,hd x=some ⟨some d,op,ty,pos,af,g⟩→Region.wanted (bu (some d) op ty pos af g) (yielded ops l.toArray)=true→Yd P l is w0 op v→Y rest (l.set d v)→Y (x::rest) l)
 (hp:∀x d op ty pos af g rest l,hd x=some ⟨some d,op,ty,pos,af,g⟩→Region.wanted (bu (some d) op ty pos af g) (yielded ops l.toArray)=false→Y rest (l.set d undef)→Y (x::rest) l) :
 ∀(n:Nat) (sc:List Nat) (q:Prop) (rest:List α) (l:List ai),VQ hd P is os ops K n sc q rest l→q∧Y rest l
 | 0,_,_,_,_,h=>⟨h.1,hK _ _ h.2⟩
 | n+1,sc,q,x::rest,l,h=>by
  unfold VQ at h;split at h
  · rename_i d op ty pos af g hx
    rcases Lr h with ⟨h,hwt⟩ | ⟨h,hwt⟩
    · rcases Zy (ds:=[]) hos h with ⟨vc,v,sc',h,hy⟩ | ⟨e,_⟩
      · obtain⟨⟨h1,hq⟩,hk⟩:=afq hos hK hv hp n _ _ _ _ h
        exact⟨hq,hv _ _ _ _ _ _ _ _ _ _ hx (hwt _ _ _ _ _) (hy h1) hk⟩
      · cases e
    · obtain⟨hq,hk⟩:=afq hos hK hv hp n _ _ _ _ h
      exact⟨hq,hp _ _ _ _ _ _ _ _ _ hx (hwt _ _ _ _ _) hk⟩
  · exact h.elim
 | _+1,_,_,[],_,h=>h.elim
theorem aui{Q:Act→Prop}(hos:∀x∈os,fR w0 x.1 x.2.1 x.2.2){sc:List Nat}{rest:List Oper}{l:List ai}(h:VQ some P is os ops (fun rest l=>cw P ops (fun u=>Mem w0 u is) Q rest (Fr l ds)) n sc True rest l):cw P ops (fun u=>Mem w0 u is) Q rest (Fr l ds):=by
 refine (afq (Y:=fun rest l=>cw P ops (fun u=>Mem w0 u is) Q rest (Fr l ds)) hos (fun _ _ h=>h) (fun x d op ty pos af g rest l v hx hw hy h=>?_) (fun x d op ty pos af g rest l hx hw h=>?_) n sc True rest l h).2
 · cases hx
   have h:=kN (ty:=ty) (pos:=pos) (after:=af) (fun u m=>hy u m ty) h;unfold cw at h ⊢;rw[if_pos (by simp[Region.wanted])] at h;rw[if_pos hw];exact h
 · cases hx
   unfold cw;rw[if_neg (by rw[hw];simp)];show cw P ops _ Q rest ((Fr l ds).put (some d) undef)
   rw[gL];exact h
def hdH(x:Oper × Bool):Option Oper:=match x.2 with
 | true=>some x.1
 | false=>none
theorem auj{Q:Exit→Act→aj→Prop}{w:aj}(hos:∀x∈os,fR w0 x.1 x.2.1 x.2.2){sc:List Nat}{rest:List (Oper × Bool)}{l:List ai}(h:VQ hdH P is os ops (fun rest l=>bQ P ops (fun u=>Mem w0 u is) Q rest (Fr l ds) w) n sc True rest l):bQ P ops (fun u=>Mem w0 u is) Q rest (Fr l ds) w:=by
 refine (afq (Y:=fun rest l=>bQ P ops (fun u=>Mem w0 u is) Q rest (Fr l ds) w) hos (fun _ _ h=>h) (fun x d op ty pos af g rest l v hx hw hy h=>?_) (fun x d op ty pos af g rest l hx hw h=>?_) n sc True rest l h).2
 · obtain⟨o,b⟩:=x
   cases b
   · cases hx
   · cases hx
     obtain⟨v,hy,h⟩:=Ze (ty:=ty) (pos:=pos) (after:=af) (fun u m=>hy u m ty) h;refine⟨v,?_,h⟩;rcases hy with ⟨_,hy⟩ | ⟨hn,_⟩
     · exact .inl ⟨hw,hy⟩
     · simp[Region.wanted] at hn
 · obtain⟨o,b⟩:=x
   cases b
   · cases hx
   · cases hx
     refine⟨undef,.inr ⟨hw,O⟩,?_⟩;show bQ P ops _ Q rest ((Fr l ds).put (some d) undef) w
     rw[gL];exact h
end
theorem rC{P R w0 ds k n sc q s l l' is is'}(h:l=l')(h':is=is'):V P R w0 ds k n sc q s l is=V P R w0 ds k n sc q s l' is':=by rw[h,h']
theorem gX{ops l l' g p q}(h:l=l'):Rn ops l g p q=Rn ops l' g p q:=by rw[h]
theorem gY{P l l' is os pr op sc K}(h:l=l'):Fw P l is os pr op sc K=Fw P l' is os pr op sc K:=by rw[h]
theorem gZ{P l l' is pr op sc K}(h:l=l'):stV P l is pr op sc K=stV P l' is pr op sc K:=by rw[h]
theorem iA{P l l' is b xs ts sc K}(h:l=l'):caV P l is b xs ts sc K=caV P l' is b xs ts sc K:=by rw[h]
theorem iB{b x y x' y' sc is K}(h:x=x')(h':y=y'):biV b x y sc is K=biV b x' y' sc is K:=by rw[h,h']
theorem lI{sc sc' p K is}[Decidable p](h:sc=sc'):cV sc p K is=cV sc' p K is:=by rw[h]
theorem iC{v v' f}(h:v=v'):rK v f=rK v' f:=by rw[h]
theorem iD{v v' f}(h:v=v'):vvB v f=vvB v' f:=by rw[h]
theorem iE{v v' f}(h:v=v'):vvP v f=vvP v' f:=by rw[h]
theorem iF{v v' f}(h:v=v'):vvS v f=vvS v' f:=by rw[h]
theorem iG{v v' f}(h:v=v'):vvA v f=vvA v' f:=by rw[h]
theorem iH{v v' f}(h:v=v'):vvT v f=vvT v' f:=by rw[h]
theorem iJ{v v' b p q}(h:v=v'):vvG v b p q=vvG v' b p q:=by rw[h]
theorem iK{o o':Option α}{f}(h:o=o'):Bj o f=Bj o' f:=by rw[h]
theorem iL{b b' p q}(h:b=b'):vbX b p q=vbX b' p q:=by rw[h]
theorem iM{n n' p}(h:n=n'):vnX n p=vnX n' p:=by rw[h]
theorem iN{n n' m p q}(h:n=n'):vnE n m p q=vnE n' m p q:=by rw[h]
theorem fJ{l l' n n' f}(h:l=l')(h':n=n'):Ln l n f=Ln l' n' f:=by rw[h,h']
theorem fK{l l' n f}(h:l=l'):Zv l n f=Zv l' n f:=by rw[h]
theorem iO{l pl ps cs cs' q f}(h:cs=cs'):blV l pl ps cs q f=blV l pl ps cs' q f:=by rw[h]
theorem iP{is is' os k f}(h:is=is'):atB is os k f=atB is' os k f:=by rw[h]
theorem iQ{n v v' f}(h:v=v'):vvX n v f=vvX n v' f:=by rw[h]
theorem lJ{hd:α→Option Oper}{P is os ops K n sc q rest l l'}(h:l=l'):VQ hd P is os ops K n sc q rest l=VQ hd P is os ops K n sc q rest l':=by rw[h]
theorem dV{P ops S Q ol a a' w}(h:a=a'):bQ P ops S Q ol a w=bQ P ops S Q ol a' w:=by rw[h]
theorem iR{os k k' f}(h:k=k'):atO os k f=atO os k' f:=by rw[h]
theorem iS{is k k' f}(h:k=k'):atM is k f=atM is k' f:=by rw[h]
theorem iT{i i' s f}(h:i=i'):Ut i s f=Ut i' s f:=by rw[h]
theorem lK{P R s e a a' w}(h:a=a'):Ct P R s e a w=Ct P R s e a' w:=by rw[h]
theorem dW{P ops Q rest a a' w}(h:a=a'):ar P ops Q rest a w=ar P ops Q rest a' w:=by rw[h]
theorem dX{P Q a a' w}(h:a=a'):c.wp P Q a w=c.wp P Q a' w:=by rw[h]
theorem cX{P ops C Q rest a a'}(h:a=a'):cw P ops C Q rest a=cw P ops C Q rest a':=by rw[h]
theorem abx:∀(n:Nat) (p q:Prop),vnE n n p q=p
 | 0,_,_=>rfl
 | n+1,p,q=>abx n p q
theorem asB{i:Nat}{s:List Ko}{f:List Ko→Prop}:Ut i (.b i::s) f=f s:=abx i _ _
theorem kp0{X:aj→Prop}:(q∧aiZ w0 is X none)=(q∧∀w,Mem w0 w is→X w):=propext ⟨fun h=>⟨h.1,fun w m=>h.2 w m fun _ _ e=>(by cases e)⟩,fun h=>⟨h.1,fun w m _=>h.2 w m⟩⟩
theorem kp1{w1:aj}{X:aj→Prop}:(q∧aiZ w0 is X (some (false,w1)))=(q∧∀w,Mem w0 w is→fQ w1 w→X w):=propext ⟨fun h=>⟨h.1,fun w m e=>h.2 w m fun _ _ e'=>(by cases e';exact e)⟩,fun h=>⟨h.1,fun w m e=>h.2 w m (e _ _ rfl)⟩⟩
def Fz(l:List ai)(ds:List dz):Act:=Fr l ds
section
variable {P:br} {R:Exit→Act→aj→Prop} {w0 w:aj} {ds:List dz} {s:List Ko} {l:List ai} {is:List It}
theorem zvc(n:Nat)(sc:List Nat)(m:Mem w0 w is)(h:V P R w0 ds none n sc True (.c c::s) l is):c.wp P (Ct P R s) (Fr l ds) w:=(rB none n sc True _ l is h).2 w m fun _ _ e=>(by cases e)
theorem aJ(n:Nat)(sc:List Nat)(m:Mem w0 w is)(h:V P R w0 ds (some (true,w)) n sc True (.c c::s) l is):c.wp P (Ct P R s) (Fr l ds) w:=(rB (some (true,w)) n sc True _ l is h).2 w m fun _ _ e=>(by cases e;rfl)
theorem jP(n:Nat)(sc:List Nat)(m:Mem w0 w is)(h:V P R w0 ds none n sc True [.c c] l is):c.wp P R (Fr l ds) w:=(rB none n sc True _ l is h).2 w m fun _ _ e=>(by cases e)
theorem fF(n:Nat)(sc:List Nat)(m:Mem w0 w is)(h:V P R w0 ds (some (true,w)) n sc True [.c c] l is):c.wp P R (Fr l ds) w:=(rB (some (true,w)) n sc True _ l is h).2 w m fun _ _ e=>(by cases e;rfl)
theorem kD{rest:List Oper}(n:Nat)(sc:List Nat)(m:Mem w0 w is)(h:V P R w0 ds none n sc True (.o ops rest::s) l is):ar P ops (Ct P R s) rest (Fr l ds) w:=(rB none n sc True _ l is h).2 w m fun _ _ e=>(by cases e)
theorem aL{rest:List Oper}(n:Nat)(sc:List Nat)(m:Mem w0 w is)(h:V P R w0 ds (some (true,w)) n sc True (.o ops rest::s) l is):ar P ops (Ct P R s) rest (Fr l ds) w:=(rB (some (true,w)) n sc True _ l is h).2 w m fun _ _ e=>(by cases e;rfl)
theorem eC{Q:Act→Prop}{rest:List Oper}(n:Nat)(sc:List Nat)(h:VQ some P is [] ops (fun rest l=>cw P ops (fun u=>Mem w0 u is) Q rest (Fz l ds)) n sc True rest l):cw P ops (fun u=>Mem w0 u is) Q rest (Fr l ds):=aui abw h
theorem Pg{Q:Exit→Act→aj→Prop}{ol:List (Oper × Bool)}(n:Nat)(sc:List Nat)(h:VQ hdH P is [] ops (fun rest l=>bQ P ops (fun u=>Mem w0 u is) Q rest (Fz l ds) w) n sc True ol l):bQ P ops (fun u=>Mem w0 u is) Q ol (Fr l ds) w:=auj abw h
theorem nV{rest:List Oper}{f:FuncId}{fo:bw}{xs:Array bw}{args:List ai}{first cap:Array ai}{a0:Array az}{v:ai}{d:Nat}{ty:az}{pos:String}{af:Array Edge}(m:Mem w0 w is)(hf:ev l fo=.func (.func f) first cap)(hxs:first.toList++xs.toList.map (ev l)++cap.toList=args)(hc:dT P f args v)(n:Nat)(sc:List Nat)(h:V P R w0 ds none n sc True (.o ops rest::s) (l.set d v) is):ar P ops (Ct P R s) (bu (some d) (.call { callee:=.value fo,args:=xs,argTypes:=a0 }) ty pos af none::rest) (Fr l ds) w :=
 kO m hf hxs hc fun u m=>(rB none n sc True _ _ is h).2 u m fun _ _ e=>(by cases e)
theorem g0{a:Act}(h:c.wp P (Ct P R []) a w):c.wp P R a w:=h
theorem gc{a:Act}(h:c.wp P (Ct P R s) a w):Ct P R (.c c::s) .normal a w:=h
theorem go{rest:List Oper}{a:Act}(h:ar P ops (Ct P R s) rest a w):Ct P R (.o ops rest::s) .normal a w:=h
theorem gk{K:Act→aj→Prop}{a:Act}(h:K a w):Ct P R (.k K::s) .normal a w:=h
theorem bX{c:Code}(ts ss:List Nat)(I:Nat→List ai→aj→Prop)(h0:∃n,I n (ts.map (l.getD · undef)) w)
 (hr:∀n vs w,I n vs w→∀(g:Nat→ai) (K:Act→aj→Prop),(∀n' l' w',n'<n→pQ (fA l ts (ts.map (l'.getD · undef))) ss (l'.getD · undef)=l'→I n' (ts.map (l'.getD · undef)) w'→K (Fr l') w')→c.wp P (Ct P R (.k K::s)) (Fr (pQ (fA l ts vs) ss g)) w):(Code.loop c).wp P (Ct P R s) (Fr l) w :=
 ae0 ts ss I h0 fun n vs w hI g=>hr n vs w hI g _ fun n' l' w' h1 h2 h3=>⟨n',l',h1,rfl,h2,h3⟩
theorem Rp(n:Nat)(sc:List Nat)(m:Mem w0 w is)(h:V P R w0 ds none n sc True s l is):Ct P R s .normal (Fr l ds) w:=(rB none n sc True _ l is h).2 w m fun _ _ e=>(by cases e)
theorem aW(n:Nat)(sc:List Nat)(m:Mem w0 w is)(h:V P R w0 ds (some (true,w)) n sc True s l is):Ct P R s .normal (Fr l ds) w:=(rB (some (true,w)) n sc True _ l is h).2 w m fun _ _ e=>(by cases e;rfl)
end
section
variable {P:br} {ds:List dz} {l:List ai}
theorem afr{c:Code}{Q:Exit→Act→aj→Prop}{w:aj}(ts ss:List Nat)(J:List ai→aj→Prop)
 (hc:c.wp P (Exit.then (fun a' w'=>∃l',a'=Fr l' ds∧pQ (fA l ts (ts.map (l'.getD · undef))) ss (l'.getD · undef)=l'∧J (ts.map (l'.getD · undef)) w') Q) (Fr l ds) w)
 (hn:∀vs u,J vs u→∀g:Nat→ai,Q .normal (Fr (pQ (fA l ts vs) ss g) ds) u):c.wp P Q (Fr l ds) w:=by
 refine Code.wp_mono ?_ hc;intro e a w' h;cases e with
 | normal =>
  obtain⟨l',rfl,he,hJ⟩:=h;rw[←he];exact hn _ _ hJ _
 | exit id=>exact h
 | goto id=>exact h
 | ret=>exact h
 | panic ch=>exact h
 | outgrown=>exact h
theorem am0{c:Code}{Q:Exit→Act→aj→Prop}{w0 w:aj}{is:List It}(m:Mem w0 w is)(ts ss:List Nat)(J:List ai→Prop)
 (hc:c.wp P (Exit.then (fun a' w'=>∃l',a'=Fr l' ds∧pQ (fA l ts (ts.map (l'.getD · undef))) ss (l'.getD · undef)=l'∧Mem w0 w' is∧J (ts.map (l'.getD · undef))) Q) (Fr l ds) w)
 (hn:∀vs u,Mem w0 u is→J vs→∀g:Nat→ai,Q .normal (Fr (pQ (fA l ts vs) ss g) ds) u):c.wp P Q (Fr l ds) w :=
 afr ts ss (fun vs w'=>Mem w0 w' is∧J vs) hc fun vs u h g=>hn vs u h.1 h.2 g
theorem am1{c:Code}{Q:Exit→Act→aj→Prop}{w0 w:aj}{is:List It}(m:Mem w0 w is)(k:Nat)(ts ss:List Nat)(J:List ai→It→Prop)
 (hc:c.wp P (Exit.then (fun a' w'=>∃l' i,a'=Fr l' ds∧pQ (fA l ts (ts.map (l'.getD · undef))) ss (l'.getD · undef)=l'∧Mem w0 w' (is.set k i)∧J (ts.map (l'.getD · undef)) i) Q) (Fr l ds) w)
 (hn:∀vs i u,Mem w0 u (is.set k i)→J vs i→∀g:Nat→ai,Q .normal (Fr (pQ (fA l ts vs) ss g) ds) u):c.wp P Q (Fr l ds) w:=by
 refine afr ts ss (fun vs w'=>∃i,Mem w0 w' (is.set k i)∧J vs i) (Code.wp_mono ?_ hc) fun vs u h g=>?_
 · intro e a w' h
   cases e with
   | normal=>obtain⟨l',i,h1,h2,h3,h4⟩:=h;exact⟨l',h1,h2,i,h3,h4⟩
   | exit id=>exact h
   | goto id=>exact h
   | ret=>exact h
   | panic ch=>exact h
   | outgrown=>exact h
 · obtain⟨i,h1,h2⟩:=h
   exact hn vs i u h1 h2 g
end
section
variable {P:br} {R:Exit→Act→aj→Prop} {w0 w:aj} {ds:List dz} {s:List Ko} {l:List ai} {is:List It}
theorem Rq{c:Code}(m:Mem w0 w is)(ts ss:List Nat)(J:List ai→Prop)
 (hc:∀K:Act→aj→Prop,(∀l' w',pQ (fA l ts (ts.map (l'.getD · undef))) ss (l'.getD · undef)=l'→Mem w0 w' is→J (ts.map (l'.getD · undef))→K (Fr l' ds) w')→c.wp P (Ct P R (.k K::s)) (Fr l ds) w)
 (hn:∀vs u,Mem w0 u is→J vs→∀g:Nat→ai,Ct P R s .normal (Fr (pQ (fA l ts vs) ss g) ds) u):c.wp P (Ct P R s) (Fr l ds) w :=
 am0 m ts ss J (hc _ fun l' w' h1 h2 h3=>⟨l',rfl,h1,h2,h3⟩) hn
theorem jL{c:Code}(m:Mem w0 w is)(k:Nat)(ts ss:List Nat)(J:List ai→It→Prop)
 (hc:∀K:Act→aj→Prop,(∀l' i w',pQ (fA l ts (ts.map (l'.getD · undef))) ss (l'.getD · undef)=l'→Mem w0 w' (is.set k i)→J (ts.map (l'.getD · undef)) i→K (Fr l' ds) w')→c.wp P (Ct P R (.k K::s)) (Fr l ds) w)
 (hn:∀vs i u,Mem w0 u (is.set k i)→J vs i→∀g:Nat→ai,Ct P R s .normal (Fr (pQ (fA l ts vs) ss g) ds) u):c.wp P (Ct P R s) (Fr l ds) w :=
 am1 m k ts ss J (hc _ fun l' i w' h1 h2 h3=>⟨l',i,rfl,h1,h2,h3⟩) hn
end
end Go.Lith
namespace Go.Lith
open Go.RowKit Go.Proofs Go.Sort Go.Shelf
theorem ai4{α:Type}{enc:α→List ai}{k:Nat}(hk:∀x,(enc x).length=k)(h0:0<k):∀(L:List α) (t:Nat),(L.flatMap enc)[t]? = (L[t / k]?).bind fun x=>(enc x)[t%k]?
 | [],t=>by simp
 | x::L,t=>by
  rw[di,List.getElem?_append];by_cases h:t<k
  · rw[if_pos (by rw[hk];exact h),Nat.div_eq_of_lt h,Nat.mod_eq_of_lt h]
    rfl
  · rw[if_neg (by rw[hk];exact h),hk,ai4 hk h0 L (t-k)]
    have e1:t / k=(t-k) / k+1:=by rw[Nat.div_eq t k,if_pos ⟨h0,io h⟩]
    have e2:t%k=(t-k)%k:=Nat.mod_eq_sub_mod (io h);rw[e1,e2,ic]
theorem yU{α:Type}[Inhabited α]{enc:α→List ai}{k:Nat}(hk:∀x,(enc x).length=k)(h0:0<k)(L:List α):(flatK enc k L.toArray).toList=L.flatMap enc:=by
 have hlen:(L.flatMap enc).length=L.length*k:=by
  induction L with
  | nil=>simp
  | cons x L ih=>rw[di,aw,ih,hk,av,ke];omega
 apply fw;intro t;by_cases ht:t<L.length*k
 · have hd:t / k<L.length:=by
    rw[Nat.div_lt_iff_lt_mul h0];exact ht
   have hm:t%k<k:=ji _ h0;have h1:=get_flatK enc k L.toArray t (by simpa using ht);rw[getElem!_pos _ t (by simpa using ht)] at h1;rw[ai4 hk h0,am hd,ip,fv,gq (by simpa using ht),h1,am (show t%k<(enc L[t / k]).length by rw[hk];exact hm)]
   congr 1
   rw[getElem!_pos L.toArray _ (by simpa using hd),List.getElem_toArray,getElem!_pos _ _ (by rw[hk];exact hm)]
 · rw[bz (by simpa using io ht),bz (by rw[hlen];exact io ht)]
section
variable {α:Type} [Inhabited α] {P:br} {ρ:Ren} {enc:α→List ai} {c:Nat} {E:az} {w w0:aj} {is:List It} {A:Option Addr} {n cap:Nat}
theorem agJ{g:Nat}{xs:List α}{cur:Array ai}(hk:∀x,(enc x).length=c)(h0:0<c)(hg:w.heap[g]? = some (.cells cur E (0,0)))(h:cur.toList.take (xs.length*c)=xs.flatMap enc):HoldsK enc c w g 0 xs.toArray:=by
 intro j hj;have hl:=yU hk h0 xs;have hj':j<xs.length*c:=by simpa using hj
 have e:(flatK enc c xs.toArray)[j]? = cur[j]?:=by
  rw[←fv,hl,←h,d_,if_pos hj',fv]
 rw[gq hj] at e;refine⟨?_,?_⟩
 · simp only[World.cell?,hg,au,Option.isSome_none,me,if_false]
   rw[←e,getElem!_pos _ j hj];rfl
 · simp[World.frozen?,hg]
theorem Vm{g:Nat}{xs ys:List α}{cur:Array ai}{q:Nat}{os:Array Obj}(hk:∀x,(enc x).length=c)(h0:0<c)(hg:w.heap[g]? = some (.cells cur E (0,0)))(hl:xs.length*c≤cur.size)(hlen:ys.length=xs.length) :
 ∃cur':Array ai,(sortWorldK enc c w g 0 q ys.toArray os).heap[g]? = some (.cells cur' E (0,0))∧cur'.size=cur.size∧cur'.toList.take (xs.length*c)=ys.flatMap enc:=by
 have hlt:g<w.heap.size:=(ee.1 hg).1;refine⟨putCells id 0 (flatK enc c ys.toArray) cur,?_,by simp[putCells],?_⟩
 · unfold sortWorldK putRowK putRow mapBlock grow
   simp only;rw[Array.getElem?_append_left (by simpa[ahead] using hlt),j_];simp[ahead,hg,onCells]
 · have hf:=yU hk h0 ys
   apply fw;intro t;rw[d_,←hf,fv,fv];have hs:(flatK enc c ys.toArray).size=xs.length*c:=by simp[hlen]
   split
   · rename_i ht
     have:t<cur.size:=Nat.lt_of_lt_of_le ht hl;simp only[putCells,Array.getElem?_mapIdx,gq this,fm,cv,au,true_and,Nat.sub_zero,hs,ht,if_true];rw[gq (by rw[hs];exact ht),getElem!_pos _ t (by rw[hs];exact ht)];rfl
   · rename_i ht
     rw[Array.getElem?_eq_none (by rw[hs];exact io ht)]
theorem Cl(L:SlLaysF0.n6 P ρ)(aE:∀w,(isAgg (ρ.t 24)).run P w=.ok true w)(zE:∀w,(Go.sizeOf (ρ.t 24)).run P w=.ok c w)(hk:∀x,(enc x).length=c)(h0:0<c)(h1:∀x,∀v∈enc x,v.oneCell'=true)
 (cf:α→α→Int) (hO:SWO (ltOf cf)) {f:FuncId} (hcmp:∀x y,sZ P f [.agg (enc x).toArray,.agg (enc y).toArray] (.int .i64 (cf x y))) {xs:List α} (m:Mem w0 w is) (k:Nat) (hi:is[k]? = some (oI E c A n cap (xs.flatMap enc))) (hsz:n<4611686018427387904) :
 Calls P (ρ.f 6) #[.slice A n cap,.func (.func f) #[] #[]] w fun e w'=>∃v i,e=.returned v∧Mem w0 w' (is.set k i)∧(v=.tuple #[]∧∃ys:List α,i=oI E c A n cap (ys.flatMap enc)∧ys.Perm xs∧ys.Pairwise fun a b=>ltOf cf b a=false):=by
 have h:w.ownsRow 0 E c (.slice A n cap) n (xs.flatMap enc):=m.get k hi;have hlen:(xs.flatMap enc).length=xs.length*c:=by
  have:=yU hk h0 xs;rw[←this];simp
 have hn:xs.length=n:=by
  have:=h.1;rw[hlen] at this;exact Nat.eq_of_mul_eq_mul_right h0 this
 have hge:=fun b hb=>m.ge _ (bh hi) b hb;rcases oG h with ⟨rfl,rfl,rfl,hx⟩ | ⟨g,cur,rfl,_,hg,hcap,hmax,hcur,htake⟩
 · refine (AnyF.slices_SortFunc_none L none 0 _ w).mono ?_
   rintro e w' ⟨rfl,rfl⟩;obtain rfl:xs=[]:=List.eq_nil_of_length_eq_zero hn;refine⟨_,oI E c none 0 0 [],O,?_,O,[],O,od _,.nil⟩;have:is.set k (oI E c none 0 0 [])=is:=by
    apply fw;intro j;rw[jp];split
    · rename_i e;subst e
      have:=(ap.1 hi).1;rw[if_pos this,hi];rfl
    · rfl
   rw[this];exact m
 · have hlt:g<w.heap.size:=(ee.1 hg).1
   rw[←hn] at htake;have hH:=agJ (xs:=xs) hk h0 hg htake;have hx:=AnyQ.slices_SortFunc L c aE zE enc hk h1 cf hO f #[] g 0 cap xs.toArray w (fun args w'=>tJ (hcmp default default w').1) (fun mm os dk _ x y=>by
    have:=((hcmp x y (sortWorldK enc c w g 0 mm dk os)).2.mono fun e w' h=>(show e=.returned (.int .i64 (cf x y))∧∃q os',w'=grow ((sortWorldK enc c w g 0 mm dk os).drewN q) os' from by obtain⟨u,rfl,hX,rfl⟩:=h;exact⟨O,hX.grow⟩))
    simpa using this) hH hlt (by simpa[hn] using hsz)
   have es:xs.toArray.size=n:=by simpa using hn
   rw[es] at hx;refine hx.mono ?_;rintro e w' ⟨rfl,d',q,os,hp,hs,rfl⟩;have hd:d'.size=n:=by rw[hp.1];exact es
   obtain⟨ys,rfl⟩:∃ys:List α,d'=ys.toArray:=⟨d'.toList,by simp⟩
   have hyl:ys.length=n:=by simpa using hd
   have hcs:xs.length*c≤cur.size:=by rw[hn,hcur];exact Nat.mul_le_mul_right _ hcap
   obtain⟨cur',e1,e2,e3⟩:=Vm (q:=q) (os:=os) (ys:=ys) hk h0 hg hcs (by rw[hyl,hn]);refine⟨_,oI E c (some ⟨g,0,none⟩) n cap (ys.flatMap enc),O,?_,O,ys,O,?_,?_⟩
   · refine m.put k hi O O O ?_ (fun b hb hne=>?_) ?_ (.inl fun _ h=>h)
     · simp[sortWorldK,putRowK,putRow,mapBlock,grow,ahead]
     · have hbg:g≠b:=fun e=>hne (by rw[e];rfl)
       unfold sortWorldK putRowK putRow mapBlock grow;simp only;rw[Array.getElem?_append_left (by simpa[ahead] using hb),j_,if_neg hbg];rfl
     · refine⟨?_,.inr ⟨g,cap,cur',O,cv _,e1,hcap,hmax,by rw[e2,hcur],?_⟩⟩
       · have:=yU hk h0 ys
         rw[←this];simp[hyl]
       · rw[←hn];exact e3
   · have:=hp.2.2
     simpa[hyl,hn,a_ (Nat.le_of_eq hyl),a_ (Nat.le_of_eq hn),List.extract_eq_take_drop] using this
   · rw[List.pairwise_iff_getElem]
     intro i j hi' hj' hij;have:=hs i j (cv _) hij (by rw[←hyl];exact hj');rw[getElem!_pos _ i (by simpa using hi'),getElem!_pos _ j (by simpa using hj')] at this;simpa using this
end
end Go.Lith
namespace Go.Lith
open Go.RowKit Go.Sort
variable{K:Type}
instance:Inhabited P3:=⟨⟨0,0,0⟩⟩
def dF(p:P3):List ai:=[.int .i64 p.x,.int .i64 p.y,.int .i64 p.z]
theorem Ns(p:P3):∀v∈dF p,v.oneCell'=true:=fun v h=>by
 simp only[dF,an,cg,or_false] at h;rcases h with rfl | rfl | rfl <;> rfl
theorem mB(p q:P3):(qO p q<0)↔p.Lt q:=by
 unfold qO;split
 · simp[*]
 · split <;> simp[*]
theorem aby:SWO (Go.Proofs.ltOf qO) where
 irrefl x:=by simp[Go.Proofs.ltOf,mB,P3.lt_irrefl]
 trans x y z h1 h2:=by
  simp only[Go.Proofs.ltOf,decide_eq_true_eq,mB] at *
  exact P3.lt_trans h1 h2
 ntrans x y z h1 h2:=by
  simp only[Go.Proofs.ltOf,decide_eq_false_iff_not,mB] at *
  unfold P3.Lt at *
  omega
theorem oK.len{V:Type}[DecidableEq K]{ek:K→ai}{en:V→ai}{D dn rs:List (K × V)}{es:Array c_}{seen:Array Nat}(h:oK ek en D es seen dn rs):dn.length+rs.length=D.length:=by
 have:=h.1.length_eq;simpa using this
theorem Io{V:Type}[DecidableEq K]{ek:K→ai}{en:V→ai}{D dn rs:List (K × V)}{es:Array c_}{b:Bool}{kv vv:ai}{sn:Array Nat}(hb:b=false)(h:Nxt ek en D es dn rs b kv vv sn):rs=[]:=by
 rcases h with ⟨_,h⟩ | ⟨h,_⟩
 · exact h
 · rw[h] at hb;cases hb
theorem Ip{K V:Type}[DecidableEq K]{ek:K→ai}{en:V→ai}{D dn rs:List (K × V)}{es:Array c_}{b:Bool}{kv vv:ai}{sn:Array Nat}(hb:b=true)(h:Nxt ek en D es dn rs b kv vv sn) :
 ∃k v rs',rs.Perm ((k,v)::rs')∧oK ek en D es sn (dn++[(k,v)]) rs':=by
 rcases h with ⟨h,_⟩ | ⟨_,k,v,rs',h1,_,_,h2⟩
 · rw[h] at hb;cases hb
 · exact⟨k,v,rs',h1,h2⟩
def Cm(D:List (P3 × Bool))(ps:List P3):List (P3 × Bool):=ps.foldl (fun D p=>fI D p true) D
theorem abz{V:Type}[DecidableEq K](D:List (K × V))(k a:K)(v:V):a∈(fI D k v).map (·.1)↔a∈D.map (·.1)∨a=k:=by
 rw[xH];split
 · exact⟨.inl,fun h=>h.elim id (fun e=>e▸‹_›)⟩
 · simp
theorem Wy:∀(ps:List P3) (D:List (P3 × Bool)) (a:P3),a∈(Cm D ps).map (·.1)↔a∈D.map (·.1)∨a∈ps
 | [],D,a=>by simp[Cm]
 | p::ps,D,a=>by
  have:=Wy ps (fI D p true) a;unfold Cm at this ⊢;rw[jx,this,abz,an,or_assoc]
theorem Nt:∀(ps:List P3) (D:List (P3 × Bool)),(D.map (·.1)).Nodup→((Cm D ps).map (·.1)).Nodup
 | [],_,h=>h
 | p::ps,D,h=>Nt ps (fI D p true) (uS h p true)
theorem vU{K V:Type}[DecidableEq K]:∀(D:List (K × V)) (k:K) (v:V),(fI D k v).length≤D.length+1
 | [],_,_=>by simp[fI]
 | x::D,k,v=>by
  unfold fI;split
  · simp
  · simp only[av]
    exact Nat.succ_le_succ (vU D k v)
theorem Iq:∀(ps:List P3) (D:List (P3 × Bool)),(Cm D ps).length≤D.length+ps.length
 | [],D=>aq _
 | p::ps,D=>Nat.le_trans (Iq ps (fI D p true)) (by
  have:=vU D p true;simp only[av];omega)
theorem agK(D:List (P3 × Bool))(ps qs:List P3):Cm D (ps++qs)=Cm (Cm D ps) qs:=gz ..
def dS(ts:List T3):List P3:=ts.flatMap fun t=>[t.a,t.b,t.c]
def uU(ps:List P3):Prop:=ps.Pairwise fun a b=>a.Lt b
theorem agL{ps:List P3}(hn:ps.Nodup)(h:ps.Pairwise fun a b=>¬b.Lt a):uU ps:=by
 have:=hn.and h;exact this.imp fun {a b} h=>(P3.lt_tri a b).resolve_right (by rintro (e | e);exact h.1 e;exact h.2 e)
end Go.Lith
namespace Go.Lith
open Go.RowKit
variable{k:Nat}{ts:List T3}{t:T3}{a x:E3}{es:List E3}
theorem Wz{α:Type}{ps:List α}{p:α}(h:ps[k]? = some p):ps.take (k+1)=ps.take k++[p]:=by
 rw[ob,h];rfl
theorem Rr(h:ts[k]? = some t):dS (ts.take (k+1))=dS (ts.take k)++[t.a,t.b,t.c]:=by
 unfold dS;rw[Wz h,ay];simp
theorem adE(h:ts[k]? = some t):Cm [] (dS (ts.take (k+1)))=fI (fI (fI (Cm [] (dS (ts.take k))) t.a true) t.b true) t.c true:=by
 rw[Rr h,agK];rfl
theorem tW(ts:List T3):(dS ts).length=ts.length*3:=by
 unfold dS
 induction ts with
 | nil=>rfl
 | cons t ts ih=>rw[di,aw,ih];simp only[av,List.length_nil];omega
theorem ai5{ps:List P3}:(ps.flatMap dF).length=ps.length*3:=by
 induction ps with
 | nil=>rfl
 | cons p ps ih=>rw[di,aw,ih,show (dF p).length=3 from rfl,av];omega
theorem Gq{α:Type}{R:α→α→Prop}(irr:∀a,¬R a a)(tr:∀a b c,R a b→R b c→R a c):∀{l m:List α},l.Pairwise R→m.Pairwise R→(∀a,a∈l↔a∈m)→l=m
 | [],[],_,_,_=>rfl
 | [],y::m,_,_,h=>absurd ((h y).2 (bm ..)) (by simp)
 | x::l,[],_,_,h=>absurd ((h x).1 (bm ..)) (by simp)
 | x::l,y::m,hl,hm,h=>by
  obtain⟨h1,h2⟩:=bt.1 hl;obtain⟨k1,k2⟩:=bt.1 hm;have e:x=y:=by
   rcases an.1 ((h x).1 (bm ..)) with e | hx
   · exact e
   · rcases an.1 ((h y).2 (bm ..)) with e | hy
     · exact e.symm
     · exact absurd (tr _ _ _ (h1 y hy) (k1 x hx)) (irr x)
  subst e;rw[Gq irr tr h2 k2 fun a=>⟨fun ha=>?_,fun ha=>?_⟩]
  · rcases an.1 ((h a).1 (bg _ ha)) with rfl | k
    · exact absurd (h1 a ha) (irr a)
    · exact k
  · rcases an.1 ((h a).2 (bg _ ha)) with rfl | k
    · exact absurd (k1 a ha) (irr a)
    · exact k
/-! ### Edges in order -/
def Nu(a b:E3):Prop:=a.1.Lt b.1∨a.1=b.1∧a.2.Lt b.2
theorem afs{b:E3}:ltE a b=true↔Nu a b:=by
 unfold ltE Nu;by_cases h:a.1=b.1
 · rw[if_neg (not_not_intro h),decide_eq_true_eq]
   exact⟨fun k=>.inr ⟨h,k⟩,fun k=>k.elim (fun k=>absurd (h▸k) (P3.lt_irrefl _)) (·.2)⟩
 · rw[if_pos h,decide_eq_true_eq]
   exact⟨.inl,fun k=>k.elim id (fun k=>absurd k.1 h)⟩
theorem Nu.irrefl(a:E3):¬Nu a a:=fun h=>h.elim (P3.lt_irrefl _) fun h=>P3.lt_irrefl _ h.2
theorem Nu.trans{b c:E3}(h:Nu a b)(k:Nu b c):Nu a c:=by
 rcases h with h | ⟨h,h'⟩
 · rcases k with k | ⟨k,_⟩
   · exact .inl (P3.lt_trans h k)
   · exact .inl (k▸h)
 · rcases k with k | ⟨k,k'⟩
   · exact .inl (h▸k)
   · exact .inr ⟨h.trans k,P3.lt_trans h' k'⟩
theorem Nu.tri(a b:E3):Nu a b∨a=b∨Nu b a:=by
 rcases P3.lt_tri a.1 b.1 with h | h | h
 · exact .inl (.inl h)
 · rcases P3.lt_tri a.2 b.2 with k | k | k
   · exact .inl (.inr ⟨h,k⟩)
   · exact .inr (.inl (Prod.ext h k))
   · exact .inr (.inr (.inr ⟨h.symm,k⟩))
 · exact .inr (.inr (.inl h))
def rL(es:List E3):Prop:=es.Pairwise Nu
theorem abA{fs:List E3}(h:rL es)(k:rL fs)(e:∀a,a∈es↔a∈fs):es=fs:=Gq Nu.irrefl (fun _ _ _=>Nu.trans) h k e
theorem aaa{α:Type}{p:α→Bool}:∀(l:List α),l.take (l.takeWhile p).length=l.takeWhile p
 | []=>rfl
 | x::l=>by
  rw[lu];split
  · rw[av,lp,aaa l]
  · rfl
theorem aab{α:Type}{p:α→Bool}:∀(l:List α),l.drop (l.takeWhile p).length=l.dropWhile p
 | []=>rfl
 | x::l=>by
  rw[lu,ni];split
  · rw[av,List.drop_succ_cons,aab l]
  · rfl
theorem aft(es:List E3)(e:E3):adh es e=es.takeWhile (fun x=>ltE x e)++[e]++es.dropWhile (fun x=>ltE x e):=by
 unfold adh ago;rw[aaa,aab]
theorem ai6{e:E3}:x∈adh es e↔x=e∨x∈es:=by
 rw[aft]
 conv=>rhs;rw[←ln (p:=fun x=>ltE x e) (l:=es)]
 simp only[bi,bf];exact⟨fun h=>h.elim (fun h=>h.elim (fun h=>.inr (.inl h)) .inl) (fun h=>.inr (.inr h)),fun h=>h.elim (fun h=>.inl (.inr h)) (fun h=>h.elim (fun h=>.inl (.inl h)) .inr)⟩
theorem aoW{e:E3}:∀{es:List E3},rL es→e∉es→∀x∈es.dropWhile (fun x=>ltE x e),Nu e x
 | [],_,_,x,h=>by cases h
 | y::ys,hs,he,x,h=>by
  obtain⟨h1,h2⟩:=bt.1 hs;rw[ni] at h;split at h
  · exact aoW h2 (fun k=>he (bg _ k)) x h
  · rename_i hy
    have hy':Nu e y:=by
     rcases Nu.tri y e with k | k | k
     · exact absurd (afs.2 k) hy
     · exact absurd (k▸bm ..) he
     · exact k
    rcases an.1 h with rfl | h
    · exact hy'
    · exact hy'.trans (h1 x h)
theorem adF{α:Type}{p:α→Bool}{x:α}:∀{l:List α},x∈l.takeWhile p→p x=true
 | [],h=>by cases h
 | y::l,h=>by
  rw[lu] at h;split at h
  · rename_i hy
    rcases an.1 h with rfl | h
    · exact hy
    · exact adF h
  · cases h
theorem asC{e:E3}  : ∀x∈es.takeWhile (fun x=>ltE x e),Nu x e:=fun x h=>afs.1 (adF (p:=fun x=>ltE x e) h)
theorem abB{e:E3}(hs:rL es)(he:e∉es):rL (adh es e):=by
 rw[aft];have h0:=hs;rw[rL,←ln (p:=fun x=>ltE x e) (l:=es)] at h0;obtain⟨h1,h2,h3⟩:=gj.1 h0;refine gj.2 ⟨gj.2 ⟨h1,List.pairwise_singleton _ _,fun x hx y hy=>?_⟩,h2,fun x hx y hy=>?_⟩
 · rw[bf.1 hy];exact asC x hx
 · rcases bi.1 hx with hx | hx
   · exact h3 x hx y hy
   · rw[bf.1 hx];exact aoW hs he y hy
theorem uV{e:E3}:0<lV es e↔e∈es:=by
 unfold lV;rw[List.length_pos_iff_exists_mem];simp
theorem Ls{all:List E3}:∀(es out:List E3),rL out→rL (es.foldl (pY all) out)∧∀x,x∈es.foldl (pY all) out↔x∈out∨x∈es∧(x.2,x.1)∉all
 | [],out,h=>⟨h,fun x=>by simp⟩
 | e::es,out,h=>by
  have key:rL (pY all out e)∧∀x,x∈pY all out e↔x∈out∨x=e∧(x.2,x.1)∉all:=by
   unfold pY;split
   · rename_i hc
     refine⟨h,fun x=>⟨.inl,fun k=>k.elim id fun q=>?_⟩⟩;obtain⟨rfl,q⟩:=q;exact hc.elim (fun hc=>absurd (uV.1 hc) q) (fun hc=>uV.1 hc)
   · rename_i hc
     have h1:e∉out:=fun k=>hc (.inr (uV.2 k));have h2:(e.2,e.1)∉all:=fun k=>hc (.inl (uV.2 k));refine⟨abB h h1,fun x=>ai6.trans ⟨fun k=>k.elim (fun k=>.inr ⟨k,k▸h2⟩) .inl,fun k=>k.elim .inr fun k=>.inl k.1⟩⟩
  obtain⟨i1,i2⟩:=Ls es (pY all out e) key.1;refine⟨i1,fun x=>?_⟩;rw[jx,i2,key.2,an,or_assoc];refine or_congr Iff.rfl ⟨fun k=>k.elim (fun k=>⟨.inl k.1,k.2⟩) (fun k=>⟨.inr k.1,k.2⟩),fun k=>k.1.elim (fun h=>.inl ⟨h,k.2⟩) (fun h=>.inr ⟨h,k.2⟩)⟩
theorem Vn(ts:List T3):rL (cN ts):=(Ls (all:=aX ts) (aX ts) [] li).1
theorem adG{e:E3}:e∈cN ts↔e∈aX ts∧(e.2,e.1)∉aX ts:=by
 have:=(Ls (all:=aX ts) (aX ts) [] li).2 e;unfold cN;rw[this];simp
/-! ### Keys put into a set -/
section
variable {K:Type} [DecidableEq K]
def fY(D:List (K × Bool))(ks:List K):List (K × Bool):=ks.foldl (fun D k=>fI D k true) D
theorem uW:∀(ks:List K) (D:List (K × Bool)) (a:K),a∈(fY D ks).map (·.1)↔a∈D.map (·.1)∨a∈ks
 | [],D,a=>by simp[fY]
 | k::ks,D,a=>by
  have:=uW ks (fI D k true) a;unfold fY at this ⊢;rw[jx,this,abz,an,or_assoc]
theorem Gr:∀(ks:List K) (D:List (K × Bool)),(D.map (·.1)).Nodup→((fY D ks).map (·.1)).Nodup
 | [],_,h=>h
 | k::ks,D,h=>Gr ks (fI D k true) (uS h k true)
theorem pG:∀(ks:List K) (D:List (K × Bool)),(fY D ks).length≤D.length+ks.length
 | [],_=>aq _
 | k::ks,D=>by
  have h1:=pG ks (fI D k true);have h2:=vU D k true;show (fY (fI D k true) ks).length≤_
  rw[av];omega
theorem Rs:∀(ks:List K) (D:List (K × Bool)) (a:K),cG (fY D ks) a=if a∈ks then some true else cG D a
 | [],D,a=>by simp[fY]
 | k::ks,D,a=>by
  have h:=Rs ks (fI D k true) a;show cG (fY (fI D k true) ks) a=_
  rw[h,mK];by_cases h1:a∈ks
  · rw[if_pos h1,if_pos (bg _ h1)]
  · rw[if_neg h1]
    by_cases h2:k=a
    · rw[if_pos h2,if_pos (h2▸bm ..)]
    · rw[if_neg h2,if_neg (fun k'=>(an.1 k').elim (fun e=>h2 e.symm) h1)]
theorem ai7(D:List (K × Bool))(ks ls:List K):fY D (ks++ls)=fY (fY D ks) ls:=gz ..
theorem rZ(ks:List K)(a:K):(cG (fY [] ks) a).getD false=decide (a∈ks):=by
 rw[Rs];by_cases h:a∈ks
 · rw[if_pos h,decide_eq_true h];rfl
 · rw[if_neg h,decide_eq_false h];rfl
theorem abC{ks:List K}{a:K}:(cG (fY [] ks) a).getD false=true↔a∈ks:=by
 rw[Rs];by_cases h:a∈ks
 · rw[if_pos h];exact⟨fun _=>h,fun _=>rfl⟩
 · rw[if_neg h];exact⟨fun k=>(by cases k),fun k=>absurd k h⟩
end
/-! ### No edge twice -/
theorem Lu{e:E3}  : lV (x::es) e=(if x=e then 1 else 0)+lV es e:=by
 unfold lV;by_cases h:x=e
 · rw[List.filter_cons_of_pos (by simpa using h),av,if_pos h];omega
 · rw[List.filter_cons_of_neg (by simpa using h),if_neg h];omega
theorem Xa:∀{es:List E3},es.Nodup↔∀e,lV es e≤1
 | []=>by simp[lV]
 | x::es=>by
  rw[gt,Xa (es:=es)];constructor
  · rintro⟨h1,h2⟩ e
    rw[Lu];by_cases h:x=e
    · have:¬0<lV es e:=fun k=>h1 (h▸uV.1 k)
      rw[if_pos h];omega
    · rw[if_neg h];have:=h2 e;omega
  · intro h
    refine⟨fun k=>?_,fun e=>?_⟩
    · have h1:=h x
      rw[Lu,if_pos rfl] at h1;have:=uV.2 k;omega
    · have:=h e
      rw[Lu] at this;omega
theorem Is  : (es.any fun e=>decide (1<lV es e))=decide (¬es.Nodup):=by
 rw[Bool.eq_iff_iff,fe,decide_eq_true_eq,Xa];constructor
 · rintro⟨e,_,h⟩ k
   have:=k e;simp only[decide_eq_true_eq] at h;omega
 · intro h
   obtain⟨e,he⟩:=Classical.not_forall.1 h;exact⟨e,uV.1 (by omega),by simpa using Nat.not_le.1 he⟩
theorem Rt{α:Type}{es:List α}{e:α}:(es++[e]).Nodup↔es.Nodup∧e∉es:=by
 rw[jr];constructor
 · rintro⟨h1,_,h3⟩
   exact⟨h1,fun k=>h3 e k e (by simp) O⟩
 · rintro⟨h1,h2⟩
   exact⟨h1,by simp,fun a ha b hb e'=>h2 (by rw[←bf.1 hb,←e'];exact ha)⟩
end Go.Lith
