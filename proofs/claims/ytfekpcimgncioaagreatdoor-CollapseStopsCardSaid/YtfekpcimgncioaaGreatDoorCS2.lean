/-
 Texts of one claim, laid together: Guard, Geo6, Open, Surf, Surf2, Lat, Chk, Facts, Facts2, Map0, Map, Map2, Nc, Vg, Vs, Cj, Vj, Sort, Sets, Box, Wa, Wb.
-/
import Derived.OpenShut
import Derived.Lib.SmallJoins
import Derived.Deep.Slices
import Derived.Test.YtfekpcimgncioaaGreatDoorProg
import Derived.Maps.RangeRun
import Derived.Shelf.SlSortCmp.WholeK
import Derived.Shelf.SlSortCmp.NoneTotal
import Derived.Test.YtfekpcimgncioaaGreatDoorCS1
open Go renaming Value→ac,World→ah,TypeId→aj,wpList→ao,Operand→a_,Program→bc,run_underlying→bu,MapEntry→bx,wpQuiet→bz,Deferred→cg,execOp→ck
open List renaming mem_cons→ak,getElem?_eq_getElem→an,getElem?_eq_some_iff→ar,length_cons→au,flatMap_append→av,length_append→aw,mem_singleton→ay,mem_of_getElem?→ba,take_of_length_le→be,mem_append→bg,pairwise_cons→bj,mem_cons_of_mem→bm,map_cons→bn,mem_cons_self→bp,length_take→br,nil_append→bv,not_mem_nil→bw,cons_append→b_,map_append→cl,getElem?_append_left→cn,append_assoc→cq,getElem?_drop→cu,flatMap_cons→cw,getElem?_take→dg,getElem?_append_right→dh,mem_map→dj,getElem?_map→dw,any_eq_true→dx,mem_flatMap→dz,getElem?_eq_none→ee,length_drop→ej,append_nil→e_,ext_getElem?→fa,pairwise_append→fg,drop_of_length_le→fq,getD_eq_getElem?_getD→fz,nodup_cons→gm,getElem?_cons_succ→gt,getElem?_set→ie,foldl_cons→ik,range→ip,foldl_append→iw,nodup_append→ix,getElem?_toArray→jd,takeWhile_append_dropWhile→jo,take_succ_cons→jq,getElem_of_mem→jr,takeWhile_cons→jt,take_zero→ju,map_eq_append_iff→kd,mem_range→kz,map_eq_cons_iff→k_,filter_cons_of_pos→lk,filter_cons_of_neg→ll,drop_append→lw,take_append→lx,flatMap_nil→ly,dropWhile_cons→mc,take_add_one→mr
open Nat renaming le_refl→ap,zero_add→aq,zero_le→cd,lt_or_ge→eo,add_sub_cancel→ft,le_of_not_lt→ib,add_mul→iv,mod_lt→ku,one_mul→l_,mul_comm→nq
open Bool renaming and_eq_true→bh,not_false→ei,not_true→el
open Go.Oper renaming mk→bi
open Go.Exit renaming inBlock→cj
open Option renaming getD_some→cv,map_some→d_,bind_some→jv,map_none→ng
open Array renaming getElem?_eq_some_iff→da,getElem?_toList→et,getElem?_eq_getElem→fl,mapM_eq_mapM_toList→gh,getElem?_setIfInBounds_ne→gu,getElem?_modify→im,eraseIdxIfInBounds→jm,toList_push→lp,toList_modify→mb
open Prod.mk renaming injEq→ff
open Option.some renaming inj→fw
open Int renaming tmod_eq_emod_of_nonneg→gv
open List.Pairwise renaming nil→ji
open List.cons renaming injEq→ke
open List.Perm renaming append_left→ki,refl→lq,trans→nh
open Prod renaming ext→ml,snd→nc,fst→nl
set_option linter.unusedSimpArgs false
set_option linter.unusedVariables false
set_option linter.unusedSectionVars false
namespace Go.Lith
open Go.RowKit
@[irreducible] def Mf(c:Bool)(v:ac):ac:=if c then v else undef
theorem kG{v:ac}:Mf true v=v:=by simp[Mf]
theorem Ad{v:ac}:Mf false v=undef:=by simp[Mf]
theorem bD{c:Bool}{u v:ac}(hb:c=true)(h:u=Mf c v):u=v:=by rw[h,hb,kG]
section
variable {P:bc} {ds:List cg} {l:List ac} {x y:a_} {T ty:aj} {b c:Bool} {v:ac}
theorem eO{z:a_}(hz:ev l z=.bool b)(hx:ev l x=Mf b (.bool c))(hy:ev l y=.bool false):gI P l (.pick z x y) ty (.bool (b&&c)):=by
 have:=Pu (P:=P) (ty:=ty) (x:=x) (y:=y) hz;cases b with
 | false=>simpa[hy] using this
 | true=>simpa[hx,kG] using this
theorem dW{z:a_}(hz:ev l z=.bool b)(hx:ev l x=.bool true)(hy:ev l y=Mf (!b) (.bool c)):gI P l (.pick z x y) ty (.bool (b||c)):=by
 have:=Pu (P:=P) (ty:=ty) (x:=x) (y:=y) hz;cases b with
 | false=>simpa[hy,kG] using this
 | true=>simpa[hx] using this
end
section
variable {P:bc} {ops:Array Oper} {Q:Exit→Act→ah→Prop} {rest:List Oper} {d j:Nat} {op:Op} {ty:aj} {pos:String} {after:Array Edge} {v:ac} {b:Bool} {ds:List cg} {l:List ac} {w w0:ah} {is:List It}
theorem iG(hw:yielded ops l.toArray j=some b)(hr:b=true→vL P l op ty v w)(h:ao P ops Q rest (Fr (l.set d (Mf b v)) ds) w):ao P ops Q (bi (some d) op ty pos after (some (j,true))::rest) (Fr l ds) w:=by
 cases b with
 | false=>rw[Ad] at h;exact oK hw h
 | true=>rw[kG] at h;exact eD hw (eQ (hr rfl) h)
theorem eV(hw:yielded ops l.toArray j=some b)(hr:(!b)=true→vL P l op ty v w)(h:ao P ops Q rest (Fr (l.set d (Mf (!b) v)) ds) w):ao P ops Q (bi (some d) op ty pos after (some (j,false))::rest) (Fr l ds) w:=by
 cases b with
 | true=>rw[el,Ad] at h;exact aas hw h
 | false=>rw[ei,kG] at h;exact eD hw (eQ (hr rfl) h)
theorem kB(hw:yielded ops l.toArray j=some b)(hr:b=true→gI P l op ty v)(h:ao P ops Q rest (Fr (l.set d (Mf b v)) ds) w):ao P ops Q (bi (some d) op ty pos after (some (j,true))::rest) (Fr l ds) w:=iG hw (fun e=>hr e w) h
theorem dG(hw:yielded ops l.toArray j=some b)(hr:(!b)=true→gI P l op ty v)(h:ao P ops Q rest (Fr (l.set d (Mf (!b) v)) ds) w):ao P ops Q (bi (some d) op ty pos after (some (j,false))::rest) (Fr l ds) w:=eV hw (fun e=>hr e w) h
theorem aaA{f:FuncId}{fo:a_}{xs:Array a_}{args:List ac}{first cap:Array ac}{a0:Array aj}(m:Mem w0 w is)(hw:yielded ops l.toArray j=some b)(hf:ev l fo=.func (.func f) first cap)(hxs:b=true→first.toList++xs.toList.map (ev l)++cap.toList=args)(hc:b=true→eM P f args v)
 (h:∀u,Mem w0 u is→ao P ops Q rest (Fr (l.set d (Mf b v)) ds) u):ao P ops Q (bi (some d) (.call { callee:=.value fo,args:=xs,argTypes:=a0 }) ty pos after (some (j,true))::rest) (Fr l ds) w:=by
 cases b with
 | false=>simp only[Ad] at h;exact oK hw (h w m)
 | true=>simp only[kG] at h;exact eD hw (kA m hf (hxs rfl) (hc rfl) h)
theorem Qo{f:FuncId}{fo:a_}{xs:Array a_}{args:List ac}{first cap:Array ac}{a0:Array aj}(m:Mem w0 w is)(hw:yielded ops l.toArray j=some b)(hf:ev l fo=.func (.func f) first cap)(hxs:(!b)=true→first.toList++xs.toList.map (ev l)++cap.toList=args)(hc:(!b)=true→eM P f args v)
 (h:∀u,Mem w0 u is→ao P ops Q rest (Fr (l.set d (Mf (!b) v)) ds) u):ao P ops Q (bi (some d) (.call { callee:=.value fo,args:=xs,argTypes:=a0 }) ty pos after (some (j,false))::rest) (Fr l ds) w:=by
 cases b with
 | true=>simp only[el,Ad] at h;exact aas hw (h w m)
 | false=>simp only[ei,kG] at h;exact eD hw (kA m hf (hxs rfl) (hc rfl) h)
end
section
variable {P:bc} {ops:Array Oper} {Q:Act→Prop} {C:ah→Prop} {rest:List Oper} {d j:Nat} {op:Op} {ty:aj} {pos:String} {after:Array Edge} {v:ac} {b:Bool} {ds:List cg} {l:List ac} {w0:ah} {is:List It}
theorem eH(hw:yielded ops l.toArray j=some b)(hr:b=true→∀u,C u→vL P l op ty v u)(h:bz P ops C Q rest (Fr (l.set d (Mf b v)) ds)):bz P ops C Q (bi (some d) op ty pos after (some (j,true))::rest) (Fr l ds):=by
 cases b with
 | false=>rw[Ad] at h;exact mZ hw h
 | true=>rw[kG] at h;exact cH hw (jC (hr rfl) h)
theorem nJ(hw:yielded ops l.toArray j=some b)(hr:(!b)=true→∀u,C u→vL P l op ty v u)(h:bz P ops C Q rest (Fr (l.set d (Mf (!b) v)) ds)):bz P ops C Q (bi (some d) op ty pos after (some (j,false))::rest) (Fr l ds):=by
 cases b with
 | true=>rw[el,Ad] at h;exact Cb hw h
 | false=>rw[ei,kG] at h;exact cH hw (jC (hr rfl) h)
theorem cX(hw:yielded ops l.toArray j=some b)(hr:b=true→gI P l op ty v)(h:bz P ops C Q rest (Fr (l.set d (Mf b v)) ds)):bz P ops C Q (bi (some d) op ty pos after (some (j,true))::rest) (Fr l ds):=eH hw (fun e u _=>hr e u) h
theorem gF(hw:yielded ops l.toArray j=some b)(hr:(!b)=true→gI P l op ty v)(h:bz P ops C Q rest (Fr (l.set d (Mf (!b) v)) ds)):bz P ops C Q (bi (some d) op ty pos after (some (j,false))::rest) (Fr l ds):=nJ hw (fun e u _=>hr e u) h
theorem Qp{f:FuncId}{fo:a_}{xs:Array a_}{args:List ac}{first cap:Array ac}{a0:Array aj}(hw:yielded ops l.toArray j=some b)(hf:ev l fo=.func (.func f) first cap)(hxs:b=true→first.toList++xs.toList.map (ev l)++cap.toList=args)(hc:b=true→eM P f args v)
 (h:bz P ops (fun u=>Mem w0 u is) Q rest (Fr (l.set d (Mf b v)) ds)):bz P ops (fun u=>Mem w0 u is) Q (bi (some d) (.call { callee:=.value fo,args:=xs,argTypes:=a0 }) ty pos after (some (j,true))::rest) (Fr l ds):=by
 cases b with
 | false=>rw[Ad] at h;exact mZ hw h
 | true=>rw[kG] at h;exact cH hw (iF hf (hxs rfl) (hc rfl) h)
theorem aaB{f:FuncId}{fo:a_}{xs:Array a_}{args:List ac}{first cap:Array ac}{a0:Array aj}(hw:yielded ops l.toArray j=some b)(hf:ev l fo=.func (.func f) first cap)(hxs:(!b)=true→first.toList++xs.toList.map (ev l)++cap.toList=args)(hc:(!b)=true→eM P f args v)
 (h:bz P ops (fun u=>Mem w0 u is) Q rest (Fr (l.set d (Mf (!b) v)) ds)):bz P ops (fun u=>Mem w0 u is) Q (bi (some d) (.call { callee:=.value fo,args:=xs,argTypes:=a0 }) ty pos after (some (j,false))::rest) (Fr l ds):=by
 cases b with
 | true=>rw[el,Ad] at h;exact Cb hw h
 | false=>rw[ei,kG] at h;exact cH hw (iF hf (hxs rfl) (hc rfl) h)
end
section
variable {P:bc} {ops:Array Oper} {S:ah→Prop} {Q:Exit→Act→ah→Prop} {rest:List (Oper × Bool)} {d j:Nat} {op:Op} {ty:aj} {pos:String} {after:Array Edge} {v:ac} {b:Bool} {ds:List cg} {l:List ac} {w:ah}
theorem Cl(hw:yielded ops l.toArray j=some b)(hr:b=true→∀u,S u→vL P l op ty v u)(h:bE P ops S Q rest (Fr (l.set d (Mf b v)) ds) w):bE P ops S Q ((bi (some d) op ty pos after (some (j,true)),true)::rest) (Fr l ds) w:=by
 cases b with
 | false=>rw[Ad] at h;exact qA hw h
 | true=>rw[kG] at h;exact iR hw (Qg (hr rfl) h)
theorem Ei(hw:yielded ops l.toArray j=some b)(hr:b=true→gI P l op ty v)(h:bE P ops S Q rest (Fr (l.set d (Mf b v)) ds) w):bE P ops S Q ((bi (some d) op ty pos after (some (j,true)),true)::rest) (Fr l ds) w:=Cl hw (fun e u _=>hr e u) h
end
end Go.Lith
namespace Go.Lith
open Go.RowKit Go.ChangeShapes
variable {H:Type} {enc:aj × ac→H} {P:bc} {w:ah} {base:Nat} {spare:Nat→Bool} {held:Bool}
def rG(P:bc):Nat→aj→Bool
 | 0,_=>false
 | n+1,t=>match P.underlying t with
  | some (.int .i64)=>decide (P.cellsOf t=1)
  | some (.struct fs)=>(fs.toList.all fun f=>rG P n f.type)&&(ip (P.cellsOf t)).all fun i=>fs.toList.any fun f=>decide (f.offset≤i)&&decide (i<f.offset+P.cellsOf f.type)
  | some (.array m e)=>rG P n e&&decide (P.cellsOf t=m*P.cellsOf e)
  | _=>false
theorem ajk{n:Int}(h:(Lit.int .i64 n).wf=true):oV n:=by
 have:=bounds_i64 h;exact⟨by omega,by omega⟩
theorem uH:∀(n:Nat) (t:aj) (m:Nat) (cs:List ac) (x:DataW H × List MemPlace),rG P n t=true→DataW.trod enc P w base spare held m t cs=some x →
 cs.length=P.cellsOf t∧∀v∈cs,∃z,v=.int .i64 z∧oV z
 | 0,t,m,cs,x,h,_=>by cases h
 | n+1,t,m,cs,x,h,hx=>by
  unfold rG at h;split at h
  · rename_i hu
    obtain⟨z,rfl,_,hz⟩:=DataW.trod_int hu hx;refine⟨by rw[of_decide_eq_true h];rfl,fun v hv=>⟨z,by simpa using hv,ajk hz⟩⟩
  · rename_i fs hu
    simp only[bh,List.all_eq_true,dx,decide_eq_true_eq,kz] at h;obtain⟨ys,k,_,_,hl,hlen,hf⟩:=DataW.trod_struct hu hx;refine⟨hl,fun v hv=>?_⟩;obtain⟨i,hi,rfl⟩:=jr hv;obtain⟨f,hfm,h1,h2⟩:=h.2 i (by rw[←hl];exact hi);obtain⟨j,hj,rfl⟩:=jr hfm;have hj':j<fs.size:=by simpa using hj
    have:=hf j fs[j] (fl hj');rw[an (by rw[hlen];exact hj')] at this;have hr:=(uH n _ _ _ _ (h.1 _ (List.getElem_mem hj)) this).2;refine hr _ ?_;simp only[Array.getElem_toList] at h1 h2;refine ba (i:=i-fs[j].offset) ?_;rw[dg,if_pos (by omega),cu,show fs[j].offset+(i-fs[j].offset)=i by omega];exact an hi
  · rename_i q e hu
    simp only[bh,decide_eq_true_eq] at h;obtain⟨ys,k,_,_,hl,hlen,hf⟩:=DataW.trod_array hu hx;refine⟨hl,fun v hv=>?_⟩;obtain⟨i,hi,rfl⟩:=jr hv;rw[hl,h.2] at hi;have hc:0<P.cellsOf e:=by
     rcases Nat.eq_zero_or_pos (P.cellsOf e) with h0 | h0
     · rw[h0] at hi;omega
     · exact h0
    have hq:i / P.cellsOf e<q:=Nat.div_lt_of_lt_mul (by rw[nq];exact hi);have:=hf _ hq;rw[an (by rw[hlen];exact hq)] at this;have hr:=(uH n _ _ _ _ h.1 this).2;refine hr _ (ba (i:=i%P.cellsOf e) ?_);rw[dg,if_pos (ku _ hc),cu,nq,Nat.div_add_mod];exact an _
  · cases h
theorem Nw:∀(n:Nat) (cs:List ac),cs.length=n→(∀v∈cs,∃z,v=.int .i64 z∧oV z)→∃zs:List Int,zs.length=n∧cs=zs.map (.int .i64 ·)∧∀z∈zs,oV z
 | 0,[],_,_=>⟨[],rfl,rfl,fun _ h=>by cases h⟩
 | n+1,v::vs,h,hv=>by
  obtain⟨zs,h1,h2,h3⟩:=Nw n vs (by simpa using h) (fun u hu=>hv u (by simp[hu]));obtain⟨z,rfl,hz⟩:=hv v (by simp);exact⟨z::zs,by simp[h1],by simp[h2],fun u hu=>by rcases ak.1 hu with rfl | hu;exact hz;exact h3 _ hu⟩
theorem Xm{a:Addr}{n:Nat}{cs:List ac}(h:w.cells? base a n=some cs):nV w a cs∧base≤a.block:=by
 unfold World.cells? at h;split at h
 · rename_i hb
   refine⟨fun j u hj=>?_,hb⟩;have hl:=mapM_some_length h;have hj':j<cs.length:=(ar.1 hj).1;rw[hl] at hj';have:=mapM_some_get h j j (an hj'▸by simp);rw[this,hj]
 · cases h
theorem abF{n m:Nat}{t e:aj}{fuel:Nat}{cs:List ac}{x:DataW H × List MemPlace}(hu:P.underlying t=some (.slice e))(hi:rG P n e=true)(hc:P.cellsOf e=m)(h:DataW.trod enc P w base spare held fuel t cs=some x) :
 ∃(A:Option Addr) (len cap:Nat),cs=[.slice A len cap]∧len≤cap∧cap≤maxLen∧(A=none→len=0)∧∀i,i<len→∃(a:Addr) (zs:List Int),A=some a∧base≤a.block∧nV w (a.add (i*m)) (zs.map (Value.int .i64 ·))∧zs.length=m∧∀z∈zs,oV z:=by
 rcases Deep.open_slice hu h with ⟨rfl,_⟩ | ⟨a,len,cap,k,q,D,Pl,rfl,hb,hl,hm,hk,_,hx⟩
 · exact⟨none,0,0,rfl,ap _,cd _,fun _=>rfl,fun i hi=>absurd hi (Nat.not_lt_zero _)⟩
 · refine⟨some a,len,cap,rfl,hl,hm,fun h=>(by cases h),fun i hi'=>?_⟩
   obtain⟨cs',h1,h2⟩:=hx i (by rw[hk];split <;> omega);obtain⟨h3,h4⟩:=uH n e q _ _ hi h2;obtain⟨zs,h5,rfl,h6⟩:=Nw m cs' (by rw[←hc];exact h3) h4;rw[hc] at h1;exact⟨a,zs,rfl,hb,(Xm h1).1,h5,h6⟩
theorem Ga{α:Type}{p:Nat→α→Prop}:∀(n:Nat),(∀i,i<n→∃x,p i x)→∃l:List α,l.length=n∧∀i x,l[i]? = some x→p i x
 | 0,_=>⟨[],rfl,fun i x h=>by simp at h⟩
 | n+1,h=>by
  obtain⟨l,h1,h2⟩:=Ga n (fun i hi=>h i (by omega));obtain⟨x,hx⟩:=h n (by omega);refine⟨l++[x],by simp[h1],fun i y hy=>?_⟩;rcases Nat.lt_trichotomy i n with hi | hi | hi
  · exact h2 i y (by rwa [cn (by omega)] at hy)
  · subst hi
    rw[dh (by omega),h1,Nat.sub_self] at hy;cases hy;exact hx
  · rw[dh (by omega),h1] at hy
    have:i-n≠0:=by omega
    cases hd:i-n with
    | zero=>omega
    | succ j=>rw[hd] at hy;simp at hy
structure adu(w:ah)(A:Option Addr)(n:Nat)(zs:List Int):Prop where
 len:zs.length=n
 it:∀z∈zs,oV z
 row:∀i z,zs[i]? = some z→∃a,A=some a∧w.cell? (a.add i)=some (.int .i64 z)
theorem Xn{n:Nat}{t e:aj}{fuel:Nat}{cs:List ac}{x:DataW H × List MemPlace}(hu:P.underlying t=some (.slice e))(hi:rG P n e=true)(hc:P.cellsOf e=1)(h:DataW.trod enc P w base spare held fuel t cs=some x) :
 ∃(A:Option Addr) (len cap:Nat) (zs:List Int),cs=[.slice A len cap]∧len≤cap∧cap≤maxLen∧(A=none→len=0)∧adu w A len zs:=by
 obtain⟨A,len,cap,rfl,h1,h2,h3,h4⟩:=abF hu hi hc h;obtain⟨zs,h5,h6⟩:=Ga (p:=fun i (z:Int)=>oV z∧∃a,A=some a∧w.cell? (a.add i)=some (.int .i64 z)) len (fun i hi=>by
  obtain⟨a,zs,rfl,_,hr,hl,hz⟩:=h4 i hi
  match zs,hl with
  | [z],_=>exact⟨z,hz _ (by simp),a,rfl,by have:=hr 0 _ rfl;rwa [Nat.mul_one,iD,Nat.add_zero] at this⟩)
 refine⟨A,len,cap,zs,rfl,h1,h2,h3,h5,fun z hz=>?_,fun i z hz=>(h6 i z hz).2⟩;obtain⟨i,hi,rfl⟩:=jr hz;exact (h6 i _ (an hi)).1
end Go.Lith
namespace Go.Lith
open Go.RowKit
theorem aip{n m:Int}(hm:0<m) : -m<n.tmod m∧n.tmod m<m:=by
 have h1:=Int.tmod_lt_of_pos n hm;have h2:=Int.tmod_lt_of_pos (-n) hm;rw[Int.neg_tmod] at h2;omega
theorem agR{n m:Int}(hm:0<m):(n.tmod m+m).tmod m=n%m:=by
 have hb:=aip (n:=n) hm;rw[gv (by omega)];rcases Int.le_total 0 n with h | h
 · rw[gv h]
   simp
 · have e:n.tmod m = -((-n)%m):=by
    rw[←gv (show 0 ≤ -n by omega),Int.neg_tmod,Int.neg_neg]
   rw[e,Int.add_emod_right];have h2:=Int.emod_add_mul_ediv (-n) m;have h3 : -((-n)%m)=n+m*(-n / m):=by omega
   rw[h3,Int.add_mul_emod_self_left]
/-! ### Hills -/
theorem Gb{α β:Type}{f:α→List β}{k:Nat}:∀(l:List α),(∀x∈l,(f x).length=k)→(l.flatMap f).length=l.length*k
 | [],_=>by simp
 | x::l,h=>by
  rw[cw,aw,h x (by simp),Gb l (fun y hy=>h y (by simp[hy])),au,iv,l_,Nat.add_comm]
/-! ### Cubes -/
/-! ### What the walks ask for -/
theorem aiq{k c:Nat}:(k:Int).tmod (c:Int)=((k%c:Nat):Int):=rfl
theorem amP(ts:List T3)(k:Nat):(ts.take k).flatMap aK=(ts.flatMap aK).take (k*9):=by
 induction ts generalizing k with
 | nil=>simp
 | cons t ts ih =>
  cases k with
  | zero=>simp
  | succ k =>
   rw[jq,cw,cw,ih,lx,cQ,be (l:=aK t) (by rw[cQ];omega),show (k+1)*9-9=k*9 by omega]
theorem adv{ts:List T3}{k:Nat}{t u:T3}(h:ts[k]? = some t):over (ts.flatMap aK) (k*9) (aK u)=(ts.set k u).flatMap aK:=by
 induction ts generalizing k with
 | nil=>cases h
 | cons v ts ih =>
  cases k with
  | zero =>
   unfold over;rw[Nat.zero_mul,ju,bv,List.set_cons_zero,cw,cw,cQ,aq,lw,cQ,fq (l:=aK v) (by rw[cQ];omega)];rfl
  | succ k =>
   have:=ih (k:=k) h;unfold over at this ⊢;rw[List.set_cons_succ,cw,cw,←this,cQ];rw[lx,cQ,be (l:=aK v) (by rw[cQ];omega),show (k+1)*9-9=k*9 by omega,lw,cQ,fq (l:=aK v) (by rw[cQ];omega),show (k+1)*9+9-9=k*9+9 by omega];simp only[cq,bv]
def T3.cor(t:T3)(c:Nat):P3:=if c=0 then t.a else if c=1 then t.b else t.c
def T3.setC(t:T3)(c:Nat)(p:P3):T3:=if c=0 then ⟨p,t.b,t.c⟩ else if c=1 then ⟨t.a,p,t.c⟩ else ⟨t.a,t.b,p⟩
theorem agS{t:T3}{c:Nat}{p:P3}(hc:c<3):over (aK t) (c*3) [.int .i64 p.x,.int .i64 p.y,.int .i64 p.z]=aK (t.setC c p):=by
 have:c=0∨c=1∨c=2:=by omega
 rcases this with rfl | rfl | rfl <;> rfl
theorem abG{cs us:List ac}{off k d:Nat}(h:off+k≤cs.length)(hu:us.length+d≤k):over cs (off+d) us=over cs off (over ((cs.drop off).take k) d us):=by
 have e0:((cs.drop off).take k).length=k:=by rw[br,ej];omega
 have e1:(over ((cs.drop off).take k) d us).length=k:=by rw[vU (by omega)];exact e0
 unfold over at e1 ⊢;rw[e1];apply fa;intro j;simp only[cq];rcases eo j off with h1 | h1
 · rw[cn (by rw[br];omega),cn (by rw[br];omega),dg,dg,if_pos (by omega),if_pos h1]
 · rw[dh (l₁:=cs.take off) (by rw[br];omega)]
   have e2:(cs.take off).length=off:=by rw[br];omega
   have e3:(cs.take (off+d)).length=off+d:=by rw[br];omega
   rw[e2];rcases eo j (off+d) with h2 | h2
   · rw[cn (by rw[e3];exact h2),cn (by rw[br,e0];omega),dg,dg,dg,cu,if_pos h2,if_pos (by omega),if_pos (by omega),show off+(j-off)=j by omega]
   · rw[dh (by rw[e3];exact h2),e3,dh (l₁:=((cs.drop off).take k).take d) (by rw[br,e0];omega),br (l:=(cs.drop off).take k),e0,Nat.min_eq_left (by omega),show j-off-d=j-(off+d) by omega]
     rcases eo (j-(off+d)) us.length with h3 | h3
     · rw[cn h3,cn h3]
     · rw[dh h3,dh h3]
       rcases eo j (off+k) with h4 | h4
       · rw[cn (by rw[ej,e0];omega),cu,cu,dg,cu,if_pos (by omega)]
         congr 1
         omega
       · rw[dh (by rw[ej,e0];omega),cu,cu,ej,e0]
         congr 1
         omega
theorem adw{ts:List T3}{k c:Nat}{t:T3}{p:P3}(h:ts[k]? = some t)(hc:c<3):over (ts.flatMap aK) (k*9+c*3) [.int .i64 p.x,.int .i64 p.y,.int .i64 p.z]=(ts.set k (t.setC c p)).flatMap aK:=by
 have hk:k<ts.length:=(ar.1 h).1;have hd:=yB ts k t h;rw[abG (k:=9) (by rw[yC];omega) (by show 3+_≤9;omega),hd,lx,cQ,be (l:=aK t) (by rw[cQ];omega),show 9-9=0 from rfl,ju,e_,agS hc,adv h]
section
variable {w0 w:ah} {S:List (Option Nat)} {E:aj} {n cap:Nat} {A:Option Addr} {ts:List T3}
theorem nV.cor{a:Addr}{t:T3}{c:Nat}(h:nV w a (aK t))(hc:c<3):nV w (a.add (c*3)) [.int .i64 (t.cor c).x,.int .i64 (t.cor c).y,.int .i64 (t.cor c).z]:=by
 have:=(h.sub (c*3)).take 3;have e:c=0∨c=1∨c=2:=by omega
 rcases e with rfl | rfl | rfl <;> exact this
theorem bK.take{N k:Nat}(h:bK w A N ts)(hk:k≤N):bK w A k (ts.take k) :=
 ⟨by rw[br,h.len];omega,fun t ht=>h.it t (List.mem_of_mem_take ht),fun i t ht=>h.row i t (by rw[dg] at ht;split at ht;exact ht;cases ht)⟩
end
section
variable {α:Type} {enc:α→List ac} {c:Nat} {w w':ah} {A:Option Addr} {n:Nat} {xs:List α}
structure vH(enc:α→List ac)(c:Nat)(w:ah)(A:Option Addr)(n:Nat)(xs:List α):Prop where
 len:xs.length=n
 row:∀i x,xs[i]? = some x→∃a,A=some a∧nV w (a.add (i*c)) (enc x)
theorem vH.ext(h:vH enc c w A n xs)(hE:eW w w'):vH enc c w' A n xs:=⟨h.len,fun i x hi=>let ⟨a,e,hr⟩:=h.row i x hi;⟨a,e,hr.ext hE⟩⟩
theorem vH.get(h:vH enc c w A n xs){i:Nat}(hi:i<n):∃x,xs[i]? = some x∧∃a,A=some a∧nV w (a.add (i*c)) (enc x):=by
 have hl:i<xs.length:=by rw[h.len];exact hi
 exact⟨xs[i],an hl,h.row i _ (an hl)⟩
theorem vH.at{a:Addr}(h:vH enc c w (some a) n xs){i:Nat}{x:α}(hx:xs[i]? = some x):nV w (a.add (i*c)) (enc x):=by
 obtain⟨b,e,hr⟩:=h.row i x hx;cases e;exact hr
theorem vH.take(h:vH enc c w A n xs){k:Nat}(hk:k≤n):vH enc c w A k (xs.take k) :=
 ⟨by rw[br,h.len];omega,fun i x hx=>h.row i x (by rw[dg] at hx;split at hx;exact hx;cases hx)⟩
theorem iQ(hc:∀x,(enc x).length=c):∀xs:List α,(xs.flatMap enc).length=xs.length*c
 | []=>by simp
 | x::xs=>by rw[cw,aw,hc,iQ hc xs,au,iv,l_,Nat.add_comm]
theorem uI(hc:∀x,(enc x).length=c):∀(xs:List α) (k:Nat),(xs.drop k).flatMap enc=(xs.flatMap enc).drop (k*c)
 | xs,0=>by simp
 | [],k+1=>by simp
 | x::xs,k+1=>by
  rw[List.drop_succ_cons,cw,uI hc xs k,lw,hc,fq (l:=enc x) (by rw[hc,iv];omega),iv,l_,ft,bv]
theorem Jh(hc:∀x,(enc x).length=c):∀(xs:List α) (k:Nat),(xs.take k).flatMap enc=(xs.flatMap enc).take (k*c)
 | xs,0=>by simp
 | [],k+1=>by simp
 | x::xs,k+1=>by
  rw[jq,cw,cw,Jh hc xs k,lx,hc,be (l:=enc x) (by rw[hc,iv];omega),iv,l_,ft]
theorem Ji(hc:∀x,(enc x).length=c){xs:List α}{i:Nat}{x:α}(h:xs[i]? = some x):(xs.flatMap enc).drop (i*c)=enc x++(xs.drop (i+1)).flatMap enc:=by
 rw[←uI hc,List.drop_eq_getElem_cons (ar.1 h).1,cw,(ar.1 h).2]
theorem Ow.at{w0:ah}{S:List (Option Nat)}{E:aj}{cap g i:Nat}{x:α}(hc:∀x,(enc x).length=c)(h:Ow w0 w S E c (Option.some ⟨g,0,none⟩) n cap (xs.flatMap enc))(hx:xs[i]? = Option.some x):nV w ((⟨g,0,none⟩:Addr).add (i*c)) (enc x):=by
 intro j u hj;have hj':j<(enc x).length:=(ar.1 hj).1;rw[iD];refine h.rows _ _ ?_;rw[←cu,Ji hc hx,cn hj'];exact hj
theorem Ow.num{w0:ah}{S:List (Option Nat)}{E:aj}{cap:Nat}(hc:∀x,(enc x).length=c)(h0:0<c)(h:Ow w0 w S E c A n cap (xs.flatMap enc)):xs.length=n:=by
 have:=h.own.1;rw[iQ hc] at this;exact Nat.eq_of_mul_eq_mul_right h0 this
theorem Ow.lat{w0:ah}{S:List (Option Nat)}{E:aj}{cap:Nat}(hc:∀x,(enc x).length=c)(h0:0<c)(h:Ow w0 w S E c A n cap (xs.flatMap enc)):vH enc c w A n xs :=
 ⟨h.num hc h0,fun i x hx=>by
  have hi:=(ar.1 hx).1;have hn:=h.num hc h0;obtain⟨g,rfl⟩:=h.some (by omega);exact⟨_,rfl,h.at hc hx⟩⟩
theorem vH.cells(hc:∀x,(enc x).length=c)(h0:0<c)(h:vH enc c w A n xs):∀j u,(xs.flatMap enc)[j]? = some u→∃a,A=some a∧w.cell? (a.add j)=some u:=fun j u hj=>by
 have hj':=(ar.1 hj).1;rw[iQ hc] at hj';have hi:j / c<xs.length:=(Nat.div_lt_iff_lt_mul h0).2 hj';obtain⟨a,rfl,hr⟩:=h.row (j / c) _ (an hi);refine⟨a,rfl,?_⟩;have hm:=ku j h0;have e:j=j / c*c+j%c:=by rw[nq];exact (Nat.div_add_mod j c).symm
 have:=hr (j%c) u (by
  rw[e,←cu,Ji hc (an hi),cn (by rw[hc];exact hm)] at hj;exact hj)
 rw[iD,←e] at this;exact this
theorem vH.cellsD(hc:∀x,(enc x).length=c)(h0:0<c)(h:vH enc c w A n xs){cap q:Nat}(hcap:n≤cap):∀j u,((xs.drop q).flatMap enc)[j]? = some u→∃a,(if cap=q then A else A.map (·.add (q*c)))=some a∧w.cell? (a.add j)=some u:=fun j u hj=>by
 rw[uI hc,cu] at hj;have hl:=(ar.1 hj).1;rw[iQ hc,h.len] at hl;obtain⟨a,rfl,hcl⟩:=h.cells hc h0 _ _ hj;have:q<n:=by
  refine Nat.lt_of_mul_lt_mul_right (a:=c) ?_;omega
 rw[if_neg (by omega)];exact⟨_,rfl,by rw[iD];exact hcl⟩
end
theorem cC{α:Type}{ps:List α}{k:Nat}{p:α}(h:ps[k]? = some p):ps.take (k+1)=ps.take k++[p]:=by
 rw[mr,h];rfl
abbrev E3:=P3 × P3
def cM(e:E3):List ac:=[.int .i64 e.1.x,.int .i64 e.1.y,.int .i64 e.1.z,.int .i64 e.2.x,.int .i64 e.2.y,.int .i64 e.2.z]
def ed(e:E3):ac:=.agg #[.int .i64 e.1.x,.int .i64 e.1.y,.int .i64 e.1.z,.int .i64 e.2.x,.int .i64 e.2.y,.int .i64 e.2.z]
def oN(p:P3):List ac:=[.int .i64 p.x,.int .i64 p.y,.int .i64 p.z]
theorem bK.lat{w:ah}{A:Option Addr}{n:Nat}{ts:List T3}(h:bK w A n ts):vH aK 9 w A n ts:=⟨h.len,h.row⟩
theorem Qr(es:List E3):∀u∈es.flatMap cM,u.oneCell'=true:=fun u hu=>by
 obtain⟨e,_,h⟩:=dz.1 hu;simp only[cM,ak,bw,or_false] at h;rcases h with rfl | rfl | rfl | rfl | rfl | rfl <;> rfl
theorem Jj(ps:List P3):∀u∈ps.flatMap oN,u.oneCell'=true:=fun u hu=>by
 obtain⟨e,_,h⟩:=dz.1 hu;simp only[oN,ak,bw,or_false] at h;rcases h with rfl | rfl | rfl <;> rfl
theorem adx(t:T3):(aK t).length=9:=rfl
theorem Hf(e:E3):(cM e).length=6:=rfl
theorem Hg(p:P3):(oN p).length=3:=rfl
def bA(ts:List T3):List E3:=ts.flatMap fun t=>[(t.a,t.b),(t.b,t.c),(t.c,t.a)]
theorem rH{ts:List T3}{k:Nat}{t:T3}(h:ts[k]? = some t):bA (ts.take (k+1))=bA (ts.take k)++[(t.a,t.b),(t.b,t.c),(t.c,t.a)]:=by
 unfold bA;rw[cC h,av];simp
theorem qS(ts:List T3):(bA ts).length=ts.length*3:=Gb ts fun _ _=>rfl
def kC(es:List E3)(e:E3):Nat:=(es.filter fun x=>decide (x=e)).length
theorem Ub{es:List E3}{k:Nat}{x e:E3}(h:es[k]? = some x):kC (es.take (k+1)) e=kC (es.take k) e+if x=e then 1 else 0:=by
 unfold kC;rw[cC h,List.filter_append,aw];by_cases hx:x=e <;> simp[hx]
theorem ajl{es:List E3}{e:E3}:kC es e≤es.length:=List.length_filter_le _ _
theorem ajm{α:Type}{is:List α}{k:Nat}{i:α}(h:is[k]? = some i):is.set k i=is:=by
 apply fa;intro j;rw[ie];split
 · rename_i e
   subst e;rw[if_pos (ar.1 h).1,h]
 · rfl
theorem Ej{α:Type}:∀(l:List α) (j:Nat) (x:α),l[j]? = some x→(x::l.eraseIdx j).Perm l
 | [],j,x,h=>by cases h
 | y::l,0,x,h=>by cases h;exact .refl _
 | y::l,j+1,x,h=>((List.Perm.swap y x _)).trans ((Ej l j x h).cons y)
theorem Mem.pull{w0 w:ah}{is:List It}(m:Mem w0 w is)(j:Nat){x:It}(hj:is[j]? = some x):Mem w0 w (x::is.eraseIdx j):=by
 have hp:=Ej is j x hj;exact⟨m.ext,fun i hi=>m.all i (hp.mem_iff.1 hi),fun i hi=>m.ge i (hp.mem_iff.1 hi),(hp.pairwise_iff (fun {a b} (h:Ap a b)=>h.symm)).2 m.nd⟩
theorem Mem.mv{w0 w:ah}{is:List It}{y:It}(m:Mem w0 w (y::is))(k:Nat){x:It}(hk:is[k]? = some x):Mem w0 w (is.set k y):=by
 obtain⟨h1,h2⟩:=bj.1 m.nd;have hm:∀i∈is.set k y,i∈y::is:=fun i hi=>(List.mem_or_eq_of_mem_set hi).elim (bm _) (fun e=>e▸bp);exact⟨m.ext,fun i hi=>m.all i (hm i hi),fun i hi=>m.ge i (hm i hi),Xl is k h2 hk fun x hx _=>h1 x hx⟩
theorem cY{α:Type}{a:α}{l:List α}:(a::l).eraseIdx 0=l:=rfl
theorem cZ{α:Type}{a:α}{l:List α}{n:Nat}:(a::l).eraseIdx (n+1)=a::l.eraseIdx n:=rfl
def SL(E:aj)(c:Nat)(cs:List ac)(n:Nat)(w:ah)(v:ac)(w':ah):Prop:=∃A cap n',n'=n∧v=.slice A n' cap∧Ow w w' [] E c A n' cap cs
/-! ### Points put into a sorted list -/
def Uc(ps:List P3)(p:P3):Nat:=(ps.takeWhile fun x=>decide (x.Lt p)).length
def gD(ps:List P3)(p:P3):List P3:=if ps[Uc ps p]? = some p then ps else ps.take (Uc ps p)++[p]++ps.drop (Uc ps p)
def dJ(ts:List T3):List P3:=ts.foldl (fun ps t=>gD (gD (gD ps t.a) t.b) t.c) []
theorem Cm{ts:List T3}{k:Nat}{t:T3}(h:ts[k]? = some t):dJ (ts.take (k+1))=gD (gD (gD (dJ (ts.take k)) t.a) t.b) t.c:=by
 unfold dJ;rw[cC h,iw];rfl
theorem tJ(ps:List P3)(p:P3):(gD ps p).length≤ps.length+1:=by
 unfold gD;split
 · omega
 · simp;omega
theorem Gc(ts:List T3):(dJ ts).length≤ts.length*3:=by
 have:∀(ts:List T3) (ps:List P3),(ts.foldl (fun ps t=>gD (gD (gD ps t.a) t.b) t.c) ps).length≤ps.length+ts.length*3:=by
  intro ts
  induction ts with
  | nil=>intro ps;simp
  | cons t ts ih =>
   intro ps;have h1:=ih (gD (gD (gD ps t.a) t.b) t.c);have h2:=tJ ps t.a;have h3:=tJ (gD ps t.a) t.b;have h4:=tJ (gD (gD ps t.a) t.b) t.c;rw[ik,au];omega
 have:=this ts [];simpa[dJ] using this
section
variable {α:Type} {p:α→Bool} {l:List α} {k:Nat}
theorem air(h:∀j x,j<k→l[j]? = some x→p x=true)(hk:k≤l.length):k≤(l.takeWhile p).length:=by
 induction l generalizing k with
 | nil=>simp at hk;omega
 | cons x l ih =>
  cases k with
  | zero=>omega
  | succ k =>
   have hx:=h 0 x (by omega) rfl;rw[jt,if_pos hx,au];have:=ih (k:=k) (fun j y hj hy=>h (j+1) y (by omega) (by simpa using hy)) (by simp at hk;omega);omega
theorem am5{x:α}(hx:l[k]? = some x)(h:p x=false):(l.takeWhile p).length≤k:=by
 induction l generalizing k with
 | nil=>cases hx
 | cons y l ih =>
  rw[jt];split
  · cases k with
    | zero =>
     rename_i hy;cases hx;rw[h] at hy;cases hy
    | succ k =>
     rw[au];have:=ih (k:=k) (by simpa using hx);omega
  · simp
theorem ajn:(l.takeWhile p).length≤l.length:=(List.takeWhile_sublist p).length_le
theorem ais{x:α}(h:∀j x,j<k→l[j]? = some x→p x=true)(hx:l[k]? = some x)(h2:p x=false):(l.takeWhile p).length=k:=Nat.le_antisymm (am5 hx h2) (air h (Nat.le_of_lt (ar.1 hx).1))
theorem ady(h:∀j x,j<l.length→l[j]? = some x→p x=true):(l.takeWhile p).length=l.length:=Nat.le_antisymm ajn (air h (ap _))
def Pre(p:α→Bool)(l:List α)(k:Nat):Prop:=∀j x,j<k→l[j]? = some x→p x=true
theorem Pre.zero:Pre p l 0:=fun j _ hj=>by omega
theorem Pre.step{x:α}(h:Pre p l k)(hx:l[k]? = some x)(hp:p x=true):Pre p l (k+1):=fun j y hj hy=>by
 rcases eo j k with h1 | h1
 · exact h j y h1 hy
 · obtain rfl:j=k:=by omega
   rw[hx] at hy;cases hy;exact hp
end
/-! ### The border -/
def ltE(a b:E3):Bool:=if a.1≠b.1 then decide (a.1.Lt b.1) else decide (a.2.Lt b.2)
def abH(es:List E3)(e:E3):Nat:=(es.takeWhile fun x=>ltE x e).length
def Xo(es:List E3)(e:E3):List E3:=es.take (abH es e)++[e]++es.drop (abH es e)
def nK(all:List E3)(out:List E3)(e:E3):List E3:=if 0<kC all (e.2,e.1)∨0<kC out e then out else Xo out e
def bY(ts:List T3):List E3:=(bA ts).foldl (nK (bA ts)) []
theorem abI{all es:List E3}{k:Nat}{e:E3}(h:es[k]? = some e):(es.take (k+1)).foldl (nK all) []=nK all ((es.take k).foldl (nK all) []) e:=by
 rw[cC h,iw];rfl
theorem Jk{all:List E3}:∀(es out:List E3),(es.foldl (nK all) out).length≤out.length+es.length
 | [],out=>by simp
 | e::es,out=>by
  have h1:=Jk (all:=all) es (nK all out e);have h2:(nK all out e).length≤out.length+1:=by
   unfold nK Xo;split
   · omega
   · simp;omega
  rw[ik,au];omega
/-! ### Pinched corners -/
def T3.fnd(t:T3)(p q:P3):Option P3:=if t.a=p∧t.b=q then some t.c else if t.b=p∧t.c=q then some t.a else if t.c=p∧t.a=q then some t.b else none
def bP:List T3→P3→P3→Option P3
 | [],_,_=>none
 | t::ts,p,q=>match t.fnd p q with
  | some x=>some x
  | none=>bP ts p q
theorem sC{ts:List T3}{k:Nat}{t:T3}{p q:P3}(h:ts[k]? = some t)(h0:bP (ts.take k) p q=none):bP (ts.take (k+1)) p q=t.fnd p q:=by
 rw[cC h];clear h;generalize ts.take k=us at h0 ⊢
 induction us with
 | nil=>simp only[bv,bP];cases t.fnd p q <;> rfl
 | cons u us ih =>
  rw[b_];simp only[bP] at h0 ⊢;cases hu:u.fnd p q with
  | some x=>rw[hu] at h0;cases h0
  | none=>rw[hu] at h0;exact ih h0
theorem wM{ts:List T3}{k:Nat}{p q x:P3}(h:bP (ts.take k) p q=some x):bP ts p q=some x:=by
 induction ts generalizing k with
 | nil=>simp[bP] at h
 | cons u us ih =>
  cases k with
  | zero=>simp[bP] at h
  | succ k =>
   rw[jq] at h;unfold bP at h ⊢;cases hu:u.fnd p q with
   | some y=>rw[hu] at h;exact h
   | none=>rw[hu] at h;exact ih h
def Jl(p:P3)(t:T3)(c:Nat):List T3:=if t.cor c=p then [t] else []
def tK(p:P3)(t:T3)(c:Nat):List T3:=(ip c).flatMap (Jl p t)
def lW(ts:List T3)(p:P3):List T3:=ts.flatMap fun t=>tK p t 3
def Jm(p:P3)(t:T3)(c:Nat):List P3:=if t.cor c=p then [t.cor ((c+1)%3)] else []
def wN(p:P3)(t:T3)(c:Nat):List P3:=(ip c).flatMap (Jm p t)
def rI(ts:List T3)(p:P3):List P3:=ts.flatMap fun t=>wN p t 3
theorem Jn(p:P3)(t:T3)(c:Nat):tK p t (c+1)=tK p t c++Jl p t c:=by simp[tK,List.range_succ]
theorem Gd(p:P3)(t:T3)(c:Nat):wN p t (c+1)=wN p t c++Jm p t c:=by simp[wN,List.range_succ]
theorem abJ{ts:List T3}{k:Nat}{t:T3}{p:P3}(h:ts[k]? = some t):lW (ts.take (k+1)) p=lW (ts.take k) p++tK p t 3:=by
 unfold lW;rw[cC h,av];simp
theorem Xp{ts:List T3}{k:Nat}{t:T3}{p:P3}(h:ts[k]? = some t):rI (ts.take (k+1)) p=rI (ts.take k) p++wN p t 3:=by
 unfold rI;rw[cC h,av];simp
def Ae(ts:List T3)(p:P3)(k:Nat)(t:T3)(c:Nat):List T3:=lW (ts.take k) p++tK p t c
def sT(ts:List T3)(p:P3)(k:Nat)(t:T3)(c:Nat):List P3:=rI (ts.take k) p++wN p t c
theorem abK{ts:List T3}{p:P3}{k c:Nat}{t:T3}(h:t.cor c=p):Ae ts p k t (c+1)=Ae ts p k t c++[t]:=by
 unfold Ae;rw[Jn,Jl,if_pos h,cq]
theorem adz{ts:List T3}{p:P3}{k c:Nat}{t:T3}(h:¬t.cor c=p):Ae ts p k t (c+1)=Ae ts p k t c:=by
 unfold Ae;rw[Jn,Jl,if_neg h,e_]
theorem Xq{ts:List T3}{p:P3}{k c:Nat}{t:T3}(h:t.cor c=p):sT ts p k t (c+1)=sT ts p k t c++[t.cor ((c+1)%3)]:=by
 unfold sT;rw[Gd,Jm,if_pos h,cq]
theorem abL{ts:List T3}{p:P3}{k c:Nat}{t:T3}(h:¬t.cor c=p):sT ts p k t (c+1)=sT ts p k t c:=by
 unfold sT;rw[Gd,Jm,if_neg h,e_]
theorem agU{ts:List T3}{p:P3}{k:Nat}{t:T3}:Ae ts p k t 0=lW (ts.take k) p:=by simp[Ae,tK]
theorem adA{ts:List T3}{p:P3}{k:Nat}{t:T3}:sT ts p k t 0=rI (ts.take k) p:=by simp[sT,wN]
theorem agV{ts:List T3}{p:P3}{k:Nat}{t:T3}(h:ts[k]? = some t):Ae ts p k t 3=lW (ts.take (k+1)) p:=by rw[abJ h];rfl
theorem adB{ts:List T3}{p:P3}{k:Nat}{t:T3}(h:ts[k]? = some t):sT ts p k t 3=rI (ts.take (k+1)) p:=by rw[Xp h];rfl
theorem uJ{x y:P3}:(x.x=y.x∧x.y=y.y∧x.z=y.z)↔x=y:=⟨fun h=>P3.eq h.1 h.2.1 h.2.2,fun h=>by rw[h];exact⟨rfl,rfl,rfl⟩⟩
theorem Hs{x y u v:P3}:(decide (x.x=y.x∧x.y=y.y∧x.z=y.z)&&decide (u.x=v.x∧u.y=v.y∧u.z=v.z))=true↔x=y∧u=v:=by
 rw[bh,decide_eq_true_eq,decide_eq_true_eq,uJ,uJ]
theorem Xr{x y u v:P3}(h:(decide (x.x=y.x∧x.y=y.y∧x.z=y.z)&&decide (u.x=v.x∧u.y=v.y∧u.z=v.z))=false):¬(x=y∧u=v):=fun k=>by
 rw[Hs.2 k] at h;cases h
theorem ao7{t:T3}{p q:P3}(h:t.cor 0=p∧t.cor 1=q):t.fnd p q=some (t.cor 2):=if_pos h
theorem ao8{t:T3}{p q:P3}(h0:¬(t.cor 0=p∧t.cor 1=q))(h:t.cor 1=p∧t.cor 2=q):t.fnd p q=some (t.cor 0):=(if_neg h0).trans (if_pos h)
theorem ao9{t:T3}{p q:P3}(h0:¬(t.cor 0=p∧t.cor 1=q))(h1:¬(t.cor 1=p∧t.cor 2=q))(h:t.cor 2=p∧t.cor 0=q):t.fnd p q=some (t.cor 1):=(if_neg h0).trans ((if_neg h1).trans (if_pos h))
theorem apa{t:T3}{p q:P3}(h0:¬(t.cor 0=p∧t.cor 1=q))(h1:¬(t.cor 1=p∧t.cor 2=q))(h2:¬(t.cor 2=p∧t.cor 0=q)):t.fnd p q=none:=(if_neg h0).trans ((if_neg h1).trans (if_neg h2))
def lX(ms:List T3)(p s:P3):Nat→P3→Bool
 | 0,_=>false
 | n+1,at_=>match bP ms p at_ with
  | none=>false
  | some x=>if x=s then true else lX ms p s n x
theorem Nx{ms:List T3}{p s x:P3}{n:Nat}(h:bP ms p x=none):lX ms p s n x=false:=by
 cases n with
 | zero=>rfl
 | succ n=>simp only[lX,h]
theorem Ud{ms:List T3}{p s x:P3}{n:Nat}(h:bP ms p x=some s):lX ms p s (n+1) x=true:=by simp[lX,h]
theorem Ny{ms:List T3}{p s x y:P3}{n:Nat}(h:bP ms p x=some y)(hy:¬y=s):lX ms p s (n+1) x=lX ms p s n y:=by simp[lX,h,hy]
def Jo(ts:List T3)(p:P3):Bool:=(rI ts p).any fun s=>lX (lW ts p) p s ((lW ts p).length-1) s
def vN(t:T3):Bool:=decide (t.a=t.b)||decide (t.b=t.c)||decide (t.c=t.a)
theorem Qs{t:T3}:(decide (t.a.x=t.b.x∧t.a.y=t.b.y∧t.a.z=t.b.z)||decide (t.b.x=t.c.x∧t.b.y=t.c.y∧t.b.z=t.c.z)||decide (t.c.x=t.a.x∧t.c.y=t.a.y∧t.c.z=t.a.z))=vN t:=by
 simp only[uJ,vN]
def iH(op:Bool)(ts:List T3):Int :=
 if ts.any vN then 20 else if (bA ts).any (fun e=>decide (1<kC (bA ts) e)) then 21
 else if !op&&decide (0<(bY ts).length) then 22 else if (dJ ts).any (Jo ts) then 23 else 0
theorem tL{α:Type}{p:α→Bool}{l:List α}{k:Nat}{x:α}(hx:l[k]? = some x):(l.take (k+1)).any p=((l.take k).any p||p x):=by
 rw[cC hx,List.any_append];simp
theorem Cn{α:Type}{p:α→Bool}{l:List α}{k:Nat}{x:α}(hx:l[k]? = some x)(h:p x=true):l.any p=true:=dx.2 ⟨x,ba hx,h⟩
end Go.Lith
namespace Go.Proofs.YtfekpcimgncioaaGreatDoor
open Go.Proofs.Tryz
open Go.RowKit Go.Lith
abbrev lN:=@underlying107
abbrev uK:=@underlying112
abbrev rJ:=@underlying215
abbrev lO:=@underlying218
abbrev lP:=@underlying231
abbrev bT:=@underlying27
abbrev jN:=@underlying3
abbrev rK:=@underlying30
abbrev oW:=@underlying36
abbrev dC:=@underlying39
abbrev Ue:=@underlying4
abbrev nL:=@underlying52
abbrev Ge:=@underlying56
abbrev dS:=@underlying65
abbrev oX:=@underlying9
abbrev Jp:=@underlying93
abbrev Gf:=@underlying97
abbrev Jq:=@underlying99
set_option maxRecDepth 100000
theorem aC:prog.follows .mixedOrders=true:=by kernel_rfl
theorem apb:Entr prog 7:=bH func7 (by kernel_rfl)
theorem am6:Entr prog 14:=bH func14 (by kernel_rfl)
theorem am7:Entr prog 15:=bH func15 (by kernel_rfl)
theorem am8:Entr prog 17:=bH func17 (by kernel_rfl)
theorem am9:Entr prog 22:=bH func22 (by kernel_rfl)
theorem ana:Entr prog 24:=bH func24 (by kernel_rfl)
theorem anb:Entr prog 26:=bH func26 (by kernel_rfl)
theorem anc:Entr prog 27:=bH func27 (by kernel_rfl)
theorem ane:Entr prog 28:=bH func28 (by kernel_rfl)
theorem anf:Entr prog 30:=bH func30 (by kernel_rfl)
theorem ang:Entr prog 35:=bH func35 (by kernel_rfl)
theorem anh:Entr prog 36:=bH func36 (by kernel_rfl)
theorem ani:Entr prog 38:=bH func38 (by kernel_rfl)
theorem anj:Entr prog 39:=bH func39 (by kernel_rfl)
theorem ank:Entr prog 40:=bH func40 (by kernel_rfl)
theorem anl:Entr prog 47:=bH func47 (by kernel_rfl)
theorem anm:Entr prog 48:=bH func48 (by kernel_rfl)
theorem ann:Entr prog 49:=bH func49 (by kernel_rfl)
theorem ano:Entr prog 50:=bH func50 (by kernel_rfl)
theorem anp:Entr prog 51:=bH func51 (by kernel_rfl)
theorem anq:Entr prog 53:=bH func53 (by kernel_rfl)
theorem anr:Entr prog 54:=bH func54 (by kernel_rfl)
theorem ans:Entr prog 55:=bH func55 (by kernel_rfl)
theorem ant:Entr prog 57:=bH func57 (by kernel_rfl)
theorem anu:Entr prog 58:=bH func58 (by kernel_rfl)
theorem anv:Entr prog 59:=bH func59 (by kernel_rfl)
theorem anw:Entr prog 60:=bH func60 (by kernel_rfl)
theorem anx:Entr prog 61:=bH func61 (by kernel_rfl)
theorem anz:Entr prog 62:=bH func62 (by kernel_rfl)
theorem anA:Entr prog 63:=bH func63 (by kernel_rfl)
theorem anB:Entr prog 64:=bH func64 (by kernel_rfl)
theorem anC:Entr prog 65:=bH func65 (by kernel_rfl)
theorem anD:Entr prog 66:=bH func66 (by kernel_rfl)
theorem anE:Entr prog 67:=bH func67 (by kernel_rfl)
theorem anF:Entr prog 68:=bH func68 (by kernel_rfl)
theorem anG:Entr prog 69:=bH func69 (by kernel_rfl)
theorem anH:Entr prog 70:=bH func70 (by kernel_rfl)
theorem anI:Entr prog 76:=bH func76 (by kernel_rfl)
theorem anJ:Entr prog 77:=bH func77 (by kernel_rfl)
theorem anK:Entr prog 78:=bH func78 (by kernel_rfl)
theorem anL:Entr prog 79:=bH func79 (by kernel_rfl)
theorem aaD:Entr prog 82:=bH func82 (by kernel_rfl)
theorem anM:Entr prog 83:=bH func83 (by kernel_rfl)
theorem anN:Entr prog 84:=bH func84 (by kernel_rfl)
theorem anO:Entr prog 85:=bH func85 (by kernel_rfl)
theorem anP:Entr prog 96:=bH func96 (by kernel_rfl)
theorem anQ:Entr prog 97:=bH func97 (by kernel_rfl)
theorem anR:Entr prog 98:=bH func98 (by kernel_rfl)
theorem anS:Entr prog 99:=bH func99 (by kernel_rfl)
theorem ajo:Entr prog 100:=bH func100 (by kernel_rfl)
theorem ajp:Entr prog 101:=bH func101 (by kernel_rfl)
theorem ajq:Entr prog 102:=bH func102 (by kernel_rfl)
theorem ajr:Entr prog 103:=bH func103 (by kernel_rfl)
theorem ajs:Entr prog 104:=bH func104 (by kernel_rfl)
theorem ajt:Entr prog 105:=bH func105 (by kernel_rfl)
theorem aju:Entr prog 111:=bH func111 (by kernel_rfl)
theorem ajv:Entr prog 112:=bH func112 (by kernel_rfl)
theorem ajw:Entr prog 113:=bH func113 (by kernel_rfl)
theorem Xs:Entr prog 114:=bH func114 (by kernel_rfl)
theorem ajx:Entr prog 115:=bH func115 (by kernel_rfl)
theorem ajy:Entr prog 116:=bH func116 (by kernel_rfl)
theorem ajz:Entr prog 117:=bH func117 (by kernel_rfl)
theorem ajA:Entr prog 118:=bH func118 (by kernel_rfl)
theorem adC:Entr prog 119:=bH func119 (by kernel_rfl)
theorem ajB:Entr prog 120:=bH func120 (by kernel_rfl)
theorem ajC:Entr prog 121:=bH func121 (by kernel_rfl)
theorem ajD:Entr prog 122:=bH func122 (by kernel_rfl)
theorem ajE:Entr prog 123:=bH func123 (by kernel_rfl)
theorem ajF:Entr prog 124:=bH func124 (by kernel_rfl)
theorem adD:Entr prog 125:=bH func125 (by kernel_rfl)
theorem ajG:Entr prog 126:=bH func126 (by kernel_rfl)
theorem ajH:Entr prog 127:=bH func127 (by kernel_rfl)
theorem Xt:Entr prog 128:=bH func128 (by kernel_rfl)
theorem adE:Entr prog 129:=bH func129 (by kernel_rfl)
theorem ajI:Entr prog 130:=bH func130 (by kernel_rfl)
theorem ajJ:Entr prog 135:=bH func135 (by kernel_rfl)
theorem ajK:Entr prog 142:=bH func142 (by kernel_rfl)
theorem ajL:Entr prog 143:=bH func143 (by kernel_rfl)
theorem ajM:Entr prog 144:=bH func144 (by kernel_rfl)
theorem ajN:Entr prog 145:=bH func145 (by kernel_rfl)
theorem ajO:Entr prog 164:=bH func164 (by kernel_rfl)
theorem ajP:Entr prog 165:=bH func165 (by kernel_rfl)
theorem ajQ:Entr prog 166:=bH func166 (by kernel_rfl)
theorem ajR:Entr prog 167:=bH func167 (by kernel_rfl)
theorem ajS:Entr prog 168:=bH func168 (by kernel_rfl)
theorem ajT:Entr prog 169:=bH func169 (by kernel_rfl)
theorem ajU:Entr prog 170:=bH func170 (by kernel_rfl)
theorem ajV:Entr prog 171:=bH func171 (by kernel_rfl)
theorem ajW:Entr prog 172:=bH func172 (by kernel_rfl)
theorem ajX:Entr prog 173:=bH func173 (by kernel_rfl)
theorem ajY:Entr prog 174:=bH func174 (by kernel_rfl)
theorem ajZ:Entr prog 175:=bH func175 (by kernel_rfl)
theorem aj0:Entr prog 176:=bH func176 (by kernel_rfl)
theorem aj1:Entr prog 177:=bH func177 (by kernel_rfl)
theorem aj2:Entr prog 182:=bH func182 (by kernel_rfl)
theorem aj3:Entr prog 183:=bH func183 (by kernel_rfl)
theorem aj4:Entr prog 184:=bH func184 (by kernel_rfl)
theorem aj5:Entr prog 185:=bH func185 (by kernel_rfl)
theorem aj6:Entr prog 186:=bH func186 (by kernel_rfl)
theorem aj7:Entr prog 187:=bH func187 (by kernel_rfl)
theorem aj8:Entr prog 188:=bH func188 (by kernel_rfl)
theorem aj9:Entr prog 189:=bH func189 (by kernel_rfl)
theorem aka:Entr prog 191:=bH func191 (by kernel_rfl)
theorem akb:Entr prog 192:=bH func192 (by kernel_rfl)
theorem akc:Entr prog 193:=bH func193 (by kernel_rfl)
theorem adF:Entr prog 195:=bH func195 (by kernel_rfl)
theorem akd:Entr prog 201:=bH func201 (by kernel_rfl)
theorem ake:Entr prog 215:=bH func215 (by kernel_rfl)
theorem akf:Entr prog 216:=bH func216 (by kernel_rfl)
theorem akg:Entr prog 217:=bH func217 (by kernel_rfl)
theorem akh:Entr prog 218:=bH func218 (by kernel_rfl)
theorem aki:Entr prog 223:=bH func223 (by kernel_rfl)
theorem akj:Entr prog 224:=bH func224 (by kernel_rfl)
theorem akk:Entr prog 234:=bH func234 (by kernel_rfl)
theorem Qt:Entr prog 235:=bH func235 (by kernel_rfl)
theorem akl:Entr prog 236:=bH func236 (by kernel_rfl)
theorem akm:Entr prog 237:=bH func237 (by kernel_rfl)
theorem akn:Entr prog 238:=bH func238 (by kernel_rfl)
theorem ako:Entr prog 239:=bH func239 (by kernel_rfl)
theorem akp:Entr prog 240:=bH func240 (by kernel_rfl)
theorem akq:Entr prog 241:=bH func241 (by kernel_rfl)
theorem akr:Entr prog 242:=bH func242 (by kernel_rfl)
theorem aks:Entr prog 243:=bH func243 (by kernel_rfl)
theorem akt:Entr prog 244:=bH func244 (by kernel_rfl)
theorem aku:Entr prog 255:=bH func255 (by kernel_rfl)
theorem akv:Entr prog 256:=bH func256 (by kernel_rfl)
theorem akw:Entr prog 257:=bH func257 (by kernel_rfl)
theorem akx:Entr prog 258:=bH func258 (by kernel_rfl)
theorem aky:Entr prog 267:=bH func267 (by kernel_rfl)
theorem adG:Entr prog 276:=bH func276 (by kernel_rfl)
theorem adH:Entr prog 277:=bH func277 (by kernel_rfl)
theorem adI:Entr prog 278:=bH func278 (by kernel_rfl)
theorem akz:Entr prog 287:=bH func287 (by kernel_rfl)
theorem akA:Entr prog 288:=bH func288 (by kernel_rfl)
theorem akB:Entr prog 289:=bH func289 (by kernel_rfl)
theorem akC:Entr prog 298:=bH func298 (by kernel_rfl)
theorem akD:Entr prog 299:=bH func299 (by kernel_rfl)
theorem akE:Entr prog 300:=bH func300 (by kernel_rfl)
theorem akF:Entr prog 301:=bH func301 (by kernel_rfl)
theorem akG:Entr prog 302:=bH func302 (by kernel_rfl)
theorem akH:Entr prog 303:=bH func303 (by kernel_rfl)
theorem akI:Entr prog 304:=bH func304 (by kernel_rfl)
theorem akJ:Entr prog 305:=bH func305 (by kernel_rfl)
theorem akK:Entr prog 306:=bH func306 (by kernel_rfl)
theorem akL:Entr prog 307:=bH func307 (by kernel_rfl)
theorem akM:Entr prog 308:=bH func308 (by kernel_rfl)
theorem akN:Entr prog 315:=bH func315 (by kernel_rfl)
theorem akO:Entr prog 326:=bH func326 (by kernel_rfl)
theorem Xu:Entr prog 336:=bH func336 (by kernel_rfl)
theorem adJ:Entr prog 337:=bH func337 (by kernel_rfl)
theorem akP:Entr prog 338:=bH func338 (by kernel_rfl)
theorem aX:cS prog 3 1:=dD (by kernel_rfl)
theorem bN:dV prog 3 false:=cT _ jN rfl
theorem kD:mC prog 3 (.int .i64 0):=jO (by kernel_rfl)
theorem adK:(prog.info? 3).map (fun i=>(i.size,i.bytes,i.zero))=some (1,8,some (.int .i64 0)):=by kernel_rfl
theorem dM:cS prog 4 1:=dD (by kernel_rfl)
theorem mN:dV prog 4 false:=cT _ Ue rfl
theorem mE:mC prog 4 (.bool false):=jO (by kernel_rfl)
theorem ait:(prog.info? 4).map (fun i=>(i.size,i.bytes,i.zero))=some (1,1,some (.bool false)):=by kernel_rfl
theorem anT:(prog.info? 5).map (fun i=>(i.size,i.bytes,i.zero))=some (1,1,some (.int .u8 0)):=by kernel_rfl
theorem agW:cS prog 9 1:=dD (by kernel_rfl)
theorem aiu:dV prog 9 false:=cT _ oX rfl
theorem akQ:dV prog 24 true:=cT _ underlying24 rfl
theorem fE:cS prog 27 1:=dD (by kernel_rfl)
theorem pH:dV prog 27 false:=cT _ bT rfl
theorem aaE:mC prog 27 (.slice none 0 0):=jO (by kernel_rfl)
theorem aA:cS prog 30 3:=dD (by kernel_rfl)
theorem aG:dV prog 30 true:=cT _ rK rfl
theorem gN:mC prog 30 (.agg #[.int .i64 0,.int .i64 0,.int .i64 0]):=jO (by kernel_rfl)
theorem oD:(prog.info? 30).map (fun i=>(i.size,i.bytes,i.zero))=some (3,24,some (.agg #[.int .i64 0,.int .i64 0,.int .i64 0])):=by kernel_rfl
theorem Co:cS prog 36 3:=dD (by kernel_rfl)
theorem Qu:dV prog 36 true:=cT _ oW rfl
theorem agX:mC prog 36 (.agg #[.int .i64 0,.int .i64 0,.int .i64 0]):=jO (by kernel_rfl)
theorem adL:cS prog 38 9:=dD (by kernel_rfl)
theorem akR:dV prog 38 true:=cT _ underlying38 rfl
theorem aN:cS prog 39 9:=dD (by kernel_rfl)
theorem cF:dV prog 39 true:=cT _ dC rfl
theorem agY:mC prog 39 (.agg #[.int .i64 0,.int .i64 0,.int .i64 0,.int .i64 0,.int .i64 0,.int .i64 0,.int .i64 0,.int .i64 0,.int .i64 0]):=jO (by kernel_rfl)
theorem iA:(prog.info? 39).map (fun i=>(i.size,i.bytes,i.zero))=some (9,72,some (.agg #[.int .i64 0,.int .i64 0,.int .i64 0,.int .i64 0,.int .i64 0,.int .i64 0,.int .i64 0,.int .i64 0,.int .i64 0])):=by kernel_rfl
theorem Cp:cS prog 55 6:=dD (by kernel_rfl)
theorem adM:dV prog 55 true:=cT _ underlying55 rfl
theorem agZ:mC prog 55 (.agg #[.int .i64 0,.int .i64 0,.int .i64 0,.int .i64 0,.int .i64 0,.int .i64 0]):=jO (by kernel_rfl)
theorem adN:(prog.info? 55).map (fun i=>(i.size,i.bytes,i.zero))=some (6,48,some (.agg #[.int .i64 0,.int .i64 0,.int .i64 0,.int .i64 0,.int .i64 0,.int .i64 0])):=by kernel_rfl
theorem iC:cS prog 56 6:=dD (by kernel_rfl)
theorem Ba:dV prog 56 true:=cT _ Ge rfl
theorem wO:(prog.info? 56).map (fun i=>(i.size,i.bytes,i.zero))=some (6,48,some (.agg #[.int .i64 0,.int .i64 0,.int .i64 0,.int .i64 0,.int .i64 0,.int .i64 0])):=by kernel_rfl
theorem adO:cS prog 62 1:=dD (by kernel_rfl)
theorem adP:cS prog 65 1:=dD (by kernel_rfl)
theorem adQ:dV prog 65 false:=cT _ dS rfl
theorem Js:cS prog 88 1:=dD (by kernel_rfl)
theorem Qv:dV prog 88 false:=cT _ underlying88 rfl
theorem adR:dV prog 93 false:=cT _ Jp rfl
theorem aT:cS prog 95 2:=dD (by kernel_rfl)
theorem dP:dV prog 95 true:=cT _ underlying95 rfl
theorem Qw:mC prog 95 (.agg #[.bool false,.string ⟨#[]⟩]):=jO (by kernel_rfl)
theorem jG:cS prog 97 20:=dD (by kernel_rfl)
theorem uL:dV prog 97 true:=cT _ Gf rfl
theorem ag0:mC prog 97 (.agg #[.bool false,.string ⟨#[]⟩,.bool false,.string ⟨#[]⟩,.bool false,.string ⟨#[]⟩,.bool false,.string ⟨#[]⟩,.bool false,.string ⟨#[]⟩,.bool false,.string ⟨#[]⟩,.bool false,.string ⟨#[]⟩,.bool false,.string ⟨#[]⟩,.bool false,.string ⟨#[]⟩,.bool false,.string ⟨#[]⟩]):=jO (by kernel_rfl)
theorem akS:dV prog 99 false:=cT _ Jq rfl
theorem aaF:dV prog 106 false:=cT _ underlying106 rfl
theorem yD:cS prog 107 1:=dD (by kernel_rfl)
theorem qD:dV prog 107 false:=cT _ lN rfl
theorem oE:cS prog 112 8:=dD (by kernel_rfl)
theorem Cq:dV prog 112 true:=cT _ uK rfl
theorem adS:mC prog 112 (.agg #[.int .i64 0,.int .i64 0,.int .i64 0,.int .i64 0,.int .i64 0,.int .i64 0,.bool false,.string ⟨#[]⟩]):=jO (by kernel_rfl)
theorem ag1:(prog.info? 112).map (fun i=>(i.size,i.bytes,i.zero))=some (8,72,some (.agg #[.int .i64 0,.int .i64 0,.int .i64 0,.int .i64 0,.int .i64 0,.int .i64 0,.bool false,.string ⟨#[]⟩])):=by kernel_rfl
theorem Ek:cS prog 139 2:=dD (by kernel_rfl)
theorem ag2:dV prog 139 true:=cT _ underlying139 rfl
theorem Jt:mC prog 139 (.agg #[.int .i64 0,.slice none 0 0]):=jO (by kernel_rfl)
theorem abM:cS prog 168 8:=dD (by kernel_rfl)
theorem Uf:mC prog 168 (.agg #[.bool false,.string ⟨#[]⟩,.bool false,.string ⟨#[]⟩,.bool false,.string ⟨#[]⟩,.bool false,.string ⟨#[]⟩]):=jO (by kernel_rfl)
theorem oF:cS prog 215 6:=dD (by kernel_rfl)
theorem yE:dV prog 215 true:=cT _ rJ rfl
theorem ag3:(prog.info? 215).map (fun i=>(i.size,i.bytes,i.zero))=some (6,48,some (.agg #[.int .i64 0,.int .i64 0,.int .i64 0,.int .i64 0,.int .i64 0,.int .i64 0])):=by kernel_rfl
theorem adT:mC prog 218 (.agg #[.pointer none,.int .i64 0,.int .i64 0,.int .i64 0,.int .i64 0,.int .i64 0,.int .i64 0,.map none,.map none,.slice none 0 0,.slice none 0 0,.slice none 0 0]):=jO (by kernel_rfl)
theorem Nz:cS prog 222 6:=dD (by kernel_rfl)
theorem aaG:dV prog 222 true:=cT _ underlying222 rfl
theorem El:cS prog 229 8:=dD (by kernel_rfl)
theorem aaH:dV prog 229 true:=cT _ underlying229 rfl
theorem bO:cS prog 231 1:=dD (by kernel_rfl)
theorem kE:dV prog 231 false:=cT _ lP rfl
theorem Cr:(prog.info? 231).map (fun i=>(i.size,i.bytes,i.zero))=some (1,8,some (.int .u64 0)):=by kernel_rfl
theorem yF:cS prog 242 1:=dD (by kernel_rfl)
theorem Qx:dV prog 242 false:=cT _ underlying242 rfl
theorem Em:cS prog 243 3:=dD (by kernel_rfl)
theorem aaI:dV prog 243 true:=cT _ underlying243 rfl
theorem Ug:mC prog 243 (.agg #[.nilFunc,.nilFunc,.nilFunc]):=jO (by kernel_rfl)
theorem Oa:cS prog 257 6:=dD (by kernel_rfl)
theorem ag4:dV prog 257 true:=cT _ underlying257 rfl
theorem Oc:cS prog 273 6:=dD (by kernel_rfl)
theorem aaJ:dV prog 273 true:=cT _ underlying273 rfl
theorem abN:cS prog 280 18:=dD (by kernel_rfl)
theorem ag5:dV prog 280 true:=cT _ underlying280 rfl
theorem abO:cS prog 300 1:=dD (by kernel_rfl)
theorem ag6:dV prog 300 false:=cT _ underlying300 rfl
theorem adU:mC prog 300 (.slice none 0 0):=jO (by kernel_rfl)
theorem Od:cS prog 333 3:=dD (by kernel_rfl)
theorem aaK:dV prog 333 true:=cT _ underlying333 rfl
theorem abP(w:ah):((#[{ name := "X", type:=3,offset:=0,embedded:=false,tag := "", pkgPath := "", byteOffset:=0 },{ name := "Y", type:=3,offset:=1,embedded:=false,tag := "", pkgPath := "", byteOffset:=8 },{ name := "Z", type:=3,offset:=2,embedded:=false,tag := "", pkgPath := "", byteOffset:=16 }]:Array Field).mapM fun f=>do pure (f.offset,←sizeOf f.type):Sem (Array (Nat × Nat))).run prog w=.ok #[(0,1),(1,1),(2,1)] w:=by
 simp[gh,dH aX]
theorem Xv{v0 v1 v2:ac}{c0_0:ac}(h0:v0.cells = #[c0_0]){c1_0:ac}(h1:v1.cells = #[c1_0]){c2_0:ac}(h2:v2.cells = #[c2_0])(w:ah):(Instr.build 30 #[(0,v0),(1,v1),(2,v2)]).run prog w=.ok (.agg #[c0_0,c1_0,c2_0]) w:=gJ rK gN abP (by simp[Instr.fill,lA,h0,h1,h2]) w
theorem tM{l:List ac}{ty:aj}{x0 x1 x2:a_}{c0_0:ac}(h0:(ev l x0).cells = #[c0_0]){c1_0:ac}(h1:(ev l x1).cells = #[c1_0]){c2_0:ac}(h2:(ev l x2).cells = #[c2_0]):gI prog l (.build 30 #[(0,x0),(1,x1),(2,x2)]) ty (.agg #[c0_0,c1_0,c2_0]):=oL (vs:=#[(0,ev l x0),(1,ev l x1),(2,ev l x2)]) (by simp) fun w=>Xv h0 h1 h2 w
theorem Xw{v0 v1 v2:ac}{c0_0 c0_1 c0_2:ac}(h0:v0.cells = #[c0_0,c0_1,c0_2]){c1_0 c1_1 c1_2:ac}(h1:v1.cells = #[c1_0,c1_1,c1_2]){c2_0 c2_1 c2_2:ac}(h2:v2.cells = #[c2_0,c2_1,c2_2])(w:ah):(Instr.build 39 #[(0,v0),(1,v1),(2,v2)]).run prog w=.ok (.agg #[c0_0,c0_1,c0_2,c1_0,c1_1,c1_2,c2_0,c2_1,c2_2]) w:=lZ dC agY aA (by simp[Instr.fill,lA,h0,h1,h2]) w
theorem En{l:List ac}{ty:aj}{x0 x1 x2:a_}{c0_0 c0_1 c0_2:ac}(h0:(ev l x0).cells = #[c0_0,c0_1,c0_2]){c1_0 c1_1 c1_2:ac}(h1:(ev l x1).cells = #[c1_0,c1_1,c1_2]){c2_0 c2_1 c2_2:ac}(h2:(ev l x2).cells = #[c2_0,c2_1,c2_2]):gI prog l (.build 39 #[(0,x0),(1,x1),(2,x2)]) ty (.agg #[c0_0,c0_1,c0_2,c1_0,c1_1,c1_2,c2_0,c2_1,c2_2]):=oL (vs:=#[(0,ev l x0),(1,ev l x1),(2,ev l x2)]) (by simp) fun w=>Xw h0 h1 h2 w
theorem abQ(w:ah):((#[{ name := "From", type:=30,offset:=0,embedded:=false,tag := "", pkgPath := "", byteOffset:=0 },{ name := "To", type:=30,offset:=3,embedded:=false,tag := "", pkgPath := "", byteOffset:=24 }]:Array Field).mapM fun f=>do pure (f.offset,←sizeOf f.type):Sem (Array (Nat × Nat))).run prog w=.ok #[(0,3),(3,3)] w:=by
 simp[gh,dH aA]
theorem adV{v0 v1:ac}{c0_0 c0_1 c0_2:ac}(h0:v0.cells = #[c0_0,c0_1,c0_2]){c1_0 c1_1 c1_2:ac}(h1:v1.cells = #[c1_0,c1_1,c1_2])(w:ah):(Instr.build 55 #[(0,v0),(1,v1)]).run prog w=.ok (.agg #[c0_0,c0_1,c0_2,c1_0,c1_1,c1_2]) w:=gJ underlying55 agZ abQ (by simp[Instr.fill,lA,h0,h1]) w
theorem wP{l:List ac}{ty:aj}{x0 x1:a_}{c0_0 c0_1 c0_2:ac}(h0:(ev l x0).cells = #[c0_0,c0_1,c0_2]){c1_0 c1_1 c1_2:ac}(h1:(ev l x1).cells = #[c1_0,c1_1,c1_2]):gI prog l (.build 55 #[(0,x0),(1,x1)]) ty (.agg #[c0_0,c0_1,c0_2,c1_0,c1_1,c1_2]):=oL (vs:=#[(0,ev l x0),(1,ev l x1)]) (by simp) fun w=>adV h0 h1 w
theorem abR(w:ah):((#[{ name := "Neg", type:=4,offset:=0,embedded:=false,tag := "", pkgPath := "", byteOffset:=0 },{ name := "Mag", type:=9,offset:=1,embedded:=false,tag := "", pkgPath := "", byteOffset:=8 }]:Array Field).mapM fun f=>do pure (f.offset,←sizeOf f.type):Sem (Array (Nat × Nat))).run prog w=.ok #[(0,1),(1,1)] w:=by
 simp[gh,dH dM,dH agW]
theorem adW{v0 v1:ac}{c0_0:ac}(h0:v0.cells = #[c0_0]){c1_0:ac}(h1:v1.cells = #[c1_0])(w:ah):(Instr.build 95 #[(0,v0),(1,v1)]).run prog w=.ok (.agg #[c0_0,c1_0]) w:=gJ underlying95 Qw abR (by simp[Instr.fill,lA,h0,h1]) w
theorem wQ{l:List ac}{ty:aj}{x0 x1:a_}{c0_0:ac}(h0:(ev l x0).cells = #[c0_0]){c1_0:ac}(h1:(ev l x1).cells = #[c1_0]):gI prog l (.build 95 #[(0,x0),(1,x1)]) ty (.agg #[c0_0,c1_0]):=oL (vs:=#[(0,ev l x0),(1,ev l x1)]) (by simp) fun w=>adW h0 h1 w
theorem Xx(w:ah):((#[{ name := "u", type:=30,offset:=0,embedded:=false,tag := "", pkgPath := "lithophane/collapse", byteOffset:=0 },{ name := "v", type:=30,offset:=3,embedded:=false,tag := "", pkgPath := "lithophane/collapse", byteOffset:=24 },{ name := "cost", type:=95,offset:=6,embedded:=false,tag := "", pkgPath := "lithophane/collapse", byteOffset:=48 }]:Array Field).mapM fun f=>do pure (f.offset,←sizeOf f.type):Sem (Array (Nat × Nat))).run prog w=.ok #[(0,3),(3,3),(6,2)] w:=by
 simp[gh,dH aA,dH aT]
theorem Uh{v0 v1 v2:ac}{c0_0 c0_1 c0_2:ac}(h0:v0.cells = #[c0_0,c0_1,c0_2]){c1_0 c1_1 c1_2:ac}(h1:v1.cells = #[c1_0,c1_1,c1_2]){c2_0 c2_1:ac}(h2:v2.cells = #[c2_0,c2_1])(w:ah):(Instr.build 112 #[(0,v0),(1,v1),(2,v2)]).run prog w=.ok (.agg #[c0_0,c0_1,c0_2,c1_0,c1_1,c1_2,c2_0,c2_1]) w:=gJ uK adS Xx (by simp[Instr.fill,lA,h0,h1,h2]) w
theorem Cs{l:List ac}{ty:aj}{x0 x1 x2:a_}{c0_0 c0_1 c0_2:ac}(h0:(ev l x0).cells = #[c0_0,c0_1,c0_2]){c1_0 c1_1 c1_2:ac}(h1:(ev l x1).cells = #[c1_0,c1_1,c1_2]){c2_0 c2_1:ac}(h2:(ev l x2).cells = #[c2_0,c2_1]):gI prog l (.build 112 #[(0,x0),(1,x1),(2,x2)]) ty (.agg #[c0_0,c0_1,c0_2,c1_0,c1_1,c1_2,c2_0,c2_1]):=oL (vs:=#[(0,ev l x0),(1,ev l x1),(2,ev l x2)]) (by simp) fun w=>Uh h0 h1 h2 w
theorem Xy(w:ah):((#[{ name := "Level", type:=3,offset:=0,embedded:=false,tag := "", pkgPath := "", byteOffset:=0 },{ name := "In", type:=62,offset:=1,embedded:=false,tag := "", pkgPath := "", byteOffset:=8 }]:Array Field).mapM fun f=>do pure (f.offset,←sizeOf f.type):Sem (Array (Nat × Nat))).run prog w=.ok #[(0,1),(1,1)] w:=by
 simp[gh,dH aX,dH adO]
theorem abS{v0 v1:ac}{c0_0:ac}(h0:v0.cells = #[c0_0]){c1_0:ac}(h1:v1.cells = #[c1_0])(w:ah):(Instr.build 139 #[(0,v0),(1,v1)]).run prog w=.ok (.agg #[c0_0,c1_0]) w:=gJ underlying139 Jt Xy (by simp[Instr.fill,lA,h0,h1]) w
theorem vI{l:List ac}{ty:aj}{x0 x1:a_}{c0_0:ac}(h0:(ev l x0).cells = #[c0_0]){c1_0:ac}(h1:(ev l x1).cells = #[c1_0]):gI prog l (.build 139 #[(0,x0),(1,x1)]) ty (.agg #[c0_0,c1_0]):=oL (vs:=#[(0,ev l x0),(1,ev l x1)]) (by simp) fun w=>abS h0 h1 w
theorem Mn{v0 v1 v2 v3:ac}{c0_0 c0_1:ac}(h0:v0.cells = #[c0_0,c0_1]){c1_0 c1_1:ac}(h1:v1.cells = #[c1_0,c1_1]){c2_0 c2_1:ac}(h2:v2.cells = #[c2_0,c2_1]){c3_0 c3_1:ac}(h3:v3.cells = #[c3_0,c3_1])(w:ah):(Instr.build 168 #[(0,v0),(1,v1),(2,v2),(3,v3)]).run prog w=.ok (.agg #[c0_0,c0_1,c1_0,c1_1,c2_0,c2_1,c3_0,c3_1]) w:=lZ underlying168 Uf aT (by simp[Instr.fill,lA,h0,h1,h2,h3]) w
theorem yR{l:List ac}{ty:aj}{x0 x1 x2 x3:a_}{c0_0 c0_1:ac}(h0:(ev l x0).cells = #[c0_0,c0_1]){c1_0 c1_1:ac}(h1:(ev l x1).cells = #[c1_0,c1_1]){c2_0 c2_1:ac}(h2:(ev l x2).cells = #[c2_0,c2_1]){c3_0 c3_1:ac}(h3:(ev l x3).cells = #[c3_0,c3_1]):gI prog l (.build 168 #[(0,x0),(1,x1),(2,x2),(3,x3)]) ty (.agg #[c0_0,c0_1,c1_0,c1_1,c2_0,c2_1,c3_0,c3_1]):=oL (vs:=#[(0,ev l x0),(1,ev l x1),(2,ev l x2),(3,ev l x3)]) (by simp) fun w=>Mn h0 h1 h2 h3 w
theorem Xz(w:ah):((#[{ name := "surface", type:=88,offset:=0,embedded:=true,tag := "", pkgPath := "lithophane/collapse", byteOffset:=0 },{ name := "u", type:=30,offset:=1,embedded:=false,tag := "", pkgPath := "lithophane/collapse", byteOffset:=8 },{ name := "v", type:=30,offset:=4,embedded:=false,tag := "", pkgPath := "lithophane/collapse", byteOffset:=32 },{ name := "x", type:=107,offset:=7,embedded:=false,tag := "", pkgPath := "lithophane/collapse", byteOffset:=56 },{ name := "y", type:=107,offset:=8,embedded:=false,tag := "", pkgPath := "lithophane/collapse", byteOffset:=64 },{ name := "moved", type:=27,offset:=9,embedded:=false,tag := "", pkgPath := "lithophane/collapse", byteOffset:=72 },{ name := "old", type:=27,offset:=10,embedded:=false,tag := "", pkgPath := "lithophane/collapse", byteOffset:=96 },{ name := "rest", type:=27,offset:=11,embedded:=false,tag := "", pkgPath := "lithophane/collapse", byteOffset:=120 }]:Array Field).mapM fun f=>do pure (f.offset,←sizeOf f.type):Sem (Array (Nat × Nat))).run prog w=.ok #[(0,1),(1,3),(4,3),(7,1),(8,1),(9,1),(10,1),(11,1)] w:=by
 simp[gh,dH yD,dH fE,dH aA,dH Js]
theorem Hh{v0 v1 v2 v3 v4:ac}{c0_0:ac}(h0:v0.cells = #[c0_0]){c1_0 c1_1 c1_2:ac}(h1:v1.cells = #[c1_0,c1_1,c1_2]){c2_0 c2_1 c2_2:ac}(h2:v2.cells = #[c2_0,c2_1,c2_2]){c3_0:ac}(h3:v3.cells = #[c3_0]){c4_0:ac}(h4:v4.cells = #[c4_0])(w:ah):(Instr.build 218 #[(0,v0),(1,v1),(2,v2),(3,v3),(4,v4)]).run prog w=.ok (.agg #[c0_0,c1_0,c1_1,c1_2,c2_0,c2_1,c2_2,c3_0,c4_0,(.slice none 0 0),(.slice none 0 0),(.slice none 0 0)]) w:=gJ lO adT Xz (by simp[Instr.fill,lA,h0,h1,h2,h3,h4]) w
theorem vO{l:List ac}{ty:aj}{x0 x1 x2 x3 x4:a_}{c0_0:ac}(h0:(ev l x0).cells = #[c0_0]){c1_0 c1_1 c1_2:ac}(h1:(ev l x1).cells = #[c1_0,c1_1,c1_2]){c2_0 c2_1 c2_2:ac}(h2:(ev l x2).cells = #[c2_0,c2_1,c2_2]){c3_0:ac}(h3:(ev l x3).cells = #[c3_0]){c4_0:ac}(h4:(ev l x4).cells = #[c4_0]):gI prog l (.build 218 #[(0,x0),(1,x1),(2,x2),(3,x3),(4,x4)]) ty (.agg #[c0_0,c1_0,c1_1,c1_2,c2_0,c2_1,c2_2,c3_0,c4_0,(.slice none 0 0),(.slice none 0 0),(.slice none 0 0)]):=oL (vs:=#[(0,ev l x0),(1,ev l x1),(2,ev l x2),(3,ev l x3),(4,ev l x4)]) (by simp) fun w=>Hh h0 h1 h2 h3 h4 w
theorem Ui{v0 v1 v2:ac}{c0_0:ac}(h0:v0.cells = #[c0_0]){c1_0:ac}(h1:v1.cells = #[c1_0]){c2_0:ac}(h2:v2.cells = #[c2_0])(w:ah):(Instr.build 243 #[(0,v0),(1,v1),(2,v2)]).run prog w=.ok (.agg #[c0_0,c1_0,c2_0]) w:=lZ underlying243 Ug yF (by simp[Instr.fill,lA,h0,h1,h2]) w
theorem Cu{l:List ac}{ty:aj}{x0 x1 x2:a_}{c0_0:ac}(h0:(ev l x0).cells = #[c0_0]){c1_0:ac}(h1:(ev l x1).cells = #[c1_0]){c2_0:ac}(h2:(ev l x2).cells = #[c2_0]):gI prog l (.build 243 #[(0,x0),(1,x1),(2,x2)]) ty (.agg #[c0_0,c1_0,c2_0]):=oL (vs:=#[(0,ev l x0),(1,ev l x1),(2,ev l x2)]) (by simp) fun w=>Ui h0 h1 h2 w
theorem mF(d:Nat){x0 y0:Int}{x1 y1:Int}{x2 y2:Int}:qB prog (d+2) 30 (.agg #[.int .i64 x0,.int .i64 x1,.int .i64 x2]) (.agg #[.int .i64 y0,.int .i64 y1,.int .i64 y2]) (x0=y0∧x1=y1∧x2=y2):=(qB.struct rK (by kernel_rfl) (uD.cons (by decide) (cB bN rfl) (cB bN rfl) (qB.int (d:=d+0) jN) (uD.cons (by decide) (cB bN rfl) (cB bN rfl) (qB.int (d:=d+0) jN) (uD.cons (by decide) (cB bN rfl) (cB bN rfl) (qB.int (d:=d+0) jN) uD.nil)))).iff (by simp only[and_assoc,and_true])
theorem cG{l:List ac}{ty T':aj}{x y:a_}{x0 y0:Int}{x1 y1:Int}{x2 y2:Int}(hx:ev l x=(.agg #[.int .i64 x0,.int .i64 x1,.int .i64 x2]))(hy:ev l y=(.agg #[.int .i64 y0,.int .i64 y1,.int .i64 y2])):gI prog l (.binOp .eql 30 x y T') ty (.bool (decide (x0=y0∧x1=y1∧x2=y2))):=Iu (by kernel_rfl) hx hy (mF 9998)
theorem gL{l:List ac}{ty T':aj}{x y:a_}{x0 y0:Int}{x1 y1:Int}{x2 y2:Int}(hx:ev l x=(.agg #[.int .i64 x0,.int .i64 x1,.int .i64 x2]))(hy:ev l y=(.agg #[.int .i64 y0,.int .i64 y1,.int .i64 y2])):gI prog l (.binOp .neq 30 x y T') ty (.bool (decide (¬(x0=y0∧x1=y1∧x2=y2)))):=adi (by kernel_rfl) hx hy (mF 9998)
theorem akT(d:Nat){x0 y0:Int}{x1 y1:Int}{x2 y2:Int}:qB prog (d+2) 36 (.agg #[.int .i64 x0,.int .i64 x1,.int .i64 x2]) (.agg #[.int .i64 y0,.int .i64 y1,.int .i64 y2]) (x0=y0∧x1=y1∧x2=y2):=(qB.array oW aX (oU.cons (cB bN rfl) (cB bN rfl) (qB.int (d:=d+0) jN) (oU.cons (cB bN rfl) (cB bN rfl) (qB.int (d:=d+0) jN) (oU.cons (cB bN rfl) (cB bN rfl) (qB.int (d:=d+0) jN) oU.nil)))).iff (by simp only[and_assoc,and_true])
theorem Oe{l:List ac}{ty T':aj}{x y:a_}{x0 y0:Int}{x1 y1:Int}{x2 y2:Int}(hx:ev l x=(.agg #[.int .i64 x0,.int .i64 x1,.int .i64 x2]))(hy:ev l y=(.agg #[.int .i64 y0,.int .i64 y1,.int .i64 y2])):gI prog l (.binOp .eql 36 x y T') ty (.bool (decide (x0=y0∧x1=y1∧x2=y2))):=Iu (by kernel_rfl) hx hy (akT 9998)
theorem akU(d:Nat){x0 y0:Int}{x1 y1:Int}{x2 y2:Int}{x3 y3:Int}{x4 y4:Int}{x5 y5:Int}{x6 y6:Int}{x7 y7:Int}{x8 y8:Int}:qB prog (d+3) 38 (.agg #[.int .i64 x0,.int .i64 x1,.int .i64 x2,.int .i64 x3,.int .i64 x4,.int .i64 x5,.int .i64 x6,.int .i64 x7,.int .i64 x8]) (.agg #[.int .i64 y0,.int .i64 y1,.int .i64 y2,.int .i64 y3,.int .i64 y4,.int .i64 y5,.int .i64 y6,.int .i64 y7,.int .i64 y8]) (x0=y0∧x1=y1∧x2=y2∧x3=y3∧x4=y4∧x5=y5∧x6=y6∧x7=y7∧x8=y8):=(qB.array underlying38 aA (oU.cons (bZ aG aA rfl) (bZ aG aA rfl) (mF (d+0)) (oU.cons (bZ aG aA rfl) (bZ aG aA rfl) (mF (d+0)) (oU.cons (bZ aG aA rfl) (bZ aG aA rfl) (mF (d+0)) oU.nil)))).iff (by simp only[and_assoc,and_true])
theorem akV(d:Nat){x0 y0:Int}{x1 y1:Int}{x2 y2:Int}{x3 y3:Int}{x4 y4:Int}{x5 y5:Int}{x6 y6:Int}{x7 y7:Int}{x8 y8:Int}:qB prog (d+3) 39 (.agg #[.int .i64 x0,.int .i64 x1,.int .i64 x2,.int .i64 x3,.int .i64 x4,.int .i64 x5,.int .i64 x6,.int .i64 x7,.int .i64 x8]) (.agg #[.int .i64 y0,.int .i64 y1,.int .i64 y2,.int .i64 y3,.int .i64 y4,.int .i64 y5,.int .i64 y6,.int .i64 y7,.int .i64 y8]) (x0=y0∧x1=y1∧x2=y2∧x3=y3∧x4=y4∧x5=y5∧x6=y6∧x7=y7∧x8=y8):=(qB.array dC aA (oU.cons (bZ aG aA rfl) (bZ aG aA rfl) (mF (d+0)) (oU.cons (bZ aG aA rfl) (bZ aG aA rfl) (mF (d+0)) (oU.cons (bZ aG aA rfl) (bZ aG aA rfl) (mF (d+0)) oU.nil)))).iff (by simp only[and_assoc,and_true])
theorem abT{l:List ac}{ty T':aj}{x y:a_}{x0 y0:Int}{x1 y1:Int}{x2 y2:Int}{x3 y3:Int}{x4 y4:Int}{x5 y5:Int}{x6 y6:Int}{x7 y7:Int}{x8 y8:Int}(hx:ev l x=(.agg #[.int .i64 x0,.int .i64 x1,.int .i64 x2,.int .i64 x3,.int .i64 x4,.int .i64 x5,.int .i64 x6,.int .i64 x7,.int .i64 x8]))(hy:ev l y=(.agg #[.int .i64 y0,.int .i64 y1,.int .i64 y2,.int .i64 y3,.int .i64 y4,.int .i64 y5,.int .i64 y6,.int .i64 y7,.int .i64 y8])):gI prog l (.binOp .eql 39 x y T') ty (.bool (decide (x0=y0∧x1=y1∧x2=y2∧x3=y3∧x4=y4∧x5=y5∧x6=y6∧x7=y7∧x8=y8))):=Iu (by kernel_rfl) hx hy (akV 9997)
theorem akW(d:Nat){x0 y0:Int}{x1 y1:Int}{x2 y2:Int}{x3 y3:Int}{x4 y4:Int}{x5 y5:Int}:qB prog (d+3) 55 (.agg #[.int .i64 x0,.int .i64 x1,.int .i64 x2,.int .i64 x3,.int .i64 x4,.int .i64 x5]) (.agg #[.int .i64 y0,.int .i64 y1,.int .i64 y2,.int .i64 y3,.int .i64 y4,.int .i64 y5]) (x0=y0∧x1=y1∧x2=y2∧x3=y3∧x4=y4∧x5=y5):=(qB.struct underlying55 (by kernel_rfl) (uD.cons (by decide) (bZ aG aA rfl) (bZ aG aA rfl) (mF (d+0)) (uD.cons (by decide) (bZ aG aA rfl) (bZ aG aA rfl) (mF (d+0)) uD.nil))).iff (by simp only[and_assoc,and_true])
theorem abU{l:List ac}{ty T':aj}{x y:a_}{x0 y0:Int}{x1 y1:Int}{x2 y2:Int}{x3 y3:Int}{x4 y4:Int}{x5 y5:Int}(hx:ev l x=(.agg #[.int .i64 x0,.int .i64 x1,.int .i64 x2,.int .i64 x3,.int .i64 x4,.int .i64 x5]))(hy:ev l y=(.agg #[.int .i64 y0,.int .i64 y1,.int .i64 y2,.int .i64 y3,.int .i64 y4,.int .i64 y5])):gI prog l (.binOp .neq 55 x y T') ty (.bool (decide (¬(x0=y0∧x1=y1∧x2=y2∧x3=y3∧x4=y4∧x5=y5)))):=adi (by kernel_rfl) hx hy (akW 9997)
theorem adX(d:Nat){x0 y0:Int}{x1 y1:Int}{x2 y2:Int}{x3 y3:Int}{x4 y4:Int}{x5 y5:Int}:qB prog (d+3) 56 (.agg #[.int .i64 x0,.int .i64 x1,.int .i64 x2,.int .i64 x3,.int .i64 x4,.int .i64 x5]) (.agg #[.int .i64 y0,.int .i64 y1,.int .i64 y2,.int .i64 y3,.int .i64 y4,.int .i64 y5]) (x0=y0∧x1=y1∧x2=y2∧x3=y3∧x4=y4∧x5=y5):=(qB.array Ge aA (oU.cons (bZ aG aA rfl) (bZ aG aA rfl) (mF (d+0)) (oU.cons (bZ aG aA rfl) (bZ aG aA rfl) (mF (d+0)) oU.nil))).iff (by simp only[and_assoc,and_true])
theorem abV{l:List ac}{ty T':aj}{x y:a_}{x0 y0:Int}{x1 y1:Int}{x2 y2:Int}{x3 y3:Int}{x4 y4:Int}{x5 y5:Int}(hx:ev l x=(.agg #[.int .i64 x0,.int .i64 x1,.int .i64 x2,.int .i64 x3,.int .i64 x4,.int .i64 x5]))(hy:ev l y=(.agg #[.int .i64 y0,.int .i64 y1,.int .i64 y2,.int .i64 y3,.int .i64 y4,.int .i64 y5])):gI prog l (.binOp .eql 56 x y T') ty (.bool (decide (x0=y0∧x1=y1∧x2=y2∧x3=y3∧x4=y4∧x5=y5))):=Iu (by kernel_rfl) hx hy (adX 9997)
theorem Qy(d:Nat){x0 y0:Bool}{x1 y1:ByteArray}:qB prog (d+2) 95 (.agg #[.bool x0,.string x1]) (.agg #[.bool y0,.string y1]) (x0=y0∧x1=y1):=(qB.struct underlying95 (by kernel_rfl) (uD.cons (by decide) (cB mN rfl) (cB mN rfl) (qB.bool (d:=d+0) Ue) (uD.cons (by decide) (cB aiu rfl) (cB aiu rfl) (qB.str (d:=d+0) oX) uD.nil))).iff (by simp only[and_assoc,and_true])
theorem ag7(d:Nat){x0 y0:Int}{x1 y1:Int}{x2 y2:Int}{x3 y3:Int}{x4 y4:Int}{x5 y5:Int}:qB prog (d+3) 215 (.agg #[.int .i64 x0,.int .i64 x1,.int .i64 x2,.int .i64 x3,.int .i64 x4,.int .i64 x5]) (.agg #[.int .i64 y0,.int .i64 y1,.int .i64 y2,.int .i64 y3,.int .i64 y4,.int .i64 y5]) (x0=y0∧x1=y1∧x2=y2∧x3=y3∧x4=y4∧x5=y5):=(qB.struct rJ (by kernel_rfl) (uD.cons (by decide) (bZ aG aA rfl) (bZ aG aA rfl) (mF (d+0)) (uD.cons (by decide) (bZ aG aA rfl) (bZ aG aA rfl) (mF (d+0)) uD.nil))).iff (by simp only[and_assoc,and_true])
theorem ag8(d:Nat){x0 y0:Bool}{x1 y1:ByteArray}{x2 y2:Bool}{x3 y3:ByteArray}{x4 y4:Bool}{x5 y5:ByteArray}{x6 y6:Bool}{x7 y7:ByteArray}:qB prog (d+3) 229 (.agg #[.bool x0,.string x1,.bool x2,.string x3,.bool x4,.string x5,.bool x6,.string x7]) (.agg #[.bool y0,.string y1,.bool y2,.string y3,.bool y4,.string y5,.bool y6,.string y7]) (x0=y0∧x1=y1∧x2=y2∧x3=y3∧x4=y4∧x5=y5∧x6=y6∧x7=y7):=(qB.array underlying229 aT (oU.cons (bZ dP aT rfl) (bZ dP aT rfl) (Qy (d+0)) (oU.cons (bZ dP aT rfl) (bZ dP aT rfl) (Qy (d+0)) (oU.cons (bZ dP aT rfl) (bZ dP aT rfl) (Qy (d+0)) (oU.cons (bZ dP aT rfl) (bZ dP aT rfl) (Qy (d+0)) oU.nil))))).iff (by simp only[and_assoc,and_true])
theorem Ya{l:List ac}{ty T':aj}{x y:a_}{x0 y0:Bool}{x1 y1:ByteArray}{x2 y2:Bool}{x3 y3:ByteArray}{x4 y4:Bool}{x5 y5:ByteArray}{x6 y6:Bool}{x7 y7:ByteArray}(hx:ev l x=(.agg #[.bool x0,.string x1,.bool x2,.string x3,.bool x4,.string x5,.bool x6,.string x7]))(hy:ev l y=(.agg #[.bool y0,.string y1,.bool y2,.string y3,.bool y4,.string y5,.bool y6,.string y7])):gI prog l (.binOp .eql 229 x y T') ty (.bool (decide (x0=y0∧x1=y1∧x2=y2∧x3=y3∧x4=y4∧x5=y5∧x6=y6∧x7=y7))):=Iu (by kernel_rfl) hx hy (ag8 9997)
end Go.Proofs.YtfekpcimgncioaaGreatDoor
namespace Go.Proofs.YtfekpcimgncioaaGreatDoor
open Go.Proofs.Tryz
open Go.RowKit Go.Lith
theorem iJ{l:List ac}{ty:aj}{x y:a_}{k:IntKind}{c0 c1 c2:ac}(hx:ev l x=.agg #[c0,c1,c2])(hy:ev l y=.int k 0):gI prog l (.index 36 x y) ty c0:=nC oW bN aX hx hy (by decide) (by decide) rfl
theorem iK{l:List ac}{ty:aj}{x y:a_}{k:IntKind}{c0 c1 c2:ac}(hx:ev l x=.agg #[c0,c1,c2])(hy:ev l y=.int k 1):gI prog l (.index 36 x y) ty c1:=nC oW bN aX hx hy (by decide) (by decide) rfl
theorem iL{l:List ac}{ty:aj}{x y:a_}{k:IntKind}{c0 c1 c2:ac}(hx:ev l x=.agg #[c0,c1,c2])(hy:ev l y=.int k 2):gI prog l (.index 36 x y) ty c2:=nC oW bN aX hx hy (by decide) (by decide) rfl
theorem qG{l:List ac}{ty:aj}{x y:a_}{k:IntKind}{c0 c1 c2 c3 c4 c5 c6 c7 c8:ac}(hx:ev l x=.agg #[c0,c1,c2,c3,c4,c5,c6,c7,c8])(hy:ev l y=.int k 0):gI prog l (.index 39 x y) ty (.agg #[c0,c1,c2]):=nD dC aG aA hx hy (by decide) (by decide) rfl
theorem qH{l:List ac}{ty:aj}{x y:a_}{k:IntKind}{c0 c1 c2 c3 c4 c5 c6 c7 c8:ac}(hx:ev l x=.agg #[c0,c1,c2,c3,c4,c5,c6,c7,c8])(hy:ev l y=.int k 1):gI prog l (.index 39 x y) ty (.agg #[c3,c4,c5]):=nD dC aG aA hx hy (by decide) (by decide) rfl
theorem qI{l:List ac}{ty:aj}{x y:a_}{k:IntKind}{c0 c1 c2 c3 c4 c5 c6 c7 c8:ac}(hx:ev l x=.agg #[c0,c1,c2,c3,c4,c5,c6,c7,c8])(hy:ev l y=.int k 2):gI prog l (.index 39 x y) ty (.agg #[c6,c7,c8]):=nD dC aG aA hx hy (by decide) (by decide) rfl
theorem Ag{l:List ac}{ty:aj}{x y:a_}{k:IntKind}{c0 c1 c2:ac}(hx:ev l x=.agg #[c0,c1,c2])(hy:ev l y=.int k 0):gI prog l (.index 243 x y) ty c0:=nC underlying243 Qx yF hx hy (by decide) (by decide) rfl
theorem Ah{l:List ac}{ty:aj}{x y:a_}{k:IntKind}{c0 c1 c2:ac}(hx:ev l x=.agg #[c0,c1,c2])(hy:ev l y=.int k 1):gI prog l (.index 243 x y) ty c1:=nC underlying243 Qx yF hx hy (by decide) (by decide) rfl
theorem Ai{l:List ac}{ty:aj}{x y:a_}{k:IntKind}{c0 c1 c2:ac}(hx:ev l x=.agg #[c0,c1,c2])(hy:ev l y=.int k 2):gI prog l (.index 243 x y) ty c2:=nC underlying243 Qx yF hx hy (by decide) (by decide) rfl
theorem Mo{l:List ac}{ty:aj}{x y:a_}{k:IntKind}{c0 c1 c2 c3 c4 c5:ac}(hx:ev l x=.agg #[c0,c1,c2,c3,c4,c5])(hy:ev l y=.int k 0):gI prog l (.index 273 x y) ty (.agg #[c0,c1]):=nD underlying273 dP aT hx hy (by decide) (by decide) rfl
theorem Mp{l:List ac}{ty:aj}{x y:a_}{k:IntKind}{c0 c1 c2 c3 c4 c5:ac}(hx:ev l x=.agg #[c0,c1,c2,c3,c4,c5])(hy:ev l y=.int k 1):gI prog l (.index 273 x y) ty (.agg #[c2,c3]):=nD underlying273 dP aT hx hy (by decide) (by decide) rfl
theorem Mq{l:List ac}{ty:aj}{x y:a_}{k:IntKind}{c0 c1 c2 c3 c4 c5:ac}(hx:ev l x=.agg #[c0,c1,c2,c3,c4,c5])(hy:ev l y=.int k 2):gI prog l (.index 273 x y) ty (.agg #[c4,c5]):=nD underlying273 dP aT hx hy (by decide) (by decide) rfl
theorem Mr{l:List ac}{ty:aj}{x y:a_}{k:IntKind}{c0 c1 c2 c3 c4 c5 c6 c7 c8 c9 c10 c11 c12 c13 c14 c15 c16 c17:ac}(hx:ev l x=.agg #[c0,c1,c2,c3,c4,c5,c6,c7,c8,c9,c10,c11,c12,c13,c14,c15,c16,c17])(hy:ev l y=.int k 0):gI prog l (.index 280 x y) ty (.agg #[c0,c1,c2,c3,c4,c5]):=nD underlying280 yE oF hx hy (by decide) (by decide) rfl
theorem Ms{l:List ac}{ty:aj}{x y:a_}{k:IntKind}{c0 c1 c2 c3 c4 c5 c6 c7 c8 c9 c10 c11 c12 c13 c14 c15 c16 c17:ac}(hx:ev l x=.agg #[c0,c1,c2,c3,c4,c5,c6,c7,c8,c9,c10,c11,c12,c13,c14,c15,c16,c17])(hy:ev l y=.int k 1):gI prog l (.index 280 x y) ty (.agg #[c6,c7,c8,c9,c10,c11]):=nD underlying280 yE oF hx hy (by decide) (by decide) rfl
theorem Mt{l:List ac}{ty:aj}{x y:a_}{k:IntKind}{c0 c1 c2 c3 c4 c5 c6 c7 c8 c9 c10 c11 c12 c13 c14 c15 c16 c17:ac}(hx:ev l x=.agg #[c0,c1,c2,c3,c4,c5,c6,c7,c8,c9,c10,c11,c12,c13,c14,c15,c16,c17])(hy:ev l y=.int k 2):gI prog l (.index 280 x y) ty (.agg #[c12,c13,c14,c15,c16,c17]):=nD underlying280 yE oF hx hy (by decide) (by decide) rfl
theorem Mu{l:List ac}{ty:aj}{x y:a_}{k:IntKind}{c0 c1 c2:ac}(hx:ev l x=.agg #[c0,c1,c2])(hy:ev l y=.int k 0):gI prog l (.index 333 x y) ty c0:=nC underlying333 bN aX hx hy (by decide) (by decide) rfl
theorem Mw{l:List ac}{ty:aj}{x y:a_}{k:IntKind}{c0 c1 c2:ac}(hx:ev l x=.agg #[c0,c1,c2])(hy:ev l y=.int k 1):gI prog l (.index 333 x y) ty c1:=nC underlying333 bN aX hx hy (by decide) (by decide) rfl
theorem Mx{l:List ac}{ty:aj}{x y:a_}{k:IntKind}{c0 c1 c2:ac}(hx:ev l x=.agg #[c0,c1,c2])(hy:ev l y=.int k 2):gI prog l (.index 333 x y) ty c2:=nC underlying333 bN aX hx hy (by decide) (by decide) rfl
theorem eF{ds:List cg}{l:List ac}{ty:aj}{ops:Array Oper}{Q:Exit→Act→ah→Prop}{rest:List Oper}{d:Nat}{pos:String}{after:Array Edge}{w:ah}{x0:a_}{c0_0 c0_1 c0_2 c0_3 c0_4 c0_5 c0_6 c0_7 c0_8:ac}(h0:(ev l x0).cells = #[c0_0,c0_1,c0_2,c0_3,c0_4,c0_5,c0_6,c0_7,c0_8])(h:∀w' g,eW w w'→w.heap.size≤g→fA w' g [c0_0,c0_1,c0_2,c0_3,c0_4,c0_5,c0_6,c0_7,c0_8] 39→ao prog ops Q rest (Fr (l.set d (.slice (some ⟨g,0,none⟩) 1 1)) ds) w'):ao prog ops Q (bi (some d) (.buildSlice 27 1 #[(0,x0)]) ty pos after none::rest) (Fr l ds) w :=
 lU (vs:=#[(0,ev l x0)]) (base:=#[.int .i64 0,.int .i64 0,.int .i64 0,.int .i64 0,.int .i64 0,.int .i64 0,.int .i64 0,.int .i64 0,.int .i64 0]) (c:=9) (z:=(.agg #[.int .i64 0,.int .i64 0,.int .i64 0,.int .i64 0,.int .i64 0,.int .i64 0,.int .i64 0,.int .i64 0,.int .i64 0])) bT (by kernel_rfl) (by decide) (by decide) (by kernel_rfl) (by simp) (by simp[Instr.fill,h0]) h
theorem abW{ds:List cg}{l:List ac}{ty:aj}{ops:Array Oper}{Q:Exit→Act→ah→Prop}{rest:List Oper}{d:Nat}{pos:String}{after:Array Edge}{w:ah}{x0 x1 x2 x3:a_}{c0_0 c0_1 c0_2 c0_3 c0_4 c0_5 c0_6 c0_7 c0_8 c1_0 c1_1 c1_2 c1_3 c1_4 c1_5 c1_6 c1_7 c1_8 c2_0 c2_1 c2_2 c2_3 c2_4 c2_5 c2_6 c2_7 c2_8 c3_0 c3_1 c3_2 c3_3 c3_4 c3_5 c3_6 c3_7 c3_8:ac}(h0:(ev l x0).cells = #[c0_0,c0_1,c0_2,c0_3,c0_4,c0_5,c0_6,c0_7,c0_8])(h1:(ev l x1).cells = #[c1_0,c1_1,c1_2,c1_3,c1_4,c1_5,c1_6,c1_7,c1_8])(h2:(ev l x2).cells = #[c2_0,c2_1,c2_2,c2_3,c2_4,c2_5,c2_6,c2_7,c2_8])(h3:(ev l x3).cells = #[c3_0,c3_1,c3_2,c3_3,c3_4,c3_5,c3_6,c3_7,c3_8])(h:∀w' g,eW w w'→w.heap.size≤g→fA w' g [c0_0,c0_1,c0_2,c0_3,c0_4,c0_5,c0_6,c0_7,c0_8,c1_0,c1_1,c1_2,c1_3,c1_4,c1_5,c1_6,c1_7,c1_8,c2_0,c2_1,c2_2,c2_3,c2_4,c2_5,c2_6,c2_7,c2_8,c3_0,c3_1,c3_2,c3_3,c3_4,c3_5,c3_6,c3_7,c3_8] 39→ao prog ops Q rest (Fr (l.set d (.slice (some ⟨g,0,none⟩) 4 4)) ds) w'):ao prog ops Q (bi (some d) (.buildSlice 27 4 #[(0,x0),(1,x1),(2,x2),(3,x3)]) ty pos after none::rest) (Fr l ds) w :=
 lU (vs:=#[(0,ev l x0),(1,ev l x1),(2,ev l x2),(3,ev l x3)]) (base:=#[.int .i64 0,.int .i64 0,.int .i64 0,.int .i64 0,.int .i64 0,.int .i64 0,.int .i64 0,.int .i64 0,.int .i64 0,.int .i64 0,.int .i64 0,.int .i64 0,.int .i64 0,.int .i64 0,.int .i64 0,.int .i64 0,.int .i64 0,.int .i64 0,.int .i64 0,.int .i64 0,.int .i64 0,.int .i64 0,.int .i64 0,.int .i64 0,.int .i64 0,.int .i64 0,.int .i64 0,.int .i64 0,.int .i64 0,.int .i64 0,.int .i64 0,.int .i64 0,.int .i64 0,.int .i64 0,.int .i64 0,.int .i64 0]) (c:=9) (z:=(.agg #[.int .i64 0,.int .i64 0,.int .i64 0,.int .i64 0,.int .i64 0,.int .i64 0,.int .i64 0,.int .i64 0,.int .i64 0])) bT (by kernel_rfl) (by decide) (by decide) (by kernel_rfl) (by simp) (by simp[Instr.fill,h0,h1,h2,h3]) h
theorem Eo{ds:List cg}{l:List ac}{ty:aj}{ops:Array Oper}{Q:Exit→Act→ah→Prop}{rest:List Oper}{d:Nat}{pos:String}{after:Array Edge}{w:ah}{x0:a_}{c0_0 c0_1 c0_2 c0_3 c0_4 c0_5:ac}(h0:(ev l x0).cells = #[c0_0,c0_1,c0_2,c0_3,c0_4,c0_5])(h:∀w' g,eW w w'→w.heap.size≤g→fA w' g [c0_0,c0_1,c0_2,c0_3,c0_4,c0_5] 55→ao prog ops Q rest (Fr (l.set d (.slice (some ⟨g,0,none⟩) 1 1)) ds) w'):ao prog ops Q (bi (some d) (.buildSlice 46 1 #[(0,x0)]) ty pos after none::rest) (Fr l ds) w :=
 lU (vs:=#[(0,ev l x0)]) (base:=#[.int .i64 0,.int .i64 0,.int .i64 0,.int .i64 0,.int .i64 0,.int .i64 0]) (c:=6) (z:=(.agg #[.int .i64 0,.int .i64 0,.int .i64 0,.int .i64 0,.int .i64 0,.int .i64 0])) underlying46 (by kernel_rfl) (by decide) (by decide) (by kernel_rfl) (by simp) (by simp[Instr.fill,h0]) h
theorem Ep{ds:List cg}{l:List ac}{ty:aj}{ops:Array Oper}{Q:Exit→Act→ah→Prop}{rest:List Oper}{d:Nat}{pos:String}{after:Array Edge}{w:ah}{x0:a_}{c0_0 c0_1 c0_2 c0_3 c0_4 c0_5:ac}(h0:(ev l x0).cells = #[c0_0,c0_1,c0_2,c0_3,c0_4,c0_5])(h:∀w' g,eW w w'→w.heap.size≤g→fA w' g [c0_0,c0_1,c0_2,c0_3,c0_4,c0_5] 56→ao prog ops Q rest (Fr (l.set d (.slice (some ⟨g,0,none⟩) 1 1)) ds) w'):ao prog ops Q (bi (some d) (.buildSlice 52 1 #[(0,x0)]) ty pos after none::rest) (Fr l ds) w :=
 lU (vs:=#[(0,ev l x0)]) (base:=#[.int .i64 0,.int .i64 0,.int .i64 0,.int .i64 0,.int .i64 0,.int .i64 0]) (c:=6) (z:=(.agg #[.int .i64 0,.int .i64 0,.int .i64 0,.int .i64 0,.int .i64 0,.int .i64 0])) nL (by kernel_rfl) (by decide) (by decide) (by kernel_rfl) (by simp) (by simp[Instr.fill,h0]) h
theorem abX{ds:List cg}{l:List ac}{ty:aj}{ops:Array Oper}{Q:Exit→Act→ah→Prop}{rest:List Oper}{d:Nat}{pos:String}{after:Array Edge}{w:ah}{x0 x1 x2:a_}{c0_0 c0_1 c0_2 c0_3 c0_4 c0_5 c1_0 c1_1 c1_2 c1_3 c1_4 c1_5 c2_0 c2_1 c2_2 c2_3 c2_4 c2_5:ac}(h0:(ev l x0).cells = #[c0_0,c0_1,c0_2,c0_3,c0_4,c0_5])(h1:(ev l x1).cells = #[c1_0,c1_1,c1_2,c1_3,c1_4,c1_5])(h2:(ev l x2).cells = #[c2_0,c2_1,c2_2,c2_3,c2_4,c2_5])(h:∀w' g,eW w w'→w.heap.size≤g→fA w' g [c0_0,c0_1,c0_2,c0_3,c0_4,c0_5,c1_0,c1_1,c1_2,c1_3,c1_4,c1_5,c2_0,c2_1,c2_2,c2_3,c2_4,c2_5] 56→ao prog ops Q rest (Fr (l.set d (.slice (some ⟨g,0,none⟩) 3 3)) ds) w'):ao prog ops Q (bi (some d) (.buildSlice 52 3 #[(0,x0),(1,x1),(2,x2)]) ty pos after none::rest) (Fr l ds) w :=
 lU (vs:=#[(0,ev l x0),(1,ev l x1),(2,ev l x2)]) (base:=#[.int .i64 0,.int .i64 0,.int .i64 0,.int .i64 0,.int .i64 0,.int .i64 0,.int .i64 0,.int .i64 0,.int .i64 0,.int .i64 0,.int .i64 0,.int .i64 0,.int .i64 0,.int .i64 0,.int .i64 0,.int .i64 0,.int .i64 0,.int .i64 0]) (c:=6) (z:=(.agg #[.int .i64 0,.int .i64 0,.int .i64 0,.int .i64 0,.int .i64 0,.int .i64 0])) nL (by kernel_rfl) (by decide) (by decide) (by kernel_rfl) (by simp) (by simp[Instr.fill,h0,h1,h2]) h
theorem mO{ds:List cg}{l:List ac}{ty:aj}{ops:Array Oper}{Q:Exit→Act→ah→Prop}{rest:List Oper}{d:Nat}{pos:String}{after:Array Edge}{w:ah}{x0:a_}{c0_0 c0_1 c0_2:ac}(h0:(ev l x0).cells = #[c0_0,c0_1,c0_2])(h:∀w' g,eW w w'→w.heap.size≤g→fA w' g [c0_0,c0_1,c0_2] 30→ao prog ops Q rest (Fr (l.set d (.slice (some ⟨g,0,none⟩) 1 1)) ds) w'):ao prog ops Q (bi (some d) (.buildSlice 65 1 #[(0,x0)]) ty pos after none::rest) (Fr l ds) w :=
 lU (vs:=#[(0,ev l x0)]) (base:=#[.int .i64 0,.int .i64 0,.int .i64 0]) (c:=3) (z:=(.agg #[.int .i64 0,.int .i64 0,.int .i64 0])) dS (by kernel_rfl) (by decide) (by decide) (by kernel_rfl) (by simp) (by simp[Instr.fill,h0]) h
theorem Of{ds:List cg}{l:List ac}{ty:aj}{ops:Array Oper}{Q:Exit→Act→ah→Prop}{rest:List Oper}{d:Nat}{pos:String}{after:Array Edge}{w:ah}{x0 x1 x2 x3:a_}{c0_0 c0_1 c0_2 c1_0 c1_1 c1_2 c2_0 c2_1 c2_2 c3_0 c3_1 c3_2:ac}(h0:(ev l x0).cells = #[c0_0,c0_1,c0_2])(h1:(ev l x1).cells = #[c1_0,c1_1,c1_2])(h2:(ev l x2).cells = #[c2_0,c2_1,c2_2])(h3:(ev l x3).cells = #[c3_0,c3_1,c3_2])(h:∀w' g,eW w w'→w.heap.size≤g→fA w' g [c0_0,c0_1,c0_2,c1_0,c1_1,c1_2,c2_0,c2_1,c2_2,c3_0,c3_1,c3_2] 30→ao prog ops Q rest (Fr (l.set d (.slice (some ⟨g,0,none⟩) 4 4)) ds) w'):ao prog ops Q (bi (some d) (.buildSlice 65 4 #[(0,x0),(1,x1),(2,x2),(3,x3)]) ty pos after none::rest) (Fr l ds) w :=
 lU (vs:=#[(0,ev l x0),(1,ev l x1),(2,ev l x2),(3,ev l x3)]) (base:=#[.int .i64 0,.int .i64 0,.int .i64 0,.int .i64 0,.int .i64 0,.int .i64 0,.int .i64 0,.int .i64 0,.int .i64 0,.int .i64 0,.int .i64 0,.int .i64 0]) (c:=3) (z:=(.agg #[.int .i64 0,.int .i64 0,.int .i64 0])) dS (by kernel_rfl) (by decide) (by decide) (by kernel_rfl) (by simp) (by simp[Instr.fill,h0,h1,h2,h3]) h
theorem Yb{ds:List cg}{l:List ac}{ty:aj}{ops:Array Oper}{Q:Exit→Act→ah→Prop}{rest:List Oper}{d:Nat}{pos:String}{after:Array Edge}{w:ah}{x0:a_}{c0_0 c0_1 c0_2 c0_3 c0_4 c0_5 c0_6 c0_7:ac}(h0:(ev l x0).cells = #[c0_0,c0_1,c0_2,c0_3,c0_4,c0_5,c0_6,c0_7])(h:∀w' g,eW w w'→w.heap.size≤g→fA w' g [c0_0,c0_1,c0_2,c0_3,c0_4,c0_5,c0_6,c0_7] 112→ao prog ops Q rest (Fr (l.set d (.slice (some ⟨g,0,none⟩) 1 1)) ds) w'):ao prog ops Q (bi (some d) (.buildSlice 105 1 #[(0,x0)]) ty pos after none::rest) (Fr l ds) w :=
 lU (vs:=#[(0,ev l x0)]) (base:=#[.int .i64 0,.int .i64 0,.int .i64 0,.int .i64 0,.int .i64 0,.int .i64 0,.bool false,.string ⟨#[]⟩]) (c:=8) (z:=(.agg #[.int .i64 0,.int .i64 0,.int .i64 0,.int .i64 0,.int .i64 0,.int .i64 0,.bool false,.string ⟨#[]⟩])) underlying105 (by kernel_rfl) (by decide) (by decide) (by kernel_rfl) (by simp) (by simp[Instr.fill,h0]) h
theorem Yc{ds:List cg}{l:List ac}{ty:aj}{ops:Array Oper}{Q:Exit→Act→ah→Prop}{rest:List Oper}{d:Nat}{pos:String}{after:Array Edge}{w:ah}{x0 x1 x2 x3 x4 x5:a_}{c0_0 c1_0 c2_0 c3_0 c4_0 c5_0:ac}(h0:(ev l x0).cells = #[c0_0])(h1:(ev l x1).cells = #[c1_0])(h2:(ev l x2).cells = #[c2_0])(h3:(ev l x3).cells = #[c3_0])(h4:(ev l x4).cells = #[c4_0])(h5:(ev l x5).cells = #[c5_0])(h:∀w' g,eW w w'→w.heap.size≤g→fA w' g [c0_0,c1_0,c2_0,c3_0,c4_0,c5_0] 26→ao prog ops Q rest (Fr (l.set d (.slice (some ⟨g,0,none⟩) 6 6)) ds) w'):ao prog ops Q (bi (some d) (.buildSlice 157 6 #[(0,x0),(1,x1),(2,x2),(3,x3),(4,x4),(5,x5)]) ty pos after none::rest) (Fr l ds) w :=
 lU (vs:=#[(0,ev l x0),(1,ev l x1),(2,ev l x2),(3,ev l x3),(4,ev l x4),(5,ev l x5)]) (base:=#[.nilFunc,.nilFunc,.nilFunc,.nilFunc,.nilFunc,.nilFunc]) (c:=1) (z:=(.nilFunc)) underlying157 (by kernel_rfl) (by decide) (by decide) (by kernel_rfl) (by simp) (by simp[Instr.fill,h0,h1,h2,h3,h4,h5]) h
theorem Ye{ds:List cg}{l:List ac}{ty:aj}{ops:Array Oper}{Q:Exit→Act→ah→Prop}{rest:List Oper}{d:Nat}{pos:String}{after:Array Edge}{w:ah}{x0:a_}{c0_0 c0_1 c0_2 c0_3 c0_4 c0_5:ac}(h0:(ev l x0).cells = #[c0_0,c0_1,c0_2,c0_3,c0_4,c0_5])(h:∀w' g,eW w w'→w.heap.size≤g→fA w' g [c0_0,c0_1,c0_2,c0_3,c0_4,c0_5] 215→ao prog ops Q rest (Fr (l.set d (.slice (some ⟨g,0,none⟩) 1 1)) ds) w'):ao prog ops Q (bi (some d) (.buildSlice 212 1 #[(0,x0)]) ty pos after none::rest) (Fr l ds) w :=
 lU (vs:=#[(0,ev l x0)]) (base:=#[.int .i64 0,.int .i64 0,.int .i64 0,.int .i64 0,.int .i64 0,.int .i64 0]) (c:=6) (z:=(.agg #[.int .i64 0,.int .i64 0,.int .i64 0,.int .i64 0,.int .i64 0,.int .i64 0])) underlying212 (by kernel_rfl) (by decide) (by decide) (by kernel_rfl) (by simp) (by simp[Instr.fill,h0]) h
end Go.Proofs.YtfekpcimgncioaaGreatDoor
namespace Go.Lith
open Go.RowKit
def gW(w:ah)(g:Nat)(es:Array bx)(c:Nat):Prop:=w.heap[g]? = some (.map es c)
def oY(w:ah)(r g s:Nat)(seen:Array Nat)(c:Nat):Prop:=w.heap[r]? = some (.mapIter (some g) s seen c)
theorem gW.ext{w w':ah}{g c:Nat}{es:Array bx}(h:gW w g es c)(hE:eW w w'):gW w' g es c:=hE.block h
theorem oY.ext{w w':ah}{r g s c:Nat}{seen:Array Nat}(h:oY w r g s seen c)(hE:eW w w'):oY w' r g s seen c:=hE.block h
theorem gW.lt{w:ah}{g c:Nat}{es:Array bx}(h:gW w g es c):g<w.heap.size:=(da.1 h).1
theorem oY.lt{w:ah}{r g s c:Nat}{seen:Array Nat}(h:oY w r g s seen c):r<w.heap.size:=(da.1 h).1
section
variable {P:bc} {ds:List cg} {l:List ac} {x:a_} {T ty:aj} {ops:Array Oper} {Q:Exit→Act→ah→Prop} {rest:List Oper} {d:Nat} {pos:String} {after:Array Edge} {w:ah}
theorem abY(h:∀w' g,eW w w'→w.heap.size≤g→gW w' g #[] 0→ao P ops Q rest (Fr (l.set d (.map (some g))) ds) w'):ao P ops Q (bi (some d) (.makeMap T none) ty pos after none::rest) (Fr l ds) w :=
 kN (w':=w.alloc (.map #[] 0)) (v:=.map (some w.heap.size)) (fun o ho _=>by simp[ck,ho,Instr.makeMap,newObj,Sem.run]) (h _ _ ((eW.refl w).alloc _) (ap _) (heap_alloc_new w _))
theorem aaL{k e:aj}{g c:Nat}{es:Array bx}(hu:P.underlying T=some (.map k e))(hx:ev l x=.map (some g))(hM:gW w g es c)(h:∀w' r,eW w w'→w.heap.size≤r→oY w' r g c #[] c→ao P ops Q rest (Fr (l.set d (.pointer (some ⟨r,0,none⟩))) ds) w') :
 ao P ops Q (bi (some d) (.range T x) ty pos after none::rest) (Fr l ds) w :=
 kN (w':=w.alloc (.mapIter (some g) c #[] c)) (v:=.pointer (some ⟨w.heap.size,0,none⟩)) (fun o ho _=>by
  unfold gW at hM;simp[ck,ho,bS,hx,Instr.range,bu hu,getObj,hM,newObj,Sem.run]) (h _ _ ((eW.refl w).alloc _) (ap _) (heap_alloc_new w _))
end
end Go.Lith
namespace Go.Lith
open Go.RowKit Go.ChangeMaps Go.MapKept
/-! ### Lists of pairs -/
section
variable {K V:Type} [DecidableEq K]
def eP:List (K × V)→K→V→List (K × V)
 | [],k,v=>[(k,v)]
 | x::D,k,v=>if x.1=k then (k,v)::D else x::eP D k v
def bU:List (K × V)→K→Option V
 | [],_=>none
 | x::D,k=>if x.1=k then some x.2 else bU D k
def wR:List (K × V)→K→List (K × V)
 | [],_=>[]
 | x::D,k=>if x.1=k then D else x::wR D k
def oA:List (K × V)→K→Nat→Option (Nat × V)
 | [],_,_=>none
 | x::D,k,i=>if x.1=k then some (i,x.2) else oA D k (i+1)
theorem oG:∀(D:List (K × V)) (k:K) (i:Nat),oA D k i=none→bU D k=none∧(∀u,eP D k u=D++[(k,u)])∧wR D k=D
 | [],_,_,_=>⟨rfl,fun _=>rfl,rfl⟩
 | x::D,k,i,h=>by
  unfold oA at h;by_cases e:x.1=k
  · rw[if_pos e] at h;cases h
  · rw[if_neg e] at h
    obtain⟨h1,h2,h3⟩:=oG D k (i+1) h;exact⟨by simp[bU,e,h1],fun u=>by simp[eP,e,h2],by simp[wR,e,h3]⟩
theorem kV:∀(D:List (K × V)) (k:K) (i j:Nat) (v:V),oA D k i=some (j,v)→∃p,j=i+p∧D[p]? = some (k,v)∧bU D k=some v∧(∀u,eP D k u=D.set p (k,u))∧wR D k=D.eraseIdx p
 | [],_,_,_,_,h=>by cases h
 | x::D,k,i,j,v,h=>by
  unfold oA at h;by_cases e:x.1=k
  · rw[if_pos e] at h
    cases h;obtain⟨a,b⟩:=x;obtain rfl:a=k:=e;exact⟨0,rfl,rfl,by simp[bU],fun u=>by simp[eP],by simp[wR]⟩
  · rw[if_neg e] at h
    obtain⟨p,h1,h2,h3,h4,h5⟩:=kV D k (i+1) j v h;exact⟨p+1,by omega,by simpa using h2,by simp[bU,e,h3],fun u=>by simp[eP,e,h4],by simp[wR,e,h5]⟩
theorem kL:∀(D:List (K × V)) (k k':K) (v:V),bU (eP D k v) k'=if k=k' then some v else bU D k'
 | [],k,k',v=>by simp[eP,bU]
 | x::D,k,k',v=>by
  unfold eP;by_cases e:x.1=k
  · rw[if_pos e]
    subst e;by_cases e':x.1=k' <;> simp[bU,e']
  · rw[if_neg e]
    unfold bU;rw[kL D k k' v];by_cases e':x.1=k'
    · rw[if_pos e',if_pos e',if_neg (fun h=>e (e'.trans h.symm))]
    · rw[if_neg e',if_neg e']
theorem wS:∀{D:List (K × V)} {k:K} {v:V},bU D k=some v→(k,v)∈D
 | [],_,_,h=>by cases h
 | x::D,k,v,h=>by
  unfold bU at h;split at h
  · rename_i e;cases h;subst e;exact bp ..
  · exact bm _ (wS h)
theorem mP:∀{D:List (K × V)} {k:K},bU D k=none↔k∉D.map (·.1)
 | [],_=>by simp[bU]
 | x::D,k=>by
  unfold bU;split
  · rename_i e;simp[e]
  · rename_i e
    rw[mP (D:=D)];simp only[bn,ak,not_or];exact⟨fun h=>⟨fun h'=>e h'.symm,h⟩,fun h=>h.2⟩
theorem Gg:∀{D:List (K × V)} {k:K} {v:V},(D.map (·.1)).Nodup→(k,v)∈D→bU D k=some v
 | [],_,_,_,h=>by cases h
 | x::D,k,v,hn,h=>by
  have hn':=gm.1 hn;unfold bU;rcases ak.1 h with rfl | h
  · simp
  · rw[if_neg fun e=>hn'.1 (by show x.1∈_;rw[e];exact dj.2 ⟨_,h,rfl⟩)]
    exact Gg hn'.2 h
theorem tN:∀(D:List (K × V)) (k:K) (v:V),(eP D k v).map (·.1)=if k∈D.map (·.1) then D.map (·.1) else D.map (·.1)++[k]
 | [],k,v=>by simp[eP]
 | x::D,k,v=>by
  unfold eP;by_cases e:x.1=k
  · simp[e]
  · have e':¬k=x.1:=fun h=>e h.symm
    simp only[if_neg e,bn,tN D k v,ak,e',false_or];split <;> simp
theorem rL{D:List (K × V)}(h:(D.map (·.1)).Nodup)(k:K)(v:V):((eP D k v).map (·.1)).Nodup:=by
 rw[tN];split
 · exact h
 · rename_i hk
   exact ix.2 ⟨h,by simp,fun a ha b hb e=>by rw[ay.1 hb] at e;exact hk (e▸ha)⟩
theorem Og:∀{D:List (K × V)} (k k':K),(D.map (·.1)).Nodup→bU (wR D k) k'=if k=k' then none else bU D k'
 | [],k,k',_=>by simp[wR,bU]
 | x::D,k,k',hn=>by
  have hn':=gm.1 hn;unfold wR;by_cases e:x.1=k
  · rw[if_pos e]
    by_cases e':k=k'
    · rw[if_pos e']
      exact mP.2 (by rw[←e',←e];exact hn'.1)
    · rw[if_neg e']
      simp[bU,e,e']
  · rw[if_neg e]
    unfold bU;rw[Og k k' hn'.2];by_cases e':x.1=k'
    · rw[if_pos e',if_pos e',if_neg (fun h=>e (e'.trans h.symm))]
    · rw[if_neg e',if_neg e']
theorem Uj:∀(D:List (K × V)) (k:K),(wR D k).Sublist D
 | [],_=>List.Sublist.refl _
 | x::D,k=>by
  unfold wR;split
  · exact List.sublist_cons_self _ _
  · exact (Uj D k).cons_cons x
theorem Yf{D:List (K × V)}(h:(D.map (·.1)).Nodup)(k:K):((wR D k).map (·.1)).Nodup:=h.sublist ((Uj D k).map _)
end
/-! ### A map's entries -/
def My(e:bx):ac × ac:=(e.key,e.val)
structure bB{K V:Type}(ek:K→ac)(ev:V→ac)(D:List (K × V))(es:Array bx)(c:Nat):Prop where
 cells:es.toList.map My=D.map fun x=>(ek x.1,ev x.2)
 born:∀e∈es.toList,e.born<c
 nd:(es.toList.map (·.born)).Nodup
theorem bB.nil{K V:Type}(ek:K→ac)(ev:V→ac):bB ek ev ([]:List (K × V)) #[] 0:=⟨rfl,fun _ h=>by simp at h,by simp⟩
structure pI{K:Type}[DecidableEq K](P:bc)(T:aj)(ek:K→ac):Prop where
 chk:∀e k w,(Instr.checkKey e 10000 T (ek k)).run P w=.ok () w
 now:∃t,P.underlying T=some t∧∀a b,Instr.sameNow t (ek a) (ek b)=none∨Instr.sameNow t (ek a) (ek b)=some (decide (a=b))
 eq:∀a b w,(Op.equal T (ek a) (ek b)).run P w=.ok (decide (a=b)) w
 bits:∀a,Instr.sameBits 10000 (ek a) (ek a)=true
section
variable {K V:Type} [DecidableEq K] {P:bc} {T:aj} {ek:K→ac} {ev:V→ac}
theorem Gh(kt:pI P T ek)(k:K)(w:ah):∀(L:List bx) (D:List (K × V)) (i:Nat),L.map My=D.map (fun x=>(ek x.1,ev x.2)) →
 (Instr.findAsking T (ek k) L i).run P w=.ok ((oA D k i).map fun p=>(p.1,ev p.2)) w
 | [],D,i,h=>by
  obtain rfl:D=[]:=by simpa using h.symm
  simp[Instr.findAsking,oA]
 | e::L,[],i,h=>by simp at h
 | e::L,x::D,i,h=>by
  simp only[bn,ke,My,ff] at h;obtain⟨⟨h1,h2⟩,h3⟩:=h;have ih:=Gh kt k w L D (i+1) h3;unfold Instr.findAsking oA;rw[h1,h2];simp only[Sem.run_bind,kt.eq,Result.andThen];by_cases e':x.1=k
  · rw[if_pos (decide_eq_true e'.symm),if_pos e']
    rfl
  · rw[if_neg (by rw[decide_eq_false (Ne.symm e')];exact Bool.false_ne_true),if_neg e']
    exact ih
theorem Uk(t:TypeDesc)(k:K)(hn:∀a b:K,Instr.sameNow t (ek a) (ek b)=none∨Instr.sameNow t (ek a) (ek b)=some (decide (a=b))):∀(L:List bx) (D:List (K × V)) (i:Nat),L.map My=D.map (fun x=>(ek x.1,ev x.2)) →
 Instr.findNow t (ek k) L i=none∨Instr.findNow t (ek k) L i=some ((oA D k i).map fun p=>(p.1,ev p.2))
 | [],D,i,h=>by
  obtain rfl:D=[]:=by simpa using h.symm
  simp[Instr.findNow,oA]
 | e::L,[],i,h=>by simp at h
 | e::L,x::D,i,h=>by
  simp only[bn,ke,My,ff] at h;obtain⟨⟨h1,h2⟩,h3⟩:=h;have ih:=Uk t k hn L D (i+1) h3;unfold Instr.findNow oA;rw[h1,h2];rcases hn k x.1 with e0 | e0
  · left;rw[e0]
  · rw[e0]
    by_cases e':x.1=k
    · right;simp[e']
    · rw[show decide (k=x.1)=false from decide_eq_false (Ne.symm e')]
      simpa[e'] using ih
theorem rM(kt:pI P T ek)(k:K)(w:ah){es:Array bx}{D:List (K × V)}{c:Nat}(h:bB ek ev D es c):(Instr.findKey T (ek k) es.toList).run P w=.ok ((oA D k 0).map fun p=>(p.1,ev p.2)) w:=by
 obtain⟨t,ht,hn⟩:=kt.now;unfold Instr.findKey;simp only[Sem.run_bind,bu ht,Result.andThen];rcases Uk t k hn es.toList D 0 h.cells with e | e
 · rw[e]
   exact Gh kt k w es.toList D 0 h.cells
 · rw[e]
   rfl
end
section
variable {K V:Type} [DecidableEq K] {P:bc} {T M E ty:aj} {ek:K→ac} {ev:V→ac} {w w0:ah} {g c:Nat} {es:Array bx} {D:List (K × V)}
theorem Gi{v0:V}(hu:P.underlying M=some (.map T E))(kt:pI P T ek)(hM:gW w g es c)(hD:bB ek ev D es c)(hz:mC P E (ev v0))(k:K)(b:Bool) :
 (Instr.lookup M (.map (some g)) (ek k) b).run P w=.ok (if b then .tuple #[ev ((bU D k).getD v0),.bool (bU D k).isSome] else ev ((bU D k).getD v0)) w:=by
 unfold gW at hM;obtain⟨inf,hi,hz⟩:=hz;have hzv:(zeroValue E).run P w=.ok (ev v0) w:=by simp[zeroValue,typeInfo,program,Sem.run,hi,hz]
 simp only[Instr.lookup,Sem.run_bind,bu hu,Result.andThen,getObj,Sem.run,hM,Sem.run_pure,kt.chk,rM kt k w hD];cases hf:oA D k 0 with
 | none =>
  obtain⟨h1,_⟩:=oG D k 0 hf;rw[h1];simp only[ng,Sem.run_bind,hzv,Result.andThen,Sem.run_pure];cases b <;> rfl
 | some p =>
  obtain⟨j,v⟩:=p;obtain⟨_,_,_,h1,_⟩:=kV D k 0 j v hf;rw[h1];simp only[d_,Sem.run_pure,Result.andThen];cases b <;> rfl
theorem iP{g:Nat}{o o':Obj}(hM:w.heap[g]? = some o):(setBlock w g o').heap[g]? = some o':=by
 have:=(da.1 hM).1;simp[setBlock,this]
theorem nM{g:Nat}(o:Obj):Chg w (setBlock w g o) g:=⟨rfl,rfl,rfl,by simp[setBlock],fun k hk=>by simp[setBlock,gu (Ne.symm hk)]⟩
theorem Ju{α β:Type}(f:α→β)(L:List α)(i:Nat)(x:α)(g:α→α)(hi:L[i]? = some x):(L.modify i g).map f=(L.map f).set i (f (g x)):=by
 apply fa;intro j;simp only[dw,List.getElem?_modify,ie,List.length_map];by_cases e:i=j
 · subst e
   rw[hi];have:=(ar.1 hi).1;simp[this]
 · simp[e]
theorem bB.set(hD:bB ek ev D es c){p:Nat}{k:K}{v:V}(hp:D[p]? = some (k,v))(u:V):bB ek ev (D.set p (k,u)) (es.modify p fun e=>{ e with key:=ek k,val:=ev u }) c:=by
 have hl:es.toList.length=D.length:=by have:=congrArg List.length hD.cells;simpa using this
 have hlt:p<es.toList.length:=by rw[hl];exact (ar.1 hp).1
 have hx:es.toList[p]? = some es.toList[p]:=an hlt;have hb:(es.modify p fun e=>{ e with key:=ek k,val:=ev u }).toList.map (·.born)=es.toList.map (·.born):=by
  rw[mb,Ju _ _ _ _ _ hx];apply fa;intro j;rw[ie];split
  · rename_i e;subst e;rw[if_pos (by simpa using hlt),dw,hx];rfl
  · rfl
 refine⟨?_,fun e he=>?_,by rw[hb];exact hD.nd⟩
 · rw[mb,Ju _ _ _ _ _ hx,hD.cells,List.map_set]
   rfl
 · have:e.born∈(es.modify p fun e=>{ e with key:=ek k,val:=ev u }).toList.map (·.born):=dj.2 ⟨e,he,rfl⟩
   rw[hb] at this;obtain⟨e',he',hh⟩:=dj.1 this;rw[←hh];exact hD.born e' he'
theorem bB.push(hD:bB ek ev D es c)(k:K)(u:V):bB ek ev (D++[(k,u)]) (es.push { key:=ek k,val:=ev u,born:=c }) (c+1):=by
 refine⟨by simp[hD.cells,My],fun e he=>?_,?_⟩
 · rw[lp] at he
   rcases bg.1 he with he | he
   · exact Nat.lt_succ_of_lt (hD.born e he)
   · rw[ay.1 he];exact Nat.lt_succ_self _
 · rw[lp,cl]
   refine ix.2 ⟨hD.nd,by simp,fun a ha b hb e=>?_⟩;obtain⟨e',he',rfl⟩:=dj.1 ha;have:b=c:=by simpa using hb
   have:=hD.born e' he';omega
theorem bB.erase(hD:bB ek ev D es c)(p:Nat):bB ek ev (D.eraseIdx p) (es.eraseIdxIfInBounds p) c:=by
 have e:(es.eraseIdxIfInBounds p).toList=es.toList.eraseIdx p:=by
  by_cases h:p<es.size
  · simp[jm,h]
  · simp only[jm,h,dite_false]
    exact (List.eraseIdx_of_length_le (by simpa using ib h)).symm
 refine⟨?_,fun x hx=>hD.born x ?_,?_⟩
 · rw[e,map_eraseIdx,hD.cells,map_eraseIdx]
 · rw[e] at hx;exact List.mem_of_mem_eraseIdx hx
 · rw[e];exact hD.nd.sublist ((List.eraseIdx_sublist _ _).map _)
theorem Ul(hu:P.underlying M=some (.map T E))(kt:pI P T ek)(hM:gW w g es c)(hD:bB ek ev D es c)(k:K)(u:V) :
 ∃es' c',(Instr.mapUpdate M (.map (some g)) (ek k) (ev u)).run P w=.ok () (setBlock w g (.map es' c'))∧bB ek ev (eP D k u) es' c':=by
 unfold gW at hM;cases hf:oA D k 0 with
 | none =>
  obtain⟨_,h1,_⟩:=oG D k 0 hf;refine⟨_,_,?_,h1 u▸hD.push k u⟩;simp only[Instr.mapUpdate,Sem.run_bind,bu hu,Result.andThen,getObj,Sem.run,hM,Sem.run_pure,kt.chk,rM kt k w hD,hf,ng];exact run_setObj_map _ hM
 | some p =>
  obtain⟨j,v⟩:=p;obtain⟨p,rfl,hp,_,h1,_⟩:=kV D k 0 j v hf;rw[aq] at hf;have hl:es.toList.length=D.length:=by have:=congrArg List.length hD.cells;simpa using this
  have hlt:p<es.toList.length:=by rw[hl];exact (ar.1 hp).1
  have hk:((es[p]?).map (·.key)).getD (ek k)=ek k:=by
   have h2:=congrArg (fun L=>L[p]?) hD.cells;simp only[dw,hp,d_] at h2;rw[et] at h2;cases h3:es[p]? with
   | none=>rfl
   | some x =>
    rw[h3] at h2;simp only[d_,Option.some.injEq,My,ff] at h2;simpa using h2.1
  refine⟨_,_,?_,h1 u▸hD.set hp u⟩;simp only[Instr.mapUpdate,Sem.run_bind,bu hu,Result.andThen,getObj,Sem.run,hM,Sem.run_pure,kt.chk,rM kt k w hD,hf,d_,hk,Instr.keyThatStays,kt.bits,if_true];exact run_setObj_map _ hM
/-! ### Ranges -/
def lY(ek:K→ac)(ev:V→ac)(D:List (K × V))(es:Array bx)(seen:Array Nat)(dn rs:List (K × V)):Prop :=
 (dn++rs).Perm D∧∃dE rE:List bx,seen.toList=dE.map (·.born)∧(dE++rE).Perm es.toList∧dE.map My=dn.map (fun x=>(ek x.1,ev x.2))∧rE.map My=rs.map (fun x=>(ek x.1,ev x.2))
theorem lY.start(hD:bB ek ev D es c):lY ek ev D es #[] [] D:=⟨lq _,[],es.toList,rfl,lq _,rfl,hD.cells⟩
theorem lY.done{seen:Array Nat}{dn:List (K × V)}(h:lY ek ev D es seen dn []):dn.Perm D:=by simpa using h.1
def Nxt(ek:K→ac)(ev:V→ac)(D:List (K × V))(es:Array bx)(dn rs:List (K × V))(b:Bool)(kv vv:ac)(seen':Array Nat):Prop :=
 (b=false∧rs=[])∨(b=true∧∃k v rs',rs.Perm ((k,v)::rs')∧kv=ek k∧vv=ev v∧lY ek ev D es seen' (dn++[(k,v)]) rs')
def Aj(b:Bool)(k v:ac):ac:=.tuple (if b then #[.bool true,k,v] else #[.bool false])
theorem Oh{r s:Nat}{seen:Array Nat}{dn rs:List (K × V)}(hI:oY w r g c seen c)(hM:gW w g es c)(hD:bB ek ev D es c)(hT:lY ek ev D es seen dn rs) :
 ∃b kv vv seen' w1,(w1=w∨w1=w.drew)∧(Instr.next (.pointer (some ⟨r,0,none⟩)) false ty).run P w=.ok (Aj b kv vv) (setBlock w1 r (.mapIter (some g) c seen' c))∧Nxt ek ev D es dn rs b kv vv seen':=by
 obtain⟨hp,dE,rE,h1,h2,h3,h4⟩:=hT;have hnd:((dE++rE).map (·.born)).Nodup:=(h2.map (·.born)).nodup_iff.2 hD.nd;rw[cl,ix] at hnd;have hleft:∀e,e∈(leftOf es seen).toList↔e∈rE:=fun e=>by
  unfold leftOf;simp only[Array.toList_filter,List.mem_filter,Bool.not_eq_true',Array.contains_eq_mem,decide_eq_false_iff_not];rw[←Array.mem_toList_iff (xs:=seen),h1,←h2.mem_iff,bg];constructor
  · rintro⟨h | h,hn⟩
    · exact absurd (dj.2 ⟨e,h,rfl⟩) hn
    · exact h
  · intro h
    exact⟨.inr h,fun hm=>hnd.2.2 _ hm _ (dj.2 ⟨e,h,rfl⟩) rfl⟩
 rcases run_next_at (P:=P) w ty r g c c seen es c hI hM hD.born (ap _) with ⟨h0,hr⟩ | ⟨e,he,w1,hw1,hr⟩
 · refine⟨false,default,default,seen,w,.inl rfl,?_,.inl ⟨rfl,?_⟩⟩
   · rw[hr]
     have:setBlock w r (.mapIter (some g) c seen c)=w:=by
      unfold setBlock;have hlt:=(da.1 hI).1;have:w.heap.setIfInBounds r (.mapIter (some g) c seen c)=w.heap:=by
       apply Array.ext_getElem?;intro i;rw[Array.getElem?_setIfInBounds];split
       · rename_i e;subst e;exact hI.symm
       · rfl
      rw[this]
     rw[this];rfl
   · cases rs with
     | nil=>rfl
     | cons x rs =>
      cases rE with
      | nil=>simp at h4
      | cons e rE =>
       have:=(hleft e).2 (bp ..);rw[Array.eq_empty_of_size_eq_zero h0] at this;simp at this
 · obtain⟨s,t,rfl⟩:=List.append_of_mem ((hleft e).1 he)
   rw[cl,bn] at h4;obtain⟨rs1,rs2,rfl,e1,e2⟩:=kd.1 h4.symm;obtain⟨x,rs3,rfl,e3,e4⟩:=k_.1 e2;obtain⟨k,v⟩:=x;simp only[My,ff] at e3;refine⟨true,e.key,e.val,seen.push e.born,w1,hw1,hr,.inr ⟨rfl,k,v,rs1++rs3,List.perm_middle,e3.1.symm,e3.2.symm,?_,dE++[e],s++t,?_,?_,?_,?_⟩⟩
   · refine nh ?_ hp
     simp only[cq,b_,bv];exact ki _ List.perm_middle.symm
   · simp[h1]
   · refine nh ?_ h2
     simp only[cq,b_,bv];exact ki _ List.perm_middle.symm
   · simp[h3,My,e3]
   · simp[e1,e4]
theorem Yg{r:Nat}{seen:Array Nat}{dn rs:List (K × V)}{k:K}{v:V}(hI:oY w r g c seen c)(hM:gW w g es c)(hD:bB ek ev D es c)(hT:lY ek ev D es seen (dn++[(k,v)]) rs) :
 (Instr.entry (.pointer (some ⟨r,0,none⟩))).run P w=.ok (.tuple #[ek k,ev v]) w:=by
 obtain⟨hp,dE,rE,h1,h2,h3,h4⟩:=hT;rw[cl,bn,List.map_nil] at h3;obtain⟨d1,d2,rfl,e1,e2⟩:=kd.1 h3;obtain⟨e,d3,rfl,e3,e4⟩:=k_.1 e2;obtain rfl:d3=[]:=by simpa using e4
 simp only[My,ff] at e3;have hs:seen=(d1.map (·.born)).toArray.push e.born:=by
  apply Array.toList_inj.1;rw[h1];simp
 have hm:e∈es.toList:=h2.mem_iff.1 (by simp);rw[hs] at hI;have:=run_entry_at (P:=P) w r g c _ es c e hI hM hm hD.nd;rw[this,e3.1,e3.2]
end
/-! ### Things in memory -/
def mI(g:Nat)(es:Array bx)(c:Nat):It where
 own b:=some g=some b
 P w:=gW w g es c
 lt w b h e:=by cases e;exact h.lt
 st w w' h _ k:=(k g rfl).trans h
def iI(r g c:Nat)(seen:Array Nat):It where
 own b:=some r=some b
 P w:=oY w r g c seen c
 lt w b h e:=by cases e;exact h.lt
 st w w' h _ k:=(k r rfl).trans h
theorem Mem.p{w0 w:ah}{is:List It}(m:Mem w0 w is)(k:Nat){g c:Nat}{es:Array bx}(hk:is[k]? = some (mI g es c)):gW w g es c:=m.get k hk
theorem Mem.r{w0 w:ah}{is:List It}(m:Mem w0 w is)(k:Nat){r g c:Nat}{seen:Array Nat}(hk:is[k]? = some (iI r g c seen)):oY w r g c seen c:=m.get k hk
section
variable {K V:Type} [DecidableEq K] {P:bc} {T M E ty:aj} {ek:K→ac} {ev:V→ac} {w w0:ah} {g c:Nat} {es:Array bx} {D:List (K × V)} {is:List It}
variable {ds:List cg} {l:List ac} {x y z:a_} {ops:Array Oper} {Q:Exit→Act→ah→Prop} {rest:List Oper} {d:Nat} {pos:String} {after:Array Edge}
theorem kH(m:Mem w0 w is)(h:∀g u,Mem w0 u (mI g #[] 0::is)→ao P ops Q rest (Fr (l.set d (.map (some g))) ds) u):ao P ops Q (bi (some d) (.makeMap M none) ty pos after none::rest) (Fr l ds) w :=
 abY fun u g e hg hM=>h g u (m.new (i:=mI g #[] 0) e hM fun b h=>by cases h;exact hg)
theorem sU(m:Mem w0 w is)(hu:P.underlying M=some (.map T E))(hx:Go.Lith.ev l x=.map (some g))(hM:gW w g es c)(h:∀r u,Mem w0 u (iI r g c #[]::is)→ao P ops Q rest (Fr (l.set d (.pointer (some ⟨r,0,none⟩))) ds) u) :
 ao P ops Q (bi (some d) (.range M x) ty pos after none::rest) (Fr l ds) w :=
 aaL hu hx hM fun u r e hr hI=>h r u (m.new (i:=iI r g c #[]) e hI fun b h=>by cases h;exact hr)
end
section
variable {K V:Type} [DecidableEq K] {P:bc} {T M E ty:aj} {ek:K→ac} {en:V→ac} {w w0:ah} {g c:Nat} {es:Array bx} {D:List (K × V)} {is:List It}
variable {ds:List cg} {l:List ac} {x y z:a_} {ops:Array Oper} {Q:Exit→Act→ah→Prop} {rest:List Oper} {d:Nat} {pos:String} {after:Array Edge}
theorem dK{v0:V}{k:K}(hu:P.underlying M=some (.map T E))(hz:mC P E (en v0))(kt:pI P T ek)(hx:ev l x=.map (some g))(hy:ev l y=ek k)(hM:gW w g es c)(hD:bB ek en D es c):vL P l (.lookup M x y false) ty (en ((bU D k).getD v0)) w:=fun o ho _=>by
 have:=Gi hu kt hM hD hz k false;simp only[Bool.false_eq_true,if_false] at this;simp[ck,ho,bS,hx,hy,this]
theorem Oi{v0:V}{k:K}(hu:P.underlying M=some (.map T E))(hz:mC P E (en v0))(kt:pI P T ek)(hx:ev l x=.map (some g))(hy:ev l y=ek k)(hM:gW w g es c)(hD:bB ek en D es c):vL P l (.lookup M x y true) ty (.tuple #[en ((bU D k).getD v0),.bool (bU D k).isSome]) w:=fun o ho _=>by
 have:=Gi hu kt hM hD hz k true;simp only[if_true] at this;simp[ck,ho,bS,hx,hy,this]
theorem lE{v:V}{a:K}(m:Mem w0 w is)(k:Nat)(hk:is[k]? = some (mI g es c))(hu:P.underlying M=some (.map T E))(kt:pI P T ek)(hx:ev l x=.map (some g))(hy:ev l y=ek a)(hz:ev l z=en v)(hD:bB ek en D es c)
 (h:∀es' c' u,Mem w0 u (is.set k (mI g es' c'))→bB ek en (eP D a v) es' c'→ao P ops Q rest (Fr l ds) u):ao P ops Q (bi none (.mapUpdate M x y z) ty pos after none::rest) (Fr l ds) w:=by
 have hM:=m.p k hk;obtain⟨es',c',hr,hD'⟩:=Ul hu kt hM hD a v;have hC:=nM (w:=w) (g:=g) (.map es' c');refine Cd (w':=setBlock w g (.map es' c')) (fun o ho=>by simp[ck,ho,bS,hx,hy,hz,hr]) (h es' c' _ ?_ hD');exact m.put k hk hC.os hC.tape hC.output (by rw[hC.size];exact ap _) (fun b _ hne=>hC.block b fun e=>hne (by rw[e];rfl)) (iP hM) (.inl fun _ h=>h)
theorem Gj{r:Nat}{seen:Array Nat}{dn rs:List (K × V)}(m:Mem w0 w is)(k:Nat)(hk:is[k]? = some (iI r g c seen))(hx:ev l x=.pointer (some ⟨r,0,none⟩))(hM:gW w g es c)(hD:bB ek en D es c)(hT:lY ek en D es seen dn rs)
 (h:∀b kv vv seen' u,Mem w0 u (is.set k (iI r g c seen'))→Nxt ek en D es dn rs b kv vv seen'→ao P ops Q rest (Fr (l.set d (Aj b kv vv)) ds) u) :
 ao P ops Q (bi (some d) (.next x false) ty pos after none::rest) (Fr l ds) w:=by
 have hI:=m.r k hk;obtain⟨b,kv,vv,seen',w1,hw1,hr,hN⟩:=Oh (P:=P) (ty:=ty) (s:=0) hI hM hD hT;refine kN (w':=setBlock w1 r (.mapIter (some g) c seen' c)) (v:=Aj b kv vv) (fun o ho hty=>by simp[ck,ho,bS,hx,hty,hr]) (h b kv vv seen' _ ?_ hN);have e1:w1.heap=w.heap∧w1.os=w.os∧w1.tape=w.tape∧w1.output=w.output:=by rcases hw1 with rfl | rfl <;> exact⟨rfl,rfl,rfl,rfl⟩
 refine m.put k hk e1.2.1 e1.2.2.1 e1.2.2.2 (by simp[setBlock,e1.1]) (fun b' _ hne=>?_) ?_ (.inl fun _ h=>h)
 · have:b'≠r:=fun e=>hne (by rw[e];rfl)
   simp only[setBlock,e1.1];exact gu (Ne.symm this)
 · exact iP (w:=w1) (o:=.mapIter (some g) c seen c) (by rw[e1.1];exact hI)
theorem nN{b:Bool}{kv vv:ac}(hx:ev l x=Aj b kv vv):gI P l (.extract x 0) ty (.bool b):=fun w o ho _=>by
 cases b <;> simp[ck,ho,bS,hx,Aj,Instr.extract]
theorem qJ{r:Nat}{seen:Array Nat}{dn rs:List (K × V)}{k:K}{v:V}(hx:ev l x=.pointer (some ⟨r,0,none⟩))(hI:oY w r g c seen c)(hM:gW w g es c)(hD:bB ek en D es c)(hT:lY ek en D es seen (dn++[(k,v)]) rs) :
 vL P l (.entry x) ty (.tuple #[ek k,en v]) w:=fun o ho _=>by
 have:=Yg (P:=P) hI hM hD hT;simp[ck,ho,bS,hx,this]
theorem kP{f:FuncId}{fo:a_}{xs:Array a_}{args:List ac}{first cap:Array ac}{a0:Array aj}{R:ac→It→Prop}(m:Mem w0 w is)(k:Nat)(hE:Entr P f)(hf:ev l fo=.func (.func f) first cap)(hxs:first.toList++xs.toList.map (ev l)++cap.toList=args)
 (hc:Mem w0 w is→Calls P f args.toArray w fun e w'=>∃v i,e=.returned v∧Mem w0 w' (is.set k i)∧R v i) (h:∀v i u,Mem w0 u (is.set k i)→R v i→ao P ops Q rest (Fr (l.set d v) ds) u) :
 ao P ops Q (bi (some d) (.call { callee:=.value fo,args:=xs,argTypes:=a0 }) ty pos after none::rest) (Fr l ds) w:=by
 refine wpList_plain rfl fun K hK=>?_;unfold Oper.wp;rw[iY,nA hE hf hxs _ rfl];refine (hc m).mono ?_;rintro e w' ⟨v,i,rfl,hM,hR⟩;show K ((Fr l ds).put (some d) v) w'
 rw[gE];exact hK _ _ (h v i w' hM hR)
end
theorem dQ{P:bc}{Q:Exit→Act→ah→Prop}{l:List ac}{ds:List cg}{c1 c2:Code}{w:ah}{x:a_}{b:Bool}(hx:ev l x=.bool b)(ht:b=true→c1.wp P Q (Fr l ds) w)(hf:b=false→c2.wp P Q (Fr l ds) w):(Code.cond x c1 c2).wp P Q (Fr l ds) w:=gR hx ht hf
theorem Jv{α:Type}{is:List α}{k:Nat}{i:α}(h:is[k]? = some i):is.set k i=is:=by
 apply fa;intro j;rw[ie];split
 · rename_i e;subst e
   have:=(ar.1 h).1;rw[if_pos this,h]
 · rfl
theorem Er{K V:Type}[DecidableEq K]:∀{D:List (K × V)} {k:K} {v:V},bU D k=some v→eP D k v=D
 | [],_,_,h=>by cases h
 | x::D,k,v,h=>by
  unfold bU at h;unfold eP;split at h
  · rename_i e;cases h;subst e;rw[if_pos rfl]
  · rename_i e;rw[if_neg e,Er h]
/-! ### Keys -/
def tA(P:bc)(e:Bool)(d:Nat)(T:aj)(x:ac):Prop:=∀w,(Instr.checkKey e d T x).run P w=.ok () w
section
variable {P:bc} {e:Bool} {d:Nat} {T E:aj}
theorem pJ{β:Type}{w:ah}(g:β→PUnit→Sem (ForInStep PUnit)):∀(L:List β),(∀x∈L,(g x ⟨⟩).run P w=.ok (.yield ⟨⟩) w)→(forIn L PUnit.unit g:Sem PUnit).run P w=.ok ⟨⟩ w
 | [],_=>by simp
 | x::L,h=>by
  simp only[List.forIn_cons,Sem.run_bind,h x (bp ..),Result.andThen_ok];exact pJ g L fun y hy=>h y (bm _ hy)
theorem tA.int{k k':IntKind}{n:Int}(hu:P.underlying T=some (.int k')):tA P e (d+1) T (.int k n):=fun w=>by
 unfold Instr.checkKey;simp[bu hu]
theorem tA.struct{fs:Array Field}{cs:Array ac}(hu:P.underlying T=some (.struct fs))(h:∀f∈fs.toList,∃v,(∀w,(part f.type cs f.offset).run P w=.ok v w)∧tA P e d f.type v):tA P e (d+1) T (.agg cs):=fun w=>by
 unfold Instr.checkKey;simp only[Sem.run_bind,bu hu,Result.andThen_ok];rw[←Array.forIn_toList];refine (congrArg (fun r=>Result.andThen r _) (pJ _ fs.toList fun f hf=>?_)).trans (by rfl);obtain⟨v,h1,h2⟩:=h f hf;by_cases hn:f.name = "_"
 · simp[hn]
 · simp[hn,h1 w,h2 w]
theorem tA.array{n c:Nat}{cs:Array ac}(hu:P.underlying T=some (.array n E))(hc:cS P E c)(h:∀i,i<n→∃v,(∀w,(part E cs (i*c)).run P w=.ok v w)∧tA P e d E v):tA P e (d+1) T (.agg cs):=fun w=>by
 unfold Instr.checkKey;simp only[Sem.run_bind,bu hu,Result.andThen_ok];simp only[Std.Legacy.Range.forIn_eq_forIn_range',Std.Legacy.Range.size,Nat.sub_zero,Nat.add_one_sub_one,Nat.div_one];refine (congrArg (fun r=>Result.andThen r _) (pJ _ (List.range' 0 n) fun i hi=>?_)).trans (by rfl);obtain⟨v,h1,h2⟩:=h i (by simpa using hi);simp[dH hc,h1 w,h2 w]
theorem pI.agg{K:Type}[DecidableEq K]{ek:K→ac}{cs:K→Array ac}(ha:∀k,ek k=.agg (cs k)){t:TypeDesc}(ht:P.underlying T=some t)(hc:∀e k,tA P e 10000 T (ek k))(he:∀a b,qB P 10000 T (ek a) (ek b) (a=b))(hb:∀a,Instr.sameBits 10000 (ek a) (ek a)=true):pI P T ek where
 chk e k w:=hc e k w
 now:=⟨t,ht,fun a b=>.inl (by rw[ha,ha];cases t <;> rfl)⟩
 eq a b w:=uE (he a b) w
 bits:=hb
end
end Go.Lith
namespace Go.Lith
open Go.RowKit
theorem Mem.gb{w0 w:ah}{is:List It}(m:Mem w0 w is)(k:Nat){g:Nat}{cs:List ac}{t:aj}(hk:is[k]? = some (bI g cs t)):w0.heap.size≤g:=m.ge _ (ba hk) g rfl
theorem cJ{P:bc}{l:List ac}{x:a_}{ty:aj}{a:Addr}(hx:ev l x=.pointer (some a)):gI P l (.nilCheck x) ty (.pointer (some a)):=fun w o ho _=>by
 simp[ck,ho,bS,hx]
inductive Ko where
 | c (c:Code)
 | b (id:Nat)
 | o (ops:Array Oper) (rest:List Oper)
 | k (K:Act→ah→Prop)
 | r (c:Code) (n:Nat)
def Ct(P:bc)(R:Exit→Act→ah→Prop):List Ko→Exit→Act→ah→Prop
 | []=>R
 | .c c::s=>Exit.then (c.wp P (Ct P R s)) (Ct P R s)
 | .b id::s=>cj id (Ct P R s)
 | .o ops rest::s=>Exit.then (ao P ops (Ct P R s) rest) (Ct P R s)
 | .k K::s=>Exit.then K (Ct P R s)
 | .r c n::s=>Exit.then (Code.rounds P c (Ct P R s) n) (Ct P R s)
def Gt(P:bc)(R:Exit→Act→ah→Prop)(s:List Ko)(a:Act)(w:ah):Prop:=Ct P R s .normal a w
theorem adY{P:bc}{R:Exit→Act→ah→Prop}{a:Act}{w:ah}(h:R .ret a w):∀s,Ct P R s .ret a w
 | []=>h
 | .c _::s | .b _::s | .o _ _::s | .k _::s | .r _ _::s=>adY h s
/-! ### Values taken apart -/
def oO(v:ac)(f:IntKind→Int→Prop):Prop:=match v with | .int k m=>f k m | _=>False
def vvB(v:ac)(f:Bool→Prop):Prop:=match v with | .bool b=>f b | _=>False
def Yh(v:ac)(f:Addr→Prop):Prop:=match v with | .pointer (some a)=>f a | _=>False
def vvS(v:ac)(f:Option Addr→Nat→Nat→Prop):Prop:=match v with | .slice a n c=>f a n c | _=>False
def Yi(v:ac)(f:List ac→Prop):Prop:=match v with | .agg cs=>f cs.toList | _=>False
def vvT(v:ac)(f:List ac→Prop):Prop:=match v with | .tuple cs=>f cs.toList | _=>False
def vR{α:Type}(o:Option α)(f:α→Prop):Prop:=match o with | some x=>f x | none=>False
def Xa(b:Bool)(p q:Prop):Prop:=match b with | true=>p | false=>q
def vnX(n:Nat)(p:Prop):Prop:=match n with | 0=>False | _+1=>p
def vnE:Nat→Nat→Prop→Prop→Prop
 | 0,0,p,_=>p
 | n+1,m+1,p,q=>vnE n m p q
 | _,_,_,q=>q
def Es:List ac→Nat→(ac→Prop)→Prop
 | x::_,0,f=>f x
 | _::l,n+1,f=>Es l n f
 | [],_,_=>False
def Bb:List ac→Nat→Prop
 | [],0=>True
 | _::l,n+1=>Bb l n
 | _,_=>False
theorem yG:∀{l:List ac} {n:Nat},Bb l n→l.length=n
 | [],0,_=>rfl
 | _::l,n+1,h=>by rw[au,yG (l:=l) h]
theorem Ht:∀{l:List ac} {n:Nat} {f:ac→Prop},Es l n f→∃v,l[n]? = some v∧f v
 | x::_,0,_,h=>⟨x,rfl,h⟩
 | _::l,n+1,_,h=>by rw[gt];exact Ht (l:=l) h
def Qz:List ac→Prop
 | []=>True
 | v::l=>v.oneCell'=true∧Qz l
theorem aaM:∀{l:List ac},Qz l→(l.all (·.oneCell'))=true
 | [],_=>rfl
 | v::l,h=>by rw[List.all_cons,h.1,aaM (l:=l) h.2];rfl
def Um(k:IntKind)(n:Int):Prop:=match k with
 | .i64=>-9223372036854775808≤n∧n<9223372036854775808
 | .i32=>-2147483648≤n∧n<2147483648
 | .u64=>0≤n∧n<18446744073709551616
 | .u32=>0≤n∧n<4294967296
 | .u8=>0≤n∧n<256
 | _=>False
theorem Um.wrap{k:IntKind}{n:Int}(h:Um k n):k.wrap n=n:=by
 cases k <;> first | exact h.elim | exact bF h.1 h.2 | exact ac9 h.1 h.2 | exact vX h.1 h.2 | exact ac8 h.1 h.2 | exact agx h.1 h.2
/-! ### Types -/
def qK(P:bc)(T:aj):Option (Bool × Nat):=match P.underlying T,P.info? T with
 | some d,some i=>some (xV d,i.size)
 | _,_=>none
theorem uM{P:bc}{T:aj}{b:Bool}{n:Nat}(h:qK P T=some (b,n)):dV P T b∧cS P T n:=by
 unfold qK at h;split at h
 · rename_i d i h1 h2
   cases h;exact⟨⟨d,h1,rfl⟩,⟨i,h2,rfl⟩⟩
 · cases h
def lQ(P:bc)(T:aj)(i:Nat):Option (Nat × Bool × Nat):=match P.underlying T with
 | some (.struct fs)=>match fs[i]? with
  | some f=>(qK P f.type).map fun x=>(f.offset,x)
  | none=>none
 | _=>none
theorem aaN{P:bc}{T:aj}{i o n:Nat}{b:Bool}(h:lQ P T i=some (o,b,n)):∃fs f,P.underlying T=some (.struct fs)∧fs[i]? = some f∧f.offset=o∧dV P f.type b∧cS P f.type n:=by
 unfold lQ at h;split at h
 · rename_i fs hu
   split at h
   · rename_i f hf
     cases hs:qK P f.type with
     | none=>rw[hs] at h;cases h
     | some x =>
      obtain⟨b',n'⟩:=x;rw[hs] at h;cases h;exact⟨fs,f,hu,hf,rfl,(uM hs).1,(uM hs).2⟩
   · cases h
 · cases h
def ixP(P:bc)(T:aj):Option (Option Nat × Nat):=match P.underlying T with
 | some (.array n E)=>(qK P E).map fun x=>(some n,x.2)
 | some (.slice E)=>(qK P E).map fun x=>(none,x.2)
 | _=>none
def Cv(P:bc)(T:aj):Option aj:=match P.underlying T with
 | some (.slice E)=>some E
 | _=>none
theorem aha{P:bc}{T E:aj}(h:Cv P T=some E):P.underlying T=some (.slice E):=by
 unfold Cv at h;split at h
 · rename_i E' hu;cases h;exact hu
 · cases h
def ikP(P:bc)(T:aj):Option IntKind:=match P.underlying T with
 | some (.int k)=>some k
 | _=>none
theorem adZ{P:bc}{T:aj}{k:IntKind}(h:ikP P T=some k):P.underlying T=some (.int k):=by
 unfold ikP at h;split at h
 · rename_i k' hu;cases h;exact hu
 · cases h
def Et(P:bc)(T:aj):Option (List ac):=((P.info? T).bind (·.zero)).map (·.cells.toList)
theorem Ra{P:bc}{T:aj}{cs:List ac}(h:Et P T=some cs):∃z,mC P T z∧z.cells=cs.toArray:=by
 unfold Et at h;cases hz:(P.info? T).bind (·.zero) with
 | none=>rw[hz] at h;cases h
 | some z=>rw[hz] at h;cases h;exact⟨z,jO hz,by simp⟩
def vP(P:bc)(T:aj):Option (List (Nat × Nat) × List ac):=match P.underlying T,Et P T with
 | some (.struct fs),some z=>(fs.toList.mapM fun (f:Field)=>(qK P f.type).map fun x=>(f.offset,x.2)).map fun l=>(l,z)
 | some (.array n E),some z=>(qK P E).map fun x=>((ip n).map fun i=>(i*x.2,x.2),z)
 | _,_=>none
def Rb:List (Nat × Nat)→Nat→(Nat × Nat→Prop)→Prop
 | x::_,0,f=>f x
 | _::l,n+1,f=>Rb l n f
 | [],_,_=>False
def blV(l:List ac)(pl:List (Nat × Nat)):List (Nat × a_)→List ac→Prop→(Prop→List ac→Prop)→Prop
 | [],cs,q,f=>f q cs
 | (i,x)::ps,cs,q,f=>Rb pl i fun z=>vnX z.2 (blV l pl ps (over cs z.1 (ev l x).cells.toList) (Bb (ev l x).cells.toList z.2∧Bb ((cs.drop z.1).take z.2) z.2∧q) f)
/-! ### Operations -/
def vvX(n:Option Nat)(v:ac)(f:Addr→Nat→Prop):Prop:=match n with
 | some n=>Yh v fun a=>f a n
 | none=>vvS v fun A n _=>vR A fun a=>f a n
abbrev KV:Type:=Prop→ac→List Nat→List It→Prop
def cV(sc:List Nat)(p:Prop)[Decidable p](K:KV)(is:List It):Prop:=match sc with
 | 0::sc=>K True (.bool (decide p)) sc is
 | 1::sc=>K p (.bool true) sc is
 | 2::sc=>K (¬p) (.bool false) sc is
 | _=>False
def biV(b:BinOp)(x y:ac)(sc:List Nat)(is:List It)(K:KV):Prop:=match b with
 | .add=>oO x fun k m=>oO y fun k' n=>K (k'=k∧Um k (m+n)) (.int k (m+n)) sc is
 | .sub=>oO x fun k m=>oO y fun k' n=>K (k'=k∧Um k (m-n)) (.int k (m-n)) sc is
 | .mul=>oO x fun k m=>oO y fun k' n=>K (k'=k∧Um k (m*n)) (.int k (m*n)) sc is
 | .lss=>oO x fun k m=>oO y fun k' n=>cV sc (m<n) (fun p=>K (k'=k∧p)) is
 | .leq=>oO x fun k m=>oO y fun k' n=>cV sc (m≤n) (fun p=>K (k'=k∧p)) is
 | .gtr=>oO x fun k m=>oO y fun k' n=>cV sc (n<m) (fun p=>K (k'=k∧p)) is
 | .geq=>oO x fun k m=>oO y fun k' n=>cV sc (n≤m) (fun p=>K (k'=k∧p)) is
 | .eql=>oO x fun k m=>oO y fun k' n=>cV sc (m=n) (fun p=>K (k'=k∧p)) is
 | .neq=>oO x fun k m=>oO y fun k' n=>cV sc (m≠n) (fun p=>K (k'=k∧p)) is
 | _=>False
abbrev Ob:Type:=Nat × List ac × aj
def atO:List Ob→Nat→(Ob→Prop)→Prop
 | x::_,0,f=>f x
 | _::l,n+1,f=>atO l n f
 | [],_,_=>False
def atB:List It→List Ob→Nat→(Ob→Prop)→Prop
 | i::_,_,0,f=>vR i.bk f
 | _::is,os,n+1,f=>atB is os n f
 | [],os,n,f=>atO os n f
def atM:List It→Nat→(Ob→Prop)→Prop
 | i::_,0,f=>vR i.bk f
 | _::is,n+1,f=>atM is n f
 | [],_,_=>False
theorem ad2:∀{os:List Ob} {k:Nat} {f:Ob→Prop},atO os k f→∃x∈os,f x
 | x::_,0,_,h=>⟨x,bp ..,h⟩
 | _::os,k+1,_,h=>let ⟨x,hx,hf⟩:=ad2 (os:=os) h;⟨x,bm _ hx,hf⟩
theorem mG{α:Type}{o:Option α}{f:α→Prop}(h:vR o f):∃x,o=some x∧f x:=by
 cases o with
 | none=>exact h.elim
 | some x=>exact⟨x,rfl,h⟩
theorem Yj:∀{is:List It} {k:Nat} {f:Ob→Prop},atM is k f→∃i x,is[k]? = some i∧i.bk=some x∧f x
 | i::_,0,_,h=>let ⟨x,hx,hf⟩:=mG h;⟨i,x,rfl,hx,hf⟩
 | _::is,k+1,_,h=>by rw[gt];exact Yj (is:=is) h
theorem ad3:∀{is:List It} {os:List Ob} {k:Nat} {f:Ob→Prop},atB is os k f→(∃i∈is,∃x,i.bk=some x∧f x)∨∃x∈os,f x
 | i::_,_,0,_,h=>let ⟨x,hx,hf⟩:=mG h;.inl ⟨i,bp ..,x,hx,hf⟩
 | _::is,os,k+1,_,h=>(ad3 (is:=is) (os:=os) h).imp (fun⟨i,hi,r⟩=>⟨i,bm _ hi,r⟩) id
 | [],_,_,_,h=>.inr (ad2 h)
def caV(P:bc)(l:List ac)(is:List It)(b:Builtin)(xs:List a_)(ts:List aj)(sc:List Nat)(K:KV):Prop:=match b,xs,ts with
 | .len,[x],[T]=>vR (Cv P T) fun _=>vvS (ev l x) fun _ n _=>K True (.int .i64 n) sc is
 | .min,[x,y],_=>oO (ev l x) fun k m=>oO (ev l y) fun k' n=>K (k'=k) (.int k (if n<m then n else m)) sc is
 | .max,[x,y],_=>oO (ev l x) fun k m=>oO (ev l y) fun k' n=>K (k'=k) (.int k (if m<n then n else m)) sc is
 | _,_,_=>False
def Ak(P:bc)(l:List ac)(is:List It)(os:List Ob)(pr:Bool)(op:Op)(sc:List Nat)(K:KV):Prop:=match op with
 | .move x=>K True (ev l x) sc is
 | .assign x=>K True (ev l x) sc is
 | .nilCheck x=>Yh (ev l x) fun a=>K True (.pointer (some a)) sc is
 | .pick c x y=>vvB (ev l c) fun b=>Xa b (K True (ev l x) sc is) (K True (ev l y) sc is)
 | .binOp b _ x y _=>biV b (ev l x) (ev l y) sc is K
 | .unOp .not _ x=>vvB (ev l x) fun b=>K True (.bool (!b)) sc is
 | .unOp .neg _ x=>oO (ev l x) fun k m=>K (Um k (0-m)) (.int k (0-m)) sc is
 | .convert T T' x=>vR (ikP P T) fun _=>vR (ikP P T') fun k=>oO (ev l x) fun _ m=>K (Um k m) (.int k m) sc is
 | .fieldAddr T x i=>vR (lQ P T i) fun f=>Yh (ev l x) fun a=>vnX f.2.2 (K True (.pointer (some (a.add f.1))) sc is)
 | .indexAddr T x y=>vR (ixP P T) fun z=>vvX z.1 (ev l x) fun a n=>oO (ev l y) fun _ m=>K (0≤m∧m<n) (.pointer (some (a.add (m.toNat*z.2)))) sc is
 | .field T x i=>vR (lQ P T i) fun f=>Yi (ev l x) fun cs=>Xa f.2.1 (K True (.agg ((cs.drop f.1).take f.2.2).toArray) sc is) (Es cs f.1 fun v=>K True v sc is)
 | .build T parts=>vR (vP P T) fun z=>blV l z.1 parts.toList z.2 True fun q cs=>K q (.agg cs.toArray) sc is
 | .extract x i=>vvT (ev l x) fun cs=>Es cs i fun v=>K True v sc is
 | .load T x=>match sc with
  | k::sc=>vR (qK P T) fun z=>Yh (ev l x) fun a=>atB is os k fun g=>Xa z.1 (K (a=⟨g.1,a.off,none⟩∧Bb ((g.2.1.drop a.off).take z.2) z.2) (.agg ((g.2.1.drop a.off).take z.2).toArray) sc is) (Es g.2.1 a.off fun v=>K (a=⟨g.1,a.off,none⟩) v sc is)
  | []=>False
 | .box T x=>Xa pr False (∀g,K True (.pointer (some ⟨g,0,none⟩)) sc (bI g (ev l x).cells.toList T::is))
 | .alloc T=>Xa pr False (vR (Et P T) fun z=>∀g,K True (.pointer (some ⟨g,0,none⟩)) sc (bI g z T::is))
 | .call c=>match c.callee with
  | .builtin b=>caV P l is b c.args.toList c.argTypes.toList sc K
  | _=>False
 | _=>False
def stV(P:bc)(l:List ac)(is:List It)(pr:Bool)(op:Op)(sc:List Nat)(K:KV):Prop:=match op,sc with
 | .store T x y,k::sc=>Xa pr False (vR (qK P T) fun z=>vnX z.2 (Yh (ev l x) fun a=>atM is k fun g=>K (a=⟨g.1,a.off,none⟩∧Bb ((g.2.1.drop a.off).take z.2) z.2∧Bb (ev l y).cells.toList z.2∧Qz (ev l y).cells.toList) undef sc (is.set k (bI g.1 (over g.2.1 a.off (ev l y).cells.toList) g.2.2))))
 | _,_=>False
def vyv(ops:List Oper)(l:List ac)(j:Nat):ac:=match ops[j]? with
 | some o=>match o.dst with
  | some d=>l.getD d undef
  | none=>undef
 | none=>undef
def vvG(v:ac)(b:Bool)(p q:Prop):Prop:=match v with
 | .bool c=>if c=b then p else q
 | .tuple _=>q
 | _=>False
def Jw(ops:Array Oper)(l:List ac)(g:Option (Nat × Bool))(p q:Prop):Prop:=match g with
 | none=>p
 | some (j,b)=>vvG (vyv ops.toList l j) b p q
def Mg(id:Nat):List Ko→(List Ko→Prop)→Prop
 | .b j::s,f=>vnE id j (f s) (Mg id s f)
 | .c _::s,f=>Mg id s f
 | .o _ _::s,f=>Mg id s f
 | .k _::s,f=>Mg id s f
 | .r _ _::s,f=>Mg id s f
 | [],_=>False
abbrev Kw:Type:=Option (Bool × ah)
def kr:Bool→ah→ah→Prop
 | true,v,w=>v=w
 | false,v,w=>eW v w
def kpt(k:Kw)(w:ah):Prop:=∀b v,k=some (b,v)→kr b v w
def kpb:Kw→Bool
 | some (b,_)=>b
 | none=>false
def V(P:bc)(R:Exit→Act→ah→Prop)(w0:ah)(ds:List cg)(kw:Kw):Nat→List Nat→Prop→List Ko→List ac→List It→Prop
 | 0,_,q,s,l,is=>q∧∀w,Mem w0 w is→kpt kw w→Gt P R s (Fr l ds) w
 | n+1,sc,q,.b _::s,l,is=>V P R w0 ds kw n sc q s l is
 | n+1,sc,q,.o _ []::s,l,is=>V P R w0 ds kw n sc q s l is
 | n+1,sc,q,.o ops (o::rest)::s,l,is=>match o.dst with
  | some d=>Jw ops l o.guard (Ak P l is [] (kpb kw) o.op sc fun vc v sc is=>V P R w0 ds kw n sc (vc∧q) (.o ops rest::s) (l.set d v) is) (V P R w0 ds kw n sc q (.o ops rest::s) (l.set d undef) is)
  | none=>Jw ops l o.guard (stV P l is kw.isSome o.op sc fun vc _ sc is=>V P R w0 ds kw n sc (vc∧q) (.o ops rest::s) l is) (V P R w0 ds kw n sc q (.o ops rest::s) l is)
 | n+1,sc,q,.c c::s,l,is=>match c with
  | .seq a b=>V P R w0 ds kw n sc q (.c a :: .c b::s) l is
  | .skip=>V P R w0 ds kw n sc q s l is
  | .block id c=>V P R w0 ds kw n sc q (.c c :: .b id::s) l is
  | .exit id=>Mg id s fun s=>V P R w0 ds kw n sc q s l is
  | .ret=>q∧∀w,Mem w0 w is→kpt kw w→R .ret (Fr l ds) w
  | .cond x a b=>vvB (ev l x) fun t=>Xa t (V P R w0 ds kw n sc q (.c a::s) l is) (V P R w0 ds kw n sc q (.c b::s) l is)
  | .region _ ops d=>Xa d False (V P R w0 ds kw n sc q (.o ops ops.toList::s) l is)
  | .loop c=>match sc with
   | k::sc=>V P R w0 ds kw n sc q (.r c k::s) l is
   | []=>False
  | _=>False
 | n+1,sc,q,.r c (k+1)::s,l,is=>V P R w0 ds kw n sc q (.c c :: .r c k::s) l is
 | _,_,_,_,_,_=>False
theorem pK{v:ac}{f:IntKind→Int→Prop}(h:oO v f):∃k m,v=.int k m∧f k m:=by
 cases v <;> first | exact h.elim | exact⟨_,_,rfl,h⟩
theorem Yk{v:ac}{f:Bool→Prop}(h:vvB v f):∃b,v=.bool b∧f b:=by
 cases v <;> first | exact h.elim | exact⟨_,rfl,h⟩
theorem Eu{v:ac}{f:Addr→Prop}(h:Yh v f):∃a,v=.pointer (some a)∧f a:=by
 cases v with
 | pointer a=>cases a with
  | none=>exact h.elim
  | some a=>exact⟨_,rfl,h⟩
 | _=>exact h.elim
theorem ad5{v:ac}{f:Option Addr→Nat→Nat→Prop}(h:vvS v f):∃a n c,v=.slice a n c∧f a n c:=by
 cases v <;> first | exact h.elim | exact⟨_,_,_,rfl,h⟩
theorem akY{v:ac}{f:List ac→Prop}(h:Yi v f):∃cs,v=.agg cs∧f cs.toList:=by
 cases v <;> first | exact h.elim | exact⟨_,rfl,h⟩
theorem akZ{v:ac}{f:List ac→Prop}(h:vvT v f):∃cs,v=.tuple cs∧f cs.toList:=by
 cases v <;> first | exact h.elim | exact⟨_,rfl,h⟩
theorem Rc{n:Nat}{p:Prop}(h:vnX n p):∃m,n=m+1∧p:=by
 cases n with
 | zero=>exact h.elim
 | succ m=>exact⟨m,rfl,h⟩
theorem ad6:∀{n m:Nat} {p q:Prop},vnE n m p q→(n=m∧p)∨(n≠m∧q)
 | 0,0,_,_,h=>.inl ⟨rfl,h⟩
 | n+1,m+1,_,_,h=>(ad6 (n:=n) (m:=m) h).imp (fun⟨e,h⟩=>⟨by rw[e],h⟩) fun⟨e,h⟩=>⟨fun c=>e (Nat.succ.inj c),h⟩
 | 0,_+1,_,_,h=>.inr ⟨fun c=>(by cases c),h⟩
 | _+1,0,_,_,h=>.inr ⟨fun c=>(by cases c),h⟩
section
variable {P:bc} {l:List ac} {is:List It} {os:List Ob} {w0:ah} {ds:List cg}
def Yd(P:bc)(l:List ac)(is:List It)(w0:ah)(op:Op)(v:ac):Prop:=∀w,Mem w0 w is→∀ty,vL P l op ty v w
theorem mQ{op:Op}{v:ac}(h:∀ty,gI P l op ty v):Yd P l is w0 op v:=fun w _ ty=>h ty w
theorem anW{sc:List Nat}{p:Prop}[Decidable p]{K:KV}{is':List It}{q:Prop}(h:cV sc p (fun p=>K (q∧p)) is'):∃vc v sc',K (q∧vc) v sc' is'∧(vc→∀{X:ac→Prop},(X (.bool (decide p)))→X v):=by
 unfold cV at h;split at h
 · exact⟨_,_,_,h,fun _ _ hX=>hX⟩
 · exact⟨_,_,_,h,fun hp X hX=>by rwa [decide_eq_true hp] at hX⟩
 · exact⟨_,_,_,h,fun hp X hX=>by rwa [decide_eq_false hp] at hX⟩
 · exact h.elim
theorem ak0{b:BinOp}{x y:a_}{T T':aj}{sc:List Nat}{K:KV}(h:biV b (ev l x) (ev l y) sc is K):∃vc v sc',K vc v sc' is∧(vc→Yd P l is w0 (.binOp b T x y T') v):=by
 cases b
 case add | sub | mul =>
  obtain⟨k,m,hx,h⟩:=pK h;obtain⟨k',n,hy,h⟩:=pK h;refine⟨_,_,_,h,fun⟨e,hr⟩=>mQ fun ty=>?_⟩;subst e
  first | exact eL hx hy hr.wrap | exact Cc hx hy hr.wrap | exact pN hx hy hr.wrap
 case lss | leq | gtr | geq | eql | neq =>
  obtain⟨k,m,hx,h⟩:=pK h;obtain⟨k',n,hy,h⟩:=pK h;obtain⟨vc,v,sc',h,hX⟩:=anW h;refine⟨_,_,_,h,fun⟨e,hv⟩=>?_⟩;subst e;refine hX hv (X:=fun v=>Yd P l is w0 _ v) (mQ fun ty=>?_)
  first | exact zX hx hy | exact aat hx hy | exact ac6 hx hy | exact amU hx hy | exact tC hx hy | exact pO hx hy
 all_goals exact h.elim
theorem ak1{b:Builtin}{xs:List a_}{ts:List aj}{sc:List Nat}{K:KV}(h:caV P l is b xs ts sc K):∃vc v sc',K vc v sc' is∧(vc→Yd P l is w0 (.call { callee:=.builtin b,args:=xs.toArray,argTypes:=ts.toArray }) v):=by
 unfold caV at h;split at h
 · obtain⟨E,hE,h⟩:=mG h
   obtain⟨a,n,c,hx,h⟩:=ad5 h;exact⟨_,_,_,h,fun _=>mQ fun ty=>Ec rfl (aha hE) hx⟩
 · obtain⟨k,m,hx,h⟩:=pK h
   obtain⟨k',n,hy,h⟩:=pK h;refine⟨_,_,_,h,fun e=>mQ fun ty=>?_⟩;subst e;exact amV hx hy rfl
 · obtain⟨k,m,hx,h⟩:=pK h
   obtain⟨k',n,hy,h⟩:=pK h;refine⟨_,_,_,h,fun e=>mQ fun ty=>?_⟩;subst e;exact tE hx hy rfl
 · exact h.elim
theorem ahf{k:Nat}{f:Ob→Prop}(hos:∀x∈os,fA w0 x.1 x.2.1 x.2.2)(h:atB is os k f):∃x:Ob,(∀w,Mem w0 w is→fA w x.1 x.2.1 x.2.2)∧f x:=by
 rcases ad3 h with ⟨i,hi,x,hx,hf⟩ | ⟨x,hx,hf⟩
 · exact⟨x,fun w m=>(i.bkP x hx).2 w (m.all i hi),hf⟩
 · exact⟨x,fun w m=>(hos x hx).ext m.ext,hf⟩
theorem Re(cs:Array ac)(o n:Nat):cs.extract o (o+n)=((cs.toList.drop o).take n).toArray:=by
 apply Array.ext';simp
theorem aaP:∀{l:List (Nat × Nat)} {n:Nat} {f:Nat × Nat→Prop},Rb l n f→∃z,l[n]? = some z∧f z
 | x::_,0,_,h=>⟨x,rfl,h⟩
 | _::l,n+1,_,h=>by rw[gt];exact aaP (l:=l) h
theorem ab0{cs us:List ac}{o:Nat}{c:ac}(h:o<cs.length):over (cs.set o c) (o+1) us=over cs o (c::us):=by
 unfold over;have e1:(cs.set o c).take (o+1)=cs.take o++[c]:=by
  rw[List.take_add_one,List.take_set_of_le (ap o),List.getElem?_set_self h];rfl
 have e2:(cs.set o c).drop (o+1+us.length)=cs.drop (o+(us.length+1)):=by
  rw[List.drop_set_of_lt (by omega)]
  congr 1
  omega
 rw[e1,e2];simp
theorem Oj:∀(us:List ac) (off k:Nat) (cs:Array ac),off+k+us.length≤cs.size →
 (us.zipIdx k).foldl (fun (cs:Array ac) (x:ac × Nat)=>cs.setIfInBounds (off+x.2) x.1) cs=(over cs.toList (off+k) us).toArray
 | [],off,k,cs,h=>by simp[over]
 | c::us,off,k,cs,h=>by
  simp only[au] at h;rw[List.zipIdx_cons,ik,Oj us off (k+1) _ (by simp;omega),←ab0 (by simp;omega)];simp[Nat.add_assoc]
theorem ab1{place:Nat→Option (Nat × Nat)}{cells:Array ac}{i off size:Nat}{v:ac}{rest:List (Nat × ac)}(hp:place i=some (off,size))(hs:v.cells.size=size)(hf:off+size≤cells.size) :
 Instr.fill place cells ((i,v)::rest)=Instr.fill place (over cells.toList off v.cells.toList).toArray rest:=by
 have hc:¬(v.cells.size≠size||off+v.cells.size>cells.size)=true:=by simp;omega
 have hfo:=Oj v.cells.toList off 0 cells (by simp;omega);rw[Instr.fill];simp only[hp];rw[if_neg hc]
 congr 1
 rw[←Array.foldl_toList,Array.toList_zipIdx];exact hfo
theorem ad7{pl:List (Nat × Nat)}:∀{ps:List (Nat × a_)} {cs:List ac} {q:Prop} {f:Prop→List ac→Prop},blV l pl ps cs q f →
 ∃q' cs',f q' cs'∧(q'→q∧Instr.fill (fun i=>pl[i]?) cs.toArray (ps.map fun x=>(x.1,ev l x.2))=some cs'.toArray)
 | [],cs,q,f,h=>⟨q,cs,h,fun hq=>⟨hq,rfl⟩⟩
 | (i,x)::ps,cs,q,f,h=>by
  obtain⟨z,hz,h⟩:=aaP h;obtain⟨k,hk,h⟩:=Rc h;obtain⟨q',cs',hf,hq⟩:=ad7 h;refine⟨q',cs',hf,fun h=>?_⟩;obtain⟨⟨h1,h2,hq0⟩,hfl⟩:=hq h;have h1:=yG h1;have h2:=yG h2;rw[br,ej] at h2;refine⟨hq0,?_⟩;rw[bn,ab1 (off:=z.1) (size:=z.2) (by rw[hz]) (by simpa using h1) ?_]
  · exact hfl
  · simp
    omega
theorem Ol{p p':Nat→Option (Nat × Nat)}(h:∀i x,p i=some x→p' i=some x):∀{l:List (Nat × ac)} {cells cs:Array ac},Instr.fill p cells l=some cs→Instr.fill p' cells l=some cs
 | [],_,_,e=>e
 | (i,v)::l,cells,cs,e=>by
  rw[Instr.fill] at e ⊢;cases hp:p i with
  | none=>rw[hp] at e;cases e
  | some x =>
   rw[hp] at e;rw[h i x hp];simp only at e ⊢;split at e
   · cases e
   · rename_i hc
     rw[if_neg hc];exact Ol h e
theorem Jy{P:bc}:∀{fs:List Field} {l:List (Nat × Nat)},fs.mapM (fun (f:Field)=>(qK P f.type).map fun x=>(f.offset,x.2))=some l→∀w,(fs.mapM fun f=>do pure (f.offset,←sizeOf f.type):Sem (List (Nat × Nat))).run P w=.ok l w
 | [],l,h,w=>by
  rw[List.mapM_nil] at h ⊢;cases h;rfl
 | f::fs,l,h,w=>by
  rw[List.mapM_cons] at h ⊢;cases hs:qK P f.type with
  | none=>rw[hs] at h;cases h
  | some x =>
   obtain⟨b,n⟩:=x;rw[hs] at h;cases hm:fs.mapM (fun (f:Field)=>(qK P f.type).map fun x=>(f.offset,x.2)) with
   | none=>simp[hm] at h
   | some l' =>
    simp[hm] at h;subst h;have hr:=Jy hm w;simp only[bind_pure_comp] at hr;simp[dH (uM hs).2,hr]
theorem ahg{P:bc}{T:aj}{pl:List (Nat × Nat)}{z:List ac}(h:vP P T=some (pl,z)){vs:Array (Nat × ac)}{cs:List ac}(hf:Instr.fill (fun i=>pl[i]?) z.toArray vs.toList=some cs.toArray)(w:ah):(Instr.build T vs).run P w=.ok (.agg cs.toArray) w:=by
 unfold vP at h;split at h
 · rename_i fs z' hu hz
   obtain⟨z0,hz0,hzc⟩:=Ra hz;cases hm:fs.toList.mapM (fun (f:Field)=>(qK P f.type).map fun x=>(f.offset,x.2)) with
   | none=>rw[hm] at h;cases h
   | some l' =>
    rw[hm] at h;cases h;refine gJ (places:=pl.toArray) hu hz0 (fun w=>?_) (by rw[hzc];simpa using hf) w;have hr:=Jy hm w;rw[gh];simp only[bind_pure_comp] at hr ⊢;simp[hr]
 · rename_i n E z' hu hz
   obtain⟨z0,hz0,hzc⟩:=Ra hz;cases hs:qK P E with
   | none=>rw[hs] at h;cases h
   | some x =>
    obtain⟨b,c⟩:=x;rw[hs] at h;cases h;refine lZ hu hz0 (uM hs).2 ?_ w;rw[hzc];refine Ol (fun i x hx=>?_) hf;rw[dw] at hx;cases hr:(ip n)[i]? with
    | none=>rw[hr] at hx;cases hx
    | some j =>
     rw[hr] at hx;have:=ar.1 hr;obtain⟨h1,h2⟩:=this;rw[List.getElem_range] at h2;subst h2;cases hx;rfl
 · cases h
def Bx(P:bc)(l:List ac)(is:List It)(w0:ah)(ds:List cg)(op:Op)(cs:List ac)(T:aj):Prop:=∀(d:Nat) (ty:aj) (pos:String) (af:Array Edge) (ops:Array Oper) (Q:Exit→Act→ah→Prop) (rest:List Oper) (w:ah),Mem w0 w is→(∀g u,eW w u→Mem w0 u (bI g cs T::is)→ao P ops Q rest (Fr (l.set d (.pointer (some ⟨g,0,none⟩))) ds) u)→ao P ops Q (bi (some d) op ty pos af none::rest) (Fr l ds) w
theorem Rf{pr:Bool}{op:Op}{sc:List Nat}{K:KV}(hos:∀x∈os,fA w0 x.1 x.2.1 x.2.2)(h:Ak P l is os pr op sc K) :
 (∃vc v sc',K vc v sc' is∧(vc→Yd P l is w0 op v))∨(pr=false∧∃cs T,(∀g,K True (.pointer (some ⟨g,0,none⟩)) sc (bI g cs T::is))∧Bx P l is w0 ds op cs T):=by
 unfold Ak at h;split at h
 · exact .inl ⟨_,_,_,h,fun _=>mQ fun ty=>aI⟩
 · exact .inl ⟨_,_,_,h,fun _=>mQ fun ty=>aM⟩
 · obtain⟨a,hx,h⟩:=Eu h
   exact .inl ⟨_,_,_,h,fun _=>mQ fun ty=>cJ hx⟩
 · obtain⟨b,hc,h⟩:=Yk h
   cases b
   · exact .inl ⟨_,_,_,h,fun _=>mQ fun ty=>xX hc⟩
   · exact .inl ⟨_,_,_,h,fun _=>mQ fun ty=>pY hc⟩
 · exact .inl (ak0 h)
 · obtain⟨b,hx,h⟩:=Yk h
   exact .inl ⟨_,_,_,h,fun _=>mQ fun ty=>qY hx⟩
 · obtain⟨k,m,hx,h⟩:=pK h
   exact .inl ⟨_,_,_,h,fun hr=>mQ fun ty=>sA hx hr.wrap⟩
 · obtain⟨k1,h1,h⟩:=mG h
   obtain⟨k2,h2,h⟩:=mG h;obtain⟨k,m,hx,h⟩:=pK h;exact .inl ⟨_,_,_,h,fun hr=>mQ fun ty=>kS (adZ h2) (adZ h1) hx hr.wrap⟩
 · obtain⟨f,hf,h⟩:=mG h
   obtain⟨a,hx,h⟩:=Eu h;obtain⟨m,hm,h⟩:=Rc h;obtain⟨o,b,n⟩:=f;obtain⟨fs,f,h1,h2,h3,h4,h5⟩:=aaN hf;simp only at hm h;rw[hm] at h5;exact .inl ⟨_,_,_,h,fun _=>mQ fun ty=>aZ h1 h2 h5 hx (by rw[h3])⟩
 · obtain⟨⟨z,c⟩,hz,h⟩:=mG h
   unfold ixP at hz;split at hz
   · rename_i n E hu
     cases hs:qK P E with
     | none=>rw[hs] at hz;cases hz
     | some x =>
      obtain⟨b,c'⟩:=x;rw[hs] at hz;cases hz;obtain⟨a,hx,h⟩:=Eu (show Yh _ _ from h);obtain⟨k,m,hy,h⟩:=pK h;exact .inl ⟨_,_,_,h,fun hv=>mQ fun ty=>aJ hu (uM hs).2 hx hy hv.1 hv.2 rfl⟩
   · rename_i E hu
     cases hs:qK P E with
     | none=>rw[hs] at hz;cases hz
     | some x =>
      obtain⟨b,c'⟩:=x;rw[hs] at hz;cases hz;obtain⟨A,n,cp,hx,h⟩:=ad5 (show vvS _ _ from h);obtain⟨a,rfl,h⟩:=mG h;obtain⟨k,m,hy,h⟩:=pK h;exact .inl ⟨_,_,_,h,fun hv=>mQ fun ty=>aF hu (uM hs).2 hx hy hv.1 hv.2 rfl⟩
   · cases hz
 · obtain⟨f,hf,h⟩:=mG h
   obtain⟨cs,hx,h⟩:=akY h;obtain⟨o,b,n⟩:=f;obtain⟨fs,f,h1,h2,h3,h4,h5⟩:=aaN hf;simp only at h;cases b
   · obtain⟨v,hv,h⟩:=Ht h
     exact .inl ⟨_,_,_,h,fun _=>mQ fun ty=>ada h1 h2 h4 hx (by rw[h3];simpa using hv)⟩
   · exact .inl ⟨_,_,_,h,fun _=>mQ fun ty=>adb h1 h2 h4 h5 hx (by rw[h3];exact Re _ _ _)⟩
 · obtain⟨⟨pl,z⟩,hz,h⟩:=mG h
   obtain⟨q,cs,h,hq⟩:=ad7 h;exact .inl ⟨_,_,_,h,fun hv=>mQ fun ty=>oL rfl (ahg hz (by simpa using (hq hv).2))⟩
 · obtain⟨cs,hx,h⟩:=akZ h
   obtain⟨v,hv,h⟩:=Ht h;exact .inl ⟨_,_,_,h,fun _=>mQ fun ty=>eE hx (by simpa using hv)⟩
 · split at h
   · obtain⟨z,hz,h⟩:=mG h
     obtain⟨a,hx,h⟩:=Eu h;obtain⟨g,hB,h⟩:=ahf hos h;obtain⟨b,n⟩:=z;have hA:=(uM hz).1;have hC:=(uM hz).2;cases b
     · obtain⟨v,hv,h⟩:=Ht h
       exact .inl ⟨_,_,_,h,fun e w m ty=>aW hx (by rw[e];exact (hB w m).lies1 hA hv)⟩
     · exact .inl ⟨_,_,_,h,fun e w m ty=>aW hx (by rw[e.1];exact (hB w m).lies hA hC rfl (yG e.2))⟩
   · exact h.elim
 · cases pr
   · refine .inr ⟨rfl,_,_,h,fun d ty pos af ops Q rest w m hk=>ac7 (by simp) fun u g e hg hB=>hk g u e (m.newB e hg hB)⟩
   · exact h.elim
 · cases pr
   · obtain⟨cs,hz,h⟩:=mG (show vR _ _ from h)
     obtain⟨z,h1,h2⟩:=Ra hz;refine .inr ⟨rfl,_,_,h,fun d ty pos af ops Q rest w m hk=>xW h1 h2 fun u g e hg hB=>hk g u e (m.newB e hg hB)⟩
   · exact h.elim
 · rename_i c
   split at h
   · rename_i b hb
     obtain⟨ce,xs,ts⟩:=c;simp only at hb h;subst hb;have:=ak1 (w0:=w0) h;simpa using Or.inl this
   · exact h.elim
 · exact h.elim
theorem ad8{pr:Bool}{op:Op}{sc:List Nat}{K:KV}(h:stV P l is pr op sc K):pr=false∧∃vc sc' is',K vc undef sc' is'∧(vc→∀(ty:aj) (pos:String) (af:Array Edge) (ops:Array Oper) (Q:Exit→Act→ah→Prop) (rest:List Oper) (w:ah),Mem w0 w is→(∀u,Mem w0 u is'→ao P ops Q rest (Fr l ds) u)→ao P ops Q (bi none op ty pos af none::rest) (Fr l ds) w):=by
 unfold stV at h;split at h
 · rename_i T x y k sc
   cases pr with
   | true=>exact h.elim
   | false =>
   obtain⟨z,hz,h⟩:=mG (show vR _ _ from h);obtain⟨n,hn,h⟩:=Rc h;obtain⟨a,hx,h⟩:=Eu h;obtain⟨i,g,hi,hb,h⟩:=Yj h;obtain⟨b,z⟩:=z;refine⟨rfl,_,_,_,h,fun⟨e,h1,h2,h3⟩ ty pos af ops Q rest w m hk=>?_⟩;have hC:=(uM hz).2;have h1:=yG h1;have h2:=yG h2;simp only at hn h1 h2;have hP:=i.bkP g hb;have hB:=hP.2 w (m.all i (ba hi));rw[e] at hx;refine uA hx (us:=(ev l y).cells.toList) (by simp) (by rw[h2];exact hC) hB ?_ (jM (aaM h3)) fun u hc hB'=>hk u (m.put k hi hc.os hc.tape hc.output (by rw[hc.size];exact ap _) (fun b _ hne=>hc.block b fun e=>hne ((hP.1 b).2 e)) hB' (.inl fun b hb=>(hP.1 b).2 (by cases hb;rfl)));rw[br,ej] at h1;omega
 · exact h.elim
theorem ak2{v:ac}{b:Bool}{p q:Prop}(h:vvG v b p q):(v=.bool b∧p)∨((∀c,v=.bool c→(c == b)=false)∧q):=by
 cases v with
 | bool c =>
  unfold vvG at h;simp only at h;split at h
  · rename_i e;exact .inl ⟨by rw[e],h⟩
  · rename_i e;exact .inr ⟨fun c' e'=>by cases e';simpa using e,h⟩
 | tuple=>exact .inr ⟨fun c e=>(by cases e),h⟩
 | _=>exact h.elim
theorem ahh{ops:Array Oper}{j:Nat}{b:Bool}(h:vyv ops.toList l j=.bool b):yielded ops l.toArray j=some b:=by
 unfold vyv at h;unfold yielded;simp only[et] at h;cases ho:ops[j]? with
 | none=>rw[ho] at h;cases h
 | some o =>
  rw[ho] at h;simp only at h;cases hd:o.dst with
  | none=>rw[hd] at h;cases h
  | some d =>
   rw[hd] at h;simp only[fz] at h;simp only[jv,hd,jd];cases hv:l[d]? with
   | none=>rw[hv] at h;cases h
   | some v=>rw[hv] at h;simp only[cv] at h;rw[h]
theorem ak3{ops:Array Oper}{j:Nat}{b:Bool}(h:yielded ops l.toArray j=some b):vyv ops.toList l j=.bool b:=by
 unfold yielded at h;unfold vyv;simp only[et];cases ho:ops[j]? with
 | none=>rw[ho] at h;cases h
 | some o =>
  rw[ho] at h;simp only[jv] at h ⊢;cases hd:o.dst with
  | none=>rw[hd] at h;cases h
  | some d =>
   rw[hd] at h;simp only[jv,jd] at h;simp only[fz];cases hv:l[d]? with
   | none=>rw[hv] at h;cases h
   | some v =>
    rw[hv] at h;simp only[cv];cases v <;> first | (cases h;done) | (cases h;rfl)
theorem Ev{ops:Array Oper}{g:Option (Nat × Bool)}{p q:Prop}(h:Jw ops l g p q):(p∧∀d op ty pos af,Region.wanted (bi d op ty pos af g) (yielded ops l.toArray)=true)∨(q∧∀d op ty pos af,Region.wanted (bi d op ty pos af g) (yielded ops l.toArray)=false):=by
 cases g with
 | none=>exact .inl ⟨h,fun _ _ _ _ _=>rfl⟩
 | some g =>
  obtain⟨j,b⟩:=g;rcases ak2 h with ⟨e,h⟩ | ⟨e,h⟩
  · exact .inl ⟨h,fun _ _ _ _ _=>by simp[Region.wanted,ahh e]⟩
  · refine .inr ⟨h,fun _ _ _ _ _=>?_⟩
    cases hy:yielded ops l.toArray j with
    | none=>simp[Region.wanted,hy]
    | some c=>simpa[Region.wanted,hy] using e c (ak3 hy)
theorem mR{ops:Array Oper}{Q:Exit→Act→ah→Prop}{rest:List Oper}{d:Option Nat}{op:Op}{ty:aj}{pos:String}{af:Array Edge}{g:Option (Nat × Bool)}{w:ah}(hw:Region.wanted (bi d op ty pos af g) (yielded ops l.toArray)=true)
 (h:ao P ops Q (bi d op ty pos af none::rest) (Fr l ds) w):ao P ops Q (bi d op ty pos af g::rest) (Fr l ds) w:=by
 unfold ao at h ⊢;rw[if_pos (by simp[Region.wanted])] at h;rw[if_pos hw];exact h
theorem sD{ops:Array Oper}{Q:Exit→Act→ah→Prop}{rest:List Oper}{o:Oper}{w:ah}(hw:Region.wanted o (yielded ops l.toArray)=false)
 (h:ao P ops Q rest ((Fr l ds).put o.dst undef) w):ao P ops Q (o::rest) (Fr l ds) w:=by
 unfold ao;rw[if_neg (by rw[hw];simp)];exact h
theorem Rg{R:Exit→Act→ah→Prop}{id:Nat}{a:Act}{w:ah}{G:List Ko→Prop}:∀{s:List Ko},Mg id s G→∃s',G s'∧(Ct P R s' .normal a w→Ct P R s (.exit id) a w)
 | .b j::s,h=>by
  rcases ad6 h with ⟨e,h⟩ | ⟨e,h⟩
  · refine⟨s,h,fun hs=>?_⟩
    show cj j (Ct P R s) (.exit id) a w
    simp only[cj];rw[if_pos e];exact hs
  · obtain⟨s',hG,hs⟩:=Rg (R:=R) (a:=a) (w:=w) h
    refine⟨s',hG,fun h=>?_⟩;show cj j (Ct P R s) (.exit id) a w
    simp only[cj];rw[if_neg e];exact hs h
 | .c _::s,h | .o _ _::s,h | .k _::s,h | .r _ _::s,h=>let ⟨s',hG,hs⟩:=Rg (R:=R) (a:=a) (w:=w) (s:=s) h;⟨s',hG,fun h=>hs h⟩
 | [],h=>h.elim
theorem Un:∀x∈([]:List Ob),fA w0 x.1 x.2.1 x.2.2:=fun _ h=>(by cases h)
theorem ahi{k:Kw}{w u:ah}(hp:kpb k=false)(h:kpt k w)(e:eW w u):kpt k u:=by
 intro b v hk;subst hk;have hb:b=false:=hp;subst hb;exact eW.trans (h false v rfl) e
theorem oZ{R:Exit→Act→ah→Prop}(kw:Kw):∀(n:Nat) (sc:List Nat) (q:Prop) (s:List Ko) (l:List ac) (is:List It),V P R w0 ds kw n sc q s l is→q∧∀w,Mem w0 w is→kpt kw w→Gt P R s (Fr l ds) w
 | 0,_,_,_,_,_,h=>h
 | n+1,sc,q,.b _::s,l,is,h=>oZ kw n sc q s l is h
 | n+1,sc,q,.o _ []::s,l,is,h=>oZ kw n sc q s l is h
 | n+1,sc,q,.o ops (⟨some d,op,ty,pos,af,g⟩::rest)::s,l,is,h=>by
  rcases Ev (show Jw _ _ _ _ _ from h) with ⟨h,hw⟩ | ⟨h,hw⟩
  · rcases Rf (ds:=ds) Un h with ⟨vc,v,sc',h,hy⟩ | ⟨hpr,cs,T,h,hb⟩
    · obtain⟨⟨hv,hq⟩,hk⟩:=oZ kw n _ _ _ _ _ h
      exact⟨hq,fun w m hkp=>mR (hw _ _ _ _ _) (eQ (hy hv w m ty) (hk w m hkp))⟩
    · exact⟨(oZ kw n _ _ _ _ _ (h 0)).1.2,fun w m hkp=>mR (hw _ _ _ _ _) (hb d ty pos af ops _ rest w m fun g u e mu=>(oZ kw n _ _ _ _ _ (h g)).2 u mu (ahi hpr hkp e))⟩
  · obtain⟨hq,hk⟩:=oZ kw n _ _ _ _ _ h
    exact⟨hq,fun w m hkp=>sD (hw _ _ _ _ _) (by rw[gE];exact hk w m hkp)⟩
 | n+1,sc,q,.o ops (⟨none,op,ty,pos,af,g⟩::rest)::s,l,is,h=>by
  rcases Ev (show Jw _ _ _ _ _ from h) with ⟨h,hw⟩ | ⟨h,hw⟩
  · obtain⟨hpr,vc,sc',is',h,hy⟩:=ad8 (w0:=w0) (ds:=ds) h
    obtain⟨⟨hv,hq⟩,hk⟩:=oZ kw n _ _ _ _ _ h;exact⟨hq,fun w m hkp=>mR (hw _ _ _ _ _) (hy hv ty pos af ops _ rest w m fun u mu=>hk u mu fun b v e=>(by rw[e] at hpr;cases hpr))⟩
  · obtain⟨hq,hk⟩:=oZ kw n _ _ _ _ _ h
    exact⟨hq,fun w m hkp=>sD (hw _ _ _ _ _) (hk w m hkp)⟩
 | n+1,sc,q,.c c::s,l,is,h=>by
  cases c with
  | seq a b=>exact (oZ kw n _ _ _ _ _ h).imp id fun hk w m hkp=>wp_seq (hk w m hkp)
  | skip=>exact (oZ kw n _ _ _ _ _ h).imp id fun hk w m hkp=>wp_skip (hk w m hkp)
  | block id c=>exact (oZ kw n _ _ _ _ _ h).imp (fun h=>h) fun hk w m hkp=>wp_block (hk w m hkp)
  | exit id =>
   refine⟨?_,fun w m hkp=>?_⟩
   · obtain⟨s',hG,_⟩:=Rg (P:=P) (R:=R) (a:=Fr l ds) (w:=w0) h
     exact (oZ kw n _ _ _ _ _ hG).1
   · obtain⟨s',hG,hs⟩:=Rg (P:=P) (R:=R) (a:=Fr l ds) (w:=w) h
     exact wp_exit (hs ((oZ kw n _ _ _ _ _ hG).2 w m hkp))
  | ret=>exact⟨h.1,fun w m hkp=>wp_ret (adY (h.2 w m hkp) s)⟩
  | cond x a b =>
   obtain⟨t,hx,h⟩:=Yk h;cases t
   · exact (oZ kw n _ _ _ _ _ h).imp id fun hk w m hkp=>abp hx (hk w m hkp)
   · exact (oZ kw n _ _ _ _ _ h).imp id fun hk w m hkp=>vV hx (hk w m hkp)
  | region id ops d =>
   cases d
   · exact (oZ kw n _ _ _ _ _ h).imp (fun h=>h) fun hk w m hkp=>wp_region_list (hk w m hkp)
   · exact h.elim
  | loop c =>
   cases sc with
   | nil=>exact h.elim
   | cons k sc=>exact (oZ kw n _ _ _ _ _ h).imp (fun h=>h) fun hk w m hkp=>wp_loop_rounds k (hk w m hkp)
  | _=>exact h.elim
 | n+1,sc,q,.r c (k+1)::s,l,is,h=>(oZ kw n sc q _ l is h).imp (fun h=>h) fun hk w m hkp=>hk w m hkp
 | _+1,_,_,.r _ 0::_,_,_,h=>h.elim
 | _+1,_,_,.k _::_,_,_,h=>h.elim
 | _+1,_,_,[],_,_,h=>h.elim
/-! ### Regions in a drawn order -/
def VQ{α:Type}(hd:α→Option Oper)(P:bc)(is:List It)(os:List Ob)(ops:Array Oper)(K:List α→List ac→Prop):Nat→List Nat→Prop→List α→List ac→Prop
 | 0,_,q,rest,l=>q∧K rest l
 | n+1,sc,q,x::rest,l=>match hd x with
  | some ⟨some d,op,_,_,_,g⟩=>Jw ops l g (Ak P l is os true op sc fun vc v sc _=>VQ hd P is os ops K n sc (vc∧q) rest (l.set d v)) (VQ hd P is os ops K n sc q rest (l.set d undef))
  | _=>False
 | _+1,_,_,[],_=>False
theorem aaQ{α:Type}{hd:α→Option Oper}{ops:Array Oper}{K Y:List α→List ac→Prop}(hos:∀x∈os,fA w0 x.1 x.2.1 x.2.2)(hK:∀rest l,K rest l→Y rest l)
 (hv:∀x d op ty pos af g rest l v,hd x=some ⟨some d,op,ty,pos,af,g⟩→Region.wanted (bi (some d) op ty pos af g) (yielded ops l.toArray)=true→Yd P l is w0 op v→Y rest (l.set d v)→Y (x::rest) l)
 (hp:∀x d op ty pos af g rest l,hd x=some ⟨some d,op,ty,pos,af,g⟩→Region.wanted (bi (some d) op ty pos af g) (yielded ops l.toArray)=false→Y rest (l.set d undef)→Y (x::rest) l) :
 ∀(n:Nat) (sc:List Nat) (q:Prop) (rest:List α) (l:List ac),VQ hd P is os ops K n sc q rest l→q∧Y rest l
 | 0,_,_,_,_,h=>⟨h.1,hK _ _ h.2⟩
 | n+1,sc,q,x::rest,l,h=>by
  unfold VQ at h;split at h
  · rename_i d op ty pos af g hx
    rcases Ev h with ⟨h,hwt⟩ | ⟨h,hwt⟩
    · rcases Rf (ds:=[]) hos h with ⟨vc,v,sc',h,hy⟩ | ⟨e,_⟩
      · obtain⟨⟨h1,hq⟩,hk⟩:=aaQ hos hK hv hp n _ _ _ _ h
        exact⟨hq,hv _ _ _ _ _ _ _ _ _ _ hx (hwt _ _ _ _ _) (hy h1) hk⟩
      · cases e
    · obtain⟨hq,hk⟩:=aaQ hos hK hv hp n _ _ _ _ h
      exact⟨hq,hp _ _ _ _ _ _ _ _ _ hx (hwt _ _ _ _ _) hk⟩
  · exact h.elim
 | _+1,_,_,[],_,h=>h.elim
theorem apc{ops:Array Oper}{Q:Act→Prop}(hos:∀x∈os,fA w0 x.1 x.2.1 x.2.2){n:Nat}{sc:List Nat}{rest:List Oper}{l:List ac}(h:VQ some P is os ops (fun rest l=>bz P ops (fun u=>Mem w0 u is) Q rest (Fr l ds)) n sc True rest l):bz P ops (fun u=>Mem w0 u is) Q rest (Fr l ds):=by
 refine (aaQ (Y:=fun rest l=>bz P ops (fun u=>Mem w0 u is) Q rest (Fr l ds)) hos (fun _ _ h=>h) (fun x d op ty pos af g rest l v hx hw hy h=>?_) (fun x d op ty pos af g rest l hx hw h=>?_) n sc True rest l h).2
 · cases hx
   have h:=jC (ty:=ty) (pos:=pos) (after:=af) (fun u m=>hy u m ty) h;unfold bz at h ⊢;rw[if_pos (by simp[Region.wanted])] at h;rw[if_pos hw];exact h
 · cases hx
   unfold bz;rw[if_neg (by rw[hw];simp)];show bz P ops _ Q rest ((Fr l ds).put (some d) undef)
   rw[gE];exact h
def hdH(x:Oper × Bool):Option Oper:=match x.2 with
 | true=>some x.1
 | false=>none
theorem apd{ops:Array Oper}{Q:Exit→Act→ah→Prop}{w:ah}(hos:∀x∈os,fA w0 x.1 x.2.1 x.2.2){n:Nat}{sc:List Nat}{rest:List (Oper × Bool)}{l:List ac}(h:VQ hdH P is os ops (fun rest l=>bE P ops (fun u=>Mem w0 u is) Q rest (Fr l ds) w) n sc True rest l):bE P ops (fun u=>Mem w0 u is) Q rest (Fr l ds) w:=by
 refine (aaQ (Y:=fun rest l=>bE P ops (fun u=>Mem w0 u is) Q rest (Fr l ds) w) hos (fun _ _ h=>h) (fun x d op ty pos af g rest l v hx hw hy h=>?_) (fun x d op ty pos af g rest l hx hw h=>?_) n sc True rest l h).2
 · obtain⟨o,b⟩:=x
   cases b
   · cases hx
   · cases hx
     obtain⟨v,hy,h⟩:=Qg (ty:=ty) (pos:=pos) (after:=af) (fun u m=>hy u m ty) h;refine⟨v,?_,h⟩;rcases hy with ⟨_,hy⟩ | ⟨hn,_⟩
     · exact .inl ⟨hw,hy⟩
     · simp[Region.wanted] at hn
 · obtain⟨o,b⟩:=x
   cases b
   · cases hx
   · cases hx
     refine⟨undef,.inr ⟨hw,rfl⟩,?_⟩;show bE P ops _ Q rest ((Fr l ds).put (some d) undef) w
     rw[gE];exact h
end
theorem nO{P R w0 ds k n sc q s l l' is is'}(h:l=l')(h':is=is'):V P R w0 ds k n sc q s l is=V P R w0 ds k n sc q s l' is':=by rw[h,h']
theorem fF{ops l l' g p q}(h:l=l'):Jw ops l g p q=Jw ops l' g p q:=by rw[h]
theorem fG{P l l' is os pr op sc K}(h:l=l'):Ak P l is os pr op sc K=Ak P l' is os pr op sc K:=by rw[h]
theorem fH{P l l' is pr op sc K}(h:l=l'):stV P l is pr op sc K=stV P l' is pr op sc K:=by rw[h]
theorem fI{P l l' is b xs ts sc K}(h:l=l'):caV P l is b xs ts sc K=caV P l' is b xs ts sc K:=by rw[h]
theorem fJ{b x y x' y' sc is K}(h:x=x')(h':y=y'):biV b x y sc is K=biV b x' y' sc is K:=by rw[h,h']
theorem jH{sc sc' p K is}[Decidable p](h:sc=sc'):cV sc p K is=cV sc' p K is:=by rw[h]
theorem fK{v v' f}(h:v=v'):oO v f=oO v' f:=by rw[h]
theorem fL{v v' f}(h:v=v'):vvB v f=vvB v' f:=by rw[h]
theorem fM{v v' f}(h:v=v'):Yh v f=Yh v' f:=by rw[h]
theorem fN{v v' f}(h:v=v'):vvS v f=vvS v' f:=by rw[h]
theorem fO{v v' f}(h:v=v'):Yi v f=Yi v' f:=by rw[h]
theorem fP{v v' f}(h:v=v'):vvT v f=vvT v' f:=by rw[h]
theorem fQ{v v' b p q}(h:v=v'):vvG v b p q=vvG v' b p q:=by rw[h]
theorem fR{α:Type}{o o':Option α}{f}(h:o=o'):vR o f=vR o' f:=by rw[h]
theorem fS{b b' p q}(h:b=b'):Xa b p q=Xa b' p q:=by rw[h]
theorem fT{n n' p}(h:n=n'):vnX n p=vnX n' p:=by rw[h]
theorem fU{n n' m p q}(h:n=n'):vnE n m p q=vnE n' m p q:=by rw[h]
theorem dX{l l' n n' f}(h:l=l')(h':n=n'):Es l n f=Es l' n' f:=by rw[h,h']
theorem dY{l l' n f}(h:l=l'):Rb l n f=Rb l' n f:=by rw[h]
theorem fV{l pl ps cs cs' q f}(h:cs=cs'):blV l pl ps cs q f=blV l pl ps cs' q f:=by rw[h]
theorem fW{is is' os k f}(h:is=is'):atB is os k f=atB is' os k f:=by rw[h]
theorem fX{n v v' f}(h:v=v'):vvX n v f=vvX n v' f:=by rw[h]
theorem jI{α:Type}{hd:α→Option Oper}{P is os ops K n sc q rest l l'}(h:l=l'):VQ hd P is os ops K n sc q rest l=VQ hd P is os ops K n sc q rest l':=by rw[h]
theorem cN{P ops S Q ol a a' w}(h:a=a'):bE P ops S Q ol a w=bE P ops S Q ol a' w:=by rw[h]
theorem fY{os k k' f}(h:k=k'):atO os k f=atO os k' f:=by rw[h]
theorem fZ{is k k' f}(h:k=k'):atM is k f=atM is k' f:=by rw[h]
theorem gA{i i' s f}(h:i=i'):Mg i s f=Mg i' s f:=by rw[h]
theorem jJ{P R s e a a' w}(h:a=a'):Ct P R s e a w=Ct P R s e a' w:=by rw[h]
theorem cO{P ops Q rest a a' w}(h:a=a'):ao P ops Q rest a w=ao P ops Q rest a' w:=by rw[h]
theorem cP{P Q a a' w}{c:Code}(h:a=a'):c.wp P Q a w=c.wp P Q a' w:=by rw[h]
theorem cA{P ops C Q rest a a'}(h:a=a'):bz P ops C Q rest a=bz P ops C Q rest a':=by rw[h]
theorem Uo:∀(n:Nat) (p q:Prop),vnE n n p q=p
 | 0,_,_=>rfl
 | n+1,p,q=>Uo n p q
theorem anY{i:Nat}{s:List Ko}{f:List Ko→Prop}:Mg i (.b i::s) f=f s:=Uo i _ _
theorem kp0{w0:ah}{is:List It}{q:Prop}{X:ah→Prop}:(q∧∀w,Mem w0 w is→kpt none w→X w)=(q∧∀w,Mem w0 w is→X w):=propext ⟨fun h=>⟨h.1,fun w m=>h.2 w m fun _ _ e=>(by cases e)⟩,fun h=>⟨h.1,fun w m _=>h.2 w m⟩⟩
theorem kp1{w0 w1:ah}{b:Bool}{is:List It}{q:Prop}{X:ah→Prop}:(q∧∀w,Mem w0 w is→kpt (some (b,w1)) w→X w)=(q∧∀w,Mem w0 w is→kr b w1 w→X w):=propext ⟨fun h=>⟨h.1,fun w m e=>h.2 w m fun _ _ e'=>(by cases e';exact e)⟩,fun h=>⟨h.1,fun w m e=>h.2 w m (e _ _ rfl)⟩⟩
def Fz(l:List ac)(ds:List cg):Act:=Fr l ds
section
variable {P:bc} {R:Exit→Act→ah→Prop} {w0 w:ah} {ds:List cg} {s:List Ko} {l:List ac} {is:List It}
theorem aS{c:Code}(n:Nat)(sc:List Nat)(m:Mem w0 w is)(h:V P R w0 ds none n sc True (.c c::s) l is):c.wp P (Ct P R s) (Fr l ds) w:=(oZ none n sc True _ l is h).2 w m fun _ _ e=>(by cases e)
theorem lF{c:Code}(n:Nat)(sc:List Nat)(m:Mem w0 w is)(h:V P R w0 ds (some (true,w)) n sc True (.c c::s) l is):c.wp P (Ct P R s) (Fr l ds) w:=(oZ (some (true,w)) n sc True _ l is h).2 w m fun _ _ e=>(by cases e;rfl)
theorem eS{c:Code}(n:Nat)(sc:List Nat)(m:Mem w0 w is)(h:V P R w0 ds none n sc True [.c c] l is):c.wp P R (Fr l ds) w:=(oZ none n sc True _ l is h).2 w m fun _ _ e=>(by cases e)
theorem aP{ops:Array Oper}{rest:List Oper}(n:Nat)(sc:List Nat)(m:Mem w0 w is)(h:V P R w0 ds none n sc True (.o ops rest::s) l is):ao P ops (Ct P R s) rest (Fr l ds) w:=(oZ none n sc True _ l is h).2 w m fun _ _ e=>(by cases e)
theorem Hi{ops:Array Oper}{rest:List Oper}(n:Nat)(sc:List Nat)(m:Mem w0 w is)(h:V P R w0 ds (some (true,w)) n sc True (.o ops rest::s) l is):ao P ops (Ct P R s) rest (Fr l ds) w:=(oZ (some (true,w)) n sc True _ l is h).2 w m fun _ _ e=>(by cases e;rfl)
theorem eC{ops:Array Oper}{Q:Act→Prop}{rest:List Oper}(n:Nat)(sc:List Nat)(h:VQ some P is [] ops (fun rest l=>bz P ops (fun u=>Mem w0 u is) Q rest (Fz l ds)) n sc True rest l):bz P ops (fun u=>Mem w0 u is) Q rest (Fr l ds):=apc Un h
theorem Mz{ops:Array Oper}{Q:Exit→Act→ah→Prop}{ol:List (Oper × Bool)}(n:Nat)(sc:List Nat)(h:VQ hdH P is [] ops (fun rest l=>bE P ops (fun u=>Mem w0 u is) Q rest (Fz l ds) w) n sc True ol l):bE P ops (fun u=>Mem w0 u is) Q ol (Fr l ds) w:=apd Un h
theorem vJ{ops:Array Oper}{rest:List Oper}{f:FuncId}{fo:a_}{xs:Array a_}{args:List ac}{first cap:Array ac}{a0:Array aj}{v:ac}{d:Nat}{ty:aj}{pos:String}{af:Array Edge}(m:Mem w0 w is)(hf:ev l fo=.func (.func f) first cap)(hxs:first.toList++xs.toList.map (ev l)++cap.toList=args)(hc:eM P f args v)(n:Nat)(sc:List Nat)(h:V P R w0 ds none n sc True (.o ops rest::s) (l.set d v) is):ao P ops (Ct P R s) (bi (some d) (.call { callee:=.value fo,args:=xs,argTypes:=a0 }) ty pos af none::rest) (Fr l ds) w :=
 kA m hf hxs hc fun u m=>(oZ none n sc True _ _ is h).2 u m fun _ _ e=>(by cases e)
theorem g0{c:Code}{a:Act}(h:c.wp P (Ct P R []) a w):c.wp P R a w:=h
theorem gc{c:Code}{a:Act}(h:c.wp P (Ct P R s) a w):Ct P R (.c c::s) .normal a w:=h
theorem go{ops:Array Oper}{rest:List Oper}{a:Act}(h:ao P ops (Ct P R s) rest a w):Ct P R (.o ops rest::s) .normal a w:=h
theorem gk{K:Act→ah→Prop}{a:Act}(h:K a w):Ct P R (.k K::s) .normal a w:=h
theorem bW{c:Code}(ts ss:List Nat)(I:Nat→List ac→ah→Prop)(h0:∃n,I n (ts.map (l.getD · undef)) w)
 (hr:∀n vs w,I n vs w→∀(g:Nat→ac) (K:Act→ah→Prop),(∀n' l' w',n'<n→nE (eG l ts (ts.map (l'.getD · undef))) ss (l'.getD · undef)=l'→I n' (ts.map (l'.getD · undef)) w'→K (Fr l') w')→c.wp P (Ct P R (.k K::s)) (Fr (nE (eG l ts vs) ss g)) w):(Code.loop c).wp P (Ct P R s) (Fr l) w :=
 aau ts ss I h0 fun n vs w hI g=>hr n vs w hI g _ fun n' l' w' h1 h2 h3=>⟨n',l',h1,rfl,h2,h3⟩
theorem cR(n:Nat)(sc:List Nat)(m:Mem w0 w is)(h:V P R w0 ds none n sc True s l is):Ct P R s .normal (Fr l ds) w:=(oZ none n sc True _ l is h).2 w m fun _ _ e=>(by cases e)
theorem tO(n:Nat)(sc:List Nat)(m:Mem w0 w is)(h:V P R w0 ds (some (true,w)) n sc True s l is):Ct P R s .normal (Fr l ds) w:=(oZ (some (true,w)) n sc True _ l is h).2 w m fun _ _ e=>(by cases e;rfl)
end
section
variable {P:bc} {ds:List cg} {l:List ac}
theorem aaR{c:Code}{Q:Exit→Act→ah→Prop}{w:ah}(ts ss:List Nat)(J:List ac→ah→Prop)
 (hc:c.wp P (Exit.then (fun a' w'=>∃l',a'=Fr l' ds∧nE (eG l ts (ts.map (l'.getD · undef))) ss (l'.getD · undef)=l'∧J (ts.map (l'.getD · undef)) w') Q) (Fr l ds) w)
 (hn:∀vs u,J vs u→∀g:Nat→ac,Q .normal (Fr (nE (eG l ts vs) ss g) ds) u):c.wp P Q (Fr l ds) w:=by
 refine Code.wp_mono ?_ hc;intro e a w' h;cases e with
 | normal =>
  obtain⟨l',rfl,he,hJ⟩:=h;rw[←he];exact hn _ _ hJ _
 | exit id=>exact h
 | goto id=>exact h
 | ret=>exact h
 | panic ch=>exact h
 | outgrown=>exact h
theorem ahj{c:Code}{Q:Exit→Act→ah→Prop}{w0 w:ah}{is:List It}(m:Mem w0 w is)(ts ss:List Nat)(J:List ac→Prop)
 (hc:c.wp P (Exit.then (fun a' w'=>∃l',a'=Fr l' ds∧nE (eG l ts (ts.map (l'.getD · undef))) ss (l'.getD · undef)=l'∧Mem w0 w' is∧J (ts.map (l'.getD · undef))) Q) (Fr l ds) w)
 (hn:∀vs u,Mem w0 u is→J vs→∀g:Nat→ac,Q .normal (Fr (nE (eG l ts vs) ss g) ds) u):c.wp P Q (Fr l ds) w :=
 aaR ts ss (fun vs w'=>Mem w0 w' is∧J vs) hc fun vs u h g=>hn vs u h.1 h.2 g
theorem ahk{c:Code}{Q:Exit→Act→ah→Prop}{w0 w:ah}{is:List It}(m:Mem w0 w is)(k:Nat)(ts ss:List Nat)(J:List ac→It→Prop)
 (hc:c.wp P (Exit.then (fun a' w'=>∃l' i,a'=Fr l' ds∧nE (eG l ts (ts.map (l'.getD · undef))) ss (l'.getD · undef)=l'∧Mem w0 w' (is.set k i)∧J (ts.map (l'.getD · undef)) i) Q) (Fr l ds) w)
 (hn:∀vs i u,Mem w0 u (is.set k i)→J vs i→∀g:Nat→ac,Q .normal (Fr (nE (eG l ts vs) ss g) ds) u):c.wp P Q (Fr l ds) w:=by
 refine aaR ts ss (fun vs w'=>∃i,Mem w0 w' (is.set k i)∧J vs i) (Code.wp_mono ?_ hc) fun vs u h g=>?_
 · intro e a w' h
   cases e with
   | normal=>obtain⟨l',i,h1,h2,h3,h4⟩:=h;exact⟨l',h1,h2,i,h3,h4⟩
   | exit id=>exact h
   | goto id=>exact h
   | ret=>exact h
   | panic ch=>exact h
   | outgrown=>exact h
 · obtain⟨i,h1,h2⟩:=h
   exact hn vs i u h1 h2 g
end
section
variable {P:bc} {R:Exit→Act→ah→Prop} {w0 w:ah} {ds:List cg} {s:List Ko} {l:List ac} {is:List It}
theorem Jz{c:Code}(m:Mem w0 w is)(ts ss:List Nat)(J:List ac→Prop)
 (hc:∀K:Act→ah→Prop,(∀l' w',nE (eG l ts (ts.map (l'.getD · undef))) ss (l'.getD · undef)=l'→Mem w0 w' is→J (ts.map (l'.getD · undef))→K (Fr l' ds) w')→c.wp P (Ct P R (.k K::s)) (Fr l ds) w)
 (hn:∀vs u,Mem w0 u is→J vs→∀g:Nat→ac,Ct P R s .normal (Fr (nE (eG l ts vs) ss g) ds) u):c.wp P (Ct P R s) (Fr l ds) w :=
 ahj m ts ss J (hc _ fun l' w' h1 h2 h3=>⟨l',rfl,h1,h2,h3⟩) hn
theorem iM{c:Code}(m:Mem w0 w is)(k:Nat)(ts ss:List Nat)(J:List ac→It→Prop)
 (hc:∀K:Act→ah→Prop,(∀l' i w',nE (eG l ts (ts.map (l'.getD · undef))) ss (l'.getD · undef)=l'→Mem w0 w' (is.set k i)→J (ts.map (l'.getD · undef)) i→K (Fr l' ds) w')→c.wp P (Ct P R (.k K::s)) (Fr l ds) w)
 (hn:∀vs i u,Mem w0 u (is.set k i)→J vs i→∀g:Nat→ac,Ct P R s .normal (Fr (nE (eG l ts vs) ss g) ds) u):c.wp P (Ct P R s) (Fr l ds) w :=
 ahk m k ts ss J (hc _ fun l' i w' h1 h2 h3=>⟨l',i,rfl,h1,h2,h3⟩) hn
end
end Go.Lith
namespace Go.Lith
open Go.RowKit Go.Proofs Go.Sort Go.Shelf
theorem ad9{α:Type}{enc:α→List ac}{k:Nat}(hk:∀x,(enc x).length=k)(h0:0<k):∀(L:List α) (t:Nat),(L.flatMap enc)[t]? = (L[t / k]?).bind fun x=>(enc x)[t%k]?
 | [],t=>by simp
 | x::L,t=>by
  rw[cw,List.getElem?_append];by_cases h:t<k
  · rw[if_pos (by rw[hk];exact h),Nat.div_eq_of_lt h,Nat.mod_eq_of_lt h]
    rfl
  · rw[if_neg (by rw[hk];exact h),hk,ad9 hk h0 L (t-k)]
    have e1:t / k=(t-k) / k+1:=by rw[Nat.div_eq t k,if_pos ⟨h0,ib h⟩]
    have e2:t%k=(t-k)%k:=Nat.mod_eq_sub_mod (ib h);rw[e1,e2,gt]
theorem uN{α:Type}[Inhabited α]{enc:α→List ac}{k:Nat}(hk:∀x,(enc x).length=k)(h0:0<k)(L:List α):(flatK enc k L.toArray).toList=L.flatMap enc:=by
 have hlen:(L.flatMap enc).length=L.length*k:=by
  induction L with
  | nil=>simp
  | cons x L ih=>rw[cw,aw,ih,hk,au,iv];omega
 apply fa;intro t;by_cases ht:t<L.length*k
 · have hd:t / k<L.length:=by
    rw[Nat.div_lt_iff_lt_mul h0];exact ht
   have hm:t%k<k:=ku _ h0;have h1:=get_flatK enc k L.toArray t (by simpa using ht);rw[getElem!_pos _ t (by simpa using ht)] at h1;rw[ad9 hk h0,an hd,jv,et,fl (by simpa using ht),h1,an (show t%k<(enc L[t / k]).length by rw[hk];exact hm)]
   congr 1
   rw[getElem!_pos L.toArray _ (by simpa using hd),List.getElem_toArray,getElem!_pos _ _ (by rw[hk];exact hm)]
 · rw[ee (by simpa using ib ht),ee (by rw[hlen];exact ib ht)]
section
variable {α:Type} [Inhabited α] {P:bc} {ρ:Ren} {enc:α→List ac} {c:Nat} {E:aj} {w w0:ah} {is:List It} {A:Option Addr} {n cap:Nat}
theorem ab2{g:Nat}{xs:List α}{cur:Array ac}(hk:∀x,(enc x).length=c)(h0:0<c)(hg:w.heap[g]? = some (.cells cur E (0,0)))(h:cur.toList.take (xs.length*c)=xs.flatMap enc):HoldsK enc c w g 0 xs.toArray:=by
 intro j hj;have hl:=uN hk h0 xs;have hj':j<xs.length*c:=by simpa using hj
 have e:(flatK enc c xs.toArray)[j]? = cur[j]?:=by
  rw[←et,hl,←h,dg,if_pos hj',et]
 rw[fl hj] at e;refine⟨?_,?_⟩
 · simp only[World.cell?,hg,aq,Option.isSome_none,Bool.false_eq_true,if_false]
   rw[←e,getElem!_pos _ j hj];rfl
 · simp[World.frozen?,hg]
theorem Na{g:Nat}{xs ys:List α}{cur:Array ac}{q:Nat}{os:Array Obj}(hk:∀x,(enc x).length=c)(h0:0<c)(hg:w.heap[g]? = some (.cells cur E (0,0)))(hl:xs.length*c≤cur.size)(hlen:ys.length=xs.length) :
 ∃cur':Array ac,(sortWorldK enc c w g 0 q ys.toArray os).heap[g]? = some (.cells cur' E (0,0))∧cur'.size=cur.size∧cur'.toList.take (xs.length*c)=ys.flatMap enc:=by
 have hlt:g<w.heap.size:=(da.1 hg).1;refine⟨putCells id 0 (flatK enc c ys.toArray) cur,?_,by simp[putCells],?_⟩
 · unfold sortWorldK putRowK putRow mapBlock grow
   simp only;rw[Array.getElem?_append_left (by simpa[ahead] using hlt),im];simp[ahead,hg,onCells]
 · have hf:=uN hk h0 ys
   apply fa;intro t;rw[dg,←hf,et,et];have hs:(flatK enc c ys.toArray).size=xs.length*c:=by simp[hlen]
   split
   · rename_i ht
     have:t<cur.size:=Nat.lt_of_lt_of_le ht hl;simp only[putCells,Array.getElem?_mapIdx,fl this,d_,cd,aq,true_and,Nat.sub_zero,hs,ht,if_true];rw[fl (by rw[hs];exact ht),getElem!_pos _ t (by rw[hs];exact ht)];rfl
   · rename_i ht
     rw[Array.getElem?_eq_none (by rw[hs];exact ib ht)]
theorem wT(L:SlLaysF0.n6 P ρ)(aE:∀w,(isAgg (ρ.t 24)).run P w=.ok true w)(zE:∀w,(Go.sizeOf (ρ.t 24)).run P w=.ok c w)(hk:∀x,(enc x).length=c)(h0:0<c)(h1:∀x,∀v∈enc x,v.oneCell'=true)
 (cf:α→α→Int) (hO:SWO (ltOf cf)) {f:FuncId} (hcmp:∀x y,pQ P f [.agg (enc x).toArray,.agg (enc y).toArray] (.int .i64 (cf x y))) {xs:List α} (m:Mem w0 w is) (k:Nat) (hi:is[k]? = some (oI E c A n cap (xs.flatMap enc))) (hsz:n<4611686018427387904) :
 Calls P (ρ.f 6) #[.slice A n cap,.func (.func f) #[] #[]] w fun e w'=>∃v i,e=.returned v∧Mem w0 w' (is.set k i)∧(v=.tuple #[]∧∃ys:List α,i=oI E c A n cap (ys.flatMap enc)∧ys.Perm xs∧ys.Pairwise fun a b=>ltOf cf b a=false):=by
 have h:w.ownsRow 0 E c (.slice A n cap) n (xs.flatMap enc):=m.get k hi;have hlen:(xs.flatMap enc).length=xs.length*c:=by
  have:=uN hk h0 xs;rw[←this];simp
 have hn:xs.length=n:=by
  have:=h.1;rw[hlen] at this;exact Nat.eq_of_mul_eq_mul_right h0 this
 have hge:=fun b hb=>m.ge _ (ba hi) b hb;rcases lV h with ⟨rfl,rfl,rfl,hx⟩ | ⟨g,cur,rfl,_,hg,hcap,hmax,hcur,htake⟩
 · refine (AnyF.slices_SortFunc_none L none 0 _ w).mono ?_
   rintro e w' ⟨rfl,rfl⟩;obtain rfl:xs=[]:=List.eq_nil_of_length_eq_zero hn;refine⟨_,oI E c none 0 0 [],rfl,?_,rfl,[],rfl,lq _,.nil⟩;have:is.set k (oI E c none 0 0 [])=is:=by
    apply fa;intro j;rw[ie];split
    · rename_i e;subst e
      have:=(ar.1 hi).1;rw[if_pos this,hi];rfl
    · rfl
   rw[this];exact m
 · have hlt:g<w.heap.size:=(da.1 hg).1
   rw[←hn] at htake;have hH:=ab2 (xs:=xs) hk h0 hg htake;have hx:=AnyQ.slices_SortFunc L c aE zE enc hk h1 cf hO f #[] g 0 cap xs.toArray w (fun args w'=>pX (hcmp default default w').1) (fun mm os dk _ x y=>by
    have:=((hcmp x y (sortWorldK enc c w g 0 mm dk os)).2.mono fun e w' h=>(show e=.returned (.int .i64 (cf x y))∧∃q os',w'=grow ((sortWorldK enc c w g 0 mm dk os).drewN q) os' from by obtain⟨u,rfl,hX,rfl⟩:=h;exact⟨rfl,hX.grow⟩))
    simpa using this) hH hlt (by simpa[hn] using hsz)
   have es:xs.toArray.size=n:=by simpa using hn
   rw[es] at hx;refine hx.mono ?_;rintro e w' ⟨rfl,d',q,os,hp,hs,rfl⟩;have hd:d'.size=n:=by rw[hp.1];exact es
   obtain⟨ys,rfl⟩:∃ys:List α,d'=ys.toArray:=⟨d'.toList,by simp⟩
   have hyl:ys.length=n:=by simpa using hd
   have hcs:xs.length*c≤cur.size:=by rw[hn,hcur];exact Nat.mul_le_mul_right _ hcap
   obtain⟨cur',e1,e2,e3⟩:=Na (q:=q) (os:=os) (ys:=ys) hk h0 hg hcs (by rw[hyl,hn]);refine⟨_,oI E c (some ⟨g,0,none⟩) n cap (ys.flatMap enc),rfl,?_,rfl,ys,rfl,?_,?_⟩
   · refine m.put k hi rfl rfl rfl ?_ (fun b hb hne=>?_) ?_ (.inl fun _ h=>h)
     · simp[sortWorldK,putRowK,putRow,mapBlock,grow,ahead]
     · have hbg:g≠b:=fun e=>hne (by rw[e];rfl)
       unfold sortWorldK putRowK putRow mapBlock grow;simp only;rw[Array.getElem?_append_left (by simpa[ahead] using hb),im,if_neg hbg];rfl
     · refine⟨?_,.inr ⟨g,cap,cur',rfl,cd _,e1,hcap,hmax,by rw[e2,hcur],?_⟩⟩
       · have:=uN hk h0 ys
         rw[←this];simp[hyl]
       · rw[←hn];exact e3
   · have:=hp.2.2
     simpa[hyl,hn,be (Nat.le_of_eq hyl),be (Nat.le_of_eq hn),List.extract_eq_take_drop] using this
   · rw[List.pairwise_iff_getElem]
     intro i j hi' hj' hij;have:=hs i j (cd _) hij (by rw[←hyl];exact hj');rw[getElem!_pos _ i (by simpa using hi'),getElem!_pos _ j (by simpa using hj')] at this;simpa using this
end
end Go.Lith
namespace Go.Lith
open Go.RowKit Go.Sort
instance:Inhabited P3:=⟨⟨0,0,0⟩⟩
def dN(p:P3):List ac:=[.int .i64 p.x,.int .i64 p.y,.int .i64 p.z]
theorem Gk(p:P3):∀v∈dN p,v.oneCell'=true:=fun v h=>by
 simp only[dN,ak,bw,or_false] at h;rcases h with rfl | rfl | rfl <;> rfl
theorem kI(p q:P3):(nX p q<0)↔p.Lt q:=by
 unfold nX;split
 · simp[*]
 · split <;> simp[*]
theorem Up:SWO (Go.Proofs.ltOf nX) where
 irrefl x:=by simp[Go.Proofs.ltOf,kI,P3.lt_irrefl]
 trans x y z h1 h2:=by
  simp only[Go.Proofs.ltOf,decide_eq_true_eq,kI] at *
  exact P3.lt_trans h1 h2
 ntrans x y z h1 h2:=by
  simp only[Go.Proofs.ltOf,decide_eq_false_iff_not,kI] at *
  unfold P3.Lt at *
  omega
theorem lY.len{K V:Type}[DecidableEq K]{ek:K→ac}{en:V→ac}{D dn rs:List (K × V)}{es:Array bx}{seen:Array Nat}(h:lY ek en D es seen dn rs):dn.length+rs.length=D.length:=by
 have:=h.1.length_eq;simpa using this
theorem Cw{K V:Type}[DecidableEq K]{ek:K→ac}{en:V→ac}{D dn rs:List (K × V)}{es:Array bx}{b:Bool}{kv vv:ac}{sn:Array Nat}(hb:b=false)(h:Nxt ek en D es dn rs b kv vv sn):rs=[]:=by
 rcases h with ⟨_,h⟩ | ⟨h,_⟩
 · exact h
 · rw[h] at hb;cases hb
theorem Cx{K V:Type}[DecidableEq K]{ek:K→ac}{en:V→ac}{D dn rs:List (K × V)}{es:Array bx}{b:Bool}{kv vv:ac}{sn:Array Nat}(hb:b=true)(h:Nxt ek en D es dn rs b kv vv sn) :
 ∃k v rs',rs.Perm ((k,v)::rs')∧lY ek en D es sn (dn++[(k,v)]) rs':=by
 rcases h with ⟨h,_⟩ | ⟨_,k,v,rs',h1,_,_,h2⟩
 · rw[h] at hb;cases hb
 · exact⟨k,v,rs',h1,h2⟩
def wU(D:List (P3 × Bool))(ps:List P3):List (P3 × Bool):=ps.foldl (fun D p=>eP D p true) D
theorem Uq{K V:Type}[DecidableEq K](D:List (K × V))(k a:K)(v:V):a∈(eP D k v).map (·.1)↔a∈D.map (·.1)∨a=k:=by
 rw[tN];split
 · exact⟨.inl,fun h=>h.elim id (fun e=>e▸‹_›)⟩
 · simp
theorem Om:∀(ps:List P3) (D:List (P3 × Bool)) (a:P3),a∈(wU D ps).map (·.1)↔a∈D.map (·.1)∨a∈ps
 | [],D,a=>by simp[wU]
 | p::ps,D,a=>by
  have:=Om ps (eP D p true) a;unfold wU at this ⊢;rw[ik,this,Uq,ak,or_assoc]
theorem Gl:∀(ps:List P3) (D:List (P3 × Bool)),(D.map (·.1)).Nodup→((wU D ps).map (·.1)).Nodup
 | [],_,h=>h
 | p::ps,D,h=>Gl ps (eP D p true) (rL h p true)
theorem sE{K V:Type}[DecidableEq K]:∀(D:List (K × V)) (k:K) (v:V),(eP D k v).length≤D.length+1
 | [],_,_=>by simp[eP]
 | x::D,k,v=>by
  unfold eP;split
  · simp
  · simp only[au]
    exact Nat.succ_le_succ (sE D k v)
theorem Cy:∀(ps:List P3) (D:List (P3 × Bool)),(wU D ps).length≤D.length+ps.length
 | [],D=>ap _
 | p::ps,D=>Nat.le_trans (Cy ps (eP D p true)) (by
  have:=sE D p true;simp only[au];omega)
theorem ab3(D:List (P3 × Bool))(ps qs:List P3):wU D (ps++qs)=wU (wU D ps) qs:=iw ..
def dL(ts:List T3):List P3:=ts.flatMap fun t=>[t.a,t.b,t.c]
def rN(ps:List P3):Prop:=ps.Pairwise fun a b=>a.Lt b
theorem ab4{ps:List P3}(hn:ps.Nodup)(h:ps.Pairwise fun a b=>¬b.Lt a):rN ps:=by
 have:=hn.and h;exact this.imp fun {a b} h=>(P3.lt_tri a b).resolve_right (by rintro (e | e);exact h.1 e;exact h.2 e)
end Go.Lith
namespace Go.Lith
open Go.RowKit
theorem ab5{α:Type}{ps:List α}{k:Nat}{p:α}(h:ps[k]? = some p):ps.take (k+1)=ps.take k++[p]:=by
 rw[mr,h];rfl
theorem Ka{ts:List T3}{k:Nat}{t:T3}(h:ts[k]? = some t):dL (ts.take (k+1))=dL (ts.take k)++[t.a,t.b,t.c]:=by
 unfold dL;rw[ab5 h,av];simp
theorem Yl{ts:List T3}{k:Nat}{t:T3}(h:ts[k]? = some t):wU [] (dL (ts.take (k+1)))=eP (eP (eP (wU [] (dL (ts.take k))) t.a true) t.b true) t.c true:=by
 rw[Ka h,ab3];rfl
theorem qL(ts:List T3):(dL ts).length=ts.length*3:=by
 unfold dL
 induction ts with
 | nil=>rfl
 | cons t ts ih=>rw[cw,aw,ih];simp only[au,List.length_nil];omega
theorem aea{ps:List P3}:(ps.flatMap dN).length=ps.length*3:=by
 induction ps with
 | nil=>rfl
 | cons p ps ih=>rw[cw,aw,ih,show (dN p).length=3 from rfl,au];omega
theorem Bc{α:Type}{R:α→α→Prop}(irr:∀a,¬R a a)(tr:∀a b c,R a b→R b c→R a c):∀{l m:List α},l.Pairwise R→m.Pairwise R→(∀a,a∈l↔a∈m)→l=m
 | [],[],_,_,_=>rfl
 | [],y::m,_,_,h=>absurd ((h y).2 (bp ..)) (by simp)
 | x::l,[],_,_,h=>absurd ((h x).1 (bp ..)) (by simp)
 | x::l,y::m,hl,hm,h=>by
  obtain⟨h1,h2⟩:=bj.1 hl;obtain⟨k1,k2⟩:=bj.1 hm;have e:x=y:=by
   rcases ak.1 ((h x).1 (bp ..)) with e | hx
   · exact e
   · rcases ak.1 ((h y).2 (bp ..)) with e | hy
     · exact e.symm
     · exact absurd (tr _ _ _ (h1 y hy) (k1 x hx)) (irr x)
  subst e;rw[Bc irr tr h2 k2 fun a=>⟨fun ha=>?_,fun ha=>?_⟩]
  · rcases ak.1 ((h a).1 (bm _ ha)) with rfl | k
    · exact absurd (h1 a ha) (irr a)
    · exact k
  · rcases ak.1 ((h a).2 (bm _ ha)) with rfl | k
    · exact absurd (k1 a ha) (irr a)
    · exact k
/-! ### Edges in order -/
def Gm(a b:E3):Prop:=a.1.Lt b.1∨a.1=b.1∧a.2.Lt b.2
theorem aaS{a b:E3}:ltE a b=true↔Gm a b:=by
 unfold ltE Gm;by_cases h:a.1=b.1
 · rw[if_neg (not_not_intro h),decide_eq_true_eq]
   exact⟨fun k=>.inr ⟨h,k⟩,fun k=>k.elim (fun k=>absurd (h▸k) (P3.lt_irrefl _)) (·.2)⟩
 · rw[if_pos h,decide_eq_true_eq]
   exact⟨.inl,fun k=>k.elim id (fun k=>absurd k.1 h)⟩
theorem Gm.irrefl(a:E3):¬Gm a a:=fun h=>h.elim (P3.lt_irrefl _) fun h=>P3.lt_irrefl _ h.2
theorem Gm.trans{a b c:E3}(h:Gm a b)(k:Gm b c):Gm a c:=by
 rcases h with h | ⟨h,h'⟩
 · rcases k with k | ⟨k,_⟩
   · exact .inl (P3.lt_trans h k)
   · exact .inl (k▸h)
 · rcases k with k | ⟨k,k'⟩
   · exact .inl (h▸k)
   · exact .inr ⟨h.trans k,P3.lt_trans h' k'⟩
theorem Gm.tri(a b:E3):Gm a b∨a=b∨Gm b a:=by
 rcases P3.lt_tri a.1 b.1 with h | h | h
 · exact .inl (.inl h)
 · rcases P3.lt_tri a.2 b.2 with k | k | k
   · exact .inl (.inr ⟨h,k⟩)
   · exact .inr (.inl (ml h k))
   · exact .inr (.inr (.inr ⟨h.symm,k⟩))
 · exact .inr (.inr (.inl h))
def oP(es:List E3):Prop:=es.Pairwise Gm
theorem Ur{es fs:List E3}(h:oP es)(k:oP fs)(e:∀a,a∈es↔a∈fs):es=fs:=Bc Gm.irrefl (fun _ _ _=>Gm.trans) h k e
theorem Rh{α:Type}{p:α→Bool}:∀(l:List α),l.take (l.takeWhile p).length=l.takeWhile p
 | []=>rfl
 | x::l=>by
  rw[jt];split
  · rw[au,jq,Rh l]
  · rfl
theorem Ri{α:Type}{p:α→Bool}:∀(l:List α),l.drop (l.takeWhile p).length=l.dropWhile p
 | []=>rfl
 | x::l=>by
  rw[jt,mc];split
  · rw[au,List.drop_succ_cons,Ri l]
  · rfl
theorem aaT(es:List E3)(e:E3):Xo es e=es.takeWhile (fun x=>ltE x e)++[e]++es.dropWhile (fun x=>ltE x e):=by
 unfold Xo abH;rw[Rh,Ri]
theorem aeb{es:List E3}{e x:E3}:x∈Xo es e↔x=e∨x∈es:=by
 rw[aaT]
 conv=>rhs;rw[←jo (p:=fun x=>ltE x e) (l:=es)]
 simp only[bg,ay];exact⟨fun h=>h.elim (fun h=>h.elim (fun h=>.inr (.inl h)) .inl) (fun h=>.inr (.inr h)),fun h=>h.elim (fun h=>.inl (.inr h)) (fun h=>h.elim (fun h=>.inl (.inl h)) .inr)⟩
theorem aiv{e:E3}:∀{es:List E3},oP es→e∉es→∀x∈es.dropWhile (fun x=>ltE x e),Gm e x
 | [],_,_,x,h=>by cases h
 | y::ys,hs,he,x,h=>by
  obtain⟨h1,h2⟩:=bj.1 hs;rw[mc] at h;split at h
  · exact aiv h2 (fun k=>he (bm _ k)) x h
  · rename_i hy
    have hy':Gm e y:=by
     rcases Gm.tri y e with k | k | k
     · exact absurd (aaS.2 k) hy
     · exact absurd (k▸bp ..) he
     · exact k
    rcases ak.1 h with rfl | h
    · exact hy'
    · exact hy'.trans (h1 x h)
theorem Ym{α:Type}{p:α→Bool}{x:α}:∀{l:List α},x∈l.takeWhile p→p x=true
 | [],h=>by cases h
 | y::l,h=>by
  rw[jt] at h;split at h
  · rename_i hy
    rcases ak.1 h with rfl | h
    · exact hy
    · exact Ym h
  · cases h
theorem anZ{e:E3}{es:List E3}:∀x∈es.takeWhile (fun x=>ltE x e),Gm x e:=fun x h=>aaS.1 (Ym (p:=fun x=>ltE x e) h)
theorem Us{es:List E3}{e:E3}(hs:oP es)(he:e∉es):oP (Xo es e):=by
 rw[aaT];have h0:=hs;rw[oP,←jo (p:=fun x=>ltE x e) (l:=es)] at h0;obtain⟨h1,h2,h3⟩:=fg.1 h0;refine fg.2 ⟨fg.2 ⟨h1,List.pairwise_singleton _ _,fun x hx y hy=>?_⟩,h2,fun x hx y hy=>?_⟩
 · rw[ay.1 hy];exact anZ x hx
 · rcases bg.1 hx with hx | hx
   · exact h3 x hx y hy
   · rw[ay.1 hx];exact aiv hs he y hy
theorem rO{es:List E3}{e:E3}:0<kC es e↔e∈es:=by
 unfold kC;rw[List.length_pos_iff_exists_mem];simp
theorem Ew{all:List E3}:∀(es out:List E3),oP out→oP (es.foldl (nK all) out)∧∀x,x∈es.foldl (nK all) out↔x∈out∨x∈es∧(x.2,x.1)∉all
 | [],out,h=>⟨h,fun x=>by simp⟩
 | e::es,out,h=>by
  have key:oP (nK all out e)∧∀x,x∈nK all out e↔x∈out∨x=e∧(x.2,x.1)∉all:=by
   unfold nK;split
   · rename_i hc
     refine⟨h,fun x=>⟨.inl,fun k=>k.elim id fun q=>?_⟩⟩;obtain⟨rfl,q⟩:=q;exact hc.elim (fun hc=>absurd (rO.1 hc) q) (fun hc=>rO.1 hc)
   · rename_i hc
     have h1:e∉out:=fun k=>hc (.inr (rO.2 k));have h2:(e.2,e.1)∉all:=fun k=>hc (.inl (rO.2 k));refine⟨Us h h1,fun x=>aeb.trans ⟨fun k=>k.elim (fun k=>.inr ⟨k,k▸h2⟩) .inl,fun k=>k.elim .inr fun k=>.inl k.1⟩⟩
  obtain⟨i1,i2⟩:=Ew es (nK all out e) key.1;refine⟨i1,fun x=>?_⟩;rw[ik,i2,key.2,ak,or_assoc];refine or_congr Iff.rfl ⟨fun k=>k.elim (fun k=>⟨.inl k.1,k.2⟩) (fun k=>⟨.inr k.1,k.2⟩),fun k=>k.1.elim (fun h=>.inl ⟨h,k.2⟩) (fun h=>.inr ⟨h,k.2⟩)⟩
theorem Nb(ts:List T3):oP (bY ts):=(Ew (all:=bA ts) (bA ts) [] ji).1
theorem Yn{ts:List T3}{e:E3}:e∈bY ts↔e∈bA ts∧(e.2,e.1)∉bA ts:=by
 have:=(Ew (all:=bA ts) (bA ts) [] ji).2 e;unfold bY;rw[this];simp
/-! ### Keys put into a set -/
section
variable {K:Type} [DecidableEq K]
def eY(D:List (K × Bool))(ks:List K):List (K × Bool):=ks.foldl (fun D k=>eP D k true) D
theorem rP:∀(ks:List K) (D:List (K × Bool)) (a:K),a∈(eY D ks).map (·.1)↔a∈D.map (·.1)∨a∈ks
 | [],D,a=>by simp[eY]
 | k::ks,D,a=>by
  have:=rP ks (eP D k true) a;unfold eY at this ⊢;rw[ik,this,Uq,ak,or_assoc]
theorem Be:∀(ks:List K) (D:List (K × Bool)),(D.map (·.1)).Nodup→((eY D ks).map (·.1)).Nodup
 | [],_,h=>h
 | k::ks,D,h=>Be ks (eP D k true) (rL h k true)
theorem mS:∀(ks:List K) (D:List (K × Bool)),(eY D ks).length≤D.length+ks.length
 | [],_=>ap _
 | k::ks,D=>by
  have h1:=mS ks (eP D k true);have h2:=sE D k true;show (eY (eP D k true) ks).length≤_
  rw[au];omega
theorem Kb:∀(ks:List K) (D:List (K × Bool)) (a:K),bU (eY D ks) a=if a∈ks then some true else bU D a
 | [],D,a=>by simp[eY]
 | k::ks,D,a=>by
  have h:=Kb ks (eP D k true) a;show bU (eY (eP D k true) ks) a=_
  rw[h,kL];by_cases h1:a∈ks
  · rw[if_pos h1,if_pos (bm _ h1)]
  · rw[if_neg h1]
    by_cases h2:k=a
    · rw[if_pos h2,if_pos (h2▸bp ..)]
    · rw[if_neg h2,if_neg (fun k'=>(ak.1 k').elim (fun e=>h2 e.symm) h1)]
theorem aec(D:List (K × Bool))(ks ls:List K):eY D (ks++ls)=eY (eY D ks) ls:=iw ..
theorem pA(ks:List K)(a:K):(bU (eY [] ks) a).getD false=decide (a∈ks):=by
 rw[Kb];by_cases h:a∈ks
 · rw[if_pos h,decide_eq_true h];rfl
 · rw[if_neg h,decide_eq_false h];rfl
theorem Ut{ks:List K}{a:K}:(bU (eY [] ks) a).getD false=true↔a∈ks:=by
 rw[Kb];by_cases h:a∈ks
 · rw[if_pos h];exact⟨fun _=>h,fun _=>rfl⟩
 · rw[if_neg h];exact⟨fun k=>(by cases k),fun k=>absurd k h⟩
end
/-! ### No edge twice -/
theorem Ex{x e:E3}{es:List E3}:kC (x::es) e=(if x=e then 1 else 0)+kC es e:=by
 unfold kC;by_cases h:x=e
 · rw[lk (by simpa using h),au,if_pos h];omega
 · rw[ll (by simpa using h),if_neg h];omega
theorem On:∀{es:List E3},es.Nodup↔∀e,kC es e≤1
 | []=>by simp[kC]
 | x::es=>by
  rw[gm,On (es:=es)];constructor
  · rintro⟨h1,h2⟩ e
    rw[Ex];by_cases h:x=e
    · have:¬0<kC es e:=fun k=>h1 (h▸rO.1 k)
      rw[if_pos h];omega
    · rw[if_neg h];have:=h2 e;omega
  · intro h
    refine⟨fun k=>?_,fun e=>?_⟩
    · have h1:=h x
      rw[Ex,if_pos rfl] at h1;have:=rO.2 k;omega
    · have:=h e
      rw[Ex] at this;omega
theorem Rj{es:List E3}:(es.any fun e=>decide (1<kC es e))=decide (¬es.Nodup):=by
 rw[Bool.eq_iff_iff,dx,decide_eq_true_eq,On];constructor
 · rintro⟨e,_,h⟩ k
   have:=k e;simp only[decide_eq_true_eq] at h;omega
 · intro h
   obtain⟨e,he⟩:=Classical.not_forall.1 h;exact⟨e,rO.1 (by omega),by simpa using Nat.not_le.1 he⟩
theorem Kc{α:Type}{es:List α}{e:α}:(es++[e]).Nodup↔es.Nodup∧e∉es:=by
 rw[ix];constructor
 · rintro⟨h1,_,h3⟩
   exact⟨h1,fun k=>h3 e k e (by simp) rfl⟩
 · rintro⟨h1,h2⟩
   exact⟨h1,by simp,fun a ha b hb e'=>h2 (by rw[←ay.1 hb,←e'];exact ha)⟩
section
variable {K V:Type} [DecidableEq K]
def yS(D:List (K × V))(xs:List (K × V)):List (K × V):=xs.foldl (fun D x=>eP D x.1 x.2) D
theorem Uu:∀(xs D:List (K × V)) (k:K),(xs.map (·.1)).Nodup→bU (yS D xs) k=match bU xs k with | some v=>some v | none=>bU D k
 | [],D,k,_=>rfl
 | (a,v)::xs,D,k,h=>by
  rw[bn,gm] at h;have ih:=Uu xs (eP D a v) k h.2;show bU (yS (eP D a v) xs) k=_
  rw[ih,kL,bU];by_cases e:a=k
  · rw[if_pos e,if_pos e]
    have:bU xs k=none:=mP.2 (e▸h.1);rw[this]
  · rw[if_neg e,if_neg e]
theorem aed(D xs ys:List (K × V)):yS D (xs++ys)=yS (yS D xs) ys:=iw ..
def sV(D:List (K × Nat))(ks:List K):List (K × Nat):=ks.foldl (fun D k=>eP D k ((bU D k).getD 0+1)) D
def yT(ks:List K)(a:K):Nat:=(ks.filter fun x=>decide (x=a)).length
theorem yH{x a:K}{ks:List K}:yT (x::ks) a=(if x=a then 1 else 0)+yT ks a:=by
 unfold yT;by_cases h:x=a
 · rw[lk (by simpa using h),au,if_pos h];omega
 · rw[ll (by simpa using h),if_neg h];omega
theorem aee{a:K}{ks ls:List K}:yT (ks++ls) a=yT ks a+yT ls a:=by simp[yT]
theorem Uv:∀(ks:List K) (D:List (K × Nat)) (a:K),(bU (sV D ks) a).getD 0=(bU D a).getD 0+yT ks a
 | [],D,a=>rfl
 | k::ks,D,a=>by
  have h:=Uv ks (eP D k ((bU D k).getD 0+1)) a;show (bU (sV (eP D k ((bU D k).getD 0+1)) ks) a).getD 0=_
  rw[h,kL,yH];by_cases e:k=a
  · subst e
    rw[if_pos rfl,if_pos rfl,cv];omega
  · rw[if_neg e,if_neg e];omega
theorem aef(D:List (K × Nat))(ks ls:List K):sV D (ks++ls)=sV (sV D ks) ls:=iw ..
end
/-! ### What lies behind an edge -/
def lK(ts:List T3):List (E3 × P3):=ts.flatMap fun t=>[((t.a,t.b),t.c),((t.b,t.c),t.a),((t.c,t.a),t.b)]
theorem uO:∀ts:List T3,(lK ts).map (·.1)=bA ts
 | []=>rfl
 | t::ts=>by
  have:=uO ts;unfold lK bA at this ⊢;rw[cw,cl,this];rfl
theorem Yo{ts:List T3}{k:Nat}{t:T3}(h:ts[k]? = some t):lK (ts.take (k+1))=lK (ts.take k)++[((t.a,t.b),t.c),((t.b,t.c),t.a),((t.c,t.a),t.b)]:=by
 unfold lK;rw[cC h,av];simp
theorem uP(p q:P3):∀ts:List T3,bP ts p q=bU (lK ts) (p,q)
 | []=>rfl
 | t::ts=>by
  have ih:=uP p q ts;have e:lK (t::ts)=((t.a,t.b),t.c)::((t.b,t.c),t.a)::((t.c,t.a),t.b)::lK ts:=rfl;rw[e,bP,bU,bU,bU,←ih,T3.fnd];by_cases h1:t.a=p∧t.b=q
  · rw[if_pos h1,if_pos (ml h1.1 h1.2)]
  · rw[if_neg h1,if_neg (fun e=>h1 ⟨congrArg nl e,congrArg nc e⟩)]
    by_cases h2:t.b=p∧t.c=q
    · rw[if_pos h2,if_pos (ml h2.1 h2.2)]
    · rw[if_neg h2,if_neg (fun e=>h2 ⟨congrArg nl e,congrArg nc e⟩)]
      by_cases h3:t.c=p∧t.a=q
      · rw[if_pos h3,if_pos (ml h3.1 h3.2)]
      · rw[if_neg h3,if_neg (fun e=>h3 ⟨congrArg nl e,congrArg nc e⟩)]
theorem Cz{ts:List T3}(h:(bA ts).Nodup)(p q:P3):bU (yS [] (lK ts)) (p,q)=bP ts p q:=by
 rw[Uu _ _ _ (by rw[uO];exact h),uP];cases bU (lK ts) (p,q) <;> rfl
theorem ak4{ts:List T3}{x y z:P3}(h:((x,y),z)∈lK ts):((y,z),x)∈lK ts:=by
 obtain⟨t,ht,hx⟩:=dz.1 h;refine dz.2 ⟨t,ht,?_⟩;simp only[ak,bw,or_false,ff] at hx ⊢;rcases hx with ⟨⟨rfl,rfl⟩,rfl⟩ | ⟨⟨rfl,rfl⟩,rfl⟩ | ⟨⟨rfl,rfl⟩,rfl⟩
 · exact .inr (.inl ⟨⟨rfl,rfl⟩,rfl⟩)
 · exact .inr (.inr ⟨⟨rfl,rfl⟩,rfl⟩)
 · exact .inl ⟨⟨rfl,rfl⟩,rfl⟩
theorem Yp{ts:List T3}{p q x:P3}(h:bP ts p q=some x):((p,q),x)∈lK ts:=wS (by rw[←uP];exact h)
theorem Uw{ts:List T3}{p q x:P3}(h:bP ts p q=some x):(p,q)∈bA ts:=by
 rw[←uO];exact dj.2 ⟨_,Yp h,rfl⟩
theorem Ux{ts:List T3}{p q:P3}(h:(p,q)∈bA ts):∃x,bP ts p q=some x:=by
 rw[uP];cases e:bU (lK ts) (p,q) with
 | some x=>exact⟨x,rfl⟩
 | none =>
  have:=mP.1 e;rw[uO] at this;exact absurd h this
def Hj(ts:List T3)(p:P3):Nat→P3→Option P3
 | 0,x=>some x
 | n+1,x=>(bP ts p x).bind (Hj ts p n)
theorem aeg{ts:List T3}{p:P3}:∀(n:Nat) (x:P3),Hj ts p (n+1) x=(Hj ts p n x).bind (bP ts p)
 | 0,x=>by simp[Hj]
 | n+1,x=>by
  rw[Hj];cases h:bP ts p x with
  | none=>simp[Hj,h]
  | some y =>
   rw[jv,aeg n y,Hj,h];rfl
theorem Uy{ms:List T3}{p s:P3}:∀(n:Nat) (x:P3),lX ms p s n x=true↔∃j,1≤j∧j≤n∧Hj ms p j x=some s
 | 0,x=>⟨fun h=>(by cases h),fun⟨j,h1,h2,_⟩=>by omega⟩
 | n+1,x=>by
  cases h:bP ms p x with
  | none =>
   rw[Nx h];refine⟨fun k=>(by cases k),fun⟨j,h1,_,h3⟩=>?_⟩;obtain⟨i,rfl⟩:∃i,j=i+1:=⟨j-1,by omega⟩
   rw[Hj,h] at h3;cases h3
  | some y =>
   by_cases e:y=s
   · subst e
     rw[Ud h];exact⟨fun _=>⟨1,ap _,by omega,by simp[Hj,h]⟩,fun _=>rfl⟩
   · rw[Ny h e,Uy n y]
     constructor
     · rintro⟨j,h1,h2,h3⟩
       exact⟨j+1,by omega,by omega,by rw[Hj,h];exact h3⟩
     · rintro⟨j,h1,h2,h3⟩
       obtain⟨i,rfl⟩:∃i,j=i+1:=⟨j-1,by omega⟩
       rw[Hj,h,jv] at h3;cases i with
       | zero=>exact absurd (fw h3) e
       | succ i=>exact⟨i+1,by omega,by omega,h3⟩
def wV(nx:P3→Option P3)(s:P3):Nat→P3→Nat→P3 × Nat
 | 0,a,z=>(a,z)
 | n+1,a,z=>if a=s then (a,z) else match nx a with | none=>(a,z) | some b=>wV nx s n b (z+1)
theorem aeh{nx:P3→Option P3}{s:P3}{n z:Nat}:wV nx s n s z=(s,z):=by
 cases n with
 | zero=>rfl
 | succ n=>rw[wV,if_pos rfl]
theorem Rk{ts:List T3}{p s:P3}{M:Nat}:∀(n:Nat) (a:P3) (z:Nat),n=M+1-z→((wV (bP ts p) s n a z).1=s∧(wV (bP ts p) s n a z).2<M↔∃j,z≤j∧j<M∧Hj ts p (j-z) a=some s)
 | 0,a,z,h=>by
  rw[wV];refine⟨fun k=>?_,fun⟨j,h1,h2,_⟩=>?_⟩
  · have:=k.2;simp only at this;omega
  · omega
 | n+1,a,z,h=>by
  rw[wV];by_cases e:a=s
  · rw[if_pos e]
    refine⟨fun k=>⟨z,ap _,k.2,by rw[Nat.sub_self,Hj,e]⟩,fun⟨j,h1,h2,_⟩=>⟨e,by simp only;omega⟩⟩
  · rw[if_neg e]
    cases hb:bP ts p a with
    | none =>
     refine⟨fun k=>absurd k.1 e,fun⟨j,h1,h2,h3⟩=>?_⟩;cases hj:j-z with
     | zero=>rw[hj,Hj] at h3;exact absurd (fw h3) e
     | succ i=>rw[hj,Hj,hb] at h3;cases h3
    | some b =>
     rw[Rk n b (z+1) (by omega)];constructor
     · rintro⟨j,h1,h2,h3⟩
       refine⟨j,by omega,h2,?_⟩;rw[show j-z=(j-(z+1))+1 by omega,Hj,hb];exact h3
     · rintro⟨j,h1,h2,h3⟩
       rcases eo z j with hz | hz
       · refine⟨j,by omega,h2,?_⟩
         rw[show j-z=(j-(z+1))+1 by omega,Hj,hb] at h3;exact h3
       · rw[show j-z=0 by omega,Hj] at h3
         exact absurd (fw h3) e
/-! ### The triangles of a corner -/
theorem ahl{t:T3}{p q x:P3}(h:t.fnd p q=some x):∃c,c<3∧t.cor c=p:=by
 unfold T3.fnd at h;split at h
 · rename_i h';exact⟨0,by decide,h'.1⟩
 · split at h
   · rename_i h';exact⟨1,by decide,h'.1⟩
   · split at h
     · rename_i h';exact⟨2,by decide,h'.1⟩
     · cases h
theorem Yq{ts us:List T3}{p q:P3}:bP (ts++us) p q=match bP ts p q with | some x=>some x | none=>bP us p q:=by
 induction ts with
 | nil=>rfl
 | cons t ts ih =>
  rw[b_,bP,bP];cases t.fnd p q with
  | some x=>rfl
  | none=>exact ih
theorem ab6{t u:T3}{p:P3}(h:u∈tK p t 3):u=t∧∃c,c<3∧t.cor c=p:=by
 obtain⟨c,hc,h⟩:=dz.1 h;unfold Jl at h;split at h
 · rename_i e
   exact⟨ay.1 h,c,kz.1 hc,e⟩
 · cases h
theorem Yr{t:T3}{p:P3}{c:Nat}(hc:c<3)(h:t.cor c=p):t∈tK p t 3 :=
 dz.2 ⟨c,kz.2 hc,by rw[Jl,if_pos h];exact ay.2 rfl⟩
theorem Kd{t:T3}{p q:P3}:∀us:List T3,(∀u∈us,u=t)→bP us p q=if us=[] then none else t.fnd p q
 | [],_=>rfl
 | u::us,h=>by
  have e:=h u (bp ..);have ih:=Kd (p:=p) (q:=q) us fun v hv=>h v (bm _ hv);rw[bP,e,if_neg (by simp)];cases hf:t.fnd p q with
  | some x=>rfl
  | none =>
   simp only;rw[ih];split
   · rfl
   · exact hf
theorem Gn(p q:P3):∀ts:List T3,bP (lW ts p) p q=bP ts p q
 | []=>rfl
 | t::ts=>by
  have e:lW (t::ts) p=tK p t 3++lW ts p:=by simp[lW]
  rw[e,Yq,Gn p q ts,bP,Kd (t:=t) _ (fun u hu=>(ab6 hu).1)];by_cases h:tK p t 3=[]
  · rw[if_pos h]
    cases hf:t.fnd p q with
    | none=>rfl
    | some x =>
     obtain⟨c,hc,k⟩:=ahl hf;have:=Yr hc k;rw[h] at this;cases this
  · rw[if_neg h]<;>rfl
theorem Ke(ts:List T3)(p:P3):∀(n:Nat) (x:P3),Hj (lW ts p) p n x=Hj ts p n x
 | 0,_=>rfl
 | n+1,x=>by
  rw[Hj,Hj,Gn];cases bP ts p x with
  | none=>rfl
  | some y=>exact Ke ts p n y
theorem Uz(p:P3):∀ts:List T3,(lW ts p).length=yT (dL ts) p
 | []=>rfl
 | t::ts=>by
  have ih:=Uz p ts;have e:lW (t::ts) p=tK p t 3++lW ts p:=by simp[lW]
  have e2:dL (t::ts)=[t.a,t.b,t.c]++dL ts:=rfl;rw[e,e2,aw,aee,ih]
  congr 1
  have r3:ip 3=[0,1,2]:=rfl;unfold tK;rw[r3];simp only[cw,ly,e_,aw,Jl];rw[yH,yH,yH];have k:∀(c:Nat) (x:P3),t.cor c=x→(if t.cor c=p then [t] else []).length=if x=p then 1 else 0:=fun c x hx=>by
   subst hx;split <;> rfl
  rw[k 0 t.a rfl,k 1 t.b rfl,k 2 t.c rfl];rfl
theorem Oo{p s:P3}{ts:List T3}:s∈rI ts p↔(p,s)∈bA ts:=by
 unfold rI bA;rw[dz,dz];refine exists_congr fun t=>and_congr Iff.rfl ?_;unfold wN;rw[show ip 3=[0,1,2] from rfl];simp only[cw,ly,e_,bg,Jm,ak,bw,or_false,ff];have k:∀(c:Nat) (x y:P3),t.cor c=x→t.cor ((c+1)%3)=y→(s∈(if t.cor c=p then [t.cor ((c+1)%3)] else [])↔p=x∧s=y):=fun c x y hx hy=>by
  subst hx;subst hy;split
  · rename_i h;rw[ay];exact⟨fun e=>⟨h.symm,e⟩,fun e=>e.2⟩
  · rename_i h;exact⟨fun e=>(by cases e),fun e=>absurd e.1.symm h⟩
 rw[k 0 t.a t.b rfl rfl,k 1 t.b t.c rfl rfl,k 2 t.c t.a rfl rfl]
theorem Ey{ps:List P3}{p x:P3}:x∈gD ps p↔x=p∨x∈ps:=by
 unfold gD;split
 · rename_i h
   exact⟨.inr,fun k=>k.elim (fun e=>e▸ba h) id⟩
 · conv=>rhs;rw[←List.take_append_drop (Uc ps p) ps]
   simp only[bg,ay];exact⟨fun h=>h.elim (fun h=>h.elim (fun h=>.inr (.inl h)) .inl) (fun h=>.inr (.inr h)),fun h=>h.elim (fun h=>.inl (.inr h)) (fun h=>h.elim (fun h=>.inl (.inl h)) .inr)⟩
theorem wW{x:P3}{ts:List T3}:x∈dJ ts↔x∈dL ts:=by
 have:∀(ts:List T3) (ps:List P3),x∈ts.foldl (fun ps t=>gD (gD (gD ps t.a) t.b) t.c) ps↔x∈ps∨x∈dL ts:=by
  intro ts
  induction ts with
  | nil=>intro ps;simp[dL]
  | cons t ts ih =>
   intro ps;rw[ik,ih,Ey,Ey,Ey];have e:dL (t::ts)=[t.a,t.b,t.c]++dL ts:=rfl;rw[e];simp only[bg,ak,bw,or_false];constructor
   · rintro ((h | h | h | h) | h)
     · exact .inr (.inl (.inr (.inr h)))
     · exact .inr (.inl (.inr (.inl h)))
     · exact .inr (.inl (.inl h))
     · exact .inl h
     · exact .inr (.inr h)
   · rintro (h | (h | h | h) | h)
     · exact .inl (.inr (.inr (.inr h)))
     · exact .inl (.inr (.inr (.inl h)))
     · exact .inl (.inr (.inl h))
     · exact .inl (.inl h)
     · exact .inr h
 have:=this ts [];simpa[dJ] using this
theorem ab7{ts:List T3}{e:E3}(h:e∈bA ts):e.1∈dL ts∧e.2∈dL ts:=by
 obtain⟨t,ht,hx⟩:=dz.1 h;have key:∀x,x=t.a∨x=t.b∨x=t.c→x∈dL ts:=fun x hx=>dz.2 ⟨t,ht,by simpa using hx⟩;simp only[ak,bw,or_false] at hx;rcases hx with rfl | rfl | rfl
 · exact⟨key _ (.inl rfl),key _ (.inr (.inl rfl))⟩
 · exact⟨key _ (.inr (.inl rfl)),key _ (.inr (.inr rfl))⟩
 · exact⟨key _ (.inr (.inr rfl)),key _ (.inl rfl)⟩
def Rl(ts:List T3)(e:E3):Prop:=∃x,bP ts e.1 e.2=some x∧(wV (bP ts e.1) e.2 (yT (dL ts) e.1+1-1) x 1).1=e.2∧(wV (bP ts e.1) e.2 (yT (dL ts) e.1+1-1) x 1).2<yT (dL ts) e.1
theorem Va{ts:List T3}{e:E3}:Rl ts e↔e∈bA ts∧lX (lW ts e.1) e.1 e.2 ((lW ts e.1).length-1) e.2=true:=by
 rw[Uy,Uz];constructor
 · rintro⟨x,hx,h⟩
   obtain⟨j,h1,h2,h3⟩:=(Rk (M:=yT (dL ts) e.1) _ x 1 (by omega)).1 h;refine⟨Uw hx,j,h1,by omega,?_⟩;rw[Ke,show j=(j-1)+1 by omega,Hj,hx];exact h3
 · rintro⟨he,j,h1,h2,h3⟩
   obtain⟨x,hx⟩:=Ux he;refine⟨x,hx,(Rk (M:=yT (dL ts) e.1) _ x 1 (by omega)).2 ⟨j,h1,by omega,?_⟩⟩;rw[Ke,show j=(j-1)+1 by omega,Hj,hx] at h3;exact h3
theorem pinned{ts:List T3}:(dJ ts).any (Jo ts)=true↔∃e,Rl ts e:=by
 rw[dx];constructor
 · rintro⟨p,_,h⟩
   obtain⟨s,hs,hr⟩:=dx.1 h;exact⟨(p,s),Va.2 ⟨Oo.1 hs,hr⟩⟩
 · rintro⟨e,h⟩
   obtain⟨he,hr⟩:=Va.1 h;exact⟨e.1,wW.2 (ab7 he).1,dx.2 ⟨e.2,Oo.2 he,hr⟩⟩
end Go.Lith
