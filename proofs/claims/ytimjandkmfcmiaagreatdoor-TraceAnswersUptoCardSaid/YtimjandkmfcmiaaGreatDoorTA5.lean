/-
 Texts of one claim, laid together: Map2, Sort, Sets, Guard, Open, Surf, Box, Ray2, Ray3, Ray4, Ray5, Ray6, Ray7, Ray8, Ray9.
-/
import Derived.Shelf.SlSortCmp.WholeK
import Derived.Shelf.SlSortCmp.NoneTotal
import Derived.OpenShut
import Derived.Lib.SmallJoins
import Derived.Deep.Slices
import Derived.Test.YtimjandkmfcmiaaGreatDoorTA4
open Go renaming wp_region_lit→aa,Value→aj,wp_skip→ar,wp_block→av,World→aw,wp_ret→bc,TypeId→be,wpList→bh,Operand→bm,wp_exit→bw,Program→cj,wp_loop_rounds→cz,Deferred→dp,MapEntry→fr
open Nat renaming reduceAdd→ab,reduceMul→ag,zero_add→ah,le_refl→bi,zero_le→cd,min_eq_left→co,add_mul→e_,le_of_not_lt→gx
open Go.Exit renaming inBlock→ac,«then»→af
open Int renaming reduceToNat→ae,tdiv_eq_ediv_of_nonneg→fm,tmod_eq_emod_of_nonneg→j_,le_refl→k_
open Rat renaming divInt→am,le_trans→gh,le_refl→gn
open List renaming getElem?_eq_getElem→ao,length_append→bg,getElem?_eq_none→bj,length_take→bl,mem_cons→bn,take_of_length_le→bp,getElem?_eq_some_iff→bq,getElem?_append_left→bv,eq_nil_of_length_eq_zero→bz,mem_singleton→b_,mem_of_getElem?→cc,length_cons→ci,getElem?_append_right→cq,flatMap_append→cr,mem_cons_self→cu,mem_cons_of_mem→cw,getElem?_drop→cx,drop_eq_getElem_cons→dc,getElem_mem→dl,flatMap_cons→dv,mem_append→dx,getElem?_take→dz,ext_getElem?→er,mem_flatMap→fa,mem_of_mem_take→fd,range→fj,mem_range→fw,not_mem_nil→ga,foldl_append→gg,getElem_of_mem→gj,mk_mem_zipIdx_iff_getElem?→gr,getElem?_set→ie,length_range→ig,foldl_cons→ir,range_succ→iu,take_succ_cons→iz,take_add_one→jt,getElem?_cons_succ→kr
open Bool renaming and_eq_true→bu
open Go.Oper renaming mk→bx
open Array renaming getElem?_eq_some_iff→cy,getElem?_eq_getElem→de,getElem?_toList→gw
open BitVec renaming ofInt→da,toNat_ofInt→jj
open Option renaming some→gm
open Prod.mk renaming inj→mv
set_option maxHeartbeats 8000000
set_option linter.unusedSimpArgs false
set_option linter.unusedVariables false
set_option linter.unusedSectionVars false
namespace Go.Lith
open Go.RowKit Go.ChangeMaps Go.MapKept
section
variable {K V:Type} [DecidableEq K] {P:cj} {T M E ty:be} {ek:K→aj} {en:V→aj} {w w0:aw} {g c:Nat} {es:Array fr} {D:List (K × V)} {is:List It}
variable {ds:List dp} {l:List aj} {x y z:bm} {ops:Array Oper} {Q:Exit→Act→aw→Prop} {rest:List Oper} {d:Nat} {pos:String} {after:Array Edge}
theorem Yc{v0:V}{k:K}(hu:P.underlying M=some (.map T E))(hz:mB P E (en v0))(kt:Gl P T ek)(hx:ev l x=.map (some g))(hy:ev l y=ek k)(hM:sE w g es c)(hD:lH ek en D es c):Dc P l (.lookup M x y false) ty (en ((vH D k).getD v0)) w:=fun o ho _=>by
 have:=Mq hu kt hM hD hz k false;simp only[Bool.false_eq_true,if_false] at this;simp[execOp,ho,dV,hx,hy,this]
theorem aaX{v:V}{a:K}(m:cK w0 w is)(k:Nat)(hk:is[k]? = some (mI g es c))(hu:P.underlying M=some (.map T E))(kt:Gl P T ek)(hx:ev l x=.map (some g))(hy:ev l y=ek a)(hz:ev l z=en v)(hD:lH ek en D es c)
 (h:∀es' c' u,cK w0 u (is.set k (mI g es' c'))→lH ek en (pA D a v) es' c'→bh P ops Q rest (Fr l ds) u):bh P ops Q (bx none (.mapUpdate M x y z) ty pos after none::rest) (Fr l ds) w:=by
 have hM:=m.p k hk;obtain⟨es',c',hr,hD'⟩:=Mr hu kt hM hD a v;have hC:=Kf (w:=w) (g:=g) (.map es' c');refine Iq (w':=setBlock w g (.map es' c')) (fun o ho=>by simp[execOp,ho,dV,hx,hy,hz,hr]) (h es' c' _ ?_ hD');exact m.put k hk hC.os hC.tape hC.output (by rw[hC.size];exact bi _) (fun b _ hne=>hC.block b fun e=>hne (by rw[e];rfl)) (wR hM) (.inl fun _ h=>h)
theorem afP{r:Nat}{seen:Array Nat}{dn rs:List (K × V)}(m:cK w0 w is)(k:Nat)(hk:is[k]? = some (iI r g c seen))(hx:ev l x=.pointer (some ⟨r,0,none⟩))(hM:sE w g es c)(hD:lH ek en D es c)(hT:yR ek en D es seen dn rs)
 (h:∀b kv vv seen' u,cK w0 u (is.set k (iI r g c seen'))→Nxt ek en D es dn rs b kv vv seen'→bh P ops Q rest (Fr (l.set d (Ms b kv vv)) ds) u) :
 bh P ops Q (bx (some d) (.next x false) ty pos after none::rest) (Fr l ds) w:=by
 have hI:=m.r k hk;obtain⟨b,kv,vv,seen',w1,hw1,hr,hN⟩:=Uf (P:=P) (ty:=ty) (s:=0) hI hM hD hT;refine mC (w':=setBlock w1 r (.mapIter (some g) c seen' c)) (v:=Ms b kv vv) (fun o ho hty=>by simp[execOp,ho,dV,hx,hty,hr]) (h b kv vv seen' _ ?_ hN);have e1:w1.heap=w.heap∧w1.os=w.os∧w1.tape=w.tape∧w1.output=w.output:=by rcases hw1 with rfl | rfl <;> exact⟨rfl,rfl,rfl,rfl⟩
 refine m.put k hk e1.2.1 e1.2.2.1 e1.2.2.2 (by simp[setBlock,e1.1]) (fun b' _ hne=>?_) ?_ (.inl fun _ h=>h)
 · have:b'≠r:=fun e=>hne (by rw[e];rfl)
   simp only[setBlock,e1.1];exact Array.getElem?_setIfInBounds_ne (Ne.symm this)
 · exact wR (w:=w1) (o:=.mapIter (some g) c seen c) (by rw[e1.1];exact hI)
theorem aaY{b:Bool}{kv vv:aj}(hx:ev l x=Ms b kv vv):iG P l (.extract x 0) ty (.bool b):=fun w o ho _=>by
 cases b <;> simp[execOp,ho,dV,hx,Ms,Instr.extract]
theorem aaZ{r:Nat}{seen:Array Nat}{dn rs:List (K × V)}{k:K}{v:V}(hx:ev l x=.pointer (some ⟨r,0,none⟩))(hI:Bu w r g c seen c)(hM:sE w g es c)(hD:lH ek en D es c)(hT:yR ek en D es seen (dn++[(k,v)]) rs) :
 Dc P l (.entry x) ty (.tuple #[ek k,en v]) w:=fun o ho _=>by
 have:=Ps (P:=P) hI hM hD hT;simp[execOp,ho,dV,hx,this]
theorem Kg{f:FuncId}{fo:bm}{xs:Array bm}{args:List aj}{first cap:Array aj}{a0:Array be}{R:aj→It→Prop}(m:cK w0 w is)(k:Nat)(hE:bL P f)(hf:ev l fo=.func (.func f) first cap)(hxs:first.toList++xs.toList.map (ev l)++cap.toList=args)
 (hc:cK w0 w is→Calls P f args.toArray w fun e w'=>∃v i,e=.returned v∧cK w0 w' (is.set k i)∧R v i) (h:∀v i u,cK w0 u (is.set k i)→R v i→bh P ops Q rest (Fr (l.set d v) ds) u) :
 bh P ops Q (bx (some d) (.call { callee:=.value fo,args:=xs,argTypes:=a0 }) ty pos after none::rest) (Fr l ds) w:=by
 refine wpList_plain rfl fun K hK=>?_;unfold Oper.wp;rw[jS,oU hE hf hxs _ rfl];refine (hc m).mono ?_;rintro e w' ⟨v,i,rfl,hM,hR⟩;show K ((Fr l ds).put (some d) v) w'
 rw[jM];exact hK _ _ (h v i w' hM hR)
end
theorem Rt{P:cj}{Q:Exit→Act→aw→Prop}{l:List aj}{ds:List dp}{c1 c2:Code}{w:aw}{x:bm}{b:Bool}(hx:ev l x=.bool b)(ht:b=true→c1.wp P Q (Fr l ds) w)(hf:b=false→c2.wp P Q (Fr l ds) w):(Code.cond x c1 c2).wp P Q (Fr l ds) w:=pK hx ht hf
theorem Yd{α:Type}{is:List α}{k:Nat}{i:α}(h:is[k]? = some i):is.set k i=is:=by
 apply er;intro j;rw[ie];split
 · rename_i e;subst e
   have:=(bq.1 h).1;rw[if_pos this,h]
 · rfl
theorem Hq{K V:Type}[DecidableEq K]:∀{D:List (K × V)} {k:K} {v:V},vH D k=some v→pA D k v=D
 | [],_,_,h=>by cases h
 | x::D,k,v,h=>by
  unfold vH at h;unfold pA;split at h
  · rename_i e;cases h;subst e;rw[if_pos rfl]
  · rename_i e;rw[if_neg e,Hq h]
/-! ### Keys -/
def CkR(P:cj)(e:Bool)(d:Nat)(T:be)(x:aj):Prop:=∀w,(Instr.checkKey e d T x).run P w=.ok () w
section
variable {P:cj} {e:Bool} {d:Nat} {T E:be}
theorem uM{β:Type}{w:aw}(g:β→PUnit→Sem (ForInStep PUnit)):∀(L:List β),(∀x∈L,(g x ⟨⟩).run P w=.ok (.yield ⟨⟩) w)→(forIn L PUnit.unit g:Sem PUnit).run P w=.ok ⟨⟩ w
 | [],_=>by simp
 | x::L,h=>by
  simp only[List.forIn_cons,Sem.run_bind,h x (cu ..),Result.andThen_ok];exact uM g L fun y hy=>h y (cw _ hy)
theorem CkR.int{k k':IntKind}{n:Int}(hu:P.underlying T=some (.int k')):CkR P e (d+1) T (.int k n):=fun w=>by
 unfold Instr.checkKey;simp[run_underlying hu]
theorem CkR.struct{fs:Array Field}{cs:Array aj}(hu:P.underlying T=some (.struct fs))(h:∀f∈fs.toList,∃v,(∀w,(part f.type cs f.offset).run P w=.ok v w)∧CkR P e d f.type v):CkR P e (d+1) T (.agg cs):=fun w=>by
 unfold Instr.checkKey;simp only[Sem.run_bind,run_underlying hu,Result.andThen_ok];rw[←Array.forIn_toList];refine (congrArg (fun r=>Result.andThen r _) (uM _ fs.toList fun f hf=>?_)).trans (by rfl);obtain⟨v,h1,h2⟩:=h f hf;by_cases hn:f.name = "_"
 · simp[hn]
 · simp[hn,h1 w,h2 w]
theorem Gl.agg{K:Type}[DecidableEq K]{ek:K→aj}{cs:K→Array aj}(ha:∀k,ek k=.agg (cs k)){t:TypeDesc}(ht:P.underlying T=some t)(hc:∀e k,CkR P e 10000 T (ek k))(he:∀a b,tN P 10000 T (ek a) (ek b) (a=b))(hb:∀a,Instr.sameBits 10000 (ek a) (ek a)=true):Gl P T ek where
 chk e k w:=hc e k w
 now:=⟨t,ht,fun a b=>.inl (by rw[ha,ha];cases t <;> rfl)⟩
 eq a b w:=tO (he a b) w
 bits:=hb
end
end Go.Lith
namespace Go.Lith
open Go.RowKit Go.Proofs Go.Sort Go.Shelf
theorem Ye{α:Type}{enc:α→List aj}{k:Nat}(hk:∀x,(enc x).length=k)(h0:0<k):∀(L:List α) (t:Nat),(L.flatMap enc)[t]? = (L[t / k]?).bind fun x=>(enc x)[t%k]?
 | [],t=>by simp
 | x::L,t=>by
  rw[dv,List.getElem?_append];by_cases h:t<k
  · rw[if_pos (by rw[hk];exact h),Nat.div_eq_of_lt h,Nat.mod_eq_of_lt h]
    rfl
  · rw[if_neg (by rw[hk];exact h),hk,Ye hk h0 L (t-k)]
    have e1:t / k=(t-k) / k+1:=by rw[Nat.div_eq t k,if_pos ⟨h0,gx h⟩]
    have e2:t%k=(t-k)%k:=Nat.mod_eq_sub_mod (gx h);rw[e1,e2,kr]
theorem uD{α:Type}[Inhabited α]{enc:α→List aj}{k:Nat}(hk:∀x,(enc x).length=k)(h0:0<k)(L:List α):(flatK enc k L.toArray).toList=L.flatMap enc:=by
 have hlen:(L.flatMap enc).length=L.length*k:=by
  induction L with
  | nil=>simp
  | cons x L ih=>rw[dv,bg,ih,hk,ci,e_];omega
 apply er;intro t;by_cases ht:t<L.length*k
 · have hd:t / k<L.length:=by
    rw[Nat.div_lt_iff_lt_mul h0];exact ht
   have hm:t%k<k:=Nat.mod_lt _ h0;have h1:=get_flatK enc k L.toArray t (by simpa using ht);rw[getElem!_pos _ t (by simpa using ht)] at h1;rw[Ye hk h0,ao hd,Option.bind_some,gw,de (by simpa using ht),h1,ao (show t%k<(enc L[t / k]).length by rw[hk];exact hm)]
   congr 1
   rw[getElem!_pos L.toArray _ (by simpa using hd),List.getElem_toArray,getElem!_pos _ _ (by rw[hk];exact hm)]
 · rw[bj (by simpa using gx ht),bj (by rw[hlen];exact gx ht)]
section
variable {α:Type} [Inhabited α] {P:cj} {ρ:Ren} {enc:α→List aj} {c:Nat} {E:be} {w w0:aw} {is:List It} {A:Option Addr} {n cap:Nat}
theorem Ug{g:Nat}{xs:List α}{cur:Array aj}(hk:∀x,(enc x).length=c)(h0:0<c)(hg:w.heap[g]? = some (.cells cur E (0,0)))(h:cur.toList.take (xs.length*c)=xs.flatMap enc):HoldsK enc c w g 0 xs.toArray:=by
 intro j hj;have hl:=uD hk h0 xs;have hj':j<xs.length*c:=by simpa using hj
 have e:(flatK enc c xs.toArray)[j]? = cur[j]?:=by
  rw[←gw,hl,←h,dz,if_pos hj',gw]
 rw[de hj] at e;refine⟨?_,?_⟩
 · simp only[World.cell?,hg,ah,Option.isSome_none,Bool.false_eq_true,if_false]
   rw[←e,getElem!_pos _ j hj];rfl
 · simp[World.frozen?,hg]
theorem Gm{g:Nat}{xs ys:List α}{cur:Array aj}{q:Nat}{os:Array Obj}(hk:∀x,(enc x).length=c)(h0:0<c)(hg:w.heap[g]? = some (.cells cur E (0,0)))(hl:xs.length*c≤cur.size)(hlen:ys.length=xs.length) :
 ∃cur':Array aj,(sortWorldK enc c w g 0 q ys.toArray os).heap[g]? = some (.cells cur' E (0,0))∧cur'.size=cur.size∧cur'.toList.take (xs.length*c)=ys.flatMap enc:=by
 have hlt:g<w.heap.size:=(cy.1 hg).1;refine⟨putCells id 0 (flatK enc c ys.toArray) cur,?_,by simp[putCells],?_⟩
 · unfold sortWorldK putRowK putRow mapBlock grow
   simp only;rw[Array.getElem?_append_left (by simpa[ahead] using hlt),Array.getElem?_modify];simp[ahead,hg,onCells]
 · have hf:=uD hk h0 ys
   apply er;intro t;rw[dz,←hf,gw,gw];have hs:(flatK enc c ys.toArray).size=xs.length*c:=by simp[hlen]
   split
   · rename_i ht
     have:t<cur.size:=Nat.lt_of_lt_of_le ht hl;simp only[putCells,Array.getElem?_mapIdx,de this,Option.map_some,cd,ah,true_and,Nat.sub_zero,hs,ht,if_true];rw[de (by rw[hs];exact ht),getElem!_pos _ t (by rw[hs];exact ht)];rfl
   · rename_i ht
     rw[Array.getElem?_eq_none (by rw[hs];exact gx ht)]
theorem Yf(L:SlLaysF0.n6 P ρ)(aE:∀w,(isAgg (ρ.t 24)).run P w=.ok true w)(zE:∀w,(Go.sizeOf (ρ.t 24)).run P w=.ok c w)(hk:∀x,(enc x).length=c)(h0:0<c)(h1:∀x,∀v∈enc x,v.oneCell'=true)
 (cf:α→α→Int) (hO:SWO (ltOf cf)) {f:FuncId} (hcmp:∀x y,yQ P f [.agg (enc x).toArray,.agg (enc y).toArray] (.int .i64 (cf x y))) {xs:List α} (m:cK w0 w is) (k:Nat) (hi:is[k]? = some (oI E c A n cap (xs.flatMap enc))) (hsz:n<4611686018427387904) :
 Calls P (ρ.f 6) #[.slice A n cap,.func (.func f) #[] #[]] w fun e w'=>∃v i,e=.returned v∧cK w0 w' (is.set k i)∧(v=.tuple #[]∧∃ys:List α,i=oI E c A n cap (ys.flatMap enc)∧ys.Perm xs∧ys.Pairwise fun a b=>ltOf cf b a=false):=by
 have h:w.ownsRow 0 E c (.slice A n cap) n (xs.flatMap enc):=m.get k hi;have hlen:(xs.flatMap enc).length=xs.length*c:=by
  have:=uD hk h0 xs;rw[←this];simp
 have hn:xs.length=n:=by
  have:=h.1;rw[hlen] at this;exact Nat.eq_of_mul_eq_mul_right h0 this
 have hge:=fun b hb=>m.ge _ (cc hi) b hb;rcases mK h with ⟨rfl,rfl,rfl,hx⟩ | ⟨g,cur,rfl,_,hg,hcap,hmax,hcur,htake⟩
 · refine (AnyF.slices_SortFunc_none L none 0 _ w).mono ?_
   rintro e w' ⟨rfl,rfl⟩;obtain rfl:xs=[]:=bz hn;refine⟨_,oI E c none 0 0 [],rfl,?_,rfl,[],rfl,List.Perm.refl _,.nil⟩;have:is.set k (oI E c none 0 0 [])=is:=by
    apply er;intro j;rw[ie];split
    · rename_i e;subst e
      have:=(bq.1 hi).1;rw[if_pos this,hi];rfl
    · rfl
   rw[this];exact m
 · have hlt:g<w.heap.size:=(cy.1 hg).1
   rw[←hn] at htake;have hH:=Ug (xs:=xs) hk h0 hg htake;have hx:=AnyQ.slices_SortFunc L c aE zE enc hk h1 cf hO f #[] g 0 cap xs.toArray w (fun args w'=>xO (hcmp default default w').1) (fun mm os dk _ x y=>by
    have:=((hcmp x y (sortWorldK enc c w g 0 mm dk os)).2.mono fun e w' h=>(show e=.returned (.int .i64 (cf x y))∧∃q os',w'=grow ((sortWorldK enc c w g 0 mm dk os).drewN q) os' from by obtain⟨u,rfl,hX,rfl⟩:=h;exact⟨rfl,hX.grow⟩))
    simpa using this) hH hlt (by simpa[hn] using hsz)
   have es:xs.toArray.size=n:=by simpa using hn
   rw[es] at hx;refine hx.mono ?_;rintro e w' ⟨rfl,d',q,os,hp,hs,rfl⟩;have hd:d'.size=n:=by rw[hp.1];exact es
   obtain⟨ys,rfl⟩:∃ys:List α,d'=ys.toArray:=⟨d'.toList,by simp⟩
   have hyl:ys.length=n:=by simpa using hd
   have hcs:xs.length*c≤cur.size:=by rw[hn,hcur];exact Nat.mul_le_mul_right _ hcap
   obtain⟨cur',e1,e2,e3⟩:=Gm (q:=q) (os:=os) (ys:=ys) hk h0 hg hcs (by rw[hyl,hn]);refine⟨_,oI E c (some ⟨g,0,none⟩) n cap (ys.flatMap enc),rfl,?_,rfl,ys,rfl,?_,?_⟩
   · refine m.put k hi rfl rfl rfl ?_ (fun b hb hne=>?_) ?_ (.inl fun _ h=>h)
     · simp[sortWorldK,putRowK,putRow,mapBlock,grow,ahead]
     · have hbg:g≠b:=fun e=>hne (by rw[e];rfl)
       unfold sortWorldK putRowK putRow mapBlock grow;simp only;rw[Array.getElem?_append_left (by simpa[ahead] using hb),Array.getElem?_modify,if_neg hbg];rfl
     · refine⟨?_,.inr ⟨g,cap,cur',rfl,cd _,e1,hcap,hmax,by rw[e2,hcur],?_⟩⟩
       · have:=uD hk h0 ys
         rw[←this];simp[hyl]
       · rw[←hn];exact e3
   · have:=hp.2.2
     simpa[hyl,hn,bp (Nat.le_of_eq hyl),bp (Nat.le_of_eq hn),List.extract_eq_take_drop] using this
   · rw[List.pairwise_iff_getElem]
     intro i j hi' hj' hij;have:=hs i j (cd _) hij (by rw[←hyl];exact hj');rw[getElem!_pos _ i (by simpa using hi'),getElem!_pos _ j (by simpa using hj')] at this;simpa using this
end
end Go.Lith
namespace Go.Lith
open Go.RowKit Go.Sort
instance:Inhabited P3:=⟨⟨0,0,0⟩⟩
def jI(p:P3):List aj:=[.int .i64 p.x,.int .i64 p.y,.int .i64 p.z]
theorem Mt(p:P3):∀v∈jI p,v.oneCell'=true:=fun v h=>by
 simp only[jI,bn,ga,or_false] at h;rcases h with rfl | rfl | rfl <;> rfl
theorem yS(p q:P3):(Ke p q<0)↔p.Lt q:=by
 unfold Ke;split
 · simp[*]
 · split <;> simp[*]
theorem Yg:SWO (Go.Proofs.ltOf Ke) where
 irrefl x:=by simp[Go.Proofs.ltOf,yS,P3.lt_irrefl]
 trans x y z h1 h2:=by
  simp only[Go.Proofs.ltOf,decide_eq_true_eq,yS] at *
  exact P3.lt_trans h1 h2
 ntrans x y z h1 h2:=by
  simp only[Go.Proofs.ltOf,decide_eq_false_iff_not,yS] at *
  unfold P3.Lt at *
  omega
theorem yR.len{K V:Type}[DecidableEq K]{ek:K→aj}{en:V→aj}{D dn rs:List (K × V)}{es:Array fr}{seen:Array Nat}(h:yR ek en D es seen dn rs):dn.length+rs.length=D.length:=by
 have:=h.1.length_eq;simpa using this
theorem afQ{K V:Type}[DecidableEq K]{ek:K→aj}{en:V→aj}{D dn rs:List (K × V)}{es:Array fr}{b:Bool}{kv vv:aj}{sn:Array Nat}(hb:b=false)(h:Nxt ek en D es dn rs b kv vv sn):rs=[]:=by
 rcases h with ⟨_,h⟩ | ⟨h,_⟩
 · exact h
 · rw[h] at hb;cases hb
theorem afR{K V:Type}[DecidableEq K]{ek:K→aj}{en:V→aj}{D dn rs:List (K × V)}{es:Array fr}{b:Bool}{kv vv:aj}{sn:Array Nat}(hb:b=true)(h:Nxt ek en D es dn rs b kv vv sn) :
 ∃k v rs',rs.Perm ((k,v)::rs')∧yR ek en D es sn (dn++[(k,v)]) rs':=by
 rcases h with ⟨h,_⟩ | ⟨_,k,v,rs',h1,_,_,h2⟩
 · rw[h] at hb;cases hb
 · exact⟨k,v,rs',h1,h2⟩
def vI(D:List (P3 × Bool))(ps:List P3):List (P3 × Bool):=ps.foldl (fun D p=>pA D p true) D
theorem Yh{K V:Type}[DecidableEq K](D:List (K × V))(k a:K)(v:V):a∈(pA D k v).map (·.1)↔a∈D.map (·.1)∨a=k:=by
 rw[As];split
 · exact⟨.inl,fun h=>h.elim id (fun e=>e▸‹_›)⟩
 · simp
theorem Hr:∀(ps:List P3) (D:List (P3 × Bool)) (a:P3),a∈(vI D ps).map (·.1)↔a∈D.map (·.1)∨a∈ps
 | [],D,a=>by simp[vI]
 | p::ps,D,a=>by
  have:=Hr ps (pA D p true) a;unfold vI at this ⊢;rw[ir,this,Yh,bn,or_assoc]
theorem By:∀(ps:List P3) (D:List (P3 × Bool)),(D.map (·.1)).Nodup→((vI D ps).map (·.1)).Nodup
 | [],_,h=>h
 | p::ps,D,h=>By ps (pA D p true) (Pr h p true)
theorem Bz{K V:Type}[DecidableEq K]:∀(D:List (K × V)) (k:K) (v:V),(pA D k v).length≤D.length+1
 | [],_,_=>by simp[pA]
 | x::D,k,v=>by
  unfold pA;split
  · simp
  · simp only[ci]
    exact Nat.succ_le_succ (Bz D k v)
theorem yT:∀(ps:List P3) (D:List (P3 × Bool)),(vI D ps).length≤D.length+ps.length
 | [],D=>bi _
 | p::ps,D=>Nat.le_trans (yT ps (pA D p true)) (by
  have:=Bz D p true;simp only[ci];omega)
theorem Uh(D:List (P3 × Bool))(ps qs:List P3):vI D (ps++qs)=vI (vI D ps) qs:=gg ..
def fK(ts:List T3):List P3:=ts.flatMap fun t=>[t.a,t.b,t.c]
def Yi(ps:List P3):Prop:=ps.Pairwise fun a b=>a.Lt b
theorem Ui{ps:List P3}(hn:ps.Nodup)(h:ps.Pairwise fun a b=>¬b.Lt a):Yi ps:=by
 have:=hn.and h;exact this.imp fun {a b} h=>(P3.lt_tri a b).resolve_right (by rintro (e | e);exact h.1 e;exact h.2 e)
end Go.Lith
namespace Go.Lith
open Go.RowKit
@[irreducible] def Vo(c:Bool)(v:aj):aj:=if c then v else undef
theorem El{v:aj}:Vo true v=v:=by simp[Vo]
theorem Yj{v:aj}:Vo false v=undef:=by simp[Vo]
theorem jU{c:Bool}{u v:aj}(hb:c=true)(h:u=Vo c v):u=v:=by rw[h,hb,El]
section
variable {P:cj} {ds:List dp} {l:List aj} {x y:bm} {T ty:be} {b c:Bool} {v:aj}
theorem lK{z:bm}(hz:ev l z=.bool b)(hx:ev l x=Vo b (.bool c))(hy:ev l y=.bool false):iG P l (.pick z x y) ty (.bool (b&&c)):=by
 have:=Ip (P:=P) (ty:=ty) (x:=x) (y:=y) hz;cases b with
 | false=>simpa[hy] using this
 | true=>simpa[hx,El] using this
theorem pB{z:bm}(hz:ev l z=.bool b)(hx:ev l x=.bool true)(hy:ev l y=Vo (!b) (.bool c)):iG P l (.pick z x y) ty (.bool (b||c)):=by
 have:=Ip (P:=P) (ty:=ty) (x:=x) (y:=y) hz;cases b with
 | false=>simpa[hy,El] using this
 | true=>simpa[hx] using this
end
section
variable {P:cj} {ops:Array Oper} {Q:Exit→Act→aw→Prop} {rest:List Oper} {d j:Nat} {op:Op} {ty:be} {pos:String} {after:Array Edge} {v:aj} {b:Bool} {ds:List dp} {l:List aj} {w w0:aw} {is:List It}
theorem rS(hw:yielded ops l.toArray j=some b)(hr:b=true→Dc P l op ty v w)(h:bh P ops Q rest (Fr (l.set d (Vo b v)) ds) w):bh P ops Q (bx (some d) op ty pos after (some (j,true))::rest) (Fr l ds) w:=by
 cases b with
 | false=>rw[Yj] at h;exact bO hw h
 | true=>rw[El] at h;exact aR hw (uT (hr rfl) h)
theorem wA(hw:yielded ops l.toArray j=some b)(hr:(!b)=true→Dc P l op ty v w)(h:bh P ops Q rest (Fr (l.set d (Vo (!b) v)) ds) w):bh P ops Q (bx (some d) op ty pos after (some (j,false))::rest) (Fr l ds) w:=by
 cases b with
 | true=>rw[Bool.not_true,Yj] at h;exact bK hw h
 | false=>rw[Bool.not_false,El] at h;exact aR hw (uT (hr rfl) h)
theorem iU(hw:yielded ops l.toArray j=some b)(hr:b=true→iG P l op ty v)(h:bh P ops Q rest (Fr (l.set d (Vo b v)) ds) w):bh P ops Q (bx (some d) op ty pos after (some (j,true))::rest) (Fr l ds) w:=rS hw (fun e=>hr e w) h
theorem jF(hw:yielded ops l.toArray j=some b)(hr:(!b)=true→iG P l op ty v)(h:bh P ops Q rest (Fr (l.set d (Vo (!b) v)) ds) w):bh P ops Q (bx (some d) op ty pos after (some (j,false))::rest) (Fr l ds) w:=wA hw (fun e=>hr e w) h
theorem aa0{f:FuncId}{fo:bm}{xs:Array bm}{args:List aj}{first cap:Array aj}{a0:Array be}(m:cK w0 w is)(hw:yielded ops l.toArray j=some b)(hf:ev l fo=.func (.func f) first cap)(hxs:b=true→first.toList++xs.toList.map (ev l)++cap.toList=args)(hc:b=true→eB P f args v)
 (h:∀u,cK w0 u is→bh P ops Q rest (Fr (l.set d (Vo b v)) ds) u):bh P ops Q (bx (some d) (.call { callee:=.value fo,args:=xs,argTypes:=a0 }) ty pos after (some (j,true))::rest) (Fr l ds) w:=by
 cases b with
 | false=>simp only[Yj] at h;exact bO hw (h w m)
 | true=>simp only[El] at h;exact aR hw (aX m hf (hxs rfl) (hc rfl) h)
end
section
variable {P:cj} {ops:Array Oper} {Q:Act→Prop} {C:aw→Prop} {rest:List Oper} {d j:Nat} {op:Op} {ty:be} {pos:String} {after:Array Edge} {v:aj} {b:Bool} {ds:List dp} {l:List aj} {w0:aw} {is:List It}
end
section
variable {P:cj} {ops:Array Oper} {S:aw→Prop} {Q:Exit→Act→aw→Prop} {rest:List (Oper × Bool)} {d j:Nat} {op:Op} {ty:be} {pos:String} {after:Array Edge} {v:aj} {b:Bool} {ds:List dp} {l:List aj} {w:aw}
end
end Go.Lith
namespace Go.Lith
open Go.RowKit Go.ChangeShapes
variable {H:Type} {enc:be × aj→H} {P:cj} {w:aw} {base:Nat} {spare:Nat→Bool} {held:Bool}
def kV(P:cj):Nat→be→Bool
 | 0,_=>false
 | n+1,t=>match P.underlying t with
  | some (.int .i64)=>decide (P.cellsOf t=1)
  | some (.struct fs)=>(fs.toList.all fun f=>kV P n f.type)&&(fj (P.cellsOf t)).all fun i=>fs.toList.any fun f=>decide (f.offset≤i)&&decide (i<f.offset+P.cellsOf f.type)
  | some (.array m e)=>kV P n e&&decide (P.cellsOf t=m*P.cellsOf e)
  | _=>false
theorem adG{n:Int}(h:(Lit.int .i64 n).wf=true):kO n:=by
 have:=bounds_i64 h;exact⟨by omega,by omega⟩
theorem lZ:∀(n:Nat) (t:be) (m:Nat) (cs:List aj) (x:DataW H × List MemPlace),kV P n t=true→DataW.trod enc P w base spare held m t cs=some x →
 cs.length=P.cellsOf t∧∀v∈cs,∃z,v=.int .i64 z∧kO z
 | 0,t,m,cs,x,h,_=>by cases h
 | n+1,t,m,cs,x,h,hx=>by
  unfold kV at h;split at h
  · rename_i hu
    obtain⟨z,rfl,_,hz⟩:=DataW.trod_int hu hx;refine⟨by rw[of_decide_eq_true h];rfl,fun v hv=>⟨z,by simpa using hv,adG hz⟩⟩
  · rename_i fs hu
    simp only[bu,List.all_eq_true,List.any_eq_true,decide_eq_true_eq,fw] at h;obtain⟨ys,k,_,_,hl,hlen,hf⟩:=DataW.trod_struct hu hx;refine⟨hl,fun v hv=>?_⟩;obtain⟨i,hi,rfl⟩:=gj hv;obtain⟨f,hfm,h1,h2⟩:=h.2 i (by rw[←hl];exact hi);obtain⟨j,hj,rfl⟩:=gj hfm;have hj':j<fs.size:=by simpa using hj
    have:=hf j fs[j] (de hj');rw[ao (by rw[hlen];exact hj')] at this;have hr:=(lZ n _ _ _ _ (h.1 _ (dl hj)) this).2;refine hr _ ?_;simp only[Array.getElem_toList] at h1 h2;refine cc (i:=i-fs[j].offset) ?_;rw[dz,if_pos (by omega),cx,show fs[j].offset+(i-fs[j].offset)=i by omega];exact ao hi
  · rename_i q e hu
    simp only[bu,decide_eq_true_eq] at h;obtain⟨ys,k,_,_,hl,hlen,hf⟩:=DataW.trod_array hu hx;refine⟨hl,fun v hv=>?_⟩;obtain⟨i,hi,rfl⟩:=gj hv;rw[hl,h.2] at hi;have hc:0<P.cellsOf e:=by
     rcases Nat.eq_zero_or_pos (P.cellsOf e) with h0 | h0
     · rw[h0] at hi;omega
     · exact h0
    have hq:i / P.cellsOf e<q:=Nat.div_lt_of_lt_mul (by rw[Nat.mul_comm];exact hi);have:=hf _ hq;rw[ao (by rw[hlen];exact hq)] at this;have hr:=(lZ n _ _ _ _ h.1 this).2;refine hr _ (cc (i:=i%P.cellsOf e) ?_);rw[dz,if_pos (Nat.mod_lt _ hc),cx,Nat.mul_comm,Nat.div_add_mod];exact ao _
  · cases h
theorem Hs:∀(n:Nat) (cs:List aj),cs.length=n→(∀v∈cs,∃z,v=.int .i64 z∧kO z)→∃zs:List Int,zs.length=n∧cs=zs.map (.int .i64 ·)∧∀z∈zs,kO z
 | 0,[],_,_=>⟨[],rfl,rfl,fun _ h=>by cases h⟩
 | n+1,v::vs,h,hv=>by
  obtain⟨zs,h1,h2,h3⟩:=Hs n vs (by simpa using h) (fun u hu=>hv u (by simp[hu]));obtain⟨z,rfl,hz⟩:=hv v (by simp);exact⟨z::zs,by simp[h1],by simp[h2],fun u hu=>by rcases bn.1 hu with rfl | hu;exact hz;exact h3 _ hu⟩
theorem three{zs:List Int}(h:zs.length=3):∃a b c,zs=[a,b,c]:=by
 match zs,h with
 | [a,b,c],_=>exact⟨a,b,c,rfl⟩
theorem agm{zs:List Int}(h:zs.length=9):∃a b c d e f g i j,zs=[a,b,c,d,e,f,g,i,j]:=by
 match zs,h with
 | [a,b,c,d,e,f,g,i,j],_=>exact⟨a,b,c,d,e,f,g,i,j,rfl⟩
theorem Em{a:Addr}{n:Nat}{cs:List aj}(h:w.cells? base a n=some cs):qN w a cs∧base≤a.block:=by
 unfold World.cells? at h;split at h
 · rename_i hb
   refine⟨fun j u hj=>?_,hb⟩;have hl:=mapM_some_length h;have hj':j<cs.length:=(bq.1 hj).1;rw[hl] at hj';have:=mapM_some_get h j j (ao hj'▸by simp);rw[this,hj]
 · cases h
theorem Au{n m:Nat}{t e:be}{fuel:Nat}{cs:List aj}{x:DataW H × List MemPlace}(hu:P.underlying t=some (.slice e))(hi:kV P n e=true)(hc:P.cellsOf e=m)(h:DataW.trod enc P w base spare held fuel t cs=some x) :
 ∃(A:Option Addr) (len cap:Nat),cs=[.slice A len cap]∧len≤cap∧cap≤maxLen∧(A=none→len=0)∧∀i,i<len→∃(a:Addr) (zs:List Int),A=some a∧base≤a.block∧qN w (a.add (i*m)) (zs.map (Value.int .i64 ·))∧zs.length=m∧∀z∈zs,kO z:=by
 rcases Deep.open_slice hu h with ⟨rfl,_⟩ | ⟨a,len,cap,k,q,D,Pl,rfl,hb,hl,hm,hk,_,hx⟩
 · exact⟨none,0,0,rfl,bi _,cd _,fun _=>rfl,fun i hi=>absurd hi (Nat.not_lt_zero _)⟩
 · refine⟨some a,len,cap,rfl,hl,hm,fun h=>(by cases h),fun i hi'=>?_⟩
   obtain⟨cs',h1,h2⟩:=hx i (by rw[hk];split <;> omega);obtain⟨h3,h4⟩:=lZ n e q _ _ hi h2;obtain⟨zs,h5,rfl,h6⟩:=Hs m cs' (by rw[←hc];exact h3) h4;rw[hc] at h1;exact⟨a,zs,rfl,hb,(Em h1).1,h5,h6⟩
theorem nH{α:Type}{p:Nat→α→Prop}:∀(n:Nat),(∀i,i<n→∃x,p i x)→∃l:List α,l.length=n∧∀i x,l[i]? = some x→p i x
 | 0,_=>⟨[],rfl,fun i x h=>by simp at h⟩
 | n+1,h=>by
  obtain⟨l,h1,h2⟩:=nH n (fun i hi=>h i (by omega));obtain⟨x,hx⟩:=h n (by omega);refine⟨l++[x],by simp[h1],fun i y hy=>?_⟩;rcases Nat.lt_trichotomy i n with hi | hi | hi
  · exact h2 i y (by rwa [bv (by omega)] at hy)
  · subst hi
    rw[cq (by omega),h1,Nat.sub_self] at hy;cases hy;exact hx
  · rw[cq (by omega),h1] at hy
    have:i-n≠0:=by omega
    cases hd:i-n with
    | zero=>omega
    | succ j=>rw[hd] at hy;simp at hy
theorem Uj{n:Nat}{t e:be}{fuel:Nat}{cs:List aj}{x:DataW H × List MemPlace}(hu:P.underlying t=some (.slice e))(hi:kV P n e=true)(hc:P.cellsOf e=9)(h:DataW.trod enc P w base spare held fuel t cs=some x) :
 ∃(A:Option Addr) (len cap:Nat) (ts:List T3),cs=[.slice A len cap]∧len≤cap∧cap≤maxLen∧(A=none→len=0)∧dX w A len ts:=by
 obtain⟨A,len,cap,rfl,h1,h2,h3,h4⟩:=Au hu hi hc h;obtain⟨ts,h5,h6⟩:=nH (p:=fun i (t:T3)=>IT t∧∃a,A=some a∧qN w (a.add (i*9)) (cX t)) len (fun i hi=>by
  obtain⟨a,zs,rfl,_,hr,hl,hz⟩:=h4 i hi;obtain⟨x1,x2,x3,y1,y2,y3,z1,z2,z3,rfl⟩:=agm hl;exact⟨⟨⟨x1,x2,x3⟩,⟨y1,y2,y3⟩,⟨z1,z2,z3⟩⟩,⟨⟨hz _ (by simp),hz _ (by simp),hz _ (by simp)⟩,⟨hz _ (by simp),hz _ (by simp),hz _ (by simp)⟩,⟨hz _ (by simp),hz _ (by simp),hz _ (by simp)⟩⟩,a,rfl,hr⟩)
 refine⟨A,len,cap,ts,rfl,h1,h2,h3,h5,fun t ht=>?_,fun i t ht=>(h6 i t ht).2⟩;obtain⟨i,hi,rfl⟩:=gj ht;exact (h6 i _ (ao hi)).1
structure dH(w:aw)(A:Option Addr)(n:Nat)(zs:List Int):Prop where
 len:zs.length=n
 it:∀z∈zs,kO z
 row:∀i z,zs[i]? = some z→∃a,A=some a∧w.cell? (a.add i)=some (.int .i64 z)
theorem dH.ext{w':aw}{A:Option Addr}{n:Nat}{zs:List Int}(h:dH w A n zs)(hE:dU w w'):dH w' A n zs :=
 ⟨h.len,h.it,fun i z hi=>let ⟨a,e,hr⟩:=h.row i z hi;⟨a,e,hE.cell hr⟩⟩
theorem dH.get{A:Option Addr}{n:Nat}{zs:List Int}(h:dH w A n zs){i:Nat}(hi:i<n):∃z,zs[i]? = some z∧Iw z∧∃a,A=some a∧w.cell? (a.add i)=some (.int .i64 z):=by
 have hl:i<zs.length:=by rw[h.len];exact hi
 exact⟨zs[i],ao hl,⟨h.it _ (dl hl)⟩,h.row i _ (ao hl)⟩
theorem xI{n:Nat}{t e:be}{fuel:Nat}{cs:List aj}{x:DataW H × List MemPlace}(hu:P.underlying t=some (.slice e))(hi:kV P n e=true)(hc:P.cellsOf e=1)(h:DataW.trod enc P w base spare held fuel t cs=some x) :
 ∃(A:Option Addr) (len cap:Nat) (zs:List Int),cs=[.slice A len cap]∧len≤cap∧cap≤maxLen∧(A=none→len=0)∧dH w A len zs:=by
 obtain⟨A,len,cap,rfl,h1,h2,h3,h4⟩:=Au hu hi hc h;obtain⟨zs,h5,h6⟩:=nH (p:=fun i (z:Int)=>kO z∧∃a,A=some a∧w.cell? (a.add i)=some (.int .i64 z)) len (fun i hi=>by
  obtain⟨a,zs,rfl,_,hr,hl,hz⟩:=h4 i hi
  match zs,hl with
  | [z],_=>exact⟨z,hz _ (by simp),a,rfl,by have:=hr 0 _ rfl;rwa [Nat.mul_one,jL,Nat.add_zero] at this⟩)
 refine⟨A,len,cap,zs,rfl,h1,h2,h3,h5,fun z hz=>?_,fun i z hz=>(h6 i z hz).2⟩;obtain⟨i,hi,rfl⟩:=gj hz;exact (h6 i _ (ao hi)).1
end Go.Lith
namespace Go.Lith
open Go.RowKit
theorem Mu{n m:Int}(hm:0<m) : -m<n.tmod m∧n.tmod m<m:=by
 have h1:=Int.tmod_lt_of_pos n hm;have h2:=Int.tmod_lt_of_pos (-n) hm;rw[Int.neg_tmod] at h2;omega
theorem Ru{n m:Int}(hm:0<m):(n.tmod m+m).tmod m=n%m:=by
 have hb:=Mu (n:=n) hm;rw[j_ (by omega)];rcases Int.le_total 0 n with h | h
 · rw[j_ h]
   simp
 · have e:n.tmod m = -((-n)%m):=by
    rw[←j_ (show 0 ≤ -n by omega),Int.neg_tmod,Int.neg_neg]
   rw[e,Int.add_emod_right];have h2:=Int.emod_add_mul_ediv (-n) m;have h3 : -((-n)%m)=n+m*(-n / m):=by omega
   rw[h3,Int.add_mul_emod_self_left]
theorem Cu{n m:Int}(hm:0<m):0≤n%m∧n%m<m:=⟨Int.emod_nonneg _ (by omega),Int.emod_lt_of_pos _ hm⟩
/-! ### Hills -/
def hgt(zs:List Int)(x y:Nat):Int:=(zs[(y*7+x)%zs.length]?.getD 0)%64
theorem adH(zs:List Int)(x y:Nat):0≤hgt zs x y∧hgt zs x y<64:=Cu (by decide)
def pC(s:Int)(zs:List Int)(x y:Nat):P3:=⟨(x:Int)*s,(y:Int)*s,100+hgt zs x y⟩
def uN(a b c d:P3):List T3:=[⟨a,b,c⟩,⟨a,c,d⟩]
def Mv(s:Int)(zs:List Int)(y x:Nat):List T3:=uN (pC s zs x y) (pC s zs (x+1) y) (pC s zs (x+1) (y+1)) (pC s zs x (y+1))
def gH(s:Int)(zs:List Int)(n y x:Nat):List T3:=((fj y).flatMap fun y=>(fj n).flatMap (Mv s zs y))++(fj x).flatMap (Mv s zs y)
def En(s:Int)(zs:List Int)(n:Nat):List T3:=(fj n).flatMap fun y=>(fj n).flatMap (Mv s zs y)
theorem yU{s:Int}{zs:List Int}{n:Nat}:gH s zs n n 0=En s zs n:=by simp[gH,En]
theorem Kh{s:Int}{zs:List Int}{n y:Nat}:gH s zs n y n=gH s zs n (y+1) 0:=by
 simp[gH,iu,cr]
theorem Gn{s:Int}{zs:List Int}{n y x:Nat}:gH s zs n y (x+1)=gH s zs n y x++Mv s zs y x:=by
 simp[gH,iu,cr]
theorem rT{α β:Type}{f:α→List β}{k:Nat}:∀(l:List α),(∀x∈l,(f x).length=k)→(l.flatMap f).length=l.length*k
 | [],_=>by simp
 | x::l,h=>by
  rw[dv,bg,h x (by simp),rT l (fun y hy=>h y (by simp[hy])),ci,e_,Nat.one_mul,Nat.add_comm]
theorem pO{s:Int}{zs:List Int}{n y x:Nat}:(gH s zs n y x).length=y*(n*2)+x*2:=by
 unfold gH;rw[bg,rT (k:=n*2) _ (fun y _=>by rw[rT (k:=2) _ (fun _ _=>rfl),ig]),rT (k:=2) _ (fun _ _=>rfl),ig,ig]
def Sm(k:Int)(p:P3):Prop:=(0≤p.x∧p.x≤k)∧(0≤p.y∧p.y≤k)∧(0≤p.z∧p.z≤k)
def Rv(k:Int)(t:T3):Prop:=Sm k t.a∧Sm k t.b∧Sm k t.c
theorem Sm.i3{k:Int}{p:P3}(h:Sm k p)(hk:k<9223372036854775808):I3 p:=⟨⟨by have:=h.1;omega,by have:=h.1;omega⟩,⟨by have:=h.2.1;omega,by have:=h.2.1;omega⟩,⟨by have:=h.2.2;omega,by have:=h.2.2;omega⟩⟩
theorem Rv.it{k:Int}{t:T3}(h:Rv k t)(hk:k<9223372036854775808):IT t:=⟨h.1.i3 hk,h.2.1.i3 hk,h.2.2.i3 hk⟩
theorem Rw{k:Int}{a b c d:P3}(ha:Sm k a)(hb:Sm k b)(hc:Sm k c)(hd:Sm k d):∀t∈uN a b c d,Rv k t:=fun t ht=>by
 simp only[uN,bn,ga,or_false] at ht;rcases ht with rfl | rfl
 · exact⟨ha,hb,hc⟩
 · exact⟨ha,hc,hd⟩
theorem yV{zs:List Int}{x y:Nat}(hx:x≤6)(hy:y≤6):Sm 200 (pC 10 zs x y):=by
 have:=adH zs x y;simp only[Sm,pC];omega
theorem Mw{zs:List Int}{x y:Nat}(hx:x<6)(hy:y<6):∀t∈Mv 10 zs y x,Rv 200 t :=
 Rw (yV (by omega) (by omega)) (yV (by omega) (by omega)) (yV (by omega) (by omega)) (yV (by omega) (by omega))
theorem Mx{zs:List Int}{n x y:Nat}(hn:n≤6)(hx:x≤6)(hy:y≤6)(hxy:x=0∨y<6):∀t∈gH 10 zs n y x,Rv 200 t:=fun t ht=>by
 rcases dx.1 ht with h | h
 · obtain⟨v,hv,h⟩:=fa.1 h
   obtain⟨u,hu,h⟩:=fa.1 h;exact Mw (by have:=fw.1 hu;omega) (by have:=fw.1 hv;omega) t h
 · obtain⟨u,hu,h⟩:=fa.1 h
   have:=fw.1 hu;exact Mw (by omega) (by omega) t h
/-! ### Cubes -/
def eC(p:P3)(s:Int)(n:Nat):P3:=⟨p.x+((n%2:Nat):Int)*s,p.y+((n / 2%2:Nat):Int)*s,p.z+((n / 4:Nat):Int)*s⟩
def vJ(p:P3)(s:Int):List T3:=uN (eC p s 0) (eC p s 2) (eC p s 3) (eC p s 1)++uN (eC p s 4) (eC p s 5) (eC p s 7) (eC p s 6)++uN (eC p s 0) (eC p s 1) (eC p s 5) (eC p s 4)
 ++ uN (eC p s 2) (eC p s 6) (eC p s 7) (eC p s 3)++uN (eC p s 0) (eC p s 4) (eC p s 6) (eC p s 2)++uN (eC p s 1) (eC p s 3) (eC p s 7) (eC p s 5)
theorem qF(p:P3)(s:Int):(vJ p s).length=12:=rfl
def vP(n:Nat):P3:=⟨4+((n%3:Nat):Int)*8,5+((n / 3%3:Nat):Int)*8,6+((n / 9:Nat):Int)*8⟩
def stx(f:Nat):Int:=if f=4 then -1 else if f=5 then 1 else 0
def sty(f:Nat):Int:=if f=2 then -1 else if f=3 then 1 else 0
def stz(f:Nat):Int:=if f=0 then -1 else if f=1 then 1 else 0
def Ci(b:Nat)(n:Nat):Bool:=decide (b / 2^n%2=1)
def yW(b n f:Nat):Bool :=
 let u:=((n%3:Nat):Int)+stx f
 let v:=((n / 3%3:Nat):Int)+sty f
 let w:=((n / 9:Nat):Int)+stz f
 !(decide (0≤u)&&decide (u<3)&&decide (0≤v)&&decide (v<3)&&decide (0≤w)&&decide (w<3)) || !Ci b ((w*3+v)*3+u).toNat
def wS(n f:Nat):List T3:=((vJ (vP n) 8).drop (2*f)).take 2
def pP(b n f:Nat):List T3:=(fj f).flatMap fun f=>if yW b n f then wS n f else []
def jG(b n f:Nat):List T3:=((fj n).flatMap fun n=>if Ci b n then pP b n 6 else [])++pP b n f
def Yk(b:Nat):List T3:=(fj 27).flatMap fun n=>if Ci b n then pP b n 6 else []
theorem Pt{b:Nat}:jG b 27 0=Yk b:=by simp[jG,Yk,pP]
theorem Pu{b n:Nat}(h:Ci b n=true):jG b n 6=jG b (n+1) 0:=by
 simp[jG,iu (n:=n),cr,h,pP]
theorem Uk{b n:Nat}(h:Ci b n=false):jG b n 0=jG b (n+1) 0:=by
 simp[jG,iu (n:=n),cr,h,pP]
theorem Ht{b n f:Nat}(h:yW b n f=true):jG b n (f+1)=jG b n f++wS n f:=by
 simp[jG,pP,iu (n:=f),cr,h]
theorem Pv{b n f:Nat}(h:yW b n f=false):jG b n (f+1)=jG b n f:=by
 simp[jG,pP,iu (n:=f),cr,h]
/-! ### What the walks ask for -/
theorem Yl{k c:Nat}:(k:Int).tmod (c:Int)=((k%c:Nat):Int):=rfl
theorem afS{b:Nat}{n:Int}(h0:0≤n)(h:n≤63):(b:Int).fdiv (2^(min n.toNat IntKind.i64.bits))=((b / 2^n.toNat:Nat):Int):=by
 have e:min n.toNat IntKind.i64.bits=n.toNat:=co (by show n.toNat≤64;omega);rw[e,Int.fdiv_eq_ediv_of_nonneg _ (by exact Int.le_of_lt (Int.pow_pos (by decide)))];simp
theorem afT{x:Nat}(h:x<9223372036854775808):IntKind.i64.wrap ((da IntKind.i64.bits (x:Int) &&& da IntKind.i64.bits 1).toNat:Int)=((x%2:Nat):Int):=by
 have e:(da IntKind.i64.bits (x:Int) &&& da IntKind.i64.bits 1).toNat=x%2:=by
  show (da 64 (x:Int) &&& da 64 1).toNat=x%2
  rw[BitVec.toNat_and,jj,jj];have h1:((x:Int)%((2^64:Nat):Int)).toNat=x:=by
   have:((2^64:Nat):Int)=18446744073709551616:=rfl;rw[this];omega
  have h2:((1:Int)%((2^64:Nat):Int)).toNat=1:=rfl;rw[h1,h2,Nat.and_one_is_mod]
 rw[e];exact aO (by omega) (by omega)
theorem Ym{b n:Nat}(h:b<134217728):b / 2^n<9223372036854775808:=Nat.lt_of_le_of_lt (Nat.div_le_self _ _) (by omega)
theorem Yn{zs:List Int}{x y N:Nat}{z:Int}(hl:zs.length=N)(hz:zs[(y*7+x)%N]? = some z):hgt zs x y=z%64:=by
 unfold hgt;rw[hl,hz];rfl
theorem aa1{zs:List Int}{x y N:Nat}(hl:zs.length=N)(h:¬(0:Int)<(N:Int)):hgt zs x y=0:=by
 have:zs=[]:=bz (by omega);subst this;rfl
theorem Yo{s:Int}{zs:List Int}{n y x:Nat}:(gH s zs n y x).flatMap cX++(uN (pC s zs x y) (pC s zs (x+1) y) (pC s zs (x+1) (y+1)) (pC s zs x (y+1))).flatMap cX=(gH s zs n y (x+1)).flatMap cX:=by
 rw[Gn,cr];rfl
theorem Yp{s:Int}{zs:List Int}{n y x:Nat}{a b c d:P3}:(gH s zs n y x).length+(uN a b c d).length=(gH s zs n y (x+1)).length:=by
 rw[pO,pO];show _+2=_
 omega
theorem Ca{s:Int}{zs:List Int}{n y x:Nat}(hn:n≤6)(hy:y≤6)(hx:x≤6):(gH s zs n y x).length≤84:=by
 rw[pO];have:y*(n*2)≤6*(6*2):=Nat.mul_le_mul hy (by omega);omega
theorem Ul{zs:List Int}{n:Nat}(hn:n≤6):∀t∈En 10 zs n,Rv 200 t:=by
 rw[←yU];exact Mx hn (by omega) hn (.inl rfl)
def TS(E:be)(ts:List T3)(w:aw)(v:aj)(w':aw):Prop:=∃A cap n,n=ts.length∧v=.slice A n cap∧Ow w w' [] E 9 A n cap (ts.flatMap cX)
theorem Ow.tri{w0 w:aw}{S:List (Option Nat)}{E:be}{n cap g i:Nat}{ts:List T3}{t:T3}(h:Ow w0 w S E 9 (gm ⟨g,0,none⟩) n cap (ts.flatMap cX))(ht:ts[i]? = gm t):qN w ((⟨g,0,none⟩:Addr).add (i*9)) [.int .i64 t.a.x,.int .i64 t.a.y,.int .i64 t.a.z,.int .i64 t.b.x,.int .i64 t.b.y,.int .i64 t.b.z,.int .i64 t.c.x,.int .i64 t.c.y,.int .i64 t.c.z]:=by
 show qN w _ (cX t)
 intro j u hj;have hj':j<(cX t).length:=(bq.1 hj).1;rw[jL];refine h.rows _ _ ?_;rw[←cx,qK ts i t ht,bv hj'];exact hj
theorem ab3{n:Nat}(h:n<27):Sm 100 (vP n):=by
 simp only[Sm,vP];omega
theorem Yq{p:P3}{n:Nat}(h:Sm 100 p)(hn:n<8):Sm 200 (eC p 8 n):=by
 simp only[Sm,eC] at h ⊢;omega
theorem Yr{p:P3}(h:Sm 100 p):∀t∈vJ p 8,Rv 200 t:=fun t ht=>by
 have c:∀n,n<8→Sm 200 (eC p 8 n):=fun n hn=>Yq h hn;simp only[vJ,dx] at ht;rcases ht with ((((ht | ht) | ht) | ht) | ht) | ht <;> exact Rw (c _ (by decide)) (c _ (by decide)) (c _ (by decide)) (c _ (by decide)) t ht
theorem Ys{n f:Nat}(h:n<27):∀t∈wS n f,Rv 200 t:=fun t ht=>Yr (ab3 h) t (List.mem_of_mem_drop (fd ht))
theorem Um{b n f:Nat}(h:n<27):∀t∈pP b n f,Rv 200 t:=fun t ht=>by
 obtain⟨k,_,h2⟩:=fa.1 ht;split at h2
 · exact Ys h t h2
 · cases h2
theorem aa2{b:Nat}:∀t∈Yk b,Rv 200 t:=fun t ht=>by
 obtain⟨k,hk,h2⟩:=fa.1 ht;split at h2
 · exact Um (fw.1 hk) t h2
 · cases h2
theorem xJ{α β:Type}{f:α→List β}{k:Nat}:∀(l:List α),(∀x∈l,(f x).length≤k)→(l.flatMap f).length≤l.length*k
 | [],_=>by simp
 | x::l,h=>by
  have h1:=h x (by simp);have h2:=xJ l (fun y hy=>h y (by simp[hy]));rw[dv,bg,ci,e_,Nat.one_mul];omega
theorem Yt{n f:Nat}:(wS n f).length≤2:=by unfold wS;rw[bl];omega
theorem Hu{b n f:Nat}:(pP b n f).length≤f*2:=by
 have:=xJ (f:=fun f=>if yW b n f then wS n f else []) (k:=2) (fj f) (fun x _=>by
  show (if yW b n x=true then wS n x else []).length≤2
  split
  · exact Yt
  · exact cd _)
 rwa [ig] at this
theorem Hv{b n f:Nat}(hn:n≤27)(hf:f≤6):(jG b n f).length≤400:=by
 have h1:=xJ (f:=fun n=>if Ci b n then pP b n 6 else []) (k:=12) (fj n) (fun x _=>by
  show (if Ci b x=true then pP b x 6 else []).length≤12
  split
  · exact Hu
  · exact cd _)
 have h2:=Hu (b:=b) (n:=n) (f:=f);rw[ig] at h1;unfold jG;rw[bg];omega
def wB:List aj:=[.int .i64 0,.int .i64 0,.int .i64 (-1),.int .i64 0,.int .i64 0,.int .i64 1,.int .i64 0,.int .i64 (-1),.int .i64 0,.int .i64 0,.int .i64 1,.int .i64 0,.int .i64 (-1),.int .i64 0,.int .i64 0,.int .i64 1,.int .i64 0,.int .i64 0]
theorem Eo{f:Nat}(h:f<6):f=0∨f=1∨f=2∨f=3∨f=4∨f=5:=by omega
theorem afU{f:Nat}(h:f<6):wB[f*3]? = some (.int .i64 (stx f)):=by rcases Eo h with rfl | rfl | rfl | rfl | rfl | rfl <;> rfl
theorem afV{f:Nat}(h:f<6):wB[f*3+1]? = some (.int .i64 (sty f)):=by rcases Eo h with rfl | rfl | rfl | rfl | rfl | rfl <;> rfl
theorem afW{f:Nat}(h:f<6):wB[f*3+2]? = some (.int .i64 (stz f)):=by rcases Eo h with rfl | rfl | rfl | rfl | rfl | rfl <;> rfl
theorem afX(f:Nat):(-1≤stx f∧stx f≤1)∧(-1≤sty f∧sty f≤1)∧(-1≤stz f∧stz f≤1):=by
 unfold stx sty stz
 repeat' split
 all_goals omega
theorem vin{u v w:Int}(hb:(!(!(decide (0≤u)&&decide (u<3)&&decide (0≤v)&&decide (v<3)&&decide (0≤w)&&decide (w<3))))=true):(0≤u∧u<3)∧(0≤v∧v<3)∧0≤w∧w<3:=by
 simp only[Bool.not_not,bu,decide_eq_true_eq] at hb;omega
theorem My{b n f:Nat}:(!(decide ((0:Int)≤((n%3:Nat):Int)+stx f)&&decide (((n%3:Nat):Int)+stx f<3)&&decide ((0:Int)≤((n / 3%3:Nat):Int)+sty f)&&decide (((n / 3%3:Nat):Int)+sty f<3)&&decide ((0:Int)≤((n / 9:Nat):Int)+stz f)&&decide (((n / 9:Nat):Int)+stz f<3)) ||
 decide (((b / 2^(((((n / 9:Nat):Int)+stz f)*3+(((n / 3%3:Nat):Int)+sty f))*3+(((n%3:Nat):Int)+stx f)).toNat%2:Nat):Int)=0))=yW b n f:=by
 unfold yW Ci;simp only
 congr 1
 rw[←decide_not]
 congr 1
 apply propext;constructor <;> intro h <;> omega
theorem Yu{n f:Nat}(h:f<6):∃t u,(vJ (vP n) 8)[2*f]? = some t∧(vJ (vP n) 8)[2*f+1]? = some u∧wS n f=[t,u]:=by
 have h1:2*f<(vJ (vP n) 8).length:=by rw[qF];omega
 have h2:2*f+1<(vJ (vP n) 8).length:=by rw[qF];omega
 refine⟨_,_,ao h1,ao h2,?_⟩;unfold wS;rw[dc h1,dc h2];rfl
theorem Un{b n f:Nat}{t u:T3}(hp:wS n f=[t,u])(h:yW b n f=true):(jG b n f).flatMap cX++[.int .i64 t.a.x,.int .i64 t.a.y,.int .i64 t.a.z,.int .i64 t.b.x,.int .i64 t.b.y,.int .i64 t.b.z,.int .i64 t.c.x,.int .i64 t.c.y,.int .i64 t.c.z,.int .i64 u.a.x,.int .i64 u.a.y,.int .i64 u.a.z,.int .i64 u.b.x,.int .i64 u.b.y,.int .i64 u.b.z,.int .i64 u.c.x,.int .i64 u.c.y,.int .i64 u.c.z]=(jG b n (f+1)).flatMap cX:=by
 rw[Ht h,cr,hp];rfl
theorem Rx{b n f:Nat}(hf:f<6)(h:yW b n f=true):(jG b n f).length+2=(jG b n (f+1)).length:=by
 obtain⟨t,u,_,_,hp⟩:=Yu (n:=n) hf;rw[Ht h,bg,hp];rfl
def pD(kind bits:Int)(zs:List Int):List T3:=if kind%3=0 then Yk (bits%134217728).toNat else En 10 zs (1+kind.tdiv 3%6).toNat
theorem Mz{z:Int}(h:kO z):IntKind.i64.wrap (z.tdiv 3)=z.tdiv 3∧kO (z.tdiv 3):=by
 obtain⟨h1,h2⟩:=h;have hb : -9223372036854775808≤z.tdiv 3∧z.tdiv 3<9223372036854775808:=by
  rcases Int.le_total 0 z with hz | hz
  · rw[fm hz];omega
  · have e:z.tdiv 3 = -((-z) / 3):=by
     rw[←fm (show 0 ≤ -z by omega),Int.neg_tdiv,Int.neg_neg]
    rw[e];omega
 exact⟨aO hb.1 hb.2,hb⟩
theorem Ep{kind bits:Int}{zs:List Int}:∀t∈pD kind bits zs,Rv 200 t:=by
 unfold pD;split
 · exact aa2
 · exact Ul (by omega)
end Go.Lith
namespace Go.Lith
open Go.RowKit
def mL(p q:P3):P3:=⟨if q.x<p.x then q.x else p.x,if q.y<p.y then q.y else p.y,if q.z<p.z then q.z else p.z⟩
def mM(p q:P3):P3:=⟨if p.x<q.x then q.x else p.x,if p.y<q.y then q.y else p.y,if p.z<q.z then q.z else p.z⟩
def wG:List P3→P3
 | []=>⟨0,0,0⟩
 | p::ps=>ps.foldl mL p
def wH:List P3→P3
 | []=>⟨0,0,0⟩
 | p::ps=>ps.foldl mM p
theorem Hw(p:P3):mL p p=p:=by simp[mL]
theorem Hx(p:P3):mM p p=p:=by simp[mM]
theorem oJ{α:Type}{ps:List α}{k:Nat}{p:α}(h:ps[k]? = some p):ps.take (k+1)=ps.take k++[p]:=by
 rw[jt,h];rfl
theorem Yv{ps:List P3}{k:Nat}{p:P3}(hp:ps[k]? = some p)(hk:0<k):wG (ps.take (k+1))=mL (wG (ps.take k)) p:=by
 obtain⟨j,rfl⟩:∃j,k=j+1:=⟨k-1,by omega⟩
 cases ps with
 | nil=>cases hp
 | cons a ps =>
  rw[kr] at hp;rw[iz,iz,oJ hp];simp[wG,gg]
theorem Yw{ps:List P3}{k:Nat}{p:P3}(hp:ps[k]? = some p)(hk:0<k):wH (ps.take (k+1))=mM (wH (ps.take k)) p:=by
 obtain⟨j,rfl⟩:∃j,k=j+1:=⟨k-1,by omega⟩
 cases ps with
 | nil=>cases hp
 | cons a ps =>
  rw[kr] at hp;rw[iz,iz,oJ hp];simp[wH,gg]
theorem aa3{ps:List P3}{p:P3}(hp:ps[0]? = some p):wG (ps.take 1)=mL p p:=by
 cases ps with
 | nil=>cases hp
 | cons a ps=>cases hp;rw[Hw];rfl
theorem aa4{ps:List P3}{p:P3}(hp:ps[0]? = some p):wH (ps.take 1)=mM p p:=by
 cases ps with
 | nil=>cases hp
 | cons a ps=>cases hp;rw[Hx];rfl
theorem Yx{ps:List P3}{k:Nat}{p:P3}(hk:k=0)(hp:ps[k]? = some p):wG (ps.take (k+1))=mL p p:=by subst hk;exact aa3 hp
theorem Yy{ps:List P3}{k:Nat}{p:P3}(hk:k=0)(hp:ps[k]? = some p):wH (ps.take (k+1))=mM p p:=by subst hk;exact aa4 hp
theorem Cv:∀(ps:List P3) (p:P3),(∀a∈p::ps,(ps.foldl mL p).x≤a.x∧(ps.foldl mL p).y≤a.y∧(ps.foldl mL p).z≤a.z) ∧
 (∃a∈p::ps,(ps.foldl mL p).x=a.x)∧(∃a∈p::ps,(ps.foldl mL p).y=a.y)∧∃a∈p::ps,(ps.foldl mL p).z=a.z
 | [],p=>⟨fun a h=>by rw[b_.1 h];exact⟨k_ _,k_ _,k_ _⟩,⟨p,by simp,rfl⟩,⟨p,by simp,rfl⟩,⟨p,by simp,rfl⟩⟩
 | q::ps,p=>by
  obtain⟨h,⟨ax,hx,ex⟩,⟨ay,hy,ey⟩,⟨az,hz,ez⟩⟩:=Cv ps (mL p q);rw[ir];have hm:=h _ (cu ..);have m1:(mL p q).x≤p.x∧(mL p q).x≤q.x∧((mL p q).x=p.x∨(mL p q).x=q.x):=by simp only[mL];split <;> omega
  have m2:(mL p q).y≤p.y∧(mL p q).y≤q.y∧((mL p q).y=p.y∨(mL p q).y=q.y):=by simp only[mL];split <;> omega
  have m3:(mL p q).z≤p.z∧(mL p q).z≤q.z∧((mL p q).z=p.z∨(mL p q).z=q.z):=by simp only[mL];split <;> omega
  refine⟨fun a ha=>?_,?_,?_,?_⟩
  · rcases bn.1 ha with rfl | ha
    · omega
    · rcases bn.1 ha with rfl | ha
      · omega
      · exact h a (cw _ ha)
  · rcases bn.1 hx with rfl | hx
    · rcases m1.2.2 with e | e
      · exact⟨p,by simp,by omega⟩
      · exact⟨q,by simp,by omega⟩
    · exact⟨ax,by simp[hx],ex⟩
  · rcases bn.1 hy with rfl | hy
    · rcases m2.2.2 with e | e
      · exact⟨p,by simp,by omega⟩
      · exact⟨q,by simp,by omega⟩
    · exact⟨ay,by simp[hy],ey⟩
  · rcases bn.1 hz with rfl | hz
    · rcases m3.2.2 with e | e
      · exact⟨p,by simp,by omega⟩
      · exact⟨q,by simp,by omega⟩
    · exact⟨az,by simp[hz],ez⟩
theorem Cw:∀(ps:List P3) (p:P3),(∀a∈p::ps,a.x≤(ps.foldl mM p).x∧a.y≤(ps.foldl mM p).y∧a.z≤(ps.foldl mM p).z) ∧
 (∃a∈p::ps,(ps.foldl mM p).x=a.x)∧(∃a∈p::ps,(ps.foldl mM p).y=a.y)∧∃a∈p::ps,(ps.foldl mM p).z=a.z
 | [],p=>⟨fun a h=>by rw[b_.1 h];exact⟨k_ _,k_ _,k_ _⟩,⟨p,by simp,rfl⟩,⟨p,by simp,rfl⟩,⟨p,by simp,rfl⟩⟩
 | q::ps,p=>by
  obtain⟨h,⟨ax,hx,ex⟩,⟨ay,hy,ey⟩,⟨az,hz,ez⟩⟩:=Cw ps (mM p q);rw[ir];have hm:=h _ (cu ..);have m1:p.x≤(mM p q).x∧q.x≤(mM p q).x∧((mM p q).x=p.x∨(mM p q).x=q.x):=by simp only[mM];split <;> omega
  have m2:p.y≤(mM p q).y∧q.y≤(mM p q).y∧((mM p q).y=p.y∨(mM p q).y=q.y):=by simp only[mM];split <;> omega
  have m3:p.z≤(mM p q).z∧q.z≤(mM p q).z∧((mM p q).z=p.z∨(mM p q).z=q.z):=by simp only[mM];split <;> omega
  refine⟨fun a ha=>?_,?_,?_,?_⟩
  · rcases bn.1 ha with rfl | ha
    · omega
    · rcases bn.1 ha with rfl | ha
      · omega
      · exact h a (cw _ ha)
  · rcases bn.1 hx with rfl | hx
    · rcases m1.2.2 with e | e
      · exact⟨p,by simp,by omega⟩
      · exact⟨q,by simp,by omega⟩
    · exact⟨ax,by simp[hx],ex⟩
  · rcases bn.1 hy with rfl | hy
    · rcases m2.2.2 with e | e
      · exact⟨p,by simp,by omega⟩
      · exact⟨q,by simp,by omega⟩
    · exact⟨ay,by simp[hy],ey⟩
  · rcases bn.1 hz with rfl | hz
    · rcases m3.2.2 with e | e
      · exact⟨p,by simp,by omega⟩
      · exact⟨q,by simp,by omega⟩
    · exact⟨az,by simp[hz],ez⟩
theorem Ki{ps qs:List P3}(h:∀a,a∈ps↔a∈qs):wG ps=wG qs:=by
 cases ps with
 | nil=>cases qs with
  | nil=>rfl
  | cons q qs=>have:=(h q).2 (cu ..);cases this
 | cons p ps=>cases qs with
  | nil=>have:=(h p).1 (cu ..);cases this
  | cons q qs =>
   obtain⟨h1,⟨a,ha,ea⟩,⟨b,hb,eb⟩,⟨c,hc,ec⟩⟩:=Cv ps p;obtain⟨k1,⟨a',ha',ea'⟩,⟨b',hb',eb'⟩,⟨c',hc',ec'⟩⟩:=Cv qs q;have x1:=h1 a' ((h a').2 ha');have y1:=h1 b' ((h b').2 hb');have z1:=h1 c' ((h c').2 hc');have x2:=k1 a ((h a).1 ha);have y2:=k1 b ((h b).1 hb);have z2:=k1 c ((h c).1 hc);apply P3.eq <;> simp only[wG] <;> omega
theorem Kj{ps qs:List P3}(h:∀a,a∈ps↔a∈qs):wH ps=wH qs:=by
 cases ps with
 | nil=>cases qs with
  | nil=>rfl
  | cons q qs=>have:=(h q).2 (cu ..);cases this
 | cons p ps=>cases qs with
  | nil=>have:=(h p).1 (cu ..);cases this
  | cons q qs =>
   obtain⟨h1,⟨a,ha,ea⟩,⟨b,hb,eb⟩,⟨c,hc,ec⟩⟩:=Cw ps p;obtain⟨k1,⟨a',ha',ea'⟩,⟨b',hb',eb'⟩,⟨c',hc',ec'⟩⟩:=Cw qs q;have x1:=h1 a' ((h a').2 ha');have y1:=h1 b' ((h b').2 hb');have z1:=h1 c' ((h c').2 hc');have x2:=k1 a ((h a).1 ha);have y2:=k1 b ((h b).1 hb);have z2:=k1 c ((h c).1 hc);apply P3.eq <;> simp only[wH] <;> omega
theorem xK{ts:List T3}{k:Nat}{t:T3}(h:ts[k]? = some t):fK (ts.take (k+1))=fK (ts.take k)++[t.a,t.b,t.c]:=by
 unfold fK;rw[oJ h,cr];simp
theorem Pw{ts:List T3}{k:Nat}{t:T3}(h:ts[k]? = some t):vI [] (fK (ts.take (k+1)))=pA (pA (pA (vI [] (fK (ts.take k))) t.a true) t.b true) t.c true:=by
 rw[xK h,Uh];rfl
theorem Kk(ts:List T3):(fK ts).length=ts.length*3:=by
 unfold fK
 induction ts with
 | nil=>rfl
 | cons t ts ih=>rw[dv,bg,ih];simp only[ci,List.length_nil];omega
theorem aa5{ts:List T3}{t:T3}(h:ts[0]? = some t):(fK ts).foldl mL t.a=wG (fK ts):=by
 cases ts with
 | nil=>cases h
 | cons u ts=>cases h;simp[fK,wG,Hw]
theorem aa6{ts:List T3}{t:T3}(h:ts[0]? = some t):(fK ts).foldl mM t.a=wH (fK ts):=by
 cases ts with
 | nil=>cases h
 | cons u ts=>cases h;simp[fK,wH,Hx]
theorem Er:∀(ps:List P3) (i:Nat) (p:P3),ps[i]? = some p→(ps.flatMap jI).drop (i*3)=jI p++(ps.drop (i+1)).flatMap jI
 | [],_,_,h=>by cases h
 | q::ps,0,p,h=>by cases h;simp
 | q::ps,i+1,p,h=>by
  rw[dv,List.drop_append,show (jI q).length=3 from rfl,List.drop_eq_nil_of_le (show (jI q).length≤(i+1)*3 from by show 3≤_;omega),List.nil_append,show (i+1)*3-3=i*3 by omega,Er ps i p h];rfl
theorem Ow.pt{w0 w:aw}{S:List (Option Nat)}{E:be}{n cap g i:Nat}{ps:List P3}{p:P3}(h:Ow w0 w S E 3 (gm ⟨g,0,none⟩) n cap (ps.flatMap jI))(hp:ps[i]? = gm p):qN w ((⟨g,0,none⟩:Addr).add (i*3)) [.int .i64 p.x,.int .i64 p.y,.int .i64 p.z]:=by
 show qN w _ (jI p)
 intro j u hj;have hj':j<(jI p).length:=(bq.1 hj).1;rw[jL];refine h.rows _ _ ?_;rw[←cx,Er ps i p hp,bv hj'];exact hj
theorem Ow.max{w0 w:aw}{S:List (Option Nat)}{E:be}{c n cap:Nat}{A:Option Addr}{xs:List aj}(h:Ow w0 w S E c A n cap xs):cap≤9223372036854775807:=by
 rcases h.cases with ⟨_,_,rfl,_⟩ | ⟨_,_,_,_,_,_,h,_⟩
 · exact cd _
 · exact h
theorem adI{ps:List P3}:(ps.flatMap jI).length=ps.length*3:=by
 induction ps with
 | nil=>rfl
 | cons p ps ih=>rw[dv,bg,ih,show (jI p).length=3 from rfl,ci];omega
end Go.Lith
namespace Go.Lith
open Go.RowKit
def Gp(r:gJ)(n f d:Int):Rat:=if d<0 then am f (r.w*d) else am n (r.w*d)
def Es(r:gJ)(n f d:Int):Rat:=if d<0 then am n (r.w*d) else am f (r.w*d)
def mN(n f d:Int):Prop:=f<n∨d=0∧(0<n∨f<0)
instance (n f d:Int):Decidable (mN n f d):=inferInstanceAs (Decidable (_∨_∧(_∨_)))
def Av(p q:Rat):Rat:=if p<q then q else p
def sF(o:Option Rat)(q:Rat):Rat:=match o with | none=>q | some p=>if q<p then q else p
def axR(r:gJ)(n f d:Int)(st:Rat × Option Rat):Option (Rat × Option Rat) :=
 if mN n f d then none else if d=0 then some st
 else some (Av st.1 (Gp r n f d),some (sF st.2 (Es r n f d)))
def P3.at(p:P3):Nat→Int
 | 0=>p.x
 | 1=>p.y
 | _=>p.z
def Ae(r:gJ)(lo hi:P3):Nat→Option (Rat × Option Rat)
 | 0=>some (0,none)
 | k+1=>(Ae r lo hi k).bind (axR r ((r.to lo).at k) ((r.to hi).at k) (r.d.at k))
def oK(r:gJ)(lo hi:P3):Option (Rat × Rat) :=
 if r.ok then (Ae r lo hi 3).bind fun s=>match s.2 with | none=>none | some q=>if q<s.1 then none else some (s.1,q) else none
inductive Kd where
 | no
 | ex
 | unk
 | near (lo hi:P3)
def lI(lo hi:P3)(b:Int):Prop :=
 -9223372036854775808+b≤min (min lo.x lo.y) lo.z∧max (max hi.x hi.y) hi.z≤9223372036854775807-b
instance (lo hi:P3)(b:Int):Decidable (lI lo hi b):=inferInstanceAs (Decidable (_∧_))
def P3.all(b:Int):P3:=⟨b,b,b⟩
def P3.pls(p q:P3):P3:=⟨p.x+q.x,p.y+q.y,p.z+q.z⟩
def pF(ts:List T3):List P3:=ts.flatMap fun t=>[t.a,t.b,t.c]
def sG(ts:List T3)(b:Int):Kd :=
 if b<0 then .unk else if b=0 then .ex else if ts=[] then .no
 else if lI (wG (pF ts)) (wH (pF ts)) b then .near ((wG (pF ts)).sub (P3.all b)) ((wH (pF ts)).pls (P3.all b)) else .unk
def gY(bs:List Int)(i:Nat):Int:=(bs[i]?).getD (-1)
def jO(r:gJ):Kd→Option Rat
 | .unk=>some 0
 | .near lo hi=>(oK r lo hi).map (·.1)
 | _=>none
def Kd.isEx:Kd→Bool
 | .ex=>true
 | _=>false
def bU(bs:List Int)(ls:List (List T3)):List T3:=ls.zipIdx.flatMap fun x=>if (sG x.1 (gY bs x.2)).isEx then x.1 else []
def Kd.other:Kd→Bool
 | .ex=>false
 | .no=>false
 | _=>true
def cG(bs:List Int)(ls:List (List T3)):List (Nat × Kd):=ls.zipIdx.flatMap fun x=>if (sG x.1 (gY bs x.2)).other then [(x.2,sG x.1 (gY bs x.2))] else []
def pG(r:gJ)(h:Option (Rat × Nat))(x:Nat × Kd):List (Nat × Rat) :=
 match jO r x.2 with
 | none=>[]
 | some q=>match h with
  | none=>[(x.1,q)]
  | some (t,_)=>if q<t then [(x.1,q)] else []
def dB(r:gJ)(h:Option (Rat × Nat))(xs:List (Nat × Kd)):List (Nat × Rat):=xs.flatMap (pG r h)
def tJ:List (Nat × Rat)→Rat
 | []=>0
 | x::xs=>xs.foldl (fun a y=>if y.2<a then y.2 else a) x.2
structure pQ where
 kind:Int
 lo:Rat
 hi:Rat
 sure:Bool
 opn:List Int
def pQ.miss:pQ:=⟨2,0,0,false,[]⟩
def Na(h:Option (Rat × Nat))(o:List (Nat × Rat)):pQ :=
 if o≠[] then ⟨3,tJ o,mZ h,h.isSome,o.map fun x=>(x.1:Int)⟩
 else match h with
  | none=>.miss
  | some (t,_)=>⟨1,t,t,false,[]⟩
def iO(r:gJ)(ls:List (List T3))(bs:List Int):pQ :=
 if r.ok then Na (bH r (bU bs ls)) (dB r (bH r (bU bs ls)) (cG bs ls)) else .miss
theorem Nb{α β:Type}{ls:List α}{k:Nat}{l:α}(f:α × Nat→List β)(h:ls[k]? = some l):(ls.take (k+1)).zipIdx.flatMap f=(ls.take k).zipIdx.flatMap f++f (l,k):=by
 have hk:k<ls.length:=(bq.1 h).1;rw[jt,h,List.zipIdx_append,cr,bl,co (Nat.le_of_lt hk)];simp
theorem qL{bs:List Int}{ls:List (List T3)}{k:Nat}{l:List T3}(h:ls[k]? = some l):bU bs (ls.take (k+1))=bU bs (ls.take k)++if (sG l (gY bs k)).isEx then l else []:=Nb _ h
theorem oL{bs:List Int}{ls:List (List T3)}{k:Nat}{l:List T3}(h:ls[k]? = some l):cG bs (ls.take (k+1))=cG bs (ls.take k)++if (sG l (gY bs k)).other then [(k,sG l (gY bs k))] else []:=Nb _ h
theorem wC{r:gJ}{h:Option (Rat × Nat)}{xs:List (Nat × Kd)}{k:Nat}{x:Nat × Kd}(hx:xs[k]? = some x):dB r h (xs.take (k+1))=dB r h (xs.take k)++pG r h x:=by
 unfold dB;rw[jt,hx,cr];simp
theorem pH{xs:List (Nat × Rat)}{x:Nat × Rat}(h:xs≠[]):tJ (xs++[x])=if x.2<tJ xs then x.2 else tJ xs:=by
 cases xs with
 | nil=>exact absurd rfl h
 | cons y ys =>
  simp only[tJ,List.cons_append,gg,ir,List.foldl_nil];rfl
end Go.Lith
namespace Go.Lith
open Go.RowKit
def Ry(r:gJ)(ts:List T3)(b:Option (Rat × Nat)):Prop :=
 (b=none→∀t∈ts,¬jK r t)∧∀q k,b=some (q,k)→(∃t,ts[k]? = some t∧jK r t∧gC r t=q)∧∀t∈ts,jK r t→q≤gC r t
theorem Et(r:gJ)(ts:List T3):Ry r ts (bH r ts):=by
 have H:∀k,k≤ts.length→Ry r (ts.take k) (bH r (ts.take k)):=by
  intro k
  induction k with
  | zero=>exact fun _=>⟨fun _ t h=>by simp at h,fun q k h=>by simp[bH] at h⟩
  | succ k ih =>
   intro hk;have ih:=ih (by omega);obtain⟨t,ht⟩:∃t,ts[k]? = some t:=⟨_,ao (by omega)⟩
   have ht':ts.take (k+1)=ts.take k++[t]:=oJ ht;have hat:(ts.take (k+1))[k]? = some t:=by rw[List.getElem?_take_of_lt (by omega)];exact ht
   have up:∀{j u},(ts.take k)[j]? = some u→(ts.take (k+1))[j]? = some u:=fun h=>by
    rw[ht',bv (bq.1 h).1];exact h
   rw[rA ht];unfold Ei;by_cases hh:jK r t
   · rw[if_pos hh]
     cases hb:bH r (ts.take k) with
     | none =>
      refine⟨fun h=>(by cases h),fun q j h=>?_⟩;cases h;refine⟨⟨t,hat,hh,rfl⟩,fun u hu hu'=>?_⟩;rw[ht'] at hu;rcases dx.1 hu with hu | hu
      · exact absurd hu' (ih.1 hb u hu)
      · rw[b_.1 hu];exact gn
     | some x =>
      obtain⟨q,j⟩:=x;obtain⟨⟨v,hv,hv1,hv2⟩,hl⟩:=ih.2 q j hb;dsimp only;by_cases hq:gC r t<q
      · rw[if_pos hq]
        refine⟨fun h=>(by cases h),fun q' j' h=>?_⟩;cases h;refine⟨⟨t,hat,hh,rfl⟩,fun u hu hu'=>?_⟩;rw[ht'] at hu;rcases dx.1 hu with hu | hu
        · exact gh (Rat.le_of_lt hq) (hl u hu hu')
        · rw[b_.1 hu];exact gn
      · rw[if_neg hq]
        refine⟨fun h=>(by cases h),fun q' j' h=>?_⟩;cases h;refine⟨⟨v,up hv,hv1,hv2⟩,fun u hu hu'=>?_⟩;rw[ht'] at hu;rcases dx.1 hu with hu | hu
        · exact hl u hu hu'
        · rw[b_.1 hu];exact Rat.not_lt.1 hq
   · rw[if_neg hh]
     refine⟨fun h u hu hu'=>?_,fun q j h=>?_⟩
     · rw[ht'] at hu
       rcases dx.1 hu with hu | hu
       · exact ih.1 h u hu hu'
       · rw[b_.1 hu] at hu';exact hh hu'
     · obtain⟨⟨v,hv,hv1,hv2⟩,hl⟩:=ih.2 q j h
       refine⟨⟨v,up hv,hv1,hv2⟩,fun u hu hu'=>?_⟩;rw[ht'] at hu;rcases dx.1 hu with hu | hu
       · exact hl u hu hu'
       · rw[b_.1 hu] at hu';exact absurd hu' hh
 have h:=H ts.length (bi _);rwa [List.take_length] at h
theorem Hy{r:gJ}{ts:List T3}{t:T3}(ht:t∈ts)(h:jK r t):∃q k,bH r ts=some (q,k)∧q≤gC r t:=by
 cases hb:bH r ts with
 | none=>exact absurd h ((Et r ts).1 hb t ht)
 | some x=>exact⟨x.1,x.2,rfl,((Et r ts).2 x.1 x.2 hb).2 t ht h⟩
theorem Nc{r:gJ}{ts:List T3}{q:Rat}{k:Nat}(h:bH r ts=some (q,k)):∃t∈ts,jK r t∧gC r t=q:=by
 obtain⟨⟨t,ht,h1,h2⟩,_⟩:=(Et r ts).2 q k h;exact⟨t,cc ht,h1,h2⟩
theorem aa7(n:Int):dS n=1∨dS n=0∨dS n = -1:=by
 unfold dS;split
 · omega
 · split <;> omega
end Go.Lith
namespace Go.Lith
open Go.RowKit
theorem Nd{l:List T3}{b:Int}:(sG l b).isEx=true↔b=0:=by
 unfold sG
 repeat' split
 all_goals (simp only[Kd.isEx];constructor <;> intro h <;> first | omega | (cases h;done) | rfl | trivial)
theorem Nf{bs:List Int}{ls:List (List T3)}{t:T3}:t∈bU bs ls↔∃i l,ls[i]? = some l∧gY bs i=0∧t∈l:=by
 unfold bU;rw[fa];constructor
 · rintro⟨⟨l,i⟩,hx,ht⟩
   split at ht
   · rename_i hk
     exact⟨i,l,gr.1 hx,Nd.1 hk,ht⟩
   · cases ht
 · rintro⟨i,l,hl,hb,ht⟩
   refine⟨(l,i),gr.2 hl,?_⟩;rw[if_pos (Nd.2 hb)];exact ht
theorem Eu{bs:List Int}{ls:List (List T3)}{i:Nat}{kd:Kd}:(i,kd)∈cG bs ls↔∃l,ls[i]? = some l∧kd=sG l (gY bs i)∧kd.other=true:=by
 unfold cG;rw[fa];constructor
 · rintro⟨⟨l,j⟩,hx,ht⟩
   split at ht
   · rename_i hk
     obtain⟨e1,e2⟩:=mv (b_.1 ht);subst e1;exact⟨l,gr.1 hx,e2,by rw[e2];exact hk⟩
   · cases ht
 · rintro⟨l,hl,hb,ht⟩
   refine⟨(l,i),gr.2 hl,?_⟩;rw[if_pos (by rw[←hb];exact ht),←hb];exact b_.2 rfl
theorem Ng{r:gJ}{h:Option (Rat × Nat)}{xs:List (Nat × Kd)}{i:Nat}{q:Rat}:(i,q)∈dB r h xs↔∃kd,(i,kd)∈xs∧jO r kd=some q∧∀t k,h=some (t,k)→q<t:=by
 unfold dB;rw[fa];constructor
 · rintro⟨⟨j,kd⟩,hx,ht⟩
   unfold pG at ht;cases hb:jO r kd with
   | none=>simp[hb] at ht
   | some p =>
    simp only[hb] at ht;cases h with
    | none =>
     obtain⟨e1,e2⟩:=mv (b_.1 ht);subst e1 e2;exact⟨kd,hx,hb,fun t k e=>by cases e⟩
    | some y =>
     obtain⟨y1,y2⟩:=y;simp only at ht;split at ht
     · rename_i hlt
       obtain⟨e1,e2⟩:=mv (b_.1 ht);subst e1 e2;exact⟨kd,hx,hb,fun t k e=>by cases e;exact hlt⟩
     · cases ht
 · rintro⟨kd,hx,hb,hq⟩
   refine⟨(i,kd),hx,?_⟩;unfold pG;simp only[hb];cases h with
   | none=>exact b_.2 rfl
   | some y=>simp only[if_pos (hq y.1 y.2 rfl)];exact b_.2 rfl
theorem Nh:∀(xs:List (Nat × Rat)) (a:Rat),xs.foldl (fun a y=>if y.2<a then y.2 else a) a≤a∧(∀x∈xs,xs.foldl (fun a y=>if y.2<a then y.2 else a) a≤x.2) ∧
 (xs.foldl (fun a y=>if y.2<a then y.2 else a) a=a∨∃x∈xs,xs.foldl (fun a y=>if y.2<a then y.2 else a) a=x.2)
 | [],a=>⟨gn,fun x h=>(by cases h),.inl rfl⟩
 | y::ys,a=>by
  rw[ir];obtain⟨h1,h2,h3⟩:=Nh ys (if y.2<a then y.2 else a);have k:(if y.2<a then y.2 else a)≤a∧(if y.2<a then y.2 else a)≤y.2∧((if y.2<a then y.2 else a)=a∨(if y.2<a then y.2 else a)=y.2):=by
   split
   · rename_i h;exact⟨Rat.le_of_lt h,gn,.inr rfl⟩
   · rename_i h;exact⟨gn,Rat.not_lt.1 h,.inl rfl⟩
  refine⟨gh h1 k.1,fun x hx=>?_,?_⟩
  · rcases bn.1 hx with rfl | hx
    · exact gh h1 k.2.1
    · exact h2 x hx
  · rcases h3 with h3 | ⟨x,hx,h3⟩
    · rw[h3]
      rcases k.2.2 with k | k
      · exact .inl k
      · exact .inr ⟨y,cu ..,k⟩
    · exact .inr ⟨x,cw _ hx,h3⟩
theorem aa8{xs:List (Nat × Rat)}(h:xs≠[]):∃x∈xs,tJ xs=x.2:=by
 cases xs with
 | nil=>exact absurd rfl h
 | cons y ys =>
  rcases (Nh ys y.2).2.2 with h | ⟨x,hx,h⟩
  · exact⟨y,cu ..,h⟩
  · exact⟨x,cw _ hx,h⟩
end Go.Lith
namespace Go.Lith
open Go.RowKit
theorem Ni{α β γ:Type}{f:α→List β}{g:α→List γ}:∀{xs:List α},(∀x∈xs,(f x).length≤(g x).length)→(xs.flatMap f).length≤(xs.flatMap g).length
 | [],_=>bi _
 | x::xs,h=>by
  rw[dv,dv,bg,bg];have h1:=h x (cu ..);have h2:=Ni (xs:=xs) fun y hy=>h y (cw _ hy);omega
theorem Hz{r:gJ}{h:Option (Rat × Nat)}{x:Nat × Kd}:(pG r h x).length≤1:=by
 unfold pG;split
 · exact cd _
 · split
   · exact bi _
   · split
     · exact bi _
     · exact cd _
end Go.Lith
namespace Go.Proofs.YtimjandkmfcmiaaGreatDoor
open Go.Proofs.Tryz
open Go.RowKit Go.Lith
set_option maxRecDepth 100000
attribute [local irreducible] bh wpQuiet eY eO eJ Code.wp
theorem aa9{x y z:Int}[Iw x][Iw y][Iw z]:eB prog 65 [.int .i64 x,.int .i64 y,.int .i64 z] (wv ⟨x,y,z⟩):=by
 intro w;refine⟨ae3,?_⟩;have m:=cK.refl w
 go_enter func65,ntmps65
 refine aF fun K1 k1=>aa (bE m kB rfl ?_);clear m;intro g1 u m;refine aC (k1 _ _ ?_);refine aF fun K2 k2=>aa (aA aB ?_);simp only[zz];refine aX m rfl rfl (mE Iw.h) ?_;clear m;intro u m;refine aA aB ?_;simp only[zz];refine aX m rfl rfl (mE Iw.h) ?_;clear m;intro u m;refine aA aB ?_;simp only[zz];refine aX m rfl rfl (mE Iw.h) ?_;clear m;intro u m;refine aA (yA rfl rfl rfl) ?_;simp only[zz];refine aN m 0 rfl rfl rfl cC (bZ rfl) rfl ?_;clear m;intro u m;simp only[zy,zx,aW,zF,zG,ab] at m;refine aC (k2 _ _ ?_);refine bc ?_;try simp only[ac,af,if_true]
 refine bY rfl ⟨_,rfl,((m.b 0 rfl).full fN cC)⟩ ?_;try simp only[zD,zE]
 exact⟨_,rfl,m.ext,rfl⟩
theorem rB{p:P3}[I3 p]:eB prog 66 [pt p] (wv p):=by
 intro w;refine⟨ae4,?_⟩;have m:=cK.refl w
 go_enter func66,ntmps66
 refine aF fun K1 k1=>aa (cQ m rfl ?_);clear m;intro g1 u m;simp only[zz];refine bE m kB rfl ?_;clear m;intro g2 u m;refine aC (k1 _ _ ?_);refine aF fun K2 k2=>aa (aA (aG (c:=0) bP rfl aM rfl rfl) ?_);simp only[zz];refine aI rfl ((m.b 1 rfl).lies1 aV rfl) ?_;simp only[zz];refine aA (aG (c:=0) bP rfl aM rfl rfl) ?_;simp only[zz];refine aI rfl ((m.b 1 rfl).lies1 aV rfl) ?_;simp only[zz];refine aA (aG (c:=0) bP rfl aM rfl rfl) ?_;simp only[zz];refine aI rfl ((m.b 1 rfl).lies1 aV rfl) ?_;simp only[zz];refine aX m rfl rfl (aa9 (x:=p.x) (y:=p.y) (z:=p.z)) ?_;clear m;intro u m;simp only[zz];refine aN m 0 rfl rfl rfl cC (bZ rfl) rfl ?_;clear m;intro u m;simp only[zy,zx,aW,zF,zG,ab] at m;refine aC (k2 _ _ ?_);refine bc ?_;try simp only[ac,af,if_true]
 refine bY rfl ⟨_,rfl,((m.b 0 rfl).full fN cC)⟩ ?_;try simp only[zD,zE]
 exact⟨_,rfl,m.ext,rfl⟩
theorem vK{u:P3}{n:Int}(hu:Bv 300000 u)(hn:Bw 300000 n):eB prog 67 [wv u,W n] (wv (u.scl n)):=by
 intro w;refine⟨ae5,?_⟩;have m:=cK.refl w
 go_enter func67,ntmps67
 refine aF fun K1 k1=>aa (cQ m rfl ?_);clear m;intro g1 u m;simp only[zz];refine cQ m rfl ?_;clear m;intro g2 u m;simp only[zz];refine bE m kB rfl ?_;clear m;intro g3 u m;refine aC (k1 _ _ ?_);refine aF fun K2 k2=>aF fun K3 k3=>aa (aA aB (aC (k3 _ _ ?_)));refine av (cz 4 (dT (aF fun K4 k4=>aa (aA (cD (m:=0) (n:=3) rfl rfl (by decide)) (aC (k4 _ _ ?_))))));refine aF fun K5 k5=>bX rfl (ar (k5 _ _ ?_));refine aF fun K6 k6=>av (aF fun K7 k7=>aa (aA aB ?_));simp only[zz];refine aA aD (aC (k7 _ _ ?_));simp only[zz];refine dO m 7 aP (by kernel_rfl) ?_;simp only[zy];refine aQ aB (aQ aB (aQ (aJ fE aH rfl rfl (by decide) (by decide) rfl) ?_));simp only[zz];refine ql rfl (fun u m=>((m.b 2 rfl).lies aT aH rfl rfl)) ?_;simp only[zz,zy,ah,ab,ag,ae];refine ql rfl (fun u m=>((m.b 1 rfl).full aT aH)) ?_;simp only[zz];refine gV rfl rfl (kY Bw.up Bw.up) (aQ (aJ fE aH rfl rfl (by decide) (by decide) rfl) (eD ?_));clear m;intro u m;simp only[zz];refine aN m 2 rfl rfl rfl aH (bZ rfl) rfl ?_;clear m;intro u m;simp only[zy,zx,aW,zF,zG,ab] at m;refine aC (k6 _ _ ?_);refine aa (aA (aZ (m:=0) (n:=1) (r:=1) rfl rfl (by decide)) (aA aB (aC (bD (aF fun K8 k8=>aa (aA (cD (m:=1) (n:=3) rfl rfl (by decide)) (aC (k8 _ _ ?_))))))));refine aF fun K9 k9=>bX rfl (ar (k9 _ _ ?_));refine aF fun K10 k10=>av (aF fun K11 k11=>aa (aA aB ?_));simp only[zz];refine aA aD (aC (k11 _ _ ?_));simp only[zz];refine dO m 7 aP (by kernel_rfl) ?_;simp only[zy];refine aQ aB (aQ aB (aQ (aJ fE aH rfl rfl (by decide) (by decide) rfl) ?_));simp only[zz];refine ql rfl (fun u m=>((m.b 2 rfl).lies aT aH rfl rfl)) ?_;simp only[zz,zy,ah,ab,ag,ae];refine ql rfl (fun u m=>((m.b 1 rfl).full aT aH)) ?_;simp only[zz];refine gV rfl rfl (kY Bw.up Bw.up) (aQ (aJ fE aH rfl rfl (by decide) (by decide) rfl) (eD ?_));clear m;intro u m;simp only[zz];refine aN m 2 rfl rfl rfl aH (bZ rfl) rfl ?_;clear m;intro u m;simp only[zy,zx,aW,zF,zG,ab] at m;refine aC (k10 _ _ ?_);refine aa (aA (aZ (m:=1) (n:=1) (r:=2) rfl rfl (by decide)) (aA aB (aC (bD (aF fun K12 k12=>aa (aA (cD (m:=2) (n:=3) rfl rfl (by decide)) (aC (k12 _ _ ?_))))))));refine aF fun K13 k13=>bX rfl (ar (k13 _ _ ?_));refine aF fun K14 k14=>av (aF fun K15 k15=>aa (aA aB ?_));simp only[zz];refine aA aD (aC (k15 _ _ ?_));simp only[zz];refine dO m 7 aP (by kernel_rfl) ?_;simp only[zy];refine aQ aB (aQ aB (aQ (aJ fE aH rfl rfl (by decide) (by decide) rfl) ?_));simp only[zz];refine ql rfl (fun u m=>((m.b 2 rfl).lies aT aH rfl rfl)) ?_;simp only[zz,zy,ah,ab,ag,ae];refine ql rfl (fun u m=>((m.b 1 rfl).full aT aH)) ?_;simp only[zz];refine gV rfl rfl (kY Bw.up Bw.up) (aQ (aJ fE aH rfl rfl (by decide) (by decide) rfl) (eD ?_));clear m;intro u m;simp only[zz];refine aN m 2 rfl rfl rfl aH (bZ rfl) rfl ?_;clear m;intro u m;simp only[zy,zx,aW,zF,zG,ab] at m;refine aC (k14 _ _ ?_);refine aa (aA (aZ (m:=2) (n:=1) (r:=3) rfl rfl (by decide)) (aA aB (aC (bD (aF fun K16 k16=>aa (aA (fD (m:=3) (n:=3) rfl rfl (by decide)) (aC (k16 _ _ ?_))))))));refine aF fun K17 k17=>eZ rfl (bw (k2 _ _ ?_));refine aF fun K18 k18=>aa ?_;simp only[zz];refine aI rfl ((m.b 2 rfl).full fN cC) ?_;simp only[zz];refine aN m 0 rfl rfl rfl cC (bZ rfl) rfl ?_;clear m;intro u m;simp only[zy,zx,aW,zF,zG,ab] at m;refine aC (k18 _ _ ?_);refine bc ?_;try simp only[ac,af,if_true]
 refine bY rfl ⟨_,rfl,((m.b 0 rfl).full fN cC)⟩ ?_;try simp only[zD,zE]
 exact⟨_,rfl,m.ext,rfl⟩
theorem rC{u v:P3}(hu:Bv 300000 u)(hv:Bv 300000 v):eB prog 68 [wv u,wv v] (wv (u.sub v)):=by
 intro w;refine⟨ae6,?_⟩;have m:=cK.refl w
 go_enter func68,ntmps68
 refine aF fun K1 k1=>aa (cQ m rfl ?_);clear m;intro g1 u m;simp only[zz];refine cQ m rfl ?_;clear m;intro g2 u m;simp only[zz];refine bE m kB rfl ?_;clear m;intro g3 u m;refine aC (k1 _ _ ?_);refine aF fun K2 k2=>aF fun K3 k3=>aa (aA aB (aC (k3 _ _ ?_)));refine av (cz 4 (dT (aF fun K4 k4=>aa (aA (cD (m:=0) (n:=3) rfl rfl (by decide)) (aC (k4 _ _ ?_))))));refine aF fun K5 k5=>bX rfl (ar (k5 _ _ ?_));refine aF fun K6 k6=>av (aF fun K7 k7=>aa (aA aB ?_));simp only[zz];refine aA aD (aC (k7 _ _ ?_));simp only[zz];refine dO m 9 aP (by kernel_rfl) ?_;simp only[zy];refine aQ aB (aQ aB (aQ (aJ fE aH rfl rfl (by decide) (by decide) rfl) ?_));simp only[zz];refine ql rfl (fun u m=>((m.b 2 rfl).lies aT aH rfl rfl)) ?_;simp only[zz,zy,ah,ab,ag,ae];refine aQ aB (aQ (aJ fE aH rfl rfl (by decide) (by decide) rfl) ?_);simp only[zz];refine ql rfl (fun u m=>((m.b 1 rfl).lies aT aH rfl rfl)) ?_;simp only[zz,zy,ah,ab,ag,ae];refine gV rfl rfl (sX Bw.up Bw.up) (aQ (aJ fE aH rfl rfl (by decide) (by decide) rfl) (eD ?_));clear m;intro u m;simp only[zz];refine aN m 2 rfl rfl rfl aH (bZ rfl) rfl ?_;clear m;intro u m;simp only[zy,zx,aW,zF,zG,ab] at m;refine aC (k6 _ _ ?_);refine aa (aA (aZ (m:=0) (n:=1) (r:=1) rfl rfl (by decide)) (aA aB (aC (bD (aF fun K8 k8=>aa (aA (cD (m:=1) (n:=3) rfl rfl (by decide)) (aC (k8 _ _ ?_))))))));refine aF fun K9 k9=>bX rfl (ar (k9 _ _ ?_));refine aF fun K10 k10=>av (aF fun K11 k11=>aa (aA aB ?_));simp only[zz];refine aA aD (aC (k11 _ _ ?_));simp only[zz];refine dO m 9 aP (by kernel_rfl) ?_;simp only[zy];refine aQ aB (aQ aB (aQ (aJ fE aH rfl rfl (by decide) (by decide) rfl) ?_));simp only[zz];refine ql rfl (fun u m=>((m.b 2 rfl).lies aT aH rfl rfl)) ?_;simp only[zz,zy,ah,ab,ag,ae];refine aQ aB (aQ (aJ fE aH rfl rfl (by decide) (by decide) rfl) ?_);simp only[zz];refine ql rfl (fun u m=>((m.b 1 rfl).lies aT aH rfl rfl)) ?_;simp only[zz,zy,ah,ab,ag,ae];refine gV rfl rfl (sX Bw.up Bw.up) (aQ (aJ fE aH rfl rfl (by decide) (by decide) rfl) (eD ?_));clear m;intro u m;simp only[zz];refine aN m 2 rfl rfl rfl aH (bZ rfl) rfl ?_;clear m;intro u m;simp only[zy,zx,aW,zF,zG,ab] at m;refine aC (k10 _ _ ?_);refine aa (aA (aZ (m:=1) (n:=1) (r:=2) rfl rfl (by decide)) (aA aB (aC (bD (aF fun K12 k12=>aa (aA (cD (m:=2) (n:=3) rfl rfl (by decide)) (aC (k12 _ _ ?_))))))));refine aF fun K13 k13=>bX rfl (ar (k13 _ _ ?_));refine aF fun K14 k14=>av (aF fun K15 k15=>aa (aA aB ?_));simp only[zz];refine aA aD (aC (k15 _ _ ?_));simp only[zz];refine dO m 9 aP (by kernel_rfl) ?_;simp only[zy];refine aQ aB (aQ aB (aQ (aJ fE aH rfl rfl (by decide) (by decide) rfl) ?_));simp only[zz];refine ql rfl (fun u m=>((m.b 2 rfl).lies aT aH rfl rfl)) ?_;simp only[zz,zy,ah,ab,ag,ae];refine aQ aB (aQ (aJ fE aH rfl rfl (by decide) (by decide) rfl) ?_);simp only[zz];refine ql rfl (fun u m=>((m.b 1 rfl).lies aT aH rfl rfl)) ?_;simp only[zz,zy,ah,ab,ag,ae];refine gV rfl rfl (sX Bw.up Bw.up) (aQ (aJ fE aH rfl rfl (by decide) (by decide) rfl) (eD ?_));clear m;intro u m;simp only[zz];refine aN m 2 rfl rfl rfl aH (bZ rfl) rfl ?_;clear m;intro u m;simp only[zy,zx,aW,zF,zG,ab] at m;refine aC (k14 _ _ ?_);refine aa (aA (aZ (m:=2) (n:=1) (r:=3) rfl rfl (by decide)) (aA aB (aC (bD (aF fun K16 k16=>aa (aA (fD (m:=3) (n:=3) rfl rfl (by decide)) (aC (k16 _ _ ?_))))))));refine aF fun K17 k17=>eZ rfl (bw (k2 _ _ ?_));refine aF fun K18 k18=>aa ?_;simp only[zz];refine aI rfl ((m.b 2 rfl).full fN cC) ?_;simp only[zz];refine aN m 0 rfl rfl rfl cC (bZ rfl) rfl ?_;clear m;intro u m;simp only[zy,zx,aW,zF,zG,ab] at m;refine aC (k18 _ _ ?_);refine bc ?_;try simp only[ac,af,if_true]
 refine bY rfl ⟨_,rfl,((m.b 0 rfl).full fN cC)⟩ ?_;try simp only[zD,zE]
 exact⟨_,rfl,m.ext,rfl⟩
theorem Px{u v:P3}(hu:Bv 300000 u)(hv:Bv 300000 v):eB prog 71 [wv u,wv v] (W (u.dot v)):=by
 intro w;refine⟨ae9,?_⟩;have m:=cK.refl w
 go_enter func71,ntmps71
 refine aF fun K1 k1=>aa (cQ m rfl ?_);clear m;intro g1 u m;simp only[zz];refine cQ m rfl ?_;clear m;intro g2 u m;simp only[zz];refine bE m cL rfl ?_;clear m;intro g3 u m;refine aC (k1 _ _ ?_);refine aF fun K2 k2=>aa ?_;simp only[zz];refine bE m cL rfl ?_;clear m;intro g4 u m;refine aC (k2 _ _ ?_);refine aF fun K3 k3=>aF fun K4 k4=>aa (aA aB (aC (k4 _ _ ?_)));refine av (cz 4 (dT (aF fun K5 k5=>aa (aA (cD (m:=0) (n:=3) rfl rfl (by decide)) (aC (k5 _ _ ?_))))));refine aF fun K6 k6=>bX rfl (ar (k6 _ _ ?_));refine aF fun K7 k7=>av (aF fun K8 k8=>aa (aA aB ?_));simp only[zz];refine aA aD (aC (k8 _ _ ?_));simp only[zz];refine dO m 9 aP (by kernel_rfl) ?_;simp only[zy];refine ql rfl (fun u m=>((m.b 0 rfl).full aT aH)) ?_;simp only[zz];refine aQ aB (aQ (aJ fE aH rfl rfl (by decide) (by decide) rfl) ?_);simp only[zz];refine ql rfl (fun u m=>((m.b 3 rfl).lies aT aH rfl rfl)) ?_;simp only[zz,zy,ah,ab,ag,ae];refine aQ aB (aQ (aJ fE aH rfl rfl (by decide) (by decide) rfl) ?_);simp only[zz];refine ql rfl (fun u m=>((m.b 2 rfl).lies aT aH rfl rfl)) ?_;simp only[zz,zy,ah,ab,ag,ae];refine gV rfl rfl (kY Bw.up Bw.up) ?_;simp only[zz];refine gV rfl rfl (adB Bw.up) (eD ?_);clear m;intro u m;simp only[zz];refine aN m 0 rfl rfl rfl aH (bZ rfl) rfl ?_;clear m;intro u m;simp only[zy,zx,aW,zF,zG,ab] at m;refine aC (k7 _ _ ?_);refine aa (aA (aZ (m:=0) (n:=1) (r:=1) rfl rfl (by decide)) (aA aB (aC (bD (aF fun K9 k9=>aa (aA (cD (m:=1) (n:=3) rfl rfl (by decide)) (aC (k9 _ _ ?_))))))));refine aF fun K10 k10=>bX rfl (ar (k10 _ _ ?_));refine aF fun K11 k11=>av (aF fun K12 k12=>aa (aA aB ?_));simp only[zz];refine aA aD (aC (k12 _ _ ?_));simp only[zz];refine dO m 9 aP (by kernel_rfl) ?_;simp only[zy];refine ql rfl (fun u m=>((m.b 0 rfl).full aT aH)) ?_;simp only[zz];refine aQ aB (aQ (aJ fE aH rfl rfl (by decide) (by decide) rfl) ?_);simp only[zz];refine ql rfl (fun u m=>((m.b 3 rfl).lies aT aH rfl rfl)) ?_;simp only[zz,zy,ah,ab,ag,ae];refine aQ aB (aQ (aJ fE aH rfl rfl (by decide) (by decide) rfl) ?_);simp only[zz];refine ql rfl (fun u m=>((m.b 2 rfl).lies aT aH rfl rfl)) ?_;simp only[zz,zy,ah,ab,ag,ae];refine gV rfl rfl (kY Bw.up Bw.up) ?_;simp only[zz];refine gV rfl rfl (Ro Bw.up Bw.up) (eD ?_);clear m;intro u m;simp only[zz];refine aN m 0 rfl rfl rfl aH (bZ rfl) rfl ?_;clear m;intro u m;simp only[zy,zx,aW,zF,zG,ab] at m;refine aC (k11 _ _ ?_);refine aa (aA (aZ (m:=1) (n:=1) (r:=2) rfl rfl (by decide)) (aA aB (aC (bD (aF fun K13 k13=>aa (aA (cD (m:=2) (n:=3) rfl rfl (by decide)) (aC (k13 _ _ ?_))))))));refine aF fun K14 k14=>bX rfl (ar (k14 _ _ ?_));refine aF fun K15 k15=>av (aF fun K16 k16=>aa (aA aB ?_));simp only[zz];refine aA aD (aC (k16 _ _ ?_));simp only[zz];refine dO m 9 aP (by kernel_rfl) ?_;simp only[zy];refine ql rfl (fun u m=>((m.b 0 rfl).full aT aH)) ?_;simp only[zz];refine aQ aB (aQ (aJ fE aH rfl rfl (by decide) (by decide) rfl) ?_);simp only[zz];refine ql rfl (fun u m=>((m.b 3 rfl).lies aT aH rfl rfl)) ?_;simp only[zz,zy,ah,ab,ag,ae];refine aQ aB (aQ (aJ fE aH rfl rfl (by decide) (by decide) rfl) ?_);simp only[zz];refine ql rfl (fun u m=>((m.b 2 rfl).lies aT aH rfl rfl)) ?_;simp only[zz,zy,ah,ab,ag,ae];refine gV rfl rfl (kY Bw.up Bw.up) ?_;simp only[zz];refine gV rfl rfl (Ro Bw.up Bw.up) (eD ?_);clear m;intro u m;simp only[zz];refine aN m 0 rfl rfl rfl aH (bZ rfl) rfl ?_;clear m;intro u m;simp only[zy,zx,aW,zF,zG,ab] at m;refine aC (k15 _ _ ?_);refine aa (aA (aZ (m:=2) (n:=1) (r:=3) rfl rfl (by decide)) (aA aB (aC (bD (aF fun K17 k17=>aa (aA (fD (m:=3) (n:=3) rfl rfl (by decide)) (aC (k17 _ _ ?_))))))));refine aF fun K18 k18=>eZ rfl (bw (k3 _ _ ?_));refine aF fun K19 k19=>aa ?_;simp only[zz];refine aI rfl ((m.b 0 rfl).full aT aH) ?_;simp only[zz];refine aN m 1 rfl rfl rfl aH (bZ rfl) rfl ?_;clear m;intro u m;simp only[zy,zx,aW,zF,zG,ab] at m;refine aC (k19 _ _ ?_);refine bc ?_;try simp only[ac,af,if_true]
 refine bY rfl ⟨_,rfl,((m.b 1 rfl).full aT aH)⟩ ?_;try simp only[zD,zE]
 exact⟨_,rfl,m.ext,by rw[←P3.dot0];rfl⟩
theorem Nj{u v:P3}(hu:Bv 300000 u)(hv:Bv 300000 v):eB prog 106 [wv u,wv v] (wv (u.cross v)):=by
 intro w;refine⟨acp,?_⟩;have m:=cK.refl w
 go_enter func106,ntmps106
 refine aF fun K1 k1=>aa (cQ m rfl ?_);clear m;intro g1 u m;simp only[zz];refine cQ m rfl ?_;clear m;intro g2 u m;simp only[zz];refine bE m kB rfl ?_;clear m;intro g3 u m;refine aC (k1 _ _ ?_);refine aF fun K2 k2=>aa ?_;simp only[zz];refine bE m kB rfl ?_;clear m;intro g4 u m;refine aC (k2 _ _ ?_);refine aF fun K3 k3=>aF fun K4 k4=>aa (aA aB (aC (k4 _ _ ?_)));refine av (cz 4 (dT (aF fun K5 k5=>aa (aA (cD (m:=0) (n:=3) rfl rfl (by decide)) (aC (k5 _ _ ?_))))));refine aF fun K6 k6=>bX rfl (ar (k6 _ _ ?_));refine aF fun K7 k7=>av (aF fun K8 k8=>aa (aA aB ?_));simp only[zz];refine aA aD (aC (k8 _ _ ?_));refine aF fun K9 k9=>aa (aA aB (aA (aZ (m:=0) (n:=1) (r:=1) rfl rfl (by decide)) (aA (fL (m:=1) (n:=3) (r:=1) rfl rfl (by decide) (by decide)) ?_)));simp only[zz];refine aA aB (aA (aZ (m:=0) (n:=2) (r:=2) rfl rfl (by decide)) (aA (fL (m:=2) (n:=3) (r:=2) rfl rfl (by decide) (by decide)) (aA aD ?_)));simp only[zz];refine aA aD (aC (k9 _ _ ?_));simp only[zz];refine dO m 17 aP (by kernel_rfl) ?_;simp only[zy];refine aQ aB (aQ aB (aQ (aJ fE aH rfl rfl (by decide) (by decide) rfl) ?_));simp only[zz];refine ql rfl (fun u m=>((m.b 3 rfl).lies aT aH rfl rfl)) ?_;simp only[zz,zy,ah,ab,ag,ae];refine aQ aB (aQ (aJ fE aH rfl rfl (by decide) (by decide) rfl) ?_);simp only[zz];refine ql rfl (fun u m=>((m.b 2 rfl).lies aT aH rfl rfl)) ?_;simp only[zz,zy,ah,ab,ag,ae];refine gV rfl rfl (kY Bw.up Bw.up) (aQ aB (aQ (aJ fE aH rfl rfl (by decide) (by decide) rfl) ?_));simp only[zz];refine ql rfl (fun u m=>((m.b 3 rfl).lies aT aH rfl rfl)) ?_;simp only[zz,zy,ah,ab,ag,ae];refine aQ aB (aQ (aJ fE aH rfl rfl (by decide) (by decide) rfl) ?_);simp only[zz];refine ql rfl (fun u m=>((m.b 2 rfl).lies aT aH rfl rfl)) ?_;simp only[zz,zy,ah,ab,ag,ae];refine gV rfl rfl (kY Bw.up Bw.up) ?_;simp only[zz];refine gV rfl rfl (sX Bw.up Bw.up) (aQ (aJ fE aH rfl rfl (by decide) (by decide) rfl) (eD ?_));clear m;intro u m;simp only[zz];refine aN m 0 rfl rfl rfl aH (bZ rfl) rfl ?_;clear m;intro u m;simp only[zy,zx,aW,zF,zG,ab] at m;refine aC (k7 _ _ ?_);refine aa (aA (aZ (m:=0) (n:=1) (r:=1) rfl rfl (by decide)) (aA aB (aC (bD (aF fun K10 k10=>aa (aA (cD (m:=1) (n:=3) rfl rfl (by decide)) (aC (k10 _ _ ?_))))))));refine aF fun K11 k11=>bX rfl (ar (k11 _ _ ?_));refine aF fun K12 k12=>av (aF fun K13 k13=>aa (aA aB ?_));simp only[zz];refine aA aD (aC (k13 _ _ ?_));refine aF fun K14 k14=>aa (aA aB (aA (aZ (m:=1) (n:=1) (r:=2) rfl rfl (by decide)) (aA (fL (m:=2) (n:=3) (r:=2) rfl rfl (by decide) (by decide)) ?_)));simp only[zz];refine aA aB (aA (aZ (m:=1) (n:=2) (r:=3) rfl rfl (by decide)) (aA (fL (m:=3) (n:=3) (r:=0) rfl rfl (by decide) (by decide)) (aA aD ?_)));simp only[zz];refine aA aD (aC (k14 _ _ ?_));simp only[zz];refine dO m 17 aP (by kernel_rfl) ?_;simp only[zy];refine aQ aB (aQ aB (aQ (aJ fE aH rfl rfl (by decide) (by decide) rfl) ?_));simp only[zz];refine ql rfl (fun u m=>((m.b 3 rfl).lies aT aH rfl rfl)) ?_;simp only[zz,zy,ah,ab,ag,ae];refine aQ aB (aQ (aJ fE aH rfl rfl (by decide) (by decide) rfl) ?_);simp only[zz];refine ql rfl (fun u m=>((m.b 2 rfl).lies aT aH rfl rfl)) ?_;simp only[zz,zy,ah,ab,ag,ae];refine gV rfl rfl (kY Bw.up Bw.up) (aQ aB (aQ (aJ fE aH rfl rfl (by decide) (by decide) rfl) ?_));simp only[zz];refine ql rfl (fun u m=>((m.b 3 rfl).lies aT aH rfl rfl)) ?_;simp only[zz,zy,ah,ab,ag,ae];refine aQ aB (aQ (aJ fE aH rfl rfl (by decide) (by decide) rfl) ?_);simp only[zz];refine ql rfl (fun u m=>((m.b 2 rfl).lies aT aH rfl rfl)) ?_;simp only[zz,zy,ah,ab,ag,ae];refine gV rfl rfl (kY Bw.up Bw.up) ?_;simp only[zz];refine gV rfl rfl (sX Bw.up Bw.up) (aQ (aJ fE aH rfl rfl (by decide) (by decide) rfl) (eD ?_));clear m;intro u m;simp only[zz];refine aN m 0 rfl rfl rfl aH (bZ rfl) rfl ?_;clear m;intro u m;simp only[zy,zx,aW,zF,zG,ab] at m;refine aC (k12 _ _ ?_);refine aa (aA (aZ (m:=1) (n:=1) (r:=2) rfl rfl (by decide)) (aA aB (aC (bD (aF fun K15 k15=>aa (aA (cD (m:=2) (n:=3) rfl rfl (by decide)) (aC (k15 _ _ ?_))))))));refine aF fun K16 k16=>bX rfl (ar (k16 _ _ ?_));refine aF fun K17 k17=>av (aF fun K18 k18=>aa (aA aB ?_));simp only[zz];refine aA aD (aC (k18 _ _ ?_));refine aF fun K19 k19=>aa (aA aB (aA (aZ (m:=2) (n:=1) (r:=3) rfl rfl (by decide)) (aA (fL (m:=3) (n:=3) (r:=0) rfl rfl (by decide) (by decide)) ?_)));simp only[zz];refine aA aB (aA (aZ (m:=2) (n:=2) (r:=4) rfl rfl (by decide)) (aA (fL (m:=4) (n:=3) (r:=1) rfl rfl (by decide) (by decide)) (aA aD ?_)));simp only[zz];refine aA aD (aC (k19 _ _ ?_));simp only[zz];refine dO m 17 aP (by kernel_rfl) ?_;simp only[zy];refine aQ aB (aQ aB (aQ (aJ fE aH rfl rfl (by decide) (by decide) rfl) ?_));simp only[zz];refine ql rfl (fun u m=>((m.b 3 rfl).lies aT aH rfl rfl)) ?_;simp only[zz,zy,ah,ab,ag,ae];refine aQ aB (aQ (aJ fE aH rfl rfl (by decide) (by decide) rfl) ?_);simp only[zz];refine ql rfl (fun u m=>((m.b 2 rfl).lies aT aH rfl rfl)) ?_;simp only[zz,zy,ah,ab,ag,ae];refine gV rfl rfl (kY Bw.up Bw.up) (aQ aB (aQ (aJ fE aH rfl rfl (by decide) (by decide) rfl) ?_));simp only[zz];refine ql rfl (fun u m=>((m.b 3 rfl).lies aT aH rfl rfl)) ?_;simp only[zz,zy,ah,ab,ag,ae];refine aQ aB (aQ (aJ fE aH rfl rfl (by decide) (by decide) rfl) ?_);simp only[zz];refine ql rfl (fun u m=>((m.b 2 rfl).lies aT aH rfl rfl)) ?_;simp only[zz,zy,ah,ab,ag,ae];refine gV rfl rfl (kY Bw.up Bw.up) ?_;simp only[zz];refine gV rfl rfl (sX Bw.up Bw.up) (aQ (aJ fE aH rfl rfl (by decide) (by decide) rfl) (eD ?_));clear m;intro u m;simp only[zz];refine aN m 0 rfl rfl rfl aH (bZ rfl) rfl ?_;clear m;intro u m;simp only[zy,zx,aW,zF,zG,ab] at m;refine aC (k17 _ _ ?_);refine aa (aA (aZ (m:=2) (n:=1) (r:=3) rfl rfl (by decide)) (aA aB (aC (bD (aF fun K20 k20=>aa (aA (fD (m:=3) (n:=3) rfl rfl (by decide)) (aC (k20 _ _ ?_))))))));refine aF fun K21 k21=>eZ rfl (bw (k3 _ _ ?_));refine aF fun K22 k22=>aa ?_;simp only[zz];refine aI rfl ((m.b 0 rfl).full fN cC) ?_;simp only[zz];refine aN m 1 rfl rfl rfl cC (bZ rfl) rfl ?_;clear m;intro u m;simp only[zy,zx,aW,zF,zG,ab] at m;refine aC (k22 _ _ ?_);refine bc ?_;try simp only[ac,af,if_true]
 refine bY rfl ⟨_,rfl,((m.b 1 rfl).full fN cC)⟩ ?_;try simp only[zD,zE]
 exact⟨_,rfl,m.ext,rfl⟩
theorem aba{n:Int}{v:P3}{g0:Nat}(w:aw)(hn:Bd 400000 n)(hv:Bv 400000 v)(hB0:gG w g0 [.bool (cY n),.string (dQ n),.bool (cY v.x),.string (dQ v.x),.bool (cY v.y),.string (dQ v.y),.bool (cY v.z),.string (dQ v.z)] 35):gZ prog 73 [.slice (some ⟨g0,0,none⟩) 4 4] w (fun x _=>x=.int .i64 (vE n v)):=by
 refine⟨abU,?_⟩;have m:=cK.refl w
 go_enter func73,ntmps73
 refine aF fun K1 k1=>aa (aA aD (aC (k1 _ _ ?_)));refine aF fun K2 k2=>aF fun K3 k3=>aa (aA aB (aA (bR rfl uB rfl) (aA aB ?_)));simp only[zz];refine aC (k3 _ _ ?_);refine av (cz 5 (dT (aF fun K4 k4=>aa (aA (cD (m:=0) (n:=4) rfl rfl (by decide)) (aC (k4 _ _ ?_))))));refine aF fun K5 k5=>bX rfl (ar (k5 _ _ ?_));refine aF fun K6 k6=>av (aF fun K7 k7=>aa ?_);simp only[zz];refine aA (aS uB aH rfl rfl (by decide) (by omega) rfl) ?_;simp only[zz];refine aI rfl ((hB0.ext m.ext).lies aT aH rfl rfl) ?_;simp only[zz,zy,ah,ab,ag,ae];refine bE m cL rfl ?_;clear m;intro g1 u m;simp only[zz];refine aN m 0 rfl rfl rfl aH (bZ rfl) rfl ?_;clear m;intro u m;simp only[zy,zx,aW,zF,zG,ab] at m;refine aC (k7 _ _ ?_);refine aF fun K8 k8=>aa (aI rfl ((m.b 0 rfl).full aT aH) ?_);simp only[zz];refine aX m rfl rfl (mD (a:=n) (hn.mono (by decide))) ?_;clear m;intro u m;refine aA aD (aC (k8 _ _ ?_));refine aF fun K9 k9=>aa (aA aB (aA (nZ rfl rfl) ?_));simp only[zz];refine aC (k9 _ _ ?_);refine cW rfl (fun hc2=>?_) (fun hc2=>?_)
 ·
  refine aF fun K10 k10=>aa (aA aB (aA aD (aC (k10 _ _ ?_))));refine bc ?_;simp only[zz];try simp only[ac,af,if_true]
  refine bY rfl rfl ?_;try simp only[zD,zE]
  exact⟨_,rfl,m.ext,by rw[vE,if_pos hc2]⟩
 ·
  have e0:dS n=0:=Decidable.not_not.1 hc2;refine ar (k6 _ _ ?_);refine aa (aA (aZ (m:=0) (n:=1) (r:=1) rfl rfl (by decide)) (aA aB (aC (bD (aF fun K11 k11=>aa (aA (cD (m:=1) (n:=4) rfl rfl (by decide)) (aC (k11 _ _ ?_))))))));refine aF fun K12 k12=>bX rfl (ar (k12 _ _ ?_));refine aF fun K13 k13=>av (aF fun K14 k14=>aa ?_);simp only[zz];refine aA (aS uB aH rfl rfl (by decide) (by omega) rfl) ?_;simp only[zz];refine aI rfl ((hB0.ext m.ext).lies aT aH rfl rfl) ?_;simp only[zz,zy,ah,ab,ag,ae];refine bE m cL rfl ?_;clear m;intro g2 u m;simp only[zz];refine aN m 0 rfl rfl rfl aH (bZ rfl) rfl ?_;clear m;intro u m;simp only[zy,zx,aW,zF,zG,ab] at m;refine aC (k14 _ _ ?_);refine aF fun K15 k15=>aa (aI rfl ((m.b 0 rfl).full aT aH) ?_);simp only[zz];refine aX m rfl rfl (mD (a:=v.x) (hv.x.mono (by decide))) ?_;clear m;intro u m;refine aA aD (aC (k15 _ _ ?_));refine aF fun K16 k16=>aa (aA aB (aA (nZ rfl rfl) ?_));simp only[zz];refine aC (k16 _ _ ?_);refine cW rfl (fun hc2=>?_) (fun hc2=>?_)
  ·
   refine aF fun K17 k17=>aa (aA aB (aA aD (aC (k17 _ _ ?_))));refine bc ?_;simp only[zz];try simp only[ac,af,if_true]
   refine bY rfl rfl ?_;try simp only[zD,zE]
   exact⟨_,rfl,m.ext,by rw[vE,if_neg (fun h=>h e0),if_pos hc2]⟩
  ·
   have e1:dS v.x=0:=Decidable.not_not.1 hc2;refine ar (k13 _ _ ?_);refine aa (aA (aZ (m:=1) (n:=1) (r:=2) rfl rfl (by decide)) (aA aB (aC (bD (aF fun K18 k18=>aa (aA (cD (m:=2) (n:=4) rfl rfl (by decide)) (aC (k18 _ _ ?_))))))));refine aF fun K19 k19=>bX rfl (ar (k19 _ _ ?_));refine aF fun K20 k20=>av (aF fun K21 k21=>aa ?_);simp only[zz];refine aA (aS uB aH rfl rfl (by decide) (by omega) rfl) ?_;simp only[zz];refine aI rfl ((hB0.ext m.ext).lies aT aH rfl rfl) ?_;simp only[zz,zy,ah,ab,ag,ae];refine bE m cL rfl ?_;clear m;intro g3 u m;simp only[zz];refine aN m 0 rfl rfl rfl aH (bZ rfl) rfl ?_;clear m;intro u m;simp only[zy,zx,aW,zF,zG,ab] at m;refine aC (k21 _ _ ?_);refine aF fun K22 k22=>aa (aI rfl ((m.b 0 rfl).full aT aH) ?_);simp only[zz];refine aX m rfl rfl (mD (a:=v.y) (hv.y.mono (by decide))) ?_;clear m;intro u m;refine aA aD (aC (k22 _ _ ?_));refine aF fun K23 k23=>aa (aA aB (aA (nZ rfl rfl) ?_));simp only[zz];refine aC (k23 _ _ ?_);refine cW rfl (fun hc2=>?_) (fun hc2=>?_)
   ·
    refine aF fun K24 k24=>aa (aA aB (aA aD (aC (k24 _ _ ?_))));refine bc ?_;simp only[zz];try simp only[ac,af,if_true]
    refine bY rfl rfl ?_;try simp only[zD,zE]
    exact⟨_,rfl,m.ext,by rw[vE,if_neg (fun h=>h e0),if_neg (fun h=>h e1),if_pos hc2]⟩
   ·
    have e2:dS v.y=0:=Decidable.not_not.1 hc2;refine ar (k20 _ _ ?_);refine aa (aA (aZ (m:=2) (n:=1) (r:=3) rfl rfl (by decide)) (aA aB (aC (bD (aF fun K25 k25=>aa (aA (cD (m:=3) (n:=4) rfl rfl (by decide)) (aC (k25 _ _ ?_))))))));refine aF fun K26 k26=>bX rfl (ar (k26 _ _ ?_));refine aF fun K27 k27=>av (aF fun K28 k28=>aa ?_);simp only[zz];refine aA (aS uB aH rfl rfl (by decide) (by omega) rfl) ?_;simp only[zz];refine aI rfl ((hB0.ext m.ext).lies aT aH rfl rfl) ?_;simp only[zz,zy,ah,ab,ag,ae];refine bE m cL rfl ?_;clear m;intro g4 u m;simp only[zz];refine aN m 0 rfl rfl rfl aH (bZ rfl) rfl ?_;clear m;intro u m;simp only[zy,zx,aW,zF,zG,ab] at m;refine aC (k28 _ _ ?_);refine aF fun K29 k29=>aa (aI rfl ((m.b 0 rfl).full aT aH) ?_);simp only[zz];refine aX m rfl rfl (mD (a:=v.z) (hv.z.mono (by decide))) ?_;clear m;intro u m;refine aA aD (aC (k29 _ _ ?_));refine aF fun K30 k30=>aa (aA aB (aA (nZ rfl rfl) ?_));simp only[zz];refine aC (k30 _ _ ?_);refine cW rfl (fun hc2=>?_) (fun hc2=>?_)
    ·
     refine aF fun K31 k31=>aa (aA aB (aA aD (aC (k31 _ _ ?_))));refine bc ?_;simp only[zz];try simp only[ac,af,if_true]
     refine bY rfl rfl ?_;try simp only[zD,zE]
     exact⟨_,rfl,m.ext,by rw[vE,if_neg (fun h=>h e0),if_neg (fun h=>h e1),if_neg (fun h=>h e2),if_pos hc2]⟩
    ·
     have e3:dS v.z=0:=Decidable.not_not.1 hc2;refine ar (k27 _ _ ?_);refine aa (aA (aZ (m:=3) (n:=1) (r:=4) rfl rfl (by decide)) (aA aB (aC (bD (aF fun K32 k32=>aa (aA (fD (m:=4) (n:=4) rfl rfl (by decide)) (aC (k32 _ _ ?_))))))));refine aF fun K33 k33=>eZ rfl (bw (k2 _ _ ?_));refine aF fun K34 k34=>aa (aA aD ?_);simp only[zz];refine aC (k34 _ _ ?_);refine bc ?_;try simp only[ac,af,if_true]
     refine bY rfl rfl ?_;try simp only[zD,zE]
     exact⟨_,rfl,m.ext,by rw[vE,if_neg (fun h=>h e0),if_neg (fun h=>h e1),if_neg (fun h=>h e2),if_neg (fun h=>h e3)]⟩
theorem Kl{n:Int}{g0:Nat}(w:aw)(hn:Bd 400000 n)(hB0:gG w g0 [.bool (cY n),.string (dQ n)] 35):gZ prog 73 [.slice (some ⟨g0,0,none⟩) 1 1] w (fun x _=>x=.int .i64 (dS n)):=by
 refine⟨abU,?_⟩;have m:=cK.refl w
 go_enter func73,ntmps73
 refine aF fun K1 k1=>aa (aA aD (aC (k1 _ _ ?_)));refine aF fun K2 k2=>aF fun K3 k3=>aa (aA aB (aA (bR rfl uB rfl) (aA aB ?_)));simp only[zz];refine aC (k3 _ _ ?_);refine av (cz 2 (dT (aF fun K4 k4=>aa (aA (cD (m:=0) (n:=1) rfl rfl (by decide)) (aC (k4 _ _ ?_))))));refine aF fun K5 k5=>bX rfl (ar (k5 _ _ ?_));refine aF fun K6 k6=>av (aF fun K7 k7=>aa ?_);simp only[zz];refine aA (aS uB aH rfl rfl (by decide) (by omega) rfl) ?_;simp only[zz];refine aI rfl ((hB0.ext m.ext).lies aT aH rfl rfl) ?_;simp only[zz,zy,ah,ab,ag,ae];refine bE m cL rfl ?_;clear m;intro g1 u m;simp only[zz];refine aN m 0 rfl rfl rfl aH (bZ rfl) rfl ?_;clear m;intro u m;simp only[zy,zx,aW,zF,zG,ab] at m;refine aC (k7 _ _ ?_);refine aF fun K8 k8=>aa (aI rfl ((m.b 0 rfl).full aT aH) ?_);simp only[zz];refine aX m rfl rfl (mD (a:=n) (hn.mono (by decide))) ?_;clear m;intro u m;refine aA aD (aC (k8 _ _ ?_));refine aF fun K9 k9=>aa (aA aB (aA (nZ rfl rfl) ?_));simp only[zz];refine aC (k9 _ _ ?_);refine cW rfl (fun hc2=>?_) (fun hc2=>?_)
 ·
  refine aF fun K10 k10=>aa (aA aB (aA aD (aC (k10 _ _ ?_))));refine bc ?_;simp only[zz];try simp only[ac,af,if_true]
  refine bY rfl rfl ?_;try simp only[zD,zE]
  exact⟨_,rfl,m.ext,rfl⟩
 ·
  refine ar (k6 _ _ ?_);refine aa (aA (aZ (m:=0) (n:=1) (r:=1) rfl rfl (by decide)) (aA aB (aC (bD (aF fun K11 k11=>aa (aA (fD (m:=1) (n:=1) rfl rfl (by decide)) (aC (k11 _ _ ?_))))))));refine aF fun K12 k12=>eZ rfl (bw (k2 _ _ ?_));refine aF fun K13 k13=>aa (aA aD ?_);simp only[zz];refine aC (k13 _ _ ?_);refine bc ?_;try simp only[ac,af,if_true]
  refine bY rfl rfl ?_;try simp only[zD,zE]
  exact⟨_,rfl,m.ext,by rw[Decidable.not_not.1 hc2]⟩
theorem uE{n:Int}{v:P3}(hn:Bd 400000 n)(hv:Bv 400000 v):eB prog 72 [W n,wv v] (.int .i64 (vE n v)):=by
 intro w;refine⟨afa,?_⟩;have m:=cK.refl w
 go_enter func72,ntmps72
 refine aF fun K1 k1=>aa (cQ m rfl ?_);clear m;intro g1 u m;simp only[zz];refine cQ m rfl ?_;clear m;intro g2 u m;refine aA aD (aC (k1 _ _ ?_));refine aF fun K2 k2=>aa ?_;simp only[zz];refine aI rfl ((m.b 1 rfl).full aT aH) ?_;simp only[zz];refine aA (aJ fE aH rfl rfl (by decide) (by decide) rfl) ?_;simp only[zz];refine aI rfl ((m.b 0 rfl).lies aT aH rfl rfl) ?_;simp only[zz,zy,ah,ab,ag,ae];refine aA (aJ fE aH rfl rfl (by decide) (by decide) rfl) ?_;simp only[zz];refine aI rfl ((m.b 0 rfl).lies aT aH rfl rfl) ?_;simp only[zz,zy,ah,ab,ag,ae];refine aA (aJ fE aH rfl rfl (by decide) (by decide) rfl) ?_;simp only[zz];refine aI rfl ((m.b 0 rfl).lies aT aH rfl rfl) ?_;simp only[zz,zy,ah,ab,ag,ae];refine Po rfl rfl rfl rfl ?_;intro u g3 e hg hB;replace m:=m.newB e hg hB;clear e hg hB;simp only[zz];refine fJ m rfl rfl (aba (n:=n) (v:=v) _ hn hv (m.b 0 rfl)) ?_;clear m;rintro v u m rfl;refine aA aD (aC (k2 _ _ ?_));refine bc ?_;simp only[zz];try simp only[ac,af,if_true]
 refine bY rfl rfl ?_;try simp only[zD,zE]
 exact⟨_,rfl,m.ext,rfl⟩
theorem nI{n d:Int}(hn:Bd 400000 n)(hd:Bd 400000 d)(h0:d≠0):eB prog 62 [W n,W d] (Q (am n d)):=by
 intro w;refine⟨ae0,?_⟩;have m:=cK.refl w
 go_enter func62,ntmps62
 refine aF fun K1 k1=>aa (cQ m rfl ?_);clear m;intro g1 u m;simp only[zz];refine cQ m rfl ?_;clear m;intro g2 u m;simp only[zz];refine bE m cF rfl ?_;clear m;intro g3 u m;refine aC (k1 _ _ ?_);refine aF fun K2 k2=>aa ?_;simp only[zz];refine aI rfl ((m.b 2 rfl).full aT aH) ?_;simp only[zz];refine aI rfl ((m.b 1 rfl).full aT aH) ?_;simp only[zz];refine aX m rfl rfl (adt hn hd h0) ?_;clear m;intro u m;refine aA aB (aA (aU rfl rfl) (aA (aU rfl rfl) ?_));simp only[zz];refine bE m cF rfl ?_;clear m;intro g4 u m;simp only[zz];refine aN m 0 rfl rfl rfl aK (bZ rfl) rfl ?_;clear m;intro u m;simp only[zy,zx,aW,zF,zG,ab] at m;refine aA aD (aC (k2 _ _ ?_));refine aF fun K3 k3=>aa ?_;simp only[zz];refine aI rfl ((m.b 0 rfl).full bF aK) ?_;simp only[zz];refine aN m 1 rfl rfl rfl aK (bZ rfl) rfl ?_;clear m;intro u m;simp only[zy,zx,aW,zF,zG,ab] at m;refine aC (k3 _ _ ?_);refine bc ?_;try simp only[ac,af,if_true]
 refine bY rfl ⟨_,rfl,((m.b 1 rfl).full bF aK)⟩ ?_;try simp only[zD,zE]
 exact⟨_,rfl,m.ext,rfl⟩
theorem gQ  : eB prog 43 [] (Q 0):=by
 intro w;refine⟨aeH,?_⟩;have m:=cK.refl w
 go_enter func43,ntmps43
 refine aF fun K1 k1=>aa (bE m cF rfl ?_);clear m;intro g1 u m;refine aC (k1 _ _ ?_);refine aF fun K2 k2=>?_;simp only[zz];haveI:Iw (1:Int):=⟨⟨by decide,by decide⟩⟩
 refine aa (aA Bn ?_);simp only[zz];refine aX m rfl rfl (mE (n:=1) Iw.h) ?_;clear m;intro u m;simp only[zz];refine aX m rfl rfl (nI (n:=0) (d:=1) (jT _) Bw.up (by decide)) ?_;clear m;intro u m;simp only[zz];refine aN m 0 rfl rfl rfl aK (bZ rfl) rfl ?_;clear m;intro u m;simp only[zy,zx,aW,zF,zG,ab] at m;refine aC (k2 _ _ ?_);refine bc ?_;try simp only[ac,af,if_true]
 refine bY rfl ⟨_,rfl,((m.b 0 rfl).full bF aK)⟩ ?_;try simp only[zD,zE]
 exact⟨_,rfl,m.ext,by rw[Rat.zero_divInt];rfl⟩
theorem Cb{r:gJ}[IR r]:eB prog 63 [kK r] (.bool (decide r.ok)):=by
 intro w;refine⟨ae1,?_⟩;have m:=cK.refl w
 go_enter func63,ntmps63
 refine aF fun K1 k1=>aa (cQ m rfl ?_);clear m;intro g1 u m;refine aA aD (aC (k1 _ _ ?_));refine aF fun K2 k2=>aa (aA (aG (c:=0) gE rfl aM rfl rfl) ?_);simp only[zz];refine aI rfl ((m.b 0 rfl).lies1 aV rfl) ?_;simp only[zz];refine aA (gW rfl rfl) (aA aB (iU rfl (fun hb=>aG (c:=2) gE rfl cZ rfl rfl) ?_));simp only[zz];refine rS rfl (fun hb=>lM (jU hb rfl) ((m.b 0 rfl).lies oF cZ rfl rfl)) ?_;simp only[zz,zy,ah,ab,ag,ae];refine iU rfl (fun hb=>oV) (iU rfl (fun hb=>Td (jU hb rfl) (jU hb rfl)) (aA (lK rfl rfl rfl) (aA aD ?_)));simp only[zz];refine aC (k2 _ _ ?_);refine bc ?_;try simp only[ac,af,if_true]
 refine bY rfl rfl ?_;try simp only[zD,zE]
 exact⟨_,rfl,m.ext,kZ (Bool.decide_and _ _).symm⟩
end Go.Proofs.YtimjandkmfcmiaaGreatDoor
namespace Go.Proofs.YtimjandkmfcmiaaGreatDoor
open Go.Proofs.Tryz
open Go.RowKit Go.Lith
set_option maxRecDepth 100000
attribute [local irreducible] bh wpQuiet eY eO eJ Code.wp
instance age{k m:Nat}{u v:P3}[hu:Bv k u][hv:Bv m v]:Bv (max k m+1) (u.sub v):=⟨hu.x.sub hv.x,hu.y.sub hv.y,hu.z.sub hv.z⟩
theorem ab5{x y:Int}:x=0∨(x≠0∧¬y=x)∨(x≠0∧y=x):=by omega
theorem Ev{r:gJ}[IR r](h:r.ok):eB prog 63 [kK r] (.bool true):=by
 have:=Cb (r:=r);rwa [decide_eq_true h] at this
theorem Ew{r:gJ}[IR r](h:¬r.ok):eB prog 63 [kK r] (.bool false):=by
 have:=Cb (r:=r);rwa [decide_eq_false h] at this
theorem abb:wv ⟨0,0,0⟩=.agg #[.bool false,.string ⟨#[]⟩,.bool false,.string ⟨#[]⟩,.bool false,.string ⟨#[]⟩]:=by
 simp only[wv,Ho];rfl
theorem Ia{v:P3}(hv:Bv 300000 v):eB prog 68 [.agg #[.bool false,.string ⟨#[]⟩,.bool false,.string ⟨#[]⟩,.bool false,.string ⟨#[]⟩],wv v] (wv (P3.sub ⟨0,0,0⟩ v)):=by
 rw[←abb];exact rC ⟨jT _,jT _,jT _⟩ hv
theorem Km{d p q:P3}{g1:Nat}(w:aw)(hd:Bv 200 d)(hp:Bv 200 p)(hq:Bv 200 q)(hB1:gG w g1 [.bool (cY (d).x),.string (dQ (d).x),.bool (cY (d).y),.string (dQ (d).y),.bool (cY (d).z),.string (dQ (d).z)] 108):gZ prog 105 [wv p,wv q,.pointer (some ⟨g1,0,none⟩)] w (fun v _=>v=.int .i64 (vF d p q)):=by
 refine⟨aco,?_⟩;have m:=cK.refl w
 go_enter func105,ntmps105
 refine aF fun K1 k1=>aa (cQ m rfl ?_);clear m;intro g2 u m;simp only[zz];refine cQ m rfl ?_;clear m;intro g3 u m;refine aA aD (aC (k1 _ _ ?_));refine aF fun K2 k2=>?_;simp only[zz];refine mq m aP (by kernel_rfl) (ql rfl (fun u m=>((hB1.ext m.ext).lies fN cC rfl rfl)) ?_);simp only[zz,zy,ah,ab,ag,ae];refine ql rfl (fun u m=>((m.b 1 rfl).full fN cC)) ?_;simp only[zz];refine ql rfl (fun u m=>((m.b 0 rfl).full fN cC)) ?_;simp only[zz];refine gV rfl rfl (Nj Bv.of Bv.of) ?_;simp only[zz];refine gV rfl rfl (Px Bv.of Bv.of) ?_;simp only[zz];refine ql rfl (fun u m=>((hB1.ext m.ext).lies fN cC rfl rfl)) ?_;simp only[zz,zy,ah,ab,ag,ae];refine ql rfl (fun u m=>((m.b 0 rfl).full fN cC)) ?_;simp only[zz];refine ql rfl (fun u m=>((m.b 1 rfl).full fN cC)) ?_;simp only[zz];refine gV rfl rfl (rC Bv.of Bv.of) ?_;simp only[zz];refine gV rfl rfl (Nj Bv.of Bv.of) ?_;simp only[zz];refine gV rfl rfl (uE Bw.up Bv.of) (aQ aD (eD ?_));clear m;intro u m;refine k2 _ _ (bc ?_);simp only[zz];try simp only[ac,af,if_true]
 refine bY rfl rfl ?_;try simp only[zD,zE]
 exact⟨_,rfl,m.ext,rfl⟩
theorem Yz{d a b c:P3}(hd:Bv 200 d)(ha:Bv 200 a)(hb:Bv 200 b)(hc:Bv 200 c):eB prog 69 [wv d,.agg #[.bool (cY (a).x),.string (dQ (a).x),.bool (cY (a).y),.string (dQ (a).y),.bool (cY (a).z),.string (dQ (a).z),.bool (cY (b).x),.string (dQ (b).x),.bool (cY (b).y),.string (dQ (b).y),.bool (cY (b).z),.string (dQ (b).z),.bool (cY (c).x),.string (dQ (c).x),.bool (cY (c).y),.string (dQ (c).y),.bool (cY (c).z),.string (dQ (c).z)]] (.bool (decide (yP d a b c))):=by
 intro w;refine⟨ae7,?_⟩;have m:=cK.refl w
 go_enter func69,ntmps69
 refine aF fun K1 k1=>aa (cQ m rfl ?_);clear m;intro g1 u m;simp only[zz];refine cQ m rfl ?_;clear m;intro g2 u m;refine aA aD (aC (k1 _ _ ?_));refine aF fun K2 k2=>aa ?_;simp only[zz];refine aA De ?_;simp only[zz,List.map_toArray,List.map_cons,List.map_nil];refine aA aD (aC (k2 _ _ ?_));refine aF fun K3 k3=>aa (aA aB (aA (aJ oD cC rfl rfl (by decide) (by decide) rfl) ?_));simp only[zz];refine aI rfl ((m.b 0 rfl).lies fN cC rfl rfl) ?_;simp only[zz,zy,ah,ab,ag,ae];refine aA (aJ oD cC rfl rfl (by decide) (by decide) rfl) ?_;simp only[zz];refine aI rfl ((m.b 0 rfl).lies fN cC rfl rfl) ?_;simp only[zz,zy,ah,ab,ag,ae];refine fJ m rfl rfl (Km (d:=d) (p:=a) (q:=b) _ hd ha hb (m.b 1 rfl)) ?_;clear m;rintro v u m rfl;refine aA aD (aC (k3 _ _ ?_));refine aF fun K4 k4=>?_;simp only[zz];rcases ab5 (x:=vF d a b) (y:=vF d b c) with h0 | ⟨h0,h1⟩ | ⟨h0,h1⟩
 ·
  refine aa (aA aB (aA (rV rfl rfl (not_not_intro h0)) (aA aB (bO rfl ?_))));simp only[zz];refine bO rfl (bO rfl (bO rfl (bO rfl ?_)));simp only[zz];refine bO rfl (bO rfl (bO rfl (aA (cV rfl) ?_)));simp only[zz];refine aA aB (bO rfl (bO rfl (bO rfl ?_)));simp only[zz];refine bO rfl (bO rfl (bO rfl (bO rfl ?_)));simp only[zz];refine bO rfl (aA (cV rfl) (aA aD (aC (k4 _ _ ?_))));refine bc ?_;simp only[zz];try simp only[ac,af,if_true]
  refine bY rfl rfl ?_;try simp only[zD,zE]
  exact⟨_,rfl,m.ext,kZ (decide_eq_false (fun k=>k.1 h0)).symm⟩
 ·
  refine aa (aA aB (aA (wU rfl rfl h0) (aA aB (aR rfl (aA aB ?_)))));simp only[zz];refine aR rfl (aA (aJ oD cC rfl rfl (by decide) (by decide) rfl) (aR rfl ?_));simp only[zz];refine aI rfl ((m.b 0 rfl).lies fN cC rfl rfl) ?_;simp only[zz,zy,ah,ab,ag,ae];refine aR rfl (aA (aJ oD cC rfl rfl (by decide) (by decide) rfl) (aR rfl ?_));simp only[zz];refine aI rfl ((m.b 0 rfl).lies fN cC rfl rfl) ?_;simp only[zz,zy,ah,ab,ag,ae];refine aR rfl (fJ m rfl rfl (Km (d:=d) (p:=b) (q:=c) _ hd hb hc (m.b 1 rfl)) ?_);clear m;rintro v u m rfl;refine aR rfl (aA aB (aR rfl (aA (mU rfl rfl h1) (aA (cT rfl) ?_))));simp only[zz];refine aA aB (bO rfl (bO rfl (bO rfl ?_)));simp only[zz];refine bO rfl (bO rfl (bO rfl (bO rfl ?_)));simp only[zz];refine bO rfl (aA (cV rfl) (aA aD (aC (k4 _ _ ?_))));refine bc ?_;simp only[zz];try simp only[ac,af,if_true]
  refine bY rfl rfl ?_;try simp only[zD,zE]
  exact⟨_,rfl,m.ext,kZ (decide_eq_false (fun k=>h1 k.2.1)).symm⟩
 ·
  refine aa (aA aB (aA (wU rfl rfl h0) (aA aB (aR rfl (aA aB ?_)))));simp only[zz];refine aR rfl (aA (aJ oD cC rfl rfl (by decide) (by decide) rfl) (aR rfl ?_));simp only[zz];refine aI rfl ((m.b 0 rfl).lies fN cC rfl rfl) ?_;simp only[zz,zy,ah,ab,ag,ae];refine aR rfl (aA (aJ oD cC rfl rfl (by decide) (by decide) rfl) (aR rfl ?_));simp only[zz];refine aI rfl ((m.b 0 rfl).lies fN cC rfl rfl) ?_;simp only[zz,zy,ah,ab,ag,ae];refine aR rfl (fJ m rfl rfl (Km (d:=d) (p:=b) (q:=c) _ hd hb hc (m.b 1 rfl)) ?_);clear m;rintro v u m rfl;refine aR rfl (aA aB (aR rfl (aA (pL rfl rfl h1) (aA (cT rfl) ?_))));simp only[zz];refine aA aB (aR rfl (aA aB (aR rfl (aA (aJ oD cC rfl rfl (by decide) (by decide) rfl) (aR rfl ?_)))));simp only[zz];refine aI rfl ((m.b 0 rfl).lies fN cC rfl rfl) ?_;simp only[zz,zy,ah,ab,ag,ae];refine aR rfl (aA (aJ oD cC rfl rfl (by decide) (by decide) rfl) (aR rfl ?_));simp only[zz];refine aI rfl ((m.b 0 rfl).lies fN cC rfl rfl) ?_;simp only[zz,zy,ah,ab,ag,ae];refine aR rfl (fJ m rfl rfl (Km (d:=d) (p:=c) (q:=a) _ hd hc ha (m.b 1 rfl)) ?_);clear m;rintro v u m rfl;refine aR rfl (aA aB (aR rfl (aA (mF rfl rfl) (aA (cT rfl) ?_))));simp only[zz];refine aA aD (aC (k4 _ _ ?_));refine bc ?_;simp only[zz];try simp only[ac,af,if_true]
  refine bY rfl rfl ?_;try simp only[zD,zE]
  exact⟨_,rfl,m.ext,kZ (decide_eq_decide.2 ⟨fun k=>⟨h0,h1,k⟩,fun k=>k.2.2⟩)⟩
end Go.Proofs.YtimjandkmfcmiaaGreatDoor
namespace Go.Proofs.YtimjandkmfcmiaaGreatDoor
open Go.Proofs.Tryz
open Go.RowKit Go.Lith
set_option maxRecDepth 100000
attribute [local irreducible] bh wpQuiet eY eO eJ Code.wp
instance agy{p:P3}[h:I3 p]:Bv 64 p:=⟨h.x.bd,h.y.bd,h.z.bd⟩
instance agn{k m:Nat}{v:P3}{n:Int}[h:Bv k v][a:Bw m n]:Bv (k+m) (v.scl n):=⟨h.x.mul a.h,h.y.mul a.h,h.z.mul a.h⟩
instance agC:Bv 1 (⟨0,0,0⟩:P3):=⟨jT _,jT _,jT _⟩
instance ago{r:gJ}{t:T3}[IR r][IT t]:Bw 262 (Ar r t):=inferInstanceAs (Bw 262 (t.normal.dot (r.to t.a)))
instance agp{r:gJ}{t:T3}[IR r][IT t]:Bw 197 (sY r t):=inferInstanceAs (Bw 197 (t.normal.dot r.d))
theorem Uo{t:T3}[IT t]:eB prog 64 [tr t] (.bool (decide t.flat)):=by
 have:=adC (t:=t);rwa [show decide (dS t.normal.x=0∧dS t.normal.y=0∧dS t.normal.z=0)=decide t.flat from decide_eq_decide.2 (by rw[iN,iN,iN];rfl)] at this
theorem eN{r:gJ}{t:T3}(h:¬jK r t):Value.tuple #[Q 0,.bool false]=.tuple #[Q (gC r t),.bool (decide (jK r t))]:=by
 rw[gC,if_neg h,decide_eq_false h]
theorem lL{r:gJ}{t:T3}(h:jK r t):Value.tuple #[Q (am (Ar r t) (r.w*sY r t)),.bool true]=.tuple #[Q (gC r t),.bool (decide (jK r t))]:=by
 rw[gC,if_pos h,decide_eq_true h]
theorem Nk{r:gJ}{t:T3}(hok:r.ok)(h:sY r t≠0):r.w*sY r t≠0:=fun e=>by
 rcases Int.mul_eq_zero.1 e with e | e
 · have:=hok.1;omega
 · exact h e
theorem Py{r:gJ}{t:T3}[IR r][IT t]:eB prog 44 [kK r,tr t] (.tuple #[Q (gC r t),.bool (decide (jK r t))]):=by
 intro w;refine⟨aeI,?_⟩;have m:=cK.refl w
 go_enter func44,ntmps44
 refine aF fun K1 k1=>aa (cQ m rfl ?_);clear m;intro g1 u m;simp only[zz];refine cQ m rfl ?_;clear m;intro g2 u m;simp only[zz];refine bE m cF rfl ?_;clear m;intro g3 u m;refine aA aD (aC (k1 _ _ ?_));refine aF fun K2 k2=>aF fun K3 k3=>?_;simp only[zz];rcases Decidable.em r.ok with hok | hok
 ·
  refine aa (aI rfl ((m.b 2 rfl).full fR dG) ?_);simp only[zz];refine aX m rfl rfl (Ev hok) ?_;clear m;intro u m;refine aA (fM rfl) (aA aB (aR rfl ?_));simp only[zz];refine aI rfl ((m.b 1 rfl).full mW eW) ?_;simp only[zz];refine aR rfl (aX m rfl rfl Uo ?_);clear m;intro u m;refine aA (cV rfl) (aC (k3 _ _ ?_));simp only[zz];refine cW rfl (fun hc1=>?_) (fun hc1=>?_)
  ·
   refine aF fun K4 k4=>aa (aX m rfl rfl gQ ?_);clear m;intro u m;simp only[zz];refine aN m 0 rfl rfl rfl aK (bZ rfl) rfl ?_;clear m;intro u m;simp only[zy,zx,aW,zF,zG,ab] at m;refine aA aD (aC (k4 _ _ ?_));refine bc ?_;simp only[zz];try simp only[ac,af,if_true]
   refine kD rfl ⟨_,rfl,((m.b 0 rfl).full bF aK)⟩ rfl ?_;try simp only[zD,zE]
   exact⟨_,rfl,m.ext,eN (fun h=>h.2.1 hc1)⟩
  ·
   have hf:¬t.flat:=hc1;refine ar (k2 _ _ ?_);refine aF fun K5 k5=>?_;refine eP 23 [0,1,2,3,4,5,6,7,8,9,10,11,12,13,14,15,16,17,18,19] [⟨20,6,108,[.bool false,.string ⟨#[]⟩,.bool false,.string ⟨#[]⟩,.bool false,.string ⟨#[]⟩]⟩,⟨21,7,108,[.bool false,.string ⟨#[]⟩,.bool false,.string ⟨#[]⟩,.bool false,.string ⟨#[]⟩]⟩,⟨22,8,35,[.bool false,.string ⟨#[]⟩]⟩] aP (by kernel_rfl) (al3 ⟨_,_,_,rfl,by kernel_rfl,_,kB,rfl⟩ ⟨_,_,_,rfl,by kernel_rfl,_,kB,rfl⟩ ⟨_,_,_,rfl,by kernel_rfl,_,cL,rfl⟩) (ol:=?_) ?hol ?_
   case hol=>simp only[zw,zQ,zR];try rfl
   intro u e;replace m:=m.ext' e;clear e;refine jE (aG (c:=0) gE rfl aM rfl rfl) ?_;simp only[zz];refine eU rfl (fun u e=>(((m.ext' e).b 2 rfl).lies1 aV rfl)) ?_;simp only[zz];refine jE (aG (c:=0) gE rfl aM rfl rfl) ?_;simp only[zz];refine eU rfl (fun u e=>(((m.ext' e).b 2 rfl).lies1 aV rfl)) ?_;simp only[zz];refine jE (aG (c:=0) gE rfl aM rfl rfl) ?_;simp only[zz];refine eU rfl (fun u e=>(((m.ext' e).b 2 rfl).lies1 aV rfl)) ?_;simp only[zz];refine eR rfl rfl aa9 (jE (aG (c:=2) gE rfl cZ rfl rfl) (jE (aJ fF aM rfl rfl (by decide) (by decide) rfl) ?_));simp only[zz];refine eU rfl (fun u e=>(((m.ext' e).b 2 rfl).lies1 aV rfl)) ?_;simp only[zz];refine jE (aG (c:=2) gE rfl cZ rfl rfl) (jE (aJ fF aM rfl rfl (by decide) (by decide) rfl) ?_);simp only[zz];refine eU rfl (fun u e=>(((m.ext' e).b 2 rfl).lies1 aV rfl)) ?_;simp only[zz];refine jE (aG (c:=2) gE rfl cZ rfl rfl) (jE (aJ fF aM rfl rfl (by decide) (by decide) rfl) ?_);simp only[zz];refine eU rfl (fun u e=>(((m.ext' e).b 2 rfl).lies1 aV rfl)) ?_;simp only[zz];refine eR rfl rfl aa9 (jE (aG (c:=0) gE rfl aM rfl rfl) ?_);simp only[zz];refine eU rfl (fun u e=>(((m.ext' e).b 2 rfl).lies1 aV rfl)) ?_;simp only[zz];refine eR rfl rfl (mE Iw.h) (qZ ?_);simp only[zz];refine mf3 m (by decide) (by decide) (by decide) ?_;clear m;intro g4 g5 g6 u m;simp only[zJ,zK,zF,zG];refine aN m 2 rfl rfl rfl cC (bZ rfl) rfl ?_;clear m;intro u m;simp only[zy,zx,aW,zF,zG,ab] at m;refine aN m 1 rfl rfl rfl cC (bZ rfl) rfl ?_;clear m;intro u m;simp only[zy,zx,aW,zF,zG,ab] at m;refine aN m 0 rfl rfl rfl aH (bZ rfl) rfl ?_;clear m;intro u m;simp only[zy,zx,aW,zF,zG,ab] at m;refine aC (k5 _ _ ?_);refine aF fun K6 k6=>aa (bE m Wf rfl ?_);clear m;intro g7 u m;refine aC (k6 _ _ ?_);refine aF fun K7 k7=>aF fun K8 k8=>aa ?_;simp only[zz];refine aI rfl ((m.b 5 rfl).full mW eW) ?_;simp only[zz];refine aA aB (aC (k8 _ _ ?_));refine av (cz 4 (dT (aF fun K9 k9=>aa (aA (cD (m:=0) (n:=3) rfl rfl (by decide)) (aC (k9 _ _ ?_))))));refine aF fun K10 k10=>bX rfl (ar (k10 _ _ ?_));refine aF fun K11 k11=>av (aF fun K12 k12=>aa (aA aB (aA (yJ rfl rfl) ?_)));simp only[zz];refine bE m eL rfl ?_;clear m;intro g8 u m;refine aA aD ?_;simp only[zz];refine aN m 0 rfl rfl rfl aL (bZ rfl) rfl ?_;clear m;intro u m;simp only[zy,zx,aW,zF,zG,ab] at m;refine aC (k12 _ _ ?_);refine dO m 8 aP (by kernel_rfl) ?_;simp only[zy];refine aQ aB ?_;simp only[zz];refine ql rfl (fun u m=>((m.b 0 rfl).full bG aL)) ?_;simp only[zz];refine gV rfl rfl rB ?_;simp only[zz];refine ql rfl (fun u m=>((m.b 2 rfl).full aT aH)) ?_;simp only[zz];refine gV rfl rfl (vK Bv.of ⟨Bw.up⟩) ?_;simp only[zz];refine ql rfl (fun u m=>((m.b 4 rfl).full fN cC)) ?_;simp only[zz];refine gV rfl rfl (rC Bv.of Bv.of) (aQ (aJ oD cC rfl rfl (by decide) (by decide) rfl) (eD ?_));clear m;intro u m;simp only[zz];refine aN m 1 rfl rfl rfl cC (bZ rfl) rfl ?_;clear m;intro u m;simp only[zy,zx,aW,zF,zG,ab] at m;refine aC (k11 _ _ ?_);refine aa (aA (aZ (m:=0) (n:=1) (r:=1) rfl rfl (by decide)) (aA aB (aC (bD (aF fun K13 k13=>aa (aA (cD (m:=1) (n:=3) rfl rfl (by decide)) (aC (k13 _ _ ?_))))))));refine aF fun K14 k14=>bX rfl (ar (k14 _ _ ?_));refine aF fun K15 k15=>av (aF fun K16 k16=>aa (aA aB ?_));simp only[zz];refine aA (yK rfl rfl) ?_;simp only[zz];refine bE m eL rfl ?_;clear m;intro g9 u m;refine aA aD ?_;simp only[zz];refine aN m 0 rfl rfl rfl aL (bZ rfl) rfl ?_;clear m;intro u m;simp only[zy,zx,aW,zF,zG,ab] at m;refine aC (k16 _ _ ?_);refine dO m 8 aP (by kernel_rfl) ?_;simp only[zy];refine aQ aB ?_;simp only[zz];refine ql rfl (fun u m=>((m.b 0 rfl).full bG aL)) ?_;simp only[zz];refine gV rfl rfl rB ?_;simp only[zz];refine ql rfl (fun u m=>((m.b 3 rfl).full aT aH)) ?_;simp only[zz];refine gV rfl rfl (vK Bv.of ⟨Bw.up⟩) ?_;simp only[zz];refine ql rfl (fun u m=>((m.b 5 rfl).full fN cC)) ?_;simp only[zz];refine gV rfl rfl (rC Bv.of Bv.of) (aQ (aJ oD cC rfl rfl (by decide) (by decide) rfl) (eD ?_));clear m;intro u m;simp only[zz];refine aN m 2 rfl rfl rfl cC (bZ rfl) rfl ?_;clear m;intro u m;simp only[zy,zx,aW,zF,zG,ab] at m;refine aC (k15 _ _ ?_);refine aa (aA (aZ (m:=1) (n:=1) (r:=2) rfl rfl (by decide)) (aA aB (aC (bD (aF fun K17 k17=>aa (aA (cD (m:=2) (n:=3) rfl rfl (by decide)) (aC (k17 _ _ ?_))))))));refine aF fun K18 k18=>bX rfl (ar (k18 _ _ ?_));refine aF fun K19 k19=>av (aF fun K20 k20=>aa (aA aB ?_));simp only[zz];refine aA (yL rfl rfl) ?_;simp only[zz];refine bE m eL rfl ?_;clear m;intro g10 u m;refine aA aD ?_;simp only[zz];refine aN m 0 rfl rfl rfl aL (bZ rfl) rfl ?_;clear m;intro u m;simp only[zy,zx,aW,zF,zG,ab] at m;refine aC (k20 _ _ ?_);refine dO m 8 aP (by kernel_rfl) ?_;simp only[zy];refine aQ aB ?_;simp only[zz];refine ql rfl (fun u m=>((m.b 0 rfl).full bG aL)) ?_;simp only[zz];refine gV rfl rfl rB ?_;simp only[zz];refine ql rfl (fun u m=>((m.b 4 rfl).full aT aH)) ?_;simp only[zz];refine gV rfl rfl (vK Bv.of ⟨Bw.up⟩) ?_;simp only[zz];refine ql rfl (fun u m=>((m.b 6 rfl).full fN cC)) ?_;simp only[zz];refine gV rfl rfl (rC Bv.of Bv.of) (aQ (aJ oD cC rfl rfl (by decide) (by decide) rfl) (eD ?_));clear m;intro u m;simp only[zz];refine aN m 3 rfl rfl rfl cC (bZ rfl) rfl ?_;clear m;intro u m;simp only[zy,zx,aW,zF,zG,ab] at m;refine aC (k19 _ _ ?_);refine aa (aA (aZ (m:=2) (n:=1) (r:=3) rfl rfl (by decide)) (aA aB (aC (bD (aF fun K21 k21=>aa (aA (fD (m:=3) (n:=3) rfl rfl (by decide)) (aC (k21 _ _ ?_))))))));refine aF fun K22 k22=>eZ rfl (bw (k7 _ _ ?_));refine aF fun K23 k23=>aF fun K24 k24=>aa ?_;simp only[zz];refine aI rfl ((m.b 5 rfl).full fN cC) ?_;simp only[zz];refine aI rfl ((m.b 3 rfl).full aax Sv) ?_;simp only[zz];refine aX m rfl rfl (Yz (d:=r.d) (a:=r.to t.a) (b:=r.to t.b) (c:=r.to t.c) Bv.of Bv.of Bv.of Bv.of) ?_;clear m;intro u m;refine aA (fM rfl) (aC (k24 _ _ ?_));simp only[zz];refine pK rfl (fun hc3=>?_) (fun hc3=>?_)
   ·
    have hp:¬yP r.d (r.to t.a) (r.to t.b) (r.to t.c):=by simpa using hc3
    refine aF fun K25 k25=>aa (aX m rfl rfl gQ ?_);clear m;intro u m;simp only[zz];refine aN m 7 rfl rfl rfl aK (bZ rfl) rfl ?_;clear m;intro u m;simp only[zy,zx,aW,zF,zG,ab] at m;refine aA aD (aC (k25 _ _ ?_));refine bc ?_;simp only[zz];try simp only[ac,af,if_true]
    refine kD rfl ⟨_,rfl,((m.b 7 rfl).full bF aK)⟩ rfl ?_;try simp only[zD,zE]
    exact⟨_,rfl,m.ext,eN (fun h=>hp h.2.2.1)⟩
   ·
    have hp:yP r.d (r.to t.a) (r.to t.b) (r.to t.c):=by simpa using hc3
    refine ar (k23 _ _ ?_);refine aF fun K26 k26=>aa (aI rfl ((m.b 8 rfl).full mW eW) ?_);simp only[zz];refine aX m rfl rfl Xz ?_;clear m;intro u m;simp only[zz];refine bE m kB rfl ?_;clear m;intro g11 u m;simp only[zz];refine aN m 0 rfl rfl rfl cC (bZ rfl) rfl ?_;clear m;intro u m;simp only[zy,zx,aW,zF,zG,ab] at m;refine aC (k26 _ _ ?_);refine aF fun K27 k27=>aa (aI rfl ((m.b 0 rfl).full fN cC) ?_);simp only[zz];refine aA De ?_;simp only[zz,List.map_toArray,List.map_cons,List.map_nil];refine aA aD (aC (k27 _ _ ?_));refine aF fun K28 k28=>?_;simp only[zz];refine eP 9 [0,1,2,3,4,5,6] [⟨7,14,35,[.bool false,.string ⟨#[]⟩]⟩,⟨8,15,35,[.bool false,.string ⟨#[]⟩]⟩] aP (by kernel_rfl) (al2 ⟨_,_,_,rfl,by kernel_rfl,_,cL,rfl⟩ ⟨_,_,_,rfl,by kernel_rfl,_,cL,rfl⟩) (ol:=?_) ?hol ?_
    case hol=>simp only[zw,zQ,zR];try rfl
    intro u e;replace m:=m.ext' e;clear e;refine jE aB (jE (aJ oD cC rfl rfl (by decide) (by decide) rfl) ?_);simp only[zz];refine eU rfl (fun u e=>(((m.ext' e).b 4 rfl).lies fN cC rfl rfl)) ?_;simp only[zz,zy,ah,ab,ag,ae];refine eR rfl rfl (Px (u:=t.normal) (v:=r.to t.a) Bv.of Bv.of) (jE aB ?_);simp only[zz];refine eU rfl (fun u e=>(((m.ext' e).b 6 rfl).full fN cC)) ?_;simp only[zz];refine eR rfl rfl (Px (u:=t.normal) (v:=r.d) Bv.of Bv.of) (qZ ?_);simp only[zz];refine mf2 m (by decide) ?_;clear m;intro g12 g13 u m;simp only[zJ,zK,zF,zG];refine aN m 1 rfl rfl rfl aH (bZ rfl) rfl ?_;clear m;intro u m;simp only[zy,zx,aW,zF,zG,ab] at m;refine aN m 0 rfl rfl rfl aH (bZ rfl) rfl ?_;clear m;intro u m;simp only[zy,zx,aW,zF,zG,ab] at m;refine aC (k28 _ _ ?_);refine aF fun K29 k29=>aF fun K30 k30=>?_;refine lG m [true,true,true,true,true,true,true,true,true,true,true,true,true] (.take 0 (.take 1 (.take 2 (.take 5 (.two 3 (.two 4 (.one 6 (.one 7 (.take 8 .nil))) 6 (.one 4 (.one 7 (.take 8 .nil)))) 6 (.one 3 (.one 4 (.one 7 (.take 8 .nil))))))))) aP (by kernel_rfl) (dJ (fun _ _ _ _ _ h=>h)) ?_;clear m;intro u m;refine aY (by simp only[zw];rfl) (cO rfl (fun u m=>((m.b 1 rfl).full aT aH)) ?_);simp only[zz];refine bB (aY (by simp only[zw];rfl) (bA Jj (bB (aY (by simp only[zw];rfl) ?_))));simp only[zz];refine cO rfl (fun u m=>((m.b 2 rfl).full fN cC)) ?_;simp only[zz];refine bB (aY (by simp only[zw];rfl) (cO rfl (fun u m=>((m.b 0 rfl).full aT aH)) ?_));simp only[zz];refine bB ?_;refine iM (by simp only[zw];rfl) (by simp only[zw];rfl) ?_ ?_
    ·
     refine aX m rfl rfl (Ia (v:=t.normal) Bv.of) ?_;clear m;intro u m;refine aC (⟨m,?_⟩);simp only[zz];refine iM (by simp only[zw];rfl) (by simp only[zw];rfl) ?_ ?_
     ·
      refine aX m rfl rfl (uE (n:=Ar r t) (v:=P3.sub ⟨0,0,0⟩ t.normal) Bw.up Bv.of) ?_;clear m;intro u m;refine aC (⟨m,?_⟩);refine bQ (by simp only[zw];rfl) ?_;simp only[zz];refine xC rfl ?_;intro u g14 e hg hB;replace m:=m.newB e hg hB;clear e hg hB;refine aC (⟨m.sel [false,true,true,true,true,true,true,true,true,true,true,true,true,true],?_⟩);refine bQ (by simp only[zw];rfl) ?_;simp only[zz];refine fJ m rfl rfl (Kl (n:=sY r t) _ Bw.up (m.b 0 rfl)) ?_;clear m;rintro v u m rfl;refine aC (⟨m.sel [false,true,true,true,true,true,true,true,true,true,true,true,true,true],?_⟩);refine aY (by simp only[zw];rfl) (bA (nZ rfl rfl) (bB (eV (k30 _ _ ?_))));simp only[zz];refine cW rfl (fun hc4=>?_) (fun hc4=>?_)
      ·
       refine aF fun K31 k31=>aa (aX m rfl rfl gQ ?_);clear m;intro u m;simp only[zz];refine aN m 11 rfl rfl rfl aK (bZ rfl) rfl ?_;clear m;intro u m;simp only[zy,zx,aW,zF,zG,ab] at m;refine aA aD (aC (k31 _ _ ?_));refine bc ?_;simp only[zz];try simp only[ac,af,if_true]
       refine kD rfl ⟨_,rfl,((m.b 11 rfl).full bF aK)⟩ rfl ?_;try simp only[zD,zE]
       exact⟨_,rfl,m.ext,eN (fun h=>hc4 h.2.2.2)⟩
      ·
       have hs0:=Decidable.not_not.1 hc4;have hs:=Eh hf hs0;refine ar (k29 _ _ ?_);refine aF fun K32 k32=>?_;refine dO m 5 aP (by kernel_rfl) ?_;simp only[zy];refine ql rfl (fun u m=>((m.b 2 rfl).full aT aH)) ?_;simp only[zz];refine ql rfl (fun u m=>((m.b 8 rfl).full aT aH)) ?_;simp only[zz];refine ql rfl (fun u m=>((m.b 1 rfl).full aT aH)) ?_;simp only[zz];refine gV rfl rfl (kY (a:=r.w) (b:=sY r t) Bw.up Bw.up) ?_;simp only[zz];refine gV rfl rfl (nI (n:=Ar r t) (d:=r.w*sY r t) Bw.up Bw.up (Nk hok hs)) (eD ?_);clear m;intro u m;simp only[zz];refine aN m 11 rfl rfl rfl aK (bZ rfl) rfl ?_;clear m;intro u m;simp only[zy,zx,aW,zF,zG,ab] at m;refine aA aD (aC (k32 _ _ ?_));refine bc ?_;simp only[zz];try simp only[ac,af,if_true]
       refine kD rfl ⟨_,rfl,((m.b 11 rfl).full bF aK)⟩ rfl ?_;try simp only[zD,zE]
       exact⟨_,rfl,m.ext,lL ⟨hok,hf,hp,hs0⟩⟩
     ·
      refine xC rfl ?_;intro u g14 e hg hB;replace m:=m.newB e hg hB;clear e hg hB;refine aC (⟨m.sel [false,true,true,true,true,true,true,true,true,true,true,true,true,true],?_⟩);refine bQ (by simp only[zw];rfl) ?_;simp only[zz];refine aX m rfl rfl (uE (n:=Ar r t) (v:=P3.sub ⟨0,0,0⟩ t.normal) Bw.up Bv.of) ?_;clear m;intro u m;refine aC (⟨m.sel [false,true,true,true,true,true,true,true,true,true,true,true,true,true],?_⟩);refine bQ (by simp only[zw];rfl) ?_;simp only[zz];refine fJ m rfl rfl (Kl (n:=sY r t) _ Bw.up (m.b 0 rfl)) ?_;clear m;rintro v u m rfl;refine aC (⟨m.sel [false,true,true,true,true,true,true,true,true,true,true,true,true,true],?_⟩);refine aY (by simp only[zw];rfl) (bA (nZ rfl rfl) (bB (eV (k30 _ _ ?_))));simp only[zz];refine cW rfl (fun hc4=>?_) (fun hc4=>?_)
      ·
       refine aF fun K33 k33=>aa (aX m rfl rfl gQ ?_);clear m;intro u m;simp only[zz];refine aN m 11 rfl rfl rfl aK (bZ rfl) rfl ?_;clear m;intro u m;simp only[zy,zx,aW,zF,zG,ab] at m;refine aA aD (aC (k33 _ _ ?_));refine bc ?_;simp only[zz];try simp only[ac,af,if_true]
       refine kD rfl ⟨_,rfl,((m.b 11 rfl).full bF aK)⟩ rfl ?_;try simp only[zD,zE]
       exact⟨_,rfl,m.ext,eN (fun h=>hc4 h.2.2.2)⟩
      ·
       have hs0:=Decidable.not_not.1 hc4;have hs:=Eh hf hs0;refine ar (k29 _ _ ?_);refine aF fun K34 k34=>?_;refine dO m 5 aP (by kernel_rfl) ?_;simp only[zy];refine ql rfl (fun u m=>((m.b 2 rfl).full aT aH)) ?_;simp only[zz];refine ql rfl (fun u m=>((m.b 8 rfl).full aT aH)) ?_;simp only[zz];refine ql rfl (fun u m=>((m.b 1 rfl).full aT aH)) ?_;simp only[zz];refine gV rfl rfl (kY (a:=r.w) (b:=sY r t) Bw.up Bw.up) ?_;simp only[zz];refine gV rfl rfl (nI (n:=Ar r t) (d:=r.w*sY r t) Bw.up Bw.up (Nk hok hs)) (eD ?_);clear m;intro u m;simp only[zz];refine aN m 11 rfl rfl rfl aK (bZ rfl) rfl ?_;clear m;intro u m;simp only[zy,zx,aW,zF,zG,ab] at m;refine aA aD (aC (k34 _ _ ?_));refine bc ?_;simp only[zz];try simp only[ac,af,if_true]
       refine kD rfl ⟨_,rfl,((m.b 11 rfl).full bF aK)⟩ rfl ?_;try simp only[zD,zE]
       exact⟨_,rfl,m.ext,lL ⟨hok,hf,hp,hs0⟩⟩
    ·
     refine xC rfl ?_;intro u g14 e hg hB;replace m:=m.newB e hg hB;clear e hg hB;refine aC (⟨m.sel [false,true,true,true,true,true,true,true,true,true,true,true,true,true],?_⟩);refine bQ (by simp only[zw];rfl) ?_;simp only[zz];refine aX m rfl rfl (Ia (v:=t.normal) Bv.of) ?_;clear m;intro u m;refine aC (⟨m.sel [false,true,true,true,true,true,true,true,true,true,true,true,true,true],?_⟩);refine bQ (by simp only[zw];rfl) ?_;simp only[zz];refine aX m rfl rfl (uE (n:=Ar r t) (v:=P3.sub ⟨0,0,0⟩ t.normal) Bw.up Bv.of) ?_;clear m;intro u m;refine aC (⟨m.sel [false,true,true,true,true,true,true,true,true,true,true,true,true,true],?_⟩);refine bQ (by simp only[zw];rfl) ?_;simp only[zz];refine fJ m rfl rfl (Kl (n:=sY r t) _ Bw.up (m.b 0 rfl)) ?_;clear m;rintro v u m rfl;refine aC (⟨m.sel [false,true,true,true,true,true,true,true,true,true,true,true,true,true],?_⟩);refine aY (by simp only[zw];rfl) (bA (nZ rfl rfl) (bB (eV (k30 _ _ ?_))));simp only[zz];refine cW rfl (fun hc4=>?_) (fun hc4=>?_)
     ·
      refine aF fun K35 k35=>aa (aX m rfl rfl gQ ?_);clear m;intro u m;simp only[zz];refine aN m 11 rfl rfl rfl aK (bZ rfl) rfl ?_;clear m;intro u m;simp only[zy,zx,aW,zF,zG,ab] at m;refine aA aD (aC (k35 _ _ ?_));refine bc ?_;simp only[zz];try simp only[ac,af,if_true]
      refine kD rfl ⟨_,rfl,((m.b 11 rfl).full bF aK)⟩ rfl ?_;try simp only[zD,zE]
      exact⟨_,rfl,m.ext,eN (fun h=>hc4 h.2.2.2)⟩
     ·
      have hs0:=Decidable.not_not.1 hc4;have hs:=Eh hf hs0;refine ar (k29 _ _ ?_);refine aF fun K36 k36=>?_;refine dO m 5 aP (by kernel_rfl) ?_;simp only[zy];refine ql rfl (fun u m=>((m.b 2 rfl).full aT aH)) ?_;simp only[zz];refine ql rfl (fun u m=>((m.b 8 rfl).full aT aH)) ?_;simp only[zz];refine ql rfl (fun u m=>((m.b 1 rfl).full aT aH)) ?_;simp only[zz];refine gV rfl rfl (kY (a:=r.w) (b:=sY r t) Bw.up Bw.up) ?_;simp only[zz];refine gV rfl rfl (nI (n:=Ar r t) (d:=r.w*sY r t) Bw.up Bw.up (Nk hok hs)) (eD ?_);clear m;intro u m;simp only[zz];refine aN m 11 rfl rfl rfl aK (bZ rfl) rfl ?_;clear m;intro u m;simp only[zy,zx,aW,zF,zG,ab] at m;refine aA aD (aC (k36 _ _ ?_));refine bc ?_;simp only[zz];try simp only[ac,af,if_true]
      refine kD rfl ⟨_,rfl,((m.b 11 rfl).full bF aK)⟩ rfl ?_;try simp only[zD,zE]
      exact⟨_,rfl,m.ext,lL ⟨hok,hf,hp,hs0⟩⟩
 ·
  refine aa (aI rfl ((m.b 2 rfl).full fR dG) ?_);simp only[zz];refine aX m rfl rfl (Ew hok) ?_;clear m;intro u m;refine aA (fM rfl) (aA aB (bK rfl ?_));simp only[zz];refine bK rfl (aA (cT rfl) (aC (k3 _ _ ?_)));refine bX rfl (aF fun K37 k37=>aa ?_);simp only[zz];refine aX m rfl rfl gQ ?_;clear m;intro u m;simp only[zz];refine aN m 0 rfl rfl rfl aK (bZ rfl) rfl ?_;clear m;intro u m;simp only[zy,zx,aW,zF,zG,ab] at m;refine aA aD (aC (k37 _ _ ?_));refine bc ?_;simp only[zz];try simp only[ac,af,if_true]
  refine kD rfl ⟨_,rfl,((m.b 0 rfl).full bF aK)⟩ rfl ?_;try simp only[zD,zE]
  exact⟨_,rfl,m.ext,eN (vG hok)⟩
end Go.Proofs.YtimjandkmfcmiaaGreatDoor
namespace Go.Proofs.YtimjandkmfcmiaaGreatDoor
open Go.Proofs.Tryz
open Go.RowKit Go.Lith
set_option maxRecDepth 100000
attribute [local irreducible] bh wpQuiet eY eO eJ Code.wp
def agq(h:Option (Rat × Nat)):Go.Value:=.agg #[.bool (cY (mZ h).num),.string (dQ (mZ h).num),.bool (cY ((mZ h).den:Int)),.string (dQ ((mZ h).den:Int)),.int .i64 (adE (h):Int)]
theorem adJ(r:gJ)(t:T3)(b:Option (Rat × Nat)):¬jK r t∨(jK r t∧b=none)∨(jK r t∧∃q j,b=some (q,j)):=by
 by_cases h:jK r t
 ·
  cases b with
  | none=>exact .inr (.inl ⟨h,rfl⟩)
  | some x=>exact .inr (.inr ⟨h,x.1,x.2,rfl⟩)
 · exact .inl h
theorem abc{r:gJ}{t:T3}{b:Option (Rat × Nat)}{k:Nat}(h:¬jK r t):Ei r b k t=b:=if_neg h
theorem Up{r:gJ}{t:T3}{k:Nat}(h:jK r t):Ei r none k t=some (gC r t,k):=if_pos h
theorem abd{r:gJ}{t:T3}{k j:Nat}{q:Rat}(h:jK r t)(hq:gC r t<q):Ei r (some (q,j)) k t=some (gC r t,k):=(if_pos h).trans (if_pos hq)
theorem abe{r:gJ}{t:T3}{k j:Nat}{q:Rat}(h:jK r t)(hq:¬gC r t<q):Ei r (some (q,j)) k t=some (q,j):=(if_pos h).trans (if_neg hq)
theorem yX{r:gJ}{t:T3}[IR r][IT t]:Bq 400000 (gC r t):=by
 unfold gC;split
 ·
  rename_i h;exact (Bq.mk' (a:=262) (b:=262) Bw.up Bw.up (Nk h.1 (Eh h.2.1 h.2.2.2))).mono (by decide)
 · exact⟨jT _,yM.mono (by decide)⟩
theorem Ex{r:gJ}{ts:List T3}[IR r](h:∀t∈ts,IT t):Bq 400000 (mZ (bH r ts)):=by
 cases hb:bH r ts with
 | none=>exact⟨jT _,yM.mono (by decide)⟩
 | some x =>
  obtain⟨t,ht,_,e⟩:=Nc (q:=x.1) (k:=x.2) hb;haveI:=h t ht;show Bq 400000 x.1
  rw[←e];exact yX
theorem Pz{r:gJ}{ts:List T3}[IR r]{N cap:Nat}{A:Option Addr}(w:aw)(hT:dX w A N ts)(hN:N<4611686018427387904):gZ prog 27 [kK r,.slice A N cap] w (fun v _=>v=.tuple #[agq (bH r ts),.bool (bH r ts).isSome]):=by
 refine⟨aer,?_⟩;have m:=cK.refl w
 go_enter func27,ntmps27
 refine aF fun K1 k1=>aa (cQ m rfl ?_);clear m;intro g1 u m;simp only[zz];refine bE m rM rfl ?_;clear m;intro g2 u m;refine aA aD (aC (k1 _ _ ?_));refine aF fun K2 k2=>aa ?_;simp only[zz];refine aX m rfl rfl gQ ?_;clear m;intro u m;refine aA (xZ rfl) ?_;simp only[zz];refine bE m rM rfl ?_;clear m;intro g3 u m;simp only[zz];refine aN m 0 rfl rfl rfl kA (bZ rfl) rfl ?_;clear m;intro u m;simp only[zy,zx,aW,zF,zG,ab] at m;refine aA aD (aC (k2 _ _ ?_));refine aF fun K3 k3=>aF fun K4 k4=>aa (aA aB (aA (bR rfl iW rfl) (aA aB ?_)));simp only[zz];refine aC (k4 _ _ ?_);refine av ?_;try simp only[ah,ab,ag,ae]
 refine dI [7,16] [8,9,10,11,17,18,19,20,21,22,23,24,25,26,27,28,29,30,31,32,33,34,35,36,37,38,39,40,41,42] (fun n vs wl=>∃(k:Nat) (b:Bool),vs=[.bool b,.int .i64 (k:Int)]∧cK w wl [bI g3 [.bool (cY (mZ (bH r (ts.take k))).num),.string (dQ (mZ (bH r (ts.take k))).num),.bool (cY ((mZ (bH r (ts.take k))).den:Int)),.string (dQ ((mZ (bH r (ts.take k))).den:Int)),.int .i64 (adE (bH r (ts.take k)):Int)] 43,bI g2 [.bool false,.string ⟨#[]⟩,.bool false,.string ⟨#[]⟩,.int .i64 0] 43,bI g1 [.int .i64 r.s.x,.int .i64 r.s.y,.int .i64 r.s.z,.int .i64 r.w,.int .i64 r.d.x,.int .i64 r.d.y,.int .i64 r.d.z] 25]∧(b=(bH r (ts.take k)).isSome)∧(k≤N)∧(n=N-k)) ?_ ?_
 ·
  apply Exists.intro;simp only[zQ,zR,zD,zE];exact⟨0,false,rfl,m,rfl,cd _,rfl⟩
 ·
  intro n vs wr hI u;clear m;obtain⟨k,b,rfl,m,hb,hk,hn⟩:=hI;simp only[zu,zF,zG];refine aF fun K5 k5=>aa (aA (dZ rfl rfl) (aC (k5 _ _ ?_)));refine aF fun K6 k6=>?_;simp only[zz];refine cW rfl (fun hc1=>?_) (fun hc1=>?_)
  ·
   obtain⟨t,ht,hit,a,rfl,hrow⟩:=hT.get (i:=k) (by omega);refine ar (k6 _ _ ?_);refine aF fun K7 k7=>av (aF fun K8 k8=>aa (aA aB ?_));simp only[zz];refine aA (aS iW eW rfl rfl (by omega) (by omega) (sR (Int.toNat_natCast _))) ?_;simp only[zz];refine aI rfl (((hrow.ext m.ext)).lies mW eW) ?_;simp only[zz];refine bE m Cj rfl ?_;clear m;intro g4 u m;refine aA aD ?_;simp only[zz];refine aN m 0 rfl rfl rfl eW (bZ rfl) rfl ?_;clear m;intro u m;simp only[zy,zx,aW,zF,zG,ab] at m;refine aC (k8 _ _ ?_);refine aF fun K9 k9=>aa (aI rfl ((m.b 3 rfl).full fR dG) ?_);simp only[zz];refine aI rfl ((m.b 0 rfl).full mW eW) ?_;simp only[zz];refine aX m rfl rfl (Py (t:=t)) ?_;clear m;intro u m;refine aA aB (aA (aU rfl rfl) (aA (aU rfl rfl) ?_));simp only[zz];refine bE m cF rfl ?_;clear m;intro g5 u m;simp only[zz];refine aN m 0 rfl rfl rfl aK (bZ rfl) rfl ?_;clear m;intro u m;simp only[zy,zx,aW,zF,zG,ab] at m;refine aA aD (aC (k9 _ _ ?_));refine aF fun K10 k10=>?_;simp only[zz];rcases adJ r t (bH r (ts.take k)) with hh | ⟨hh,hb1⟩ | ⟨hh,q,j,hb1⟩
   ·
    rw[decide_eq_false hh];have hq:bH r (ts.take (k+1))=bH r (ts.take k):=by rw[rA ht];exact abc hh
    refine aa (aA aB (aA aB (bO rfl (bO rfl ?_))));simp only[zz];refine bO rfl (dY rfl (dY rfl (dY rfl ?_)));simp only[zz];refine dY rfl (dY rfl (bO rfl (aA (cV rfl) ?_)));simp only[zz];refine aC (k10 _ _ ?_);refine eZ rfl (ar (k7 _ _ ?_));refine aa (aA (aZ rfl rfl (aO (by omega) (by omega))) (aA aB (aC ?_)));simp only[zz];simp only[ac,af];refine⟨N-(k+1),_,?_,rfl,?_,?_⟩
    · omega
    · simp only[zz,zv]
    ·
     simp only[zQ,zR,zD,zE];exact⟨k+1,_,rfl,((m.re 2 rfl (by rw[hq];exact (m.b 2 rfl))).sel [false,false,true,true,true]),by rw[hq];first | rfl | exact hb,by omega,rfl⟩
   ·
    rw[decide_eq_true hh];obtain rfl:b=false:=by rw[hb,hb1];rfl
    have hq:bH r (ts.take (k+1))=some (gC r t,k):=by rw[rA ht,hb1];exact Up hh
    refine aa (aA aB (aA aB (aR rfl (aA aB (aR rfl (aA (fM rfl) ?_))))));simp only[zz];refine aR rfl (aA aB (bK rfl (bK rfl (bK rfl ?_))));simp only[zz];refine bK rfl (bK rfl (aR rfl (aA (cT rfl) (aA (cT rfl) ?_))));simp only[zz];refine aC (k10 _ _ ?_);refine bX rfl (aa (aI rfl ((m.b 0 rfl).full bF aK) ?_));simp only[zz];refine aA aB (aA (nN rfl rfl) ?_);simp only[zz];refine aN m 2 rfl rfl rfl kA (bZ rfl) rfl ?_;clear m;intro u m;simp only[zy,zx,aW,zF,zG,ab] at m;refine aA aD (aC (k7 _ _ ?_));refine aa ?_;simp only[zz];refine aA (aZ rfl rfl (aO (by omega) (by omega))) (aA aB (aC ?_));simp only[zz];simp only[ac,af];refine⟨N-(k+1),_,?_,rfl,?_,?_⟩
    · omega
    · simp only[zz,zv]
    ·
     simp only[zQ,zR,zD,zE];exact⟨k+1,_,rfl,((m.re 2 rfl (by rw[hq];exact (m.b 2 rfl))).sel [false,false,true,true,true]),by rw[hq];first | rfl | exact hb,by omega,rfl⟩
   ·
    rw[decide_eq_true hh];obtain rfl:b=true:=by rw[hb,hb1];rfl
    refine aa (aA aB (aA aB (aR rfl (aA aB (aR rfl (aA (fM rfl) ?_))))));simp only[zz];refine aR rfl (aA aB (aR rfl ?_));simp only[zz];refine aI rfl ((m.b 0 rfl).full bF aK) ?_;simp only[zz];refine aR rfl (aA (aG (c:=3) sL rfl aK rfl rfl) (aR rfl ?_));simp only[zz];refine aI rfl ((m.b 2 rfl).lies bF aK rfl rfl) ?_;simp only[zz,zy,ah,ab,ag,ae];refine aR rfl (aX m rfl rfl (kU (p:=gC r t) (q:=mZ (bH r (ts.take k))) yX (Ex (fun u hu=>hT.it u (fd hu)))) ?_);clear m;intro u m;refine aR rfl (aA (dZ rfl rfl) (aR rfl (aA (cV rfl) (aA (cT rfl) ?_))));simp only[zz];refine aC (k10 _ _ ?_);refine cW rfl (fun hc2=>?_) (fun hc2=>?_)
    ·
     have hq:bH r (ts.take (k+1))=some (gC r t,k):=by rw[rA ht,hb1];exact abd hh (by have:=gP.1 hc2;rwa [hb1] at this)
     refine aa (aI rfl ((m.b 0 rfl).full bF aK) ?_);simp only[zz];refine aA aB (aA (nN rfl rfl) ?_);simp only[zz];refine aN m 2 rfl rfl rfl kA (bZ rfl) rfl ?_;clear m;intro u m;simp only[zy,zx,aW,zF,zG,ab] at m;refine aA aD (aC (k7 _ _ ?_));refine aa ?_;simp only[zz];refine aA (aZ rfl rfl (aO (by omega) (by omega))) (aA aB (aC ?_));simp only[zz];simp only[ac,af];refine⟨N-(k+1),_,?_,rfl,?_,?_⟩
     · omega
     · simp only[zz,zv]
     ·
      simp only[zQ,zR,zD,zE];exact⟨k+1,_,rfl,((m.re 2 rfl (by rw[hq];exact (m.b 2 rfl))).sel [false,false,true,true,true]),by rw[hq];first | rfl | exact hb,by omega,rfl⟩
    ·
     have hq:bH r (ts.take (k+1))=bH r (ts.take k):=by rw[rA ht,hb1];exact abe hh (by have:=mt gP.2 hc2;rwa [hb1] at this)
     refine ar (k7 _ _ ?_);refine aa (aA (aZ rfl rfl (aO (by omega) (by omega))) (aA aB (aC ?_)));simp only[zz];simp only[ac,af];refine⟨N-(k+1),_,?_,rfl,?_,?_⟩
     · omega
     · simp only[zz,zv]
     ·
      simp only[zQ,zR,zD,zE];exact⟨k+1,_,rfl,((m.re 2 rfl (by rw[hq];exact (m.b 2 rfl))).sel [false,false,true,true,true]),by rw[hq];first | rfl | exact hb,by omega,rfl⟩
  ·
   have e:ts.take k=ts:=bp (by rw[hT.len];omega);simp only[e] at m hb;refine bw (k3 _ _ ?_);refine aF fun K11 k11=>aa (aI rfl ((m.b 0 rfl).full Ja kA) ?_);simp only[zz];refine aA aB ?_;simp only[zz];refine aN m 1 rfl rfl rfl kA (bZ rfl) rfl ?_;clear m;intro u m;simp only[zy,zx,aW,zF,zG,ab] at m;refine aA aD (aC (k11 _ _ ?_));refine bc ?_;simp only[zz];try simp only[ac,af,if_true]
   refine kD rfl ⟨_,rfl,((m.b 1 rfl).full Ja kA)⟩ rfl ?_;try simp only[zD,zE]
   exact⟨_,rfl,m.ext,by rw[hb];rfl⟩
end Go.Proofs.YtimjandkmfcmiaaGreatDoor
