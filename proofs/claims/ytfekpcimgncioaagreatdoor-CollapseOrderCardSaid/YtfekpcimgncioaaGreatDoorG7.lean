/-
 Texts of one claim, laid together: Round, Sides, LoopF, Seq, K26, Near2, Ifc, Tch1, K12, K13, K14, K15, K17, Tail, K18, Nest.
-/
import Derived.RangeFuncNested
import Derived.OrdersIn
import Derived.RangeFuncCalls
import Derived.RangeFuncBox
import Derived.Stop.Asserts
import Derived.Test.YtfekpcimgncioaaGreatDoorG6
open Nat renaming reduceAdd→aa,reduceMul→ah,le_refl→ao,zero_add→ar,le_trans→be,zero_le→cq,lt_or_ge→fp,reduceSub→kn,not_lt_zero→mg
open Int renaming reduceToNat→ad,toNat_natCast→ag,reduceAdd→am,lt_trichotomy→pm
open Go renaming Value→ai,World→aj,wp_region_lit→aq,wpList→au,TypeId→av,Program→bv,Operand→bz,wpQuiet→cu,MapEntry→de,execOp→dj,Deferred→dw,wp_ret→je,wp_block→jm
open List renaming mem_cons→an,getElem?_eq_some_iff→ap,flatMap_append→aw,length_cons→ay,mem_singleton→az,length_append→a_,length_map→bf,mem_cons_of_mem→bg,mem_cons_self→bh,mem_of_getElem?→bj,map_cons→bp,mem_append→br,nil_append→bt,pairwise_cons→bu,length_take→bw,length_nil→cd,cons_append→cg,not_mem_nil→cl,map_append→ct,range→c_,all_eq_true→df,mem_filter→dh,getElem?_drop→dm,map_nil→dt,append_nil→eo,filter_cons→fc,toList_toArray→fi,mem_map_of_mem→fj,length_filter_le→ft,map_toArray→gm,size_toArray→gu,filter_append→ij,append_toArray→ix,push_toArray→jd,filter_nil→mi
open Bool renaming and_eq_true→ba,not_true→ff,not_false→fh,or_eq_true→gg,not_eq_true'→gi,eq_iff_iff→jg,or_eq_false_iff→kg,or_true→px
open Go.Value renaming bool→bm
open Go.Oper renaming mk→bx,upon→nn,uponIn→po,semAt→qj
open Go.Exit renaming inBlock→di
open Option renaming getD_some→dx,isSome_iff_exists→ee
open Array renaming getElem?_eq_some_iff→dz,replicate→gp,replicate_succ→im,replicate_zero→io,getElem?_setIfInBounds_ne→i_
set_option maxHeartbeats 8000000
set_option linter.unusedSimpArgs false
set_option linter.unusedVariables false
set_option linter.unusedSectionVars false
namespace Go.Lith
open Go.RowKit
variable{β:Type}
def Ov(o:Oper):Bool:=match o.op with | .defer _=>false | _=>true
theorem aks{o:Oper}(h:Ov o=true):∀c,o.op≠.defer c:=fun c e=>by unfold Ov at h;rw[e] at h;cases h
section
variable {P:bv} {Q:Exit→Act→aj→Prop} {r n:Nat}
theorem aaQ{row:String}{args:Array ai}{w:aj}{R:ai→aj→Prop}(h:Rows P row args w R):RowsIn (Fence.wide.inRound r) n P row args w R :=
 fun c cs _=>let ⟨v,w',q,s⟩:=h c cs;⟨v,w',q,stepsIn_wide.2 s⟩
theorem Vs{f:FuncId}{args:Array ai}{w:aj}{R:Ending→aj→Prop}(h:Calls P f args w R):CallsIn (Fence.wide.inRound r) n P f args w R :=
 (callsIn_wide (n:=n)).2 h
theorem Oper.wpIn_of{o:Oper}{a:Act}{w:aj}{K:Act→aj→Prop}(hd:Ov o=true)(h:o.wp P a w K Q):o.wpIn (Fence.wide.inRound r) n P a w K Q:=by
 unfold Oper.wp at h;refine⟨fun _ _=>trivial,?_⟩;rw[Oper.semAt_eq _ _ _ (aks hd)];generalize (dj a.eval o).run P w=z at *
 have h0:(Fence.wide.inRound r).depth.isSome=true→1≤n:=fun h=>by cases h
 cases z with
 | ok x w'=>cases x <;> simp only[nn,po] at h ⊢ <;> first | exact h | exact⟨h0,Vs h⟩ | exact⟨h0,aaQ h⟩ | exact h.elim
 | halt x w'=>cases x <;> simp only[nn,po] at h ⊢ <;> exact h
theorem Ei{ops:Array Oper}(hq:¬LetsOut Q):∀(l:List Oper) (a:Act) (w:aj),l.all Ov=true→au P ops Q l a w→wpListIn (Fence.wide.inRound r) n P ops Q l a w
 | [],a,w,_,h=>h
 | o::l,a,w,hd,h=>by
  simp only[List.all_cons,ba] at hd;simp only[au] at h;simp only[wpListIn];split
  · rename_i hw
    rw[if_pos hw] at h;rcases h with h | ⟨_,h⟩
    · exact Oper.wpIn_of hd.1 (Oper.wp_mono (fun a w k=>Ei hq l a w hd.2 k) h)
    · exact absurd h hq
  · rename_i hw
    rw[if_neg hw] at h;exact⟨fun _ _=>trivial,Ei hq l _ w hd.2 h⟩
theorem Bg{md:Region.Mode}{ops:Array Oper}(hq:¬LetsOut Q)(hd:∀(i:Nat) (o:Oper),ops[i]? = some o→Ov o=true):∀(f:Nat) (listed:Array Bool) (a:Act) (w:aj),wpAny P md ops Q f listed a w→wpAnyIn (Fence.wide.inRound r) n P md ops Q f listed a w
 | 0,listed,a,w,h=>h
 | f+1,listed,a,w,h=>by
  refine⟨h.1,fun i hi=>?_⟩;have h2:=h.2 i hi;unfold wpOp at h2;unfold wpOpIn;split
  · rename_i hn
    simp only[hn] at h2;exact Bg hq hd f _ a w h2
  · rename_i o ho
    simp only[ho] at h2;split
    · rename_i hw
      rw[if_pos hw] at h2;rcases h2 with h2 | ⟨_,h2⟩
      · exact Oper.wpIn_of (hd i o ho) (Oper.wp_mono (fun a w k=>Bg hq hd f _ a w k) h2)
      · exact absurd h2 hq
    · rename_i hw
      rw[if_neg hw] at h2;exact⟨fun _ _=>trivial,Bg hq hd f _ _ w h2⟩
class Gx(Q:Exit→Act→aj→Prop):Prop where
 h:¬LetsOut Q
instance {K:Act→aj→Prop}[q:Gx Q]:Gx (Exit.then K Q):=⟨fun⟨a,w,k⟩=>q.h ⟨a,w,k⟩⟩
instance {id:Nat}[q:Gx Q]:Gx (di id Q):=⟨fun⟨a,w,k⟩=>q.h ⟨a,w,k⟩⟩
instance {α:Type}{B:Nat}{Kp:aj→aj→Prop}{I:List α→aj→Prop}{Ix:Code→List α→aj→Prop}{xs:List α}{W:aj}:Gx (ownPostG B Kp I Ix xs W):=⟨fun⟨_,_,k⟩=>k⟩
instance:Gx (fun _ _ _=>False):=⟨fun⟨_,_,k⟩=>k⟩
theorem cB{id:Nat}{l:List Oper}{a:Act}{w:aj}[hq:Gx Q](h:au P l.toArray Q l a w)(hd:l.all Ov=true:=by rfl):(Code.region id l.toArray false).wpIn (Fence.wide.inRound r) n P Q a w:=wpIn_region_lit (Ei hq.h l a w hd h)
theorem nZ{c1 c2:Code}{a:Act}{w:aj}(h:∀K:Act→aj→Prop,(∀a w,c2.wpIn (Fence.wide.inRound r) n P Q a w→K a w)→c1.wpIn (Fence.wide.inRound r) n P (Exit.then K Q) a w):(Code.seq c1 c2).wpIn (Fence.wide.inRound r) n P Q a w:=wpIn_seq_k h
variable {l:List ai} {ds:List dw} {w:aj} {c1 c2:Code}
theorem Bh{x:bz}{b:Bool}(hx:ev l x=.bool b)(ht:b=true→c1.wpIn (Fence.wide.inRound r) n P Q (Fr l ds) w)(hf:b=false→c2.wpIn (Fence.wide.inRound r) n P Q (Fr l ds) w):(Code.cond x c1 c2).wpIn (Fence.wide.inRound r) n P Q (Fr l ds) w:=by
 refine wpIn_cond (t:=b) (by rw[kF,cJ];exact hx) ?_;cases b with
 | false=>exact hf rfl
 | true=>exact ht rfl
theorem pI{id:Nat}{c:Code}{a:Act}(h:c.wpIn (Fence.wide.inRound r) n P (di id Q) a w):(Code.block id c).wpIn (Fence.wide.inRound r) n P Q a w:=wpIn_block h
theorem akt{a:Act}(h:Q .normal a w):Code.skip.wpIn (Fence.wide.inRound r) n P Q a w:=wpIn_skip h
theorem Qi{a:Act}(h:Q .ret a w):Code.ret.wpIn (Fence.wide.inRound r) n P Q a w:=wpIn_ret h
theorem Ce{C:aj→Prop}{id:Nat}{a:Act}{l:List Oper}(k:Nat)(hq:¬LetsOut Q)(hd:l.all Ov=true)(hm:P.follows .mixedOrders=true)(hB:Region.lexTailB .any l.toArray k=true)
 (hC:C { w with drawn:=w.drawn+1 })
 (h:cu P l.toArray C (fun a'=>∀w',C w'→au P l.toArray Q (l.drop k) a' w') (l.take k) a):(Code.region id l.toArray true).wpIn (Fence.wide.inRound r) n P Q a w:=by
 simp only[Region.lexTailB,ba,decide_eq_true_eq] at hB;obtain⟨⟨⟨⟨hsel,hn⟩,hs⟩,hc⟩,hlex⟩:=hB;have hn':k<l.length:=by simpa using hn
 have htl:(l.take k).length=k:=by simp;omega
 have hdl:(l.drop k).length=l.toArray.size-k:=by simp
 have inv0:HeadInv .any l.toArray k (gp l.toArray.size false) :=
  ⟨by simp,fun j oj _ hl=>(by rw[getD_replicate_false] at hl;cases hl),fun t _ ht=>getD_in (by simpa using ht) (getD_replicate_false _ _)⟩
 have H:=yV (md:=.any) (g:=l.toArray.size-k) hsel hs hc hn (l.take k) 0 _ a (fun j hj=>by
  have hj':j<k:=by rw[htl] at hj;exact hj
  simp[hj']) (by simpa using htl) inv0 (by rw[htl];exact hlex) h
 refine wpIn_region_any hm ?_;have:=uR (Q':=Q) (g:=l.toArray.size-k) (fun listed a' hL w' hw'=>by
  have:=wpAny_of_seq (md:=.any) (Q':=Q) (l.drop k) k listed a' w' (fun j=>by simp[dm]) (by rw[hdl];exact hL.1) (hL.2 w' hw');rwa [hdl] at this) _ _ _ _ hC H
 rw[htl,show k+(l.toArray.size-k)=l.toArray.size by omega] at this;refine Bg hq (fun i o ho=>?_) _ _ _ _ this;have hi:o∈l:=by rw[List.getElem?_toArray] at ho;exact bj ho
 exact df.1 hd o hi
structure RX(w w':aj):Prop where
 os:w'.os=w.os
 tape:w'.tape=w.tape
 output:w'.output=w.output
 ko:KeepsOthers w w'
theorem RX.refl(w:aj):RX w w:=⟨rfl,rfl,rfl,KeepsOthers.refl w⟩
theorem RX.ext{W u u':aj}(h:RX W u)(e:gJ u u'):RX W u':=⟨e.os.trans h.os,e.tape.trans h.tape,e.output.trans h.output,h.ko.trans ⟨e.size,fun k o hk _=>e.block hk⟩⟩
theorem RX.chg{W u u':aj}{g:Nat}{cs:List ai}{t:av}(h:RX W u)(hB:gT u g cs t)(e:Chg u u' g):RX W u' :=
 ⟨e.os.trans h.os,e.tape.trans h.tape,e.output.trans h.output,h.ko.trans ⟨Nat.le_of_eq e.size.symm,fun k o hk ho=>(e.block k fun hkg=>by
  subst hkg;rw[show u.heap[k]? = _ from hB] at hk;cases hk;cases ho).trans hk⟩⟩
structure lP(W w0 w:aj)(is:List It):Prop extends Mem w0 w is where
 rx:RX W w
theorem lP.start{w0 w:aj}{is:List It}(m:Mem w0 w is):lP w w0 w is:=⟨m,RX.refl w⟩
theorem lP.e{W w0 w w':aj}{is:List It}(m:lP W w0 w is)(e:gJ w w'):lP W w0 w' is:=⟨m.ext' e,m.rx.ext e⟩
section
variable {W w0:aj} {is:List It} {ops:Array Oper} {rest:List Oper} {d:Nat} {ty T:av} {pos:String} {after:Array Edge} {x y:bz} {v:ai}
theorem Kj{cs:List ai}{z:ai}(m:lP W w0 w is)(hZ:oS P T z)(hv:z.cells=cs.toArray)(h:∀g u,lP W w0 u (bI g cs T::is)→au P ops Q rest (Fr (l.set d (.pointer (some ⟨g,0,none⟩))) ds) u) :
 au P ops Q (bx (some d) (.alloc T) ty pos after none::rest) (Fr l ds) w:=Eu hZ hv fun u g e hg hB=>h g u ⟨m.toMem.newB e hg hB,m.rx.ext e⟩
theorem afz{g off:Nat}{cs us:List ai}{t:av}(m:lP W w0 w is)(k:Nat)(hk:is[k]? = some (bI g cs t))(hx:ev l x=.pointer (some ⟨g,off,none⟩))(hv:(ev l y).cells=us.toArray)(hc:dH P T us.length)(hfit:off+us.length≤cs.length)(h1:(us.all (·.oneCell'))=true)
 (h:∀u,lP W w0 u (is.set k (bI g (over cs off us) t))→au P ops Q rest (Fr l ds) u):au P ops Q (bx none (.store T x y) ty pos after none::rest) (Fr l ds) w :=
 yW hx hv hc (m.b k hk) hfit (jX h1) fun u hC hB=>h u ⟨m.put k hk hC.os hC.tape hC.output (by rw[hC.size];exact ao _) (fun b _ hne=>hC.block b fun e=>hne (by rw[e];rfl)) hB (.inl fun _ h=>h),m.rx.chg (m.b k hk) hC⟩
theorem Ej{g off:Nat}{cs us:List ai}{t:av}(m:lP W w0 w is)(k:Nat)(hk:is[k]? = some (bI g cs t))(hx:ev l x=.pointer (some ⟨g,off,none⟩))(hv:ev l y=.agg us.toArray)(hc:dH P T us.length)(hfit:off+us.length≤cs.length)(h1:(us.all (·.oneCell'))=true)
 (h:∀u,lP W w0 u (is.set k (bI g (over cs off us) t))→au P ops Q rest (Fr l ds) u):au P ops Q (bx none (.store T x y) ty pos after none::rest) (Fr l ds) w:=afz m k hk hx (by rw[hv];rfl) hc hfit h1 h
theorem iV{g off:Nat}{cs:List ai}{v:ai}{t:av}(m:lP W w0 w is)(k:Nat)(hk:is[k]? = some (bI g cs t))(hx:ev l x=.pointer (some ⟨g,off,none⟩))(hv:ev l y=v)(hc:dH P T 1)(hfit:off+1≤cs.length)(h1:v.oneCell'=true∧v.cells = #[v])
 (h:∀u,lP W w0 u (is.set k (bI g (over cs off [v]) t))→au P ops Q rest (Fr l ds) u):au P ops Q (bx none (.store T x y) ty pos after none::rest) (Fr l ds) w:=afz (us:=[v]) m k hk hx (by rw[hv];exact h1.2) hc hfit (by simp[h1.1]) h
theorem Qj{f:FuncId}{fo:bz}{xs:Array bz}{args:List ai}{first cap:Array ai}{a0:Array av}(m:lP W w0 w is)(hf:ev l fo=.func (.func f) first cap)(hxs:first.toList++xs.toList.map (ev l)++cap.toList=args)(hc:fF P f args v)
 (h:∀u,lP W w0 u is→au P ops Q rest (Fr (l.set d v) ds) u):au P ops Q (bx (some d) (.call { callee:=.value fo,args:=xs,argTypes:=a0 }) ty pos after none::rest) (Fr l ds) w :=
 Yu hf hxs hc fun u e=>h u (m.e e)
theorem yO{id:Nat}{a:Act}{l:List Oper}[hq:Gx Q](m:lP W w0 w is)(k:Nat)(hm:P.follows .mixedOrders=true)(hB:Region.lexTailB .any l.toArray k=true)
 (h:cu P l.toArray (fun u=>lP W w0 u is) (fun a'=>∀u,lP W w0 u is→au P l.toArray Q (l.drop k) a' u) (l.take k) a) (hd:l.all Ov=true:=by rfl):(Code.region id l.toArray true).wpIn (Fence.wide.inRound r) n P Q a w :=
 Ce (C:=fun u=>lP W w0 u is) k hq.h hd hm hB (m.e (gJ.refl w).drawn) h
variable {Qq:Act→Prop}
theorem Ga{a:Addr}(hx:ev l x=.pointer (some a))(hv:∀u,lP W w0 u is→eQ P u T a v)(h:cu P ops (fun u=>lP W w0 u is) Qq rest (Fr (l.set d v) ds)):cu P ops (fun u=>lP W w0 u is) Qq (bx (some d) (.load T x) ty pos after none::rest) (Fr l ds) :=
 kK (fun u m=>aZ hx (hv u m)) h
theorem ahc{f:FuncId}{fo:bz}{xs:Array bz}{args:List ai}{first cap:Array ai}{a0:Array av}(hf:ev l fo=.func (.func f) first cap)(hxs:first.toList++xs.toList.map (ev l)++cap.toList=args)(hc:fF P f args v)
 (h:cu P ops (fun u=>lP W w0 u is) Qq rest (Fr (l.set d v) ds)):cu P ops (fun u=>lP W w0 u is) Qq (bx (some d) (.call { callee:=.value fo,args:=xs,argTypes:=a0 }) ty pos after none::rest) (Fr l ds):=by
 refine wpQuiet_step fun K hK=>?_;rw[if_pos (by simp[Region.wanted])];refine⟨v,fun w' hw=>?_,?_⟩
 · unfold Oper.quietAt
   rw[kF,pM (hc w').1 hf hxs _ rfl];refine⟨rfl,(hc w').2.mono ?_⟩;rintro e w'' ⟨u,rfl,hE,rfl⟩;exact⟨rfl,hw.e hE⟩
 · show K ((Fr l ds).put (some d) v)
   rw[iE];exact hK _ h
end
end
/-! ### Within the fence that bars nothing: a head of quiet operations,then a tail that may yield -/
section
variable {P:bv} {Q:Exit→Act→aj→Prop} {n:Nat} {C:aj→Prop} {ops:Array Oper} {md:Region.Mode}
theorem aci{row:String}{args:Array ai}{w:aj}{R:ai→aj→Prop}(h:Rows P row args w R):RowsIn Fence.wide n P row args w R :=
 fun c cs _=>let ⟨v,w',q,s⟩:=h c cs;⟨v,w',q,stepsIn_wide.2 s⟩
theorem Oper.wpIn_q{o:Oper}{a:Act}{w:aj}{K:Act→aj→Prop}(h:o.wp P a w K (fun _ _ _=>False)):o.wpIn Fence.wide n P a w K Q:=by
 unfold Oper.wp at h;refine⟨fun _ _=>trivial,?_⟩;show po _ _ _ _ _ _ _ ((dj a.eval o).run P w)
 generalize (dj a.eval o).run P w=z at *
 have h0:Fence.wide.depth.isSome=true→1≤n:=fun h=>by cases h
 cases z with
 | ok x w' =>
  cases x <;> simp only[nn,po] at h ⊢ <;> first
   | exact h
   | exact⟨h0,(callsIn_wide.2 h).mono fun e w'' k=>by cases e with | returned v=>exact k | panicked c=>exact k.elim | outgrown=>exact (k.elim fun _ k=>k.elim fun _ k=>k.elim)⟩
   | exact⟨h0,aci h⟩
   | exact h.elim
 | halt x w'=>cases x <;> simp only[nn,po] at h ⊢ <;> first | exact h | exact h.elim
theorem aku{i:Nat}{K:Act→aj→Prop}{a:Act}{w:aj}(h:wpOp P ops (fun _ _ _=>False) i K a w):wpOpIn Fence.wide n P ops Q i K a w:=by
 unfold wpOp at h;unfold wpOpIn;split
 · rename_i hn
   simp only[hn] at h;exact h
 · rename_i o ho
   simp only[ho] at h;split
   · rename_i hw
     rw[if_pos hw] at h;rcases h with h | ⟨_,_,_,h⟩
     · exact Oper.wpIn_q h
     · exact h.elim
   · rename_i hw
     rw[if_neg hw] at h;exact⟨fun _ _=>trivial,h⟩
theorem yP{k g:Nat}{L:Array Bool→Act→Prop}(hL:∀listed a,L listed a→∀w,C w→wpAnyIn Fence.wide n P md ops Q g listed a w) :
 ∀(f:Nat) (listed:Array Bool) (a:Act) (w:aj),C w→Lg P md ops C k L f listed a→wpAnyIn Fence.wide n P md ops Q (f+g) listed a w
 | 0,listed,a,w,hw,h=>by rw[ar];exact hL _ _ h w hw
 | f+1,listed,a,w,hw,h=>by
  rw[show f+1+g=(f+g)+1 by omega];exact⟨fun h0=>absurd h0 h.1,fun i hi=>aku (wpOp_of_qOp hw (fun a' w' hw' h'=>yP hL f _ a' w' hw' h') (h.2 i hi).2)⟩
theorem Ek:∀(l:List Oper) (k:Nat) (listed:Array Bool) (a:Act) (w:aj),(∀j,l[j]? = ops[k+j]?) →
 Region.seqB md ops l.length k listed=true→wpListIn Fence.wide n P ops Q l a w→wpAnyIn Fence.wide n P md ops Q l.length listed a w
 | [],_,_,_,_,_,hB,h=>⟨by simpa[Region.seqB] using hB,h⟩
 | o::l,k,listed,a,w,hl,hB,h=>by
  have h0:ops[k]? = some o:=by simpa using (hl 0).symm
  simp only[ay,Region.seqB,ba,decide_eq_true_eq] at hB;refine⟨fun h1=>(by rw[hB.1] at h1;cases h1),fun i hi=>?_⟩;rw[hB.1] at hi;have hik:i=k:=by simpa using hi
  subst hik;have hw:wpOpIn Fence.wide n P ops Q i (wpListIn Fence.wide n P ops Q l) a w:=by unfold wpOpIn;simp only[h0];exact h
  exact wpOpIn_mono (fun a' w' h'=>Ek l (i+1) _ a' w' (fun j=>by have:=hl (j+1);simpa[Nat.add_assoc,Nat.add_comm 1 j] using this) hB.2 h') hw
theorem Bi{w:aj}{id:Nat}{a:Act}{l:List Oper}(k:Nat)(hm:P.follows .mixedOrders=true)(hB:Region.lexTailB .any l.toArray k=true)
 (hC:C { w with drawn:=w.drawn+1 })
 (h:cu P l.toArray C (fun a'=>∀w',C w'→wpListIn Fence.wide n P l.toArray Q (l.drop k) a' w') (l.take k) a):(Code.region id l.toArray true).wpIn Fence.wide n P Q a w:=by
 simp only[Region.lexTailB,ba,decide_eq_true_eq] at hB;obtain⟨⟨⟨⟨hsel,hn⟩,hs⟩,hc⟩,hlex⟩:=hB;have hn':k<l.length:=by simpa using hn
 have htl:(l.take k).length=k:=by simp;omega
 have hdl:(l.drop k).length=l.toArray.size-k:=by simp
 have inv0:HeadInv .any l.toArray k (gp l.toArray.size false) :=
  ⟨by simp,fun j oj _ hl=>(by rw[getD_replicate_false] at hl;cases hl),fun t _ ht=>getD_in (by simpa using ht) (getD_replicate_false _ _)⟩
 have H:=yV (md:=.any) (g:=l.toArray.size-k) hsel hs hc hn (l.take k) 0 _ a (fun j hj=>by
  have hj':j<k:=by rw[htl] at hj;exact hj
  simp[hj']) (by simpa using htl) inv0 (by rw[htl];exact hlex) h
 refine wpIn_region_any hm ?_;have:=yP (Q:=Q) (n:=n) (g:=l.toArray.size-k) (fun listed a' hL w' hw'=>by
  have:=Ek (md:=.any) (Q:=Q) (n:=n) (l.drop k) k listed a' w' (fun j=>by simp[dm]) (by rw[hdl];exact hL.1) (hL.2 w' hw');rwa [hdl] at this) _ _ _ _ hC H
 rw[htl,show k+(l.toArray.size-k)=l.toArray.size by omega] at this;exact this
theorem Qk{l:List ai}{ds:List dw}{w:aj}{y d:Nat}{f:FuncId}{fo:bz}{xs:Array bz}{args:List ai}{a0:Array av}{ty:av}{pos:String}{after:Array Edge}{rest:List Oper}{tmps:Array ai}{assign body:Code}{R:Ending→aj→Prop}
 (hf:ev l fo=.func (.yield y) #[] #[]) (hxs:xs.toList.map (ev l)=args) (hy:(Instr.yield y args.toArray).run P w=.ok (.round y f tmps assign body) w) (hR:RoundIn Fence.wide (n-1) P y f tmps assign body w R)
 (h:∀e w',R e w'→∃v,e=.returned v∧wpListIn Fence.wide n P ops Q rest (Fr (l.set d v) ds) w') :
 wpListIn Fence.wide n P ops Q (bx (some d) (.call { callee:=.value fo,args:=xs,argTypes:=a0 }) ty pos after none::rest) (Fr l ds) w:=by
 refine wpListIn_plain rfl fun K hK=>?_;refine⟨fun _ _=>trivial,?_⟩;have e:(Fr l ds).eval=ev l:=funext cJ;have ea:args.toArray = #[]++xs.map (ev l) ++ #[]:=by
  rw[←hxs];apply Array.ext';simp
 have er:(dj (Fr l ds).eval (bx (some d) (.call { callee:=.value fo,args:=xs,argTypes:=a0 }) ty pos after none)).run P w=.ok (.round y f tmps assign body) w:=by
  rw[ea] at hy;simp[dj,resolve,e,hf,Deferred.ofValue,invoke] at hy ⊢;exact hy
 rw[show qj Fence.wide.round=qj none from rfl,Oper.semAt_none,er];refine⟨fun (h:Fence.wide.depth.isSome=true)=>(by cases h),hR.mono fun e w' hr=>?_⟩;obtain⟨v,rfl,hk⟩:=h e w' hr;exact hK _ _ (by rw[iE];exact hk)
theorem xL{l:List ai}{ds:List dw}{w:aj}{d:Nat}{op:Op}{ty:av}{pos:String}{after:Array Edge}{rest:List Oper}{v:ai}(hr:Bq P l op ty v w)(h:wpListIn Fence.wide n P ops Q rest (Fr (l.set d v) ds) w):wpListIn Fence.wide n P ops Q (bx (some d) op ty pos after none::rest) (Fr l ds) w:=by
 refine wpListIn_plain rfl fun K hK=>?_;refine⟨fun _ _=>trivial,?_⟩;rw[show qj Fence.wide.round=qj none from rfl,Oper.semAt_none,kF,hr _ rfl rfl];show K ((Fr l ds).put (some d) v) w
 rw[iE];exact hK _ _ h
end
theorem Ql(B:Nat)(g:β→Nat)(cs:β→List ai)(t:av):OwnFrom B fun s W=>gT W (g s) (cs s) t:=fun s X Y row hs hg hr=>by
 have hs':X.heap[g s]? = some (.cells (cs s).toArray t (0,0)):=hs;show Y.heap[g s]? = _
 rw[grownBy_keeps_cells hg (fun r e=>(hr r e).2) hs' rfl];exact hs'
theorem afA{B:Nat}{w:aj}(h:w.heap.size≤B):OwnFrom B fun (_:β) W=>gJ w W:=ownFrom_below (ao _) h
def ant(is:List It):Prop:=∀i∈is,∃g cs t,i=bI g cs t
theorem afB{B:Nat}{w:aj}(F:β→List It)(hF:∀s,ant (F s))(h:w.heap.size≤B):OwnFrom B fun s W=>Mem w W (F s):=fun s W W' row hs hg hr=>by
 refine⟨afA (β:=Unit) h () W W' row hs.ext hg hr,fun i hi=>?_,hs.ge,hs.nd⟩;obtain⟨g,cs,t,rfl⟩:=hF s i hi;exact Ql (β:=Unit) B (fun _=>g) (fun _=>cs) t () W W' row (hs.all _ hi) hg hr
end Go.Lith
namespace Go.Proofs.YtfekpcimgncioaaGreatDoor
open Go.Proofs.Tryz
open Go.RowKit Go.Lith
attribute [local go_sem] Oper.semAt_some
def aoA(t:T3)(k:Nat):Array ai:=#[pt (t.cor k),pt (t.cor ((k+1)%3))]
set_option maxRecDepth 100000 in
theorem ahd(n:Nat)(hn:1≤n)(l Bs n₀:Nat)(t:T3)(J Jx:List Nat→aj→Prop)
 (hJd:∀s W,J s W→J s W.drew) (hY:∀pre x W,J pre W→pre.length<3→YieldAt Fence.wide (n-1) prog l (aoA t x) W fun e W' =>
  (e=.returned (.bool true)∧J (pre++[x]) W'∧nG n₀ Bs W W')∨(e=.returned (.bool false)∧Jx (pre++[x]) W'))
 (W:aj) (hBs:gT W Bs (aM t) 39) (h0:J [] W) :
 CallsIn Fence.wide n prog 337 #[.func (.yield l) #[] #[],.pointer (some ⟨Bs,0,none⟩)] W fun e W'=>(∃v,e=.returned v) ∧
  ((∃ys:List Nat,ys=[0,1,2]∧J ys W')∨(∃pre,(∀k∈pre,k<3)∧Jx pre W')):=by
 refine callsIn_of_wp func337 rfl trivial ?_ rfl;simp only[ntmps337,gu,ay,cd,aa,kn,im,io,jd,ix,bt,cg]
 gi_wp2
 gi_loopw [4] (fun i wr=>∃(k:Nat),k≤3∧i=.int .i64 (k:Int)∧J (c_ k) wr∧nG n₀ Bs W wr)
  (fun i _=>(3-intOf i).toNat)
 case atStart=>exact⟨0,by omega,rfl,h0,nG.refl _ _ _⟩
 case round =>
  obtain⟨k,hk,rfl,hJs,hnx⟩:=hrel;have hB:gT wr Bs (aM t) 39:=hnx.2.trans hBs;have hD:gT wr.drew Bs (aM t) 39:=hB;have hk4:k=0∨k=1∨k=2∨k=3:=by omega
  rcases hk4 with rfl | rfl | rfl | rfl
  · obtain⟨fn,tmps,assign,body,hy,hR⟩:=hY (c_ 0) 0 wr.drew (hJd _ _ hJs) (by decide)
    gi_wp2
    rename_i K1 hK1 K2 hK2;refine Bi (C:=fun u=>u=wr.drew) 9 aD (by kernel_rfl) rfl ?_;simp only[zy];refine aI aG (aI aG (aI (aJ cT aA rfl rfl (by decide) (by decide) rfl) ?_));simp only[zz,zy,ar,aa,ah,ad];refine kK (fun u hu=>aZ rfl (hu▸(mT.cor (c:=0) (hD.row 0) (by decide)).lies aH aA)) ?_;simp only[zz];refine aI aG (aI (eS (m:=0) (n:=1) (r:=1) rfl rfl (by decide)) (aI (cL (m:=1) (n:=3) (r:=1) rfl rfl (by decide) (by decide)) ?_));simp only[zz];refine aI (aJ cT aA rfl rfl (by decide) (by decide) rfl) ?_;simp only[zz,zy,ar,aa,ah,ad];refine kK (fun u hu=>aZ rfl (hu▸(mT.cor (c:=1) (hD.row 0) (by decide)).lies aH aA)) ?_;simp only[zz];refine bE ?_;rintro u rfl;try simp only[zy]
    refine Qk rfl rfl hy hR ?_;rintro e W3 (⟨rfl,hJ3,hk3⟩ | ⟨rfl,hJx3⟩)
    · refine⟨_,rfl,?_⟩
      simp only[zz];refine xL (pL rfl _) (wpListIn_nil (hK2 _ _ ?_));simp only[zz,ff]
      gi_wp2
      go_roundw
      case rel=>exact⟨0+1,by decide,rfl,hJ3,hnx.trans ((show nG n₀ Bs wr wr.drew from⟨(Below.refl _ _).drew,rfl⟩).trans hk3)⟩
      case measure=>simp[intOf]
    · refine⟨_,rfl,?_⟩
      simp only[zz];refine xL (pL rfl _) (wpListIn_nil (hK2 _ _ ?_));simp only[zz,fh]
      gi_wp2
      refine bodyPost_ret (results_none rfl _ _ _) rfl ?_;exact⟨⟨_,rfl⟩,.inr ⟨_,by decide,hJx3⟩⟩
  · obtain⟨fn,tmps,assign,body,hy,hR⟩:=hY (c_ 1) 1 wr.drew (hJd _ _ hJs) (by decide)
    gi_wp2
    rename_i K1 hK1 K2 hK2;refine Bi (C:=fun u=>u=wr.drew) 9 aD (by kernel_rfl) rfl ?_;simp only[zy];refine aI aG (aI aG (aI (aJ cT aA rfl rfl (by decide) (by decide) rfl) ?_));simp only[zz,zy,ar,aa,ah,ad];refine kK (fun u hu=>aZ rfl (hu▸(mT.cor (c:=1) (hD.row 0) (by decide)).lies aH aA)) ?_;simp only[zz];refine aI aG (aI (eS (m:=1) (n:=1) (r:=2) rfl rfl (by decide)) (aI (cL (m:=2) (n:=3) (r:=2) rfl rfl (by decide) (by decide)) ?_));simp only[zz];refine aI (aJ cT aA rfl rfl (by decide) (by decide) rfl) ?_;simp only[zz,zy,ar,aa,ah,ad];refine kK (fun u hu=>aZ rfl (hu▸(mT.cor (c:=2) (hD.row 0) (by decide)).lies aH aA)) ?_;simp only[zz];refine bE ?_;rintro u rfl;try simp only[zy]
    refine Qk rfl rfl hy hR ?_;rintro e W3 (⟨rfl,hJ3,hk3⟩ | ⟨rfl,hJx3⟩)
    · refine⟨_,rfl,?_⟩
      simp only[zz];refine xL (pL rfl _) (wpListIn_nil (hK2 _ _ ?_));simp only[zz,ff]
      gi_wp2
      go_roundw
      case rel=>exact⟨1+1,by decide,rfl,hJ3,hnx.trans ((show nG n₀ Bs wr wr.drew from⟨(Below.refl _ _).drew,rfl⟩).trans hk3)⟩
      case measure=>simp[intOf]
    · refine⟨_,rfl,?_⟩
      simp only[zz];refine xL (pL rfl _) (wpListIn_nil (hK2 _ _ ?_));simp only[zz,fh]
      gi_wp2
      refine bodyPost_ret (results_none rfl _ _ _) rfl ?_;exact⟨⟨_,rfl⟩,.inr ⟨_,by decide,hJx3⟩⟩
  · obtain⟨fn,tmps,assign,body,hy,hR⟩:=hY (c_ 2) 2 wr.drew (hJd _ _ hJs) (by decide)
    gi_wp2
    rename_i K1 hK1 K2 hK2;refine Bi (C:=fun u=>u=wr.drew) 9 aD (by kernel_rfl) rfl ?_;simp only[zy];refine aI aG (aI aG (aI (aJ cT aA rfl rfl (by decide) (by decide) rfl) ?_));simp only[zz,zy,ar,aa,ah,ad];refine kK (fun u hu=>aZ rfl (hu▸(mT.cor (c:=2) (hD.row 0) (by decide)).lies aH aA)) ?_;simp only[zz];refine aI aG (aI (eS (m:=2) (n:=1) (r:=3) rfl rfl (by decide)) (aI (cL (m:=3) (n:=3) (r:=0) rfl rfl (by decide) (by decide)) ?_));simp only[zz];refine aI (aJ cT aA rfl rfl (by decide) (by decide) rfl) ?_;simp only[zz,zy,ar,aa,ah,ad];refine kK (fun u hu=>aZ rfl (hu▸(mT.cor (c:=0) (hD.row 0) (by decide)).lies aH aA)) ?_;simp only[zz];refine bE ?_;rintro u rfl;try simp only[zy]
    refine Qk rfl rfl hy hR ?_;rintro e W3 (⟨rfl,hJ3,hk3⟩ | ⟨rfl,hJx3⟩)
    · refine⟨_,rfl,?_⟩
      simp only[zz];refine xL (pL rfl _) (wpListIn_nil (hK2 _ _ ?_));simp only[zz,ff]
      gi_wp2
      go_roundw
      case rel=>exact⟨2+1,by decide,rfl,hJ3,hnx.trans ((show nG n₀ Bs wr wr.drew from⟨(Below.refl _ _).drew,rfl⟩).trans hk3)⟩
      case measure=>simp[intOf]
    · refine⟨_,rfl,?_⟩
      simp only[zz];refine xL (pL rfl _) (wpListIn_nil (hK2 _ _ ?_));simp only[zz,fh]
      gi_wp2
      refine bodyPost_ret (results_none rfl _ _ _) rfl ?_;exact⟨⟨_,rfl⟩,.inr ⟨_,by decide,hJx3⟩⟩
  · gi_wp2
    go_end0
    exact⟨⟨_,rfl⟩,.inl ⟨_,rfl,hJs⟩⟩
end Go.Proofs.YtfekpcimgncioaaGreatDoor
namespace Go.Proofs.YtfekpcimgncioaaGreatDoor
open Go.Proofs.Tryz
open Go.RowKit Go.Lith
section
variable {w0 w:aj} {is:List It}
def dI(D:Nat)(o:Obj):It where
 own b:=some D=some b
 P w:=w.heap[D]? = some o
 lt w b h e:=by cases e;exact (dz.1 h).1
 st w w' h _ k:=(k D rfl).trans h
theorem _root_.Go.Lith.Mem.putD{D:Nat}{o o':Obj}(m:Mem w0 w is)(k:Nat)(hk:is[k]? = some (dI D o)):Mem w0 (w.putObj D o') (is.set k (dI D o')):=by
 have hl:D<w.heap.size:=(dI D o).lt w D (m.get k hk) rfl;refine m.put k hk rfl rfl rfl (by show _≤(w.heap.setIfInBounds D o').size;simp) (fun b _ hne=>World.putObj_heap_other (fun e=>hne (by rw[e];rfl))) ?_ (.inl fun _ h=>h);show (w.heap.setIfInBounds D o')[D]? = some o'
 simp[hl]
theorem _root_.Go.Lith.Mem.addD{D:Nat}{x:Option (List dw)}(m:Mem w0 w is)(hA:ant is)(h:w.heap[D]? = some (.deferred x))(hge:w0.heap.size≤D):Mem w0 w (dI D (.deferred x)::is):=by
 refine⟨m.ext,fun i hi=>?_,fun i hi b hb=>?_,bu.2 ⟨fun j hj b h1 h2=>?_,m.nd⟩⟩
 · rcases an.1 hi with rfl | hi
   · exact h
   · exact m.all i hi
 · rcases an.1 hi with rfl | hi
   · cases hb;exact hge
   · exact m.ge i hi b hb
 · obtain⟨g,cs,t,rfl⟩:=hA j hj
   cases h1;cases h2;have hB:w.heap[D]? = some (.cells cs.toArray t (0,0)):=m.all _ hj;rw[h] at hB;cases hB
theorem aoB{P:bv}{l:List ai}{n:Nat}{fn:Func}{R:Ending→aj→Prop}{w:aj}(h:bodyPost P fn R .ret (Fr l) w):bodyPostM Fence.wide n P fn R .ret (Fr l) w:=by
 obtain⟨_,v,hv,hR⟩:=h;exact⟨v,hv,hR⟩
theorem acj{W u:aj}{Bs:Nat}{cs:List ai}{t:av}(rx:RX W u)(h1:gT W Bs cs t)(h2:gT u Bs cs t):nG 0 Bs W u :=
 ⟨⟨rx.os,rx.tape,rx.output,rx.ko.size,fun k hk=>absurd hk (mg _)⟩,(show u.heap[Bs]? = _ from h2).trans (show W.heap[Bs]? = _ from h1).symm⟩
theorem akv{g k:Nat}{c1 c2:List ai}{T1 T2:av}(m:Mem w0 w is)(h1:gT w g c1 T1)(h2:gT w k c2 T2)(hgk:k≠g)(hg:∀o∈is.map (·.own),¬o g)(hk:∀o∈is.map (·.own),¬o k)(eg:w0.heap.size≤g)(ek:w0.heap.size≤k):Mem w0 w (bI k c2 T2::bI g c1 T1::is):=by
 refine⟨m.ext,fun i hi=>?_,fun i hi b hb=>?_,bu.2 ⟨fun j hj b e1 e2=>?_,bu.2 ⟨fun j hj b e1 e2=>?_,m.nd⟩⟩⟩
 · rcases an.1 hi with rfl | hi
   · exact h2
   · rcases an.1 hi with rfl | hi
     · exact h1
     · exact m.all i hi
 · rcases an.1 hi with rfl | hi
   · cases hb;exact ek
   · rcases an.1 hi with rfl | hi
     · cases hb;exact eg
     · exact m.ge i hi b hb
 · cases e1
   rcases an.1 hj with rfl | hj
   · cases e2;exact hgk rfl
   · exact hk _ (fj hj) e2
 · cases e1
   exact hg _ (fj hj) e2
theorem akw{g k:Nat}{c1 c2:List ai}{T1 T2:av}(m:Mem w0 w (bI k c2 T2::bI g c1 T1::is)):k≠g∧(∀o∈is.map (·.own),¬o g)∧(∀o∈is.map (·.own),¬o k)∧w0.heap.size≤g∧w0.heap.size≤k:=by
 obtain⟨h1,h2⟩:=bu.1 m.nd;obtain⟨h3,_⟩:=bu.1 h2;refine⟨fun e=>h1 _ bh k rfl (by rw[e];rfl),fun o ho h=>?_,fun o ho h=>?_,m.ge _ (bg _ bh) g rfl,m.ge _ bh k rfl⟩
 · obtain⟨i,hi,rfl⟩:=List.mem_map.1 ho
   exact h3 i hi g rfl h
 · obtain⟨i,hi,rfl⟩:=List.mem_map.1 ho
   exact h1 i (bg _ hi) k rfl h
theorem ack{α:Type}{L:List ai}{go:bz}{gf Bs N q1 q2 d1 d2:Nat}{assign body:Code}{Q:Exit→Act→aj→Prop}{P:bv}{S Sp:List α→Prop}{v1 v2:α→ai}{c1 c2:α→List ai}{T1 T2 tB:av}{csB:List ai}
 (hf:ev L go=.func (.func gf) #[] #[.pointer (some ⟨Bs,0,none⟩)]) (he:Lith.Entr P gf) (hseq:SeqStopsK Fence.wide 3 P gf #[.pointer (some ⟨Bs,0,none⟩)] (fun x=>#[v1 x,v2 x]) (nG 0 Bs) S Sp N w)
 (I Ir:List α→List It) (J Jr:List α→Prop) (hA:∀pre,ant (I pre)) (hAr:∀pre,ant (Ir pre)) (hid:∀pre,(I pre).map (·.own)=(I []).map (·.own)) (hBs:∀pre,bI Bs csB tB∈I pre)
 (m:Mem w0 w (I [])) (hJ:J [])
 (hassign:∀(r:Nat) (pre:List α) (x:α) (W:aj) (K:Act→aj→Prop),lP W w0 W (I pre)→(∀g k u,lP W w0 u (bI k (c2 x) T2::bI g (c1 x) T1::I pre)→K (Fr ((((L.set q1 (v1 x)).set q2 (v2 x)).set d1 (.pointer (some ⟨g,0,none⟩))).set d2 (.pointer (some ⟨k,0,none⟩)))) u) →
  assign.wpIn (Fence.wide.inRound r) 2 P (Exit.then K (fun _ _ _=>False)) (Fr ((L.set q1 (v1 x)).set q2 (v2 x))) W)
 (hbody:∀(r:Nat) (pre:List α) (x:α) (g k:Nat) (W:aj) (Q':Exit→Act→aj→Prop) [Gx Q'],J pre→pre.length<N→lP W w0 W (bI k (c2 x) T2::bI g (c1 x) T1::I pre) →
  (∀a u,lP W w0 u (I (pre++[x]))→J (pre++[x])→Q' .normal a u)→(∀a u,lP W w0 u (Ir (pre++[x]))→Jr (pre++[x])→Q' .ret a u) →
  body.wpIn (Fence.wide.inRound r) 2 P Q' (Fr ((((L.set q1 (v1 x)).set q2 (v2 x)).set d1 (.pointer (some ⟨g,0,none⟩))).set d2 (.pointer (some ⟨k,0,none⟩)))) W)
 (hdone:∀(D:Nat) (xs:List α) (u:aj),S xs→J xs→Mem w0 u (dI D (.deferred (some []))::I xs)→Q .normal (Fr L [{ target:=.collected D,args:=#[] }]) u)
 (hstop:∀(D:Nat) (pre:List α) (u:aj),Sp pre→Jr pre→Mem w0 u (dI D (.deferred (some []))::Ir pre)→Q .ret (Fr L [{ target:=.collected D,args:=#[] }]) u) :
 (Code.rangeFunc go #[q1,q2] assign body).wp P Q (Fr L) w:=by
 refine (wpIn_wide (n:=4)).1 ?_;have hsz:=m.ext.size;refine wpIn_rangeFunc_ownH (F:=Fence.wide) rfl (by omega) (gf:=gf) (lb:=#[.pointer (some ⟨Bs,0,none⟩)]) (by rw[cJ];exact hf) trivial (fun args u=>tP he) hseq nG.trans
  (fun W l o o' hl ho hc _=>⟨⟨rfl,rfl,rfl,by show _≤(W.heap.setIfInBounds l o').size;simp,fun k hk=>absurd hk (mg _)⟩,World.putObj_heap_other (fun e=>by
   have hb:=(m.all _ (hBs [])).lt;omega)⟩) (Below.refl _ _) (fun _=>rfl)
  (fun pre W=>Mem w0 W (I pre)∧J pre) (fun c pre W=>Mem w0 W (Ir pre)∧(c=.ret∧Jr pre))
  (OwnFrom.and (afB I hA hsz) (ownFrom_pure _ J)) (fun c=>OwnFrom.and (afB Ir hAr hsz) (ownFrom_pure _ _)) ⟨m,hJ⟩
  (fun x a' W=>∃g k,a'=Fr ((((L.set q1 (v1 x)).set q2 (v2 x)).set d1 (.pointer (some ⟨g,0,none⟩))).set d2 (.pointer (some ⟨k,0,none⟩)))∧gT W g (c1 x) T1∧gT W k (c2 x) T2∧k≠g∧(∀o∈(I []).map (·.own),¬o g)∧(∀o∈(I []).map (·.own),¬o k)∧w0.heap.size≤g∧w0.heap.size≤k)
  (fun x a' _ X Y row hs hg hr=>by
   obtain⟨g,k,e,h1,h2,h3⟩:=hs;exact⟨g,k,e,Ql (β:=Unit) _ (fun _=>g) (fun _=>c1 x) T1 () X Y row h1 hg hr,Ql (β:=Unit) _ (fun _=>k) (fun _=>c2 x) T2 () X Y row h2 hg hr,h3⟩)
  ?_ ?_ ?_ ?_
 · intro r pre x W K hI hK
   have e:((#[q1,q2].zip #[v1 x,v2 x]).foldl (fun t (y:Tmp × ai)=>t.setIfInBounds y.1 y.2) (Fr L).tmps)=((L.set q1 (v1 x)).set q2 (v2 x)).toArray:=by simp
   have:=hassign r pre x W K (lP.start hI.1) (fun g k u hm=>?_)
   · simp only at this ⊢
     rw[e];exact this
   · have hp:=akw hm.toMem
     rw[hid pre] at hp;have hI2:Mem w0 u (I pre):=hm.toMem.tl.tl;exact hK _ _ (hm.rx.ko.from _) (acj hm.rx (hI.1.all _ (hBs pre)) (hI2.all _ (hBs pre))) ⟨hI2,hI.2⟩ ⟨g,k,rfl,hm.all _ (bg _ bh),hm.all _ bh,hp⟩
 · rintro r pre x a' W _ _ ⟨hI,hJp⟩ ⟨g,k,rfl,h1,h2,h3,h4,h5,h6,h7⟩ hN
   rw[←hid pre] at h4 h5;refine hbody r pre x g k W _ hJp hN (lP.start (akv hI h1 h2 h3 h4 h5 h6 h7)) (fun a u hm hj=>?_) (fun a u hm hj=>?_)
   · exact⟨hm.rx.ko.from _,acj hm.rx (hI.all _ (hBs pre)) (hm.all _ (hBs _)),hm.toMem,hj⟩
   · exact⟨hm.rx.ko.from _,hm.toMem,rfl,hj⟩
 · rintro D xs W hD hS ⟨hI,hj⟩ hd
   exact hdone D xs W hS hj (Lith.Mem.addD hI (hA xs) hd (be hsz hD))
 · rintro D c pre W hD hsp ⟨hI,rfl,hj⟩ hd
   exact wpIn_ret (hstop D pre W hsp hj (Lith.Mem.addD hI (hAr pre) hd (be hsz hD)))
end
end Go.Proofs.YtfekpcimgncioaaGreatDoor
namespace Go.Lith
open Go.RowKit Go.ChangeMaps Go.MapKept
variable{w:aj}
theorem acl{u:aj}(e:gJ w u):w.grownBy u none:=⟨e.os,e.tape,e.output,e.size,fun k hk _=>Below.block e k hk⟩
section
variable {K V:Type} [DecidableEq K] {P:bv} {T M E ty:av} {ek:K→ai} {en:V→ai} {w:aj} {g c r:Nat} {es:Array de} {D:List (K × V)}
variable {ds:List dw} {l:List ai} {x:bz} {ops:Array Oper} {Q:Exit→Act→aj→Prop} {rest:List Oper} {d:Nat} {pos:String} {after:Array Edge}
theorem anu{seen:Array Nat}{dn rs:List (K × V)}(hx:ev l x=.pointer (some ⟨r,0,none⟩))(hI:sC w r g c seen c)(hM:iW w g es c)(hD:bJ ek en D es c)(hT:oJ ek en D es seen dn rs)
 (h:∀b kv vv seen' u,w.grownBy u (some r)→iW u g es c→sC u r g c seen' c→Nxt ek en D es dn rs b kv vv seen'→au P ops Q rest (Fr (l.set d (Gp b kv vv)) ds) u) :
 au P ops Q (bx (some d) (.next x false) ty pos after none::rest) (Fr l ds) w:=by
 obtain⟨b,kv,vv,seen',w1,hw1,hr,hN⟩:=Wu (P:=P) (ty:=ty) (s:=0) hI hM hD hT;have e1:w1.heap=w.heap∧w1.os=w.os∧w1.tape=w.tape∧w1.output=w.output:=by rcases hw1 with rfl | rfl <;> exact⟨rfl,rfl,rfl,rfl⟩
 have hgr:g≠r:=fun e=>by
  subst e;have h1:w.heap[g]? = some (.map es c):=hM;rw[show w.heap[g]? = _ from hI] at h1;cases h1
 refine mK (w':=setBlock w1 r (.mapIter (some g) c seen' c)) (v:=Gp b kv vv) (fun o ho hty=>by simp[dj,ho,cJ,hx,hty,hr]) (h b kv vv seen' _ ⟨e1.2.1,e1.2.2.1,e1.2.2.2,by simp[setBlock,e1.1],fun k _ hk=>?_⟩ ?_ ?_ hN)
 · simp only[setBlock,e1.1]
   exact i_ fun e=>hk (by rw[e])
 · show (setBlock w1 r _).heap[g]? = _
   simp only[setBlock,e1.1];rw[i_ (Ne.symm hgr)];exact hM
 · exact jU (w:=w1) (o:=.mapIter (some g) c seen c) (by rw[e1.1];exact hI)
end
def anv(is:List It):Prop:=∀i∈is,(∃g cs t,i=bI g cs t)∨∃E c A n cap xs,i=oI E c A n cap xs
theorem aqN{β:Type}(B:Nat)(E:av)(c:Nat)(A:Option Addr)(n cap:Nat)(xs:List ai):OwnFrom B fun (_:β) W=>(oI E c A n cap xs).P W:=fun s X Y row hs hg hr=>by
 refine⟨hs.1,?_⟩;rcases hs.2 with h | ⟨g,cap,cur,h1,h2,h3,h4⟩
 · exact .inl h
 · exact .inr ⟨g,cap,cur,h1,h2,by
    rw[grownBy_keeps_cells hg (fun r e=>(hr r e).2) h3 rfl];exact h3,h4⟩
theorem acm{β:Type}{B:Nat}(F:β→List It)(hF:∀s,anv (F s))(h:w.heap.size≤B):OwnFrom B fun s W=>Mem w W (F s):=fun s W W' row hs hg hr=>by
 refine⟨afA (β:=Unit) h () W W' row hs.ext hg hr,fun i hi=>?_,hs.ge,hs.nd⟩;rcases hF s i hi with ⟨g,cs,t,rfl⟩ | ⟨E,c,A,n,cap,xs,rfl⟩
 · exact Ql (β:=Unit) B (fun _=>g) (fun _=>cs) t () W W' row (hs.all _ hi) hg hr
 · exact aqN (β:=Unit) B E c A n cap xs () W W' row (hs.all _ hi) hg hr
theorem Mem.addC{w0:aj}{is:List It}{D:Nat}{x:Option (List dw)}(m:Mem w0 w is)(hA:anv is)(h:w.heap[D]? = some (.deferred x))(hge:w0.heap.size≤D):Mem w0 w (Go.Proofs.YtfekpcimgncioaaGreatDoor.dI D (.deferred x)::is):=by
 refine⟨m.ext,fun i hi=>?_,fun i hi b hb=>?_,bu.2 ⟨fun j hj b h1 h2=>?_,m.nd⟩⟩
 · rcases an.1 hi with rfl | hi
   · exact h
   · exact m.all i hi
 · rcases an.1 hi with rfl | hi
   · cases hb;exact hge
   · exact m.ge i hi b hb
 · cases h1
   rcases hA j hj with ⟨g,cs,t,rfl⟩ | ⟨E,c,A,n,cap,xs,rfl⟩
   · cases h2
     have hB:w.heap[D]? = some (.cells cs.toArray t (0,0)):=m.all _ hj;rw[h] at hB;cases hB
   · have hP:=m.all _ hj
     rcases hP.2 with ⟨e,_⟩ | ⟨g,cap',cur,e,_,hg,_⟩
     · cases e;cases h2
     · cases e
       cases h2;rw[h] at hg;cases hg
theorem RX.wr{W u u':aj}{A:Option Addr}{w0:aj}{S:List (Option Nat)}{E:av}{c n cap:Nat}{xs:List ai}(h:RX W u)(hO:Ow w0 u S E c A n cap xs)(e:Wr u u' A):RX W u' :=
 ⟨e.os.trans h.os,e.tape.trans h.tape,e.output.trans h.output,h.ko.trans ⟨e.size,fun k o hk ho=>(e.block k (dz.1 hk).1 fun hkA=>by
  rcases hO.cases with ⟨rfl,_⟩ | ⟨g,cur,rfl,_,hg,_⟩
  · cases hkA
  · cases hkA
    rw[hg] at hk;cases hk;cases ho).trans hk⟩⟩
section
variable {P:bv} {Q:Exit→Act→aj→Prop} {W w0 w:aj} {is:List It} {ops:Array Oper} {rest:List Oper} {d:Nat} {ty T:av} {pos:String} {after:Array Edge} {x y:bz} {l:List ai} {ds:List dw}
theorem akx{E:av}{c n cap b nm mcap:Nat}{A B:Option Addr}{z:ai}{xs news:List ai}{a0:Array av}(m:lP W w0 w is)(k:Nat)(hk:is[k]? = some (oI E c A n cap xs))(ha:a0 = #[T,T])(hu:P.underlying T=some (.slice E))(hi:(P.info? E).map (fun i=>(i.size,i.bytes,i.zero))=some (c,b,some z))(hz:z.cells.size=c)(hc:0<c)
 (hs:ev l x=.slice A n cap) (hx:ev l y=.slice B nm mcap) (hl:news.length=nm*c) (hrow:∀j u,news[j]? = some u→∃a,B=some a∧w.cell? (a.add j)=some u) (h1:∀u∈news,u.oneCell'=true) (h63:n+nm≤9223372036854775807) (hbytes:(n+nm)*b≤140737488355328)
 (h:∀A' cap' u,lP W w0 u (is.set k (oI E c A' (n+nm) cap' (xs++news)))→au P ops Q rest (Fr (l.set d (.slice A' (n+nm) cap')) ds) u) :
 au P ops Q (bx (some d) (.call { callee:=.builtin .append,args:=#[x,y],argTypes:=a0 }) ty pos after none::rest) (Fr l ds) w :=
 Wf ha hu hi hz hc m.ext hs (m.o k hk) hx hl hrow h1 h63 hbytes fun A' cap' u hO hW hF=>h A' cap' u ⟨m.put k hk hW.os hW.tape hW.output hW.size (fun b hb hne=>hW.block b hb hne) (by
  refine⟨hO.own.1,?_⟩;rcases hO.cases with ⟨rfl,e1,rfl,_⟩ | ⟨g,cur,rfl,_,h2,h3⟩
  · exact .inl ⟨by rw[e1],e1⟩
  · exact .inr ⟨g,cap',cur,rfl,cq _,h2,h3⟩) (by
  rcases hF with rfl | hF
  · exact .inl fun _ h=>h
  · exact .inr fun b hb=>by
     have e:Nr A'=some b:=hb;rw[hF] at e;cases e;exact ao _),m.rx.wr (m.o k hk) hW⟩
theorem acn{W u:aj}(h:RX W u):KeepsWalks W u:=⟨h.ko.size,fun k o hk ho=>h.ko.same k o hk (by cases o <;> first | rfl | cases ho)⟩
theorem aky{α σ:Type}{L:List ai}{go:bz}{gf Bs N q1 d1:Nat}{assign body:Code}{S:List α→Prop}{v1:α→ai}{c1:α→List ai}{T1:av}
 (hf:ev L go=.func (.func gf) #[] #[.pointer (some ⟨Bs,0,none⟩)]) (he:Lith.Entr P gf) (hseq:SeqStopsK Fence.wide 3 P gf #[.pointer (some ⟨Bs,0,none⟩)] (fun x=>#[v1 x]) KeepsWalks S (fun _=>True) N w)
 (F:σ→List It) (R:List α→σ→Prop) (hF:∀s,anv (F s)) (hdet:∀W s s' pre pre',R pre s→R pre' s'→Mem w0 W (F s)→Mem w0 W (F s')→R pre s') {s0:σ} (m:Mem w0 w (F s0)) (hR:R [] s0)
 (hassign:∀(r:Nat) (pre:List α) (x:α) (s:σ) (W:aj) (K:Act→aj→Prop),R pre s→lP W w0 W (F s)→(∀g u,lP W w0 u (bI g (c1 x) T1::F s)→K (Fr ((L.set q1 (v1 x)).set d1 (.pointer (some ⟨g,0,none⟩)))) u) →
  assign.wpIn (Fence.wide.inRound r) 2 P (Exit.then K (fun _ _ _=>False)) (Fr (L.set q1 (v1 x))) W)
 (hbody:∀(r:Nat) (pre:List α) (x:α) (g:Nat) (s:σ) (W:aj) (Q':Exit→Act→aj→Prop) [Gx Q'],pre.length<N→R pre s→lP W w0 W (bI g (c1 x) T1::F s) →
  (∀a u s',lP W w0 u (F s')→R (pre++[x]) s'→Q' .normal a u)→body.wpIn (Fence.wide.inRound r) 2 P Q' (Fr ((L.set q1 (v1 x)).set d1 (.pointer (some ⟨g,0,none⟩)))) W)
 (hdone:∀(D:Nat) (xs:List α) (s:σ) (u:aj),S xs→R xs s→Mem w0 u (Go.Proofs.YtfekpcimgncioaaGreatDoor.dI D (.deferred (some []))::F s)→Q .normal (Fr L [{ target:=.collected D,args:=#[] }]) u) :
 (Code.rangeFunc go #[q1] assign body).wp P Q (Fr L) w:=by
 refine (wpIn_wide (n:=4)).1 ?_;have hsz:=m.ext.size;have own:OwnFrom w.heap.size fun (pre:List α) W=>∃s,R pre s∧Mem w0 W (F s):=fun pre X Y row ⟨s,hs,hm⟩ hg hr=>⟨s,hs,acm (β:=Unit) (fun _=>F s) (fun _=>hF s) hsz () X Y row hm hg hr⟩
 have Zu:∀(g:Nat) (x:α) (s:σ),anv (bI g (c1 x) T1::F s):=fun g x s i hi=>by
  rcases an.1 hi with rfl | hi
  · exact .inl ⟨_,_,_,rfl⟩
  · exact hF s i hi
 refine wpIn_rangeFunc_ownH (F:=Fence.wide) rfl (by omega) (gf:=gf) (lb:=#[.pointer (some ⟨Bs,0,none⟩)]) (by rw[cJ];exact hf) trivial (fun args u=>tP he) hseq KeepsWalks.trans
  (fun W l o o' _ ho _ hw=>KeepsWalks.putObj o' ho hw) (Below.refl _ _) (fun _=>rfl)
  (fun pre W=>∃s,R pre s∧Mem w0 W (F s)) (fun _ _ _=>False)
  own (fun _ _ _ _ _ h _ _=>h) ⟨s0,hR,m⟩
  (fun x a' W=>∃g s pre,a'=Fr ((L.set q1 (v1 x)).set d1 (.pointer (some ⟨g,0,none⟩)))∧R pre s∧Mem w0 W (bI g (c1 x) T1::F s))
  (fun x a' _ X Y row hs hg hr=>by
   obtain⟨g,s,pre,e,h1,h2⟩:=hs;exact⟨g,s,pre,e,h1,acm (β:=Unit) (fun _=>bI g (c1 x) T1::F s) (fun _=>Zu g x s) hsz () X Y row h2 hg hr⟩)
  ?_ ?_ ?_ ?_
 · rintro r pre x W K ⟨s,hs,hm⟩ hK
   have e:((#[q1].zip #[v1 x]).foldl (fun t (y:Tmp × ai)=>t.setIfInBounds y.1 y.2) (Fr L).tmps)=(L.set q1 (v1 x)).toArray:=by simp
   have:=hassign r pre x s W K hs (lP.start hm) (fun g u hu=>hK _ _ (hu.rx.ko.from _) (acn hu.rx) ⟨s,hs,hu.toMem.tl⟩ ⟨g,s,pre,rfl,hs,hu.toMem⟩);simp only at this ⊢;rw[e];exact this
 · rintro r pre x a' W _ _ ⟨s,hs,hm⟩ ⟨g,s',pre',rfl,hs',hm'⟩ hN
   have hd:=hdet W s s' pre pre' hs hs' hm hm'.tl;refine hbody r pre x g s' W _ hN hd (lP.start hm') (fun a u s2 hu h2=>?_);exact⟨hu.rx.ko.from _,acn hu.rx,s2,h2,hu.toMem⟩
 · rintro D xs W hD hS ⟨s,hs,hm⟩ hd
   exact hdone D xs s W hS hs (Lith.Mem.addC hm (hF s) hd (be hsz hD))
 · rintro D c pre W hD hsp h hd
   exact h.elim
end
end Go.Lith
namespace Go.Proofs.YtfekpcimgncioaaGreatDoor
open Go.Proofs.Tryz
open Go.RowKit Go.Lith
set_option maxRecDepth 100000
attribute [local irreducible] au cu fA bF cG Code.wp
attribute [local congr] nO fK fM fN fO fP iY fQ fR fS fT fU fV fW fX fY fZ gA dX dY gB gC gE gF gG jA cQ cR cE cP gD iZ dZ eA eB gH gI jD
variable{N gf Bs:Nat}
theorem akz{dp:Nat}(l Bs g c:Nat){es:Array de}{D:List (P3 × P3)}(J Jx:List P3→aj→Prop)(W:aj)(hJ:AbidesFrom W.heap.size J)
 (hY:∀pre x W1,J pre W1→pre.length<D.length→YieldAt Fence.wide (dp-1) prog l #[pt x] W1 fun e W'=>(e=.returned (.bool true)∧J (pre++[x]) W'∧KeepsWalks W1 W')∨(e=.returned (.bool false)∧Jx (pre++[x]) W'))
 (hM:iW W g es c) (hD:bJ pt pt D es c) (hB:gT W Bs [.map (some g)] 99) (h0:J [] W) :
 CallsIn Fence.wide dp prog 129 #[.func (.yield l) #[] #[],.pointer (some ⟨Bs,0,none⟩)] W fun e W'=>(∃v,e=.returned v)∧((∃xs:List P3,xs.Perm (D.map (·.1))∧J xs W')∨(∃pre,True∧Jx pre W')):=by
 refine callsIn_of_wp func129 rfl trivial ?_ rfl;simp only[ntmps129,gu,ay,cd,aa,kn,im,io,jd,ix,bt,cg];refine wpIn_wide.2 ?_;refine aX fun K1 k1=>aq (aR rfl (hB.lies1 apc rfl) ?_);simp only[zz];refine aeV Ru rfl hM fun w1 r e1 hr hI=>aN (k1 _ _ ?_);have hJ1:J [] w1:=hJ [] W w1 none h0 (acl e1) (fun _ h=>by cases h);have hM1:=hM.ext e1;clear h0 k1 K1;refine jm ?_;simp only[zz];refine aeD [] [3,6,7,8,9,10,11,12,13] (fun n vs wl=>∃(dn rs:List (P3 × P3)) (sn:Array Nat),vs=[]∧iW wl g es c∧sC wl r g c sn c∧oJ pt pt D es sn dn rs∧J (dn.map (·.1)) wl∧n=rs.length) ?_ ?_
 · apply Exists.intro
   simp only[zQ,zR,zD,zE];exact⟨[],D,#[],trivial,hM1,hI,oJ.start hD,hJ1,rfl⟩
 · intro n vs wr hL u
   obtain⟨dn,rs,sn,rfl,hMw,hIw,hT,hJw,hn⟩:=hL;have hlen:=hT.len;simp only[zu,zF,zG];refine aX fun K5 k5=>aq (anu rfl hIw hMw hD hT fun bb kk vv sn2 u1 hg1 hM2 hI2 hN=>?_);refine aB (pZ rfl) (aN (k5 _ _ ?_));have hJ2:J (dn.map (·.1)) u1:=hJ _ _ _ _ hJw hg1 (fun r' e=>by cases e;exact⟨hr,_,hIw,rfl⟩);clear k5 K5;refine aX fun K6 k6=>?_;simp only[zz];refine eG rfl ?_ ?_<;>intro hc1
   · obtain⟨kp,kb,rs2,hp,hT2⟩:=Jf hc1 hN
     refine wp_skip (k6 _ _ ?_);clear k6 K6;refine jm (aX fun K7 k7=>aq (gK (uA rfl hI2 hM2 hD hT2) ?_));simp only[zz];refine aB (fB rfl rfl) ?_;have m:=Mem.refl u1;simp only[zz];refine mL m iQ rfl ?_;clear m;intro g2 u2 m;simp only[zz];refine cU m 0 rfl rfl rfl aA (kG rfl) rfl ?_;clear m;intro u3 m;simp only[zy,zx,over,zF,zG,aa] at m;refine aN (k7 _ _ ?_);clear k7 K7;have hJ3:J (dn.map (·.1)) u3:=hJ _ _ _ _ hJ2 (acl m.ext) (fun _ h=>by cases h);have hM3:=hM2.ext m.ext;have hI3:=hI2.ext m.ext;have hB3:=m.b 0 rfl;obtain⟨fn,tmps,asn,body,hy,hR⟩:=hY (dn.map (·.1)) kp u3 hJ3 (by have:=hp.length_eq;rw[bf];simp only[ay] at this;omega);refine aX fun K8 k8=>(wpIn_wide (n:=dp)).1 (wpIn_region_lit (xL (aG _) ?_));simp only[zz];refine xL (aZ rfl (hB3.full aH aA)) ?_;simp only[zz];refine Qk (args:=[pt kp]) rfl rfl hy hR ?_;rintro e w4 (⟨rfl,hJ4,hk4⟩ | ⟨rfl,hJ4⟩)
     · refine⟨_,rfl,xL (pL rfl _) (k8 _ _ ?_)⟩
       simp only[zz];refine afR rfl (wp_skip ?_);simp only[di,Exit.then];refine⟨rs2.length,_,?_,rfl,?_,?_⟩
       · rw[hn,hp.length_eq];exact Nat.lt_succ_self _
       · simp only[zz,zv]
       · simp only[zQ,zR,zD,zE]
         exact⟨dn++[(kp,kb)],rs2,_,trivial,hk4.same g _ hM3 rfl,hk4.same r _ hI3 rfl,hT2,by rw[ct];exact hJ4,rfl⟩
     · refine⟨_,rfl,xL (pL rfl _) (k8 _ _ ?_)⟩
       simp only[zz];refine Cj rfl (je ?_);simp only[di,Exit.then];exact arF rfl ⟨⟨_,rfl⟩,.inr ⟨_,trivial,hJ4⟩⟩
   · obtain rfl:=Je hc1 hN
     refine wp_exit ?_;simp only[di,Exit.then,if_true];exact Gf rfl ⟨⟨_,rfl⟩,.inl ⟨dn.map (·.1),hT.done.map _,hJ2⟩⟩
theorem Ox{w:aj}{Bs g c:Nat}{es:Array de}{D:List (P3 × P3)}(hM:iW w g es c)(hD:bJ pt pt D es c)(hB:gT w Bs [.map (some g)] 99) :
 SeqStopsK Fence.wide 3 prog 129 #[.pointer (some ⟨Bs,0,none⟩)] (fun x:P3=>#[pt x]) KeepsWalks (fun xs=>xs.Perm (D.map (·.1))) (fun _=>True) D.length w:=fun l J Jx W hW hJ _ hY h0 =>
 akz l Bs g c J Jx W hJ hY ((hW.block g hM.lt).trans hM) hD ((hW.block Bs hB.lt).trans hB) h0
structure SlS where
 A:Option Addr
 n:Nat
 cap:Nat
 xs:List ai
theorem anw{w0 W:aj}{g:Nat}{s s':SlS}{pre pre':List P3}(h:s.n=pre.length∧s.xs=pre.flatMap qS)(h':s'.n=pre'.length∧s'.xs=pre'.flatMap qS)(m:Mem w0 W [bI g [.slice s.A s.n s.cap] 65,oI 30 3 s.A s.n s.cap s.xs])(m':Mem w0 W [bI g [.slice s'.A s'.n s'.cap] 65,oI 30 3 s'.A s'.n s'.cap s'.xs]):s'.n=pre.length∧s'.xs=pre.flatMap qS:=by
 obtain⟨A,n,cap,xs⟩:=s;obtain⟨A',n',cap',xs'⟩:=s';dsimp only at h h' m m' ⊢;have e:W.heap[g]? = _:=m.b 0 rfl;rw[show W.heap[g]? = _ from m'.b 0 rfl] at e;simp only[Option.some.injEq,Obj.cells.injEq,List.toArray_inj,List.cons.injEq,Value.slice.injEq,and_true] at e;obtain⟨rfl,rfl,rfl⟩:=e;refine⟨h.1,?_⟩;rcases (m.o 1 rfl).cases with ⟨rfl,_,_,hx⟩ | ⟨g1,cur,rfl,_,hg,_,_,_,hx⟩
 · rcases (m'.o 1 rfl).cases with ⟨_,_,_,hx'⟩ | ⟨g2,cur',e,_⟩
   · rw[hx',←h.2,hx]
   · cases e
 · rcases (m'.o 1 rfl).cases with ⟨e,_⟩ | ⟨g2,cur',e,_,hg',_,_,_,hx'⟩
   · cases e
   · cases e
     rw[hg] at hg';cases hg';rw[←hx',hx,h.2]
theorem akA{q:Nat}(w:aj):dK prog 69 [.map (some q)] w (fun v w'=>∃g,v=.func (.func 129) #[] #[.pointer (some ⟨g,0,none⟩)]∧w.heap.size≤g∧gT w' g [.map (some q)] 99):=by
 refine⟨bP func69 (by kernel_rfl),?_⟩;have m:=Mem.refl w
 go_enter func69,ntmps69
 apply mR 7 [0] m;simp only[↓aC];intro g1 u m;refine aB gQ ?_;simp only[zz,gm,bp,dt];apply aL 3 [] m;simp only[↓aC];exact aT rfl rfl ⟨_,rfl,m.ext,g1,rfl,m.ge _ bh g1 rfl,(m.b 0 rfl)⟩
theorem Hx{α:Type}{n:Nat}{P:bv}{g:Nat}{lb:Array ai}{encs:α→Array ai}{Kp:aj→aj→Prop}{S Sp:List α→Prop}{w u:aj}(h:SeqStopsK Fence.wide n P g lb encs Kp S Sp N w)(e:gJ w u):SeqStopsK Fence.wide n P g lb encs Kp S Sp N u:=fun l J Jx W hW=>h l J Jx W (Below.trans e (Below.mono hW (Below.size e)))
theorem aco{S:List P3→Prop}(w:aj)(he:Entr prog gf)(hseq:SeqStopsK Fence.wide 3 prog gf #[.pointer (some ⟨Bs,0,none⟩)] (fun x:P3=>#[pt x]) KeepsWalks S (fun _=>True) N w)(hN:N≤10000000):dK prog 193 [.slice none 0 0,.func (.func gf) #[] #[.pointer (some ⟨Bs,0,none⟩)]] w (fun v w'=>∃xs:List P3,SL 30 3 (xs.flatMap qS) xs.length w v w'∧S xs):=by
 refine⟨bP func193 (by kernel_rfl),?_⟩;have m:=Mem.refl w;refine (callsIn_wide (n:=4)).1 (callsIn_of_wp_marks func193 rfl trivial ?_ rfl);simp only[ntmps193,gu,ay,cd,aa,kn,im,io,jd,ix,bt,cg];refine wpIn_wide.2 ?_;refine aX fun K1 k1=>aq (arI m rfl rfl ?_);intro g1 u m;refine aB aP (aN (k1 _ _ ?_));try clear k1 K1
 refine aX fun K2 k2=>aX fun K3 k3=>?_;simp only[zz];replace m:=m.nilO 30 3;refine aq (aB aG (aN (k3 _ _ ?_)));try clear k3 K3
 refine jm ?_;simp only[zz];replace m:=m.s01;refine aky (L:=_) (v1:=fun x=>pt x) (c1:=qS) (T1:=30) (d1:=5) rfl he (Hx hseq m.ext) (fun s:SlS=>[bI g1 [.slice s.A s.n s.cap] 65,oI 30 3 s.A s.n s.cap s.xs]) (fun pre s=>s.n=pre.length∧s.xs=pre.flatMap qS) (fun s i hi=>?_) (fun W s s2 pre pre2 h h2 m1 m2=>anw h h2 m1 m2) (s0:=⟨none,0,0,[]⟩) m ⟨rfl,rfl⟩ ?_ ?_ ?_
 · simp only[an,cl,or_false] at hi;rcases hi with rfl | rfl;exact .inl ⟨_,_,_,rfl⟩;exact .inr ⟨_,_,_,_,_,_,rfl⟩
 ·
  intro r pre x s W K hs m hK;try dsimp only at m hK ⊢
  simp only[zF,zG];refine cB (Kj m iQ rfl ?_);intro g2 u m;simp only[zz];refine Ej m 0 rfl rfl rfl aA (kG rfl) rfl ?_;intro u m;simp only[zy,zx,over,zF,zG,aa] at m;exact aN (hK _ _ m)
 ·
  rintro r pre x g5 ⟨A1,n1,cap1,xs1⟩ W Q' _ hNp ⟨hn1,hx1⟩ m hn;dsimp only at m hn hn1 hx1 ⊢;subst hx1
  ·
   simp only[zF,zG];refine pI (cB (aR rfl ((m.b 1 rfl).lies1 aip rfl) ?_));simp only[zz];refine aR rfl ((m.b 0 rfl).full aH aA) ?_;simp only[zz];refine pD rfl ?_;intro u g6 e_ h_ k_;replace m:lP _ _ _ _:=⟨m.toMem.newB e_ h_ k_,m.rx.ext e_⟩
   simp only[zz];refine akx m 3 rfl rfl eK qY rfl (by decide) rfl rfl rfl (m.b 0 rfl).rowsO (jX rfl) (by omega) (by omega) ?_;intro A1 cap1 u m;simp only[zF,zG] at m;rw[show pre.flatMap qS++_=(pre++[x]).flatMap qS by rw[aw];rfl] at m;simp only[zz];refine iV m 2 rfl rfl rfl aio (kG rfl) ⟨rfl,rfl⟩ ?_;intro u m;simp only[zz,zy,zx,over,aa] at m;exact aN (hn _ _ ⟨A1,n1+1,cap1,(pre++[x]).flatMap qS⟩ ⟨m.toMem.sel [false,false,true,true],m.rx⟩ ⟨by simp[hn1],rfl⟩)
 rintro D xs ⟨A1,n1,cap1,xs1⟩ u hS ⟨hn1,hx1⟩ m;dsimp only at m hn1 hx1;subst hx1;refine k2 _ _ ?_;try clear k2 K2
 refine aX fun K4 k4=>aq (aR rfl ((m.b 1 rfl).lies1 aip rfl) ?_);simp only[zz];refine aB aP (aN (k4 _ _ ?_));try clear k4 K4
 refine je ?_;simp only[zz];try simp only[di,Exit.then,if_true]
 refine acZ (Def.mk (m.get 0 rfl)) ?_;replace m:=m.putD (o':=.deferred none) 0 rfl;simp only[zF,zG] at m;refine aT rfl rfl ?_;try simp only[zD,zE]
 exact⟨_,rfl,m.ext,xs,⟨A1,cap1,n1,hn1,rfl,(m.o 2 rfl)⟩,hS⟩
theorem aej{S:List P3→Prop}(w:aj)(he:Entr prog gf)(hseq:SeqStopsK Fence.wide 3 prog gf #[.pointer (some ⟨Bs,0,none⟩)] (fun x:P3=>#[pt x]) KeepsWalks S (fun _=>True) N w)(hN:N≤10000000):dK prog 127 [.func (.func gf) #[] #[.pointer (some ⟨Bs,0,none⟩)]] w (fun v w'=>∃xs:List P3,SL 30 3 (xs.flatMap qS) xs.length w v w'∧S xs):=by
 refine⟨bP func127 (by kernel_rfl),?_⟩;have m:=Mem.refl w
 go_enter func127,ntmps127
 apply fG 7 [0] m;simp only[↓aC];refine bC rfl rfl (aco _ he (Hx hseq m.ext) hN) ?_;rintro v u e_ ⟨xs,⟨A5,cap5,n5,hn5,rfl,h_⟩,hS⟩;replace m:=m.newO e_ h_;apply aL 3 [] m;simp only[↓aC];exact aT rfl rfl ⟨_,rfl,m.ext,xs,⟨_,_,_,hn5,rfl,(m.o 0 rfl)⟩,hS⟩
theorem acp{S:List P3→Prop}(w:aj)(he:Entr prog gf)(hseq:SeqStopsK Fence.wide 3 prog gf #[.pointer (some ⟨Bs,0,none⟩)] (fun x:P3=>#[pt x]) KeepsWalks S (fun _=>True) N w)(hS:∀xs,S xs→xs.length≤N)(hN:N≤10000000):dK prog 68 [.func (.func gf) #[] #[.pointer (some ⟨Bs,0,none⟩)],.func (.func 70) #[] #[]] w (fun v w'=>∃xs ys:List P3,SL 30 3 (ys.flatMap dU) xs.length w v w'∧S xs∧ys.Perm xs∧ys.Pairwise fun a b=>¬b.Lt a):=by
 refine⟨bP func68 (by kernel_rfl),?_⟩;have m:=Mem.refl w
 go_enter func68,ntmps68
 apply fG 7 [0] m;simp only[↓aC];refine bC rfl rfl (aej _ he (Hx hseq m.ext) hN) ?_;rintro v u e_ ⟨xs,⟨A5,cap5,n5,hn5,rfl,h_⟩,hSx⟩;replace m:=m.newO e_ h_;apply aL 6 [0] m;simp only[↓aC];refine mM m 0 adb rfl rfl (fun m=>afy m 0 rfl (by have:=hS xs hSx;omega)) ?_;rintro v i u m ⟨rfl,ys,rfl,hys,hso⟩;simp only[zF,zG] at m;apply aL 7 [] m;simp only[↓aC];exact aT rfl rfl ⟨_,rfl,m.ext,xs,ys,⟨_,_,_,hn5,rfl,(m.o 0 rfl)⟩,hSx,hys,hso⟩
end Go.Proofs.YtfekpcimgncioaaGreatDoor
namespace Go.Lith
open Go.RowKit
def Hy(u:P3):Nat:=if u.x≠0 then 0 else if u.y≠0 then 1 else 2
def Oy(a b c:Int):Prop:=(0≤a∧0≤b∧0≤c)∨(a≤0∧b≤0∧c≤0)
/-! ### Corners -/
section
variable {P:bv} {ds:List dw} {l:List ai} {x y:bz} {T T' U t ty:av} {v z:ai}
end
section
variable {P:bv} {ds:List dw} {l:List ai} {ty:av} {v u:ai}
variable {ops:Array Oper} {Q:Exit→Act→aj→Prop} {rest:List Oper} {d:Nat} {pos:String} {after:Array Edge} {w w0:aj} {is:List It}
end
section
variable {P:bv} {w0:aj} {is:List It} {l:List ai} {ty:av} {u:ai}
variable {ops:Array Oper} {Q:Act→Prop} {rest:List Oper} {d:Nat} {pos:String} {after:Array Edge} {v:ai} {ds:List dw}
end
section
variable {P:bv} {l:List ai} {x y z:bz} {ty:av} {k:IntKind} {m n q r:Int}
theorem aqO{a0:Array av}(hx:ev l x=.int k m)(hy:ev l y=.int k n)(hz:ev l z=.int k q)(hr:(if q<(if n<m then n else m) then q else if n<m then n else m)=r):iB P l (.call { callee:=.builtin .min,args:=#[x,y,z],argTypes:=a0 }) ty (.int k r):=fun w o ho _=>by
 subst hr;simp[dj,ho,resolve,invoke,builtin,Builtin.min_,Builtin.min2,cJ,hx,hy,hz]
theorem aqP{a0:Array av}(hx:ev l x=.int k m)(hy:ev l y=.int k n)(hz:ev l z=.int k q)(hr:(if (if m<n then n else m)<q then q else if m<n then n else m)=r):iB P l (.call { callee:=.builtin .max,args:=#[x,y,z],argTypes:=a0 }) ty (.int k r):=fun w o ho _=>by
 subst hr;simp[dj,ho,resolve,invoke,builtin,Builtin.max_,Builtin.max2,cJ,hx,hy,hz]
end
end Go.Lith
namespace Go.Proofs.YtfekpcimgncioaaGreatDoor
open Go.Proofs.Tryz
open Go.RowKit Go.Lith
set_option maxRecDepth 100000
attribute [local irreducible] au cu fA bF cG Code.wp
attribute [local congr] nO fK fM fN fO fP iY fQ fR fS fT fU fV fW fX fY fZ gA dX dY gB gC gE gF gG jA cQ cR cE cP gD iZ dZ eA eB gH gI jD
variable{u c d q s:P3}{a:Int}
def aaR(u:P3):Int:=if u.x≠0 then 0 else if u.y≠0 then 1 else if u.z≠0 then 2 else -1
theorem Kk{n:Int}:¬bS n=0↔n≠0:=not_congr gY
theorem Fs{n:Int}(h:¬¬bS n=0):¬n≠0:=fun k=>h (Kk.2 k)
theorem akB(h:¬Z3 u):aaR u=(Hy u:Int):=by
 unfold aaR Hy;unfold Z3 at h
 repeat' split
 all_goals first | rfl | (exfalso;omega)
theorem akC(h:Z3 u):aaR u = -1:=by
 obtain⟨h1,h2,h3⟩:=h;simp[aaR,h1,h2,h3]
class N4(p:P3):Prop where
 x : -549755813888<p.x∧p.x<549755813888
 y : -549755813888<p.y∧p.y<549755813888
 z : -549755813888<p.z∧p.z<549755813888
theorem N3.cross{v:P3}(hu:N3 u)(hv:N3 v):N4 (u.cross v):=by
 have h1:=Br hu.y hv.z;have h2:=Br hu.z hv.y;have h3:=Br hu.z hv.x;have h4:=Br hu.x hv.z;have h5:=Br hu.x hv.y;have h6:=Br hu.y hv.x;exact⟨by simp only[P3.cross];omega,by simp only[P3.cross];omega,by simp only[P3.cross];omega⟩
theorem pK{b:Int}(ha : -549755813888<a∧a<549755813888)(hb:b.natAbs<524288) : -288230376151711744<a*b∧a*b<288230376151711744:=by
 have h:(a*b).natAbs≤549755813887*524287:=by rw[Int.natAbs_mul];exact Nat.mul_le_mul (by omega) (by omega)
 omega
theorem afC  : fF prog 304 [sg u] (.int .i64 (aaR u)):=by
 intro w;refine⟨bP func304 (by kernel_rfl),?_⟩;have m:=Mem.refl w
 go_enter func304,ntmps304
 apply mR 26 [0,4,1,0] m;simp only[↓aC,Dv];intro g1;refine⟨by omega,?_⟩;intro u m;refine aB (jN rfl rfl) ?_;apply aL 8 [0,0] m;simp only[↓aC];refine bA rfl ?_ ?_<;>intro hc2
 ·
  apply aK 6 [] m;simp only[↓aC];refine aT rfl rfl ?_;try simp only[zD,zE]
  exact⟨_,rfl,m.ext,by rw[aaR,if_pos (Kk.1 hc2)]⟩
 ·
  have hq0:=hc2;apply aK 19 [1,0] m;simp only[↓aC,am];refine⟨by omega,?_⟩;refine aB (jO rfl rfl) ?_;apply aL 8 [0,0] m;simp only[↓aC];refine bA rfl ?_ ?_<;>intro hc2
  ·
   apply aK 6 [] m;simp only[↓aC];refine aT rfl rfl ?_;try simp only[zD,zE]
   exact⟨_,rfl,m.ext,by rw[aaR,if_neg (Fs hq0),if_pos (Kk.1 hc2)]⟩
  ·
   have hq1:=hc2;apply aK 19 [1,0] m;simp only[↓aC,am];refine⟨by omega,?_⟩;refine aB (jP rfl rfl) ?_;apply aL 8 [0,0] m;simp only[↓aC];refine bA rfl ?_ ?_<;>intro hc2
   ·
    apply aK 6 [] m;simp only[↓aC];refine aT rfl rfl ?_;try simp only[zD,zE]
    exact⟨_,rfl,m.ext,by rw[aaR,if_neg (Fs hq0),if_neg (Fs hq1),if_pos (Kk.1 hc2)]⟩
   ·
    have hq2:=hc2;apply aK 19 [2] m;simp only[↓aC,am];refine⟨by omega,?_⟩;refine aT rfl rfl ?_;try simp only[zD,zE]
    exact⟨_,rfl,m.ext,by rw[aaR,if_neg (Fs hq0),if_neg (Fs hq1),if_neg (Fs hq2)]⟩
theorem aaS{v:P3}(hu:N4 u)(hv:N3 v):fF prog 308 [nv u,nv v] (.int .i64 (u.dot v)):=by
 intro w;refine⟨bP func308 (by kernel_rfl),?_⟩;have m:=Mem.refl w
 go_enter func308,ntmps308
 apply mR 12 [1,0,0] m;simp only[↓aC,sX,eR,ad,ah,aa];intro g1 g2;refine⟨by omega,?_⟩;intro u m;refine aB (tC rfl rfl (bG (by have h1:=pK hu.x hv.x;have h2:=pK hu.y hv.y;have h3:=pK hu.z hv.z;omega) (by have h1:=pK hu.x hv.x;have h2:=pK hu.y hv.y;have h3:=pK hu.z hv.z;omega))) ?_;apply aL 4 [1,0,0] m;simp only[↓aC,sX,eR,ad,ah,aa];refine⟨by omega,?_⟩;refine aB (tC rfl rfl (bG (by have h1:=pK hu.x hv.x;have h2:=pK hu.y hv.y;have h3:=pK hu.z hv.z;omega) (by have h1:=pK hu.x hv.x;have h2:=pK hu.y hv.y;have h3:=pK hu.z hv.z;omega))) (aB (eS rfl rfl (bG (by have h1:=pK hu.x hv.x;have h2:=pK hu.y hv.y;have h3:=pK hu.z hv.z;omega) (by have h1:=pK hu.x hv.x;have h2:=pK hu.y hv.y;have h3:=pK hu.z hv.z;omega))) ?_);apply aL 4 [1,0,0] m;simp only[↓aC,sX,eR,ad,ah,aa];refine⟨by omega,?_⟩;refine aB (tC rfl rfl (bG (by have h1:=pK hu.x hv.x;have h2:=pK hu.y hv.y;have h3:=pK hu.z hv.z;omega) (by have h1:=pK hu.x hv.x;have h2:=pK hu.y hv.y;have h3:=pK hu.z hv.z;omega))) (aB (eS rfl rfl (bG (by have h1:=pK hu.x hv.x;have h2:=pK hu.y hv.y;have h3:=pK hu.z hv.z;omega) (by have h1:=pK hu.x hv.x;have h2:=pK hu.y hv.y;have h3:=pK hu.z hv.z;omega))) ?_);apply aL 3 [] m;simp only[↓aC];exact aT rfl rfl ⟨_,rfl,m.ext,rfl⟩
theorem vS{a b:P3}[I3 a][I3 b][I3 c][I3 d]:fF prog 243 [pt a,pt b,pt c,pt d] (.int .i64 (bS (((b.sub a).cross (c.sub a)).dot (d.sub a)))):=by
 intro w;refine⟨bP func243 (by kernel_rfl),?_⟩;have m:=Mem.refl w
 go_enter func243,ntmps243
 apply mR 15 [3,2,1,0,0] m;simp only[↓aC,aU];intro g1 g2 g3 g4 u m;refine Ws rfl rfl rfl rfl ?_;intro u g5 e_ h_ k_;replace m:=m.newB e_ h_ k_;simp only[zz];refine cM m rfl rfl (Yg _ (m.b 0 rfl)) ?_;rintro v u m ⟨bo,rfl,hsm⟩;apply aL 1 [0] m;simp only[↓aC];refine iK rfl ?_ ?_<;>intro hc1
 ·
  obtain⟨_,_,_,_⟩:=hsm hc1;apply aK 1 [0] m;simp only[↓aC];refine mq m aD (by kernel_rfl) (ql rfl (fun u m=>((m.b 4 rfl).full aH aA)) ?_);simp only[zz];refine ql rfl (fun u m=>((m.b 3 rfl).full aH aA)) ?_;simp only[zz];refine jJ rfl rfl qL ?_;simp only[zz];refine ql rfl (fun u m=>((m.b 4 rfl).full aH aA)) ?_;simp only[zz];refine ql rfl (fun u m=>((m.b 2 rfl).full aH aA)) ?_;simp only[zz];refine jJ rfl rfl qL ?_;simp only[zz];refine jJ rfl rfl (Gw inferInstance inferInstance) ?_;simp only[zz];refine ql rfl (fun u m=>((m.b 4 rfl).full aH aA)) ?_;simp only[zz];refine ql rfl (fun u m=>((m.b 1 rfl).full aH aA)) ?_;simp only[zz];refine jJ rfl rfl qL ?_;simp only[zz];refine jJ rfl rfl (aaS (N3.cross inferInstance inferInstance) inferInstance) ?_;simp only[zz];refine jJ rfl rfl aaM (aI aP (bE ?_));intro u m;apply aW 1 [] m;simp only[↓aC];exact aT rfl rfl ⟨_,rfl,m.ext,rfl⟩
 ·
  apply aK 2 [0] m;simp only[↓aC];refine mq m aD (by kernel_rfl) (ql rfl (fun u m=>((m.b 4 rfl).full aH aA)) ?_);simp only[zz];refine ql rfl (fun u m=>((m.b 3 rfl).full aH aA)) ?_;simp only[zz];refine jJ rfl rfl nH ?_;simp only[zz];refine ql rfl (fun u m=>((m.b 4 rfl).full aH aA)) ?_;simp only[zz];refine ql rfl (fun u m=>((m.b 2 rfl).full aH aA)) ?_;simp only[zz];refine jJ rfl rfl nH ?_;simp only[zz];refine jJ rfl rfl (Bf Bv.of Bv.of) ?_;simp only[zz];refine ql rfl (fun u m=>((m.b 4 rfl).full aH aA)) ?_;simp only[zz];refine ql rfl (fun u m=>((m.b 1 rfl).full aH aA)) ?_;simp only[zz];refine jJ rfl rfl nH ?_;simp only[zz];refine jJ rfl rfl (Ou Bv.of Bv.of) ?_;simp only[zz];refine jJ rfl rfl (Nd Bw.up) (aI aP (bE ?_));intro u m;apply aW 1 [] m;simp only[↓aC];exact aT rfl rfl ⟨_,rfl,m.ext,rfl⟩
theorem yQ{p:P3}:fF prog 305 [pt p,pt q] (.tuple #[pt (wO p q),pt (Cg p q)]):=by
 intro w;refine⟨bP func305 (by kernel_rfl),?_⟩;have m:=Mem.refl w
 go_enter func305,ntmps305
 apply mR 12 [2,3,0] m;simp only[↓aC,gM,aU];intro g1 g2 g3 g4 u m;refine wA m rfl rfl uG.pure 1 [0] ?_;simp only[↓aC];intro u m;refine bA rfl ?_ ?_<;>intro hc1
 ·
  apply aK 1 [0] m;simp only[↓aC];refine zvt [false,false,true,true] [[0],[1],[1],[0]] (.take 0 (.take 1 (.one 2 (.one 3 .nil)))) m aD (by kernel_rfl) (bT (fun _ _ _ _ _ h=>h)) ?_;simp only[↓aC,↓zzu,aU,aa];intro u m;apply aW 1 [] m;simp only[↓aC];refine Ck rfl ⟨_,rfl,((m.b 1 rfl).full aH aA)⟩ ⟨_,rfl,((m.b 0 rfl).full aH aA)⟩ ?_;try simp only[zD,zE]
  exact⟨_,rfl,m.ext,by rw[wO,Cg,if_pos hc1,if_pos hc1];rfl⟩
 ·
  apply aK 2 [0] m;simp only[↓aC];refine zvt [false,false,true,true] [[1],[0],[1],[0]] (.take 0 (.take 1 (.one 2 (.one 3 .nil)))) m aD (by kernel_rfl) (bT (fun _ _ _ _ _ h=>h)) ?_;simp only[↓aC,↓zzu,aU,aa];intro u m;apply aW 1 [] m;simp only[↓aC];refine Ck rfl ⟨_,rfl,((m.b 1 rfl).full aH aA)⟩ ⟨_,rfl,((m.b 0 rfl).full aH aA)⟩ ?_;try simp only[zD,zE]
  exact⟨_,rfl,m.ext,by rw[wO,Cg,if_neg hc1,if_neg hc1];rfl⟩
instance (a b c:Int):Decidable (Oy a b c):=inferInstanceAs (Decidable (_∨_))
instance {p q:P3}[I3 p][I3 q]:I3 (wO p q):=by unfold wO;split <;> assumption
instance {p q:P3}[I3 p][I3 q]:I3 (Cg p q):=by unfold Cg;split <;> assumption
theorem anx{b c:Int}:(decide (0≤(if c<(if b<a then b else a) then c else if b<a then b else a))||decide ((if (if a<b then b else a)<c then c else if a<b then b else a)≤0))=decide (Oy a b c):=by
 unfold Oy;rw[←Bool.decide_or]
 congr 1
 apply propext;constructor
 ·
  intro h
  repeat' split at h
  all_goals omega
 ·
  intro h
  repeat' split
  all_goals omega
theorem anz{b c:Int}:fF prog 307 [.agg #[.int .i64 a,.int .i64 b,.int .i64 c]] (.bool (decide (Oy a b c))):=by
 intro w;refine⟨bP func307 (by kernel_rfl),?_⟩;have m:=Mem.refl w
 go_enter func307,ntmps307
 apply mR 13 [0,0,0,0] m;simp only[↓aC,jE,eR,ad,ah,aa];intro g1;refine⟨by omega,?_⟩;intro u m;refine aB (aqO rfl rfl rfl rfl) ?_;apply aL 2 [0,0] m;simp only[↓aC];refine dG rfl (fun hb=>aJ sA bD rfl rfl (by decide) (by decide) rfl) ?_;simp only[zz];refine eY rfl (fun hb=>aZ (bB hb rfl) ((m.b 0 rfl).lies1 cC rfl)) (dG rfl (fun hb=>aJ sA bD rfl rfl (by decide) (by decide) rfl) ?_);simp only[zz];refine eY rfl (fun hb=>aZ (bB hb rfl) ((m.b 0 rfl).lies1 cC rfl)) (dG rfl (fun hb=>aJ sA bD rfl rfl (by decide) (by decide) rfl) ?_);simp only[zz];refine eY rfl (fun hb=>aZ (bB hb rfl) ((m.b 0 rfl).lies1 cC rfl)) (dG rfl (fun hb=>aqP (bB hb rfl) (bB hb rfl) (bB hb rfl) rfl) (dG rfl (fun hb=>aa6 (bB hb rfl) rfl) (aB (eD rfl rfl rfl) ?_)));apply aL 3 [] m;simp only[↓aC];refine aT rfl rfl ?_;try simp only[zD,zE]
 exact⟨_,rfl,m.ext,by rw[←anx]⟩
theorem afD{t:T3}(w:aj):dK prog 303 [tr t] w (fun v w'=>∃g,v=.func (.func 337) #[] #[.pointer (some ⟨g,0,none⟩)]∧w.heap.size≤g∧gT w' g (aM t) 39):=by
 refine⟨bP func303 (by kernel_rfl),?_⟩;have m:=Mem.refl w
 go_enter func303,ntmps303
 apply mR 7 [0] m;simp only[↓aC];intro g1 u m;refine aB gQ ?_;simp only[zz,gm,bp,dt];apply aL 3 [] m;simp only[↓aC];exact aT rfl rfl ⟨_,rfl,m.ext,_,rfl,m.ge _ bh _ rfl,(m.b 0 rfl)⟩
theorem Oz(n:Nat)(hn:1≤n)(Bs n₀:Nat)(t:T3)(w:aj)(hB:gT w Bs (aM t) 39):SeqStopsK Fence.wide n prog 337 #[.pointer (some ⟨Bs,0,none⟩)] (fun x:Nat=>aoA t x) (nG n₀ Bs) (fun ys=>ys=[0,1,2]) (fun pre=>∀k∈pre,k<3) 3 w:=fun l J Jx W hW hJ hJx hY h0 =>
 ahd n hn l Bs n₀ t J Jx (fun s W h=>hJ s W _ none h ⟨rfl,rfl,rfl,ao _,fun _ _ _=>rfl⟩ (fun r e=>by cases e)) hY W ((hW.block Bs hB.lt).trans hB) h0
theorem El{l:List ai}{ty:av}{x y:bz}{v:P3}{k:Nat}(hk:k<3)(hx:ev l x=sg v)(hy:ev l y=.int .i64 (k:Int)):iB prog l (.index 36 x y) ty (.int .i64 (bS (cO v k))):=by
 have h:k=0∨k=1∨k=2:=by omega
 rcases h with rfl | rfl | rfl
 · exact jN hx hy
 · exact jO hx hy
 · exact jP hx hy
theorem afE(n:Int) : -1≤bS n∧bS n≤1:=by
 unfold bS;split
 · omega
 · split <;> omega
theorem Yh(m n:Int):IntKind.i64.wrap (bS m*bS n)=bS m*bS n:=by
 have h1:=afE m;have h2:=afE n;have h3:bS m = -1∨bS m=0∨bS m=1:=by omega
 rcases h3 with h | h | h <;> rw[h] <;> exact bG (by omega) (by omega)
theorem acq{a b:P3}[I3 a][I3 b][I3 c][I3 d]{g50 k:Nat}(w:aj)(hB50:gT w g50 [.int .i64 (k:Int)] 3)(hk:k<3):dK prog 338 [pt a,pt b,pt c,pt d,.pointer (some ⟨g50,0,none⟩)] w (fun v _=>v=.bool (decide (bS (cO (tH a b c) k)*bS (cO (tH a b d) k)≤0))):=by
 refine⟨bP func338 (by kernel_rfl),?_⟩;have m:=Mem.refl w
 go_enter func338,ntmps338
 apply mR 9 [0] m;simp only[↓aC];intro g1 g2 g3 g4 u m;refine mq m aD (by kernel_rfl) (eT 4 [3,2,3,1] ?_);simp only[↓aC,aU];refine jJ rfl rfl (rU (a:=a) (b:=b) (c:=a) (d:=c)) ?_;simp only[zz];refine ql rfl (fun u m=>((hB50.ext m.ext).lies1 cC rfl)) ?_;simp only[zz];refine aI ((El (v:=tH a b c) hk rfl rfl)) (eT 4 [3,2,3,0] ?_);simp only[↓aC,aU];refine jJ rfl rfl (rU (a:=a) (b:=b) (c:=a) (d:=d)) ?_;simp only[zz];refine ql rfl (fun u m=>((hB50.ext m.ext).lies1 cC rfl)) ?_;simp only[zz];refine aI ((El (v:=tH a b d) hk rfl rfl)) (aI (tC rfl rfl (Yh _ _)) (aI (aa6 rfl rfl) (aI aP ?_)));simp only[zz];refine bE ?_;intro u m;apply aW 1 [] m;simp only[↓aC];exact aT rfl rfl ⟨_,rfl,m.ext,rfl⟩
section
variable {P:bv} {ops:Array Oper} {Q:Exit→Act→aj→Prop} {rest:List Oper} {d j:Nat} {ty:av} {pos:String} {after:Array Edge} {v:ai} {b:Bool} {ds:List dw} {l:List ai} {w w0:aj} {is:List It}
variable {f:FuncId} {fo:bz} {xs:Array bz} {args:List ai} {first cap:Array ai} {a0:Array av}
theorem afF(m:Mem w0 w is)(hw:yielded ops l.toArray j=some b)(hf:b=true→ev l fo=.func (.func f) first cap)(hxs:b=true→first.toList++xs.toList.map (ev l)++cap.toList=args)(hc:b=true→dK P f args w fun x _=>x=v)
 (h:∀u,Mem w0 u is→au P ops Q rest (Fr (l.set d (Ut b v)) ds) u):au P ops Q (bx (some d) (.call { callee:=.value fo,args:=xs,argTypes:=a0 }) ty pos after (some (j,true))::rest) (Fr l ds) w:=by
 cases b with
 | false=>simp only[Gj] at h;exact rJ hw (h w m)
 | true=>simp only[mC] at h;exact cN hw (cM m (hf rfl) (hxs rfl) (hc rfl) fun x u m e=>by subst e;exact h u m)
end
theorem Em(h:¬Z3 u):Hy u=Pu u∧Pu u<3:=by
 unfold Hy Pu;unfold Z3 at h;by_cases h1:u.x=0 <;> by_cases h2:u.y=0 <;> by_cases h3:u.z=0 <;> simp[h1,h2,h3] at h ⊢
theorem aoC(h:Z3 u):¬Pu u<3:=by
 obtain⟨h1,h2,h3⟩:=h;simp[Pu,h1,h2,h3]
theorem akD{b:Int}:bS a*bS b≤0↔a*b≤0:=by
 unfold bS;rcases pm a 0 with ha | ha | ha <;> rcases pm b 0 with hb | hb | hb
 · have:=Int.mul_pos_of_neg_of_neg ha hb
   simp[ha,hb];omega
 · simp[hb]
 · have:=Int.mul_neg_of_neg_of_pos ha hb
   have:¬b<0:=by omega
   simp[ha,hb,this];omega
 · simp[ha]
 · simp[ha]
 · simp[ha]
 · have:=Int.mul_neg_of_pos_of_neg ha hb
   have:¬a<0:=by omega
   simp[ha,hb,this];omega
 · simp[hb]
 · have:=Int.mul_pos ha hb
   have:¬a<0:=by omega
   have:¬b<0:=by omega
   simp[*]
def tL(p q r s:P3):T3:=if wO p q=Cg p q then ⟨wO r s,Cg r s,wO p q⟩ else ⟨wO p q,Cg p q,wO r s⟩
theorem Yi{p:P3}(hp:I3 p)(hq:I3 q):I3 (wO p q)∧I3 (Cg p q):=by
 unfold wO Cg;split
 · exact⟨hq,hp⟩
 · exact⟨hp,hq⟩
instance {p q r s:P3}[hp:I3 p][hq:I3 q][hr:I3 r][hs:I3 s]:IT (tL p q r s):=by
 unfold tL;split
 · exact⟨(Yi hr hs).1,(Yi hr hs).2,(Yi hp hq).1⟩
 · exact⟨(Yi hp hq).1,(Yi hp hq).2,(Yi hr hs).1⟩
theorem aqQ{p r:P3}(h:(wO p q).x=(Cg p q).x∧(wO p q).y=(Cg p q).y∧(wO p q).z=(Cg p q).z):tL p q r s=⟨wO r s,Cg r s,wO p q⟩:=if_pos (P3.eq h.1 h.2.1 h.2.2)
theorem aqR{p r:P3}(h:¬((wO p q).x=(Cg p q).x∧(wO p q).y=(Cg p q).y∧(wO p q).z=(Cg p q).z)):tL p q r s=⟨wO p q,Cg p q,wO r s⟩:=if_neg fun e=>h (by rw[e];exact⟨rfl,rfl,rfl⟩)
theorem aoD(u:P3):Pu u≤3:=by
 unfold Pu;split
 · omega
 · split
   · omega
   · split <;> omega
theorem asI{p r:P3}(h:Z3 (Hi p q r s)):(nT (tL p q r s) && !decide ((Cg p q).Lt (wO r s)) && !decide ((Cg r s).Lt (wO p q)))=lJ p q r s:=by
 unfold lJ;rw[if_neg (aoC h)];unfold arW
 congr 2
 unfold tL nT aiT;split
 · refine decide_eq_decide.2 ?_
   have:=aoD (tH (wO r s) (Cg r s) (wO p q));simp only;omega
 · refine decide_eq_decide.2 ?_
   have:=aoD (tH (wO p q) (Cg p q) (wO r s));simp only;omega
theorem anA{p r:P3}(h:¬Z3 (Hi p q r s)):(decide (bS (Ig p q r s)=0)&&decide (bS (cO (tH p q r) (Pu (Hi p q r s)))*bS (cO (tH p q s) (Pu (Hi p q r s)))≤0)&&decide (bS (cO (tH r s p) (Pu (Hi p q r s)))*bS (cO (tH r s q) (Pu (Hi p q r s)))≤0))=lJ p q r s:=by
 unfold lJ;rw[if_pos (Em h).2];simp only[akD,gY]
theorem Qm{p r:P3}[I3 p][I3 q][I3 r][I3 s]:fF prog 306 [pt p,pt q,pt r,pt s] (.bool (lJ p q r s)):=by
 intro w;refine⟨bP func306 (by kernel_rfl),?_⟩;have m:=Mem.refl w
 go_enter func306,ntmps306
 apply mR 13 [3,2,1] m;simp only[↓aC,aU];intro g1 g2 g3 g4 u m;apply aW 1 [0,0] m;simp only[↓aC,aU];refine kY m rfl rfl (rU (a:=p) (b:=q) (c:=r) (d:=s)) ?_;intro u m;simp only[zz];refine wA m rfl rfl (afC (u:=Hi p q r s)) 5 [0] ?_;simp only[↓aC,atu,eR,aa];intro g5 u m;by_cases hf:Z3 (Hi p q r s)
 ·
  rw[akC hf] at m;apply aW 10 [0,2,4,3,0] m;simp only[↓aC,eR,aU];refine⟨by omega,?_⟩;refine wA m rfl rfl (yQ (p:=p) (q:=q)) 10 [4,3,2,1,0] ?_;simp only[↓aC,aU,aa];intro u m;refine wA m rfl rfl (yQ (p:=r) (q:=s)) 12 [2,1,4,3,2] ?_;simp only[↓aC,aU,tJ,aa];intro u m;apply Wy 8 [0,5,4,0] m;simp only[↓aC,nC,gX,aU,aa];intro g6 u m;refine aB (bZ rfl rfl) ?_;apply aL 1 [0] m;simp only[↓aC];refine iO m 0 [] [62,63,64,65] (fun vs i=>vs=[]∧i=bI g6 [.int .i64 (tL p q r s).a.x,.int .i64 (tL p q r s).a.y,.int .i64 (tL p q r s).a.z,.int .i64 (tL p q r s).b.x,.int .i64 (tL p q r s).b.y,.int .i64 (tL p q r s).b.z,.int .i64 (tL p q r s).c.x,.int .i64 (tL p q r s).c.y,.int .i64 (tL p q r s).c.z] 39) ?_ ?_
  · intro K1 hK1
    refine bA rfl ?_ ?_<;>intro hc2
    ·
     apply zvc 6 [3,2,5,0] m;simp only[↓aC,aU,tJ,gX,aa];intro u m;apply aW 1 [0] m;simp only[↓aC];exact hK1 _ _ _ (by kernel_rfl) m ⟨rfl,by rw[aqQ hc2] <;> rfl⟩
    ·
     apply aK 1 [0] m;simp only[↓aC];exact hK1 _ _ _ (by kernel_rfl) m ⟨rfl,by rw[aqR hc2] <;> rfl⟩
  · intro vs i wr m hI u
    obtain⟨rfl,rfl⟩:=hI;simp only[zF,zG] at m;simp only[zu,zF,zG];apply aW 3 [0,0] m;simp only[↓aC,gX];refine wA m rfl rfl (aaN (t:=tL p q r s)) 1 [0] ?_;simp only[↓aC];intro u m;refine jM rfl (fun hb=>aZ rfl ((m.b 4 rfl).full aH aA)) (jM rfl (fun hb=>aZ rfl ((m.b 3 rfl).full aH aA)) (aeJ m rfl rfl (fun hb=>by simp only[fi,bp,dt,zA,zB,zC,zD,zE,hb,mC];rfl) (fun hb=>(uG (p:=Cg p q) (q:=wO r s)).pure) ?_));intro u m;refine kZ rfl (fun hb=>pL (bB hb rfl)) (aB (fC rfl rfl rfl) ?_);apply aL 1 [0] m;simp only[↓aC];refine jM rfl (fun hb=>aZ rfl ((m.b 2 rfl).full aH aA)) (jM rfl (fun hb=>aZ rfl ((m.b 5 rfl).full aH aA)) (aeJ m rfl rfl (fun hb=>by simp only[fi,bp,dt,zA,zB,zC,zD,zE,hb,mC];rfl) (fun hb=>(uG (p:=Cg r s) (q:=wO p q)).pure) ?_));intro u m;refine kZ rfl (fun hb=>pL (bB hb rfl)) (aB (fC rfl rfl rfl) ?_);apply aL 3 [] m;simp only[↓aC];refine aT rfl rfl ?_;try simp only[zD,zE]
    exact⟨_,rfl,m.ext,by rw[Hw,asI hf]⟩
 ·
  rw[akB hf,(Em hf).1] at m;apply aW 7 [0,1,0] m;simp only[↓aC,eR];refine⟨by omega,?_⟩;refine aB gQ ?_;simp only[zz,gm,bp,dt];apply aL 8 [4,3,2,1,0] m;simp only[↓aC,aU];refine wA m rfl rfl (vS (a:=p) (b:=q) (c:=r) (d:=s)) 2 [0,0] ?_;simp only[↓aC];intro u m;refine kZ rfl (fun hb=>aG) ?_;simp only[zz];refine jM rfl (fun hb=>aZ rfl ((m.b 4 rfl).full aH aA)) (jM rfl (fun hb=>aZ rfl ((m.b 3 rfl).full aH aA)) (jM rfl (fun hb=>aZ rfl ((m.b 2 rfl).full aH aA)) (jM rfl (fun hb=>aZ rfl ((m.b 1 rfl).full aH aA)) (afF m rfl (fun hb=>bB hb rfl) (fun hb=>by simp only[fi,bp,dt,zA,zB,zC,zD,zE,hb,mC];rfl) (fun hb=>acq (a:=p) (b:=q) (c:=r) (d:=s) (k:=Pu (Hi p q r s)) _ (m.b 0 rfl) (Em hf).2) ?_))));intro u m;refine aB (fC rfl rfl rfl) ?_;apply aL 1 [0] m;simp only[↓aC];refine kZ rfl (fun hb=>aG) ?_;simp only[zz];refine jM rfl (fun hb=>aZ rfl ((m.b 2 rfl).full aH aA)) (jM rfl (fun hb=>aZ rfl ((m.b 1 rfl).full aH aA)) (jM rfl (fun hb=>aZ rfl ((m.b 4 rfl).full aH aA)) (jM rfl (fun hb=>aZ rfl ((m.b 3 rfl).full aH aA)) (afF m rfl (fun hb=>bB hb rfl) (fun hb=>by simp only[fi,bp,dt,zA,zB,zC,zD,zE,hb,mC];rfl) (fun hb=>acq (a:=r) (b:=s) (c:=p) (d:=q) (k:=Pu (Hi p q r s)) _ (m.b 0 rfl) (Em hf).2) ?_))));intro u m;refine aB (fC rfl rfl rfl) ?_;apply aL 3 [] m;simp only[↓aC];refine aT rfl rfl ?_;try simp only[zD,zE]
  exact⟨_,rfl,m.ext,by rw[←anA hf];rfl⟩
end Go.Proofs.YtfekpcimgncioaaGreatDoor
namespace Go.Proofs.YtfekpcimgncioaaGreatDoor
open Go.Proofs.Tryz
open Go.RowKit Go.Lith
set_option maxRecDepth 100000
attribute [local irreducible] au cu fA bF cG Code.wp
variable{q:P3}{t:T3}{k:Nat}
instance {t:T3}{k:Nat}[h:IT t]:I3 (t.cor k):=by
 unfold T3.cor;split
 · exact h.a
 · split
   · exact h.b
   · exact h.c
def akE:List Nat→Int
 | []=>0
 | [_]=>1
 | [_,_]=>2
 | _=>3
def l3(f:Nat→Int):List Nat→List ai
 | []=>[.int .i64 0,.int .i64 0,.int .i64 0]
 | [a]=>[.int .i64 (f a),.int .i64 0,.int .i64 0]
 | [a,b]=>[.int .i64 (f a),.int .i64 (f b),.int .i64 0]
 | a::b::c::_=>[.int .i64 (f a),.int .i64 (f b),.int .i64 (f c)]
theorem aaT(u:P3):Hy u<3:=by
 unfold Hy
 repeat' split
 all_goals omega
def Uc(p q:P3)(t:T3):Prop:=Ig t.a t.b t.c p=0∧Ig t.a t.b t.c q=0
instance (p q:P3)(t:T3):Decidable (Uc p q t):=inferInstanceAs (Decidable (_∧_))
def En(p:P3)(t:T3)(k:Nat):P3:=tH (t.cor k) (t.cor ((k+1)%3)) p
def xM(p q:P3)(t:T3)(k:Nat):Int:=if Uc p q t then bS (cO (En p t k) (Hy t.normal)) else bS (Ig p q (t.cor k) (t.cor ((k+1)%3)))
theorem Kl{p:P3}(h:Uc p q t):xM p q t k=bS (cO (En p t k) (Hy t.normal)):=if_pos h
theorem Km{p:P3}(h:¬Uc p q t):xM p q t k=bS (Ig p q (t.cor k) (t.cor ((k+1)%3))):=if_neg h
theorem Bj{p:P3}(h:(decide (bS (Ig t.a t.b t.c p)≠0)||decide (bS (Ig t.a t.b t.c q)≠0))=false):Uc p q t:=by
 simp only[kg,decide_eq_false_iff_not,ne_eq,Decidable.not_not,gY] at h;exact h
theorem Nh{p:P3}(h:(decide (bS (Ig t.a t.b t.c p)≠0)||decide (bS (Ig t.a t.b t.c q)≠0))=true):¬Uc p q t:=by
 simp only[gY,gg,decide_eq_true_eq,ne_eq] at h;exact fun k=>h.elim (· k.1) (· k.2)
theorem acr{a b c:Int}:Oy (bS a) (bS b) (bS c)↔Oy a b c:=by
 simp only[Oy,abo,ahX]
theorem Ud{a b:Int}:0<bS a*bS b↔0<a*b:=by
 have:=akD (a:=a) (b:=b);omega
theorem anB{p:P3}(hf:t.flat):lJ p q (wO (wO t.a t.b) t.c) (Cg (Cg t.a t.b) t.c)=jR p q t:=by
 unfold jR;rw[show tH t.a t.b t.c=t.normal from rfl];rw[if_neg (aoC hf)]
theorem aqS{p:P3}(hf:¬t.flat)(h:0<bS (Ig t.a t.b t.c p)*bS (Ig t.a t.b t.c q)):false=jR p q t:=by
 unfold jR;rw[show tH t.a t.b t.c=t.normal from rfl];rw[if_pos (Em hf).2,if_pos (Ud.1 h)]
theorem asJ{p:P3}(hf:¬t.flat)(h:Uc p q t)(hk:k<3)(ho:lJ p q (t.cor k) (t.cor ((k+1)%3))=true):true=jR p q t:=by
 unfold jR;rw[show tH t.a t.b t.c=t.normal from rfl];rw[if_pos (Em hf).2,if_neg (by rw[h.1];simp),if_pos (show Ig t.a t.b t.c p=0∧Ig t.a t.b t.c q=0 from h)];have e:k=0∨k=1∨k=2:=by omega
 rcases e with rfl | rfl | rfl
 · rw[show lJ p q t.a t.b=true from ho];rfl
 · rw[show lJ p q t.b t.c=true from ho,px];rfl
 · rw[show lJ p q t.c t.a=true from ho,px];rfl
theorem aqT{p:P3}(hf:¬t.flat)(hg:¬0<bS (Ig t.a t.b t.c p)*bS (Ig t.a t.b t.c q))(h0:Uc p q t→∀k∈[0,1,2],lJ p q (t.cor k) (t.cor ((k+1)%3))=false):decide (Oy (xM p q t 0) (xM p q t 1) (xM p q t 2))=jR p q t:=by
 unfold jR;rw[show tH t.a t.b t.c=t.normal from rfl];rw[if_pos (Em hf).2,if_neg (fun h=>hg (Ud.2 h))];rw[jg,decide_eq_true_eq];by_cases h:Uc p q t
 · rw[if_pos (show Ig t.a t.b t.c p=0∧Ig t.a t.b t.c q=0 from h),show lJ p q t.a t.b=false from h0 h 0 (by decide),show lJ p q t.b t.c=false from h0 h 1 (by decide),show lJ p q t.c t.a=false from h0 h 2 (by decide),Kl h,Kl h,Kl h,acr]
   simp only[Bool.false_or,Bool.or_false,decide_eq_true_eq];rw[(Em hf).1];exact Iff.rfl
 · rw[if_neg (show ¬(Ig t.a t.b t.c p=0∧Ig t.a t.b t.c q=0) from h),Km h,Km h,Km h,acr]
   unfold arX;simp only[gg,ba,decide_eq_true_eq,and_assoc];exact Iff.rfl
theorem aaU{p:P3}[I3 p][I3 q][IT t]:fF prog 242 [pt p,pt q,tr t] (.bool (jR p q t)):=by
 intro w;refine⟨bP func242 (by kernel_rfl),?_⟩;have m:=Mem.refl w;refine (callsIn_wide (n:=4)).1 (callsIn_of_wp_marks func242 rfl trivial ?_ rfl);simp only[ntmps242,gu,ay,cd,aa,kn,im,io,jd,ix,bt,cg];refine wpIn_wide.2 ?_;refine aX fun K1 k1=>aq (Wg m rfl ?_);intro g1 u m;simp only[zz];refine Wg m rfl ?_;intro g2 u m;simp only[zz];refine Wg m rfl ?_;intro g3 u m;simp only[zz];refine mL m oW rfl ?_;intro g4 u m;refine aN (k1 _ _ ?_);try clear k1 K1
 refine aX fun K2 k2=>aq (aB (aJ cT aA rfl rfl (by decide) (by decide) rfl) ?_);simp only[zz];refine aR rfl ((m.b 1 rfl).lies aH aA rfl rfl) ?_;simp only[zz,zy,ar,aa,ah,ad];refine aB (aJ cT aA rfl rfl (by decide) (by decide) rfl) ?_;simp only[zz];refine aR rfl ((m.b 1 rfl).lies aH aA rfl rfl) ?_;simp only[zz,zy,ar,aa,ah,ad];refine aB (aJ cT aA rfl rfl (by decide) (by decide) rfl) ?_;simp only[zz];refine aR rfl ((m.b 1 rfl).lies aH aA rfl rfl) ?_;simp only[zz,zy,ar,aa,ah,ad];refine aB (aJ cT aA rfl rfl (by decide) (by decide) rfl) ?_;simp only[zz];refine aR rfl ((m.b 1 rfl).lies aH aA rfl rfl) ?_;simp only[zz,zy,ar,aa,ah,ad];refine kY m rfl rfl (rU (a:=t.a) (b:=t.b) (c:=t.a) (d:=t.c)) ?_;intro u m;simp only[zz];refine kY m rfl rfl (afC (u:=t.normal)) ?_;intro u m;simp only[zz];refine mL m lX rfl ?_;intro g5 u m;simp only[zz];refine cX m 0 rfl rfl rfl bD (kG rfl) ⟨rfl,rfl⟩ ?_;intro u m;simp only[zz,zy,zx,over,aa] at m;refine aN (k2 _ _ ?_);try clear k2 K2
 refine aX fun K3 k3=>aX fun K4 k4=>?_;by_cases hf:t.flat
 ·
  rw[akC hf] at m;refine aq (aR rfl ((m.b 0 rfl).lies1 cC rfl) ?_);simp only[zz];refine aB (qW rfl rfl (by omega)) (aN (k4 _ _ ?_));try clear k4 K4
  refine Cj rfl (aX fun K5 k5=>aq (aB (aJ cT aA rfl rfl (by decide) (by decide) rfl) ?_));simp only[zz];refine aR rfl ((m.b 2 rfl).lies aH aA rfl rfl) ?_;simp only[zz,zy,ar,aa,ah,ad];refine aB (aJ cT aA rfl rfl (by decide) (by decide) rfl) ?_;simp only[zz];refine aR rfl ((m.b 2 rfl).lies aH aA rfl rfl) ?_;simp only[zz,zy,ar,aa,ah,ad];refine kY m rfl rfl (yQ (p:=t.a) (q:=t.b)) ?_;intro u m;refine aB aG (aB (fB rfl rfl) (aB (fB rfl rfl) ?_));simp only[zz];refine mL m iQ rfl ?_;intro g6 u m;simp only[zz];refine mL m iQ rfl ?_;intro g7 u m;simp only[zz];refine cU m 1 rfl rfl rfl aA (kG rfl) rfl ?_;intro u m;simp only[zy,zx,over,zF,zG,aa] at m;refine cU m 0 rfl rfl rfl aA (kG rfl) rfl ?_;intro u m;simp only[zy,zx,over,zF,zG,aa] at m;refine aN (k5 _ _ ?_);try clear k5 K5
  refine aX fun K6 k6=>aq (aR rfl ((m.b 1 rfl).full aH aA) ?_);simp only[zz];refine aB (aJ cT aA rfl rfl (by decide) (by decide) rfl) ?_;simp only[zz];refine aR rfl ((m.b 4 rfl).lies aH aA rfl rfl) ?_;simp only[zz,zy,ar,aa,ah,ad];refine kY m rfl rfl (yQ (p:=wO t.a t.b) (q:=t.c)) ?_;intro u m;refine aB aG (aB (fB rfl rfl) (aB (fB rfl rfl) ?_));simp only[zz];refine mL m iQ rfl ?_;intro g8 u m;simp only[zz];refine mL m iQ rfl ?_;intro g9 u m;simp only[zz];refine cU m 1 rfl rfl rfl aA (kG rfl) rfl ?_;intro u m;simp only[zy,zx,over,zF,zG,aa] at m;refine cU m 0 rfl rfl rfl aA (kG rfl) rfl ?_;intro u m;simp only[zy,zx,over,zF,zG,aa] at m;refine aN (k6 _ _ ?_);try clear k6 K6
  refine aX fun K7 k7=>aq (aR rfl ((m.b 2 rfl).full aH aA) ?_);simp only[zz];refine aB (aJ cT aA rfl rfl (by decide) (by decide) rfl) ?_;simp only[zz];refine aR rfl ((m.b 6 rfl).lies aH aA rfl rfl) ?_;simp only[zz,zy,ar,aa,ah,ad];refine kY m rfl rfl (yQ (p:=Cg t.a t.b) (q:=t.c)) ?_;intro u m;refine aB aG (aB (fB rfl rfl) (aB (fB rfl rfl) ?_));simp only[zz];refine mL m iQ rfl ?_;intro g10 u m;simp only[zz];refine mL m iQ rfl ?_;intro g11 u m;simp only[zz];refine cU m 1 rfl rfl rfl aA (kG rfl) rfl ?_;intro u m;simp only[zy,zx,over,zF,zG,aa] at m;refine cU m 0 rfl rfl rfl aA (kG rfl) rfl ?_;intro u m;simp only[zy,zx,over,zF,zG,aa] at m;refine aN (k7 _ _ ?_);try clear k7 K7
  refine aX fun K8 k8=>aq (aR rfl ((m.b 10 rfl).full aH aA) ?_);simp only[zz];refine aR rfl ((m.b 9 rfl).full aH aA) ?_;simp only[zz];refine aR rfl ((m.b 3 rfl).full aH aA) ?_;simp only[zz];refine aR rfl ((m.b 0 rfl).full aH aA) ?_;simp only[zz];refine kY m rfl rfl (Qm (p:=p) (q:=q) (r:=wO (wO t.a t.b) t.c) (s:=Cg (Cg t.a t.b) t.c)) ?_;intro u m;simp only[zz];refine cX m 7 rfl rfl rfl dT (kG rfl) ⟨rfl,rfl⟩ ?_;intro u m;simp only[zz,zy,zx,over,aa] at m;refine aN (k8 _ _ ?_);try clear k8 K8
  refine je ?_;try simp only[di,Exit.then,if_true]
  refine aoB ?_;refine aT rfl ⟨_,rfl,((m.b 7 rfl).lies1 oH rfl)⟩ ?_;try simp only[zD,zE]
  exact⟨_,rfl,m.ext,by rw[anB hf]⟩
 ·
  rw[akB hf] at m;refine aq (aR rfl ((m.b 0 rfl).lies1 cC rfl) ?_);simp only[zz];refine aB (Gy rfl rfl (by omega)) (aN (k4 _ _ ?_));try clear k4 K4
  refine afR rfl (wp_skip (k3 _ _ ?_));try clear k3 K3
  refine aX fun K9 k9=>?_;simp only[zz];refine sO 18 [0,1,2,3,4,5,6,7,8,9,10,11,12,13,14,15] [⟨16,14,3,[.int .i64 0]⟩,⟨17,15,3,[.int .i64 0]⟩] aD (by kernel_rfl) (al2 ⟨_,_,_,rfl,by kernel_rfl,_,lX,rfl⟩ ⟨_,_,_,rfl,by kernel_rfl,_,lX,rfl⟩) (ol:=?_) ?hol ?_
  case hol=>simp only[zw,zQ,zR];try rfl
  intro u e_;replace m:=m.ext' e_;refine lS (aJ cT aA rfl rfl (by decide) (by decide) rfl) ?_;simp only[zz];refine pT rfl (fun u e=>(((m.ext' e).b 2 rfl).lies aH aA rfl rfl)) ?_;simp only[zz,zy,ar,aa,ah,ad];refine lS (aJ cT aA rfl rfl (by decide) (by decide) rfl) ?_;simp only[zz];refine pT rfl (fun u e=>(((m.ext' e).b 2 rfl).lies aH aA rfl rfl)) ?_;simp only[zz,zy,ar,aa,ah,ad];refine lS (aJ cT aA rfl rfl (by decide) (by decide) rfl) ?_;simp only[zz];refine pT rfl (fun u e=>(((m.ext' e).b 2 rfl).lies aH aA rfl rfl)) ?_;simp only[zz,zy,ar,aa,ah,ad];refine pT rfl (fun u e=>(((m.ext' e).b 4 rfl).full aH aA)) ?_;simp only[zz];refine Ex rfl rfl (vS (a:=t.a) (b:=t.b) (c:=t.c) (d:=p)) (lS (aJ cT aA rfl rfl (by decide) (by decide) rfl) ?_);simp only[zz];refine pT rfl (fun u e=>(((m.ext' e).b 2 rfl).lies aH aA rfl rfl)) ?_;simp only[zz,zy,ar,aa,ah,ad];refine lS (aJ cT aA rfl rfl (by decide) (by decide) rfl) ?_;simp only[zz];refine pT rfl (fun u e=>(((m.ext' e).b 2 rfl).lies aH aA rfl rfl)) ?_;simp only[zz,zy,ar,aa,ah,ad];refine lS (aJ cT aA rfl rfl (by decide) (by decide) rfl) ?_;simp only[zz];refine pT rfl (fun u e=>(((m.ext' e).b 2 rfl).lies aH aA rfl rfl)) ?_;simp only[zz,zy,ar,aa,ah,ad];refine pT rfl (fun u e=>(((m.ext' e).b 3 rfl).full aH aA)) ?_;simp only[zz];refine Ex rfl rfl (vS (a:=t.a) (b:=t.b) (c:=t.c) (d:=q)) (ahU ?_);simp only[zz];refine mf2 m (by decide) ?_;intro g6 g7 u m;simp only[zJ,zK,zF,zG];refine cX m 1 rfl rfl rfl bD (kG rfl) ⟨rfl,rfl⟩ ?_;intro u m;simp only[zz,zy,zx,over,aa] at m;refine cX m 0 rfl rfl rfl bD (kG rfl) ⟨rfl,rfl⟩ ?_;intro u m;simp only[zz,zy,zx,over,aa] at m;refine aN (k9 _ _ ?_);try clear k9 K9
  refine aX fun K10 k10=>aX fun K11 k11=>aq (aR rfl ((m.b 1 rfl).lies1 cC rfl) ?_);simp only[zz];refine aR rfl ((m.b 0 rfl).lies1 cC rfl) ?_;simp only[zz];refine aB (tC rfl rfl (Yh _ _)) (aB (aa7 rfl rfl) (aN (k11 _ _ ?_)));try clear k11 K11
  simp only[zz];refine bA rfl ?_ ?_<;>intro hc2
  ·
   refine aX fun K12 k12=>aq (cX m 3 rfl rfl rfl dT (kG rfl) ⟨rfl,rfl⟩ ?_);intro u m;simp only[zz,zy,zx,over,aa] at m;refine aN (k12 _ _ ?_);try clear k12 K12
   refine je ?_;try simp only[di,Exit.then,if_true]
   refine aoB ?_;refine aT rfl ⟨_,rfl,((m.b 3 rfl).lies1 oH rfl)⟩ ?_;try simp only[zD,zE]
   exact⟨_,rfl,m.ext,by rw[←aqS hf hc2]⟩
  ·
   refine wp_skip (k10 _ _ ?_);try clear k10 K10
   refine aX fun K13 k13=>aq (mL m alU rfl ?_);intro g8 u m;refine aN (k13 _ _ ?_);try clear k13 K13
   refine aX fun K14 k14=>aq ?_;simp only[zz];refine mL m lX rfl ?_;intro g9 u m;simp only[zz];refine cX m 0 rfl rfl rfl bD (kG rfl) ⟨rfl,rfl⟩ ?_;intro u m;simp only[zz,zy,zx,over,aa] at m;refine aN (k14 _ _ ?_);try clear k14 K14
   refine aX fun K15 k15=>aX fun K16 k16=>aq (aR rfl ((m.b 6 rfl).full cK aO) ?_);simp only[zz];refine bC rfl rfl (afD (t:=t) _) ?_;rintro v u e_ ⟨g10,rfl,h_,k_⟩;replace m:=m.newB e_ h_ k_;refine aN (k16 _ _ ?_);try clear k16 K16
   refine jm ?_;simp only[zz];refine ack (v1:=fun x=>pt (t.cor x)) (v2:=fun x=>pt (t.cor ((x+1)%3))) (c1:=fun x=>[.int .i64 (t.cor x).x,.int .i64 (t.cor x).y,.int .i64 (t.cor x).z]) (c2:=fun x=>[.int .i64 (t.cor ((x+1)%3)).x,.int .i64 (t.cor ((x+1)%3)).y,.int .i64 (t.cor ((x+1)%3)).z]) (T1:=30) (T2:=30) (d1:=18) (d2:=19) (csB:=aM t) (tB:=39) rfl aig (Oz 3 (by omega) g10 0 t _ (m.b 0 rfl)) (fun pre=>[bI g10 (aM t) 39,bI g9 [.int .i64 (akE pre)] 3,bI g8 (l3 (xM p q t) pre) 36,bI g7 [.int .i64 (bS (Ig t.a t.b t.c q))] 3,bI g6 [.int .i64 (bS (Ig t.a t.b t.c p))] 3,bI g5 [.int .i64 (Hy t.normal:Int)] 3,bI g4 [.bool false] 4,bI g3 [.int .i64 t.a.x,.int .i64 t.a.y,.int .i64 t.a.z,.int .i64 t.b.x,.int .i64 t.b.y,.int .i64 t.b.z,.int .i64 t.c.x,.int .i64 t.c.y,.int .i64 t.c.z] 39,bI g2 [.int .i64 (q).x,.int .i64 (q).y,.int .i64 (q).z] 30,bI g1 [.int .i64 (p).x,.int .i64 (p).y,.int .i64 (p).z] 30]) (fun _=>[bI g4 [.bool true] 4]) (fun pre=>Uc p q t→∀k∈pre,lJ p q (t.cor k) (t.cor ((k+1)%3))=false) (fun pre=>Uc p q t∧∃k∈pre,lJ p q (t.cor k) (t.cor ((k+1)%3))=true) (fun _ i hi=>by simp only[an,cl,or_false] at hi;rcases hi with rfl | rfl | rfl | rfl | rfl | rfl | rfl | rfl | rfl | rfl <;> exact⟨_,_,_,rfl⟩) (fun _ i hi=>by simp only[an,cl,or_false] at hi;subst hi ;exact⟨_,_,_,rfl⟩) (fun _=>rfl) (fun _=>bj (i:=0) rfl) m (fun _ k hk=>by cases hk) ?_ ?_ ?_ ?_
   ·
    intro r pre x W K m hK;simp only[zF,zG];refine nZ fun K17 k17=>cB (Kj m iQ rfl ?_);intro g11 u m;simp only[zz];refine Ej m 0 rfl rfl rfl aA (kG rfl) rfl ?_;intro u m;simp only[zy,zx,over,zF,zG,aa] at m;refine aN (k17 _ _ ?_);try clear k17 K17
    refine cB (Kj m iQ rfl ?_);intro g12 u m;simp only[zz];refine Ej m 0 rfl rfl rfl aA (kG rfl) rfl ?_;intro u m;simp only[zy,zx,over,zF,zG,aa] at m;exact aN (hK _ _ _ m)
   ·
    intro r pre x g11 g12 W Q' _ hJ hN m hn hr;rcases pre with _ | ⟨a,_ | ⟨b,_ | ⟨c,l⟩⟩⟩
    ·
     simp only[akE,l3] at m;simp only[zF,zG];refine pI (nZ fun K18 k18=>pI (nZ fun K19 k19=>cB (aR rfl ((m.b 6 rfl).lies1 cC rfl) ?_)));simp only[zz];refine aB (tD rfl rfl) (aB aG ?_);simp only[zz];refine eY rfl (fun hb=>aZ rfl ((m.b 5 rfl).lies1 cC rfl)) (dG rfl (fun hb=>tD (bB hb rfl) rfl) (aB (eD rfl rfl rfl) (aB aP (aN (k19 _ _ ?_)))));try clear k19 K19
     simp only[zz];refine Bh rfl ?_ ?_<;>intro hc3
     ·
      refine yO m 7 aD (by kernel_rfl) ?_;simp only[zy];refine Ga rfl (fun u m=>((m.b 3 rfl).lies1 cC rfl)) ?_;simp only[zz];refine Ga rfl (fun u m=>((m.b 11 rfl).full aH aA)) ?_;simp only[zz];refine Ga rfl (fun u m=>((m.b 10 rfl).full aH aA)) ?_;simp only[zz];refine Ga rfl (fun u m=>((m.b 1 rfl).full aH aA)) ?_;simp only[zz];refine Ga rfl (fun u m=>((m.b 0 rfl).full aH aA)) ?_;simp only[zz];refine ahc rfl rfl (vS (a:=p) (b:=q) (c:=t.cor x) (d:=t.cor ((x+1)%3))) (aI (aJ sA bD rfl rfl (by decide) (by decide) rfl) (bE ?_));intro u m;simp only[zz];refine iV m 4 rfl rfl rfl bD (kG rfl) ⟨rfl,rfl⟩ ?_;intro u m;simp only[zz,zy,zx,over,aa] at m;refine aN (k18 _ _ ?_);try clear k18 K18
      refine cB (aR rfl ((m.b 3 rfl).lies1 cC rfl) ?_);simp only[zz];refine aB (eS (m:=0) (n:=1) (r:=1) rfl rfl (by decide)) ?_;simp only[zz];refine iV m 3 rfl rfl rfl bD (kG rfl) ⟨rfl,rfl⟩ ?_;intro u m;simp only[zz,zy,zx,over,aa] at m;refine aN ?_
      first
      | (have hI:=Nh hc3;rw[show bS (((q.sub p).cross ((t.cor x).sub p)).dot ((t.cor ((x+1)%3)).sub p))=xM p q t x from (Km hI).symm] at m;exact hn _ _ ⟨m.toMem.sel [false,false,true,true,true,true,true,true,true,true,true,true],m.rx⟩ (fun k=>absurd k hI))
      | (have hI := Bj hc3;rw[show bS (cO (En p t x) (Hy t.normal))=xM p q t x from (Kl hI).symm] at m;exact hn _ _ ⟨m.toMem.sel [false, false, true, true, true, true, true, true, true, true, true, true], m.rx⟩ (fun hi k hk => by
       rcases br.1 hk with hk | hk
       · exact hJ hi k hk
       · rw[az.1 hk];exact hc4))
     ·
      refine nZ fun K20 k20=>cB (aR rfl ((m.b 11 rfl).full aH aA) ?_);simp only[zz];refine aR rfl ((m.b 10 rfl).full aH aA) ?_;simp only[zz];refine aR rfl ((m.b 1 rfl).full aH aA) ?_;simp only[zz];refine aR rfl ((m.b 0 rfl).full aH aA) ?_;simp only[zz];refine Qj m rfl rfl (Qm (p:=p) (q:=q) (r:=t.cor x) (s:=t.cor ((x+1)%3))) ?_;intro u m;refine aB aP (aN (k20 _ _ ?_));try clear k20 K20
      simp only[zz];refine Bh rfl ?_ ?_<;>intro hc4
      ·
       refine nZ fun K21 k21=>cB (iV m 8 rfl rfl rfl dT (kG rfl) ⟨rfl,rfl⟩ ?_);intro u m;simp only[zz,zy,zx,over,aa] at m;refine aN (k21 _ _ ?_);try clear k21 K21
       refine Qi ?_;exact hr _ _ ⟨m.toMem.sel [false,false,false,false,false,false,false,false,true],m.rx⟩ ⟨Bj hc3,x,by simp,hc4⟩
      ·
       refine yO m 9 aD (by kernel_rfl) ?_;simp only[zy];refine Ga rfl (fun u m=>((m.b 3 rfl).lies1 cC rfl)) ?_;simp only[zz];refine Ga rfl (fun u m=>((m.b 1 rfl).full aH aA)) ?_;simp only[zz];refine Ga rfl (fun u m=>((m.b 0 rfl).full aH aA)) ?_;simp only[zz];refine Ga rfl (fun u m=>((m.b 1 rfl).full aH aA)) ?_;simp only[zz];refine Ga rfl (fun u m=>((m.b 11 rfl).full aH aA)) ?_;simp only[zz];refine ahc rfl rfl (rU (a:=t.cor x) (b:=t.cor ((x+1)%3)) (c:=t.cor x) (d:=p)) ?_;simp only[zz];refine Ga rfl (fun u m=>((m.b 7 rfl).lies1 cC rfl)) ?_;simp only[zz];refine aI ((El (v:=En p t x) (aaT _) rfl rfl)) (aI (aJ sA bD rfl rfl (by decide) (by decide) rfl) (bE ?_));intro u m;simp only[zz];refine iV m 4 rfl rfl rfl bD (kG rfl) ⟨rfl,rfl⟩ ?_;intro u m;simp only[zz,zy,zx,over,aa] at m;refine aN (k18 _ _ ?_);try clear k18 K18
       refine cB (aR rfl ((m.b 3 rfl).lies1 cC rfl) ?_);simp only[zz];refine aB (eS (m:=0) (n:=1) (r:=1) rfl rfl (by decide)) ?_;simp only[zz];refine iV m 3 rfl rfl rfl bD (kG rfl) ⟨rfl,rfl⟩ ?_;intro u m;simp only[zz,zy,zx,over,aa] at m;refine aN ?_
       first
       | (have hI:=Nh hc3;rw[show bS (((q.sub p).cross ((t.cor x).sub p)).dot ((t.cor ((x+1)%3)).sub p))=xM p q t x from (Km hI).symm] at m;exact hn _ _ ⟨m.toMem.sel [false,false,true,true,true,true,true,true,true,true,true,true],m.rx⟩ (fun k=>absurd k hI))
       | (have hI := Bj hc3;rw[show bS (cO (En p t x) (Hy t.normal))=xM p q t x from (Kl hI).symm] at m;exact hn _ _ ⟨m.toMem.sel [false, false, true, true, true, true, true, true, true, true, true, true], m.rx⟩ (fun hi k hk => by
        rcases br.1 hk with hk | hk
        · exact hJ hi k hk
        · rw[az.1 hk];exact hc4))
    ·
     simp only[akE,l3] at m;simp only[zF,zG];refine pI (nZ fun K22 k22=>pI (nZ fun K23 k23=>cB (aR rfl ((m.b 6 rfl).lies1 cC rfl) ?_)));simp only[zz];refine aB (tD rfl rfl) (aB aG ?_);simp only[zz];refine eY rfl (fun hb=>aZ rfl ((m.b 5 rfl).lies1 cC rfl)) (dG rfl (fun hb=>tD (bB hb rfl) rfl) (aB (eD rfl rfl rfl) (aB aP (aN (k23 _ _ ?_)))));try clear k23 K23
     simp only[zz];refine Bh rfl ?_ ?_<;>intro hc3
     ·
      refine yO m 7 aD (by kernel_rfl) ?_;simp only[zy];refine Ga rfl (fun u m=>((m.b 3 rfl).lies1 cC rfl)) ?_;simp only[zz];refine Ga rfl (fun u m=>((m.b 11 rfl).full aH aA)) ?_;simp only[zz];refine Ga rfl (fun u m=>((m.b 10 rfl).full aH aA)) ?_;simp only[zz];refine Ga rfl (fun u m=>((m.b 1 rfl).full aH aA)) ?_;simp only[zz];refine Ga rfl (fun u m=>((m.b 0 rfl).full aH aA)) ?_;simp only[zz];refine ahc rfl rfl (vS (a:=p) (b:=q) (c:=t.cor x) (d:=t.cor ((x+1)%3))) (aI (aJ sA bD rfl rfl (by decide) (by decide) rfl) (bE ?_));intro u m;simp only[zz];refine iV m 4 rfl rfl rfl bD (kG rfl) ⟨rfl,rfl⟩ ?_;intro u m;simp only[zz,zy,zx,over,aa] at m;refine aN (k22 _ _ ?_);try clear k22 K22
      refine cB (aR rfl ((m.b 3 rfl).lies1 cC rfl) ?_);simp only[zz];refine aB (eS (m:=1) (n:=1) (r:=2) rfl rfl (by decide)) ?_;simp only[zz];refine iV m 3 rfl rfl rfl bD (kG rfl) ⟨rfl,rfl⟩ ?_;intro u m;simp only[zz,zy,zx,over,aa] at m;refine aN ?_
      first
      | (have hI:=Nh hc3;rw[show bS (((q.sub p).cross ((t.cor x).sub p)).dot ((t.cor ((x+1)%3)).sub p))=xM p q t x from (Km hI).symm] at m;exact hn _ _ ⟨m.toMem.sel [false,false,true,true,true,true,true,true,true,true,true,true],m.rx⟩ (fun k=>absurd k hI))
      | (have hI := Bj hc3;rw[show bS (cO (En p t x) (Hy t.normal))=xM p q t x from (Kl hI).symm] at m;exact hn _ _ ⟨m.toMem.sel [false, false, true, true, true, true, true, true, true, true, true, true], m.rx⟩ (fun hi k hk => by
       rcases br.1 hk with hk | hk
       · exact hJ hi k hk
       · rw[az.1 hk];exact hc4))
     ·
      refine nZ fun K24 k24=>cB (aR rfl ((m.b 11 rfl).full aH aA) ?_);simp only[zz];refine aR rfl ((m.b 10 rfl).full aH aA) ?_;simp only[zz];refine aR rfl ((m.b 1 rfl).full aH aA) ?_;simp only[zz];refine aR rfl ((m.b 0 rfl).full aH aA) ?_;simp only[zz];refine Qj m rfl rfl (Qm (p:=p) (q:=q) (r:=t.cor x) (s:=t.cor ((x+1)%3))) ?_;intro u m;refine aB aP (aN (k24 _ _ ?_));try clear k24 K24
      simp only[zz];refine Bh rfl ?_ ?_<;>intro hc4
      ·
       refine nZ fun K25 k25=>cB (iV m 8 rfl rfl rfl dT (kG rfl) ⟨rfl,rfl⟩ ?_);intro u m;simp only[zz,zy,zx,over,aa] at m;refine aN (k25 _ _ ?_);try clear k25 K25
       refine Qi ?_;exact hr _ _ ⟨m.toMem.sel [false,false,false,false,false,false,false,false,true],m.rx⟩ ⟨Bj hc3,x,by simp,hc4⟩
      ·
       refine yO m 9 aD (by kernel_rfl) ?_;simp only[zy];refine Ga rfl (fun u m=>((m.b 3 rfl).lies1 cC rfl)) ?_;simp only[zz];refine Ga rfl (fun u m=>((m.b 1 rfl).full aH aA)) ?_;simp only[zz];refine Ga rfl (fun u m=>((m.b 0 rfl).full aH aA)) ?_;simp only[zz];refine Ga rfl (fun u m=>((m.b 1 rfl).full aH aA)) ?_;simp only[zz];refine Ga rfl (fun u m=>((m.b 11 rfl).full aH aA)) ?_;simp only[zz];refine ahc rfl rfl (rU (a:=t.cor x) (b:=t.cor ((x+1)%3)) (c:=t.cor x) (d:=p)) ?_;simp only[zz];refine Ga rfl (fun u m=>((m.b 7 rfl).lies1 cC rfl)) ?_;simp only[zz];refine aI ((El (v:=En p t x) (aaT _) rfl rfl)) (aI (aJ sA bD rfl rfl (by decide) (by decide) rfl) (bE ?_));intro u m;simp only[zz];refine iV m 4 rfl rfl rfl bD (kG rfl) ⟨rfl,rfl⟩ ?_;intro u m;simp only[zz,zy,zx,over,aa] at m;refine aN (k22 _ _ ?_);try clear k22 K22
       refine cB (aR rfl ((m.b 3 rfl).lies1 cC rfl) ?_);simp only[zz];refine aB (eS (m:=1) (n:=1) (r:=2) rfl rfl (by decide)) ?_;simp only[zz];refine iV m 3 rfl rfl rfl bD (kG rfl) ⟨rfl,rfl⟩ ?_;intro u m;simp only[zz,zy,zx,over,aa] at m;refine aN ?_
       first
       | (have hI:=Nh hc3;rw[show bS (((q.sub p).cross ((t.cor x).sub p)).dot ((t.cor ((x+1)%3)).sub p))=xM p q t x from (Km hI).symm] at m;exact hn _ _ ⟨m.toMem.sel [false,false,true,true,true,true,true,true,true,true,true,true],m.rx⟩ (fun k=>absurd k hI))
       | (have hI := Bj hc3;rw[show bS (cO (En p t x) (Hy t.normal))=xM p q t x from (Kl hI).symm] at m;exact hn _ _ ⟨m.toMem.sel [false, false, true, true, true, true, true, true, true, true, true, true], m.rx⟩ (fun hi k hk => by
        rcases br.1 hk with hk | hk
        · exact hJ hi k hk
        · rw[az.1 hk];exact hc4))
    ·
     simp only[akE,l3] at m;simp only[zF,zG];refine pI (nZ fun K26 k26=>pI (nZ fun K27 k27=>cB (aR rfl ((m.b 6 rfl).lies1 cC rfl) ?_)));simp only[zz];refine aB (tD rfl rfl) (aB aG ?_);simp only[zz];refine eY rfl (fun hb=>aZ rfl ((m.b 5 rfl).lies1 cC rfl)) (dG rfl (fun hb=>tD (bB hb rfl) rfl) (aB (eD rfl rfl rfl) (aB aP (aN (k27 _ _ ?_)))));try clear k27 K27
     simp only[zz];refine Bh rfl ?_ ?_<;>intro hc3
     ·
      refine yO m 7 aD (by kernel_rfl) ?_;simp only[zy];refine Ga rfl (fun u m=>((m.b 3 rfl).lies1 cC rfl)) ?_;simp only[zz];refine Ga rfl (fun u m=>((m.b 11 rfl).full aH aA)) ?_;simp only[zz];refine Ga rfl (fun u m=>((m.b 10 rfl).full aH aA)) ?_;simp only[zz];refine Ga rfl (fun u m=>((m.b 1 rfl).full aH aA)) ?_;simp only[zz];refine Ga rfl (fun u m=>((m.b 0 rfl).full aH aA)) ?_;simp only[zz];refine ahc rfl rfl (vS (a:=p) (b:=q) (c:=t.cor x) (d:=t.cor ((x+1)%3))) (aI (aJ sA bD rfl rfl (by decide) (by decide) rfl) (bE ?_));intro u m;simp only[zz];refine iV m 4 rfl rfl rfl bD (kG rfl) ⟨rfl,rfl⟩ ?_;intro u m;simp only[zz,zy,zx,over,aa] at m;refine aN (k26 _ _ ?_);try clear k26 K26
      refine cB (aR rfl ((m.b 3 rfl).lies1 cC rfl) ?_);simp only[zz];refine aB (eS (m:=2) (n:=1) (r:=3) rfl rfl (by decide)) ?_;simp only[zz];refine iV m 3 rfl rfl rfl bD (kG rfl) ⟨rfl,rfl⟩ ?_;intro u m;simp only[zz,zy,zx,over,aa] at m;refine aN ?_
      first
      | (have hI:=Nh hc3;rw[show bS (((q.sub p).cross ((t.cor x).sub p)).dot ((t.cor ((x+1)%3)).sub p))=xM p q t x from (Km hI).symm] at m;exact hn _ _ ⟨m.toMem.sel [false,false,true,true,true,true,true,true,true,true,true,true],m.rx⟩ (fun k=>absurd k hI))
      | (have hI := Bj hc3;rw[show bS (cO (En p t x) (Hy t.normal))=xM p q t x from (Kl hI).symm] at m;exact hn _ _ ⟨m.toMem.sel [false, false, true, true, true, true, true, true, true, true, true, true], m.rx⟩ (fun hi k hk => by
       rcases br.1 hk with hk | hk
       · exact hJ hi k hk
       · rw[az.1 hk];exact hc4))
     ·
      refine nZ fun K28 k28=>cB (aR rfl ((m.b 11 rfl).full aH aA) ?_);simp only[zz];refine aR rfl ((m.b 10 rfl).full aH aA) ?_;simp only[zz];refine aR rfl ((m.b 1 rfl).full aH aA) ?_;simp only[zz];refine aR rfl ((m.b 0 rfl).full aH aA) ?_;simp only[zz];refine Qj m rfl rfl (Qm (p:=p) (q:=q) (r:=t.cor x) (s:=t.cor ((x+1)%3))) ?_;intro u m;refine aB aP (aN (k28 _ _ ?_));try clear k28 K28
      simp only[zz];refine Bh rfl ?_ ?_<;>intro hc4
      ·
       refine nZ fun K29 k29=>cB (iV m 8 rfl rfl rfl dT (kG rfl) ⟨rfl,rfl⟩ ?_);intro u m;simp only[zz,zy,zx,over,aa] at m;refine aN (k29 _ _ ?_);try clear k29 K29
       refine Qi ?_;exact hr _ _ ⟨m.toMem.sel [false,false,false,false,false,false,false,false,true],m.rx⟩ ⟨Bj hc3,x,by simp,hc4⟩
      ·
       refine yO m 9 aD (by kernel_rfl) ?_;simp only[zy];refine Ga rfl (fun u m=>((m.b 3 rfl).lies1 cC rfl)) ?_;simp only[zz];refine Ga rfl (fun u m=>((m.b 1 rfl).full aH aA)) ?_;simp only[zz];refine Ga rfl (fun u m=>((m.b 0 rfl).full aH aA)) ?_;simp only[zz];refine Ga rfl (fun u m=>((m.b 1 rfl).full aH aA)) ?_;simp only[zz];refine Ga rfl (fun u m=>((m.b 11 rfl).full aH aA)) ?_;simp only[zz];refine ahc rfl rfl (rU (a:=t.cor x) (b:=t.cor ((x+1)%3)) (c:=t.cor x) (d:=p)) ?_;simp only[zz];refine Ga rfl (fun u m=>((m.b 7 rfl).lies1 cC rfl)) ?_;simp only[zz];refine aI ((El (v:=En p t x) (aaT _) rfl rfl)) (aI (aJ sA bD rfl rfl (by decide) (by decide) rfl) (bE ?_));intro u m;simp only[zz];refine iV m 4 rfl rfl rfl bD (kG rfl) ⟨rfl,rfl⟩ ?_;intro u m;simp only[zz,zy,zx,over,aa] at m;refine aN (k26 _ _ ?_);try clear k26 K26
       refine cB (aR rfl ((m.b 3 rfl).lies1 cC rfl) ?_);simp only[zz];refine aB (eS (m:=2) (n:=1) (r:=3) rfl rfl (by decide)) ?_;simp only[zz];refine iV m 3 rfl rfl rfl bD (kG rfl) ⟨rfl,rfl⟩ ?_;intro u m;simp only[zz,zy,zx,over,aa] at m;refine aN ?_
       first
       | (have hI:=Nh hc3;rw[show bS (((q.sub p).cross ((t.cor x).sub p)).dot ((t.cor ((x+1)%3)).sub p))=xM p q t x from (Km hI).symm] at m;exact hn _ _ ⟨m.toMem.sel [false,false,true,true,true,true,true,true,true,true,true,true],m.rx⟩ (fun k=>absurd k hI))
       | (have hI := Bj hc3;rw[show bS (cO (En p t x) (Hy t.normal))=xM p q t x from (Kl hI).symm] at m;exact hn _ _ ⟨m.toMem.sel [false, false, true, true, true, true, true, true, true, true, true, true], m.rx⟩ (fun hi k hk => by
        rcases br.1 hk with hk | hk
        · exact hJ hi k hk
        · rw[az.1 hk];exact hc4))
    · exact absurd hN (by simp)
   rotate_left
   · rintro D pre u hS ⟨hI,k,hk,ho⟩ m
     try simp only[di,Exit.then]
     refine acZ (Def.mk (m.get 0 rfl)) ?_;replace m:=m.putD (o':=.deferred none) 0 rfl;exact aT rfl ⟨_,rfl,(m.b 1 rfl).lies1 oH rfl⟩ ⟨_,rfl,m.ext,by rw[←asJ hf hI (hS k hk) ho]⟩
   rintro D xs u rfl hj m;simp only[akE,l3] at m;refine k15 _ _ ?_;try clear k15 K15
   refine aX fun K30 k30=>aq (aR rfl ((m.b 3 rfl).full Zp Iy) ?_);simp only[zz];refine kY m rfl rfl (anz (a:=xM p q t 0) (b:=xM p q t 1) (c:=xM p q t 2)) ?_;intro u m;simp only[zz];refine cX m 7 rfl rfl rfl dT (kG rfl) ⟨rfl,rfl⟩ ?_;intro u m;simp only[zz,zy,zx,over,aa] at m;refine aN (k30 _ _ ?_);try clear k30 K30
   refine je ?_;try simp only[di,Exit.then,if_true]
   refine acZ (Def.mk (m.get 0 rfl)) ?_;replace m:=m.putD (o':=.deferred none) 0 rfl;simp only[zF,zG] at m;refine aT rfl ⟨_,rfl,((m.b 7 rfl).lies1 oH rfl)⟩ ?_;try simp only[zD,zE]
   exact⟨_,rfl,m.ext,by rw[aqT hf hc2 hj]⟩
end Go.Proofs.YtfekpcimgncioaaGreatDoor
namespace Go.Proofs.YtfekpcimgncioaaGreatDoor
open Go.Proofs.Tryz
open Go.RowKit Go.Lith
set_option maxRecDepth 100000
attribute [local irreducible] au cu fA bF cG Code.wp
attribute [local congr] nO fK fM fN fO fP iY fQ fR fS fT fU fV fW fX fY fZ gA dX dY gB gC gE gF gG jA cQ cR cE cP gD iZ dZ eA eB gH gI jD
variable{s t:T3}{k g50 g51 N cap:Nat}{x:P3}{ms rs:List T3}
theorem anC(hk:k<3)(h:jR (s.cor k) (s.cor ((k+1)%3)) t=true):true=aaj s t:=by
 have e:k=0∨k=1∨k=2:=by omega
 unfold aaj;rcases e with rfl | rfl | rfl
 · rw[show jR s.a s.b t=true from h];rfl
 · rw[show jR s.b s.c t=true from h,px];rfl
 · rw[show jR s.c s.a t=true from h,px]
theorem akF(h:∀k∈[0,1,2],jR (s.cor k) (s.cor ((k+1)%3)) t=false):false=aaj s t:=by
 unfold aaj;rw[show jR s.a s.b t=false from h 0 (by decide),show jR s.b s.c t=false from h 1 (by decide),show jR s.c s.a t=false from h 2 (by decide)];rfl
theorem acs{l:List ai}{ty:av}{x y:bz}(hk:k<3)(hx:ev l x=tr t)(hy:ev l y=.int .i64 (k:Int)):iB prog l (.index 39 x y) ty (pt (t.cor k)):=by
 have h:k=0∨k=1∨k=2:=by omega
 rcases h with rfl | rfl | rfl
 · exact tX hx hy
 · exact tY hx hy
 · exact tZ hx hy
def akG(t:T3):List P3:=[t.a,t.b,t.c]
theorem akH(hk:k<3):(akG t)[k]? = some (t.cor k):=by
 have h:k=0∨k=1∨k=2:=by omega
 rcases h with rfl | rfl | rfl <;> rfl
def Hz(s t:T3)(k:Nat):List P3:=((akG s).take k).filter fun x=>t.has x
def Ia(s t:T3)(k:Nat):List P3:=((akG s).take k).filter fun x=>!t.has x
theorem Kn(hk:k<3):Hz s t (k+1)=Hz s t k++if t.has (s.cor k) then [s.cor k] else []:=by
 unfold Hz;rw[bY (akH hk),ij,fc,mi]
theorem Kq(hk:k<3):Ia s t (k+1)=Ia s t k++if t.has (s.cor k) then [] else [s.cor k]:=by
 unfold Ia;rw[bY (akH hk),ij,fc,mi];cases t.has (s.cor k) <;> rfl
theorem afG(s t:T3)(k:Nat):(Hz s t k).length≤3:=be (ft _ _) (by rw[bw];exact Nat.min_le_right ..)
theorem afH(s t:T3)(k:Nat):(Ia s t k).length≤3:=be (ft _ _) (by rw[bw];exact Nat.min_le_right ..)
theorem aoE   : ((decide (x.x=t.a.x∧x.y=t.a.y∧x.z=t.a.z)||decide (x.x=t.b.x∧x.y=t.b.y∧x.z=t.b.z))||decide (x.x=t.c.x∧x.y=t.c.y∧x.z=t.c.z))=t.has x:=by
 have e:∀p q:P3,(p.x=q.x∧p.y=q.y∧p.z=q.z)↔p=q:=fun p q=>⟨fun h=>P3.eq h.1 h.2.1 h.2.2,fun h=>by rw[h];exact⟨rfl,rfl,rfl⟩⟩
 rw[jg,jQ];simp only[gg,decide_eq_true_eq,e,or_assoc]
theorem Ue(s t:T3):(vL s t).length+(Aj s t).length=3:=by
 rw[app,apq];cases t.has s.a <;> cases t.has s.b <;> cases t.has s.c <;> rfl
theorem nd_of(h:nT t=false):t.nd=true:=by
 have hf:Pu (tH t.a t.b t.c)<3:=by
  unfold nT at h;rw[decide_eq_false_iff_not,Decidable.not_not] at h;exact h
 have hz:∀p q r:P3,p=q∨q=r∨r=p→tH p q r=⟨0,0,0⟩:=fun p q r hh=>by
  rcases hh with rfl | rfl | rfl <;> (refine P3.eq ?_ ?_ ?_ <;> (simp only[tH,P3.sub,P3.cross];grind))
 have hn:¬(t.a=t.b∨t.b=t.c∨t.c=t.a):=fun hh=>by
  rw[hz _ _ _ hh] at hf;exact absurd hf (by decide)
 rw[rH];exact⟨fun e=>hn (.inl e),fun e=>hn (.inr (.inl e)),fun e=>hn (.inr (.inr e))⟩
theorem aek{s t:T3}(hs:nT s=false)(ht:nT t=false)(h0:(vL s t).length≠0) :
 (∃x u v y z,vL s t=[x]∧Aj s t=[u,v]∧Aj t s=[y,z])∨(∃x y u v,vL s t=[x,y]∧Aj s t=[u]∧Aj t s=[v])∨(vL s t).length=3:=by
 have h1:=Ue s t;have h2:=Ue t s;have h3:=(aiX (nd_of hs) (nd_of ht)).length_eq;generalize vL s t=L at *
 generalize Aj s t=U at *
 generalize Aj t s=V at *
 rw[←h3] at h2;rcases L with _ | ⟨x,_ | ⟨y,_ | ⟨z,_ | ⟨z',L⟩⟩⟩⟩
 · exact absurd rfl h0
 · rcases U with _ | ⟨u,_ | ⟨v,_ | ⟨_,_⟩⟩⟩ <;> simp only[ay,cd] at h1 <;> try omega
   rcases V with _ | ⟨y,_ | ⟨z,_ | ⟨_,_⟩⟩⟩ <;> simp only[ay,cd] at h2 <;> try omega
   exact .inl ⟨x,u,v,y,z,rfl,rfl,rfl⟩
 · rcases U with _ | ⟨u,_ | ⟨_,_⟩⟩ <;> simp only[ay,cd] at h1 <;> try omega
   rcases V with _ | ⟨v,_ | ⟨_,_⟩⟩ <;> simp only[ay,cd] at h2 <;> try omega
   exact .inr (.inl ⟨x,y,u,v,rfl,rfl,rfl⟩)
 · exact .inr (.inr rfl)
 · simp only[ay] at h1;omega
theorem aqU{n:Nat}(hn:n=(vL s t).length)(h:(decide ((n:Int)=0)||nT s||nT t)=true):(aaj s t||aaj t s)=Xh s t:=by
 unfold Xh;rw[if_pos];rw[gg,gg,decide_eq_true_eq] at h;rcases h with (h | h) | h
 · exact .inl (by omega)
 · exact .inr (.inl h)
 · exact .inr (.inr h)
theorem aqV{n:Nat}(hn:n=(vL s t).length)(h:(decide ((n:Int)=0)||nT s||nT t)=false):((vL s t).length≠0∧nT s=false∧nT t=false)∧Xh s t=ae9 s t (vL s t) (Aj s t) (Aj t s):=by
 rw[kg,kg,decide_eq_false_iff_not] at h;refine⟨⟨fun e=>h.1.1 (by omega),h.1.2,h.2⟩,?_⟩;unfold Xh;rw[if_neg];rintro (k | k | k)
 · exact h.1.1 (by omega)
 · rw[h.1.2] at k;cases k
 · rw[h.2] at k;cases k
theorem akI[h:IT s](hx:x∈akG s):I3 x:=by
 simp only[akG,an,cl,or_false] at hx;rcases hx with rfl | rfl | rfl
 · exact h.a
 · exact h.b
 · exact h.c
theorem akJ[IT s]{L:List P3}{i:Nat}(h:vL s t=L)(hx:L[i]? = some x):I3 x:=akI (dh.1 (h▸bj hx:x∈vL s t)).1
theorem Ni[IT s]{L:List P3}{i:Nat}(h:Aj s t=L)(hx:L[i]? = some x):I3 x:=akI (dh.1 (h▸bj hx:x∈Aj s t)).1
theorem aqW{xa xb ua va:P3}:(decide (bS (((xb.sub xa).cross (ua.sub xa)).dot (va.sub xa))=0)&&decide (bS ((xb.sub xa).cross (ua.sub xa)).x=bS ((xb.sub xa).cross (va.sub xa)).x∧bS ((xb.sub xa).cross (ua.sub xa)).y=bS ((xb.sub xa).cross (va.sub xa)).y∧bS ((xb.sub xa).cross (ua.sub xa)).z=bS ((xb.sub xa).cross (va.sub xa)).z))=ae9 s t [xa,xb] [ua] [va]:=by
 rw[decide_eq_decide.2 (gY (n:=((xb.sub xa).cross (ua.sub xa)).dot (va.sub xa)))];rfl
theorem aqX(h:(vL s t).length=3):ae9 s t (vL s t) (Aj s t) (Aj t s)=true:=by
 generalize vL s t=L at h;rcases L with _ | ⟨x,_ | ⟨y,_ | ⟨z,L⟩⟩⟩ <;> simp only[ay,cd] at h <;> try omega
 rfl
theorem Yj[IT s][IT t]:fF prog 241 [tr s,tr t] (.bool (aaj s t)):=by
 intro w;refine⟨bP func241 (by kernel_rfl),?_⟩;have m:=Mem.refl w;refine (callsIn_wide (n:=4)).1 (callsIn_of_wp_marks func241 rfl trivial ?_ rfl);simp only[ntmps241,gu,ay,cd,aa,kn,im,io,jd,ix,bt,cg];refine wpIn_wide.2 ?_;refine aX fun K1 k1=>aq (Wg m rfl ?_);intro g1 u m;simp only[zz];refine Wg m rfl ?_;intro g2 u m;simp only[zz];refine mL m oW rfl ?_;intro g3 u m;refine aN (k1 _ _ ?_);try clear k1 K1
 refine aX fun K2 k2=>aX fun K3 k3=>aq ?_;simp only[zz];refine aR rfl ((m.b 2 rfl).full cK aO) ?_;simp only[zz];refine bC rfl rfl (afD (t:=s) _) ?_;rintro v u e_ ⟨g4,rfl,h_,k_⟩;replace m:=m.newB e_ h_ k_;refine aN (k3 _ _ ?_);try clear k3 K3
 refine jm ?_;simp only[zz];refine ack (v1:=fun x=>pt (s.cor x)) (v2:=fun x=>pt (s.cor ((x+1)%3))) (c1:=fun x=>[.int .i64 (s.cor x).x,.int .i64 (s.cor x).y,.int .i64 (s.cor x).z]) (c2:=fun x=>[.int .i64 (s.cor ((x+1)%3)).x,.int .i64 (s.cor ((x+1)%3)).y,.int .i64 (s.cor ((x+1)%3)).z]) (T1:=30) (T2:=30) (d1:=5) (d2:=6) (csB:=aM s) (tB:=39) rfl aig (Oz 3 (by omega) g4 0 s _ (m.b 0 rfl)) (fun _=>[bI g4 (aM s) 39,bI g3 [.bool false] 4,bI g2 [.int .i64 t.a.x,.int .i64 t.a.y,.int .i64 t.a.z,.int .i64 t.b.x,.int .i64 t.b.y,.int .i64 t.b.z,.int .i64 t.c.x,.int .i64 t.c.y,.int .i64 t.c.z] 39,bI g1 [.int .i64 s.a.x,.int .i64 s.a.y,.int .i64 s.a.z,.int .i64 s.b.x,.int .i64 s.b.y,.int .i64 s.b.z,.int .i64 s.c.x,.int .i64 s.c.y,.int .i64 s.c.z] 39]) (fun _=>[bI g3 [.bool true] 4]) (fun pre=>∀k∈pre,jR (s.cor k) (s.cor ((k+1)%3)) t=false) (fun pre=>∃k∈pre,jR (s.cor k) (s.cor ((k+1)%3)) t=true) (fun _ i hi=>by simp only[an,cl,or_false] at hi;rcases hi with rfl | rfl | rfl | rfl <;> exact⟨_,_,_,rfl⟩) (fun _ i hi=>by simp only[an,cl,or_false] at hi;subst hi ;exact⟨_,_,_,rfl⟩) (fun _=>rfl) (fun _=>bj (i:=0) rfl) m (fun k hk=>by cases hk) ?_ ?_ ?_ ?_
 ·
  intro r pre x W K m hK;simp only[zF,zG];refine nZ fun K4 k4=>cB (Kj m iQ rfl ?_);intro g5 u m;simp only[zz];refine Ej m 0 rfl rfl rfl aA (kG rfl) rfl ?_;intro u m;simp only[zy,zx,over,zF,zG,aa] at m;refine aN (k4 _ _ ?_);try clear k4 K4
  refine cB (Kj m iQ rfl ?_);intro g6 u m;simp only[zz];refine Ej m 0 rfl rfl rfl aA (kG rfl) rfl ?_;intro u m;simp only[zy,zx,over,zF,zG,aa] at m;exact aN (hK _ _ _ m)
 ·
  intro r pre x g5 g6 W Q' _ hJ hN m hn hr
  ·
   simp only[zF,zG];refine pI (nZ fun K5 k5=>cB (aR rfl ((m.b 1 rfl).full aH aA) ?_));simp only[zz];refine aR rfl ((m.b 0 rfl).full aH aA) ?_;simp only[zz];refine aR rfl ((m.b 4 rfl).full cK aO) ?_;simp only[zz];refine Qj m rfl rfl (aaU (p:=s.cor x) (q:=s.cor ((x+1)%3)) (t:=t)) ?_;intro u m;refine aN (k5 _ _ ?_);try clear k5 K5
   simp only[zz];refine Bh rfl ?_ ?_<;>intro hc1
   ·
    refine nZ fun K6 k6=>cB (iV m 3 rfl rfl rfl dT (kG rfl) ⟨rfl,rfl⟩ ?_);intro u m;simp only[zz,zy,zx,over,aa] at m;refine aN (k6 _ _ ?_);try clear k6 K6
    refine Qi ?_;exact hr _ _ ⟨m.toMem.sel [false,false,false,true],m.rx⟩ ⟨x,by simp,hc1⟩
   ·
    refine akt ?_;exact hn _ _ ⟨m.toMem.sel [false,false,true,true,true,true],m.rx⟩ (fun k hk=>by
     rcases br.1 hk with hk | hk
     · exact hJ k hk
     · rw[az.1 hk];exact hc1)
 rotate_left
 · rintro D pre u hS ⟨k,hk,ho⟩ m
   try simp only[di,Exit.then]
   refine acZ (Def.mk (m.get 0 rfl)) ?_;replace m:=m.putD (o':=.deferred none) 0 rfl;exact aT rfl ⟨_,rfl,(m.b 1 rfl).lies1 oH rfl⟩ ⟨_,rfl,m.ext,by rw[←anC (hS k hk) ho]⟩
 rintro D xs u rfl hj m;refine k2 _ _ ?_;try clear k2 K2
 refine aX fun K7 k7=>aq (cX m 2 rfl rfl rfl dT (kG rfl) ⟨rfl,rfl⟩ ?_);intro u m;simp only[zz,zy,zx,over,aa] at m;refine aN (k7 _ _ ?_);try clear k7 K7
 refine je ?_;try simp only[di,Exit.then,if_true]
 refine acZ (Def.mk (m.get 0 rfl)) ?_;replace m:=m.putD (o':=.deferred none) 0 rfl;simp only[zF,zG] at m;refine aT rfl ⟨_,rfl,((m.b 2 rfl).lies1 oH rfl)⟩ ?_;try simp only[zD,zE]
 exact⟨_,rfl,m.ext,by rw[←akF hj]⟩
theorem acu(w:aj):dK prog 240 [tr s,tr t] w (fun v w'=>∃A4 n4 c4 A5 n5 c5,v=.tuple #[.slice A4 n4 c4,.slice A5 n5 c5]∧n4=(vL s t).length∧n5=(Aj s t).length∧Mem w w' [oI 30 3 A5 n5 c5 ((Aj s t).flatMap qS),oI 30 3 A4 n4 c4 ((vL s t).flatMap qS)]):=by
 refine⟨bP func240 (by kernel_rfl),?_⟩;have m:=Mem.refl w
 go_enter func240,ntmps240
 apply mR 4 [0] m;simp only[↓aC];intro g1 g2 u m;refine aB aP ?_;replace m:=m.nilO 30 3;refine aB aP ?_;replace m:=m.nilO 30 3;apply aL 8 [3,0] m;simp only[↓aC,gX];refine bX [4,5,9] [7,10,11,12,13,14,15,16,17,18,19,20,21,22,23,24,25,26,27,28,29,30,31,32,33,34,35,36] (fun n vs wl=>∃(k:Nat) (A4 A5:Option Addr) (cap4 cap5:Nat),vs=[.slice A4 (Hz s t k).length cap4,.slice A5 (Ia s t k).length cap5,.int .i64 (k:Int)]∧Mem w wl [oI 30 3 A5 (Ia s t k).length cap5 ((Ia s t k).flatMap qS),oI 30 3 A4 (Hz s t k).length cap4 ((Hz s t k).flatMap qS),bI g2 [.int .i64 t.a.x,.int .i64 t.a.y,.int .i64 t.a.z,.int .i64 t.b.x,.int .i64 t.b.y,.int .i64 t.b.z,.int .i64 t.c.x,.int .i64 t.c.y,.int .i64 t.c.z] 39]∧(k≤3)∧(n=3-k)) ?_ ?_
 ·
  exact⟨_,0,_,_,_,_,rfl,(m.sel [true,true,true,false]),by omega,rfl⟩
 · intro n vs wr hI u K1 hK1
   obtain⟨k,A4,A5,cap4,cap5,rfl,m,hk,hn⟩:=hI;simp only[zu,zF,zG];apply aK 5 [0,0] m;simp only[↓aC];refine bA rfl ?_ ?_<;>intro hc1
   ·
    have hk3:k<3:=by omega
    apply aK 5 [0] m;simp only[↓aC];refine aB ((acs (t:=s) hk3 rfl rfl)) ?_;apply kP 8 [0,0,3,0] m;simp only[↓aC,gM,aU,dD,aa,ad,ah];intro g3;refine⟨by omega,?_⟩;intro u m;refine aB (bZ rfl rfl) ?_;apply aL 1 [0] m;simp only[↓aC];refine eY rfl (fun hb=>aZ rfl ((m.b 0 rfl).full aH aA)) (dG rfl (fun hb=>aJ cT aA rfl rfl (by decide) (by decide) rfl) ?_);simp only[zz];refine eY rfl (fun hb=>aZ (bB hb rfl) ((m.b 3 rfl).lies aH aA rfl rfl)) ?_;simp only[zz,zy,ar,aa,ah,ad];refine dG rfl (fun hb=>bZ (bB hb rfl) (bB hb rfl)) (aB (eD rfl rfl rfl) ?_);apply aL 1 [0] m;simp only[↓aC];refine eY rfl (fun hb=>aZ rfl ((m.b 0 rfl).full aH aA)) (dG rfl (fun hb=>aJ cT aA rfl rfl (by decide) (by decide) rfl) ?_);simp only[zz];refine eY rfl (fun hb=>aZ (bB hb rfl) ((m.b 3 rfl).lies aH aA rfl rfl)) ?_;simp only[zz,zy,ar,aa,ah,ad];refine dG rfl (fun hb=>bZ (bB hb rfl) (bB hb rfl)) (aB (eD rfl rfl rfl) ?_);apply aL 1 [0] m;simp only[↓aC];refine iK rfl ?_ ?_<;>intro hc2
    ·
     rw[aoE] at hc2;apply aK 3 [0,0] m;simp only[↓aC,aU];refine pD rfl ?_;intro u g4 e_ h_ k_;replace m:=m.newB e_ h_ k_;simp only[zz];refine bW m 3 rfl rfl eK qY rfl (by decide) rfl rfl rfl (m.b 0 rfl).rowsO (jX rfl) (by have:=afG s t k;omega) (by have:=afG s t k;omega) ?_;intro A4 cap4 u m;simp only[zF,zG] at m;rw[show (Hz s t k).flatMap qS++_=(Hz s t (k+1)).flatMap qS by rw[Kn hk3,hc2,aw];rfl,show (Hz s t k).length+1=(Hz s t (k+1)).length by rw[Kn hk3,hc2,a_];rfl] at m;rw[show (Hz s t k).length+1=(Hz s t (k+1)).length by rw[Kn hk3,hc2,a_];rfl];apply aL 7 [0] m;simp only[↓aC];refine⟨by omega,?_⟩;have he:Ia s t (k+1)=Ia s t k:=by rw[Kq hk3,hc2,if_pos rfl,eo]
     rw[←he] at m ⊢;exact hK1 (3-(k+1)) _ _ (by omega) (by kernel_rfl) ⟨k+1,_,_,_,_,rfl,(m.sel [false,false,true,true,true]),by omega,rfl⟩
    ·
     rw[aoE] at hc2;apply aK 3 [0,0] m;simp only[↓aC,aU];refine pD rfl ?_;intro u g4 e_ h_ k_;replace m:=m.newB e_ h_ k_;simp only[zz];refine bW m 2 rfl rfl eK qY rfl (by decide) rfl rfl rfl (m.b 0 rfl).rowsO (jX rfl) (by have:=afH s t k;omega) (by have:=afH s t k;omega) ?_;intro A5 cap5 u m;simp only[zF,zG] at m;rw[show (Ia s t k).flatMap qS++_=(Ia s t (k+1)).flatMap qS by rw[Kq hk3,hc2,aw];rfl,show (Ia s t k).length+1=(Ia s t (k+1)).length by rw[Kq hk3,hc2,a_];rfl] at m;rw[show (Ia s t k).length+1=(Ia s t (k+1)).length by rw[Kq hk3,hc2,a_];rfl];apply aL 7 [0] m;simp only[↓aC];refine⟨by omega,?_⟩;have he:Hz s t (k+1)=Hz s t k:=by rw[Kn hk3,hc2,if_neg Bool.false_ne_true,eo]
     rw[←he] at m ⊢;exact hK1 (3-(k+1)) _ _ (by omega) (by kernel_rfl) ⟨k+1,_,_,_,_,rfl,(m.sel [false,false,true,true,true]),by omega,rfl⟩
   ·
    obtain rfl:k=3:=by omega
    apply aK 9 [] m;simp only[↓aC];exact Ck rfl rfl rfl ⟨_,rfl,m.ext,_,_,_,_,_,_,rfl,rfl,rfl,m.sel [true,true,false]⟩
theorem aqY[IT s][IT t]:fF prog 176 [tr s,tr t] (.bool (Xh s t)):=by
 intro w;refine⟨bP func176 (by kernel_rfl),?_⟩;have m:=Mem.refl w
 go_enter func176,ntmps176
 apply mR 9 [1] m;simp only[↓aC,gX];intro g1 g2 u m;apply aW 1 [0,0] m;simp only[↓aC,gX];refine bC rfl rfl (acu (s:=s) (t:=t) _) ?_;rintro v u e_ ⟨A5,n5,c5,A6,n6,c6,rfl,hn5,hn6,hM⟩;replace m:=m.plus hM;clear hM;simp only[cg,bt] at m;apply aL 10 [2,3,0] m;simp only[↓aC,gX];refine bC rfl rfl (acu (s:=t) (t:=s) _) ?_;rintro v u e_ ⟨A7,n7,c7,A8,n8,c8,rfl,hn7,hn8,hM⟩;replace m:=m.plus hM;clear hM;simp only[cg,bt] at m;apply aL 13 [0,0] m;simp only[↓aC,lC];refine eY rfl (fun hb=>aZ rfl ((m.b 5 rfl).full cK aO)) (Zl m rfl rfl (fun hb=>by simp only[fi,bp,dt,zA,zB,zC,zD,zE,hb,mC];rfl) (fun hb=>aaN (t:=s)) ?_);intro u m;refine aB (eD rfl rfl rfl) ?_;apply aL 1 [0] m;simp only[↓aC];refine eY rfl (fun hb=>aZ rfl ((m.b 4 rfl).full cK aO)) (Zl m rfl rfl (fun hb=>by simp only[fi,bp,dt,zA,zB,zC,zD,zE,hb,mC];rfl) (fun hb=>aaN (t:=t)) ?_);intro u m;refine aB (eD rfl rfl rfl) ?_;apply aL 1 [0] m;simp only[↓aC];refine iK rfl ?_ ?_<;>intro hc1
 ·
  rw[Hw,Hw] at hc1;apply aK 4 [5,4,0] m;simp only[↓aC,gX];refine wA m rfl rfl (Yj (s:=s) (t:=t)) 1 [0] ?_;simp only[↓aC];intro u m;refine eY rfl (fun hb=>aZ rfl ((m.b 4 rfl).full cK aO)) (eY rfl (fun hb=>aZ rfl ((m.b 5 rfl).full cK aO)) (Zl m rfl rfl (fun hb=>by simp only[fi,bp,dt,zA,zB,zC,zD,zE,hb,mC];rfl) (fun hb=>Yj (s:=t) (t:=s)) ?_));intro u m;refine aB (eD rfl rfl rfl) ?_;apply aL 3 [] m;simp only[↓aC];refine aT rfl rfl ?_;try simp only[zD,zE]
  exact⟨_,rfl,m.ext,by rw[aqU hn5 hc1]⟩
 ·
  rw[Hw,Hw] at hc1;obtain⟨⟨hz,hf1,hf2⟩,hme⟩:=aqV hn5 hc1;apply aK 3 [] m;simp only[↓aC];rcases aek hf1 hf2 hz with ⟨xa,ua,ub,va,vb,h1,h2,h3⟩ | ⟨xa,xb,ua,va,h1,h2,h3⟩ | h1
  ·
   rw[h1] at hn5;rw[h2] at hn6;rw[h3] at hn8;have i1:I3 ua:=Ni (i:=0) h2 rfl;have i2:I3 ub:=Ni (i:=1) h2 rfl;have i3:I3 va:=Ni (i:=0) h3 rfl;have i4:I3 vb:=Ni (i:=1) h3 rfl;simp only[ay,cd] at hn5 hn6 hn8;subst hn5;subst hn6;subst hn8;rw[h1,h2,h3] at m;obtain⟨g5,rfl⟩:=(m.o 3 rfl).some (by decide);obtain⟨g6,rfl⟩:=(m.o 2 rfl).some (by decide);obtain⟨g8,rfl⟩:=(m.o 0 rfl).some (by decide);apply aW 12 [1,0] m;simp only[↓aC,lC];refine⟨by omega,?_⟩;refine mq m aD (by kernel_rfl) (aI aG ?_);simp only[zz];refine aI (aF eK aA rfl rfl (by decide) (by omega) rfl) ?_;simp only[zz];refine ql rfl (fun u m=>(((m.o 2 rfl).at (enc:=qS) (i:=0) Ld rfl).lies aH aA)) ?_;simp only[zz];refine aI aG ?_;simp only[zz];refine aI (aF eK aA rfl rfl (by decide) (by omega) rfl) ?_;simp only[zz];refine ql rfl (fun u m=>(((m.o 2 rfl).at (enc:=qS) (i:=1) Ld rfl).lies aH aA)) ?_;simp only[zz];refine ql rfl (fun u m=>((m.b 4 rfl).full cK aO)) ?_;simp only[zz];refine jJ rfl rfl (aaU (p:=ua) (q:=ub) (t:=t)) (aI aG (dQ rfl (fun hb=>aG) ?_));simp only[zz];refine dQ rfl (fun hb=>aF eK aA (bB hb rfl) rfl (by decide) (by omega) rfl) ?_;simp only[zz];refine lW rfl (fun hb u m=>aZ (bB hb rfl) (((m.o 0 rfl).at (enc:=qS) (i:=0) Ld rfl).lies aH aA)) (dQ rfl (fun hb=>aG) ?_);simp only[zz];refine dQ rfl (fun hb=>aF eK aA (bB hb rfl) rfl (by decide) (by omega) rfl) ?_;simp only[zz];refine lW rfl (fun hb u m=>aZ (bB hb rfl) (((m.o 0 rfl).at (enc:=qS) (i:=1) Ld rfl).lies aH aA)) (lW rfl (fun hb u m=>aZ rfl ((m.b 5 rfl).full cK aO)) (aeK rfl rfl (fun hb=>by simp only[fi,bp,dt,zA,zB,zC,zD,zE,hb,mC];rfl) (fun hb=>aaU (p:=va) (q:=vb) (t:=s)) (aI (eD rfl rfl rfl) (aI aP (bE ?_)))));intro u m;apply aW 1 [] m;simp only[↓aC];refine aT rfl rfl ?_;try simp only[zD,zE]
   exact⟨_,rfl,m.ext,by rw[hme,h1,h2,h3];rfl⟩
  ·
   rw[h1] at hn5;rw[h2] at hn6;rw[h3] at hn8;have i1:I3 xa:=akJ (i:=0) h1 rfl;have i2:I3 xb:=akJ (i:=1) h1 rfl;have i3:I3 ua:=Ni (i:=0) h2 rfl;have i4:I3 va:=Ni (i:=0) h3 rfl;simp only[ay,cd] at hn5 hn6 hn8;subst hn5;subst hn6;subst hn8;rw[h1,h2,h3] at m;obtain⟨g5,rfl⟩:=(m.o 3 rfl).some (by decide);obtain⟨g6,rfl⟩:=(m.o 2 rfl).some (by decide);obtain⟨g8,rfl⟩:=(m.o 0 rfl).some (by decide);apply aW 18 [2,1,0] m;simp only[↓aC,lC];refine⟨by omega,?_⟩;apply arJ m (T1:=30) (T2:=30)
   · skip
     refine Wh m [true,true,true,true,true,true] (.take 0 (.take 1 (.take 2 (.take 3 (.take 4 (.take 5 (.two 6 (.one 7 (.one 8 (.one 9 .nil))) 7 (.one 6 (.one 8 (.one 9 .nil)))))))))) aD (by kernel_rfl) (fun _ _ _ _ _ h=>by cases h.1) ?_;intro u m;refine eM (by simp only[zw];rfl) (aS aG (bV (eM (by simp only[zw];rfl) ?_)));simp only[zz];refine aS (aF eK aA rfl rfl (by decide) (by omega) rfl) (bV (eM (by simp only[zw];rfl) ?_));simp only[zz];refine dF rfl (fun u m=>(((m.o 3 rfl).at (enc:=qS) (i:=0) Ld rfl).lies aH aA)) ?_;simp only[zz];refine bV (eM (by simp only[zw];rfl) (aS aG (bV (eM (by simp only[zw];rfl) ?_))));simp only[zz];refine aS (aF eK aA rfl rfl (by decide) (by omega) rfl) (bV (eM (by simp only[zw];rfl) ?_));simp only[zz];refine dF rfl (fun u m=>(((m.o 3 rfl).at (enc:=qS) (i:=1) Ld rfl).lies aH aA)) ?_;simp only[zz];refine bV ?_;refine abm (by simp only[zw];rfl) (by simp only[zw];rfl) ?_ ?_
     ·
      refine mL m iQ rfl ?_;intro g3 u m;refine aN ⟨m.sel [false,true,true,true,true,true,true],?_⟩;refine nS (by simp only[zw];rfl) ?_;simp only[zz];refine mL m iQ rfl ?_;intro g4 u m;refine aN ⟨m.sel [false,false,true,true,true,true,true,true],?_⟩;refine nS (by simp only[zw];rfl) ?_;simp only[zz];refine cU m 1 rfl rfl rfl aA (kG rfl) rfl ?_;intro u m;simp only[zy,zx,over,zF,zG,aa] at m;refine aN ⟨m.sel [false,false,true,true,true,true,true,true],?_⟩;refine nS (by simp only[zw];rfl) ?_;refine cU m 0 rfl rfl rfl aA (kG rfl) rfl ?_;intro u m;simp only[zy,zx,over,zF,zG,aa] at m;refine aN ⟨m.sel [false,false,true,true,true,true,true,true],?_⟩;exact Gi ⟨rfl,g3,g4,rfl,m⟩
     ·
      refine mL m iQ rfl ?_;intro g3 u m;refine aN ⟨m.sel [false,true,true,true,true,true,true],?_⟩;refine nS (by simp only[zw];rfl) ?_;simp only[zz];refine mL m iQ rfl ?_;intro g4 u m;refine aN ⟨m.sel [false,false,true,true,true,true,true,true],?_⟩;refine nS (by simp only[zw];rfl) ?_;simp only[zz];refine cU m 0 rfl rfl rfl aA (kG rfl) rfl ?_;intro u m;simp only[zy,zx,over,zF,zG,aa] at m;refine aN ⟨m.sel [false,false,true,true,true,true,true,true],?_⟩;refine nS (by simp only[zw];rfl) ?_;refine cU m 1 rfl rfl rfl aA (kG rfl) rfl ?_;intro u m;simp only[zy,zx,over,zF,zG,aa] at m;refine aN ⟨m.sel [false,false,true,true,true,true,true,true],?_⟩;exact Gi ⟨rfl,g4,g3,rfl,m.s01⟩
   intro g3 g4 u m;try dsimp only
   apply aW 1 [0] m;simp only[↓aC];refine mq m aD (by kernel_rfl) (eT 3 [1,0] ?_);simp only[↓aC,aU];refine aI (aF eK aA rfl rfl (by decide) (by omega) rfl) ?_;simp only[zz];refine ql rfl (fun u m=>(((m.o 4 rfl).at (enc:=qS) (i:=0) Ld rfl).lies aH aA)) ?_;simp only[zz];refine aI aG ?_;simp only[zz];refine aI (aF eK aA rfl rfl (by decide) (by omega) rfl) ?_;simp only[zz];refine ql rfl (fun u m=>(((m.o 2 rfl).at (enc:=qS) (i:=0) Ld rfl).lies aH aA)) ?_;simp only[zz];refine jJ rfl rfl (vS (a:=xa) (b:=xb) (c:=ua) (d:=va)) (aI (xP rfl rfl) (aI aG ?_));simp only[zz];refine fE rfl (fun hb u m=>aZ rfl ((m.b 1 rfl).full aH aA)) (fE rfl (fun hb u m=>aZ rfl ((m.b 0 rfl).full aH aA)) (fE rfl (fun hb u m=>aZ rfl ((m.b 1 rfl).full aH aA)) (dL rfl (fun hb=>aG) ?_)));simp only[zz];refine dL rfl (fun hb=>aF eK aA (bB hb rfl) rfl (by decide) (by omega) rfl) ?_;simp only[zz];refine fE rfl (fun hb u m=>aZ (bB hb rfl) (((m.o 4 rfl).at (enc:=qS) (i:=0) Ld rfl).lies aH aA)) (Zm rfl rfl (fun hb=>by simp only[fi,bp,dt,zA,zB,zC,zD,zE,hb,mC];rfl) (fun hb=>rU (a:=xa) (b:=xb) (c:=xa) (d:=ua)) ?_);simp only[zz];refine fE rfl (fun hb u m=>aZ rfl ((m.b 1 rfl).full aH aA)) (fE rfl (fun hb u m=>aZ rfl ((m.b 0 rfl).full aH aA)) (fE rfl (fun hb u m=>aZ rfl ((m.b 1 rfl).full aH aA)) (dL rfl (fun hb=>aG) ?_)));simp only[zz];refine dL rfl (fun hb=>aF eK aA (bB hb rfl) rfl (by decide) (by omega) rfl) ?_;simp only[zz];refine fE rfl (fun hb u m=>aZ (bB hb rfl) (((m.o 2 rfl).at (enc:=qS) (i:=0) Ld rfl).lies aH aA)) (Zm rfl rfl (fun hb=>by simp only[fi,bp,dt,zA,zB,zC,zD,zE,hb,mC];rfl) (fun hb=>rU (a:=xa) (b:=xb) (c:=xa) (d:=va)) (dL rfl (fun hb=>Wp (bB hb rfl) (bB hb rfl)) (aI (fC rfl rfl rfl) (aI aP ?_))));simp only[zz];refine bE ?_;intro u m;apply aW 1 [] m;simp only[↓aC];refine aT rfl rfl ?_;try simp only[zD,zE]
   exact⟨_,rfl,m.ext,by rw[hme,h1,h2,h3];exact congrArg bm aqW⟩
  ·
   rw[h1] at hn5;subst hn5;apply aW 24 [2,2] m;simp only[↓aC,lC];refine⟨by omega,?_⟩;refine aT rfl rfl ?_;try simp only[zD,zE]
   exact⟨_,rfl,m.ext,by rw[hme,aqX h1]⟩
theorem akK{r:T3}[IT t][IT r](w:aj)(hB50:gT w g50 [.int .i64 (Hl t 0),.int .i64 (Hl t 1),.int .i64 (Hl t 2),.int .i64 (Hm t 0),.int .i64 (Hm t 1),.int .i64 (Hm t 2)] 222)(hB51:gT w g51 (aM t) 39):dK prog 174 [tr r,.pointer (some ⟨g50,0,none⟩),.pointer (some ⟨g51,0,none⟩)] w (fun v _=>v=.bool (wS t r)):=by
 refine⟨bP func174 (by kernel_rfl),?_⟩;have m:=Mem.refl w
 go_enter func174,ntmps174
 apply mR 6 [0] m;simp only[↓aC];intro g1 u m;refine mq m aD (by kernel_rfl) (ql rfl (fun u m=>((hB50.ext m.ext).full aeQ Wl)) ?_);simp only[zz];refine ql rfl (fun u m=>((m.b 0 rfl).full cK aO)) ?_;simp only[zz];refine jJ rfl rfl (acg (t:=r)) ?_;simp only[zz];refine jJ rfl rfl (aqI (t:=t) (r:=r)) (aI aG ?_);simp only[zz];refine fE rfl (fun hb u m=>aZ rfl ((m.b 0 rfl).full cK aO)) (fE rfl (fun hb u m=>aZ rfl ((hB51.ext m.ext).full cK aO)) (Zm rfl rfl (fun hb=>by simp only[fi,bp,dt,zA,zB,zC,zD,zE,hb,mC];rfl) (fun hb=>aqY (s:=r) (t:=t)) (aI (fC rfl rfl rfl) (aI aP (bE ?_)))));intro u m;apply aW 1 [] m;simp only[↓aC];exact aT rfl rfl ⟨_,rfl,m.ext,rfl⟩
theorem akL{ts:List T3}{A:Option Addr}[IT t](w:aj)(hB50:gT w g50 [.int .i64 (Hl t 0),.int .i64 (Hl t 1),.int .i64 (Hl t 2),.int .i64 (Hm t 0),.int .i64 (Hm t 1),.int .i64 (Hm t 2)] 222)(hB51:gT w g51 (aM t) 39)(hT:bQ w A N ts)(hN:N≤10000000):dK prog 244 [.slice A N cap,.func (.func 174) #[] #[.pointer (some ⟨g50,0,none⟩),.pointer (some ⟨g51,0,none⟩)]] w (fun v _=>∃k:Int,v=.int .i64 k∧decide (0≤k)=ts.any (wS t)):=by
 refine⟨bP func244 (by kernel_rfl),?_⟩;have m:=Mem.refl w;have htl:=hT.len
 go_enter func244,ntmps244
 apply fG 12 [0] m;simp only[↓aC,eV];refine bX [8] [4,5,9,10,11,12,13,14,15,16,17,18] (fun n vs wl=>∃(k:Nat),vs=[.int .i64 (k:Int)]∧Mem w wl []∧(∀(j:Nat) (r:T3),j<k→ts[j]? = some r→wS t r=false)∧(k≤N)∧(n=N-k)) ?_ ?_
 ·
  exact⟨_,0,rfl,m,(fun j r h=>by omega),cq _,rfl⟩
 · intro n vs wr hI u K1 hK1
   obtain⟨k,rfl,m,hq0,hk,hn⟩:=hI;simp only[zu,zF,zG];apply aK 5 [0,0] m;simp only[↓aC];refine bA rfl ?_ ?_<;>intro hc1
   ·
    obtain⟨r,hr,hri,a,rfl,hrow⟩:=hT.get (i:=k) (by omega);apply aK 13 [0] m;simp only[↓aC];refine aB (aF bL aO rfl rfl (by omega) (by omega) (cH (ag _))) ?_;simp only[zz];refine aR rfl ((hrow.ext m.ext).lies cK aO) ?_;simp only[zz];refine cM m rfl rfl (akK (t:=t) (r:=r) _ (hB50.ext m.ext) (hB51.ext m.ext)) ?_;rintro v u m rfl;apply aL 1 [0] m;simp only[↓aC];refine eG rfl ?_ ?_<;>intro hc2
    ·
     apply aK 6 [] m;simp only[↓aC];exact aT rfl rfl ⟨_,rfl,m.ext,k,rfl,by rw[decide_eq_true (by omega:(0:Int)≤k)];exact (List.any_eq_true.2 ⟨r,bj hr,hc2⟩).symm⟩
    ·
     apply aK 6 [0] m;simp only[↓aC];refine⟨by omega,?_⟩;exact hK1 (N-(k+1)) _ _ (by omega) (by kernel_rfl) ⟨k+1, rfl, m, (fun j r2 hj h1 => by
      rcases fp j k with h | h
      · exact hq0 j r2 h h1
      · obtain rfl:j=k:=by omega
        rw[hr] at h1;cases h1;exact hc2),by omega,rfl⟩
   ·
    obtain rfl:k=N:=by omega
    apply aK 6 [] m;simp only[↓aC];exact aT rfl rfl ⟨_,rfl,m.ext,-1,rfl,(by rw[show ts.any (wS t)=false from List.any_eq_false.2 fun r hr=>by obtain⟨j,hj⟩:=List.mem_iff_getElem?.1 hr;rw[hq0 j r (by have:=(ap.1 hj).1;omega) hj];decide];rfl)⟩
theorem Eo{ts:List T3}{A:Option Addr}[IT t](w:aj)(hB50:gT w g50 [.int .i64 (Hl t 0),.int .i64 (Hl t 1),.int .i64 (Hl t 2),.int .i64 (Hm t 0),.int .i64 (Hm t 1),.int .i64 (Hm t 2)] 222)(hB51:gT w g51 (aM t) 39)(hT:bQ w A N ts)(hN:N≤10000000):dK prog 177 [.slice A N cap,.func (.func 174) #[] #[.pointer (some ⟨g50,0,none⟩),.pointer (some ⟨g51,0,none⟩)]] w (fun v _=>v=.bool (ts.any (wS t))):=by
 refine⟨bP func177 (by kernel_rfl),?_⟩;have m:=Mem.refl w
 go_enter func177,ntmps177
 apply fG 8 [0] m;simp only[↓aC];refine cM m rfl rfl (akL (t:=t) _ (hB50.ext m.ext) (hB51.ext m.ext) (hT.ext m.ext) hN) ?_;rintro v u m ⟨kk,rfl,hkk⟩;apply aL 4 [0] m;simp only[↓aC];refine aT rfl rfl ?_;try simp only[zD,zE]
 exact⟨_,rfl,m.ext,by rw[←hkk]⟩
def Vt(ms rs:List T3)(t:T3)(k:Nat):Bool:=!rs.any (wS t) && !(ms.take k).any (wS t)
def ahe(ms rs:List T3):Bool:=ms.zipIdx.all fun x=>Vt ms rs x.1 x.2
theorem afI(ht:ms[k]? = some t)(h:Vt ms rs t k=false):ahe ms rs=false:=by
 unfold ahe;rw[List.all_eq_false];exact⟨(t,k),List.mk_mem_zipIdx_iff_getElem?.2 ht,by rw[h];decide⟩
theorem akM(h:∀(k:Nat) (t:T3),ms[k]? = some t→Vt ms rs t k=true):ahe ms rs=true:=by
 unfold ahe;rw[df];rintro⟨t,k⟩ hx;exact h k t (List.mk_mem_zipIdx_iff_getElem?.1 hx)
theorem aqZ(h:rs.any (wS t)=true):Vt ms rs t k=false:=by unfold Vt;rw[h];rfl
theorem aq0(h:(ms.take k).any (wS t)=true):Vt ms rs t k=false:=by unfold Vt;rw[h,ff,Bool.and_false]
theorem aq1(h1:rs.any (wS t)=false)(h2:(ms.take k).any (wS t)=false):Vt ms rs t k=true:=by unfold Vt;rw[h1,h2];rfl
theorem akN{g90 g91 ga gf gx gy cx cy cf nm cm no co nr cr:Nat}{A Am Ao Ar:Option Addr}{ex ey ef:Array de}{X Y F:List (P3 × Bool)}{ts:List T3}{p q:P3}(w:aj)(hB91:gT w g91 [.pointer (some ⟨g90,0,none⟩),.int .i64 p.x,.int .i64 p.y,.int .i64 p.z,.int .i64 q.x,.int .i64 q.y,.int .i64 q.z,.map (some gx),.map (some gy),.slice Am nm cm,.slice Ao no co,.slice Ar nr cr] 218)(hB90:gT w g90 [.slice A N cap,.map (some ga),.map (some gf)] 109)(hTm:bQ w Am nm ms)(hTr:bQ w Ar nr rs)(hcm:nm≤cm)(hN:nm+nr≤10000000):dK prog 105 [.pointer (some ⟨g91,0,none⟩)] w (fun v _=>v=.bool (ahe ms rs)):=by
 refine⟨bP func105 (by kernel_rfl),?_⟩;have m:=Mem.refl w;have htm:=hTm.len
 go_enter func105,ntmps105
 apply fG 10 [0] m;simp only[↓aC,Jp,aa];refine aR rfl ((hB91.ext m.ext).lies1 sP rfl) ?_;simp only[zz];apply aL 4 [0] m;simp only[↓aC,eV];refine bX [12] [2,3,4,5,6,13,14,15,16,17,18,19,20,21,22,23,24,25,26,27,28,29,30,31,32,33,34,35,36] (fun n vs wl=>∃(k:Nat),vs=[.int .i64 (k:Int)]∧Mem w wl []∧(∀(j:Nat) (t:T3),j<k→ms[j]? = some t→Vt ms rs t j=true)∧(k≤nm)∧(n=nm-k)) ?_ ?_
 ·
  exact⟨_,0,rfl,m,(fun j t h=>by omega),cq _,rfl⟩
 · intro n vs wr hI u K1 hK1
   obtain⟨k,rfl,m,hu0,hk,hn⟩:=hI;simp only[zu,zF,zG];apply aK 5 [0,0] m;simp only[↓aC];refine bA rfl ?_ ?_<;>intro hc1
   ·
    obtain⟨t,ht,hti,a,rfl,hrow⟩:=hTm.get (i:=k) (by omega);apply aK 6 [0] m;simp only[↓aC];refine aB (aF bL aO rfl rfl (by omega) (by omega) (cH (ag _))) ?_;simp only[zz];refine aR rfl ((hrow.ext m.ext).lies cK aO) ?_;simp only[zz];apply kP 7 [0,0,0] m;simp only[↓aC,nC,gX,aa];intro g1 u m;refine wA m rfl rfl (acg (t:=t)) 5 [0,0] ?_;simp only[↓aC,adS,adR,aa];intro g2 u m;refine aB gQ ?_;simp only[zz,gm,bp,dt];apply aL 3 [] m;simp only[↓aC];rcases Bool.eq_false_or_eq_true (rs.any (wS t)) with hq | hq
    ·
     apply aW 4 [0] m;simp only[↓aC,Tb,aa];refine aR rfl ((hB91.ext m.ext).lies1 sP rfl) ?_;simp only[zz];apply aL 1 [0] m;simp only[↓aC];refine cM m rfl rfl (Eo (ts:=rs) (t:=t) _ (m.b 0 rfl) (m.b 1 rfl) (hTr.ext m.ext) (by omega)) ?_;rintro v u m rfl;simp only[zz];rw[hq];apply aL 17 [] m;simp only[↓aC];refine aT rfl rfl ?_;try simp only[zD,zE]
     exact⟨_,rfl,m.ext,by rw[afI ht (aqZ hq)]⟩
    ·
     apply aW 4 [0] m;simp only[↓aC,Tb,aa];refine aR rfl ((hB91.ext m.ext).lies1 sP rfl) ?_;simp only[zz];apply aL 1 [0] m;simp only[↓aC];refine cM m rfl rfl (Eo (ts:=rs) (t:=t) _ (m.b 0 rfl) (m.b 1 rfl) (hTr.ext m.ext) (by omega)) ?_;rintro v u m rfl;simp only[zz];rw[hq];apply aL 4 [0] m;simp only[↓aC,Jp,aa];refine cN rfl (aR rfl ((hB91.ext m.ext).lies1 sP rfl) ?_);simp only[zz];apply aL 1 [0] m;simp only[↓aC];refine cN rfl (aB (kL bL aO rfl rfl (ag _) (by omega) (by omega)) ?_);apply aL 1 [0] m;simp only[↓aC];refine cN rfl (cM m rfl rfl (Eo (ts:=ms.take k) (t:=t) _ (m.b 0 rfl) (m.b 1 rfl) ((hTm.take (k:=k) (by omega)).ext m.ext) (by omega)) ?_);rintro v u m rfl;apply aL 2 [0] m;simp only[↓aC];refine eG rfl ?_ ?_<;>intro hc2
     ·
      apply aK 5 [] m;simp only[↓aC];refine aT rfl rfl ?_;try simp only[zD,zE]
      exact⟨_,rfl,m.ext,by rw[afI ht (aq0 hc2)]⟩
     ·
      apply aK 6 [0] m;simp only[↓aC];refine⟨by omega,?_⟩;exact hK1 (nm-(k+1)) _ _ (by omega) (by kernel_rfl) ⟨k+1, rfl, (m.sel [false, false]), (fun j t2 hj h1 => by
       rcases fp j k with h | h
       · exact hu0 j t2 h h1
       · obtain rfl:j=k:=by omega
         rw[ht] at h1;cases h1;exact aq1 hq hc2),by omega,rfl⟩
   ·
    apply aK 6 [] m;simp only[↓aC];refine aT rfl rfl ?_;try simp only[zD,zE]
    exact⟨_,rfl,m.ext,by rw[akM fun j t h1=>hu0 j t (by have:=(ap.1 h1).1;omega) h1]⟩
end Go.Proofs.YtfekpcimgncioaaGreatDoor
namespace Go.Lith
open Go.RowKit
section
variable {P:bv} {ops:Array Oper} {Q:Exit→Act→aj→Prop} {md:Region.Mode} {S:aj→Prop} {tl:List Nat}
def Ib(P:bv)(md:Region.Mode)(ops:Array Oper)(Q:Exit→Act→aj→Prop)(S:aj→Prop)(tl:List Nat):Nat→Array Bool→Act→aj→Prop
 | 0,listed,a,w=>Region.ready md ops listed=[]∧Q .normal a w
 | fuel+1,listed,a,w =>
  (Region.ready md ops listed=[]→Q .normal a w) ∧
  ∀i∈Region.ready md ops listed,wpOp P ops Q i (fun a' w'=>(i∉tl→S w→S w')∧Ib P md ops Q S tl fuel (listed.setIfInBounds i true) a' w') a w
theorem Uf:∀(fuel:Nat) (listed:Array Bool) (a:Act) (w:aj),Ib P md ops Q S tl fuel listed a w→wpAny P md ops Q fuel listed a w
 | 0,_,_,_,h=>h
 | fuel+1,_,_,_,h=>⟨h.1,fun i hi=>wpOp_mono (fun a' w' h'=>Uf fuel _ a' w' h'.2) (h.2 i hi)⟩
def ael(md:Region.Mode)(ops:Array Oper)(listed:Array Bool):Prop:=∀j oj,ops[j]? = some oj→listed.getD j false=true→∀e∈oj.after,Region.binds md e=true→listed.getD e.on false=true
def Ug(md:Region.Mode)(ops:Array Oper):Nat→Nat→Nat→Bool
 | 0,_,_=>false
 | f+1,j,i=>match ops[j]? with
  | none=>false
  | some o=>o.after.any fun e=>Region.binds md e&&(e.on == i||Ug md ops f e.on i)
theorem Kr{listed:Array Bool}(D:ael md ops listed){i:Nat}:∀(f j:Nat),(∀oj,ops[j]? = some oj→∀e∈oj.after,Region.binds md e=true→listed.getD e.on false=true)→Ug md ops f j i=true→listed.getD i false=true
 | 0,_,_,h=>by cases h
 | f+1,j,hj,h=>by
  unfold Ug at h;split at h
  · cases h
  · rename_i o ho
    rw[Array.any_eq_true] at h;obtain⟨k,hk,hh⟩:=h;rw[ba,gg,beq_iff_eq] at hh;have hl:=hj o ho _ (Array.getElem_mem hk) hh.1;rcases hh.2 with e | hn
    · rw[←e];exact hl
    · exact Kr D f _ (fun oj hoj e he hb=>D _ oj hoj hl e he hb) hn
theorem ael.set{listed:Array Bool}(D:ael md ops listed){i:Nat}(hi:i∈Region.ready md ops listed):ael md ops (listed.setIfInBounds i true):=fun j oj hoj hl e he hb=>by
 obtain⟨h0,o,ho,hall⟩:=mem_ready.1 hi;by_cases e':i=j
 · subst e'
   rw[ho] at hoj;cases hoj;exact getD_set_true (hall e he hb)
 · rw[getD_set_ne false e'] at hl
   exact getD_set_true (D j oj hoj hl e he hb)
theorem Ks{S':aj→Prop}{i:Nat}{oi:Oper}{v:ai}(hi:ops[i]? = some oi)(hsel:∀(j:Nat) (o:Oper) cs b,ops[j]? = some o→o.op≠.select cs b)
 (hQ:∀c a w,Q (.panic c) (a.put oi.dst v) w→Q (.panic c) a w) (hk:(∀w,S' w)∨((∀w,S w→S' w)∧∀j∈tl,∃f,Ug md ops f j i=true)) :
 ∀(fuel:Nat) (listed:Array Bool) (a:Act) (w:aj),
  (∀j oj,ops[j]? = some oj→j≠i→listed.getD j true=false→(∀e∈oj.after,Region.binds md e=true→e.on≠i)→oi.apart ops oj=true) →
  i∈Region.ready md ops listed→ael md ops listed→YieldsIf P ops S' oi v a→(S w∨∀w,S' w) →
  Ib P md ops Q S tl fuel (listed.setIfInBounds i true) (a.put oi.dst v) w→Ib P md ops Q S tl (fuel+1) listed a w:=by
 intro fuel;have hS':∀w,(S w∨∀w,S' w)→S' w:=fun w h=>by
  rcases h with h | h
  · rcases hk with k | k
    · exact k w
    · exact k.1 w h
  · exact h w
 induction fuel with
 | zero =>
  intro listed a w _ hr D hy hS H;refine⟨fun h=>(by rw[h] at hr;cases hr),fun j hj=>?_⟩;by_cases hji:j=i
  · subst hji;exact hy.wpOp hi (hS' w hS) ⟨fun _ h=>h,H⟩
  · have:=ready_mono hj hji
    rw[H.1] at this;cases this
 | succ fuel ih =>
  intro listed a w hfree hr D hy hS H;refine⟨fun h=>(by rw[h] at hr;cases hr),fun j hj=>?_⟩;by_cases hji:j=i
  · subst hji;exact hy.wpOp hi (hS' w hS) ⟨fun _ h=>h,H⟩
  · have h1:=H.2 j (ready_mono hj hji)
    obtain⟨hjun,oj,hoj,hall⟩:=mem_ready.1 hj;have hiun:listed.getD i false=true→False:=fun h1=>by
     have h0:=(mem_ready.1 hr).1;rcases fp i listed.size with h' | h'
     · simp[h'] at h0 h1;rw[h0] at h1;cases h1
     · simp[Array.getElem?_eq_none h'] at h1
    have hnot:∀e∈oj.after,Region.binds md e=true→e.on≠i:=fun e he hb heq=>hiun (heq▸hall e he hb);have h2:=wpOp_putIf hoj (hfree j oj hoj hji hjun hnot) (fun cs b=>hsel i oi cs b hi) (fun cs b=>hsel j oj cs b hoj) hQ hy h1;have hfree':∀k ok,ops[k]? = some ok→k≠i→(listed.setIfInBounds j true).getD k true=false →
     (∀e∈ok.after,Region.binds md e=true→e.on≠i)→oi.apart ops ok=true:=fun k ok hk hki hun hno=>by
     refine hfree k ok hk hki ?_ hno;by_cases hjk:j=k
     · subst hjk;exact hjun
     · rw[getD_set_ne true hjk] at hun;exact hun
    have hstay:∀w',(j∉tl→S w→S w')→(S w'∨∀w,S' w):=fun w' h=>by
     rcases hk with k | k
     · exact .inr k
     · rcases hS with hS | hS
       · refine .inl (h (fun hm=>?_) hS)
         obtain⟨f,hf⟩:=k.2 j hm;exact hiun (Kr D f j (fun oj' hoj' e he hb=>by rw[hoj] at hoj';cases hoj';exact hall e he hb) hf)
       · exact .inr hS
    refine wpOp_mono (fun a' w' h3=>⟨h3.2.1,ih (listed.setIfInBounds j true) a' w' hfree' (ready_mono hr (Ne.symm hji)) (D.set hj) h3.1 (hstay w' h3.2.1) ?_⟩) h2;rw[Array.setIfInBounds_comm _ _ hji];exact h3.2.2
theorem Uh{rs:List Nat}{fuel:Nat}{listed:Array Bool}{a:Act}{w:aj}(hr:Region.ready md ops listed=rs)(hne:rs≠[])
 (h:∀i∈rs,wpOp P ops Q i (fun a' w'=>(i∉tl→S w→S w')∧Ib P md ops Q S tl fuel (listed.setIfInBounds i true) a' w') a w):Ib P md ops Q S tl (fuel+1) listed a w :=
 ⟨fun h0=>absurd (hr▸h0) hne,hr▸h⟩
inductive xN where
 | nil:xN
 | take:Nat→xN→xN
 | move:Nat→xN→xN
 | one:Nat→xN→xN
 | two:Nat→xN→Nat→xN→xN
def xN.ok(md:Region.Mode)(ops:Array Oper)(tl:List Nat):xN→Nat→Array Bool→Bool→Bool
 | .nil,f,listed,_=>f == 0&&(Region.ready md ops listed).isEmpty
 | .take i t,f,listed,b=>decide (0<f)&&(ops[i]?).isSome&&Region.free md ops listed i&&(Region.ready md ops listed).contains i&&b&&tl.all (fun j=>Ug md ops 6 j i)&&t.ok md ops tl (f-1) (listed.setIfInBounds i true) b
 | .move i t,f,listed,b=>decide (0<f)&&(ops[i]?).isSome&&Region.free md ops listed i&&(Region.ready md ops listed).contains i&&t.ok md ops tl (f-1) (listed.setIfInBounds i true) b
 | .one i t,f,listed,b=>decide (0<f)&&(ops[i]?).isSome&&decide (Region.ready md ops listed=[i])&&t.ok md ops tl (f-1) (listed.setIfInBounds i true) (b && !tl.contains i)
 | .two i t j u,f,listed,b=>decide (0<f)&&(ops[i]?).isSome&&(ops[j]?).isSome&&decide (Region.ready md ops listed=[i,j])&&t.ok md ops tl (f-1) (listed.setIfInBounds i true) (b && !tl.contains i)&&u.ok md ops tl (f-1) (listed.setIfInBounds j true) (b && !tl.contains j)
def iR(P:bv)(ops:Array Oper)(S:aj→Prop)(tl:List Nat)(Q:Exit→Act→aj→Prop):xN→Act→aj→Prop
 | .nil,a,w=>Q .normal a w
 | .take i t,a,w=>bF P ops S (fun _ a w=>iR P ops S tl Q t a w) [((ops[i]?).getD default,true)] a w
 | .move i t,a,w=>bF P ops (fun _=>True) (fun _ a w=>iR P ops S tl Q t a w) [((ops[i]?).getD default,true)] a w
 | .one i t,a,w=>au P ops (Exit.then (fun a w=>(i∉tl→S w)∧iR P ops S tl Q t a w) Q) [(ops[i]?).getD default] a w
 | .two i t j u,a,w=>au P ops (Exit.then (fun a w=>(i∉tl→S w)∧iR P ops S tl Q t a w) Q) [(ops[i]?).getD default] a w∧au P ops (Exit.then (fun a w=>(j∉tl→S w)∧iR P ops S tl Q u a w) Q) [(ops[j]?).getD default] a w
theorem lO{Q:Exit→Act→aj→Prop}(hs:Region.noSelect ops=true)(hQ:∀c d v a w,Q (.panic c) (Act.put a d v) w→Q (.panic c) a w):∀(t:xN) (f:Nat) (listed:Array Bool) (b:Bool) (a:Act) (w:aj),
 t.ok md ops tl f listed b=true→ael md ops listed→(b=true→S w)→iR P ops S tl Q t a w→Ib P md ops Q S tl f listed a w
 | .nil,f,listed,b,a,w,hB,_,_,h=>by
  simp only[xN.ok,ba,beq_iff_eq] at hB;obtain⟨rfl,h2⟩:=hB;exact⟨by simpa using h2,h⟩
 | .take i t,f,listed,b,a,w,hB,D,hS,h=>by
  simp only[xN.ok,ba,decide_eq_true_eq] at hB;obtain⟨⟨⟨⟨⟨⟨h0,h1⟩,h2⟩,h3⟩,hb⟩,hn⟩,h4⟩:=hB;obtain⟨o,ho⟩:=ee.1 h1;simp only[iR,bF,ho,dx] at h;obtain⟨v,hy,hr⟩:=h;obtain⟨f,rfl⟩:∃g,f=g+1:=⟨f-1,by omega⟩
  have hrd:i∈Region.ready md ops listed:=by simpa using h3
  refine Ks (S':=S) ho (Region.noSelect_spec hs) (fun c a w=>hQ c _ v a w) (.inr ⟨fun _ h=>h,fun j hj=>⟨6,df.1 hn j hj⟩⟩) f listed a w (Region.free_spec ho h2) hrd D hy (.inl (hS hb)) ?_;exact lO hs hQ t f _ b _ _ h4 (D.set hrd) hS hr
 | .move i t,f,listed,b,a,w,hB,D,hS,h=>by
  simp only[xN.ok,ba,decide_eq_true_eq] at hB;obtain⟨⟨⟨⟨h0,h1⟩,h2⟩,h3⟩,h4⟩:=hB;obtain⟨o,ho⟩:=ee.1 h1;simp only[iR,bF,ho,dx] at h;obtain⟨v,hy,hr⟩:=h;obtain⟨f,rfl⟩:∃g,f=g+1:=⟨f-1,by omega⟩
  have hrd:i∈Region.ready md ops listed:=by simpa using h3
  refine Ks (S':=fun _=>True) ho (Region.noSelect_spec hs) (fun c a w=>hQ c _ v a w) (.inl fun _=>trivial) f listed a w (Region.free_spec ho h2) hrd D hy (.inr fun _=>trivial) ?_;exact lO hs hQ t f _ b _ _ h4 (D.set hrd) hS hr
 | .one i t,f,listed,b,a,w,hB,D,hS,h=>by
  simp only[xN.ok,ba,decide_eq_true_eq] at hB;obtain⟨⟨⟨h0,h1⟩,h2⟩,h4⟩:=hB;obtain⟨o,ho⟩:=ee.1 h1;obtain⟨f,rfl⟩:∃g,f=g+1:=⟨f-1,by omega⟩
  refine Uh h2 (by simp) fun j hj=>?_;obtain rfl:j=i:=by simpa using hj
  simp only[iR,ho,dx] at h;refine wpOp_mono (fun a' w' hh=>⟨fun hn _=>hh.1 hn,lO hs hQ t f _ _ a' w' h4 (D.set (by rw[h2];exact az.2 rfl)) (fun hb=>hh.1 ?_) hh.2⟩) (jL ho h);simp only[ba,gi,List.contains_eq_mem,decide_eq_false_iff_not] at hb;exact hb.2
 | .two i t j u,f,listed,b,a,w,hB,D,hS,h=>by
  simp only[xN.ok,ba,decide_eq_true_eq] at hB;obtain⟨⟨⟨⟨⟨h0,h1⟩,h1'⟩,h2⟩,h4⟩,h5⟩:=hB;obtain⟨o,ho⟩:=ee.1 h1;obtain⟨o',ho'⟩:=ee.1 h1';obtain⟨f,rfl⟩:∃g,f=g+1:=⟨f-1,by omega⟩
  simp only[iR,ho,ho',dx] at h;have hb2:∀{k:Nat},(b && !tl.contains k)=true→k∉tl:=fun {k} hb=>by
   simp only[ba,gi,List.contains_eq_mem,decide_eq_false_iff_not] at hb;exact hb.2
  refine Uh h2 (by simp) fun k hk=>?_;have hk':k=i∨k=j:=by simpa using hk
  rcases hk' with rfl | rfl
  · exact wpOp_mono (fun a' w' hh=>⟨fun hn _=>hh.1 hn,lO hs hQ t f _ _ a' w' h4 (D.set (by rw[h2];simp)) (fun hb=>hh.1 (hb2 hb)) hh.2⟩) (jL ho h.1)
  · exact wpOp_mono (fun a' w' hh=>⟨fun hn _=>hh.1 hn,lO hs hQ u f _ _ a' w' h5 (D.set (by rw[h2];simp)) (fun hb=>hh.1 (hb2 hb)) hh.2⟩) (jL ho' h.2)
theorem aq2(md:Region.Mode)(ops:Array Oper)(n:Nat):ael md ops (gp n false):=fun j oj _ hl=>by
 rcases fp j n with h | h
 · simp[h] at hl
 · simp[Nat.not_lt.2 h] at hl
variable {w w0:aj} {is:List It} {a:Act} {ds:List dw} {l:List ai}
theorem aoF{id:Nat}{ol:List Oper}(m:Mem w0 w is)(bs:List Bool)(tl:List Nat)(t:xN)(hm:P.follows .mixedOrders=true)(hB:(Region.noSelect ol.toArray&&t.ok .any ol.toArray tl ol.toArray.size (gp ol.toArray.size false) true)=true)
 (hQ:∀c d v a w,Q (.panic c) (Act.put a d v) w→Q (.panic c) a w)
 (h:∀u,Mem w0 u is→iR P ol.toArray (fun u=>Mem w0 u (pV bs is)) tl Q t a u):(Code.region id ol.toArray true).wp P Q a w:=by
 simp only[ba] at hB;have m':=m.ext' (gJ.refl w).drawn;exact wp_region_any hm (Uf _ _ _ _ (lO (S:=fun u=>Mem w0 u (pV bs is)) hB.1 hQ t _ _ true _ _ hB.2 (aq2 _ _ _) (fun _=>m'.sel bs) (h _ m')))
variable {o o':Oper} {i j:Nat} {t u:xN}
theorem afJ(h:Q .normal a w):iR P ops S tl Q .nil a w:=h
theorem jG(ho:(ops[i]?).getD default=o)(h:bF P ops S (fun _ a w=>iR P ops S tl Q t a w) [(o,true)] a w):iR P ops S tl Q (.take i t) a w:=by subst ho;exact h
theorem Ic(ho:(ops[i]?).getD default=o)(h:bF P ops (fun _=>True) (fun _ a w=>iR P ops S tl Q t a w) [(o,true)] a w):iR P ops S tl Q (.move i t) a w:=by subst ho;exact h
theorem tM(ho:(ops[i]?).getD default=o)(h:au P ops (Exit.then (fun a w=>(i∉tl→S w)∧iR P ops S tl Q t a w) Q) [o] a w):iR P ops S tl Q (.one i t) a w:=by subst ho;exact h
theorem aoG(ho:(ops[i]?).getD default=o)(ho':(ops[j]?).getD default=o')(h:au P ops (Exit.then (fun a w=>(i∉tl→S w)∧iR P ops S tl Q t a w) Q) [o] a w)(h':au P ops (Exit.then (fun a w=>(j∉tl→S w)∧iR P ops S tl Q u a w) Q) [o'] a w):iR P ops S tl Q (.two i t j u) a w:=by
 subst ho;subst ho';exact⟨h,h'⟩
end
end Go.Lith
namespace Go.Proofs.YtfekpcimgncioaaGreatDoor
open Go.Proofs.Tryz
open Go.RowKit Go.Lith
set_option maxRecDepth 100000
attribute [local irreducible] au cu fA bF cG Code.wp
attribute [local congr] nO fK fM fN fO fP iY fQ fR fS fT fU fV fW fX fY fZ gA dX dY gB gC gE gF gG jA cQ cR cE cP gD iZ dZ eA eB gH gI jD
variable{u:P3}{ts:List T3}{k:Nat}{t:T3}
theorem asK{v:P3}(h:ts[k]? = some t)(e:oL u v t=t):qQ u v (ts.take (k+1))=qQ u v (ts.take k)++[t]∧mO u v (ts.take (k+1))=mO u v (ts.take k):=by
 rw[bY h];unfold qQ mO;simp[e]
theorem akO{v:P3}(h:ts[k]? = some t)(e:¬oL u v t=t)(hn:(oL u v t).nd=true):mO u v (ts.take (k+1))=mO u v (ts.take k)++[t]∧qQ u v (ts.take (k+1))=qQ u v (ts.take k):=by
 rw[bY h];unfold qQ mO;simp[e,hn]
theorem asL{v:P3}(h:ts[k]? = some t)(e:¬oL u v t=t)(hn:(oL u v t).nd=false):mO u v (ts.take (k+1))=mO u v (ts.take k)∧qQ u v (ts.take (k+1))=qQ u v (ts.take k):=by
 rw[bY h];unfold qQ mO;simp[e,hn]
theorem afK{v:P3}{l m:List T3}(h:mO u v l=mO u v m):mP u v l=mP u v m:=by unfold mP;rw[h]
theorem aem{v:P3}(h:mO u v (ts.take (k+1))=mO u v (ts.take k)++[t]):mP u v (ts.take (k+1))=mP u v (ts.take k)++[oL u v t]:=by unfold mP;rw[h,ct];rfl
theorem akP(u v:P3)(l:List T3):(qQ u v l).length≤l.length:=ft ..
theorem aen(u v:P3)(l:List T3):(mO u v l).length≤l.length:=ft ..
theorem aaV(u v:P3)(l:List T3):(mP u v l).length=(mO u v l).length:=bf ..
theorem akQ{s:T3}:(s.a.x=t.a.x∧s.a.y=t.a.y∧s.a.z=t.a.z∧s.b.x=t.b.x∧s.b.y=t.b.y∧s.b.z=t.b.z∧s.c.x=t.c.x∧s.c.y=t.c.y∧s.c.z=t.c.z)↔s=t :=
 ⟨fun⟨h1,h2,h3,h4,h5,h6,h7,h8,h9⟩=>Md (P3.eq h1 h2 h3) (P3.eq h4 h5 h6) (P3.eq h7 h8 h9),fun h=>by rw[h];simp only[and_self]⟩
theorem aq3{g90 ga gf N cap ca:Nat}{A:Option Addr}{ea:Array de}{D:List (P3 × Hd)}{p q:P3}[I3 p][I3 q](w:aj)(hB90:gT w g90 [.slice A N cap,.map (some ga),.map (some gf)] 109)(hMa:iW w ga ea ca)(hDa:bJ pt Hd.v D ea ca)(hS:∀p,bQ w (pJ D p).A (pJ D p).n (ts.filter fun t=>t.has p)∧(pJ D p).n≤(pJ D p).cap)(hT:bQ w A N ts)(hN:ts.length≤10000000):dK prog 99 [.pointer (some ⟨g90,0,none⟩),pt p,pt q] w (fun v w'=>∃g91 gx ex cx gy ey cy Am nm cm Ao no co Ar nr cr,v=.pointer (some ⟨g91,0,none⟩)∧Mem w w' [bI g91 [.pointer (some ⟨g90,0,none⟩),.int .i64 p.x,.int .i64 p.y,.int .i64 p.z,.int .i64 q.x,.int .i64 q.y,.int .i64 q.z,.map (some gx),.map (some gy),.slice Am nm cm,.slice Ao no co,.slice Ar nr cr] 218,oI 39 9 Ar nr cr ((qQ p q ts).flatMap aM),oI 39 9 Ao no co ((mO p q ts).flatMap aM),oI 39 9 Am nm cm ((mP p q ts).flatMap aM),mI gy ey cy,mI gx ex cx]∧bJ pt bm (gS [] (nR ts p)) ex cx∧bJ pt bm (gS [] (nR ts q)) ey cy∧nm=(mP p q ts).length∧no=(mO p q ts).length∧nr=(qQ p q ts).length):=by
 refine⟨bP func99 (by kernel_rfl),?_⟩;have m:=Mem.refl w;have htl:=hT.len
 go_enter func99,ntmps99
 apply mR 7 [0] m;simp only[↓aC];intro g1 g2 u m;refine mh m [true,true] [(0,true),(3,true),(6,true),(1,true),(2,true),(4,true),(7,true),(5,false),(8,false),(9,true),(10,false),(11,true)] aD (by kernel_rfl) (bT (fun _ _ _ _ _ h=>h)) (ol:=?_) ?hol ?_
 case hol=>simp only[zw,zQ,zR];try rfl
 intro u m;refine Ps 7 [1,0,1,0] ?_;simp only[↓aC,aU];refine cF (bC rfl rfl (aaK (p:=p) _ (hB90.ext m.ext) (hMa.ext m.ext) hDa (fun z=>⟨((hS z).1).ext m.ext,(hS z).2⟩) hN) ?_);rintro v u e_ ⟨qx,esx,cx,rfl,hM,hDx⟩;replace m:=m.plus hM;clear hM;simp only[cg,bt] at m;refine aN ⟨m.sel [false,true,true],?_⟩;refine cF ?_;simp only[zz];refine bC rfl rfl (aaK (p:=q) _ (hB90.ext m.ext) (hMa.ext m.ext) hDa (fun z=>⟨((hS z).1).ext m.ext,(hS z).2⟩) hN) ?_;rintro v u e_ ⟨qy,esy,cy,rfl,hM,hDy⟩;replace m:=m.plus hM;clear hM;simp only[cg,bt] at m;refine aN ⟨m.sel [false,false,true,true],?_⟩;refine aS (Bt rfl rfl rfl rfl rfl) (cF ?_);simp only[zz];refine Wg m rfl ?_;intro g3 u m;refine aN ⟨m.sel [false,false,false,true,true],?_⟩;refine aS aP (bV ?_);simp only[zz];replace m:=m.nilO 39 9;replace m:=m.nilO 39 9;replace m:=m.nilO 39 9;replace m:=m.pull 3 rfl;simp only[dM,dN,zF,zG] at m;apply aW 6 [0] m;simp only[↓aC,aja,aa];refine aR rfl ((hB90.ext m.ext).lies1 sP rfl) ?_;simp only[zz];apply aL 4 [0] m;simp only[↓aC,eV];refine bX [28] [9,10,11,29,30,31,32,33,34,35,36,37,38,39,40,41,42,43,44,45,46,47,48,49,50,51,52,53,54,55,56,57,58,59,60,61,62,63,64,65,66,67,68,69,70,71,72,73,74,75] (fun n vs wl=>∃(k:Nat) (A5 A6 A7:Option Addr) (cap5 cap6 cap7:Nat),vs=[.int .i64 (k:Int)]∧Mem w wl [bI g3 [.pointer (some ⟨g90,0,none⟩),.int .i64 p.x,.int .i64 p.y,.int .i64 p.z,.int .i64 q.x,.int .i64 q.y,.int .i64 q.z,.map (some qx),.map (some qy),.slice A5 (mP p q (ts.take k)).length cap5,.slice A6 (mO p q (ts.take k)).length cap6,.slice A7 (qQ p q (ts.take k)).length cap7] 218,oI 39 9 A7 (qQ p q (ts.take k)).length cap7 ((qQ p q (ts.take k)).flatMap aM),oI 39 9 A6 (mO p q (ts.take k)).length cap6 ((mO p q (ts.take k)).flatMap aM),oI 39 9 A5 (mP p q (ts.take k)).length cap5 ((mP p q (ts.take k)).flatMap aM),mI qy esy cy,mI qx esx cx,bI g2 [.int .i64 q.x,.int .i64 q.y,.int .i64 q.z] 30,bI g1 [.int .i64 p.x,.int .i64 p.y,.int .i64 p.z] 30]∧(k≤N)∧(n=N-k)) ?_ ?_
 ·
  exact⟨_,0,_,_,_,_,_,_,rfl,m,cq _,rfl⟩
 · intro n vs wr hI u K1 hK1
   obtain⟨k,A5,A6,A7,cap5,cap6,cap7,rfl,m,hk,hn⟩:=hI;simp only[zu,zF,zG];apply aK 5 [0,0] m;simp only[↓aC];refine bA rfl ?_ ?_<;>intro hc1
   ·
    obtain⟨t,ht,hti,a,hA,hrow⟩:=hT.get (i:=k) (by omega);subst hA;have hle1:=akP p q (ts.take k);have hle2:=aen p q (ts.take k);have hle3:=aaV p q (ts.take k);rw[bw] at hle1 hle2;apply aK 5 [0] m;simp only[↓aC];refine aB (aF bL aO rfl rfl (by omega) (by omega) (cH (ag _))) ?_;simp only[zz];refine aR rfl ((hrow.ext m.ext).lies cK aO) ?_;simp only[zz];apply kP 8 [0,0,8,7,0] m;simp only[↓aC,nC,gX,aU,aa];intro g4 u m;refine wA m rfl rfl (afw (t:=t) (p:=p) (q:=q)) 12 [0,0,1,0] ?_;simp only[↓aC,nC,gX,aa];intro g5 u m;refine aB (Wq rfl rfl) ?_;apply aL 2 [0] m;simp only[↓aC];refine bA rfl ?_ ?_<;>intro hc2
    ·
     refine aoF m [true,true,true,false,true,true,true,true,true,true] [10] (.take 0 (.take 1 (.take 2 (.take 3 (.take 4 (.take 5 (.one 6 (.one 7 (.take 8 (.take 9 (.one 10 .nil))))))))))) aD (by kernel_rfl) (bT (fun _ _ _ _ _ h=>h)) ?_;intro u m;refine jG (by simp only[zw];rfl) (aS aG (bV (jG (by simp only[zw];rfl) (aS aG (bV (jG (by simp only[zw];rfl) (aS (cY rfl) (bV (jG (by simp only[zw];rfl) (aS (bH (c:=0) nV rfl gZ rfl rfl) ?_))))))))));simp only[zz];refine bV (jG (by simp only[zw];rfl) (dF rfl (fun u m=>((m.b 2 rfl).lies1 sP rfl)) ?_));simp only[zz];refine bV (jG (by simp only[zw];rfl) (dF rfl (fun u m=>((m.b 1 rfl).full cK aO)) ?_));simp only[zz];refine bV (tM (by simp only[zw];rfl) ?_);refine eF rfl ?_;intro u g6 e_ h_ k_;replace m:=m.newB e_ h_ k_;refine aN ⟨fun _=>m.sel [false,true,true,true,false,true,true,true,true,true,true],?_⟩;refine tM (by simp only[zw];rfl) ?_;simp only[zz];refine bW m 4 rfl rfl bL gR rfl (by decide) rfl rfl rfl (m.b 0 rfl).rowsO (jX rfl) (by have:=hle1;omega) (by have:=hle1;omega) ?_;intro A7 cap7 u m;simp only[zF,zG] at m;refine aN ⟨fun _=>m.sel [false,true,true,true,false,true,true,true,true,true,true],?_⟩;refine jG (by simp only[zw];rfl) (aS (cY rfl) (bV (jG (by simp only[zw];rfl) (aS (bH (c:=0) nV rfl gZ rfl rfl) (bV (tM (by simp only[zw];rfl) ?_))))));simp only[zz];refine cX (off:=11) m 3 rfl rfl rfl gZ (kG rfl) ⟨rfl,rfl⟩ ?_;intro u m;simp only[zz,zy,zx,over,aa] at m;refine aN ⟨fun h=>absurd (by decide) h,?_⟩;refine afJ ?_;apply aW 6 [0] m;simp only[↓aC];refine⟨by omega,?_⟩;have hcs:=asK (u:=p) (v:=q) ht (akQ.1 hc2);have hcm:=afK hcs.2;rw[show ((qQ p q (ts.take k))).flatMap aM++_=(qQ p q (ts.take (k+1))).flatMap aM by rw[hcs.1,aw];rfl,show ((qQ p q (ts.take k))).length+1=(qQ p q (ts.take (k+1))).length by rw[hcs.1,a_];rfl] at m;rw[←hcs.2,←hcm] at m;exact hK1 (N-(k+1)) _ _ (by omega) (by kernel_rfl) ⟨k+1,_,_,_,_,_,_,rfl,(m.sel [false,false,false,true,true,true,true,true,true,true,true]),by omega,rfl⟩
    ·
     apply aK 5 [0] m;simp only[↓aC];refine eG rfl ?_ ?_<;>intro hc3
     ·
      refine aoF m [true,true,true,true,false,false,true,true,true,true] [18,21] (.take 0 (.move 1 (.take 2 (.take 3 (.take 4 (.take 5 (.take 6 (.take 9 (.take 10 (.take 11 (.take 12 (.take 13 (.two 7 (.two 8 (.one 14 (.one 15 (.take 16 (.take 17 (.one 18 (.move 19 (.move 20 (.one 21 .nil)))))))) 14 (.one 8 (.one 15 (.take 16 (.take 17 (.one 18 (.move 19 (.move 20 (.one 21 .nil))))))))) 14 (.one 7 (.one 8 (.one 15 (.take 16 (.take 17 (.one 18 (.move 19 (.move 20 (.one 21 .nil)))))))))))))))))))))) aD (by kernel_rfl) (bT (fun _ _ _ _ _ h=>h)) ?_;intro u m;refine jG (by simp only[zw];rfl) (aS aG (bV (Ic (by simp only[zw];rfl) (aS aG (bV (jG (by simp only[zw];rfl) (aS aG (bV (jG (by simp only[zw];rfl) (aS (cY rfl) ?_))))))))));simp only[zz];refine bV (jG (by simp only[zw];rfl) (aS (bH (c:=0) nV rfl gZ rfl rfl) (bV (jG (by simp only[zw];rfl) ?_))));simp only[zz];refine dF rfl (fun u m=>((m.b 2 rfl).lies1 sP rfl)) ?_;simp only[zz];refine bV (jG (by simp only[zw];rfl) (dF rfl (fun u m=>((m.b 0 rfl).full cK aO)) ?_));simp only[zz];refine bV (jG (by simp only[zw];rfl) (aS aG (bV (jG (by simp only[zw];rfl) (aS (cY rfl) (bV (jG (by simp only[zw];rfl) (aS (bH (c:=0) nV rfl gZ rfl rfl) (bV (jG (by simp only[zw];rfl) ?_))))))))));simp only[zz];refine dF rfl (fun u m=>((m.b 2 rfl).lies1 sP rfl)) ?_;simp only[zz];refine bV (jG (by simp only[zw];rfl) (dF rfl (fun u m=>((m.b 1 rfl).full cK aO)) ?_));simp only[zz];refine bV ?_;refine aoG (by simp only[zw];rfl) (by simp only[zw];rfl) ?_ ?_
      ·
       refine eF rfl ?_;intro u g6 e_ h_ k_;replace m:=m.newB e_ h_ k_;refine aN ⟨fun _=>m.sel [false,true,true,true,true,false,false,true,true,true,true],?_⟩;simp only[zz];refine aoG (by simp only[zw];rfl) (by simp only[zw];rfl) ?_ ?_
       ·
        refine bW m 6 rfl rfl bL gR rfl (by decide) rfl rfl rfl (m.b 0 rfl).rowsO (jX rfl) (by have:=hle3;omega) (by have:=hle3;omega) ?_;intro A5 cap5 u m;simp only[zF,zG] at m;refine aN ⟨fun _=>m.sel [false,true,true,true,true,false,false,true,true,true,true],?_⟩;refine tM (by simp only[zw];rfl) ?_;simp only[zz];refine eF rfl ?_;intro u g7 e_ h_ k_;replace m:=m.newB e_ h_ k_;refine aN ⟨fun _=>m.sel [false,false,true,true,true,true,false,false,true,true,true,true],?_⟩;refine tM (by simp only[zw];rfl) ?_;simp only[zz];refine bW m 6 rfl rfl bL gR rfl (by decide) rfl rfl rfl (m.b 0 rfl).rowsO (jX rfl) (by have:=hle2;omega) (by have:=hle2;omega) ?_;intro A6 cap6 u m;simp only[zF,zG] at m;refine aN ⟨fun _=>m.sel [false,false,true,true,true,true,false,false,true,true,true,true],?_⟩;refine jG (by simp only[zw];rfl) (aS (cY rfl) (bV (jG (by simp only[zw];rfl) (aS (bH (c:=0) nV rfl gZ rfl rfl) (bV (tM (by simp only[zw];rfl) ?_))))));simp only[zz];refine cX (off:=9) m 4 rfl rfl rfl gZ (kG rfl) ⟨rfl,rfl⟩ ?_;intro u m;simp only[zz,zy,zx,over,aa] at m;refine aN ⟨fun h=>absurd (by decide) h,?_⟩;refine Ic (by simp only[zw];rfl) (aS (cY rfl) (bV (Ic (by simp only[zw];rfl) (aS (bH (c:=0) nV rfl gZ rfl rfl) (bV (tM (by simp only[zw];rfl) ?_))))));simp only[zz];refine cX (off:=10) m 4 rfl rfl rfl gZ (kG rfl) ⟨rfl,rfl⟩ ?_;intro u m;simp only[zz,zy,zx,over,aa] at m;refine aN ⟨fun h=>absurd (by decide) h,?_⟩;refine afJ ?_;apply aW 6 [0] m;simp only[↓aC];refine⟨by omega,?_⟩;have hcs:=akO (u:=p) (v:=q) ht (fun e=>hc2 (akQ.2 e)) hc3;have hcm:=aem hcs.1;rw[show ((mO p q (ts.take k))).flatMap aM++_=(mO p q (ts.take (k+1))).flatMap aM by rw[hcs.1,aw];rfl,show ((mO p q (ts.take k))).length+1=(mO p q (ts.take (k+1))).length by rw[hcs.1,a_];rfl] at m;rw[show ((mP p q (ts.take k))).flatMap aM++_=(mP p q (ts.take (k+1))).flatMap aM by rw[hcm,aw];rfl,show ((mP p q (ts.take k))).length+1=(mP p q (ts.take (k+1))).length by rw[hcm,a_];rfl] at m;rw[←hcs.2] at m;exact hK1 (N-(k+1)) _ _ (by omega) (by kernel_rfl) ⟨k+1,_,_,_,_,_,_,rfl,(m.sel [false,false,false,false,true,true,true,true,true,true,true,true]),by omega,rfl⟩
       ·
        refine eF rfl ?_;intro u g7 e_ h_ k_;replace m:=m.newB e_ h_ k_;refine aN ⟨fun _=>m.sel [false,false,true,true,true,true,false,false,true,true,true,true],?_⟩;refine tM (by simp only[zw];rfl) ?_;simp only[zz];refine bW m 7 rfl rfl bL gR rfl (by decide) rfl rfl rfl (m.b 1 rfl).rowsO (jX rfl) (by have:=hle3;omega) (by have:=hle3;omega) ?_;intro A5 cap5 u m;simp only[zF,zG] at m;refine aN ⟨fun _=>m.sel [false,false,true,true,true,true,false,false,true,true,true,true],?_⟩;refine tM (by simp only[zw];rfl) ?_;simp only[zz];refine bW m 6 rfl rfl bL gR rfl (by decide) rfl rfl rfl (m.b 0 rfl).rowsO (jX rfl) (by have:=hle2;omega) (by have:=hle2;omega) ?_;intro A6 cap6 u m;simp only[zF,zG] at m;refine aN ⟨fun _=>m.sel [false,false,true,true,true,true,false,false,true,true,true,true],?_⟩;refine jG (by simp only[zw];rfl) (aS (cY rfl) (bV (jG (by simp only[zw];rfl) (aS (bH (c:=0) nV rfl gZ rfl rfl) (bV (tM (by simp only[zw];rfl) ?_))))));simp only[zz];refine cX (off:=9) m 4 rfl rfl rfl gZ (kG rfl) ⟨rfl,rfl⟩ ?_;intro u m;simp only[zz,zy,zx,over,aa] at m;refine aN ⟨fun h=>absurd (by decide) h,?_⟩;refine Ic (by simp only[zw];rfl) (aS (cY rfl) (bV (Ic (by simp only[zw];rfl) (aS (bH (c:=0) nV rfl gZ rfl rfl) (bV (tM (by simp only[zw];rfl) ?_))))));simp only[zz];refine cX (off:=10) m 4 rfl rfl rfl gZ (kG rfl) ⟨rfl,rfl⟩ ?_;intro u m;simp only[zz,zy,zx,over,aa] at m;refine aN ⟨fun h=>absurd (by decide) h,?_⟩;refine afJ ?_;apply aW 6 [0] m;simp only[↓aC];refine⟨by omega,?_⟩;have hcs:=akO (u:=p) (v:=q) ht (fun e=>hc2 (akQ.2 e)) hc3;have hcm:=aem hcs.1;rw[show ((mO p q (ts.take k))).flatMap aM++_=(mO p q (ts.take (k+1))).flatMap aM by rw[hcs.1,aw];rfl,show ((mO p q (ts.take k))).length+1=(mO p q (ts.take (k+1))).length by rw[hcs.1,a_];rfl] at m;rw[show ((mP p q (ts.take k))).flatMap aM++_=(mP p q (ts.take (k+1))).flatMap aM by rw[hcm,aw];rfl,show ((mP p q (ts.take k))).length+1=(mP p q (ts.take (k+1))).length by rw[hcm,a_];rfl] at m;rw[←hcs.2] at m;exact hK1 (N-(k+1)) _ _ (by omega) (by kernel_rfl) ⟨k+1,_,_,_,_,_,_,rfl,(m.sel [false,false,false,false,true,true,true,true,true,true,true,true]),by omega,rfl⟩
      ·
       refine eF rfl ?_;intro u g6 e_ h_ k_;replace m:=m.newB e_ h_ k_;refine aN ⟨fun _=>m.sel [false,true,true,true,true,false,false,true,true,true,true],?_⟩;refine tM (by simp only[zw];rfl) ?_;simp only[zz];refine eF rfl ?_;intro u g7 e_ h_ k_;replace m:=m.newB e_ h_ k_;refine aN ⟨fun _=>m.sel [false,false,true,true,true,true,false,false,true,true,true,true],?_⟩;refine tM (by simp only[zw];rfl) ?_;simp only[zz];refine bW m 7 rfl rfl bL gR rfl (by decide) rfl rfl rfl (m.b 0 rfl).rowsO (jX rfl) (by have:=hle3;omega) (by have:=hle3;omega) ?_;intro A5 cap5 u m;simp only[zF,zG] at m;refine aN ⟨fun _=>m.sel [false,false,true,true,true,true,false,false,true,true,true,true],?_⟩;refine tM (by simp only[zw];rfl) ?_;simp only[zz];refine bW m 6 rfl rfl bL gR rfl (by decide) rfl rfl rfl (m.b 1 rfl).rowsO (jX rfl) (by have:=hle2;omega) (by have:=hle2;omega) ?_;intro A6 cap6 u m;simp only[zF,zG] at m;refine aN ⟨fun _=>m.sel [false,false,true,true,true,true,false,false,true,true,true,true],?_⟩;refine jG (by simp only[zw];rfl) (aS (cY rfl) (bV (jG (by simp only[zw];rfl) (aS (bH (c:=0) nV rfl gZ rfl rfl) (bV (tM (by simp only[zw];rfl) ?_))))));simp only[zz];refine cX (off:=9) m 4 rfl rfl rfl gZ (kG rfl) ⟨rfl,rfl⟩ ?_;intro u m;simp only[zz,zy,zx,over,aa] at m;refine aN ⟨fun h=>absurd (by decide) h,?_⟩;refine Ic (by simp only[zw];rfl) (aS (cY rfl) (bV (Ic (by simp only[zw];rfl) (aS (bH (c:=0) nV rfl gZ rfl rfl) (bV (tM (by simp only[zw];rfl) ?_))))));simp only[zz];refine cX (off:=10) m 4 rfl rfl rfl gZ (kG rfl) ⟨rfl,rfl⟩ ?_;intro u m;simp only[zz,zy,zx,over,aa] at m;refine aN ⟨fun h=>absurd (by decide) h,?_⟩;refine afJ ?_;apply aW 6 [0] m;simp only[↓aC];refine⟨by omega,?_⟩;have hcs:=akO (u:=p) (v:=q) ht (fun e=>hc2 (akQ.2 e)) hc3;have hcm:=aem hcs.1;rw[show ((mO p q (ts.take k))).flatMap aM++_=(mO p q (ts.take (k+1))).flatMap aM by rw[hcs.1,aw];rfl,show ((mO p q (ts.take k))).length+1=(mO p q (ts.take (k+1))).length by rw[hcs.1,a_];rfl] at m;rw[show ((mP p q (ts.take k))).flatMap aM++_=(mP p q (ts.take (k+1))).flatMap aM by rw[hcm,aw];rfl,show ((mP p q (ts.take k))).length+1=(mP p q (ts.take (k+1))).length by rw[hcm,a_];rfl] at m;rw[←hcs.2] at m;exact hK1 (N-(k+1)) _ _ (by omega) (by kernel_rfl) ⟨k+1,_,_,_,_,_,_,rfl,(m.sel [false,false,false,false,true,true,true,true,true,true,true,true]),by omega,rfl⟩
     ·
      apply aK 7 [0] m;simp only[↓aC];refine⟨by omega,?_⟩;have hcs:=asL (u:=p) (v:=q) ht (fun e=>hc2 (akQ.2 e)) hc3;have hcm:=afK hcs.1;rw[←hcs.1,←hcs.2,←hcm] at m;exact hK1 (N-(k+1)) _ _ (by omega) (by kernel_rfl) ⟨k+1,_,_,_,_,_,_,rfl,(m.sel [false,false,true,true,true,true,true,true,true,true]),by omega,rfl⟩
   ·
    obtain rfl:k=N:=by omega
    rw[show ts.take k=ts from List.take_of_length_le (by omega)] at m;apply aK 7 [] m;simp only[↓aC];exact aT rfl rfl ⟨_,rfl,m.ext,_,_,_,_,_,_,_,_,_,_,_,_,_,_,_,_,rfl,m.sel [true,true,true,true,true,true,false,false],hDx,hDy,rfl,rfl,rfl⟩
end Go.Proofs.YtfekpcimgncioaaGreatDoor
namespace Go.Lith
open Go.RowKit
def Ie(js:List It):It where
 own b:=∃j∈js,j.own b
 P w:=(∀j∈js,j.P w)∧js.Pairwise Ap
 lt w b h hb:=by
  obtain⟨j,hj,hb⟩:=hb;exact j.lt w b (h.1 j hj) hb
 st w w' h hs k:=⟨fun j hj=>j.st w w' (h.1 j hj) hs fun b hb=>k b ⟨j,hj,hb⟩,h.2⟩
section
variable {w0 w:aj} {is js:List It}
theorem Mem.bagNil(m:Mem w0 w is):Mem w0 w (Ie []::is) :=
 ⟨m.ext,fun i hi=>by
  rcases an.1 hi with rfl | hi
  · exact⟨fun j hj=>(by cases hj),List.Pairwise.nil⟩
  · exact m.all i hi,fun i hi b hb=>by
  rcases an.1 hi with rfl | hi
  · obtain⟨j,hj,_⟩:=hb;cases hj
  · exact m.ge i hi b hb,bu.2 ⟨fun i _ b ⟨j,hj,_⟩=>(by cases hj),m.nd⟩⟩
theorem Mem.bagPull(m:Mem w0 w (Ie js::is))(i:Nat){j:It}(hj:js[i]? = some j):Mem w0 w (j::Ie (js.eraseIdx i)::is):=by
 have hp:=Lo js i j hj;obtain⟨h1,h2⟩:=bu.1 m.nd;have P:=m.all _ (bh ..);have hjm:=bj hj;have hsub:∀x∈js.eraseIdx i,x∈js:=fun x hx=>hp.mem_iff.1 (bg _ hx);have hpw:=bu.1 ((hp.pairwise_iff (fun {a b} (h:Ap a b)=>h.symm)).2 P.2);refine⟨m.ext,fun x hx=>?_,fun x hx b hb=>?_,bu.2 ⟨fun x hx b hb hxb=>?_,bu.2 ⟨fun x hx b ⟨y,hy,hb⟩=>h1 x hx b ⟨y,hsub y hy,hb⟩,h2⟩⟩⟩
 · rcases an.1 hx with rfl | hx
   · exact P.1 x hjm
   · rcases an.1 hx with rfl | hx
     · exact⟨fun y hy=>P.1 y (hsub y hy),hpw.2⟩
     · exact m.all x (bg _ hx)
 · rcases an.1 hx with rfl | hx
   · exact m.ge _ (bh ..) b ⟨x,hjm,hb⟩
   · rcases an.1 hx with rfl | hx
     · obtain⟨y,hy,hb⟩:=hb
       exact m.ge _ (bh ..) b ⟨y,hsub y hy,hb⟩
     · exact m.ge x (bg _ hx) b hb
 · rcases an.1 hx with rfl | hx
   · obtain⟨y,hy,hyb⟩:=hxb
     exact hpw.1 y hy b hb hyb
   · exact h1 x hx b ⟨j,hjm,hb⟩ hxb
theorem Mem.bagPush{j:It}(m:Mem w0 w (j::Ie js::is)):Mem w0 w (Ie (j::js)::is):=by
 obtain⟨h1,h2⟩:=bu.1 m.nd;obtain⟨h3,h4⟩:=bu.1 h2;have P:=m.all (Ie js) (bg _ (bh ..));have Pj:=m.all j (bh ..);refine⟨m.ext,fun x hx=>?_,fun x hx b hb=>?_,bu.2 ⟨fun x hx b ⟨y,hy,hb⟩ hxb=>?_,h4⟩⟩
 · rcases an.1 hx with rfl | hx
   · refine⟨fun y hy=>?_,bu.2 ⟨fun y hy b hb hyb=>h1 _ (bh ..) b hb ⟨y,hy,hyb⟩,P.2⟩⟩
     rcases an.1 hy with rfl | hy
     · exact Pj
     · exact P.1 y hy
   · exact m.all x (bg _ (bg _ hx))
 · rcases an.1 hx with rfl | hx
   · obtain⟨y,hy,hb⟩:=hb
     rcases an.1 hy with rfl | hy
     · exact m.ge y (bh ..) b hb
     · exact m.ge (Ie js) (bg _ (bh ..)) b ⟨y,hy,hb⟩
   · exact m.ge x (bg _ (bg _ hx)) b hb
 · rcases an.1 hy with rfl | hy
   · exact h1 x (bg _ hx) b hb hxb
   · exact h3 x hx b ⟨y,hy,hb⟩ hxb
end
end Go.Lith
