/-
 Texts of one claim, laid together: Round, Sides, LoopF, Seq, K26, Near2, Ifc, Tch1, K12, K13, K14, K15, K17, Tail, K18, Nest.
-/
import Derived.RangeFuncNested
import Derived.OrdersIn
import Derived.RangeFuncCalls
import Derived.RangeFuncBox
import Derived.Stop.Asserts
import Derived.Test.YtfekpcimgncioaaGreatDoorCP6
open Nat renaming reduceAdd→aa,reduceMul→ag,le_refl→aq,zero_add→au,le_trans→ba,zero_le→cv,lt_or_ge→eu,reduceSub→km,not_lt_zero→nq
open Int renaming reduceToNat→ad,toNat_natCast→ah,reduceAdd→ak,lt_trichotomy→po
open Go renaming Value→ai,World→aj,wp_region_lit→ao,wpList→ar,TypeId→az,Program→br,Operand→bw,wpQuiet→cw,MapEntry→c_,execOp→dm,Deferred→dz,wp_ret→jf,wp_block→jt
open List renaming mem_cons→an,getElem?_eq_some_iff→ap,length_cons→av,length_append→aw,flatMap_append→ay,mem_singleton→bf,mem_cons_of_mem→bg,mem_of_getElem?→bh,mem_append→bi,map_cons→bj,mem_cons_self→bm,length_take→bp,pairwise_cons→bt,length_nil→bv,length_map→bx,nil_append→b_,not_mem_nil→cg,cons_append→cn,map_append→ct,all_eq_true→de,range→df,getElem?_drop→dj,mem_filter→dw,map_nil→dx,append_nil→fa,toList_toArray→ff,mem_map_of_mem→fk,length_filter_le→fu,map_toArray→fz,size_toArray→gm,filter_cons→ib,filter_append→il,append_toArray→iw,push_toArray→jd,filter_nil→nu
open Bool renaming and_eq_true→be,or_eq_true→ep,not_false→fh,not_true→fi,not_eq_true'→fj,eq_iff_iff→gv,or_eq_false_iff→ie,or_true→pz
open Go.Value renaming bool→bn
open Go.Oper renaming mk→bu,upon→ny,uponIn→pq,semAt→qn
open Go.Exit renaming inBlock→dl
open Option renaming getD_some→dq,isSome_iff_exists→eh
open Array renaming getElem?_eq_some_iff→ee,replicate→f_,replicate_succ→ii,replicate_zero→ij,getElem?_setIfInBounds_ne→iy
set_option maxHeartbeats 8000000
set_option linter.unusedSimpArgs false
set_option linter.unusedVariables false
set_option linter.unusedSectionVars false
namespace Go.Lith
open Go.RowKit
variable{β:Type}
def Oh(o:Oper):Bool:=match o.op with | .defer _=>false | _=>true
theorem ak1{o:Oper}(h:Oh o=true):∀c,o.op≠.defer c:=fun c e=>by unfold Oh at h;rw[e] at h;cases h
section
variable {P:br} {Q:Exit→Act→aj→Prop} {r n:Nat}
theorem aaM{row:String}{args:Array ai}{w:aj}{R:ai→aj→Prop}(h:Rows P row args w R):RowsIn (Fence.wide.inRound r) n P row args w R :=
 fun c cs _=>let ⟨v,w',q,s⟩:=h c cs;⟨v,w',q,stepsIn_wide.2 s⟩
theorem Vv{f:FuncId}{args:Array ai}{w:aj}{R:Ending→aj→Prop}(h:Calls P f args w R):CallsIn (Fence.wide.inRound r) n P f args w R :=
 (callsIn_wide (n:=n)).2 h
theorem Oper.wpIn_of{o:Oper}{a:Act}{w:aj}{K:Act→aj→Prop}(hd:Oh o=true)(h:o.wp P a w K Q):o.wpIn (Fence.wide.inRound r) n P a w K Q:=by
 unfold Oper.wp at h;refine⟨fun _ _=>trivial,?_⟩;rw[Oper.semAt_eq _ _ _ (ak1 hd)];generalize (dm a.eval o).run P w=z at *
 have h0:(Fence.wide.inRound r).depth.isSome=true→1≤n:=fun h=>by cases h
 cases z with
 | ok x w'=>cases x <;> simp only[ny,pq] at h ⊢ <;> first | exact h | exact⟨h0,Vv h⟩ | exact⟨h0,aaM h⟩ | exact h.elim
 | halt x w'=>cases x <;> simp only[ny,pq] at h ⊢ <;> exact h
theorem Dn{ops:Array Oper}(hq:¬LetsOut Q):∀(l:List Oper) (a:Act) (w:aj),l.all Oh=true→ar P ops Q l a w→wpListIn (Fence.wide.inRound r) n P ops Q l a w
 | [],a,w,_,h=>h
 | o::l,a,w,hd,h=>by
  simp only[List.all_cons,be] at hd;simp only[ar] at h;simp only[wpListIn];split
  · rename_i hw
    rw[if_pos hw] at h;rcases h with h | ⟨_,h⟩
    · exact Oper.wpIn_of hd.1 (Oper.wp_mono (fun a w k=>Dn hq l a w hd.2 k) h)
    · exact absurd h hq
  · rename_i hw
    rw[if_neg hw] at h;exact⟨fun _ _=>trivial,Dn hq l _ w hd.2 h⟩
theorem Ai{md:Region.Mode}{ops:Array Oper}(hq:¬LetsOut Q)(hd:∀(i:Nat) (o:Oper),ops[i]? = some o→Oh o=true):∀(f:Nat) (listed:Array Bool) (a:Act) (w:aj),wpAny P md ops Q f listed a w→wpAnyIn (Fence.wide.inRound r) n P md ops Q f listed a w
 | 0,listed,a,w,h=>h
 | f+1,listed,a,w,h=>by
  refine⟨h.1,fun i hi=>?_⟩;have h2:=h.2 i hi;unfold wpOp at h2;unfold wpOpIn;split
  · rename_i hn
    simp only[hn] at h2;exact Ai hq hd f _ a w h2
  · rename_i o ho
    simp only[ho] at h2;split
    · rename_i hw
      rw[if_pos hw] at h2;rcases h2 with h2 | ⟨_,h2⟩
      · exact Oper.wpIn_of (hd i o ho) (Oper.wp_mono (fun a w k=>Ai hq hd f _ a w k) h2)
      · exact absurd h2 hq
    · rename_i hw
      rw[if_neg hw] at h2;exact⟨fun _ _=>trivial,Ai hq hd f _ _ w h2⟩
class Ge(Q:Exit→Act→aj→Prop):Prop where
 h:¬LetsOut Q
instance {K:Act→aj→Prop}[q:Ge Q]:Ge (Exit.then K Q):=⟨fun⟨a,w,k⟩=>q.h ⟨a,w,k⟩⟩
instance {id:Nat}[q:Ge Q]:Ge (dl id Q):=⟨fun⟨a,w,k⟩=>q.h ⟨a,w,k⟩⟩
instance {α:Type}{B:Nat}{Kp:aj→aj→Prop}{I:List α→aj→Prop}{Ix:Code→List α→aj→Prop}{xs:List α}{W:aj}:Ge (ownPostG B Kp I Ix xs W):=⟨fun⟨_,_,k⟩=>k⟩
instance:Ge (fun _ _ _=>False):=⟨fun⟨_,_,k⟩=>k⟩
theorem bY{id:Nat}{l:List Oper}{a:Act}{w:aj}[hq:Ge Q](h:ar P l.toArray Q l a w)(hd:l.all Oh=true:=by rfl):(Code.region id l.toArray false).wpIn (Fence.wide.inRound r) n P Q a w:=wpIn_region_lit (Dn hq.h l a w hd h)
theorem oB{c1 c2:Code}{a:Act}{w:aj}(h:∀K:Act→aj→Prop,(∀a w,c2.wpIn (Fence.wide.inRound r) n P Q a w→K a w)→c1.wpIn (Fence.wide.inRound r) n P (Exit.then K Q) a w):(Code.seq c1 c2).wpIn (Fence.wide.inRound r) n P Q a w:=wpIn_seq_k h
variable {l:List ai} {ds:List dz} {w:aj} {c1 c2:Code}
theorem Aj{x:bw}{b:Bool}(hx:ev l x=.bool b)(ht:b=true→c1.wpIn (Fence.wide.inRound r) n P Q (Fr l ds) w)(hf:b=false→c2.wpIn (Fence.wide.inRound r) n P Q (Fr l ds) w):(Code.cond x c1 c2).wpIn (Fence.wide.inRound r) n P Q (Fr l ds) w:=by
 refine wpIn_cond (t:=b) (by rw[kJ,cD];exact hx) ?_;cases b with
 | false=>exact hf rfl
 | true=>exact ht rfl
theorem pH{id:Nat}{c:Code}{a:Act}(h:c.wpIn (Fence.wide.inRound r) n P (dl id Q) a w):(Code.block id c).wpIn (Fence.wide.inRound r) n P Q a w:=wpIn_block h
theorem ak2{a:Act}(h:Q .normal a w):Code.skip.wpIn (Fence.wide.inRound r) n P Q a w:=wpIn_skip h
theorem Pt{a:Act}(h:Q .ret a w):Code.ret.wpIn (Fence.wide.inRound r) n P Q a w:=wpIn_ret h
theorem Bi{C:aj→Prop}{id:Nat}{a:Act}{l:List Oper}(k:Nat)(hq:¬LetsOut Q)(hd:l.all Oh=true)(hm:P.follows .mixedOrders=true)(hB:Region.lexTailB .any l.toArray k=true)
 (hC:C { w with drawn:=w.drawn+1 })
 (h:cw P l.toArray C (fun a'=>∀w',C w'→ar P l.toArray Q (l.drop k) a' w') (l.take k) a):(Code.region id l.toArray true).wpIn (Fence.wide.inRound r) n P Q a w:=by
 simp only[Region.lexTailB,be,decide_eq_true_eq] at hB;obtain⟨⟨⟨⟨hsel,hn⟩,hs⟩,hc⟩,hlex⟩:=hB;have hn':k<l.length:=by simpa using hn
 have htl:(l.take k).length=k:=by simp;omega
 have hdl:(l.drop k).length=l.toArray.size-k:=by simp
 have inv0:HeadInv .any l.toArray k (f_ l.toArray.size false) :=
  ⟨by simp,fun j oj _ hl=>(by rw[getD_replicate_false] at hl;cases hl),fun t _ ht=>getD_in (by simpa using ht) (getD_replicate_false _ _)⟩
 have H:=yC (md:=.any) (g:=l.toArray.size-k) hsel hs hc hn (l.take k) 0 _ a (fun j hj=>by
  have hj':j<k:=by rw[htl] at hj;exact hj
  simp[hj']) (by simpa using htl) inv0 (by rw[htl];exact hlex) h
 refine wpIn_region_any hm ?_;have:=uI (Q':=Q) (g:=l.toArray.size-k) (fun listed a' hL w' hw'=>by
  have:=wpAny_of_seq (md:=.any) (Q':=Q) (l.drop k) k listed a' w' (fun j=>by simp[dj]) (by rw[hdl];exact hL.1) (hL.2 w' hw');rwa [hdl] at this) _ _ _ _ hC H
 rw[htl,show k+(l.toArray.size-k)=l.toArray.size by omega] at this;refine Ai hq (fun i o ho=>?_) _ _ _ _ this;have hi:o∈l:=by rw[List.getElem?_toArray] at ho;exact bh ho
 exact de.1 hd o hi
structure RX(w w':aj):Prop where
 os:w'.os=w.os
 tape:w'.tape=w.tape
 output:w'.output=w.output
 ko:KeepsOthers w w'
theorem RX.refl(w:aj):RX w w:=⟨rfl,rfl,rfl,KeepsOthers.refl w⟩
theorem RX.ext{W u u':aj}(h:RX W u)(e:fQ u u'):RX W u':=⟨e.os.trans h.os,e.tape.trans h.tape,e.output.trans h.output,h.ko.trans ⟨e.size,fun k o hk _=>e.block hk⟩⟩
theorem RX.chg{W u u':aj}{g:Nat}{cs:List ai}{t:az}(h:RX W u)(hB:fR u g cs t)(e:Chg u u' g):RX W u' :=
 ⟨e.os.trans h.os,e.tape.trans h.tape,e.output.trans h.output,h.ko.trans ⟨Nat.le_of_eq e.size.symm,fun k o hk ho=>(e.block k fun hkg=>by
  subst hkg;rw[show u.heap[k]? = _ from hB] at hk;cases hk;cases ho).trans hk⟩⟩
structure lP(W w0 w:aj)(is:List It):Prop extends Mem w0 w is where
 rx:RX W w
theorem lP.start{w0 w:aj}{is:List It}(m:Mem w0 w is):lP w w0 w is:=⟨m,RX.refl w⟩
theorem lP.e{W w0 w w':aj}{is:List It}(m:lP W w0 w is)(e:fQ w w'):lP W w0 w' is:=⟨m.ext' e,m.rx.ext e⟩
section
variable {W w0:aj} {is:List It} {ops:Array Oper} {rest:List Oper} {d:Nat} {ty T:az} {pos:String} {after:Array Edge} {x y:bw} {v:ai}
theorem Kd{cs:List ai}{z:ai}(m:lP W w0 w is)(hZ:oD P T z)(hv:z.cells=cs.toArray)(h:∀g u,lP W w0 u (bI g cs T::is)→ar P ops Q rest (Fr (l.set d (.pointer (some ⟨g,0,none⟩))) ds) u) :
 ar P ops Q (bu (some d) (.alloc T) ty pos after none::rest) (Fr l ds) w:=Dw hZ hv fun u g e hg hB=>h g u ⟨m.toMem.newB e hg hB,m.rx.ext e⟩
theorem afS{g off:Nat}{cs us:List ai}{t:az}(m:lP W w0 w is)(k:Nat)(hk:is[k]? = some (bI g cs t))(hx:ev l x=.pointer (some ⟨g,off,none⟩))(hv:(ev l y).cells=us.toArray)(hc:dO P T us.length)(hfit:off+us.length≤cs.length)(h1:(us.all (·.oneCell'))=true)
 (h:∀u,lP W w0 u (is.set k (bI g (over cs off us) t))→ar P ops Q rest (Fr l ds) u):ar P ops Q (bu none (.store T x y) ty pos after none::rest) (Fr l ds) w :=
 yD hx hv hc (m.b k hk) hfit (gB h1) fun u hC hB=>h u ⟨m.put k hk hC.os hC.tape hC.output (by rw[hC.size];exact aq _) (fun b _ hne=>hC.block b fun e=>hne (by rw[e];rfl)) hB (.inl fun _ h=>h),m.rx.chg (m.b k hk) hC⟩
theorem Do{g off:Nat}{cs us:List ai}{t:az}(m:lP W w0 w is)(k:Nat)(hk:is[k]? = some (bI g cs t))(hx:ev l x=.pointer (some ⟨g,off,none⟩))(hv:ev l y=.agg us.toArray)(hc:dO P T us.length)(hfit:off+us.length≤cs.length)(h1:(us.all (·.oneCell'))=true)
 (h:∀u,lP W w0 u (is.set k (bI g (over cs off us) t))→ar P ops Q rest (Fr l ds) u):ar P ops Q (bu none (.store T x y) ty pos after none::rest) (Fr l ds) w:=afS m k hk hx (by rw[hv];rfl) hc hfit h1 h
theorem jD{g off:Nat}{cs:List ai}{v:ai}{t:az}(m:lP W w0 w is)(k:Nat)(hk:is[k]? = some (bI g cs t))(hx:ev l x=.pointer (some ⟨g,off,none⟩))(hv:ev l y=v)(hc:dO P T 1)(hfit:off+1≤cs.length)(h1:v.oneCell'=true∧v.cells = #[v])
 (h:∀u,lP W w0 u (is.set k (bI g (over cs off [v]) t))→ar P ops Q rest (Fr l ds) u):ar P ops Q (bu none (.store T x y) ty pos after none::rest) (Fr l ds) w:=afS (us:=[v]) m k hk hx (by rw[hv];exact h1.2) hc hfit (by simp[h1.1]) h
theorem Pu{f:FuncId}{fo:bw}{xs:Array bw}{args:List ai}{first cap:Array ai}{a0:Array az}(m:lP W w0 w is)(hf:ev l fo=.func (.func f) first cap)(hxs:first.toList++xs.toList.map (ev l)++cap.toList=args)(hc:dT P f args v)
 (h:∀u,lP W w0 u is→ar P ops Q rest (Fr (l.set d v) ds) u):ar P ops Q (bu (some d) (.call { callee:=.value fo,args:=xs,argTypes:=a0 }) ty pos after none::rest) (Fr l ds) w :=
 Yx hf hxs hc fun u e=>h u (m.e e)
theorem xW{id:Nat}{a:Act}{l:List Oper}[hq:Ge Q](m:lP W w0 w is)(k:Nat)(hm:P.follows .mixedOrders=true)(hB:Region.lexTailB .any l.toArray k=true)
 (h:cw P l.toArray (fun u=>lP W w0 u is) (fun a'=>∀u,lP W w0 u is→ar P l.toArray Q (l.drop k) a' u) (l.take k) a) (hd:l.all Oh=true:=by rfl):(Code.region id l.toArray true).wpIn (Fence.wide.inRound r) n P Q a w :=
 Bi (C:=fun u=>lP W w0 u is) k hq.h hd hm hB (m.e (fQ.refl w).drawn) h
variable {Qq:Act→Prop}
theorem Fg{a:Addr}(hx:ev l x=.pointer (some a))(hv:∀u,lP W w0 u is→fZ P u T a v)(h:cw P ops (fun u=>lP W w0 u is) Qq rest (Fr (l.set d v) ds)):cw P ops (fun u=>lP W w0 u is) Qq (bu (some d) (.load T x) ty pos after none::rest) (Fr l ds) :=
 kN (fun u m=>aZ hx (hv u m)) h
theorem ahy{f:FuncId}{fo:bw}{xs:Array bw}{args:List ai}{first cap:Array ai}{a0:Array az}(hf:ev l fo=.func (.func f) first cap)(hxs:first.toList++xs.toList.map (ev l)++cap.toList=args)(hc:dT P f args v)
 (h:cw P ops (fun u=>lP W w0 u is) Qq rest (Fr (l.set d v) ds)):cw P ops (fun u=>lP W w0 u is) Qq (bu (some d) (.call { callee:=.value fo,args:=xs,argTypes:=a0 }) ty pos after none::rest) (Fr l ds):=by
 refine wpQuiet_step fun K hK=>?_;rw[if_pos (by simp[Region.wanted])];refine⟨v,fun w' hw=>?_,?_⟩
 · unfold Oper.quietAt
   rw[kJ,pM (hc w').1 hf hxs _ rfl];refine⟨O,(hc w').2.mono ?_⟩;rintro e w'' ⟨u,rfl,hE,rfl⟩;exact⟨O,hw.e hE⟩
 · show K ((Fr l ds).put (some d) v)
   rw[gL];exact hK _ h
end
end
/-! ### Within the fence that bars nothing: a head of quiet operations,then a tail that may yield -/
section
variable {P:br} {Q:Exit→Act→aj→Prop} {n:Nat} {C:aj→Prop} {ops:Array Oper} {md:Region.Mode}
theorem acr{row:String}{args:Array ai}{w:aj}{R:ai→aj→Prop}(h:Rows P row args w R):RowsIn Fence.wide n P row args w R :=
 fun c cs _=>let ⟨v,w',q,s⟩:=h c cs;⟨v,w',q,stepsIn_wide.2 s⟩
theorem Oper.wpIn_q{o:Oper}{a:Act}{w:aj}{K:Act→aj→Prop}(h:o.wp P a w K (fun _ _ _=>False)):o.wpIn Fence.wide n P a w K Q:=by
 unfold Oper.wp at h;refine⟨fun _ _=>trivial,?_⟩;show pq _ _ _ _ _ _ _ ((dm a.eval o).run P w)
 generalize (dm a.eval o).run P w=z at *
 have h0:Fence.wide.depth.isSome=true→1≤n:=fun h=>by cases h
 cases z with
 | ok x w' =>
  cases x <;> simp only[ny,pq] at h ⊢ <;> first
   | exact h
   | exact⟨h0,(callsIn_wide.2 h).mono fun e w'' k=>by cases e with | returned v=>exact k | panicked c=>exact k.elim | outgrown=>exact (k.elim fun _ k=>k.elim fun _ k=>k.elim)⟩
   | exact⟨h0,acr h⟩
   | exact h.elim
 | halt x w'=>cases x <;> simp only[ny,pq] at h ⊢ <;> first | exact h | exact h.elim
theorem ak3{i:Nat}{K:Act→aj→Prop}{a:Act}{w:aj}(h:wpOp P ops (fun _ _ _=>False) i K a w):wpOpIn Fence.wide n P ops Q i K a w:=by
 unfold wpOp at h;unfold wpOpIn;split
 · rename_i hn
   simp only[hn] at h;exact h
 · rename_i o ho
   simp only[ho] at h;split
   · rename_i hw
     rw[if_pos hw] at h;rcases h with h | ⟨_,_,_,h⟩
     · exact Oper.wpIn_q h
     · exact h.elim
   · rename_i hw
     rw[if_neg hw] at h;exact⟨fun _ _=>trivial,h⟩
theorem xX{k g:Nat}{L:Array Bool→Act→Prop}(hL:∀listed a,L listed a→∀w,C w→wpAnyIn Fence.wide n P md ops Q g listed a w) :
 ∀(f:Nat) (listed:Array Bool) (a:Act) (w:aj),C w→Ku P md ops C k L f listed a→wpAnyIn Fence.wide n P md ops Q (f+g) listed a w
 | 0,listed,a,w,hw,h=>by rw[au];exact hL _ _ h w hw
 | f+1,listed,a,w,hw,h=>by
  rw[show f+1+g=(f+g)+1 by omega];exact⟨fun h0=>absurd h0 h.1,fun i hi=>ak3 (wpOp_of_qOp hw (fun a' w' hw' h'=>xX hL f _ a' w' hw' h') (h.2 i hi).2)⟩
theorem Dp:∀(l:List Oper) (k:Nat) (listed:Array Bool) (a:Act) (w:aj),(∀j,l[j]? = ops[k+j]?) →
 Region.seqB md ops l.length k listed=true→wpListIn Fence.wide n P ops Q l a w→wpAnyIn Fence.wide n P md ops Q l.length listed a w
 | [],_,_,_,_,_,hB,h=>⟨by simpa[Region.seqB] using hB,h⟩
 | o::l,k,listed,a,w,hl,hB,h=>by
  have h0:ops[k]? = some o:=by simpa using (hl 0).symm
  simp only[av,Region.seqB,be,decide_eq_true_eq] at hB;refine⟨fun h1=>(by rw[hB.1] at h1;cases h1),fun i hi=>?_⟩;rw[hB.1] at hi;have hik:i=k:=by simpa using hi
  subst hik;have hw:wpOpIn Fence.wide n P ops Q i (wpListIn Fence.wide n P ops Q l) a w:=by unfold wpOpIn;simp only[h0];exact h
  exact wpOpIn_mono (fun a' w' h'=>Dp l (i+1) _ a' w' (fun j=>by have:=hl (j+1);simpa[Nat.add_assoc,Nat.add_comm 1 j] using this) hB.2 h') hw
theorem Ak{w:aj}{id:Nat}{a:Act}{l:List Oper}(k:Nat)(hm:P.follows .mixedOrders=true)(hB:Region.lexTailB .any l.toArray k=true)
 (hC:C { w with drawn:=w.drawn+1 })
 (h:cw P l.toArray C (fun a'=>∀w',C w'→wpListIn Fence.wide n P l.toArray Q (l.drop k) a' w') (l.take k) a):(Code.region id l.toArray true).wpIn Fence.wide n P Q a w:=by
 simp only[Region.lexTailB,be,decide_eq_true_eq] at hB;obtain⟨⟨⟨⟨hsel,hn⟩,hs⟩,hc⟩,hlex⟩:=hB;have hn':k<l.length:=by simpa using hn
 have htl:(l.take k).length=k:=by simp;omega
 have hdl:(l.drop k).length=l.toArray.size-k:=by simp
 have inv0:HeadInv .any l.toArray k (f_ l.toArray.size false) :=
  ⟨by simp,fun j oj _ hl=>(by rw[getD_replicate_false] at hl;cases hl),fun t _ ht=>getD_in (by simpa using ht) (getD_replicate_false _ _)⟩
 have H:=yC (md:=.any) (g:=l.toArray.size-k) hsel hs hc hn (l.take k) 0 _ a (fun j hj=>by
  have hj':j<k:=by rw[htl] at hj;exact hj
  simp[hj']) (by simpa using htl) inv0 (by rw[htl];exact hlex) h
 refine wpIn_region_any hm ?_;have:=xX (Q:=Q) (n:=n) (g:=l.toArray.size-k) (fun listed a' hL w' hw'=>by
  have:=Dp (md:=.any) (Q:=Q) (n:=n) (l.drop k) k listed a' w' (fun j=>by simp[dj]) (by rw[hdl];exact hL.1) (hL.2 w' hw');rwa [hdl] at this) _ _ _ _ hC H
 rw[htl,show k+(l.toArray.size-k)=l.toArray.size by omega] at this;exact this
theorem Pv{l:List ai}{ds:List dz}{w:aj}{y d:Nat}{f:FuncId}{fo:bw}{xs:Array bw}{args:List ai}{a0:Array az}{ty:az}{pos:String}{after:Array Edge}{rest:List Oper}{tmps:Array ai}{assign body:Code}{R:Ending→aj→Prop}
 (hf:ev l fo=.func (.yield y) #[] #[]) (hxs:xs.toList.map (ev l)=args) (hy:(Instr.yield y args.toArray).run P w=.ok (.round y f tmps assign body) w) (hR:RoundIn Fence.wide (n-1) P y f tmps assign body w R)
 (h:∀e w',R e w'→∃v,e=.returned v∧wpListIn Fence.wide n P ops Q rest (Fr (l.set d v) ds) w') :
 wpListIn Fence.wide n P ops Q (bu (some d) (.call { callee:=.value fo,args:=xs,argTypes:=a0 }) ty pos after none::rest) (Fr l ds) w:=by
 refine wpListIn_plain O fun K hK=>?_;refine⟨fun _ _=>trivial,?_⟩;have e:(Fr l ds).eval=ev l:=funext cD;have ea:args.toArray = #[]++xs.map (ev l) ++ #[]:=by
  rw[←hxs];apply Array.ext';simp
 have er:(dm (Fr l ds).eval (bu (some d) (.call { callee:=.value fo,args:=xs,argTypes:=a0 }) ty pos after none)).run P w=.ok (.round y f tmps assign body) w:=by
  rw[ea] at hy;simp[dm,resolve,e,hf,Deferred.ofValue,invoke] at hy ⊢;exact hy
 rw[show qn Fence.wide.round=qn none from rfl,Oper.semAt_none,er];refine⟨fun (h:Fence.wide.depth.isSome=true)=>(by cases h),hR.mono fun e w' hr=>?_⟩;obtain⟨v,rfl,hk⟩:=h e w' hr;exact hK _ _ (by rw[gL];exact hk)
theorem wS{l:List ai}{ds:List dz}{w:aj}{d:Nat}{op:Op}{ty:az}{pos:String}{after:Array Edge}{rest:List Oper}{v:ai}(hr:Bb P l op ty v w)(h:wpListIn Fence.wide n P ops Q rest (Fr (l.set d v) ds) w):wpListIn Fence.wide n P ops Q (bu (some d) op ty pos after none::rest) (Fr l ds) w:=by
 refine wpListIn_plain O fun K hK=>?_;refine⟨fun _ _=>trivial,?_⟩;rw[show qn Fence.wide.round=qn none from rfl,Oper.semAt_none,kJ,hr _ rfl rfl];show K ((Fr l ds).put (some d) v) w
 rw[gL];exact hK _ _ h
end
theorem Pw(B:Nat)(g:β→Nat)(cs:β→List ai)(t:az):OwnFrom B fun s W=>fR W (g s) (cs s) t:=fun s X Y row hs hg hr=>by
 have hs':X.heap[g s]? = some (.cells (cs s).toArray t (0,0)):=hs;show Y.heap[g s]? = _
 rw[grownBy_keeps_cells hg (fun r e=>(hr r e).2) hs' rfl];exact hs'
theorem afT{B:Nat}{w:aj}(h:w.heap.size≤B):OwnFrom B fun (_:β) W=>fQ w W:=ownFrom_below (aq _) h
def aoh(is:List It):Prop:=∀i∈is,∃g cs t,i=bI g cs t
theorem afU{B:Nat}{w:aj}(F:β→List It)(hF:∀s,aoh (F s))(h:w.heap.size≤B):OwnFrom B fun s W=>Mem w W (F s):=fun s W W' row hs hg hr=>by
 refine⟨afT (β:=Unit) h () W W' row hs.ext hg hr,fun i hi=>?_,hs.ge,hs.nd⟩;obtain⟨g,cs,t,rfl⟩:=hF s i hi;exact Pw (β:=Unit) B (fun _=>g) (fun _=>cs) t () W W' row (hs.all _ hi) hg hr
end Go.Lith
namespace Go.Proofs.YtfekpcimgncioaaGreatDoor
open Go.Proofs.Tryz
open Go.RowKit Go.Lith
attribute [local go_sem] Oper.semAt_some
def apq(t:T3)(k:Nat):Array ai:=#[pt (t.cor k),pt (t.cor ((k+1)%3))]
set_option maxRecDepth 100000 in
theorem ahz(n:Nat)(hn:1≤n)(l Bs n₀:Nat)(t:T3)(J Jx:List Nat→aj→Prop)
 (hJd:∀s W,J s W→J s W.drew) (hY:∀pre x W,J pre W→pre.length<3→YieldAt Fence.wide (n-1) prog l (apq t x) W fun e W' =>
  (e=.returned (.bool true)∧J (pre++[x]) W'∧nI n₀ Bs W W')∨(e=.returned (.bool false)∧Jx (pre++[x]) W'))
 (W:aj) (hBs:fR W Bs (aN t) 39) (h0:J [] W) :
 CallsIn Fence.wide n prog 337 #[.func (.yield l) #[] #[],.pointer (some ⟨Bs,0,none⟩)] W fun e W'=>(∃v,e=.returned v) ∧
  ((∃ys:List Nat,ys=[0,1,2]∧J ys W')∨(∃pre,(∀k∈pre,k<3)∧Jx pre W')):=by
 refine callsIn_of_wp func337 O trivial ?_ O;simp only[ntmps337,gm,av,bv,aa,km,ii,ij,jd,iw,b_,cn]
 gi_wp2
 gi_loopw [4] (fun i wr=>∃(k:Nat),k≤3∧i=.int .i64 (k:Int)∧J (df k) wr∧nI n₀ Bs W wr)
  (fun i _=>(3-intOf i).toNat)
 case atStart=>exact⟨0,by omega,rfl,h0,nI.refl _ _ _⟩
 case round =>
  obtain⟨k,hk,rfl,hJs,hnx⟩:=hrel;have hB:fR wr Bs (aN t) 39:=hnx.2.trans hBs;have hD:fR wr.drew Bs (aN t) 39:=hB;have hk4:k=0∨k=1∨k=2∨k=3:=by omega
  rcases hk4 with rfl | rfl | rfl | rfl
  · obtain⟨fn,tmps,assign,body,hy,hR⟩:=hY (df 0) 0 wr.drew (hJd _ _ hJs) (by decide)
    gi_wp2
    rename_i K1 hK1 K2 hK2;refine Ak (C:=fun u=>u=wr.drew) 9 aC (by kernel_rfl) O ?_;simp only[zy];refine aG aI (aG aI (aG (aK cM aA O O (by decide) (by decide) O) ?_));simp only[zz,zy,au,aa,ag,ad];refine kN (fun u hu=>aZ O (hu▸(mX.cor (c:=0) (hD.row 0) (by decide)).lies aH aA)) ?_;simp only[zz];refine aG aI (aG (fB (m:=0) (n:=1) (r:=1) O O (by decide)) (aG (cP (m:=1) (n:=3) (r:=1) O O (by decide) (by decide)) ?_));simp only[zz];refine aG (aK cM aA O O (by decide) (by decide) O) ?_;simp only[zz,zy,au,aa,ag,ad];refine kN (fun u hu=>aZ O (hu▸(mX.cor (c:=1) (hD.row 0) (by decide)).lies aH aA)) ?_;simp only[zz];refine bC ?_;rintro u rfl;try simp only[zy]
    refine Pv O O hy hR ?_;rintro e W3 (⟨rfl,hJ3,hk3⟩ | ⟨rfl,hJx3⟩)
    · refine⟨_,O,?_⟩
      simp only[zz];refine wS (rT O _) (wpListIn_nil (hK2 _ _ ?_));simp only[zz,fi]
      gi_wp2
      go_roundw
      case rel=>exact⟨0+1,by decide,rfl,hJ3,hnx.trans ((show nI n₀ Bs wr wr.drew from⟨(Below.refl _ _).drew,rfl⟩).trans hk3)⟩
      case measure=>simp[intOf]
    · refine⟨_,O,?_⟩
      simp only[zz];refine wS (rT O _) (wpListIn_nil (hK2 _ _ ?_));simp only[zz,fh]
      gi_wp2
      refine bodyPost_ret (results_none O _ _ _) O ?_;exact⟨⟨_,O⟩,.inr ⟨_,by decide,hJx3⟩⟩
  · obtain⟨fn,tmps,assign,body,hy,hR⟩:=hY (df 1) 1 wr.drew (hJd _ _ hJs) (by decide)
    gi_wp2
    rename_i K1 hK1 K2 hK2;refine Ak (C:=fun u=>u=wr.drew) 9 aC (by kernel_rfl) O ?_;simp only[zy];refine aG aI (aG aI (aG (aK cM aA O O (by decide) (by decide) O) ?_));simp only[zz,zy,au,aa,ag,ad];refine kN (fun u hu=>aZ O (hu▸(mX.cor (c:=1) (hD.row 0) (by decide)).lies aH aA)) ?_;simp only[zz];refine aG aI (aG (fB (m:=1) (n:=1) (r:=2) O O (by decide)) (aG (cP (m:=2) (n:=3) (r:=2) O O (by decide) (by decide)) ?_));simp only[zz];refine aG (aK cM aA O O (by decide) (by decide) O) ?_;simp only[zz,zy,au,aa,ag,ad];refine kN (fun u hu=>aZ O (hu▸(mX.cor (c:=2) (hD.row 0) (by decide)).lies aH aA)) ?_;simp only[zz];refine bC ?_;rintro u rfl;try simp only[zy]
    refine Pv O O hy hR ?_;rintro e W3 (⟨rfl,hJ3,hk3⟩ | ⟨rfl,hJx3⟩)
    · refine⟨_,O,?_⟩
      simp only[zz];refine wS (rT O _) (wpListIn_nil (hK2 _ _ ?_));simp only[zz,fi]
      gi_wp2
      go_roundw
      case rel=>exact⟨1+1,by decide,rfl,hJ3,hnx.trans ((show nI n₀ Bs wr wr.drew from⟨(Below.refl _ _).drew,rfl⟩).trans hk3)⟩
      case measure=>simp[intOf]
    · refine⟨_,O,?_⟩
      simp only[zz];refine wS (rT O _) (wpListIn_nil (hK2 _ _ ?_));simp only[zz,fh]
      gi_wp2
      refine bodyPost_ret (results_none O _ _ _) O ?_;exact⟨⟨_,O⟩,.inr ⟨_,by decide,hJx3⟩⟩
  · obtain⟨fn,tmps,assign,body,hy,hR⟩:=hY (df 2) 2 wr.drew (hJd _ _ hJs) (by decide)
    gi_wp2
    rename_i K1 hK1 K2 hK2;refine Ak (C:=fun u=>u=wr.drew) 9 aC (by kernel_rfl) O ?_;simp only[zy];refine aG aI (aG aI (aG (aK cM aA O O (by decide) (by decide) O) ?_));simp only[zz,zy,au,aa,ag,ad];refine kN (fun u hu=>aZ O (hu▸(mX.cor (c:=2) (hD.row 0) (by decide)).lies aH aA)) ?_;simp only[zz];refine aG aI (aG (fB (m:=2) (n:=1) (r:=3) O O (by decide)) (aG (cP (m:=3) (n:=3) (r:=0) O O (by decide) (by decide)) ?_));simp only[zz];refine aG (aK cM aA O O (by decide) (by decide) O) ?_;simp only[zz,zy,au,aa,ag,ad];refine kN (fun u hu=>aZ O (hu▸(mX.cor (c:=0) (hD.row 0) (by decide)).lies aH aA)) ?_;simp only[zz];refine bC ?_;rintro u rfl;try simp only[zy]
    refine Pv O O hy hR ?_;rintro e W3 (⟨rfl,hJ3,hk3⟩ | ⟨rfl,hJx3⟩)
    · refine⟨_,O,?_⟩
      simp only[zz];refine wS (rT O _) (wpListIn_nil (hK2 _ _ ?_));simp only[zz,fi]
      gi_wp2
      go_roundw
      case rel=>exact⟨2+1,by decide,rfl,hJ3,hnx.trans ((show nI n₀ Bs wr wr.drew from⟨(Below.refl _ _).drew,rfl⟩).trans hk3)⟩
      case measure=>simp[intOf]
    · refine⟨_,O,?_⟩
      simp only[zz];refine wS (rT O _) (wpListIn_nil (hK2 _ _ ?_));simp only[zz,fh]
      gi_wp2
      refine bodyPost_ret (results_none O _ _ _) O ?_;exact⟨⟨_,O⟩,.inr ⟨_,by decide,hJx3⟩⟩
  · gi_wp2
    go_end0
    exact⟨⟨_,O⟩,.inl ⟨_,O,hJs⟩⟩
end Go.Proofs.YtfekpcimgncioaaGreatDoor
namespace Go.Proofs.YtfekpcimgncioaaGreatDoor
open Go.Proofs.Tryz
open Go.RowKit Go.Lith
section
variable {w0 w:aj} {is:List It}
def dI(D:Nat)(o:Obj):It where
 own b:=some D=some b
 P w:=w.heap[D]? = some o
 lt w b h e:=by cases e;exact (ee.1 h).1
 st w w' h _ k:=(k D rfl).trans h
theorem _root_.Go.Lith.Mem.putD{D:Nat}{o o':Obj}(m:Mem w0 w is)(k:Nat)(hk:is[k]? = some (dI D o)):Mem w0 (w.putObj D o') (is.set k (dI D o')):=by
 have hl:D<w.heap.size:=(dI D o).lt w D (m.get k hk) rfl;refine m.put k hk O O O (by show _≤(w.heap.setIfInBounds D o').size;simp) (fun b _ hne=>World.putObj_heap_other (fun e=>hne (by rw[e];rfl))) ?_ (.inl fun _ h=>h);show (w.heap.setIfInBounds D o')[D]? = some o'
 simp[hl]
theorem _root_.Go.Lith.Mem.addD{D:Nat}{x:Option (List dz)}(m:Mem w0 w is)(hA:aoh is)(h:w.heap[D]? = some (.deferred x))(hge:w0.heap.size≤D):Mem w0 w (dI D (.deferred x)::is):=by
 refine⟨m.ext,fun i hi=>?_,fun i hi b hb=>?_,bt.2 ⟨fun j hj b h1 h2=>?_,m.nd⟩⟩
 · rcases an.1 hi with rfl | hi
   · exact h
   · exact m.all i hi
 · rcases an.1 hi with rfl | hi
   · cases hb;exact hge
   · exact m.ge i hi b hb
 · obtain⟨g,cs,t,rfl⟩:=hA j hj
   cases h1;cases h2;have hB:w.heap[D]? = some (.cells cs.toArray t (0,0)):=m.all _ hj;rw[h] at hB;cases hB
theorem apr{P:br}{l:List ai}{n:Nat}{fn:Func}{R:Ending→aj→Prop}{w:aj}(h:bodyPost P fn R .ret (Fr l) w):bodyPostM Fence.wide n P fn R .ret (Fr l) w:=by
 obtain⟨_,v,hv,hR⟩:=h;exact⟨v,hv,hR⟩
theorem acs{W u:aj}{Bs:Nat}{cs:List ai}{t:az}(rx:RX W u)(h1:fR W Bs cs t)(h2:fR u Bs cs t):nI 0 Bs W u :=
 ⟨⟨rx.os,rx.tape,rx.output,rx.ko.size,fun k hk=>absurd hk (nq _)⟩,(show u.heap[Bs]? = _ from h2).trans (show W.heap[Bs]? = _ from h1).symm⟩
theorem ak4{g k:Nat}{c1 c2:List ai}{T1 T2:az}(m:Mem w0 w is)(h1:fR w g c1 T1)(h2:fR w k c2 T2)(hgk:k≠g)(hg:∀o∈is.map (·.own),¬o g)(hk:∀o∈is.map (·.own),¬o k)(eg:w0.heap.size≤g)(ek:w0.heap.size≤k):Mem w0 w (bI k c2 T2::bI g c1 T1::is):=by
 refine⟨m.ext,fun i hi=>?_,fun i hi b hb=>?_,bt.2 ⟨fun j hj b e1 e2=>?_,bt.2 ⟨fun j hj b e1 e2=>?_,m.nd⟩⟩⟩
 · rcases an.1 hi with rfl | hi
   · exact h2
   · rcases an.1 hi with rfl | hi
     · exact h1
     · exact m.all i hi
 · rcases an.1 hi with rfl | hi
   · cases hb;exact ek
   · rcases an.1 hi with rfl | hi
     · cases hb;exact eg
     · exact m.ge i hi b hb
 · cases e1
   rcases an.1 hj with rfl | hj
   · cases e2;exact hgk O
   · exact hk _ (fk hj) e2
 · cases e1
   exact hg _ (fk hj) e2
theorem ak5{g k:Nat}{c1 c2:List ai}{T1 T2:az}(m:Mem w0 w (bI k c2 T2::bI g c1 T1::is)):k≠g∧(∀o∈is.map (·.own),¬o g)∧(∀o∈is.map (·.own),¬o k)∧w0.heap.size≤g∧w0.heap.size≤k:=by
 obtain⟨h1,h2⟩:=bt.1 m.nd;obtain⟨h3,_⟩:=bt.1 h2;refine⟨fun e=>h1 _ bm k O (by rw[e];rfl),fun o ho h=>?_,fun o ho h=>?_,m.ge _ (bg _ bm) g rfl,m.ge _ bm k rfl⟩
 · obtain⟨i,hi,rfl⟩:=List.mem_map.1 ho
   exact h3 i hi g O h
 · obtain⟨i,hi,rfl⟩:=List.mem_map.1 ho
   exact h1 i (bg _ hi) k O h
theorem acu{α:Type}{L:List ai}{go:bw}{gf Bs N q1 q2 d1 d2:Nat}{assign body:Code}{Q:Exit→Act→aj→Prop}{P:br}{S Sp:List α→Prop}{v1 v2:α→ai}{c1 c2:α→List ai}{T1 T2 tB:az}{csB:List ai}
 (hf:ev L go=.func (.func gf) #[] #[.pointer (some ⟨Bs,0,none⟩)]) (he:Lith.Entr P gf) (hseq:SeqStopsK Fence.wide 3 P gf #[.pointer (some ⟨Bs,0,none⟩)] (fun x=>#[v1 x,v2 x]) (nI 0 Bs) S Sp N w)
 (I Ir:List α→List It) (J Jr:List α→Prop) (hA:∀pre,aoh (I pre)) (hAr:∀pre,aoh (Ir pre)) (hid:∀pre,(I pre).map (·.own)=(I []).map (·.own)) (hBs:∀pre,bI Bs csB tB∈I pre)
 (m:Mem w0 w (I [])) (hJ:J [])
 (hassign:∀(r:Nat) (pre:List α) (x:α) (W:aj) (K:Act→aj→Prop),lP W w0 W (I pre)→(∀g k u,lP W w0 u (bI k (c2 x) T2::bI g (c1 x) T1::I pre)→K (Fr ((((L.set q1 (v1 x)).set q2 (v2 x)).set d1 (.pointer (some ⟨g,0,none⟩))).set d2 (.pointer (some ⟨k,0,none⟩)))) u) →
  assign.wpIn (Fence.wide.inRound r) 2 P (Exit.then K (fun _ _ _=>False)) (Fr ((L.set q1 (v1 x)).set q2 (v2 x))) W)
 (hbody:∀(r:Nat) (pre:List α) (x:α) (g k:Nat) (W:aj) (Q':Exit→Act→aj→Prop) [Ge Q'],J pre→pre.length<N→lP W w0 W (bI k (c2 x) T2::bI g (c1 x) T1::I pre) →
  (∀a u,lP W w0 u (I (pre++[x]))→J (pre++[x])→Q' .normal a u)→(∀a u,lP W w0 u (Ir (pre++[x]))→Jr (pre++[x])→Q' .ret a u) →
  body.wpIn (Fence.wide.inRound r) 2 P Q' (Fr ((((L.set q1 (v1 x)).set q2 (v2 x)).set d1 (.pointer (some ⟨g,0,none⟩))).set d2 (.pointer (some ⟨k,0,none⟩)))) W)
 (hdone:∀(D:Nat) (xs:List α) (u:aj),S xs→J xs→Mem w0 u (dI D (.deferred (some []))::I xs)→Q .normal (Fr L [{ target:=.collected D,args:=#[] }]) u)
 (hstop:∀(D:Nat) (pre:List α) (u:aj),Sp pre→Jr pre→Mem w0 u (dI D (.deferred (some []))::Ir pre)→Q .ret (Fr L [{ target:=.collected D,args:=#[] }]) u) :
 (Code.rangeFunc go #[q1,q2] assign body).wp P Q (Fr L) w:=by
 refine (wpIn_wide (n:=4)).1 ?_;have hsz:=m.ext.size;refine wpIn_rangeFunc_ownH (F:=Fence.wide) O (by omega) (gf:=gf) (lb:=#[.pointer (some ⟨Bs,0,none⟩)]) (by rw[cD];exact hf) trivial (fun args u=>tJ he) hseq nI.trans
  (fun W l o o' hl ho hc _=>⟨⟨rfl,rfl,rfl,by show _≤(W.heap.setIfInBounds l o').size;simp,fun k hk=>absurd hk (nq _)⟩,World.putObj_heap_other (fun e=>by
   have hb:=(m.all _ (hBs [])).lt;omega)⟩) (Below.refl _ _) (fun _=>rfl)
  (fun pre W=>Mem w0 W (I pre)∧J pre) (fun c pre W=>Mem w0 W (Ir pre)∧(c=.ret∧Jr pre))
  (OwnFrom.and (afU I hA hsz) (ownFrom_pure _ J)) (fun c=>OwnFrom.and (afU Ir hAr hsz) (ownFrom_pure _ _)) ⟨m,hJ⟩
  (fun x a' W=>∃g k,a'=Fr ((((L.set q1 (v1 x)).set q2 (v2 x)).set d1 (.pointer (some ⟨g,0,none⟩))).set d2 (.pointer (some ⟨k,0,none⟩)))∧fR W g (c1 x) T1∧fR W k (c2 x) T2∧k≠g∧(∀o∈(I []).map (·.own),¬o g)∧(∀o∈(I []).map (·.own),¬o k)∧w0.heap.size≤g∧w0.heap.size≤k)
  (fun x a' _ X Y row hs hg hr=>by
   obtain⟨g,k,e,h1,h2,h3⟩:=hs;exact⟨g,k,e,Pw (β:=Unit) _ (fun _=>g) (fun _=>c1 x) T1 () X Y row h1 hg hr,Pw (β:=Unit) _ (fun _=>k) (fun _=>c2 x) T2 () X Y row h2 hg hr,h3⟩)
  ?_ ?_ ?_ ?_
 · intro r pre x W K hI hK
   have e:((#[q1,q2].zip #[v1 x,v2 x]).foldl (fun t (y:Tmp × ai)=>t.setIfInBounds y.1 y.2) (Fr L).tmps)=((L.set q1 (v1 x)).set q2 (v2 x)).toArray:=by simp
   have:=hassign r pre x W K (lP.start hI.1) (fun g k u hm=>?_)
   · simp only at this ⊢
     rw[e];exact this
   · have hp:=ak5 hm.toMem
     rw[hid pre] at hp;have hI2:Mem w0 u (I pre):=hm.toMem.tl.tl;exact hK _ _ (hm.rx.ko.from _) (acs hm.rx (hI.1.all _ (hBs pre)) (hI2.all _ (hBs pre))) ⟨hI2,hI.2⟩ ⟨g,k,O,hm.all _ (bg _ bm),hm.all _ bm,hp⟩
 · rintro r pre x a' W _ _ ⟨hI,hJp⟩ ⟨g,k,rfl,h1,h2,h3,h4,h5,h6,h7⟩ hN
   rw[←hid pre] at h4 h5;refine hbody r pre x g k W _ hJp hN (lP.start (ak4 hI h1 h2 h3 h4 h5 h6 h7)) (fun a u hm hj=>?_) (fun a u hm hj=>?_)
   · exact⟨hm.rx.ko.from _,acs hm.rx (hI.all _ (hBs pre)) (hm.all _ (hBs _)),hm.toMem,hj⟩
   · exact⟨hm.rx.ko.from _,hm.toMem,O,hj⟩
 · rintro D xs W hD hS ⟨hI,hj⟩ hd
   exact hdone D xs W hS hj (Lith.Mem.addD hI (hA xs) hd (ba hsz hD))
 · rintro D c pre W hD hsp ⟨hI,rfl,hj⟩ hd
   exact wpIn_ret (hstop D pre W hsp hj (Lith.Mem.addD hI (hAr pre) hd (ba hsz hD)))
end
end Go.Proofs.YtfekpcimgncioaaGreatDoor
namespace Go.Lith
open Go.RowKit Go.ChangeMaps Go.MapKept
variable{w:aj}
theorem acv{u:aj}(e:fQ w u):w.grownBy u none:=⟨e.os,e.tape,e.output,e.size,fun k hk _=>Below.block e k hk⟩
section
variable {K V:Type} [DecidableEq K] {P:br} {T M E ty:az} {ek:K→ai} {en:V→ai} {w:aj} {g c r:Nat} {es:Array c_} {D:List (K × V)}
variable {ds:List dz} {l:List ai} {x:bw} {ops:Array Oper} {Q:Exit→Act→aj→Prop} {rest:List Oper} {d:Nat} {pos:String} {after:Array Edge}
theorem aoi{seen:Array Nat}{dn rs:List (K × V)}(hx:ev l x=.pointer (some ⟨r,0,none⟩))(hI:rY w r g c seen c)(hM:jF w g es c)(hD:bO ek en D es c)(hT:oK ek en D es seen dn rs)
 (h:∀b kv vv seen' u,w.grownBy u (some r)→jF u g es c→rY u r g c seen' c→Nxt ek en D es dn rs b kv vv seen'→ar P ops Q rest (Fr (l.set d (Fv b kv vv)) ds) u) :
 ar P ops Q (bu (some d) (.next x false) ty pos after none::rest) (Fr l ds) w:=by
 obtain⟨b,kv,vv,seen',w1,hw1,hr,hN⟩:=Wu (P:=P) (ty:=ty) (s:=0) hI hM hD hT;have e1:w1.heap=w.heap∧w1.os=w.os∧w1.tape=w.tape∧w1.output=w.output:=by rcases hw1 with rfl | rfl <;> exact⟨rfl,rfl,rfl,rfl⟩
 have hgr:g≠r:=fun e=>by
  subst e;have h1:w.heap[g]? = some (.map es c):=hM;rw[show w.heap[g]? = _ from hI] at h1;cases h1
 refine mM (w':=setBlock w1 r (.mapIter (some g) c seen' c)) (v:=Fv b kv vv) (fun o ho hty=>by simp[dm,ho,cD,hx,hty,hr]) (h b kv vv seen' _ ⟨e1.2.1,e1.2.2.1,e1.2.2.2,by simp[setBlock,e1.1],fun k _ hk=>?_⟩ ?_ ?_ hN)
 · simp only[setBlock,e1.1]
   exact iy fun e=>hk (by rw[e])
 · show (setBlock w1 r _).heap[g]? = _
   simp only[setBlock,e1.1];rw[iy (Ne.symm hgr)];exact hM
 · exact jZ (w:=w1) (o:=.mapIter (some g) c seen c) (by rw[e1.1];exact hI)
end
def aoj(is:List It):Prop:=∀i∈is,(∃g cs t,i=bI g cs t)∨∃E c A n cap xs,i=oI E c A n cap xs
theorem arE{β:Type}(B:Nat)(E:az)(c:Nat)(A:Option Addr)(n cap:Nat)(xs:List ai):OwnFrom B fun (_:β) W=>(oI E c A n cap xs).P W:=fun s X Y row hs hg hr=>by
 refine⟨hs.1,?_⟩;rcases hs.2 with h | ⟨g,cap,cur,h1,h2,h3,h4⟩
 · exact .inl h
 · exact .inr ⟨g,cap,cur,h1,h2,by
    rw[grownBy_keeps_cells hg (fun r e=>(hr r e).2) h3 rfl];exact h3,h4⟩
theorem acw{β:Type}{B:Nat}(F:β→List It)(hF:∀s,aoj (F s))(h:w.heap.size≤B):OwnFrom B fun s W=>Mem w W (F s):=fun s W W' row hs hg hr=>by
 refine⟨afT (β:=Unit) h () W W' row hs.ext hg hr,fun i hi=>?_,hs.ge,hs.nd⟩;rcases hF s i hi with ⟨g,cs,t,rfl⟩ | ⟨E,c,A,n,cap,xs,rfl⟩
 · exact Pw (β:=Unit) B (fun _=>g) (fun _=>cs) t () W W' row (hs.all _ hi) hg hr
 · exact arE (β:=Unit) B E c A n cap xs () W W' row (hs.all _ hi) hg hr
theorem Mem.addC{w0:aj}{is:List It}{D:Nat}{x:Option (List dz)}(m:Mem w0 w is)(hA:aoj is)(h:w.heap[D]? = some (.deferred x))(hge:w0.heap.size≤D):Mem w0 w (Go.Proofs.YtfekpcimgncioaaGreatDoor.dI D (.deferred x)::is):=by
 refine⟨m.ext,fun i hi=>?_,fun i hi b hb=>?_,bt.2 ⟨fun j hj b h1 h2=>?_,m.nd⟩⟩
 · rcases an.1 hi with rfl | hi
   · exact h
   · exact m.all i hi
 · rcases an.1 hi with rfl | hi
   · cases hb;exact hge
   · exact m.ge i hi b hb
 · cases h1
   rcases hA j hj with ⟨g,cs,t,rfl⟩ | ⟨E,c,A,n,cap,xs,rfl⟩
   · cases h2
     have hB:w.heap[D]? = some (.cells cs.toArray t (0,0)):=m.all _ hj;rw[h] at hB;cases hB
   · have hP:=m.all _ hj
     rcases hP.2 with ⟨e,_⟩ | ⟨g,cap',cur,e,_,hg,_⟩
     · cases e;cases h2
     · cases e
       cases h2;rw[h] at hg;cases hg
theorem RX.wr{W u u':aj}{A:Option Addr}{w0:aj}{S:List (Option Nat)}{E:az}{c n cap:Nat}{xs:List ai}(h:RX W u)(hO:Ow w0 u S E c A n cap xs)(e:Wr u u' A):RX W u' :=
 ⟨e.os.trans h.os,e.tape.trans h.tape,e.output.trans h.output,h.ko.trans ⟨e.size,fun k o hk ho=>(e.block k (ee.1 hk).1 fun hkA=>by
  rcases hO.cases with ⟨rfl,_⟩ | ⟨g,cur,rfl,_,hg,_⟩
  · cases hkA
  · cases hkA
    rw[hg] at hk;cases hk;cases ho).trans hk⟩⟩
section
variable {P:br} {Q:Exit→Act→aj→Prop} {W w0 w:aj} {is:List It} {ops:Array Oper} {rest:List Oper} {d:Nat} {ty T:az} {pos:String} {after:Array Edge} {x y:bw} {l:List ai} {ds:List dz}
theorem ak6{E:az}{c n cap b nm mcap:Nat}{A B:Option Addr}{z:ai}{xs news:List ai}{a0:Array az}(m:lP W w0 w is)(k:Nat)(hk:is[k]? = some (oI E c A n cap xs))(ha:a0 = #[T,T])(hu:P.underlying T=some (.slice E))(hi:(P.info? E).map (fun i=>(i.size,i.bytes,i.zero))=some (c,b,some z))(hz:z.cells.size=c)(hc:0<c)
 (hs:ev l x=.slice A n cap) (hx:ev l y=.slice B nm mcap) (hl:news.length=nm*c) (hrow:∀j u,news[j]? = some u→∃a,B=some a∧w.cell? (a.add j)=some u) (h1:∀u∈news,u.oneCell'=true) (h63:n+nm≤9223372036854775807) (hbytes:(n+nm)*b≤140737488355328)
 (h:∀A' cap' u,lP W w0 u (is.set k (oI E c A' (n+nm) cap' (xs++news)))→ar P ops Q rest (Fr (l.set d (.slice A' (n+nm) cap')) ds) u) :
 ar P ops Q (bu (some d) (.call { callee:=.builtin .append,args:=#[x,y],argTypes:=a0 }) ty pos after none::rest) (Fr l ds) w :=
 Wg ha hu hi hz hc m.ext hs (m.o k hk) hx hl hrow h1 h63 hbytes fun A' cap' u hO hW hF=>h A' cap' u ⟨m.put k hk hW.os hW.tape hW.output hW.size (fun b hb hne=>hW.block b hb hne) (by
  refine⟨hO.own.1,?_⟩;rcases hO.cases with ⟨rfl,e1,rfl,_⟩ | ⟨g,cur,rfl,_,h2,h3⟩
  · exact .inl ⟨by rw[e1],e1⟩
  · exact .inr ⟨g,cap',cur,O,cv _,h2,h3⟩) (by
  rcases hF with rfl | hF
  · exact .inl fun _ h=>h
  · exact .inr fun b hb=>by
     have e:Ni A'=some b:=hb;rw[hF] at e;cases e;exact aq _),m.rx.wr (m.o k hk) hW⟩
theorem acx{W u:aj}(h:RX W u):KeepsWalks W u:=⟨h.ko.size,fun k o hk ho=>h.ko.same k o hk (by cases o <;> first | rfl | cases ho)⟩
theorem ak7{α σ:Type}{L:List ai}{go:bw}{gf Bs N q1 d1:Nat}{assign body:Code}{S:List α→Prop}{v1:α→ai}{c1:α→List ai}{T1:az}
 (hf:ev L go=.func (.func gf) #[] #[.pointer (some ⟨Bs,0,none⟩)]) (he:Lith.Entr P gf) (hseq:SeqStopsK Fence.wide 3 P gf #[.pointer (some ⟨Bs,0,none⟩)] (fun x=>#[v1 x]) KeepsWalks S (fun _=>True) N w)
 (F:σ→List It) (R:List α→σ→Prop) (hF:∀s,aoj (F s)) (hdet:∀W s s' pre pre',R pre s→R pre' s'→Mem w0 W (F s)→Mem w0 W (F s')→R pre s') {s0:σ} (m:Mem w0 w (F s0)) (hR:R [] s0)
 (hassign:∀(r:Nat) (pre:List α) (x:α) (s:σ) (W:aj) (K:Act→aj→Prop),R pre s→lP W w0 W (F s)→(∀g u,lP W w0 u (bI g (c1 x) T1::F s)→K (Fr ((L.set q1 (v1 x)).set d1 (.pointer (some ⟨g,0,none⟩)))) u) →
  assign.wpIn (Fence.wide.inRound r) 2 P (Exit.then K (fun _ _ _=>False)) (Fr (L.set q1 (v1 x))) W)
 (hbody:∀(r:Nat) (pre:List α) (x:α) (g:Nat) (s:σ) (W:aj) (Q':Exit→Act→aj→Prop) [Ge Q'],pre.length<N→R pre s→lP W w0 W (bI g (c1 x) T1::F s) →
  (∀a u s',lP W w0 u (F s')→R (pre++[x]) s'→Q' .normal a u)→body.wpIn (Fence.wide.inRound r) 2 P Q' (Fr ((L.set q1 (v1 x)).set d1 (.pointer (some ⟨g,0,none⟩)))) W)
 (hdone:∀(D:Nat) (xs:List α) (s:σ) (u:aj),S xs→R xs s→Mem w0 u (Go.Proofs.YtfekpcimgncioaaGreatDoor.dI D (.deferred (some []))::F s)→Q .normal (Fr L [{ target:=.collected D,args:=#[] }]) u) :
 (Code.rangeFunc go #[q1] assign body).wp P Q (Fr L) w:=by
 refine (wpIn_wide (n:=4)).1 ?_;have hsz:=m.ext.size;have own:OwnFrom w.heap.size fun (pre:List α) W=>∃s,R pre s∧Mem w0 W (F s):=fun pre X Y row ⟨s,hs,hm⟩ hg hr=>⟨s,hs,acw (β:=Unit) (fun _=>F s) (fun _=>hF s) hsz () X Y row hm hg hr⟩
 have Zt:∀(g:Nat) (x:α) (s:σ),aoj (bI g (c1 x) T1::F s):=fun g x s i hi=>by
  rcases an.1 hi with rfl | hi
  · exact .inl ⟨_,_,_,O⟩
  · exact hF s i hi
 refine wpIn_rangeFunc_ownH (F:=Fence.wide) O (by omega) (gf:=gf) (lb:=#[.pointer (some ⟨Bs,0,none⟩)]) (by rw[cD];exact hf) trivial (fun args u=>tJ he) hseq KeepsWalks.trans
  (fun W l o o' _ ho _ hw=>KeepsWalks.putObj o' ho hw) (Below.refl _ _) (fun _=>rfl)
  (fun pre W=>∃s,R pre s∧Mem w0 W (F s)) (fun _ _ _=>False)
  own (fun _ _ _ _ _ h _ _=>h) ⟨s0,hR,m⟩
  (fun x a' W=>∃g s pre,a'=Fr ((L.set q1 (v1 x)).set d1 (.pointer (some ⟨g,0,none⟩)))∧R pre s∧Mem w0 W (bI g (c1 x) T1::F s))
  (fun x a' _ X Y row hs hg hr=>by
   obtain⟨g,s,pre,e,h1,h2⟩:=hs;exact⟨g,s,pre,e,h1,acw (β:=Unit) (fun _=>bI g (c1 x) T1::F s) (fun _=>Zt g x s) hsz () X Y row h2 hg hr⟩)
  ?_ ?_ ?_ ?_
 · rintro r pre x W K ⟨s,hs,hm⟩ hK
   have e:((#[q1].zip #[v1 x]).foldl (fun t (y:Tmp × ai)=>t.setIfInBounds y.1 y.2) (Fr L).tmps)=(L.set q1 (v1 x)).toArray:=by simp
   have:=hassign r pre x s W K hs (lP.start hm) (fun g u hu=>hK _ _ (hu.rx.ko.from _) (acx hu.rx) ⟨s,hs,hu.toMem.tl⟩ ⟨g,s,pre,rfl,hs,hu.toMem⟩);simp only at this ⊢;rw[e];exact this
 · rintro r pre x a' W _ _ ⟨s,hs,hm⟩ ⟨g,s',pre',rfl,hs',hm'⟩ hN
   have hd:=hdet W s s' pre pre' hs hs' hm hm'.tl;refine hbody r pre x g s' W _ hN hd (lP.start hm') (fun a u s2 hu h2=>?_);exact⟨hu.rx.ko.from _,acx hu.rx,s2,h2,hu.toMem⟩
 · rintro D xs W hD hS ⟨s,hs,hm⟩ hd
   exact hdone D xs s W hS hs (Lith.Mem.addC hm (hF s) hd (ba hsz hD))
 · rintro D c pre W hD hsp h hd
   exact h.elim
end
end Go.Lith
namespace Go.Proofs.YtfekpcimgncioaaGreatDoor
open Go.Proofs.Tryz
open Go.RowKit Go.Lith
set_option maxRecDepth 100000
attribute [local irreducible] ar cw gG bQ cO Code.wp
attribute [local congr] rC gX gY gZ iA iB lI iC iD iE iF iG iH iJ iK iL iM iN fJ fK iO iP iR iS iT lK dW dX cX dV iQ lJ fN fO fP iU iV lM
variable{N gf Bs:Nat}
theorem ak8{dp:Nat}(l Bs g c:Nat){es:Array c_}{D:List (P3 × P3)}(J Jx:List P3→aj→Prop)(W:aj)(hJ:AbidesFrom W.heap.size J)
 (hY:∀pre x W1,J pre W1→pre.length<D.length→YieldAt Fence.wide (dp-1) prog l #[pt x] W1 fun e W'=>(e=.returned (.bool true)∧J (pre++[x]) W'∧KeepsWalks W1 W')∨(e=.returned (.bool false)∧Jx (pre++[x]) W'))
 (hM:jF W g es c) (hD:bO pt pt D es c) (hB:fR W Bs [.map (some g)] 99) (h0:J [] W) :
 CallsIn Fence.wide dp prog 129 #[.func (.yield l) #[] #[],.pointer (some ⟨Bs,0,none⟩)] W fun e W'=>(∃v,e=.returned v)∧((∃xs:List P3,xs.Perm (D.map (·.1))∧J xs W')∨(∃pre,True∧Jx pre W')):=by
 refine callsIn_of_wp func129 O trivial ?_ O;simp only[ntmps129,gm,av,bv,aa,km,ii,ij,jd,iw,b_,cn];refine wpIn_wide.2 ?_;refine bE fun K1 k1=>ao (aR O (hB.lies1 apZ O) ?_);simp only[zz];refine afk Ri O hM fun w1 r e1 hr hI=>aM (k1 _ _ ?_);have hJ1:J [] w1:=hJ [] W w1 none h0 (acv e1) (fun _ h=>by cases h);have hM1:=hM.ext e1;clear h0 k1 K1;refine jt ?_;simp only[zz];refine ae0 [] [3,6,7,8,9,10,11,12,13] (fun n vs wl=>∃(dn rs:List (P3 × P3)) (sn:Array Nat),vs=[]∧jF wl g es c∧rY wl r g c sn c∧oK pt pt D es sn dn rs∧J (dn.map (·.1)) wl∧n=rs.length) ?_ ?_
 · apply Exists.intro
   simp only[zQ,zR,zD,zE];exact⟨[],D,#[],trivial,hM1,hI,oK.start hD,hJ1,O⟩
 · intro n vs wr hL u
   obtain⟨dn,rs,sn,rfl,hMw,hIw,hT,hJw,hn⟩:=hL;have hlen:=hT.len;simp only[zu,zF,zG];refine bE fun K5 k5=>ao (aoi O hIw hMw hD hT fun bb kk vv sn2 u1 hg1 hM2 hI2 hN=>?_);refine aB (qB O) (aM (k5 _ _ ?_));have hJ2:J (dn.map (·.1)) u1:=hJ _ _ _ _ hJw hg1 (fun r' e=>by cases e;exact⟨hr,_,hIw,O⟩);clear k5 K5;refine bE fun K6 k6=>?_;simp only[zz];refine dK O ?_ ?_<;>intro hc1
   · obtain⟨kp,kb,rs2,hp,hT2⟩:=Ip hc1 hN
     refine wp_skip (k6 _ _ ?_);clear k6 K6;refine jt (bE fun K7 k7=>ao (fG (tU O hI2 hM2 hD hT2) ?_));simp only[zz];refine aB (eY O O) ?_;have m:=Mem.refl u1;simp only[zz];refine mN m iW O ?_;clear m;intro g2 u2 m;simp only[zz];refine bP m 0 O O O aA (gV O) O ?_;clear m;intro u3 m;simp only[zy,zx,over,zF,zG,aa] at m;refine aM (k7 _ _ ?_);clear k7 K7;have hJ3:J (dn.map (·.1)) u3:=hJ _ _ _ _ hJ2 (acv m.ext) (fun _ h=>by cases h);have hM3:=hM2.ext m.ext;have hI3:=hI2.ext m.ext;have hB3:=m.b 0 rfl;obtain⟨fn,tmps,asn,body,hy,hR⟩:=hY (dn.map (·.1)) kp u3 hJ3 (by have:=hp.length_eq;rw[bx];simp only[av] at this;omega);refine bE fun K8 k8=>(wpIn_wide (n:=dp)).1 (wpIn_region_lit (wS (aI _) ?_));simp only[zz];refine wS (aZ O (hB3.full aH aA)) ?_;simp only[zz];refine Pv (args:=[pt kp]) O O hy hR ?_;rintro e w4 (⟨rfl,hJ4,hk4⟩ | ⟨rfl,hJ4⟩)
     · refine⟨_,O,wS (rT O _) (k8 _ _ ?_)⟩
       simp only[zz];refine af9 O (wp_skip ?_);simp only[dl,Exit.then];refine⟨rs2.length,_,?_,O,?_,?_⟩
       · rw[hn,hp.length_eq];exact Nat.lt_succ_self _
       · simp only[zz,zv]
       · simp only[zQ,zR,zD,zE]
         exact⟨dn++[(kp,kb)],rs2,_,trivial,hk4.same g _ hM3 O,hk4.same r _ hI3 O,hT2,by rw[ct];exact hJ4,O⟩
     · refine⟨_,O,wS (rT O _) (k8 _ _ ?_)⟩
       simp only[zz];refine Bm O (jf ?_);simp only[dl,Exit.then];exact asp O ⟨⟨_,O⟩,.inr ⟨_,trivial,hJ4⟩⟩
   · obtain rfl:=Io hc1 hN
     refine wp_exit ?_;simp only[dl,Exit.then,if_true];exact Fl O ⟨⟨_,O⟩,.inl ⟨dn.map (·.1),hT.done.map _,hJ2⟩⟩
theorem Oi{w:aj}{Bs g c:Nat}{es:Array c_}{D:List (P3 × P3)}(hM:jF w g es c)(hD:bO pt pt D es c)(hB:fR w Bs [.map (some g)] 99) :
 SeqStopsK Fence.wide 3 prog 129 #[.pointer (some ⟨Bs,0,none⟩)] (fun x:P3=>#[pt x]) KeepsWalks (fun xs=>xs.Perm (D.map (·.1))) (fun _=>True) D.length w:=fun l J Jx W hW hJ _ hY h0 =>
 ak8 l Bs g c J Jx W hJ hY ((hW.block g hM.lt).trans hM) hD ((hW.block Bs hB.lt).trans hB) h0
structure SlS where
 A:Option Addr
 n:Nat
 cap:Nat
 xs:List ai
theorem aok{w0 W:aj}{g:Nat}{s s':SlS}{pre pre':List P3}(h:s.n=pre.length∧s.xs=pre.flatMap lA)(h':s'.n=pre'.length∧s'.xs=pre'.flatMap lA)(m:Mem w0 W [bI g [.slice s.A s.n s.cap] 65,oI 30 3 s.A s.n s.cap s.xs])(m':Mem w0 W [bI g [.slice s'.A s'.n s'.cap] 65,oI 30 3 s'.A s'.n s'.cap s'.xs]):s'.n=pre.length∧s'.xs=pre.flatMap lA:=by
 obtain⟨A,n,cap,xs⟩:=s;obtain⟨A',n',cap',xs'⟩:=s';dsimp only at h h' m m' ⊢;have e:W.heap[g]? = _:=m.b 0 rfl;rw[show W.heap[g]? = _ from m'.b 0 rfl] at e;simp only[Option.some.injEq,Obj.cells.injEq,List.toArray_inj,List.cons.injEq,Value.slice.injEq,and_true] at e;obtain⟨rfl,rfl,rfl⟩:=e;refine⟨h.1,?_⟩;rcases (m.o 1 rfl).cases with ⟨rfl,_,_,hx⟩ | ⟨g1,cur,rfl,_,hg,_,_,_,hx⟩
 · rcases (m'.o 1 rfl).cases with ⟨_,_,_,hx'⟩ | ⟨g2,cur',e,_⟩
   · rw[hx',←h.2,hx]
   · cases e
 · rcases (m'.o 1 rfl).cases with ⟨e,_⟩ | ⟨g2,cur',e,_,hg',_,_,_,hx'⟩
   · cases e
   · cases e
     rw[hg] at hg';cases hg';rw[←hx',hx,h.2]
theorem ak9{q:Nat}(w:aj):dQ prog 69 [.map (some q)] w (fun v w'=>∃g,v=.func (.func 129) #[] #[.pointer (some ⟨g,0,none⟩)]∧w.heap.size≤g∧fR w' g [.map (some q)] 99):=by
 refine⟨bK func69 (by kernel_rfl),?_⟩;have m:=Mem.refl w
 go_enter func69,ntmps69
 apply jP 7 [0] m;simp only[↓aD];intro g1 u m;refine aB fW ?_;simp only[zz,fz,bj,dx];apply aL 3 [] m;simp only[↓aD];exact aT O O ⟨_,O,m.ext,g1,O,m.ge _ bm g1 O,(m.b 0 O)⟩
theorem Hf{α:Type}{n:Nat}{P:br}{g:Nat}{lb:Array ai}{encs:α→Array ai}{Kp:aj→aj→Prop}{S Sp:List α→Prop}{w u:aj}(h:SeqStopsK Fence.wide n P g lb encs Kp S Sp N w)(e:fQ w u):SeqStopsK Fence.wide n P g lb encs Kp S Sp N u:=fun l J Jx W hW=>h l J Jx W (Below.trans e (Below.mono hW (Below.size e)))
theorem acy{S:List P3→Prop}(w:aj)(he:Entr prog gf)(hseq:SeqStopsK Fence.wide 3 prog gf #[.pointer (some ⟨Bs,0,none⟩)] (fun x:P3=>#[pt x]) KeepsWalks S (fun _=>True) N w)(hN:N≤10000000):dQ prog 193 [.slice none 0 0,.func (.func gf) #[] #[.pointer (some ⟨Bs,0,none⟩)]] w (fun v w'=>∃xs:List P3,SL 30 3 (xs.flatMap lA) xs.length w v w'∧S xs):=by
 refine⟨bK func193 (by kernel_rfl),?_⟩;have m:=Mem.refl w;refine (callsIn_wide (n:=4)).1 (callsIn_of_wp_marks func193 O trivial ?_ O);simp only[ntmps193,gm,av,bv,aa,km,ii,ij,jd,iw,b_,cn];refine wpIn_wide.2 ?_;refine bE fun K1 k1=>ao (ass m O O ?_);intro g1 u m;refine aB aO (aM (k1 _ _ ?_));try clear k1 K1
 refine bE fun K2 k2=>bE fun K3 k3=>?_;simp only[zz];replace m:=m.nilO 30 3;refine ao (aB aI (aM (k3 _ _ ?_)));try clear k3 K3
 refine jt ?_;simp only[zz];replace m:=m.s01;refine ak7 (L:=_) (v1:=fun x=>pt x) (c1:=lA) (T1:=30) (d1:=5) O he (Hf hseq m.ext) (fun s:SlS=>[bI g1 [.slice s.A s.n s.cap] 65,oI 30 3 s.A s.n s.cap s.xs]) (fun pre s=>s.n=pre.length∧s.xs=pre.flatMap lA) (fun s i hi=>?_) (fun W s s2 pre pre2 h h2 m1 m2=>aok h h2 m1 m2) (s0:=⟨none,0,0,[]⟩) m ⟨O,O⟩ ?_ ?_ ?_
 · simp only[an,cg,or_false] at hi;rcases hi with rfl | rfl;exact .inl ⟨_,_,_,O⟩;exact .inr ⟨_,_,_,_,_,_,O⟩
 ·
  intro r pre x s W K hs m hK;try dsimp only at m hK ⊢
  simp only[zF,zG];refine bY (Kd m iW O ?_);intro g2 u m;simp only[zz];refine Do m 0 O O O aA (gV O) O ?_;intro u m;simp only[zy,zx,over,zF,zG,aa] at m;exact aM (hK _ _ m)
 ·
  rintro r pre x g5 ⟨A1,n1,cap1,xs1⟩ W Q' _ hNp ⟨hn1,hx1⟩ m hn;dsimp only at m hn hn1 hx1 ⊢;subst hx1
  ·
   simp only[zF,zG];refine pH (bY (aR O ((m.b 1 O).lies1 aiK O) ?_));simp only[zz];refine aR O ((m.b 0 O).full aH aA) ?_;simp only[zz];refine mJ O ?_;intro u g6 e_ h_ k_;replace m:lP _ _ _ _:=⟨m.toMem.newB e_ h_ k_,m.rx.ext e_⟩
   simp only[zz];refine ak6 m 3 O O cT oV O (by decide) O O O (m.b 0 O).rowsO (gB O) (by omega) (by omega) ?_;intro A1 cap1 u m;simp only[zF,zG] at m;rw[show pre.flatMap lA++_=(pre++[x]).flatMap lA by rw[ay];rfl] at m;simp only[zz];refine jD m 2 O O O aiJ (gV O) ⟨O,O⟩ ?_;intro u m;simp only[zz,zy,zx,over,aa] at m;exact aM (hn _ _ ⟨A1,n1+1,cap1,(pre++[x]).flatMap lA⟩ ⟨m.toMem.sel [false,false,true,true],m.rx⟩ ⟨by simp[hn1],O⟩)
 rintro D xs ⟨A1,n1,cap1,xs1⟩ u hS ⟨hn1,hx1⟩ m;dsimp only at m hn1 hx1;subst hx1;refine k2 _ _ ?_;try clear k2 K2
 refine bE fun K4 k4=>ao (aR O ((m.b 1 O).lies1 aiK O) ?_);simp only[zz];refine aB aO (aM (k4 _ _ ?_));try clear k4 K4
 refine jf ?_;simp only[zz];try simp only[dl,Exit.then,if_true]
 refine ada (Def.mk (m.get 0 O)) ?_;replace m:=m.putD (o':=.deferred none) 0 O;simp only[zF,zG] at m;refine aT O O ?_;try simp only[zD,zE]
 exact⟨_,O,m.ext,xs,⟨A1,cap1,n1,hn1,O,(m.o 2 O)⟩,hS⟩
theorem aeB{S:List P3→Prop}(w:aj)(he:Entr prog gf)(hseq:SeqStopsK Fence.wide 3 prog gf #[.pointer (some ⟨Bs,0,none⟩)] (fun x:P3=>#[pt x]) KeepsWalks S (fun _=>True) N w)(hN:N≤10000000):dQ prog 127 [.func (.func gf) #[] #[.pointer (some ⟨Bs,0,none⟩)]] w (fun v w'=>∃xs:List P3,SL 30 3 (xs.flatMap lA) xs.length w v w'∧S xs):=by
 refine⟨bK func127 (by kernel_rfl),?_⟩;have m:=Mem.refl w
 go_enter func127,ntmps127
 apply fF 7 [0] m;simp only[↓aD];refine bJ O O (acy _ he (Hf hseq m.ext) hN) ?_;rintro v u e_ ⟨xs,⟨A5,cap5,n5,hn5,rfl,h_⟩,hS⟩;replace m:=m.newO e_ h_;apply aL 3 [] m;simp only[↓aD];exact aT O O ⟨_,O,m.ext,xs,⟨_,_,_,hn5,O,(m.o 0 O)⟩,hS⟩
theorem acz{S:List P3→Prop}(w:aj)(he:Entr prog gf)(hseq:SeqStopsK Fence.wide 3 prog gf #[.pointer (some ⟨Bs,0,none⟩)] (fun x:P3=>#[pt x]) KeepsWalks S (fun _=>True) N w)(hS:∀xs,S xs→xs.length≤N)(hN:N≤10000000):dQ prog 68 [.func (.func gf) #[] #[.pointer (some ⟨Bs,0,none⟩)],.func (.func 70) #[] #[]] w (fun v w'=>∃xs ys:List P3,SL 30 3 (ys.flatMap dF) xs.length w v w'∧S xs∧ys.Perm xs∧ys.Pairwise fun a b=>¬b.Lt a):=by
 refine⟨bK func68 (by kernel_rfl),?_⟩;have m:=Mem.refl w
 go_enter func68,ntmps68
 apply fF 7 [0] m;simp only[↓aD];refine bJ O O (aeB _ he (Hf hseq m.ext) hN) ?_;rintro v u e_ ⟨xs,⟨A5,cap5,n5,hn5,rfl,h_⟩,hSx⟩;replace m:=m.newO e_ h_;apply aL 6 [0] m;simp only[↓aD];refine mO m 0 adm O O (fun m=>afR m 0 O (by have:=hS xs hSx;omega)) ?_;rintro v i u m ⟨rfl,ys,rfl,hys,hso⟩;simp only[zF,zG] at m;apply aL 7 [] m;simp only[↓aD];exact aT O O ⟨_,O,m.ext,xs,ys,⟨_,_,_,hn5,O,(m.o 0 O)⟩,hSx,hys,hso⟩
end Go.Proofs.YtfekpcimgncioaaGreatDoor
namespace Go.Lith
open Go.RowKit
def Hg(u:P3):Nat:=if u.x≠0 then 0 else if u.y≠0 then 1 else 2
def Oj(a b c:Int):Prop:=(0≤a∧0≤b∧0≤c)∨(a≤0∧b≤0∧c≤0)
/-! ### Corners -/
section
variable {P:br} {ds:List dz} {l:List ai} {x y:bw} {T T' U t ty:az} {v z:ai}
end
section
variable {P:br} {ds:List dz} {l:List ai} {ty:az} {v u:ai}
variable {ops:Array Oper} {Q:Exit→Act→aj→Prop} {rest:List Oper} {d:Nat} {pos:String} {after:Array Edge} {w w0:aj} {is:List It}
end
section
variable {P:br} {w0:aj} {is:List It} {l:List ai} {ty:az} {u:ai}
variable {ops:Array Oper} {Q:Act→Prop} {rest:List Oper} {d:Nat} {pos:String} {after:Array Edge} {v:ai} {ds:List dz}
end
section
variable {P:br} {l:List ai} {x y z:bw} {ty:az} {k:IntKind} {m n q r:Int}
theorem Hh{a0:Array az}(hx:ev l x=.int k m)(hy:ev l y=.int k n)(hz:ev l z=.int k q)(hr:(if q<(if n<m then n else m) then q else if n<m then n else m)=r):gN P l (.call { callee:=.builtin .min,args:=#[x,y,z],argTypes:=a0 }) ty (.int k r):=fun w o ho _=>by
 subst hr;simp[dm,ho,resolve,invoke,builtin,Builtin.min_,Builtin.min2,cD,hx,hy,hz]
theorem Hi{a0:Array az}(hx:ev l x=.int k m)(hy:ev l y=.int k n)(hz:ev l z=.int k q)(hr:(if (if m<n then n else m)<q then q else if m<n then n else m)=r):gN P l (.call { callee:=.builtin .max,args:=#[x,y,z],argTypes:=a0 }) ty (.int k r):=fun w o ho _=>by
 subst hr;simp[dm,ho,resolve,invoke,builtin,Builtin.max_,Builtin.max2,cD,hx,hy,hz]
end
end Go.Lith
namespace Go.Proofs.YtfekpcimgncioaaGreatDoor
open Go.Proofs.Tryz
open Go.RowKit Go.Lith
set_option maxRecDepth 100000
attribute [local irreducible] ar cw gG bQ cO Code.wp
attribute [local congr] rC gX gY gZ iA iB lI iC iD iE iF iG iH iJ iK iL iM iN fJ fK iO iP iR iS iT lK dW dX cX dV iQ lJ fN fO fP iU iV lM
variable{u c d q s:P3}{a:Int}
def aaN(u:P3):Int:=if u.x≠0 then 0 else if u.y≠0 then 1 else if u.z≠0 then 2 else -1
theorem Ke{n:Int}:¬bA n=0↔n≠0:=not_congr bZ
theorem Ew{n:Int}(h:¬¬bA n=0):¬n≠0:=fun k=>h (Ke.2 k)
theorem ala(h:¬Z3 u):aaN u=(Hg u:Int):=by
 unfold aaN Hg;unfold Z3 at h
 repeat' split
 all_goals first | rfl | (exfalso;omega)
theorem alb(h:Z3 u):aaN u = -1:=by
 obtain⟨h1,h2,h3⟩:=h;simp[aaN,h1,h2,h3]
class N4(p:P3):Prop where
 x : -549755813888<p.x∧p.x<549755813888
 y : -549755813888<p.y∧p.y<549755813888
 z : -549755813888<p.z∧p.z<549755813888
theorem N3.cross{v:P3}(hu:N3 u)(hv:N3 v):N4 (u.cross v):=by
 have h1:=Bc hu.y hv.z;have h2:=Bc hu.z hv.y;have h3:=Bc hu.z hv.x;have h4:=Bc hu.x hv.z;have h5:=Bc hu.x hv.y;have h6:=Bc hu.y hv.x;exact⟨by simp only[P3.cross];omega,by simp only[P3.cross];omega,by simp only[P3.cross];omega⟩
theorem pK{b:Int}(ha : -549755813888<a∧a<549755813888)(hb:b.natAbs<524288) : -288230376151711744<a*b∧a*b<288230376151711744:=by
 have h:(a*b).natAbs≤549755813887*524287:=by rw[Int.natAbs_mul];exact Nat.mul_le_mul (by omega) (by omega)
 omega
theorem afV  : dT prog 304 [sg u] (.int .i64 (aaN u)):=by
 intro w;refine⟨bK func304 (by kernel_rfl),?_⟩;have m:=Mem.refl w
 go_enter func304,ntmps304
 apply jP 26 [0,4,1,0] m;simp only[↓aD,vB];intro g1;refine⟨by omega,?_⟩;intro u m;refine aB (jU O O) ?_;apply aL 8 [0,0] m;simp only[↓aD];refine bG O ?_ ?_<;>intro hc2
 ·
  apply aJ 6 [] m;simp only[↓aD];refine aT O O ?_;try simp only[zD,zE]
  exact⟨_,O,m.ext,by rw[aaN,if_pos (Ke.1 hc2)]⟩
 ·
  have hq0:=hc2;apply aJ 19 [1,0] m;simp only[↓aD,ak];refine⟨by omega,?_⟩;refine aB (jV O O) ?_;apply aL 8 [0,0] m;simp only[↓aD];refine bG O ?_ ?_<;>intro hc2
  ·
   apply aJ 6 [] m;simp only[↓aD];refine aT O O ?_;try simp only[zD,zE]
   exact⟨_,O,m.ext,by rw[aaN,if_neg (Ew hq0),if_pos (Ke.1 hc2)]⟩
  ·
   have hq1:=hc2;apply aJ 19 [1,0] m;simp only[↓aD,ak];refine⟨by omega,?_⟩;refine aB (jW O O) ?_;apply aL 8 [0,0] m;simp only[↓aD];refine bG O ?_ ?_<;>intro hc2
   ·
    apply aJ 6 [] m;simp only[↓aD];refine aT O O ?_;try simp only[zD,zE]
    exact⟨_,O,m.ext,by rw[aaN,if_neg (Ew hq0),if_neg (Ew hq1),if_pos (Ke.1 hc2)]⟩
   ·
    have hq2:=hc2;apply aJ 19 [2] m;simp only[↓aD,ak];refine⟨by omega,?_⟩;refine aT O O ?_;try simp only[zD,zE]
    exact⟨_,O,m.ext,by rw[aaN,if_neg (Ew hq0),if_neg (Ew hq1),if_neg (Ew hq2)]⟩
theorem aaO{v:P3}(hu:N4 u)(hv:N3 v):dT prog 308 [nv u,nv v] (.int .i64 (u.dot v)):=by
 intro w;refine⟨bK func308 (by kernel_rfl),?_⟩;have m:=Mem.refl w
 go_enter func308,ntmps308
 apply jP 12 [1,0,0] m;simp only[↓aD,sW,cY,ad,ag,aa];intro g1 g2;refine⟨by omega,?_⟩;intro u m;refine aB (lC O O (bM (by have h1:=pK hu.x hv.x;have h2:=pK hu.y hv.y;have h3:=pK hu.z hv.z;omega) (by have h1:=pK hu.x hv.x;have h2:=pK hu.y hv.y;have h3:=pK hu.z hv.z;omega))) ?_;apply aL 4 [1,0,0] m;simp only[↓aD,sW,cY,ad,ag,aa];refine⟨by omega,?_⟩;refine aB (lC O O (bM (by have h1:=pK hu.x hv.x;have h2:=pK hu.y hv.y;have h3:=pK hu.z hv.z;omega) (by have h1:=pK hu.x hv.x;have h2:=pK hu.y hv.y;have h3:=pK hu.z hv.z;omega))) (aB (fB rfl rfl (bM (by have h1:=pK hu.x hv.x;have h2:=pK hu.y hv.y;have h3:=pK hu.z hv.z;omega) (by have h1:=pK hu.x hv.x;have h2:=pK hu.y hv.y;have h3:=pK hu.z hv.z;omega))) ?_);apply aL 4 [1,0,0] m;simp only[↓aD,sW,cY,ad,ag,aa];refine⟨by omega,?_⟩;refine aB (lC O O (bM (by have h1:=pK hu.x hv.x;have h2:=pK hu.y hv.y;have h3:=pK hu.z hv.z;omega) (by have h1:=pK hu.x hv.x;have h2:=pK hu.y hv.y;have h3:=pK hu.z hv.z;omega))) (aB (fB rfl rfl (bM (by have h1:=pK hu.x hv.x;have h2:=pK hu.y hv.y;have h3:=pK hu.z hv.z;omega) (by have h1:=pK hu.x hv.x;have h2:=pK hu.y hv.y;have h3:=pK hu.z hv.z;omega))) ?_);apply aL 3 [] m;simp only[↓aD];exact aT O O ⟨_,O,m.ext,O⟩
theorem vG{a b:P3}[I3 a][I3 b][I3 c][I3 d]:dT prog 243 [pt a,pt b,pt c,pt d] (.int .i64 (bA (((b.sub a).cross (c.sub a)).dot (d.sub a)))):=by
 intro w;refine⟨bK func243 (by kernel_rfl),?_⟩;have m:=Mem.refl w
 go_enter func243,ntmps243
 apply jP 15 [3,2,1,0,0] m;simp only[↓aD,aS];intro g1 g2 g3 g4 u m;refine Ei O O O O ?_;intro u g5 e_ h_ k_;replace m:=m.newB e_ h_ k_;simp only[zz];refine dM m O O (Yj _ (m.b 0 O)) ?_;rintro v u m ⟨bo,rfl,hsm⟩;apply aL 1 [0] m;simp only[↓aD];refine gF O ?_ ?_<;>intro hc1
 ·
  obtain⟨_,_,_,_⟩:=hsm hc1;apply aJ 1 [0] m;simp only[↓aD];refine mq m aC (by kernel_rfl) (ql O (fun u m=>((m.b 4 O).full aH aA)) ?_);simp only[zz];refine ql O (fun u m=>((m.b 3 O).full aH aA)) ?_;simp only[zz];refine eX O O qL ?_;simp only[zz];refine ql O (fun u m=>((m.b 4 O).full aH aA)) ?_;simp only[zz];refine ql O (fun u m=>((m.b 2 O).full aH aA)) ?_;simp only[zz];refine eX O O qL ?_;simp only[zz];refine eX O O (Gd inferInstance inferInstance) ?_;simp only[zz];refine ql O (fun u m=>((m.b 4 O).full aH aA)) ?_;simp only[zz];refine ql O (fun u m=>((m.b 1 O).full aH aA)) ?_;simp only[zz];refine eX O O qL ?_;simp only[zz];refine eX O O (aaO (N3.cross inferInstance inferInstance) inferInstance) ?_;simp only[zz];refine eX O O aaI (aG aO (bC ?_));intro u m;apply aW 1 [] m;simp only[↓aD];exact aT O O ⟨_,O,m.ext,O⟩
 ·
  apply aJ 2 [0] m;simp only[↓aD];refine mq m aC (by kernel_rfl) (ql O (fun u m=>((m.b 4 O).full aH aA)) ?_);simp only[zz];refine ql O (fun u m=>((m.b 3 O).full aH aA)) ?_;simp only[zz];refine eX O O nJ ?_;simp only[zz];refine ql O (fun u m=>((m.b 4 O).full aH aA)) ?_;simp only[zz];refine ql O (fun u m=>((m.b 2 O).full aH aA)) ?_;simp only[zz];refine eX O O nJ ?_;simp only[zz];refine eX O O (Ah Bv.of Bv.of) ?_;simp only[zz];refine ql O (fun u m=>((m.b 4 O).full aH aA)) ?_;simp only[zz];refine ql O (fun u m=>((m.b 1 O).full aH aA)) ?_;simp only[zz];refine eX O O nJ ?_;simp only[zz];refine eX O O (Og Bv.of Bv.of) ?_;simp only[zz];refine eX O O (Ms Bw.up) (aG aO (bC ?_));intro u m;apply aW 1 [] m;simp only[↓aD];exact aT O O ⟨_,O,m.ext,O⟩
theorem xY{p:P3}:dT prog 305 [pt p,pt q] (.tuple #[pt (mY p q),pt (oC p q)]):=by
 intro w;refine⟨bK func305 (by kernel_rfl),?_⟩;have m:=Mem.refl w
 go_enter func305,ntmps305
 apply jP 12 [2,3,0] m;simp only[↓aD,eS,aS];intro g1 g2 g3 g4 u m;refine nV m O O tZ.pure 1 [0] ?_;simp only[↓aD];intro u m;refine bG O ?_ ?_<;>intro hc1
 ·
  apply aJ 1 [0] m;simp only[↓aD];refine zvt [false,false,true,true] [[0],[1],[1],[0]] (.take 0 (.take 1 (.one 2 (.one 3 .nil)))) m aC (by kernel_rfl) (bU (fun _ _ _ _ _ h=>h)) ?_;simp only[↓aD,↓zzu,aS,aa];intro u m;apply aW 1 [] m;simp only[↓aD];refine yE O ⟨_,O,((m.b 1 O).full aH aA)⟩ ⟨_,O,((m.b 0 O).full aH aA)⟩ ?_;try simp only[zD,zE]
  exact⟨_,O,m.ext,by rw[mY,oC,if_pos hc1,if_pos hc1];rfl⟩
 ·
  apply aJ 2 [0] m;simp only[↓aD];refine zvt [false,false,true,true] [[1],[0],[1],[0]] (.take 0 (.take 1 (.one 2 (.one 3 .nil)))) m aC (by kernel_rfl) (bU (fun _ _ _ _ _ h=>h)) ?_;simp only[↓aD,↓zzu,aS,aa];intro u m;apply aW 1 [] m;simp only[↓aD];refine yE O ⟨_,O,((m.b 1 O).full aH aA)⟩ ⟨_,O,((m.b 0 O).full aH aA)⟩ ?_;try simp only[zD,zE]
  exact⟨_,O,m.ext,by rw[mY,oC,if_neg hc1,if_neg hc1];rfl⟩
instance (a b c:Int):Decidable (Oj a b c):=inferInstanceAs (Decidable (_∨_))
instance {p q:P3}[I3 p][I3 q]:I3 (mY p q):=by unfold mY;split <;> assumption
instance {p q:P3}[I3 p][I3 q]:I3 (oC p q):=by unfold oC;split <;> assumption
theorem aol{b c:Int}:(decide (0≤(if c<(if b<a then b else a) then c else if b<a then b else a))||decide ((if (if a<b then b else a)<c then c else if a<b then b else a)≤0))=decide (Oj a b c):=by
 unfold Oj;rw[←Bool.decide_or]
 congr 1
 apply propext;constructor
 ·
  intro h
  repeat' split at h
  all_goals omega
 ·
  intro h
  repeat' split
  all_goals omega
theorem aom{b c:Int}:dT prog 307 [.agg #[.int .i64 a,.int .i64 b,.int .i64 c]] (.bool (decide (Oj a b c))):=by
 intro w;refine⟨bK func307 (by kernel_rfl),?_⟩;have m:=Mem.refl w
 go_enter func307,ntmps307
 apply jP 13 [0,0,0,0] m;simp only[↓aD,eW,cY,ad,ag,aa];intro g1;refine⟨by omega,?_⟩;intro u m;refine aB (Hh O O O O) ?_;apply aL 2 [0,0] m;simp only[↓aD];refine bB O (fun hb=>aK qR aU O O (by decide) (by decide) O) ?_;simp only[zz];refine cA O (fun hb=>aZ (aY hb O) ((m.b 0 O).lies1 bD O)) (bB O (fun hb=>aK qR aU O O (by decide) (by decide) O) ?_);simp only[zz];refine cA O (fun hb=>aZ (aY hb O) ((m.b 0 O).lies1 bD O)) (bB O (fun hb=>aK qR aU O O (by decide) (by decide) O) ?_);simp only[zz];refine cA O (fun hb=>aZ (aY hb O) ((m.b 0 O).lies1 bD O)) (bB O (fun hb=>Hi (aY hb O) (aY hb O) (aY hb O) O) (bB O (fun hb=>Fj (aY hb O) O) (aB (cE O O O) ?_)));apply aL 3 [] m;simp only[↓aD];refine aT O O ?_;try simp only[zD,zE]
 exact⟨_,O,m.ext,by rw[←aol]⟩
theorem afW{t:T3}(w:aj):dQ prog 303 [tr t] w (fun v w'=>∃g,v=.func (.func 337) #[] #[.pointer (some ⟨g,0,none⟩)]∧w.heap.size≤g∧fR w' g (aN t) 39):=by
 refine⟨bK func303 (by kernel_rfl),?_⟩;have m:=Mem.refl w
 go_enter func303,ntmps303
 apply jP 7 [0] m;simp only[↓aD];intro g1 u m;refine aB fW ?_;simp only[zz,fz,bj,dx];apply aL 3 [] m;simp only[↓aD];exact aT O O ⟨_,O,m.ext,_,O,m.ge _ bm _ O,(m.b 0 O)⟩
theorem Ol(n:Nat)(hn:1≤n)(Bs n₀:Nat)(t:T3)(w:aj)(hB:fR w Bs (aN t) 39):SeqStopsK Fence.wide n prog 337 #[.pointer (some ⟨Bs,0,none⟩)] (fun x:Nat=>apq t x) (nI n₀ Bs) (fun ys=>ys=[0,1,2]) (fun pre=>∀k∈pre,k<3) 3 w:=fun l J Jx W hW hJ hJx hY h0 =>
 ahz n hn l Bs n₀ t J Jx (fun s W h=>hJ s W _ none h ⟨rfl,rfl,rfl,aq _,fun _ _ _=>rfl⟩ (fun r e=>by cases e)) hY W ((hW.block Bs hB.lt).trans hB) h0
theorem mE{l:List ai}{ty:az}{x y:bw}{v:P3}{k:Nat}(hk:k<3)(hx:ev l x=sg v)(hy:ev l y=.int .i64 (k:Int)):gN prog l (.index 36 x y) ty (.int .i64 (bA (bH v k))):=by
 have h:k=0∨k=1∨k=2:=by omega
 rcases h with rfl | rfl | rfl
 · exact jU hx hy
 · exact jV hx hy
 · exact jW hx hy
theorem afX(n:Int) : -1≤bA n∧bA n≤1:=by
 unfold bA;split
 · omega
 · split <;> omega
theorem xZ(m n:Int):IntKind.i64.wrap (bA m*bA n)=bA m*bA n:=by
 have h1:=afX m;have h2:=afX n;have h3:bA m = -1∨bA m=0∨bA m=1:=by omega
 rcases h3 with h | h | h <;> rw[h] <;> exact bM (by omega) (by omega)
theorem acA{a b:P3}[I3 a][I3 b][I3 c][I3 d]{g50 k:Nat}(w:aj)(hB50:fR w g50 [.int .i64 (k:Int)] 3)(hk:k<3):dQ prog 338 [pt a,pt b,pt c,pt d,.pointer (some ⟨g50,0,none⟩)] w (fun v _=>v=.bool (decide (bA (bH (dN a b c) k)*bA (bH (dN a b d) k)≤0))):=by
 refine⟨bK func338 (by kernel_rfl),?_⟩;have m:=Mem.refl w
 go_enter func338,ntmps338
 apply jP 9 [0] m;simp only[↓aD];intro g1 g2 g3 g4 u m;refine mq m aC (by kernel_rfl) (eC 4 [3,2,3,1] ?_);simp only[↓aD,aS];refine eX O O (rO (a:=a) (b:=b) (c:=a) (d:=c)) ?_;simp only[zz];refine ql O (fun u m=>((hB50.ext m.ext).lies1 bD O)) ?_;simp only[zz];refine aG ((mE (v:=dN a b c) hk O O)) (eC 4 [3,2,3,0] ?_);simp only[↓aD,aS];refine eX O O (rO (a:=a) (b:=b) (c:=a) (d:=d)) ?_;simp only[zz];refine ql O (fun u m=>((hB50.ext m.ext).lies1 bD O)) ?_;simp only[zz];refine aG ((mE (v:=dN a b d) hk O O)) (aG (lC O O (xZ _ _)) (aG (Fj O O) (aG aO ?_)));simp only[zz];refine bC ?_;intro u m;apply aW 1 [] m;simp only[↓aD];exact aT O O ⟨_,O,m.ext,O⟩
section
variable {P:br} {ops:Array Oper} {Q:Exit→Act→aj→Prop} {rest:List Oper} {d j:Nat} {ty:az} {pos:String} {after:Array Edge} {v:ai} {b:Bool} {ds:List dz} {l:List ai} {w w0:aj} {is:List It}
variable {f:FuncId} {fo:bw} {xs:Array bw} {args:List ai} {first cap:Array ai} {a0:Array az}
theorem afY(m:Mem w0 w is)(hw:yielded ops l.toArray j=some b)(hf:b=true→ev l fo=.func (.func f) first cap)(hxs:b=true→first.toList++xs.toList.map (ev l)++cap.toList=args)(hc:b=true→dQ P f args w fun x _=>x=v)
 (h:∀u,Mem w0 u is→ar P ops Q rest (Fr (l.set d (Us b v)) ds) u):ar P ops Q (bu (some d) (.call { callee:=.value fo,args:=xs,argTypes:=a0 }) ty pos after (some (j,true))::rest) (Fr l ds) w:=by
 cases b with
 | false=>simp only[Fp] at h;exact rI hw (h w m)
 | true=>simp only[lS] at h;exact eE hw (dM m (hf rfl) (hxs rfl) (hc rfl) fun x u m e=>by subst e;exact h u m)
end
theorem An(h:¬Z3 u):Hg u=iZ u∧iZ u<3:=by
 unfold Hg iZ;unfold Z3 at h;by_cases h1:u.x=0 <;> by_cases h2:u.y=0 <;> by_cases h3:u.z=0 <;> simp[h1,h2,h3] at h ⊢
theorem alc(h:Z3 u):¬iZ u<3:=by
 obtain⟨h1,h2,h3⟩:=h;simp[iZ,h1,h2,h3]
theorem ald{b:Int}:bA a*bA b≤0↔a*b≤0:=by
 unfold bA;rcases po a 0 with ha | ha | ha <;> rcases po b 0 with hb | hb | hb
 · have:=Int.mul_pos_of_neg_of_neg ha hb
   simp[ha,hb];omega
 · simp[hb]
 · have:=Int.mul_neg_of_neg_of_pos ha hb
   have:¬b<0:=by omega
   simp[ha,hb,this];omega
 · simp[ha]
 · simp[ha]
 · simp[ha]
 · have:=Int.mul_neg_of_pos_of_neg ha hb
   have:¬a<0:=by omega
   simp[ha,hb,this];omega
 · simp[hb]
 · have:=Int.mul_pos ha hb
   have:¬a<0:=by omega
   have:¬b<0:=by omega
   simp[*]
def lU(p q r s:P3):T3:=if mY p q=oC p q then ⟨mY r s,oC r s,mY p q⟩ else ⟨mY p q,oC p q,mY r s⟩
theorem Kf{p:P3}(hp:I3 p)(hq:I3 q):I3 (mY p q)∧I3 (oC p q):=by
 unfold mY oC;split
 · exact⟨hq,hp⟩
 · exact⟨hp,hq⟩
instance {p q r s:P3}[hp:I3 p][hq:I3 q][hr:I3 r][hs:I3 s]:IT (lU p q r s):=by
 unfold lU;split
 · exact⟨(Kf hr hs).1,(Kf hr hs).2,(Kf hp hq).1⟩
 · exact⟨(Kf hp hq).1,(Kf hp hq).2,(Kf hr hs).1⟩
theorem ale{p r:P3}(h:(mY p q).x=(oC p q).x∧(mY p q).y=(oC p q).y∧(mY p q).z=(oC p q).z):lU p q r s=⟨mY r s,oC r s,mY p q⟩:=if_pos (P3.eq h.1 h.2.1 h.2.2)
theorem alf{p r:P3}(h:¬((mY p q).x=(oC p q).x∧(mY p q).y=(oC p q).y∧(mY p q).z=(oC p q).z)):lU p q r s=⟨mY p q,oC p q,mY r s⟩:=if_neg fun e=>h (by rw[e];exact⟨rfl,rfl,rfl⟩)
theorem aps(u:P3):iZ u≤3:=by
 unfold iZ;split
 · omega
 · split
   · omega
   · split <;> omega
theorem apt{p r:P3}(h:Z3 (uY p q r s)):(fV (lU p q r s) && !decide ((oC p q).Lt (mY r s)) && !decide ((oC r s).Lt (mY p q)))=eO p q r s:=by
 unfold eO;rw[if_neg (alc h)];unfold aqd
 congr 2
 unfold lU fV ajf;split
 · refine decide_eq_decide.2 ?_
   have:=aps (dN (mY r s) (oC r s) (mY p q));simp only;omega
 · refine decide_eq_decide.2 ?_
   have:=aps (dN (mY p q) (oC p q) (mY r s));simp only;omega
theorem afZ{p r:P3}(h:¬Z3 (uY p q r s)):(decide (bA (mV p q r s)=0)&&decide (bA (bH (dN p q r) (iZ (uY p q r s)))*bA (bH (dN p q s) (iZ (uY p q r s)))≤0)&&decide (bA (bH (dN r s p) (iZ (uY p q r s)))*bA (bH (dN r s q) (iZ (uY p q r s)))≤0))=eO p q r s:=by
 unfold eO;rw[if_pos (An h).2];simp only[ald,bZ]
theorem Px{p r:P3}[I3 p][I3 q][I3 r][I3 s]:dT prog 306 [pt p,pt q,pt r,pt s] (.bool (eO p q r s)):=by
 intro w;refine⟨bK func306 (by kernel_rfl),?_⟩;have m:=Mem.refl w
 go_enter func306,ntmps306
 apply jP 13 [3,2,1] m;simp only[↓aD,aS];intro g1 g2 g3 g4 u m;apply aW 1 [0,0] m;simp only[↓aD,aS];refine kO m O O (rO (a:=p) (b:=q) (c:=r) (d:=s)) ?_;intro u m;simp only[zz];refine nV m O O (afV (u:=uY p q r s)) 5 [0] ?_;simp only[↓aD,aum,cY,aa];intro g5 u m;by_cases hf:Z3 (uY p q r s)
 ·
  rw[alb hf] at m;apply aW 10 [0,2,4,3,0] m;simp only[↓aD,cY,aS];refine⟨by omega,?_⟩;refine nV m O O (xY (p:=p) (q:=q)) 10 [4,3,2,1,0] ?_;simp only[↓aD,aS,aa];intro u m;refine nV m O O (xY (p:=r) (q:=s)) 12 [2,1,4,3,2] ?_;simp only[↓aD,aS,qT,aa];intro u m;apply Rp 8 [0,5,4,0] m;simp only[↓aD,nX,eL,aS,aa];intro g6 u m;refine aB (cK O O) ?_;apply aL 1 [0] m;simp only[↓aD];refine jL m 0 [] [62,63,64,65] (fun vs i=>vs=[]∧i=bI g6 [.int .i64 (lU p q r s).a.x,.int .i64 (lU p q r s).a.y,.int .i64 (lU p q r s).a.z,.int .i64 (lU p q r s).b.x,.int .i64 (lU p q r s).b.y,.int .i64 (lU p q r s).b.z,.int .i64 (lU p q r s).c.x,.int .i64 (lU p q r s).c.y,.int .i64 (lU p q r s).c.z] 39) ?_ ?_
  · intro K1 hK1
    refine bG O ?_ ?_<;>intro hc2
    ·
     apply zvc 6 [3,2,5,0] m;simp only[↓aD,aS,qT,eL,aa];intro u m;apply aW 1 [0] m;simp only[↓aD];exact hK1 _ _ _ (by kernel_rfl) m ⟨O,by rw[ale hc2] <;> rfl⟩
    ·
     apply aJ 1 [0] m;simp only[↓aD];exact hK1 _ _ _ (by kernel_rfl) m ⟨O,by rw[alf hc2] <;> rfl⟩
  · intro vs i wr m hI u
    obtain⟨rfl,rfl⟩:=hI;simp only[zF,zG] at m;simp only[zu,zF,zG];apply aW 3 [0,0] m;simp only[↓aD,eL];refine nV m O O (aaJ (t:=lU p q r s)) 1 [0] ?_;simp only[↓aD];intro u m;refine jT O (fun hb=>aZ O ((m.b 4 O).full aH aA)) (jT O (fun hb=>aZ O ((m.b 3 O).full aH aA)) (ae9 m O O (fun hb=>by simp only[ff,bj,dx,zA,zB,zC,zD,zE,hb,lS];rfl) (fun hb=>(tZ (p:=oC p q) (q:=mY r s)).pure) ?_));intro u m;refine dA O (fun hb=>rT (aY hb O)) (aB (cC O O O) ?_);apply aL 1 [0] m;simp only[↓aD];refine jT O (fun hb=>aZ O ((m.b 2 O).full aH aA)) (jT O (fun hb=>aZ O ((m.b 5 O).full aH aA)) (ae9 m O O (fun hb=>by simp only[ff,bj,dx,zA,zB,zC,zD,zE,hb,lS];rfl) (fun hb=>(tZ (p:=oC r s) (q:=mY p q)).pure) ?_));intro u m;refine dA O (fun hb=>rT (aY hb O)) (aB (cC O O O) ?_);apply aL 3 [] m;simp only[↓aD];refine aT O O ?_;try simp only[zD,zE]
    exact⟨_,O,m.ext,by rw[He,apt hf]⟩
 ·
  rw[ala hf,(An hf).1] at m;apply aW 7 [0,1,0] m;simp only[↓aD,cY];refine⟨by omega,?_⟩;refine aB fW ?_;simp only[zz,fz,bj,dx];apply aL 8 [4,3,2,1,0] m;simp only[↓aD,aS];refine nV m O O (vG (a:=p) (b:=q) (c:=r) (d:=s)) 2 [0,0] ?_;simp only[↓aD];intro u m;refine dA O (fun hb=>aI) ?_;simp only[zz];refine jT O (fun hb=>aZ O ((m.b 4 O).full aH aA)) (jT O (fun hb=>aZ O ((m.b 3 O).full aH aA)) (jT O (fun hb=>aZ O ((m.b 2 O).full aH aA)) (jT O (fun hb=>aZ O ((m.b 1 O).full aH aA)) (afY m O (fun hb=>aY hb O) (fun hb=>by simp only[ff,bj,dx,zA,zB,zC,zD,zE,hb,lS];rfl) (fun hb=>acA (a:=p) (b:=q) (c:=r) (d:=s) (k:=iZ (uY p q r s)) _ (m.b 0 rfl) (An hf).2) ?_))));intro u m;refine aB (cC O O O) ?_;apply aL 1 [0] m;simp only[↓aD];refine dA O (fun hb=>aI) ?_;simp only[zz];refine jT O (fun hb=>aZ O ((m.b 2 O).full aH aA)) (jT O (fun hb=>aZ O ((m.b 1 O).full aH aA)) (jT O (fun hb=>aZ O ((m.b 4 O).full aH aA)) (jT O (fun hb=>aZ O ((m.b 3 O).full aH aA)) (afY m O (fun hb=>aY hb O) (fun hb=>by simp only[ff,bj,dx,zA,zB,zC,zD,zE,hb,lS];rfl) (fun hb=>acA (a:=r) (b:=s) (c:=p) (d:=q) (k:=iZ (uY p q r s)) _ (m.b 0 rfl) (An hf).2) ?_))));intro u m;refine aB (cC O O O) ?_;apply aL 3 [] m;simp only[↓aD];refine aT O O ?_;try simp only[zD,zE]
  exact⟨_,O,m.ext,by rw[←afZ hf];rfl⟩
end Go.Proofs.YtfekpcimgncioaaGreatDoor
namespace Go.Proofs.YtfekpcimgncioaaGreatDoor
open Go.Proofs.Tryz
open Go.RowKit Go.Lith
set_option maxRecDepth 100000
attribute [local irreducible] ar cw gG bQ cO Code.wp
variable{q:P3}{t:T3}{k:Nat}
instance {t:T3}{k:Nat}[h:IT t]:I3 (t.cor k):=by
 unfold T3.cor;split
 · exact h.a
 · split
   · exact h.b
   · exact h.c
def alg:List Nat→Int
 | []=>0
 | [_]=>1
 | [_,_]=>2
 | _=>3
def l3(f:Nat→Int):List Nat→List ai
 | []=>[.int .i64 0,.int .i64 0,.int .i64 0]
 | [a]=>[.int .i64 (f a),.int .i64 0,.int .i64 0]
 | [a,b]=>[.int .i64 (f a),.int .i64 (f b),.int .i64 0]
 | a::b::c::_=>[.int .i64 (f a),.int .i64 (f b),.int .i64 (f c)]
theorem aaP(u:P3):Hg u<3:=by
 unfold Hg
 repeat' split
 all_goals omega
def Tv(p q:P3)(t:T3):Prop:=mV t.a t.b t.c p=0∧mV t.a t.b t.c q=0
instance (p q:P3)(t:T3):Decidable (Tv p q t):=inferInstanceAs (Decidable (_∧_))
def Dr(p:P3)(t:T3)(k:Nat):P3:=dN (t.cor k) (t.cor ((k+1)%3)) p
def wT(p q:P3)(t:T3)(k:Nat):Int:=if Tv p q t then bA (bH (Dr p t k) (Hg t.normal)) else bA (mV p q (t.cor k) (t.cor ((k+1)%3)))
theorem Kg{p:P3}(h:Tv p q t):wT p q t k=bA (bH (Dr p t k) (Hg t.normal)):=if_pos h
theorem Kh{p:P3}(h:¬Tv p q t):wT p q t k=bA (mV p q (t.cor k) (t.cor ((k+1)%3))):=if_neg h
theorem Aq{p:P3}(h:(decide (bA (mV t.a t.b t.c p)≠0)||decide (bA (mV t.a t.b t.c q)≠0))=false):Tv p q t:=by
 simp only[ie,decide_eq_false_iff_not,ne_eq,Decidable.not_not,bZ] at h;exact h
theorem Mw{p:P3}(h:(decide (bA (mV t.a t.b t.c p)≠0)||decide (bA (mV t.a t.b t.c q)≠0))=true):¬Tv p q t:=by
 simp only[bZ,ep,decide_eq_true_eq,ne_eq] at h;exact fun k=>h.elim (· k.1) (· k.2)
theorem acB{a b c:Int}:Oj (bA a) (bA b) (bA c)↔Oj a b c:=by
 simp only[Oj,Hz,Qx]
theorem vH{a b:Int}:0<bA a*bA b↔0<a*b:=by
 have:=ald (a:=a) (b:=b);omega
theorem aon{p:P3}(hf:t.flat):eO p q (mY (mY t.a t.b) t.c) (oC (oC t.a t.b) t.c)=dG p q t:=by
 unfold dG;rw[show dN t.a t.b t.c=t.normal from rfl];rw[if_neg (alc hf)]
theorem arF{p:P3}(hf:¬t.flat)(h:0<bA (mV t.a t.b t.c p)*bA (mV t.a t.b t.c q)):false=dG p q t:=by
 unfold dG;rw[show dN t.a t.b t.c=t.normal from rfl];rw[if_pos (An hf).2,if_pos (vH.1 h)]
theorem atr{p:P3}(hf:¬t.flat)(h:Tv p q t)(hk:k<3)(ho:eO p q (t.cor k) (t.cor ((k+1)%3))=true):true=dG p q t:=by
 unfold dG;rw[show dN t.a t.b t.c=t.normal from rfl];rw[if_pos (An hf).2,if_neg (by rw[h.1];simp),if_pos (show mV t.a t.b t.c p=0∧mV t.a t.b t.c q=0 from h)];have e:k=0∨k=1∨k=2:=by omega
 rcases e with rfl | rfl | rfl
 · rw[show eO p q t.a t.b=true from ho];rfl
 · rw[show eO p q t.b t.c=true from ho,pz];rfl
 · rw[show eO p q t.c t.a=true from ho,pz];rfl
theorem arG{p:P3}(hf:¬t.flat)(hg:¬0<bA (mV t.a t.b t.c p)*bA (mV t.a t.b t.c q))(h0:Tv p q t→∀k∈[0,1,2],eO p q (t.cor k) (t.cor ((k+1)%3))=false):decide (Oj (wT p q t 0) (wT p q t 1) (wT p q t 2))=dG p q t:=by
 unfold dG;rw[show dN t.a t.b t.c=t.normal from rfl];rw[if_pos (An hf).2,if_neg (fun h=>hg (vH.2 h))];rw[gv,decide_eq_true_eq];by_cases h:Tv p q t
 · rw[if_pos (show mV t.a t.b t.c p=0∧mV t.a t.b t.c q=0 from h),show eO p q t.a t.b=false from h0 h 0 (by decide),show eO p q t.b t.c=false from h0 h 1 (by decide),show eO p q t.c t.a=false from h0 h 2 (by decide),Kg h,Kg h,Kg h,acB]
   simp only[Bool.false_or,Bool.or_false,decide_eq_true_eq];rw[(An hf).1];exact Iff.rfl
 · rw[if_neg (show ¬(mV t.a t.b t.c p=0∧mV t.a t.b t.c q=0) from h),Kh h,Kh h,Kh h,acB]
   unfold Sd;simp only[ep,be,decide_eq_true_eq,and_assoc];exact Iff.rfl
theorem aaQ{p:P3}[I3 p][I3 q][IT t]:dT prog 242 [pt p,pt q,tr t] (.bool (dG p q t)):=by
 intro w;refine⟨bK func242 (by kernel_rfl),?_⟩;have m:=Mem.refl w;refine (callsIn_wide (n:=4)).1 (callsIn_of_wp_marks func242 O trivial ?_ O);simp only[ntmps242,gm,av,bv,aa,km,ii,ij,jd,iw,b_,cn];refine wpIn_wide.2 ?_;refine bE fun K1 k1=>ao (Wh m O ?_);intro g1 u m;simp only[zz];refine Wh m O ?_;intro g2 u m;simp only[zz];refine Wh m O ?_;intro g3 u m;simp only[zz];refine mN m oU O ?_;intro g4 u m;refine aM (k1 _ _ ?_);try clear k1 K1
 refine bE fun K2 k2=>ao (aB (aK cM aA O O (by decide) (by decide) O) ?_);simp only[zz];refine aR O ((m.b 1 O).lies aH aA O O) ?_;simp only[zz,zy,au,aa,ag,ad];refine aB (aK cM aA O O (by decide) (by decide) O) ?_;simp only[zz];refine aR O ((m.b 1 O).lies aH aA O O) ?_;simp only[zz,zy,au,aa,ag,ad];refine aB (aK cM aA O O (by decide) (by decide) O) ?_;simp only[zz];refine aR O ((m.b 1 O).lies aH aA O O) ?_;simp only[zz,zy,au,aa,ag,ad];refine aB (aK cM aA O O (by decide) (by decide) O) ?_;simp only[zz];refine aR O ((m.b 1 O).lies aH aA O O) ?_;simp only[zz,zy,au,aa,ag,ad];refine kO m O O (rO (a:=t.a) (b:=t.b) (c:=t.a) (d:=t.c)) ?_;intro u m;simp only[zz];refine kO m O O (afV (u:=t.normal)) ?_;intro u m;simp only[zz];refine mN m lW O ?_;intro g5 u m;simp only[zz];refine cW m 0 O O O aU (gV O) ⟨O,O⟩ ?_;intro u m;simp only[zz,zy,zx,over,aa] at m;refine aM (k2 _ _ ?_);try clear k2 K2
 refine bE fun K3 k3=>bE fun K4 k4=>?_;by_cases hf:t.flat
 ·
  rw[alb hf] at m;refine ao (aR O ((m.b 0 O).lies1 bD O) ?_);simp only[zz];refine aB (qW O O (by omega)) (aM (k4 _ _ ?_));try clear k4 K4
  refine Bm O (bE fun K5 k5=>ao (aB (aK cM aA O O (by decide) (by decide) O) ?_));simp only[zz];refine aR O ((m.b 2 O).lies aH aA O O) ?_;simp only[zz,zy,au,aa,ag,ad];refine aB (aK cM aA O O (by decide) (by decide) O) ?_;simp only[zz];refine aR O ((m.b 2 O).lies aH aA O O) ?_;simp only[zz,zy,au,aa,ag,ad];refine kO m O O (xY (p:=t.a) (q:=t.b)) ?_;intro u m;refine aB aI (aB (eY O O) (aB (eY O O) ?_));simp only[zz];refine mN m iW O ?_;intro g6 u m;simp only[zz];refine mN m iW O ?_;intro g7 u m;simp only[zz];refine bP m 1 O O O aA (gV O) O ?_;intro u m;simp only[zy,zx,over,zF,zG,aa] at m;refine bP m 0 O O O aA (gV O) O ?_;intro u m;simp only[zy,zx,over,zF,zG,aa] at m;refine aM (k5 _ _ ?_);try clear k5 K5
  refine bE fun K6 k6=>ao (aR O ((m.b 1 O).full aH aA) ?_);simp only[zz];refine aB (aK cM aA O O (by decide) (by decide) O) ?_;simp only[zz];refine aR O ((m.b 4 O).lies aH aA O O) ?_;simp only[zz,zy,au,aa,ag,ad];refine kO m O O (xY (p:=mY t.a t.b) (q:=t.c)) ?_;intro u m;refine aB aI (aB (eY O O) (aB (eY O O) ?_));simp only[zz];refine mN m iW O ?_;intro g8 u m;simp only[zz];refine mN m iW O ?_;intro g9 u m;simp only[zz];refine bP m 1 O O O aA (gV O) O ?_;intro u m;simp only[zy,zx,over,zF,zG,aa] at m;refine bP m 0 O O O aA (gV O) O ?_;intro u m;simp only[zy,zx,over,zF,zG,aa] at m;refine aM (k6 _ _ ?_);try clear k6 K6
  refine bE fun K7 k7=>ao (aR O ((m.b 2 O).full aH aA) ?_);simp only[zz];refine aB (aK cM aA O O (by decide) (by decide) O) ?_;simp only[zz];refine aR O ((m.b 6 O).lies aH aA O O) ?_;simp only[zz,zy,au,aa,ag,ad];refine kO m O O (xY (p:=oC t.a t.b) (q:=t.c)) ?_;intro u m;refine aB aI (aB (eY O O) (aB (eY O O) ?_));simp only[zz];refine mN m iW O ?_;intro g10 u m;simp only[zz];refine mN m iW O ?_;intro g11 u m;simp only[zz];refine bP m 1 O O O aA (gV O) O ?_;intro u m;simp only[zy,zx,over,zF,zG,aa] at m;refine bP m 0 O O O aA (gV O) O ?_;intro u m;simp only[zy,zx,over,zF,zG,aa] at m;refine aM (k7 _ _ ?_);try clear k7 K7
  refine bE fun K8 k8=>ao (aR O ((m.b 10 O).full aH aA) ?_);simp only[zz];refine aR O ((m.b 9 O).full aH aA) ?_;simp only[zz];refine aR O ((m.b 3 O).full aH aA) ?_;simp only[zz];refine aR O ((m.b 0 O).full aH aA) ?_;simp only[zz];refine kO m O O (Px (p:=p) (q:=q) (r:=mY (mY t.a t.b) t.c) (s:=oC (oC t.a t.b) t.c)) ?_;intro u m;simp only[zz];refine cW m 7 O O O eK (gV O) ⟨O,O⟩ ?_;intro u m;simp only[zz,zy,zx,over,aa] at m;refine aM (k8 _ _ ?_);try clear k8 K8
  refine jf ?_;try simp only[dl,Exit.then,if_true]
  refine apr ?_;refine aT O ⟨_,O,((m.b 7 O).lies1 pB O)⟩ ?_;try simp only[zD,zE]
  exact⟨_,O,m.ext,by rw[aon hf]⟩
 ·
  rw[ala hf] at m;refine ao (aR O ((m.b 0 O).lies1 bD O) ?_);simp only[zz];refine aB (Gf O O (by omega)) (aM (k4 _ _ ?_));try clear k4 K4
  refine af9 O (wp_skip (k3 _ _ ?_));try clear k3 K3
  refine bE fun K9 k9=>?_;simp only[zz];refine eQ 18 [0,1,2,3,4,5,6,7,8,9,10,11,12,13,14,15] [⟨16,14,3,[.int .i64 0]⟩,⟨17,15,3,[.int .i64 0]⟩] aC (by kernel_rfl) (al2 ⟨_,_,_,O,by kernel_rfl,_,lW,O⟩ ⟨_,_,_,O,by kernel_rfl,_,lW,O⟩) (ol:=?_) ?hol ?_
  case hol=>simp only[zw,zQ,zR];try rfl
  intro u e_;replace m:=m.ext' e_;refine jY (aK cM aA O O (by decide) (by decide) O) ?_;simp only[zz];refine eP O (fun u e=>(((m.ext' e).b 2 O).lies aH aA O O)) ?_;simp only[zz,zy,au,aa,ag,ad];refine jY (aK cM aA O O (by decide) (by decide) O) ?_;simp only[zz];refine eP O (fun u e=>(((m.ext' e).b 2 O).lies aH aA O O)) ?_;simp only[zz,zy,au,aa,ag,ad];refine jY (aK cM aA O O (by decide) (by decide) O) ?_;simp only[zz];refine eP O (fun u e=>(((m.ext' e).b 2 O).lies aH aA O O)) ?_;simp only[zz,zy,au,aa,ag,ad];refine eP O (fun u e=>(((m.ext' e).b 4 O).full aH aA)) ?_;simp only[zz];refine eV O O (vG (a:=t.a) (b:=t.b) (c:=t.c) (d:=p)) (jY (aK cM aA O O (by decide) (by decide) O) ?_);simp only[zz];refine eP O (fun u e=>(((m.ext' e).b 2 O).lies aH aA O O)) ?_;simp only[zz,zy,au,aa,ag,ad];refine jY (aK cM aA O O (by decide) (by decide) O) ?_;simp only[zz];refine eP O (fun u e=>(((m.ext' e).b 2 O).lies aH aA O O)) ?_;simp only[zz,zy,au,aa,ag,ad];refine jY (aK cM aA O O (by decide) (by decide) O) ?_;simp only[zz];refine eP O (fun u e=>(((m.ext' e).b 2 O).lies aH aA O O)) ?_;simp only[zz,zy,au,aa,ag,ad];refine eP O (fun u e=>(((m.ext' e).b 3 O).full aH aA)) ?_;simp only[zz];refine eV O O (vG (a:=t.a) (b:=t.b) (c:=t.c) (d:=q)) (Cb ?_);simp only[zz];refine mf2 m (by decide) ?_;intro g6 g7 u m;simp only[zJ,zK,zF,zG];refine cW m 1 O O O aU (gV O) ⟨O,O⟩ ?_;intro u m;simp only[zz,zy,zx,over,aa] at m;refine cW m 0 O O O aU (gV O) ⟨O,O⟩ ?_;intro u m;simp only[zz,zy,zx,over,aa] at m;refine aM (k9 _ _ ?_);try clear k9 K9
  refine bE fun K10 k10=>bE fun K11 k11=>ao (aR O ((m.b 1 O).lies1 bD O) ?_);simp only[zz];refine aR O ((m.b 0 O).lies1 bD O) ?_;simp only[zz];refine aB (lC O O (xZ _ _)) (aB (aa1 O O) (aM (k11 _ _ ?_)));try clear k11 K11
  simp only[zz];refine bG O ?_ ?_<;>intro hc2
  ·
   refine bE fun K12 k12=>ao (cW m 3 O O O eK (gV O) ⟨O,O⟩ ?_);intro u m;simp only[zz,zy,zx,over,aa] at m;refine aM (k12 _ _ ?_);try clear k12 K12
   refine jf ?_;try simp only[dl,Exit.then,if_true]
   refine apr ?_;refine aT O ⟨_,O,((m.b 3 O).lies1 pB O)⟩ ?_;try simp only[zD,zE]
   exact⟨_,O,m.ext,by rw[←arF hf hc2]⟩
  ·
   refine wp_skip (k10 _ _ ?_);try clear k10 K10
   refine bE fun K13 k13=>ao (mN m Ed O ?_);intro g8 u m;refine aM (k13 _ _ ?_);try clear k13 K13
   refine bE fun K14 k14=>ao ?_;simp only[zz];refine mN m lW O ?_;intro g9 u m;simp only[zz];refine cW m 0 O O O aU (gV O) ⟨O,O⟩ ?_;intro u m;simp only[zz,zy,zx,over,aa] at m;refine aM (k14 _ _ ?_);try clear k14 K14
   refine bE fun K15 k15=>bE fun K16 k16=>ao (aR O ((m.b 6 O).full cF aP) ?_);simp only[zz];refine bJ O O (afW (t:=t) _) ?_;rintro v u e_ ⟨g10,rfl,h_,k_⟩;replace m:=m.newB e_ h_ k_;refine aM (k16 _ _ ?_);try clear k16 K16
   refine jt ?_;simp only[zz];refine acu (v1:=fun x=>pt (t.cor x)) (v2:=fun x=>pt (t.cor ((x+1)%3))) (c1:=fun x=>[.int .i64 (t.cor x).x,.int .i64 (t.cor x).y,.int .i64 (t.cor x).z]) (c2:=fun x=>[.int .i64 (t.cor ((x+1)%3)).x,.int .i64 (t.cor ((x+1)%3)).y,.int .i64 (t.cor ((x+1)%3)).z]) (T1:=30) (T2:=30) (d1:=18) (d2:=19) (csB:=aN t) (tB:=39) O aiE (Ol 3 (by omega) g10 0 t _ (m.b 0 O)) (fun pre=>[bI g10 (aN t) 39,bI g9 [.int .i64 (alg pre)] 3,bI g8 (l3 (wT p q t) pre) 36,bI g7 [.int .i64 (bA (mV t.a t.b t.c q))] 3,bI g6 [.int .i64 (bA (mV t.a t.b t.c p))] 3,bI g5 [.int .i64 (Hg t.normal:Int)] 3,bI g4 [.bool false] 4,bI g3 [.int .i64 t.a.x,.int .i64 t.a.y,.int .i64 t.a.z,.int .i64 t.b.x,.int .i64 t.b.y,.int .i64 t.b.z,.int .i64 t.c.x,.int .i64 t.c.y,.int .i64 t.c.z] 39,bI g2 [.int .i64 (q).x,.int .i64 (q).y,.int .i64 (q).z] 30,bI g1 [.int .i64 (p).x,.int .i64 (p).y,.int .i64 (p).z] 30]) (fun _=>[bI g4 [.bool true] 4]) (fun pre=>Tv p q t→∀k∈pre,eO p q (t.cor k) (t.cor ((k+1)%3))=false) (fun pre=>Tv p q t∧∃k∈pre,eO p q (t.cor k) (t.cor ((k+1)%3))=true) (fun _ i hi=>by simp only[an,cg,or_false] at hi;rcases hi with rfl | rfl | rfl | rfl | rfl | rfl | rfl | rfl | rfl | rfl <;> exact⟨_,_,_,rfl⟩) (fun _ i hi=>by simp only[an,cg,or_false] at hi;subst hi ;exact⟨_,_,_,rfl⟩) (fun _=>rfl) (fun _=>bh (i:=0) rfl) m (fun _ k hk=>by cases hk) ?_ ?_ ?_ ?_
   ·
    intro r pre x W K m hK;simp only[zF,zG];refine oB fun K17 k17=>bY (Kd m iW O ?_);intro g11 u m;simp only[zz];refine Do m 0 O O O aA (gV O) O ?_;intro u m;simp only[zy,zx,over,zF,zG,aa] at m;refine aM (k17 _ _ ?_);try clear k17 K17
    refine bY (Kd m iW O ?_);intro g12 u m;simp only[zz];refine Do m 0 O O O aA (gV O) O ?_;intro u m;simp only[zy,zx,over,zF,zG,aa] at m;exact aM (hK _ _ _ m)
   ·
    intro r pre x g11 g12 W Q' _ hJ hN m hn hr;rcases pre with _ | ⟨a,_ | ⟨b,_ | ⟨c,l⟩⟩⟩
    ·
     simp only[alg,l3] at m;simp only[zF,zG];refine pH (oB fun K18 k18=>pH (oB fun K19 k19=>bY (aR O ((m.b 6 O).lies1 bD O) ?_)));simp only[zz];refine aB (rS O O) (aB aI ?_);simp only[zz];refine cA O (fun hb=>aZ O ((m.b 5 O).lies1 bD O)) (bB O (fun hb=>rS (aY hb O) O) (aB (cE O O O) (aB aO (aM (k19 _ _ ?_)))));try clear k19 K19
     simp only[zz];refine Aj O ?_ ?_<;>intro hc3
     ·
      refine xW m 7 aC (by kernel_rfl) ?_;simp only[zy];refine Fg O (fun u m=>((m.b 3 O).lies1 bD O)) ?_;simp only[zz];refine Fg O (fun u m=>((m.b 11 O).full aH aA)) ?_;simp only[zz];refine Fg O (fun u m=>((m.b 10 O).full aH aA)) ?_;simp only[zz];refine Fg O (fun u m=>((m.b 1 O).full aH aA)) ?_;simp only[zz];refine Fg O (fun u m=>((m.b 0 O).full aH aA)) ?_;simp only[zz];refine ahy O O (vG (a:=p) (b:=q) (c:=t.cor x) (d:=t.cor ((x+1)%3))) (aG (aK qR aU O O (by decide) (by decide) O) (bC ?_));intro u m;simp only[zz];refine jD m 4 O O O aU (gV O) ⟨O,O⟩ ?_;intro u m;simp only[zz,zy,zx,over,aa] at m;refine aM (k18 _ _ ?_);try clear k18 K18
      refine bY (aR O ((m.b 3 O).lies1 bD O) ?_);simp only[zz];refine aB (fB (m:=0) (n:=1) (r:=1) O O (by decide)) ?_;simp only[zz];refine jD m 3 O O O aU (gV O) ⟨O,O⟩ ?_;intro u m;simp only[zz,zy,zx,over,aa] at m;refine aM ?_
      first
      | (have hI:=Mw hc3;rw[show bA (((q.sub p).cross ((t.cor x).sub p)).dot ((t.cor ((x+1)%3)).sub p))=wT p q t x from (Kh hI).symm] at m;exact hn _ _ ⟨m.toMem.sel [false,false,true,true,true,true,true,true,true,true,true,true],m.rx⟩ (fun k=>absurd k hI))
      | (have hI := Aq hc3;rw[show bA (bH (Dr p t x) (Hg t.normal))=wT p q t x from (Kg hI).symm] at m;exact hn _ _ ⟨m.toMem.sel [false, false, true, true, true, true, true, true, true, true, true, true], m.rx⟩ (fun hi k hk => by
       rcases bi.1 hk with hk | hk
       · exact hJ hi k hk
       · rw[bf.1 hk];exact hc4))
     ·
      refine oB fun K20 k20=>bY (aR O ((m.b 11 O).full aH aA) ?_);simp only[zz];refine aR O ((m.b 10 O).full aH aA) ?_;simp only[zz];refine aR O ((m.b 1 O).full aH aA) ?_;simp only[zz];refine aR O ((m.b 0 O).full aH aA) ?_;simp only[zz];refine Pu m O O (Px (p:=p) (q:=q) (r:=t.cor x) (s:=t.cor ((x+1)%3))) ?_;intro u m;refine aB aO (aM (k20 _ _ ?_));try clear k20 K20
      simp only[zz];refine Aj O ?_ ?_<;>intro hc4
      ·
       refine oB fun K21 k21=>bY (jD m 8 O O O eK (gV O) ⟨O,O⟩ ?_);intro u m;simp only[zz,zy,zx,over,aa] at m;refine aM (k21 _ _ ?_);try clear k21 K21
       refine Pt ?_;exact hr _ _ ⟨m.toMem.sel [false,false,false,false,false,false,false,false,true],m.rx⟩ ⟨Aq hc3,x,by simp,hc4⟩
      ·
       refine xW m 9 aC (by kernel_rfl) ?_;simp only[zy];refine Fg O (fun u m=>((m.b 3 O).lies1 bD O)) ?_;simp only[zz];refine Fg O (fun u m=>((m.b 1 O).full aH aA)) ?_;simp only[zz];refine Fg O (fun u m=>((m.b 0 O).full aH aA)) ?_;simp only[zz];refine Fg O (fun u m=>((m.b 1 O).full aH aA)) ?_;simp only[zz];refine Fg O (fun u m=>((m.b 11 O).full aH aA)) ?_;simp only[zz];refine ahy O O (rO (a:=t.cor x) (b:=t.cor ((x+1)%3)) (c:=t.cor x) (d:=p)) ?_;simp only[zz];refine Fg O (fun u m=>((m.b 7 O).lies1 bD O)) ?_;simp only[zz];refine aG ((mE (v:=Dr p t x) (aaP _) O O)) (aG (aK qR aU O O (by decide) (by decide) O) (bC ?_));intro u m;simp only[zz];refine jD m 4 O O O aU (gV O) ⟨O,O⟩ ?_;intro u m;simp only[zz,zy,zx,over,aa] at m;refine aM (k18 _ _ ?_);try clear k18 K18
       refine bY (aR O ((m.b 3 O).lies1 bD O) ?_);simp only[zz];refine aB (fB (m:=0) (n:=1) (r:=1) O O (by decide)) ?_;simp only[zz];refine jD m 3 O O O aU (gV O) ⟨O,O⟩ ?_;intro u m;simp only[zz,zy,zx,over,aa] at m;refine aM ?_
       first
       | (have hI:=Mw hc3;rw[show bA (((q.sub p).cross ((t.cor x).sub p)).dot ((t.cor ((x+1)%3)).sub p))=wT p q t x from (Kh hI).symm] at m;exact hn _ _ ⟨m.toMem.sel [false,false,true,true,true,true,true,true,true,true,true,true],m.rx⟩ (fun k=>absurd k hI))
       | (have hI := Aq hc3;rw[show bA (bH (Dr p t x) (Hg t.normal))=wT p q t x from (Kg hI).symm] at m;exact hn _ _ ⟨m.toMem.sel [false, false, true, true, true, true, true, true, true, true, true, true], m.rx⟩ (fun hi k hk => by
        rcases bi.1 hk with hk | hk
        · exact hJ hi k hk
        · rw[bf.1 hk];exact hc4))
    ·
     simp only[alg,l3] at m;simp only[zF,zG];refine pH (oB fun K22 k22=>pH (oB fun K23 k23=>bY (aR O ((m.b 6 O).lies1 bD O) ?_)));simp only[zz];refine aB (rS O O) (aB aI ?_);simp only[zz];refine cA O (fun hb=>aZ O ((m.b 5 O).lies1 bD O)) (bB O (fun hb=>rS (aY hb O) O) (aB (cE O O O) (aB aO (aM (k23 _ _ ?_)))));try clear k23 K23
     simp only[zz];refine Aj O ?_ ?_<;>intro hc3
     ·
      refine xW m 7 aC (by kernel_rfl) ?_;simp only[zy];refine Fg O (fun u m=>((m.b 3 O).lies1 bD O)) ?_;simp only[zz];refine Fg O (fun u m=>((m.b 11 O).full aH aA)) ?_;simp only[zz];refine Fg O (fun u m=>((m.b 10 O).full aH aA)) ?_;simp only[zz];refine Fg O (fun u m=>((m.b 1 O).full aH aA)) ?_;simp only[zz];refine Fg O (fun u m=>((m.b 0 O).full aH aA)) ?_;simp only[zz];refine ahy O O (vG (a:=p) (b:=q) (c:=t.cor x) (d:=t.cor ((x+1)%3))) (aG (aK qR aU O O (by decide) (by decide) O) (bC ?_));intro u m;simp only[zz];refine jD m 4 O O O aU (gV O) ⟨O,O⟩ ?_;intro u m;simp only[zz,zy,zx,over,aa] at m;refine aM (k22 _ _ ?_);try clear k22 K22
      refine bY (aR O ((m.b 3 O).lies1 bD O) ?_);simp only[zz];refine aB (fB (m:=1) (n:=1) (r:=2) O O (by decide)) ?_;simp only[zz];refine jD m 3 O O O aU (gV O) ⟨O,O⟩ ?_;intro u m;simp only[zz,zy,zx,over,aa] at m;refine aM ?_
      first
      | (have hI:=Mw hc3;rw[show bA (((q.sub p).cross ((t.cor x).sub p)).dot ((t.cor ((x+1)%3)).sub p))=wT p q t x from (Kh hI).symm] at m;exact hn _ _ ⟨m.toMem.sel [false,false,true,true,true,true,true,true,true,true,true,true],m.rx⟩ (fun k=>absurd k hI))
      | (have hI := Aq hc3;rw[show bA (bH (Dr p t x) (Hg t.normal))=wT p q t x from (Kg hI).symm] at m;exact hn _ _ ⟨m.toMem.sel [false, false, true, true, true, true, true, true, true, true, true, true], m.rx⟩ (fun hi k hk => by
       rcases bi.1 hk with hk | hk
       · exact hJ hi k hk
       · rw[bf.1 hk];exact hc4))
     ·
      refine oB fun K24 k24=>bY (aR O ((m.b 11 O).full aH aA) ?_);simp only[zz];refine aR O ((m.b 10 O).full aH aA) ?_;simp only[zz];refine aR O ((m.b 1 O).full aH aA) ?_;simp only[zz];refine aR O ((m.b 0 O).full aH aA) ?_;simp only[zz];refine Pu m O O (Px (p:=p) (q:=q) (r:=t.cor x) (s:=t.cor ((x+1)%3))) ?_;intro u m;refine aB aO (aM (k24 _ _ ?_));try clear k24 K24
      simp only[zz];refine Aj O ?_ ?_<;>intro hc4
      ·
       refine oB fun K25 k25=>bY (jD m 8 O O O eK (gV O) ⟨O,O⟩ ?_);intro u m;simp only[zz,zy,zx,over,aa] at m;refine aM (k25 _ _ ?_);try clear k25 K25
       refine Pt ?_;exact hr _ _ ⟨m.toMem.sel [false,false,false,false,false,false,false,false,true],m.rx⟩ ⟨Aq hc3,x,by simp,hc4⟩
      ·
       refine xW m 9 aC (by kernel_rfl) ?_;simp only[zy];refine Fg O (fun u m=>((m.b 3 O).lies1 bD O)) ?_;simp only[zz];refine Fg O (fun u m=>((m.b 1 O).full aH aA)) ?_;simp only[zz];refine Fg O (fun u m=>((m.b 0 O).full aH aA)) ?_;simp only[zz];refine Fg O (fun u m=>((m.b 1 O).full aH aA)) ?_;simp only[zz];refine Fg O (fun u m=>((m.b 11 O).full aH aA)) ?_;simp only[zz];refine ahy O O (rO (a:=t.cor x) (b:=t.cor ((x+1)%3)) (c:=t.cor x) (d:=p)) ?_;simp only[zz];refine Fg O (fun u m=>((m.b 7 O).lies1 bD O)) ?_;simp only[zz];refine aG ((mE (v:=Dr p t x) (aaP _) O O)) (aG (aK qR aU O O (by decide) (by decide) O) (bC ?_));intro u m;simp only[zz];refine jD m 4 O O O aU (gV O) ⟨O,O⟩ ?_;intro u m;simp only[zz,zy,zx,over,aa] at m;refine aM (k22 _ _ ?_);try clear k22 K22
       refine bY (aR O ((m.b 3 O).lies1 bD O) ?_);simp only[zz];refine aB (fB (m:=1) (n:=1) (r:=2) O O (by decide)) ?_;simp only[zz];refine jD m 3 O O O aU (gV O) ⟨O,O⟩ ?_;intro u m;simp only[zz,zy,zx,over,aa] at m;refine aM ?_
       first
       | (have hI:=Mw hc3;rw[show bA (((q.sub p).cross ((t.cor x).sub p)).dot ((t.cor ((x+1)%3)).sub p))=wT p q t x from (Kh hI).symm] at m;exact hn _ _ ⟨m.toMem.sel [false,false,true,true,true,true,true,true,true,true,true,true],m.rx⟩ (fun k=>absurd k hI))
       | (have hI := Aq hc3;rw[show bA (bH (Dr p t x) (Hg t.normal))=wT p q t x from (Kg hI).symm] at m;exact hn _ _ ⟨m.toMem.sel [false, false, true, true, true, true, true, true, true, true, true, true], m.rx⟩ (fun hi k hk => by
        rcases bi.1 hk with hk | hk
        · exact hJ hi k hk
        · rw[bf.1 hk];exact hc4))
    ·
     simp only[alg,l3] at m;simp only[zF,zG];refine pH (oB fun K26 k26=>pH (oB fun K27 k27=>bY (aR O ((m.b 6 O).lies1 bD O) ?_)));simp only[zz];refine aB (rS O O) (aB aI ?_);simp only[zz];refine cA O (fun hb=>aZ O ((m.b 5 O).lies1 bD O)) (bB O (fun hb=>rS (aY hb O) O) (aB (cE O O O) (aB aO (aM (k27 _ _ ?_)))));try clear k27 K27
     simp only[zz];refine Aj O ?_ ?_<;>intro hc3
     ·
      refine xW m 7 aC (by kernel_rfl) ?_;simp only[zy];refine Fg O (fun u m=>((m.b 3 O).lies1 bD O)) ?_;simp only[zz];refine Fg O (fun u m=>((m.b 11 O).full aH aA)) ?_;simp only[zz];refine Fg O (fun u m=>((m.b 10 O).full aH aA)) ?_;simp only[zz];refine Fg O (fun u m=>((m.b 1 O).full aH aA)) ?_;simp only[zz];refine Fg O (fun u m=>((m.b 0 O).full aH aA)) ?_;simp only[zz];refine ahy O O (vG (a:=p) (b:=q) (c:=t.cor x) (d:=t.cor ((x+1)%3))) (aG (aK qR aU O O (by decide) (by decide) O) (bC ?_));intro u m;simp only[zz];refine jD m 4 O O O aU (gV O) ⟨O,O⟩ ?_;intro u m;simp only[zz,zy,zx,over,aa] at m;refine aM (k26 _ _ ?_);try clear k26 K26
      refine bY (aR O ((m.b 3 O).lies1 bD O) ?_);simp only[zz];refine aB (fB (m:=2) (n:=1) (r:=3) O O (by decide)) ?_;simp only[zz];refine jD m 3 O O O aU (gV O) ⟨O,O⟩ ?_;intro u m;simp only[zz,zy,zx,over,aa] at m;refine aM ?_
      first
      | (have hI:=Mw hc3;rw[show bA (((q.sub p).cross ((t.cor x).sub p)).dot ((t.cor ((x+1)%3)).sub p))=wT p q t x from (Kh hI).symm] at m;exact hn _ _ ⟨m.toMem.sel [false,false,true,true,true,true,true,true,true,true,true,true],m.rx⟩ (fun k=>absurd k hI))
      | (have hI := Aq hc3;rw[show bA (bH (Dr p t x) (Hg t.normal))=wT p q t x from (Kg hI).symm] at m;exact hn _ _ ⟨m.toMem.sel [false, false, true, true, true, true, true, true, true, true, true, true], m.rx⟩ (fun hi k hk => by
       rcases bi.1 hk with hk | hk
       · exact hJ hi k hk
       · rw[bf.1 hk];exact hc4))
     ·
      refine oB fun K28 k28=>bY (aR O ((m.b 11 O).full aH aA) ?_);simp only[zz];refine aR O ((m.b 10 O).full aH aA) ?_;simp only[zz];refine aR O ((m.b 1 O).full aH aA) ?_;simp only[zz];refine aR O ((m.b 0 O).full aH aA) ?_;simp only[zz];refine Pu m O O (Px (p:=p) (q:=q) (r:=t.cor x) (s:=t.cor ((x+1)%3))) ?_;intro u m;refine aB aO (aM (k28 _ _ ?_));try clear k28 K28
      simp only[zz];refine Aj O ?_ ?_<;>intro hc4
      ·
       refine oB fun K29 k29=>bY (jD m 8 O O O eK (gV O) ⟨O,O⟩ ?_);intro u m;simp only[zz,zy,zx,over,aa] at m;refine aM (k29 _ _ ?_);try clear k29 K29
       refine Pt ?_;exact hr _ _ ⟨m.toMem.sel [false,false,false,false,false,false,false,false,true],m.rx⟩ ⟨Aq hc3,x,by simp,hc4⟩
      ·
       refine xW m 9 aC (by kernel_rfl) ?_;simp only[zy];refine Fg O (fun u m=>((m.b 3 O).lies1 bD O)) ?_;simp only[zz];refine Fg O (fun u m=>((m.b 1 O).full aH aA)) ?_;simp only[zz];refine Fg O (fun u m=>((m.b 0 O).full aH aA)) ?_;simp only[zz];refine Fg O (fun u m=>((m.b 1 O).full aH aA)) ?_;simp only[zz];refine Fg O (fun u m=>((m.b 11 O).full aH aA)) ?_;simp only[zz];refine ahy O O (rO (a:=t.cor x) (b:=t.cor ((x+1)%3)) (c:=t.cor x) (d:=p)) ?_;simp only[zz];refine Fg O (fun u m=>((m.b 7 O).lies1 bD O)) ?_;simp only[zz];refine aG ((mE (v:=Dr p t x) (aaP _) O O)) (aG (aK qR aU O O (by decide) (by decide) O) (bC ?_));intro u m;simp only[zz];refine jD m 4 O O O aU (gV O) ⟨O,O⟩ ?_;intro u m;simp only[zz,zy,zx,over,aa] at m;refine aM (k26 _ _ ?_);try clear k26 K26
       refine bY (aR O ((m.b 3 O).lies1 bD O) ?_);simp only[zz];refine aB (fB (m:=2) (n:=1) (r:=3) O O (by decide)) ?_;simp only[zz];refine jD m 3 O O O aU (gV O) ⟨O,O⟩ ?_;intro u m;simp only[zz,zy,zx,over,aa] at m;refine aM ?_
       first
       | (have hI:=Mw hc3;rw[show bA (((q.sub p).cross ((t.cor x).sub p)).dot ((t.cor ((x+1)%3)).sub p))=wT p q t x from (Kh hI).symm] at m;exact hn _ _ ⟨m.toMem.sel [false,false,true,true,true,true,true,true,true,true,true,true],m.rx⟩ (fun k=>absurd k hI))
       | (have hI := Aq hc3;rw[show bA (bH (Dr p t x) (Hg t.normal))=wT p q t x from (Kg hI).symm] at m;exact hn _ _ ⟨m.toMem.sel [false, false, true, true, true, true, true, true, true, true, true, true], m.rx⟩ (fun hi k hk => by
        rcases bi.1 hk with hk | hk
        · exact hJ hi k hk
        · rw[bf.1 hk];exact hc4))
    · exact absurd hN (by simp)
   rotate_left
   · rintro D pre u hS ⟨hI,k,hk,ho⟩ m
     try simp only[dl,Exit.then]
     refine ada (Def.mk (m.get 0 O)) ?_;replace m:=m.putD (o':=.deferred none) 0 O;exact aT O ⟨_,O,(m.b 1 O).lies1 pB O⟩ ⟨_,O,m.ext,by rw[←atr hf hI (hS k hk) ho]⟩
   rintro D xs u rfl hj m;simp only[alg,l3] at m;refine k15 _ _ ?_;try clear k15 K15
   refine bE fun K30 k30=>ao (aR O ((m.b 3 O).full uR jC) ?_);simp only[zz];refine kO m O O (aom (a:=wT p q t 0) (b:=wT p q t 1) (c:=wT p q t 2)) ?_;intro u m;simp only[zz];refine cW m 7 O O O eK (gV O) ⟨O,O⟩ ?_;intro u m;simp only[zz,zy,zx,over,aa] at m;refine aM (k30 _ _ ?_);try clear k30 K30
   refine jf ?_;try simp only[dl,Exit.then,if_true]
   refine ada (Def.mk (m.get 0 O)) ?_;replace m:=m.putD (o':=.deferred none) 0 O;simp only[zF,zG] at m;refine aT O ⟨_,O,((m.b 7 O).lies1 pB O)⟩ ?_;try simp only[zD,zE]
   exact⟨_,O,m.ext,by rw[arG hf hc2 hj]⟩
end Go.Proofs.YtfekpcimgncioaaGreatDoor
namespace Go.Proofs.YtfekpcimgncioaaGreatDoor
open Go.Proofs.Tryz
open Go.RowKit Go.Lith
set_option maxRecDepth 100000
attribute [local irreducible] ar cw gG bQ cO Code.wp
attribute [local congr] rC gX gY gZ iA iB lI iC iD iE iF iG iH iJ iK iL iM iN fJ fK iO iP iR iS iT lK dW dX cX dV iQ lJ fN fO fP iU iV lM
variable{s t:T3}{k g50 g51 N cap:Nat}{x:P3}{ms rs:List T3}
theorem aoo(hk:k<3)(h:dG (s.cor k) (s.cor ((k+1)%3)) t=true):true=vL s t:=by
 have e:k=0∨k=1∨k=2:=by omega
 unfold vL;rcases e with rfl | rfl | rfl
 · rw[show dG s.a s.b t=true from h];rfl
 · rw[show dG s.b s.c t=true from h,pz];rfl
 · rw[show dG s.c s.a t=true from h,pz]
theorem alh(h:∀k∈[0,1,2],dG (s.cor k) (s.cor ((k+1)%3)) t=false):false=vL s t:=by
 unfold vL;rw[show dG s.a s.b t=false from h 0 (by decide),show dG s.b s.c t=false from h 1 (by decide),show dG s.c s.a t=false from h 2 (by decide)];rfl
theorem acC{l:List ai}{ty:az}{x y:bw}(hk:k<3)(hx:ev l x=tr t)(hy:ev l y=.int .i64 (k:Int)):gN prog l (.index 39 x y) ty (pt (t.cor k)):=by
 have h:k=0∨k=1∨k=2:=by omega
 rcases h with rfl | rfl | rfl
 · exact tQ hx hy
 · exact tR hx hy
 · exact tT hx hy
def ali(t:T3):List P3:=[t.a,t.b,t.c]
theorem alj(hk:k<3):(ali t)[k]? = some (t.cor k):=by
 have h:k=0∨k=1∨k=2:=by omega
 rcases h with rfl | rfl | rfl <;> rfl
def sH(s t:T3)(k:Nat):List P3:=((ali s).take k).filter fun x=>t.has x
def sJ(s t:T3)(k:Nat):List P3:=((ali s).take k).filter fun x=>!t.has x
theorem sK(hk:k<3):sH s t (k+1)=sH s t k++if t.has (s.cor k) then [s.cor k] else []:=by
 unfold sH;rw[cJ (alj hk),il,ib,nu]
theorem sL(hk:k<3):sJ s t (k+1)=sJ s t k++if t.has (s.cor k) then [] else [s.cor k]:=by
 unfold sJ;rw[cJ (alj hk),il,ib,nu];cases t.has (s.cor k) <;> rfl
theorem Py(s t:T3)(k:Nat):(sH s t k).length≤3:=ba (fu _ _) (by rw[bp];exact Nat.min_le_right ..)
theorem Pz(s t:T3)(k:Nat):(sJ s t k).length≤3:=ba (fu _ _) (by rw[bp];exact Nat.min_le_right ..)
theorem apu   : ((decide (x.x=t.a.x∧x.y=t.a.y∧x.z=t.a.z)||decide (x.x=t.b.x∧x.y=t.b.y∧x.z=t.b.z))||decide (x.x=t.c.x∧x.y=t.c.y∧x.z=t.c.z))=t.has x:=by
 have e:∀p q:P3,(p.x=q.x∧p.y=q.y∧p.z=q.z)↔p=q:=fun p q=>⟨fun h=>P3.eq h.1 h.2.1 h.2.2,fun h=>by rw[h];exact⟨O,O,O⟩⟩
 rw[gv,mR];simp only[ep,decide_eq_true_eq,e,or_assoc]
theorem Tw(s t:T3):(mW s t).length+(sV s t).length=3:=by
 rw[Si,Sj];cases t.has s.a <;> cases t.has s.b <;> cases t.has s.c <;> rfl
theorem nd_of(h:fV t=false):t.nd=true:=by
 have hf:iZ (dN t.a t.b t.c)<3:=by
  unfold fV at h;rw[decide_eq_false_iff_not,Decidable.not_not] at h;exact h
 have hz:∀p q r:P3,p=q∨q=r∨r=p→dN p q r=⟨0,0,0⟩:=fun p q r hh=>by
  rcases hh with rfl | rfl | rfl <;> (refine P3.eq ?_ ?_ ?_ <;> (simp only[dN,P3.sub,P3.cross];grind))
 have hn:¬(t.a=t.b∨t.b=t.c∨t.c=t.a):=fun hh=>by
  rw[hz _ _ _ hh] at hf;exact absurd hf (by decide)
 rw[Gv];exact⟨fun e=>hn (.inl e),fun e=>hn (.inr (.inl e)),fun e=>hn (.inr (.inr e))⟩
theorem Tx{s t:T3}(hs:fV s=false)(ht:fV t=false)(h0:(mW s t).length≠0) :
 (∃x u v y z,mW s t=[x]∧sV s t=[u,v]∧sV t s=[y,z])∨(∃x y u v,mW s t=[x,y]∧sV s t=[u]∧sV t s=[v])∨(mW s t).length=3:=by
 have h1:=Tw s t;have h2:=Tw t s;have h3:=(abS (nd_of hs) (nd_of ht)).length_eq;generalize mW s t=L at *
 generalize sV s t=U at *
 generalize sV t s=V at *
 rw[←h3] at h2;rcases L with _ | ⟨x,_ | ⟨y,_ | ⟨z,_ | ⟨z',L⟩⟩⟩⟩
 · exact absurd O h0
 · rcases U with _ | ⟨u,_ | ⟨v,_ | ⟨_,_⟩⟩⟩ <;> simp only[av,bv] at h1 <;> try omega
   rcases V with _ | ⟨y,_ | ⟨z,_ | ⟨_,_⟩⟩⟩ <;> simp only[av,bv] at h2 <;> try omega
   exact .inl ⟨x,u,v,y,z,O,O,O⟩
 · rcases U with _ | ⟨u,_ | ⟨_,_⟩⟩ <;> simp only[av,bv] at h1 <;> try omega
   rcases V with _ | ⟨v,_ | ⟨_,_⟩⟩ <;> simp only[av,bv] at h2 <;> try omega
   exact .inr (.inl ⟨x,y,u,v,O,O,O⟩)
 · exact .inr (.inr O)
 · simp only[av] at h1;omega
theorem alk{n:Nat}(hn:n=(mW s t).length)(h:(decide ((n:Int)=0)||fV s||fV t)=true):(vL s t||vL t s)=mS s t:=by
 unfold mS;rw[if_pos];rw[ep,ep,decide_eq_true_eq] at h;rcases h with (h | h) | h
 · exact .inl (by omega)
 · exact .inr (.inl h)
 · exact .inr (.inr h)
theorem alm{n:Nat}(hn:n=(mW s t).length)(h:(decide ((n:Int)=0)||fV s||fV t)=false):((mW s t).length≠0∧fV s=false∧fV t=false)∧mS s t=nW s t (mW s t) (sV s t) (sV t s):=by
 rw[ie,ie,decide_eq_false_iff_not] at h;refine⟨⟨fun e=>h.1.1 (by omega),h.1.2,h.2⟩,?_⟩;unfold mS;rw[if_neg];rintro (k | k | k)
 · exact h.1.1 (by omega)
 · rw[h.1.2] at k;cases k
 · rw[h.2] at k;cases k
theorem aln[h:IT s](hx:x∈ali s):I3 x:=by
 simp only[ali,an,cg,or_false] at hx;rcases hx with rfl | rfl | rfl
 · exact h.a
 · exact h.b
 · exact h.c
theorem aaR[IT s]{L:List P3}{i:Nat}(h:mW s t=L)(hx:L[i]? = some x):I3 x:=aln (dw.1 (h▸bh hx:x∈mW s t)).1
theorem sX[IT s]{L:List P3}{i:Nat}(h:sV s t=L)(hx:L[i]? = some x):I3 x:=aln (dw.1 (h▸bh hx:x∈sV s t)).1
theorem alo{xa xb ua va:P3}:(decide (bA (((xb.sub xa).cross (ua.sub xa)).dot (va.sub xa))=0)&&decide (bA ((xb.sub xa).cross (ua.sub xa)).x=bA ((xb.sub xa).cross (va.sub xa)).x∧bA ((xb.sub xa).cross (ua.sub xa)).y=bA ((xb.sub xa).cross (va.sub xa)).y∧bA ((xb.sub xa).cross (ua.sub xa)).z=bA ((xb.sub xa).cross (va.sub xa)).z))=nW s t [xa,xb] [ua] [va]:=by
 rw[decide_eq_decide.2 (bZ (n:=((xb.sub xa).cross (ua.sub xa)).dot (va.sub xa)))];rfl
theorem alp(h:(mW s t).length=3):nW s t (mW s t) (sV s t) (sV t s)=true:=by
 generalize mW s t=L at h;rcases L with _ | ⟨x,_ | ⟨y,_ | ⟨z,L⟩⟩⟩ <;> simp only[av,bv] at h <;> try omega
 rfl
theorem Yk[IT s][IT t]:dT prog 241 [tr s,tr t] (.bool (vL s t)):=by
 intro w;refine⟨bK func241 (by kernel_rfl),?_⟩;have m:=Mem.refl w;refine (callsIn_wide (n:=4)).1 (callsIn_of_wp_marks func241 O trivial ?_ O);simp only[ntmps241,gm,av,bv,aa,km,ii,ij,jd,iw,b_,cn];refine wpIn_wide.2 ?_;refine bE fun K1 k1=>ao (Wh m O ?_);intro g1 u m;simp only[zz];refine Wh m O ?_;intro g2 u m;simp only[zz];refine mN m oU O ?_;intro g3 u m;refine aM (k1 _ _ ?_);try clear k1 K1
 refine bE fun K2 k2=>bE fun K3 k3=>ao ?_;simp only[zz];refine aR O ((m.b 2 O).full cF aP) ?_;simp only[zz];refine bJ O O (afW (t:=s) _) ?_;rintro v u e_ ⟨g4,rfl,h_,k_⟩;replace m:=m.newB e_ h_ k_;refine aM (k3 _ _ ?_);try clear k3 K3
 refine jt ?_;simp only[zz];refine acu (v1:=fun x=>pt (s.cor x)) (v2:=fun x=>pt (s.cor ((x+1)%3))) (c1:=fun x=>[.int .i64 (s.cor x).x,.int .i64 (s.cor x).y,.int .i64 (s.cor x).z]) (c2:=fun x=>[.int .i64 (s.cor ((x+1)%3)).x,.int .i64 (s.cor ((x+1)%3)).y,.int .i64 (s.cor ((x+1)%3)).z]) (T1:=30) (T2:=30) (d1:=5) (d2:=6) (csB:=aN s) (tB:=39) O aiE (Ol 3 (by omega) g4 0 s _ (m.b 0 O)) (fun _=>[bI g4 (aN s) 39,bI g3 [.bool false] 4,bI g2 [.int .i64 t.a.x,.int .i64 t.a.y,.int .i64 t.a.z,.int .i64 t.b.x,.int .i64 t.b.y,.int .i64 t.b.z,.int .i64 t.c.x,.int .i64 t.c.y,.int .i64 t.c.z] 39,bI g1 [.int .i64 s.a.x,.int .i64 s.a.y,.int .i64 s.a.z,.int .i64 s.b.x,.int .i64 s.b.y,.int .i64 s.b.z,.int .i64 s.c.x,.int .i64 s.c.y,.int .i64 s.c.z] 39]) (fun _=>[bI g3 [.bool true] 4]) (fun pre=>∀k∈pre,dG (s.cor k) (s.cor ((k+1)%3)) t=false) (fun pre=>∃k∈pre,dG (s.cor k) (s.cor ((k+1)%3)) t=true) (fun _ i hi=>by simp only[an,cg,or_false] at hi;rcases hi with rfl | rfl | rfl | rfl <;> exact⟨_,_,_,rfl⟩) (fun _ i hi=>by simp only[an,cg,or_false] at hi;subst hi ;exact⟨_,_,_,rfl⟩) (fun _=>rfl) (fun _=>bh (i:=0) rfl) m (fun k hk=>by cases hk) ?_ ?_ ?_ ?_
 ·
  intro r pre x W K m hK;simp only[zF,zG];refine oB fun K4 k4=>bY (Kd m iW O ?_);intro g5 u m;simp only[zz];refine Do m 0 O O O aA (gV O) O ?_;intro u m;simp only[zy,zx,over,zF,zG,aa] at m;refine aM (k4 _ _ ?_);try clear k4 K4
  refine bY (Kd m iW O ?_);intro g6 u m;simp only[zz];refine Do m 0 O O O aA (gV O) O ?_;intro u m;simp only[zy,zx,over,zF,zG,aa] at m;exact aM (hK _ _ _ m)
 ·
  intro r pre x g5 g6 W Q' _ hJ hN m hn hr
  ·
   simp only[zF,zG];refine pH (oB fun K5 k5=>bY (aR O ((m.b 1 O).full aH aA) ?_));simp only[zz];refine aR O ((m.b 0 O).full aH aA) ?_;simp only[zz];refine aR O ((m.b 4 O).full cF aP) ?_;simp only[zz];refine Pu m O O (aaQ (p:=s.cor x) (q:=s.cor ((x+1)%3)) (t:=t)) ?_;intro u m;refine aM (k5 _ _ ?_);try clear k5 K5
   simp only[zz];refine Aj O ?_ ?_<;>intro hc1
   ·
    refine oB fun K6 k6=>bY (jD m 3 O O O eK (gV O) ⟨O,O⟩ ?_);intro u m;simp only[zz,zy,zx,over,aa] at m;refine aM (k6 _ _ ?_);try clear k6 K6
    refine Pt ?_;exact hr _ _ ⟨m.toMem.sel [false,false,false,true],m.rx⟩ ⟨x,by simp,hc1⟩
   ·
    refine ak2 ?_;exact hn _ _ ⟨m.toMem.sel [false,false,true,true,true,true],m.rx⟩ (fun k hk=>by
     rcases bi.1 hk with hk | hk
     · exact hJ k hk
     · rw[bf.1 hk];exact hc1)
 rotate_left
 · rintro D pre u hS ⟨k,hk,ho⟩ m
   try simp only[dl,Exit.then]
   refine ada (Def.mk (m.get 0 O)) ?_;replace m:=m.putD (o':=.deferred none) 0 O;exact aT O ⟨_,O,(m.b 1 O).lies1 pB O⟩ ⟨_,O,m.ext,by rw[←aoo (hS k hk) ho]⟩
 rintro D xs u rfl hj m;refine k2 _ _ ?_;try clear k2 K2
 refine bE fun K7 k7=>ao (cW m 2 O O O eK (gV O) ⟨O,O⟩ ?_);intro u m;simp only[zz,zy,zx,over,aa] at m;refine aM (k7 _ _ ?_);try clear k7 K7
 refine jf ?_;try simp only[dl,Exit.then,if_true]
 refine ada (Def.mk (m.get 0 O)) ?_;replace m:=m.putD (o':=.deferred none) 0 O;simp only[zF,zG] at m;refine aT O ⟨_,O,((m.b 2 O).lies1 pB O)⟩ ?_;try simp only[zD,zE]
 exact⟨_,O,m.ext,by rw[←alh hj]⟩
theorem acD(w:aj):dQ prog 240 [tr s,tr t] w (fun v w'=>∃A4 n4 c4 A5 n5 c5,v=.tuple #[.slice A4 n4 c4,.slice A5 n5 c5]∧n4=(mW s t).length∧n5=(sV s t).length∧Mem w w' [oI 30 3 A5 n5 c5 ((sV s t).flatMap lA),oI 30 3 A4 n4 c4 ((mW s t).flatMap lA)]):=by
 refine⟨bK func240 (by kernel_rfl),?_⟩;have m:=Mem.refl w
 go_enter func240,ntmps240
 apply jP 4 [0] m;simp only[↓aD];intro g1 g2 u m;refine aB aO ?_;replace m:=m.nilO 30 3;refine aB aO ?_;replace m:=m.nilO 30 3;apply aL 8 [3,0] m;simp only[↓aD,eL];refine bX [4,5,9] [7,10,11,12,13,14,15,16,17,18,19,20,21,22,23,24,25,26,27,28,29,30,31,32,33,34,35,36] (fun n vs wl=>∃(k:Nat) (A4 A5:Option Addr) (cap4 cap5:Nat),vs=[.slice A4 (sH s t k).length cap4,.slice A5 (sJ s t k).length cap5,.int .i64 (k:Int)]∧Mem w wl [oI 30 3 A5 (sJ s t k).length cap5 ((sJ s t k).flatMap lA),oI 30 3 A4 (sH s t k).length cap4 ((sH s t k).flatMap lA),bI g2 [.int .i64 t.a.x,.int .i64 t.a.y,.int .i64 t.a.z,.int .i64 t.b.x,.int .i64 t.b.y,.int .i64 t.b.z,.int .i64 t.c.x,.int .i64 t.c.y,.int .i64 t.c.z] 39]∧(k≤3)∧(n=3-k)) ?_ ?_
 ·
  exact⟨_,0,_,_,_,_,O,(m.sel [true,true,true,false]),by omega,O⟩
 · intro n vs wr hI u K1 hK1
   obtain⟨k,A4,A5,cap4,cap5,rfl,m,hk,hn⟩:=hI;simp only[zu,zF,zG];apply aJ 5 [0,0] m;simp only[↓aD];refine bG O ?_ ?_<;>intro hc1
   ·
    have hk3:k<3:=by omega
    apply aJ 5 [0] m;simp only[↓aD];refine aB ((acC (t:=s) hk3 O O)) ?_;apply kD 8 [0,0,3,0] m;simp only[↓aD,eS,aS,bT,aa,ad,ag];intro g3;refine⟨by omega,?_⟩;intro u m;refine aB (cK O O) ?_;apply aL 1 [0] m;simp only[↓aD];refine cA O (fun hb=>aZ O ((m.b 0 O).full aH aA)) (bB O (fun hb=>aK cM aA O O (by decide) (by decide) O) ?_);simp only[zz];refine cA O (fun hb=>aZ (aY hb O) ((m.b 3 O).lies aH aA O O)) ?_;simp only[zz,zy,au,aa,ag,ad];refine bB O (fun hb=>cK (aY hb O) (aY hb O)) (aB (cE O O O) ?_);apply aL 1 [0] m;simp only[↓aD];refine cA O (fun hb=>aZ O ((m.b 0 O).full aH aA)) (bB O (fun hb=>aK cM aA O O (by decide) (by decide) O) ?_);simp only[zz];refine cA O (fun hb=>aZ (aY hb O) ((m.b 3 O).lies aH aA O O)) ?_;simp only[zz,zy,au,aa,ag,ad];refine bB O (fun hb=>cK (aY hb O) (aY hb O)) (aB (cE O O O) ?_);apply aL 1 [0] m;simp only[↓aD];refine gF O ?_ ?_<;>intro hc2
    ·
     rw[apu] at hc2;apply aJ 3 [0,0] m;simp only[↓aD,aS];refine mJ O ?_;intro u g4 e_ h_ k_;replace m:=m.newB e_ h_ k_;simp only[zz];refine bL m 3 O O cT oV O (by decide) O O O (m.b 0 O).rowsO (gB O) (by have:=Py s t k;omega) (by have:=Py s t k;omega) ?_;intro A4 cap4 u m;simp only[zF,zG] at m;rw[show (sH s t k).flatMap lA++_=(sH s t (k+1)).flatMap lA by rw[sK hk3,hc2,ay];rfl,show (sH s t k).length+1=(sH s t (k+1)).length by rw[sK hk3,hc2,aw];rfl] at m;rw[show (sH s t k).length+1=(sH s t (k+1)).length by rw[sK hk3,hc2,aw];rfl];apply aL 7 [0] m;simp only[↓aD];refine⟨by omega,?_⟩;have he:sJ s t (k+1)=sJ s t k:=by rw[sL hk3,hc2,if_pos rfl,fa]
     rw[←he] at m ⊢;exact hK1 (3-(k+1)) _ _ (by omega) (by kernel_rfl) ⟨k+1,_,_,_,_,O,(m.sel [false,false,true,true,true]),by omega,O⟩
    ·
     rw[apu] at hc2;apply aJ 3 [0,0] m;simp only[↓aD,aS];refine mJ O ?_;intro u g4 e_ h_ k_;replace m:=m.newB e_ h_ k_;simp only[zz];refine bL m 2 O O cT oV O (by decide) O O O (m.b 0 O).rowsO (gB O) (by have:=Pz s t k;omega) (by have:=Pz s t k;omega) ?_;intro A5 cap5 u m;simp only[zF,zG] at m;rw[show (sJ s t k).flatMap lA++_=(sJ s t (k+1)).flatMap lA by rw[sL hk3,hc2,ay];rfl,show (sJ s t k).length+1=(sJ s t (k+1)).length by rw[sL hk3,hc2,aw];rfl] at m;rw[show (sJ s t k).length+1=(sJ s t (k+1)).length by rw[sL hk3,hc2,aw];rfl];apply aL 7 [0] m;simp only[↓aD];refine⟨by omega,?_⟩;have he:sH s t (k+1)=sH s t k:=by rw[sK hk3,hc2,if_neg Bool.false_ne_true,fa]
     rw[←he] at m ⊢;exact hK1 (3-(k+1)) _ _ (by omega) (by kernel_rfl) ⟨k+1,_,_,_,_,O,(m.sel [false,false,true,true,true]),by omega,O⟩
   ·
    obtain rfl:k=3:=by omega
    apply aJ 9 [] m;simp only[↓aD];exact yE O O O ⟨_,O,m.ext,_,_,_,_,_,_,O,O,O,m.sel [true,true,false]⟩
theorem arH[IT s][IT t]:dT prog 176 [tr s,tr t] (.bool (mS s t)):=by
 intro w;refine⟨bK func176 (by kernel_rfl),?_⟩;have m:=Mem.refl w
 go_enter func176,ntmps176
 apply jP 9 [1] m;simp only[↓aD,eL];intro g1 g2 u m;apply aW 1 [0,0] m;simp only[↓aD,eL];refine bJ O O (acD (s:=s) (t:=t) _) ?_;rintro v u e_ ⟨A5,n5,c5,A6,n6,c6,rfl,hn5,hn6,hM⟩;replace m:=m.plus hM;clear hM;simp only[cn,b_] at m;apply aL 10 [2,3,0] m;simp only[↓aD,eL];refine bJ O O (acD (s:=t) (t:=s) _) ?_;rintro v u e_ ⟨A7,n7,c7,A8,n8,c8,rfl,hn7,hn8,hM⟩;replace m:=m.plus hM;clear hM;simp only[cn,b_] at m;apply aL 13 [0,0] m;simp only[↓aD,kZ];refine cA O (fun hb=>aZ O ((m.b 5 O).full cF aP)) (Pc m O O (fun hb=>by simp only[ff,bj,dx,zA,zB,zC,zD,zE,hb,lS];rfl) (fun hb=>aaJ (t:=s)) ?_);intro u m;refine aB (cE O O O) ?_;apply aL 1 [0] m;simp only[↓aD];refine cA O (fun hb=>aZ O ((m.b 4 O).full cF aP)) (Pc m O O (fun hb=>by simp only[ff,bj,dx,zA,zB,zC,zD,zE,hb,lS];rfl) (fun hb=>aaJ (t:=t)) ?_);intro u m;refine aB (cE O O O) ?_;apply aL 1 [0] m;simp only[↓aD];refine gF O ?_ ?_<;>intro hc1
 ·
  rw[He,He] at hc1;apply aJ 4 [5,4,0] m;simp only[↓aD,eL];refine nV m O O (Yk (s:=s) (t:=t)) 1 [0] ?_;simp only[↓aD];intro u m;refine cA O (fun hb=>aZ O ((m.b 4 O).full cF aP)) (cA O (fun hb=>aZ O ((m.b 5 O).full cF aP)) (Pc m O O (fun hb=>by simp only[ff,bj,dx,zA,zB,zC,zD,zE,hb,lS];rfl) (fun hb=>Yk (s:=t) (t:=s)) ?_));intro u m;refine aB (cE O O O) ?_;apply aL 3 [] m;simp only[↓aD];refine aT O O ?_;try simp only[zD,zE]
  exact⟨_,O,m.ext,by rw[alk hn5 hc1]⟩
 ·
  rw[He,He] at hc1;obtain⟨⟨hz,hf1,hf2⟩,hme⟩:=alm hn5 hc1;apply aJ 3 [] m;simp only[↓aD];rcases Tx hf1 hf2 hz with ⟨xa,ua,ub,va,vb,h1,h2,h3⟩ | ⟨xa,xb,ua,va,h1,h2,h3⟩ | h1
  ·
   rw[h1] at hn5;rw[h2] at hn6;rw[h3] at hn8;have i1:I3 ua:=sX (i:=0) h2 rfl;have i2:I3 ub:=sX (i:=1) h2 rfl;have i3:I3 va:=sX (i:=0) h3 rfl;have i4:I3 vb:=sX (i:=1) h3 rfl;simp only[av,bv] at hn5 hn6 hn8;subst hn5;subst hn6;subst hn8;rw[h1,h2,h3] at m;obtain⟨g5,rfl⟩:=(m.o 3 rfl).some (by decide);obtain⟨g6,rfl⟩:=(m.o 2 rfl).some (by decide);obtain⟨g8,rfl⟩:=(m.o 0 rfl).some (by decide);apply aW 12 [1,0] m;simp only[↓aD,kZ];refine⟨by omega,?_⟩;refine mq m aC (by kernel_rfl) (aG aI ?_);simp only[zz];refine aG (aF cT aA O O (by decide) (by omega) O) ?_;simp only[zz];refine ql O (fun u m=>(((m.o 2 O).at (enc:=lA) (i:=0) yO O).lies aH aA)) ?_;simp only[zz];refine aG aI ?_;simp only[zz];refine aG (aF cT aA O O (by decide) (by omega) O) ?_;simp only[zz];refine ql O (fun u m=>(((m.o 2 O).at (enc:=lA) (i:=1) yO O).lies aH aA)) ?_;simp only[zz];refine ql O (fun u m=>((m.b 4 O).full cF aP)) ?_;simp only[zz];refine eX O O (aaQ (p:=ua) (q:=ub) (t:=t)) (aG aI (gM O (fun hb=>aI) ?_));simp only[zz];refine gM O (fun hb=>aF cT aA (aY hb O) O (by decide) (by omega) O) ?_;simp only[zz];refine pX O (fun hb u m=>aZ (aY hb O) (((m.o 0 O).at (enc:=lA) (i:=0) yO O).lies aH aA)) (gM O (fun hb=>aI) ?_);simp only[zz];refine gM O (fun hb=>aF cT aA (aY hb O) O (by decide) (by omega) O) ?_;simp only[zz];refine pX O (fun hb u m=>aZ (aY hb O) (((m.o 0 O).at (enc:=lA) (i:=1) yO O).lies aH aA)) (pX O (fun hb u m=>aZ O ((m.b 5 O).full cF aP)) (afa O O (fun hb=>by simp only[ff,bj,dx,zA,zB,zC,zD,zE,hb,lS];rfl) (fun hb=>aaQ (p:=va) (q:=vb) (t:=s)) (aG (cE rfl rfl rfl) (aG aO (bC ?_)))));intro u m;apply aW 1 [] m;simp only[↓aD];refine aT O O ?_;try simp only[zD,zE]
   exact⟨_,O,m.ext,by rw[hme,h1,h2,h3];rfl⟩
  ·
   rw[h1] at hn5;rw[h2] at hn6;rw[h3] at hn8;have i1:I3 xa:=aaR (i:=0) h1 rfl;have i2:I3 xb:=aaR (i:=1) h1 rfl;have i3:I3 ua:=sX (i:=0) h2 rfl;have i4:I3 va:=sX (i:=0) h3 rfl;simp only[av,bv] at hn5 hn6 hn8;subst hn5;subst hn6;subst hn8;rw[h1,h2,h3] at m;obtain⟨g5,rfl⟩:=(m.o 3 rfl).some (by decide);obtain⟨g6,rfl⟩:=(m.o 2 rfl).some (by decide);obtain⟨g8,rfl⟩:=(m.o 0 rfl).some (by decide);apply aW 18 [2,1,0] m;simp only[↓aD,kZ];refine⟨by omega,?_⟩;apply ast m (T1:=30) (T2:=30)
   · skip
     refine Wi m [true,true,true,true,true,true] (.take 0 (.take 1 (.take 2 (.take 3 (.take 4 (.take 5 (.two 6 (.one 7 (.one 8 (.one 9 .nil))) 7 (.one 6 (.one 8 (.one 9 .nil)))))))))) aC (by kernel_rfl) (fun _ _ _ _ _ h=>by cases h.1) ?_;intro u m;refine eN (by simp only[zw];rfl) (bF aI (bW (eN (by simp only[zw];rfl) ?_)));simp only[zz];refine bF (aF cT aA O O (by decide) (by omega) O) (bW (eN (by simp only[zw];rfl) ?_));simp only[zz];refine fU O (fun u m=>(((m.o 3 O).at (enc:=lA) (i:=0) yO O).lies aH aA)) ?_;simp only[zz];refine bW (eN (by simp only[zw];rfl) (bF aI (bW (eN (by simp only[zw];rfl) ?_))));simp only[zz];refine bF (aF cT aA O O (by decide) (by omega) O) (bW (eN (by simp only[zw];rfl) ?_));simp only[zz];refine fU O (fun u m=>(((m.o 3 O).at (enc:=lA) (i:=1) yO O).lies aH aA)) ?_;simp only[zz];refine bW ?_;refine abg (by simp only[zw];rfl) (by simp only[zw];rfl) ?_ ?_
     ·
      refine mN m iW O ?_;intro g3 u m;refine aM ⟨m.sel [false,true,true,true,true,true,true],?_⟩;refine nU (by simp only[zw];rfl) ?_;simp only[zz];refine mN m iW O ?_;intro g4 u m;refine aM ⟨m.sel [false,false,true,true,true,true,true,true],?_⟩;refine nU (by simp only[zw];rfl) ?_;simp only[zz];refine bP m 1 O O O aA (gV O) O ?_;intro u m;simp only[zy,zx,over,zF,zG,aa] at m;refine aM ⟨m.sel [false,false,true,true,true,true,true,true],?_⟩;refine nU (by simp only[zw];rfl) ?_;refine bP m 0 O O O aA (gV O) O ?_;intro u m;simp only[zy,zx,over,zF,zG,aa] at m;refine aM ⟨m.sel [false,false,true,true,true,true,true,true],?_⟩;exact Fo ⟨O,g3,g4,O,m⟩
     ·
      refine mN m iW O ?_;intro g3 u m;refine aM ⟨m.sel [false,true,true,true,true,true,true],?_⟩;refine nU (by simp only[zw];rfl) ?_;simp only[zz];refine mN m iW O ?_;intro g4 u m;refine aM ⟨m.sel [false,false,true,true,true,true,true,true],?_⟩;refine nU (by simp only[zw];rfl) ?_;simp only[zz];refine bP m 0 O O O aA (gV O) O ?_;intro u m;simp only[zy,zx,over,zF,zG,aa] at m;refine aM ⟨m.sel [false,false,true,true,true,true,true,true],?_⟩;refine nU (by simp only[zw];rfl) ?_;refine bP m 1 O O O aA (gV O) O ?_;intro u m;simp only[zy,zx,over,zF,zG,aa] at m;refine aM ⟨m.sel [false,false,true,true,true,true,true,true],?_⟩;exact Fo ⟨O,g4,g3,O,m.s01⟩
   intro g3 g4 u m;try dsimp only
   apply aW 1 [0] m;simp only[↓aD];refine mq m aC (by kernel_rfl) (eC 3 [1,0] ?_);simp only[↓aD,aS];refine aG (aF cT aA O O (by decide) (by omega) O) ?_;simp only[zz];refine ql O (fun u m=>(((m.o 4 O).at (enc:=lA) (i:=0) yO O).lies aH aA)) ?_;simp only[zz];refine aG aI ?_;simp only[zz];refine aG (aF cT aA O O (by decide) (by omega) O) ?_;simp only[zz];refine ql O (fun u m=>(((m.o 2 O).at (enc:=lA) (i:=0) yO O).lies aH aA)) ?_;simp only[zz];refine eX O O (vG (a:=xa) (b:=xb) (c:=ua) (d:=va)) (aG (uJ O O) (aG aI ?_));simp only[zz];refine eR O (fun hb u m=>aZ O ((m.b 1 O).full aH aA)) (eR O (fun hb u m=>aZ O ((m.b 0 O).full aH aA)) (eR O (fun hb u m=>aZ O ((m.b 1 O).full aH aA)) (dU O (fun hb=>aI) ?_)));simp only[zz];refine dU O (fun hb=>aF cT aA (aY hb O) O (by decide) (by omega) O) ?_;simp only[zz];refine eR O (fun hb u m=>aZ (aY hb O) (((m.o 4 O).at (enc:=lA) (i:=0) yO O).lies aH aA)) (Zm O O (fun hb=>by simp only[ff,bj,dx,zA,zB,zC,zD,zE,hb,lS];rfl) (fun hb=>rO (a:=xa) (b:=xb) (c:=xa) (d:=ua)) ?_);simp only[zz];refine eR O (fun hb u m=>aZ O ((m.b 1 O).full aH aA)) (eR O (fun hb u m=>aZ O ((m.b 0 O).full aH aA)) (eR O (fun hb u m=>aZ O ((m.b 1 O).full aH aA)) (dU O (fun hb=>aI) ?_)));simp only[zz];refine dU O (fun hb=>aF cT aA (aY hb O) O (by decide) (by omega) O) ?_;simp only[zz];refine eR O (fun hb u m=>aZ (aY hb O) (((m.o 2 O).at (enc:=lA) (i:=0) yO O).lies aH aA)) (Zm O O (fun hb=>by simp only[ff,bj,dx,zA,zB,zC,zD,zE,hb,lS];rfl) (fun hb=>rO (a:=xa) (b:=xb) (c:=xa) (d:=va)) (dU rfl (fun hb=>Eh (aY hb rfl) (aY hb rfl)) (aG (cC rfl rfl rfl) (aG aO ?_))));simp only[zz];refine bC ?_;intro u m;apply aW 1 [] m;simp only[↓aD];refine aT O O ?_;try simp only[zD,zE]
   exact⟨_,O,m.ext,by rw[hme,h1,h2,h3];exact congrArg bn alo⟩
  ·
   rw[h1] at hn5;subst hn5;apply aW 24 [2,2] m;simp only[↓aD,kZ];refine⟨by omega,?_⟩;refine aT O O ?_;try simp only[zD,zE]
   exact⟨_,O,m.ext,by rw[hme,alp h1]⟩
theorem alq{r:T3}[IT t][IT r](w:aj)(hB50:fR w g50 [.int .i64 (Em t 0),.int .i64 (Em t 1),.int .i64 (Em t 2),.int .i64 (En t 0),.int .i64 (En t 1),.int .i64 (En t 2)] 222)(hB51:fR w g51 (aN t) 39):dQ prog 174 [tr r,.pointer (some ⟨g50,0,none⟩),.pointer (some ⟨g51,0,none⟩)] w (fun v _=>v=.bool (tC t r)):=by
 refine⟨bK func174 (by kernel_rfl),?_⟩;have m:=Mem.refl w
 go_enter func174,ntmps174
 apply jP 6 [0] m;simp only[↓aD];intro g1 u m;refine mq m aC (by kernel_rfl) (ql O (fun u m=>((hB50.ext m.ext).full aff Wn)) ?_);simp only[zz];refine ql O (fun u m=>((m.b 0 O).full cF aP)) ?_;simp only[zz];refine eX O O (acp (t:=r)) ?_;simp only[zz];refine eX O O (arz (t:=t) (r:=r)) (aG aI ?_);simp only[zz];refine eR O (fun hb u m=>aZ O ((m.b 0 O).full cF aP)) (eR O (fun hb u m=>aZ O ((hB51.ext m.ext).full cF aP)) (Zm O O (fun hb=>by simp only[ff,bj,dx,zA,zB,zC,zD,zE,hb,lS];rfl) (fun hb=>arH (s:=r) (t:=t)) (aG (cC rfl rfl rfl) (aG aO (bC ?_)))));intro u m;apply aW 1 [] m;simp only[↓aD];exact aT O O ⟨_,O,m.ext,O⟩
theorem alr{ts:List T3}{A:Option Addr}[IT t](w:aj)(hB50:fR w g50 [.int .i64 (Em t 0),.int .i64 (Em t 1),.int .i64 (Em t 2),.int .i64 (En t 0),.int .i64 (En t 1),.int .i64 (En t 2)] 222)(hB51:fR w g51 (aN t) 39)(hT:bV w A N ts)(hN:N≤10000000):dQ prog 244 [.slice A N cap,.func (.func 174) #[] #[.pointer (some ⟨g50,0,none⟩),.pointer (some ⟨g51,0,none⟩)]] w (fun v _=>∃k:Int,v=.int .i64 k∧decide (0≤k)=ts.any (tC t)):=by
 refine⟨bK func244 (by kernel_rfl),?_⟩;have m:=Mem.refl w;have htl:=hT.len
 go_enter func244,ntmps244
 apply fF 12 [0] m;simp only[↓aD,kA];refine bX [8] [4,5,9,10,11,12,13,14,15,16,17,18] (fun n vs wl=>∃(k:Nat),vs=[.int .i64 (k:Int)]∧Mem w wl []∧(∀(j:Nat) (r:T3),j<k→ts[j]? = some r→tC t r=false)∧(k≤N)∧(n=N-k)) ?_ ?_
 ·
  exact⟨_,0,O,m,(fun j r h=>by omega),cv _,O⟩
 · intro n vs wr hI u K1 hK1
   obtain⟨k,rfl,m,hq0,hk,hn⟩:=hI;simp only[zu,zF,zG];apply aJ 5 [0,0] m;simp only[↓aD];refine bG O ?_ ?_<;>intro hc1
   ·
    obtain⟨r,hr,hri,a,rfl,hrow⟩:=hT.get (i:=k) (by omega);apply aJ 13 [0] m;simp only[↓aD];refine aB (aF cH aP O O (by omega) (by omega) (cQ (ah _))) ?_;simp only[zz];refine aR O ((hrow.ext m.ext).lies cF aP) ?_;simp only[zz];refine dM m O O (alq (t:=t) (r:=r) _ (hB50.ext m.ext) (hB51.ext m.ext)) ?_;rintro v u m rfl;apply aL 1 [0] m;simp only[↓aD];refine dK O ?_ ?_<;>intro hc2
    ·
     apply aJ 6 [] m;simp only[↓aD];exact aT O O ⟨_,O,m.ext,k,O,by rw[decide_eq_true (by omega:(0:Int)≤k)];exact (List.any_eq_true.2 ⟨r,bh hr,hc2⟩).symm⟩
    ·
     apply aJ 6 [0] m;simp only[↓aD];refine⟨by omega,?_⟩;exact hK1 (N-(k+1)) _ _ (by omega) (by kernel_rfl) ⟨k+1, rfl, m, (fun j r2 hj h1 => by
      rcases eu j k with h | h
      · exact hq0 j r2 h h1
      · obtain rfl:j=k:=by omega
        rw[hr] at h1;cases h1;exact hc2),by omega,O⟩
   ·
    obtain rfl:k=N:=by omega
    apply aJ 6 [] m;simp only[↓aD];exact aT rfl rfl ⟨_,rfl,m.ext,-1,rfl,(by rw[show ts.any (tC t)=false from List.any_eq_false.2 fun r hr=>by obtain⟨j,hj⟩:=List.mem_iff_getElem?.1 hr;rw[hq0 j r (by have:=(ap.1 hj).1;omega) hj];decide];rfl)⟩
theorem Ds{ts:List T3}{A:Option Addr}[IT t](w:aj)(hB50:fR w g50 [.int .i64 (Em t 0),.int .i64 (Em t 1),.int .i64 (Em t 2),.int .i64 (En t 0),.int .i64 (En t 1),.int .i64 (En t 2)] 222)(hB51:fR w g51 (aN t) 39)(hT:bV w A N ts)(hN:N≤10000000):dQ prog 177 [.slice A N cap,.func (.func 174) #[] #[.pointer (some ⟨g50,0,none⟩),.pointer (some ⟨g51,0,none⟩)]] w (fun v _=>v=.bool (ts.any (tC t))):=by
 refine⟨bK func177 (by kernel_rfl),?_⟩;have m:=Mem.refl w
 go_enter func177,ntmps177
 apply fF 8 [0] m;simp only[↓aD];refine dM m O O (alr (t:=t) _ (hB50.ext m.ext) (hB51.ext m.ext) (hT.ext m.ext) hN) ?_;rintro v u m ⟨kk,rfl,hkk⟩;apply aL 4 [0] m;simp only[↓aD];refine aT O O ?_;try simp only[zD,zE]
 exact⟨_,O,m.ext,by rw[←hkk]⟩
def Vw(ms rs:List T3)(t:T3)(k:Nat):Bool:=!rs.any (tC t) && !(ms.take k).any (tC t)
def ahA(ms rs:List T3):Bool:=ms.zipIdx.all fun x=>Vw ms rs x.1 x.2
theorem af0(ht:ms[k]? = some t)(h:Vw ms rs t k=false):ahA ms rs=false:=by
 unfold ahA;rw[List.all_eq_false];exact⟨(t,k),List.mk_mem_zipIdx_iff_getElem?.2 ht,by rw[h];decide⟩
theorem als(h:∀(k:Nat) (t:T3),ms[k]? = some t→Vw ms rs t k=true):ahA ms rs=true:=by
 unfold ahA;rw[de];rintro⟨t,k⟩ hx;exact h k t (List.mk_mem_zipIdx_iff_getElem?.1 hx)
theorem arI(h:rs.any (tC t)=true):Vw ms rs t k=false:=by unfold Vw;rw[h];rfl
theorem arJ(h:(ms.take k).any (tC t)=true):Vw ms rs t k=false:=by unfold Vw;rw[h,fi,Bool.and_false]
theorem arK(h1:rs.any (tC t)=false)(h2:(ms.take k).any (tC t)=false):Vw ms rs t k=true:=by unfold Vw;rw[h1,h2];rfl
theorem alt{g90 g91 ga gf gx gy cx cy cf nm cm no co nr cr:Nat}{A Am Ao Ar:Option Addr}{ex ey ef:Array c_}{X Y F:List (P3 × Bool)}{ts:List T3}{p q:P3}(w:aj)(hB91:fR w g91 [.pointer (some ⟨g90,0,none⟩),.int .i64 p.x,.int .i64 p.y,.int .i64 p.z,.int .i64 q.x,.int .i64 q.y,.int .i64 q.z,.map (some gx),.map (some gy),.slice Am nm cm,.slice Ao no co,.slice Ar nr cr] 218)(hB90:fR w g90 [.slice A N cap,.map (some ga),.map (some gf)] 109)(hTm:bV w Am nm ms)(hTr:bV w Ar nr rs)(hcm:nm≤cm)(hN:nm+nr≤10000000):dQ prog 105 [.pointer (some ⟨g91,0,none⟩)] w (fun v _=>v=.bool (ahA ms rs)):=by
 refine⟨bK func105 (by kernel_rfl),?_⟩;have m:=Mem.refl w;have htm:=hTm.len
 go_enter func105,ntmps105
 apply fF 10 [0] m;simp only[↓aD,Jl,aa];refine aR O ((hB91.ext m.ext).lies1 sQ O) ?_;simp only[zz];apply aL 4 [0] m;simp only[↓aD,kA];refine bX [12] [2,3,4,5,6,13,14,15,16,17,18,19,20,21,22,23,24,25,26,27,28,29,30,31,32,33,34,35,36] (fun n vs wl=>∃(k:Nat),vs=[.int .i64 (k:Int)]∧Mem w wl []∧(∀(j:Nat) (t:T3),j<k→ms[j]? = some t→Vw ms rs t j=true)∧(k≤nm)∧(n=nm-k)) ?_ ?_
 ·
  exact⟨_,0,O,m,(fun j t h=>by omega),cv _,O⟩
 · intro n vs wr hI u K1 hK1
   obtain⟨k,rfl,m,hu0,hk,hn⟩:=hI;simp only[zu,zF,zG];apply aJ 5 [0,0] m;simp only[↓aD];refine bG O ?_ ?_<;>intro hc1
   ·
    obtain⟨t,ht,hti,a,rfl,hrow⟩:=hTm.get (i:=k) (by omega);apply aJ 6 [0] m;simp only[↓aD];refine aB (aF cH aP O O (by omega) (by omega) (cQ (ah _))) ?_;simp only[zz];refine aR O ((hrow.ext m.ext).lies cF aP) ?_;simp only[zz];apply kD 7 [0,0,0] m;simp only[↓aD,nX,eL,aa];intro g1 u m;refine nV m O O (acp (t:=t)) 5 [0,0] ?_;simp only[↓aD,ad9,ad8,aa];intro g2 u m;refine aB fW ?_;simp only[zz,fz,bj,dx];apply aL 3 [] m;simp only[↓aD];rcases Bool.eq_false_or_eq_true (rs.any (tC t)) with hq | hq
    ·
     apply aW 4 [0] m;simp only[↓aD,Ta,aa];refine aR O ((hB91.ext m.ext).lies1 sQ O) ?_;simp only[zz];apply aL 1 [0] m;simp only[↓aD];refine dM m O O (Ds (ts:=rs) (t:=t) _ (m.b 0 O) (m.b 1 O) (hTr.ext m.ext) (by omega)) ?_;rintro v u m rfl;simp only[zz];rw[hq];apply aL 17 [] m;simp only[↓aD];refine aT O O ?_;try simp only[zD,zE]
     exact⟨_,O,m.ext,by rw[af0 ht (arI hq)]⟩
    ·
     apply aW 4 [0] m;simp only[↓aD,Ta,aa];refine aR O ((hB91.ext m.ext).lies1 sQ O) ?_;simp only[zz];apply aL 1 [0] m;simp only[↓aD];refine dM m O O (Ds (ts:=rs) (t:=t) _ (m.b 0 O) (m.b 1 O) (hTr.ext m.ext) (by omega)) ?_;rintro v u m rfl;simp only[zz];rw[hq];apply aL 4 [0] m;simp only[↓aD,Jl,aa];refine eE O (aR O ((hB91.ext m.ext).lies1 sQ O) ?_);simp only[zz];apply aL 1 [0] m;simp only[↓aD];refine eE O (aB (mF cH aP O O (ah _) (by omega) (by omega)) ?_);apply aL 1 [0] m;simp only[↓aD];refine eE O (dM m O O (Ds (ts:=ms.take k) (t:=t) _ (m.b 0 O) (m.b 1 O) ((hTm.take (k:=k) (by omega)).ext m.ext) (by omega)) ?_);rintro v u m rfl;apply aL 2 [0] m;simp only[↓aD];refine dK O ?_ ?_<;>intro hc2
     ·
      apply aJ 5 [] m;simp only[↓aD];refine aT O O ?_;try simp only[zD,zE]
      exact⟨_,O,m.ext,by rw[af0 ht (arJ hc2)]⟩
     ·
      apply aJ 6 [0] m;simp only[↓aD];refine⟨by omega,?_⟩;exact hK1 (nm-(k+1)) _ _ (by omega) (by kernel_rfl) ⟨k+1, rfl, (m.sel [false, false]), (fun j t2 hj h1 => by
       rcases eu j k with h | h
       · exact hu0 j t2 h h1
       · obtain rfl:j=k:=by omega
         rw[ht] at h1;cases h1;exact arK hq hc2),by omega,O⟩
   ·
    apply aJ 6 [] m;simp only[↓aD];refine aT O O ?_;try simp only[zD,zE]
    exact⟨_,O,m.ext,by rw[als fun j t h1=>hu0 j t (by have:=(ap.1 h1).1;omega) h1]⟩
end Go.Proofs.YtfekpcimgncioaaGreatDoor
namespace Go.Lith
open Go.RowKit
section
variable {P:br} {ops:Array Oper} {Q:Exit→Act→aj→Prop} {md:Region.Mode} {S:aj→Prop} {tl:List Nat}
def Hj(P:br)(md:Region.Mode)(ops:Array Oper)(Q:Exit→Act→aj→Prop)(S:aj→Prop)(tl:List Nat):Nat→Array Bool→Act→aj→Prop
 | 0,listed,a,w=>Region.ready md ops listed=[]∧Q .normal a w
 | fuel+1,listed,a,w =>
  (Region.ready md ops listed=[]→Q .normal a w) ∧
  ∀i∈Region.ready md ops listed,wpOp P ops Q i (fun a' w'=>(i∉tl→S w→S w')∧Hj P md ops Q S tl fuel (listed.setIfInBounds i true) a' w') a w
theorem Ty:∀(fuel:Nat) (listed:Array Bool) (a:Act) (w:aj),Hj P md ops Q S tl fuel listed a w→wpAny P md ops Q fuel listed a w
 | 0,_,_,_,h=>h
 | fuel+1,_,_,_,h=>⟨h.1,fun i hi=>wpOp_mono (fun a' w' h'=>Ty fuel _ a' w' h'.2) (h.2 i hi)⟩
def aeC(md:Region.Mode)(ops:Array Oper)(listed:Array Bool):Prop:=∀j oj,ops[j]? = some oj→listed.getD j false=true→∀e∈oj.after,Region.binds md e=true→listed.getD e.on false=true
def Tz(md:Region.Mode)(ops:Array Oper):Nat→Nat→Nat→Bool
 | 0,_,_=>false
 | f+1,j,i=>match ops[j]? with
  | none=>false
  | some o=>o.after.any fun e=>Region.binds md e&&(e.on == i||Tz md ops f e.on i)
theorem Ki{listed:Array Bool}(D:aeC md ops listed){i:Nat}:∀(f j:Nat),(∀oj,ops[j]? = some oj→∀e∈oj.after,Region.binds md e=true→listed.getD e.on false=true)→Tz md ops f j i=true→listed.getD i false=true
 | 0,_,_,h=>by cases h
 | f+1,j,hj,h=>by
  unfold Tz at h;split at h
  · cases h
  · rename_i o ho
    rw[Array.any_eq_true] at h;obtain⟨k,hk,hh⟩:=h;rw[be,ep,beq_iff_eq] at hh;have hl:=hj o ho _ (Array.getElem_mem hk) hh.1;rcases hh.2 with e | hn
    · rw[←e];exact hl
    · exact Ki D f _ (fun oj hoj e he hb=>D _ oj hoj hl e he hb) hn
theorem aeC.set{listed:Array Bool}(D:aeC md ops listed){i:Nat}(hi:i∈Region.ready md ops listed):aeC md ops (listed.setIfInBounds i true):=fun j oj hoj hl e he hb=>by
 obtain⟨h0,o,ho,hall⟩:=mem_ready.1 hi;by_cases e':i=j
 · subst e'
   rw[ho] at hoj;cases hoj;exact getD_set_true (hall e he hb)
 · rw[getD_set_ne false e'] at hl
   exact getD_set_true (D j oj hoj hl e he hb)
theorem Kj{S':aj→Prop}{i:Nat}{oi:Oper}{v:ai}(hi:ops[i]? = some oi)(hsel:∀(j:Nat) (o:Oper) cs b,ops[j]? = some o→o.op≠.select cs b)
 (hQ:∀c a w,Q (.panic c) (a.put oi.dst v) w→Q (.panic c) a w) (hk:(∀w,S' w)∨((∀w,S w→S' w)∧∀j∈tl,∃f,Tz md ops f j i=true)) :
 ∀(fuel:Nat) (listed:Array Bool) (a:Act) (w:aj),
  (∀j oj,ops[j]? = some oj→j≠i→listed.getD j true=false→(∀e∈oj.after,Region.binds md e=true→e.on≠i)→oi.apart ops oj=true) →
  i∈Region.ready md ops listed→aeC md ops listed→YieldsIf P ops S' oi v a→(S w∨∀w,S' w) →
  Hj P md ops Q S tl fuel (listed.setIfInBounds i true) (a.put oi.dst v) w→Hj P md ops Q S tl (fuel+1) listed a w:=by
 intro fuel;have hS':∀w,(S w∨∀w,S' w)→S' w:=fun w h=>by
  rcases h with h | h
  · rcases hk with k | k
    · exact k w
    · exact k.1 w h
  · exact h w
 induction fuel with
 | zero =>
  intro listed a w _ hr D hy hS H;refine⟨fun h=>(by rw[h] at hr;cases hr),fun j hj=>?_⟩;by_cases hji:j=i
  · subst hji;exact hy.wpOp hi (hS' w hS) ⟨fun _ h=>h,H⟩
  · have:=ready_mono hj hji
    rw[H.1] at this;cases this
 | succ fuel ih =>
  intro listed a w hfree hr D hy hS H;refine⟨fun h=>(by rw[h] at hr;cases hr),fun j hj=>?_⟩;by_cases hji:j=i
  · subst hji;exact hy.wpOp hi (hS' w hS) ⟨fun _ h=>h,H⟩
  · have h1:=H.2 j (ready_mono hj hji)
    obtain⟨hjun,oj,hoj,hall⟩:=mem_ready.1 hj;have hiun:listed.getD i false=true→False:=fun h1=>by
     have h0:=(mem_ready.1 hr).1;rcases eu i listed.size with h' | h'
     · simp[h'] at h0 h1;rw[h0] at h1;cases h1
     · simp[Array.getElem?_eq_none h'] at h1
    have hnot:∀e∈oj.after,Region.binds md e=true→e.on≠i:=fun e he hb heq=>hiun (heq▸hall e he hb);have h2:=wpOp_putIf hoj (hfree j oj hoj hji hjun hnot) (fun cs b=>hsel i oi cs b hi) (fun cs b=>hsel j oj cs b hoj) hQ hy h1;have hfree':∀k ok,ops[k]? = some ok→k≠i→(listed.setIfInBounds j true).getD k true=false →
     (∀e∈ok.after,Region.binds md e=true→e.on≠i)→oi.apart ops ok=true:=fun k ok hk hki hun hno=>by
     refine hfree k ok hk hki ?_ hno;by_cases hjk:j=k
     · subst hjk;exact hjun
     · rw[getD_set_ne true hjk] at hun;exact hun
    have hstay:∀w',(j∉tl→S w→S w')→(S w'∨∀w,S' w):=fun w' h=>by
     rcases hk with k | k
     · exact .inr k
     · rcases hS with hS | hS
       · refine .inl (h (fun hm=>?_) hS)
         obtain⟨f,hf⟩:=k.2 j hm;exact hiun (Ki D f j (fun oj' hoj' e he hb=>by rw[hoj] at hoj';cases hoj';exact hall e he hb) hf)
       · exact .inr hS
    refine wpOp_mono (fun a' w' h3=>⟨h3.2.1,ih (listed.setIfInBounds j true) a' w' hfree' (ready_mono hr (Ne.symm hji)) (D.set hj) h3.1 (hstay w' h3.2.1) ?_⟩) h2;rw[Array.setIfInBounds_comm _ _ hji];exact h3.2.2
theorem Ua{rs:List Nat}{fuel:Nat}{listed:Array Bool}{a:Act}{w:aj}(hr:Region.ready md ops listed=rs)(hne:rs≠[])
 (h:∀i∈rs,wpOp P ops Q i (fun a' w'=>(i∉tl→S w→S w')∧Hj P md ops Q S tl fuel (listed.setIfInBounds i true) a' w') a w):Hj P md ops Q S tl (fuel+1) listed a w :=
 ⟨fun h0=>absurd (hr▸h0) hne,hr▸h⟩
inductive wU where
 | nil:wU
 | take:Nat→wU→wU
 | move:Nat→wU→wU
 | one:Nat→wU→wU
 | two:Nat→wU→Nat→wU→wU
def wU.ok(md:Region.Mode)(ops:Array Oper)(tl:List Nat):wU→Nat→Array Bool→Bool→Bool
 | .nil,f,listed,_=>f == 0&&(Region.ready md ops listed).isEmpty
 | .take i t,f,listed,b=>decide (0<f)&&(ops[i]?).isSome&&Region.free md ops listed i&&(Region.ready md ops listed).contains i&&b&&tl.all (fun j=>Tz md ops 6 j i)&&t.ok md ops tl (f-1) (listed.setIfInBounds i true) b
 | .move i t,f,listed,b=>decide (0<f)&&(ops[i]?).isSome&&Region.free md ops listed i&&(Region.ready md ops listed).contains i&&t.ok md ops tl (f-1) (listed.setIfInBounds i true) b
 | .one i t,f,listed,b=>decide (0<f)&&(ops[i]?).isSome&&decide (Region.ready md ops listed=[i])&&t.ok md ops tl (f-1) (listed.setIfInBounds i true) (b && !tl.contains i)
 | .two i t j u,f,listed,b=>decide (0<f)&&(ops[i]?).isSome&&(ops[j]?).isSome&&decide (Region.ready md ops listed=[i,j])&&t.ok md ops tl (f-1) (listed.setIfInBounds i true) (b && !tl.contains i)&&u.ok md ops tl (f-1) (listed.setIfInBounds j true) (b && !tl.contains j)
def iY(P:br)(ops:Array Oper)(S:aj→Prop)(tl:List Nat)(Q:Exit→Act→aj→Prop):wU→Act→aj→Prop
 | .nil,a,w=>Q .normal a w
 | .take i t,a,w=>bQ P ops S (fun _ a w=>iY P ops S tl Q t a w) [((ops[i]?).getD default,true)] a w
 | .move i t,a,w=>bQ P ops (fun _=>True) (fun _ a w=>iY P ops S tl Q t a w) [((ops[i]?).getD default,true)] a w
 | .one i t,a,w=>ar P ops (Exit.then (fun a w=>(i∉tl→S w)∧iY P ops S tl Q t a w) Q) [(ops[i]?).getD default] a w
 | .two i t j u,a,w=>ar P ops (Exit.then (fun a w=>(i∉tl→S w)∧iY P ops S tl Q t a w) Q) [(ops[i]?).getD default] a w∧ar P ops (Exit.then (fun a w=>(j∉tl→S w)∧iY P ops S tl Q u a w) Q) [(ops[j]?).getD default] a w
theorem lO{Q:Exit→Act→aj→Prop}(hs:Region.noSelect ops=true)(hQ:∀c d v a w,Q (.panic c) (Act.put a d v) w→Q (.panic c) a w):∀(t:wU) (f:Nat) (listed:Array Bool) (b:Bool) (a:Act) (w:aj),
 t.ok md ops tl f listed b=true→aeC md ops listed→(b=true→S w)→iY P ops S tl Q t a w→Hj P md ops Q S tl f listed a w
 | .nil,f,listed,b,a,w,hB,_,_,h=>by
  simp only[wU.ok,be,beq_iff_eq] at hB;obtain⟨rfl,h2⟩:=hB;exact⟨by simpa using h2,h⟩
 | .take i t,f,listed,b,a,w,hB,D,hS,h=>by
  simp only[wU.ok,be,decide_eq_true_eq] at hB;obtain⟨⟨⟨⟨⟨⟨h0,h1⟩,h2⟩,h3⟩,hb⟩,hn⟩,h4⟩:=hB;obtain⟨o,ho⟩:=eh.1 h1;simp only[iY,bQ,ho,dq] at h;obtain⟨v,hy,hr⟩:=h;obtain⟨f,rfl⟩:∃g,f=g+1:=⟨f-1,by omega⟩
  have hrd:i∈Region.ready md ops listed:=by simpa using h3
  refine Kj (S':=S) ho (Region.noSelect_spec hs) (fun c a w=>hQ c _ v a w) (.inr ⟨fun _ h=>h,fun j hj=>⟨6,de.1 hn j hj⟩⟩) f listed a w (Region.free_spec ho h2) hrd D hy (.inl (hS hb)) ?_;exact lO hs hQ t f _ b _ _ h4 (D.set hrd) hS hr
 | .move i t,f,listed,b,a,w,hB,D,hS,h=>by
  simp only[wU.ok,be,decide_eq_true_eq] at hB;obtain⟨⟨⟨⟨h0,h1⟩,h2⟩,h3⟩,h4⟩:=hB;obtain⟨o,ho⟩:=eh.1 h1;simp only[iY,bQ,ho,dq] at h;obtain⟨v,hy,hr⟩:=h;obtain⟨f,rfl⟩:∃g,f=g+1:=⟨f-1,by omega⟩
  have hrd:i∈Region.ready md ops listed:=by simpa using h3
  refine Kj (S':=fun _=>True) ho (Region.noSelect_spec hs) (fun c a w=>hQ c _ v a w) (.inl fun _=>trivial) f listed a w (Region.free_spec ho h2) hrd D hy (.inr fun _=>trivial) ?_;exact lO hs hQ t f _ b _ _ h4 (D.set hrd) hS hr
 | .one i t,f,listed,b,a,w,hB,D,hS,h=>by
  simp only[wU.ok,be,decide_eq_true_eq] at hB;obtain⟨⟨⟨h0,h1⟩,h2⟩,h4⟩:=hB;obtain⟨o,ho⟩:=eh.1 h1;obtain⟨f,rfl⟩:∃g,f=g+1:=⟨f-1,by omega⟩
  refine Ua h2 (by simp) fun j hj=>?_;obtain rfl:j=i:=by simpa using hj
  simp only[iY,ho,dq] at h;refine wpOp_mono (fun a' w' hh=>⟨fun hn _=>hh.1 hn,lO hs hQ t f _ _ a' w' h4 (D.set (by rw[h2];exact bf.2 O)) (fun hb=>hh.1 ?_) hh.2⟩) (jS ho h);simp only[be,fj,List.contains_eq_mem,decide_eq_false_iff_not] at hb;exact hb.2
 | .two i t j u,f,listed,b,a,w,hB,D,hS,h=>by
  simp only[wU.ok,be,decide_eq_true_eq] at hB;obtain⟨⟨⟨⟨⟨h0,h1⟩,h1'⟩,h2⟩,h4⟩,h5⟩:=hB;obtain⟨o,ho⟩:=eh.1 h1;obtain⟨o',ho'⟩:=eh.1 h1';obtain⟨f,rfl⟩:∃g,f=g+1:=⟨f-1,by omega⟩
  simp only[iY,ho,ho',dq] at h;have hb2:∀{k:Nat},(b && !tl.contains k)=true→k∉tl:=fun {k} hb=>by
   simp only[be,fj,List.contains_eq_mem,decide_eq_false_iff_not] at hb;exact hb.2
  refine Ua h2 (by simp) fun k hk=>?_;have hk':k=i∨k=j:=by simpa using hk
  rcases hk' with rfl | rfl
  · exact wpOp_mono (fun a' w' hh=>⟨fun hn _=>hh.1 hn,lO hs hQ t f _ _ a' w' h4 (D.set (by rw[h2];simp)) (fun hb=>hh.1 (hb2 hb)) hh.2⟩) (jS ho h.1)
  · exact wpOp_mono (fun a' w' hh=>⟨fun hn _=>hh.1 hn,lO hs hQ u f _ _ a' w' h5 (D.set (by rw[h2];simp)) (fun hb=>hh.1 (hb2 hb)) hh.2⟩) (jS ho' h.2)
theorem arL(md:Region.Mode)(ops:Array Oper)(n:Nat):aeC md ops (f_ n false):=fun j oj _ hl=>by
 rcases eu j n with h | h
 · simp[h] at hl
 · simp[Nat.not_lt.2 h] at hl
variable {w w0:aj} {is:List It} {a:Act} {ds:List dz} {l:List ai}
theorem apv{id:Nat}{ol:List Oper}(m:Mem w0 w is)(bs:List Bool)(tl:List Nat)(t:wU)(hm:P.follows .mixedOrders=true)(hB:(Region.noSelect ol.toArray&&t.ok .any ol.toArray tl ol.toArray.size (f_ ol.toArray.size false) true)=true)
 (hQ:∀c d v a w,Q (.panic c) (Act.put a d v) w→Q (.panic c) a w)
 (h:∀u,Mem w0 u is→iY P ol.toArray (fun u=>Mem w0 u (pW bs is)) tl Q t a u):(Code.region id ol.toArray true).wp P Q a w:=by
 simp only[be] at hB;have m':=m.ext' (fQ.refl w).drawn;exact wp_region_any hm (Ty _ _ _ _ (lO (S:=fun u=>Mem w0 u (pW bs is)) hB.1 hQ t _ _ true _ _ hB.2 (arL _ _ _) (fun _=>m'.sel bs) (h _ m')))
variable {o o':Oper} {i j:Nat} {t u:wU}
theorem af1(h:Q .normal a w):iY P ops S tl Q .nil a w:=h
theorem jO(ho:(ops[i]?).getD default=o)(h:bQ P ops S (fun _ a w=>iY P ops S tl Q t a w) [(o,true)] a w):iY P ops S tl Q (.take i t) a w:=by subst ho;exact h
theorem Hk(ho:(ops[i]?).getD default=o)(h:bQ P ops (fun _=>True) (fun _ a w=>iY P ops S tl Q t a w) [(o,true)] a w):iY P ops S tl Q (.move i t) a w:=by subst ho;exact h
theorem tG(ho:(ops[i]?).getD default=o)(h:ar P ops (Exit.then (fun a w=>(i∉tl→S w)∧iY P ops S tl Q t a w) Q) [o] a w):iY P ops S tl Q (.one i t) a w:=by subst ho;exact h
theorem apw(ho:(ops[i]?).getD default=o)(ho':(ops[j]?).getD default=o')(h:ar P ops (Exit.then (fun a w=>(i∉tl→S w)∧iY P ops S tl Q t a w) Q) [o] a w)(h':ar P ops (Exit.then (fun a w=>(j∉tl→S w)∧iY P ops S tl Q u a w) Q) [o'] a w):iY P ops S tl Q (.two i t j u) a w:=by
 subst ho;subst ho';exact⟨h,h'⟩
end
end Go.Lith
namespace Go.Proofs.YtfekpcimgncioaaGreatDoor
open Go.Proofs.Tryz
open Go.RowKit Go.Lith
set_option maxRecDepth 100000
attribute [local irreducible] ar cw gG bQ cO Code.wp
attribute [local congr] rC gX gY gZ iA iB lI iC iD iE iF iG iH iJ iK iL iM iN fJ fK iO iP iR iS iT lK dW dX cX dV iQ lJ fN fO fP iU iV lM
variable{u:P3}{ts:List T3}{k:Nat}{t:T3}
theorem ats{v:P3}(h:ts[k]? = some t)(e:tX u v t=t):nO u v (ts.take (k+1))=nO u v (ts.take k)++[t]∧mC u v (ts.take (k+1))=mC u v (ts.take k):=by
 rw[cJ h];unfold nO mC;simp[e]
theorem alu{v:P3}(h:ts[k]? = some t)(e:¬tX u v t=t)(hn:(tX u v t).nd=true):mC u v (ts.take (k+1))=mC u v (ts.take k)++[t]∧nO u v (ts.take (k+1))=nO u v (ts.take k):=by
 rw[cJ h];unfold nO mC;simp[e,hn]
theorem att{v:P3}(h:ts[k]? = some t)(e:¬tX u v t=t)(hn:(tX u v t).nd=false):mC u v (ts.take (k+1))=mC u v (ts.take k)∧nO u v (ts.take (k+1))=nO u v (ts.take k):=by
 rw[cJ h];unfold nO mC;simp[e,hn]
theorem af2{v:P3}{l m:List T3}(h:mC u v l=mC u v m):kC u v l=kC u v m:=by unfold kC;rw[h]
theorem aeD{v:P3}(h:mC u v (ts.take (k+1))=mC u v (ts.take k)++[t]):kC u v (ts.take (k+1))=kC u v (ts.take k)++[tX u v t]:=by unfold kC;rw[h,ct];rfl
theorem alv(u v:P3)(l:List T3):(nO u v l).length≤l.length:=fu ..
theorem aeE(u v:P3)(l:List T3):(mC u v l).length≤l.length:=fu ..
theorem aaS(u v:P3)(l:List T3):(kC u v l).length=(mC u v l).length:=bx ..
theorem alw{s:T3}:(s.a.x=t.a.x∧s.a.y=t.a.y∧s.a.z=t.a.z∧s.b.x=t.b.x∧s.b.y=t.b.y∧s.b.z=t.b.z∧s.c.x=t.c.x∧s.c.y=t.c.y∧s.c.z=t.c.z)↔s=t :=
 ⟨fun⟨h1,h2,h3,h4,h5,h6,h7,h8,h9⟩=>Rz (P3.eq h1 h2 h3) (P3.eq h4 h5 h6) (P3.eq h7 h8 h9),fun h=>by rw[h];simp only[and_self]⟩
theorem arM{g90 ga gf N cap ca:Nat}{A:Option Addr}{ea:Array c_}{D:List (P3 × Hd)}{p q:P3}[I3 p][I3 q](w:aj)(hB90:fR w g90 [.slice A N cap,.map (some ga),.map (some gf)] 109)(hMa:jF w ga ea ca)(hDa:bO pt Hd.v D ea ca)(hS:∀p,bV w (pJ D p).A (pJ D p).n (ts.filter fun t=>t.has p)∧(pJ D p).n≤(pJ D p).cap)(hT:bV w A N ts)(hN:ts.length≤10000000):dQ prog 99 [.pointer (some ⟨g90,0,none⟩),pt p,pt q] w (fun v w'=>∃g91 gx ex cx gy ey cy Am nm cm Ao no co Ar nr cr,v=.pointer (some ⟨g91,0,none⟩)∧Mem w w' [bI g91 [.pointer (some ⟨g90,0,none⟩),.int .i64 p.x,.int .i64 p.y,.int .i64 p.z,.int .i64 q.x,.int .i64 q.y,.int .i64 q.z,.map (some gx),.map (some gy),.slice Am nm cm,.slice Ao no co,.slice Ar nr cr] 218,oI 39 9 Ar nr cr ((nO p q ts).flatMap aN),oI 39 9 Ao no co ((mC p q ts).flatMap aN),oI 39 9 Am nm cm ((kC p q ts).flatMap aN),mI gy ey cy,mI gx ex cx]∧bO pt bn (fY [] (nS ts p)) ex cx∧bO pt bn (fY [] (nS ts q)) ey cy∧nm=(kC p q ts).length∧no=(mC p q ts).length∧nr=(nO p q ts).length):=by
 refine⟨bK func99 (by kernel_rfl),?_⟩;have m:=Mem.refl w;have htl:=hT.len
 go_enter func99,ntmps99
 apply jP 7 [0] m;simp only[↓aD];intro g1 g2 u m;refine mh m [true,true] [(0,true),(3,true),(6,true),(1,true),(2,true),(4,true),(7,true),(5,false),(8,false),(9,true),(10,false),(11,true)] aC (by kernel_rfl) (bU (fun _ _ _ _ _ h=>h)) (ol:=?_) ?hol ?_
 case hol=>simp only[zw,zQ,zR];try rfl
 intro u m;refine Pg 7 [1,0,1,0] ?_;simp only[↓aD,aS];refine bR (bJ O O (aaE (p:=p) _ (hB90.ext m.ext) (hMa.ext m.ext) hDa (fun z=>⟨((hS z).1).ext m.ext,(hS z).2⟩) hN) ?_);rintro v u e_ ⟨qx,esx,cx,rfl,hM,hDx⟩;replace m:=m.plus hM;clear hM;simp only[cn,b_] at m;refine aM ⟨m.sel [false,true,true],?_⟩;refine bR ?_;simp only[zz];refine bJ O O (aaE (p:=q) _ (hB90.ext m.ext) (hMa.ext m.ext) hDa (fun z=>⟨((hS z).1).ext m.ext,(hS z).2⟩) hN) ?_;rintro v u e_ ⟨qy,esy,cy,rfl,hM,hDy⟩;replace m:=m.plus hM;clear hM;simp only[cn,b_] at m;refine aM ⟨m.sel [false,false,true,true],?_⟩;refine bF (Be O O O O O) (bR ?_);simp only[zz];refine Wh m O ?_;intro g3 u m;refine aM ⟨m.sel [false,false,false,true,true],?_⟩;refine bF aO (bW ?_);simp only[zz];replace m:=m.nilO 39 9;replace m:=m.nilO 39 9;replace m:=m.nilO 39 9;replace m:=m.pull 3 O;simp only[dY,dZ,zF,zG] at m;apply aW 6 [0] m;simp only[↓aD,ajB,aa];refine aR O ((hB90.ext m.ext).lies1 sQ O) ?_;simp only[zz];apply aL 4 [0] m;simp only[↓aD,kA];refine bX [28] [9,10,11,29,30,31,32,33,34,35,36,37,38,39,40,41,42,43,44,45,46,47,48,49,50,51,52,53,54,55,56,57,58,59,60,61,62,63,64,65,66,67,68,69,70,71,72,73,74,75] (fun n vs wl=>∃(k:Nat) (A5 A6 A7:Option Addr) (cap5 cap6 cap7:Nat),vs=[.int .i64 (k:Int)]∧Mem w wl [bI g3 [.pointer (some ⟨g90,0,none⟩),.int .i64 p.x,.int .i64 p.y,.int .i64 p.z,.int .i64 q.x,.int .i64 q.y,.int .i64 q.z,.map (some qx),.map (some qy),.slice A5 (kC p q (ts.take k)).length cap5,.slice A6 (mC p q (ts.take k)).length cap6,.slice A7 (nO p q (ts.take k)).length cap7] 218,oI 39 9 A7 (nO p q (ts.take k)).length cap7 ((nO p q (ts.take k)).flatMap aN),oI 39 9 A6 (mC p q (ts.take k)).length cap6 ((mC p q (ts.take k)).flatMap aN),oI 39 9 A5 (kC p q (ts.take k)).length cap5 ((kC p q (ts.take k)).flatMap aN),mI qy esy cy,mI qx esx cx,bI g2 [.int .i64 q.x,.int .i64 q.y,.int .i64 q.z] 30,bI g1 [.int .i64 p.x,.int .i64 p.y,.int .i64 p.z] 30]∧(k≤N)∧(n=N-k)) ?_ ?_
 ·
  exact⟨_,0,_,_,_,_,_,_,O,m,cv _,O⟩
 · intro n vs wr hI u K1 hK1
   obtain⟨k,A5,A6,A7,cap5,cap6,cap7,rfl,m,hk,hn⟩:=hI;simp only[zu,zF,zG];apply aJ 5 [0,0] m;simp only[↓aD];refine bG O ?_ ?_<;>intro hc1
   ·
    obtain⟨t,ht,hti,a,hA,hrow⟩:=hT.get (i:=k) (by omega);subst hA;have hle1:=alv p q (ts.take k);have hle2:=aeE p q (ts.take k);have hle3:=aaS p q (ts.take k);rw[bp] at hle1 hle2;apply aJ 5 [0] m;simp only[↓aD];refine aB (aF cH aP O O (by omega) (by omega) (cQ (ah _))) ?_;simp only[zz];refine aR O ((hrow.ext m.ext).lies cF aP) ?_;simp only[zz];apply kD 8 [0,0,8,7,0] m;simp only[↓aD,nX,eL,aS,aa];intro g4 u m;refine nV m O O (afO (t:=t) (p:=p) (q:=q)) 12 [0,0,1,0] ?_;simp only[↓aD,nX,eL,aa];intro g5 u m;refine aB (Wq O O) ?_;apply aL 2 [0] m;simp only[↓aD];refine bG O ?_ ?_<;>intro hc2
    ·
     refine apv m [true,true,true,false,true,true,true,true,true,true] [10] (.take 0 (.take 1 (.take 2 (.take 3 (.take 4 (.take 5 (.one 6 (.one 7 (.take 8 (.take 9 (.one 10 .nil))))))))))) aC (by kernel_rfl) (bU (fun _ _ _ _ _ h=>h)) ?_;intro u m;refine jO (by simp only[zw];rfl) (bF aI (bW (jO (by simp only[zw];rfl) (bF aI (bW (jO (by simp only[zw];rfl) (bF (dB rfl) (bW (jO (by simp only[zw];rfl) (bF (aV (c:=0) nZ rfl gH rfl rfl) ?_))))))))));simp only[zz];refine bW (jO (by simp only[zw];rfl) (fU rfl (fun u m=>((m.b 2 rfl).lies1 sQ rfl)) ?_));simp only[zz];refine bW (jO (by simp only[zw];rfl) (fU rfl (fun u m=>((m.b 1 rfl).full cF aP)) ?_));simp only[zz];refine bW (tG (by simp only[zw];rfl) ?_);refine eZ O ?_;intro u g6 e_ h_ k_;replace m:=m.newB e_ h_ k_;refine aM ⟨fun _=>m.sel [false,true,true,true,false,true,true,true,true,true,true],?_⟩;refine tG (by simp only[zw];rfl) ?_;simp only[zz];refine bL m 4 O O cH jK O (by decide) O O O (m.b 0 O).rowsO (gB O) (by have:=hle1;omega) (by have:=hle1;omega) ?_;intro A7 cap7 u m;simp only[zF,zG] at m;refine aM ⟨fun _=>m.sel [false,true,true,true,false,true,true,true,true,true,true],?_⟩;refine jO (by simp only[zw];rfl) (bF (dB rfl) (bW (jO (by simp only[zw];rfl) (bF (aV (c:=0) nZ rfl gH rfl rfl) (bW (tG (by simp only[zw];rfl) ?_))))));simp only[zz];refine cW (off:=11) m 3 O O O gH (gV O) ⟨O,O⟩ ?_;intro u m;simp only[zz,zy,zx,over,aa] at m;refine aM ⟨fun h=>absurd (by decide) h,?_⟩;refine af1 ?_;apply aW 6 [0] m;simp only[↓aD];refine⟨by omega,?_⟩;have hcs:=ats (u:=p) (v:=q) ht (alw.1 hc2);have hcm:=af2 hcs.2;rw[show ((nO p q (ts.take k))).flatMap aN++_=(nO p q (ts.take (k+1))).flatMap aN by rw[hcs.1,ay];rfl,show ((nO p q (ts.take k))).length+1=(nO p q (ts.take (k+1))).length by rw[hcs.1,aw];rfl] at m;rw[←hcs.2,←hcm] at m;exact hK1 (N-(k+1)) _ _ (by omega) (by kernel_rfl) ⟨k+1,_,_,_,_,_,_,O,(m.sel [false,false,false,true,true,true,true,true,true,true,true]),by omega,O⟩
    ·
     apply aJ 5 [0] m;simp only[↓aD];refine dK O ?_ ?_<;>intro hc3
     ·
      refine apv m [true,true,true,true,false,false,true,true,true,true] [18,21] (.take 0 (.move 1 (.take 2 (.take 3 (.take 4 (.take 5 (.take 6 (.take 9 (.take 10 (.take 11 (.take 12 (.take 13 (.two 7 (.two 8 (.one 14 (.one 15 (.take 16 (.take 17 (.one 18 (.move 19 (.move 20 (.one 21 .nil)))))))) 14 (.one 8 (.one 15 (.take 16 (.take 17 (.one 18 (.move 19 (.move 20 (.one 21 .nil))))))))) 14 (.one 7 (.one 8 (.one 15 (.take 16 (.take 17 (.one 18 (.move 19 (.move 20 (.one 21 .nil)))))))))))))))))))))) aC (by kernel_rfl) (bU (fun _ _ _ _ _ h=>h)) ?_;intro u m;refine jO (by simp only[zw];rfl) (bF aI (bW (Hk (by simp only[zw];rfl) (bF aI (bW (jO (by simp only[zw];rfl) (bF aI (bW (jO (by simp only[zw];rfl) (bF (dB rfl) ?_))))))))));simp only[zz];refine bW (jO (by simp only[zw];rfl) (bF (aV (c:=0) nZ rfl gH rfl rfl) (bW (jO (by simp only[zw];rfl) ?_))));simp only[zz];refine fU O (fun u m=>((m.b 2 O).lies1 sQ O)) ?_;simp only[zz];refine bW (jO (by simp only[zw];rfl) (fU rfl (fun u m=>((m.b 0 rfl).full cF aP)) ?_));simp only[zz];refine bW (jO (by simp only[zw];rfl) (bF aI (bW (jO (by simp only[zw];rfl) (bF (dB rfl) (bW (jO (by simp only[zw];rfl) (bF (aV (c:=0) nZ rfl gH rfl rfl) (bW (jO (by simp only[zw];rfl) ?_))))))))));simp only[zz];refine fU O (fun u m=>((m.b 2 O).lies1 sQ O)) ?_;simp only[zz];refine bW (jO (by simp only[zw];rfl) (fU rfl (fun u m=>((m.b 1 rfl).full cF aP)) ?_));simp only[zz];refine bW ?_;refine apw (by simp only[zw];rfl) (by simp only[zw];rfl) ?_ ?_
      ·
       refine eZ O ?_;intro u g6 e_ h_ k_;replace m:=m.newB e_ h_ k_;refine aM ⟨fun _=>m.sel [false,true,true,true,true,false,false,true,true,true,true],?_⟩;simp only[zz];refine apw (by simp only[zw];rfl) (by simp only[zw];rfl) ?_ ?_
       ·
        refine bL m 6 O O cH jK O (by decide) O O O (m.b 0 O).rowsO (gB O) (by have:=hle3;omega) (by have:=hle3;omega) ?_;intro A5 cap5 u m;simp only[zF,zG] at m;refine aM ⟨fun _=>m.sel [false,true,true,true,true,false,false,true,true,true,true],?_⟩;refine tG (by simp only[zw];rfl) ?_;simp only[zz];refine eZ O ?_;intro u g7 e_ h_ k_;replace m:=m.newB e_ h_ k_;refine aM ⟨fun _=>m.sel [false,false,true,true,true,true,false,false,true,true,true,true],?_⟩;refine tG (by simp only[zw];rfl) ?_;simp only[zz];refine bL m 6 O O cH jK O (by decide) O O O (m.b 0 O).rowsO (gB O) (by have:=hle2;omega) (by have:=hle2;omega) ?_;intro A6 cap6 u m;simp only[zF,zG] at m;refine aM ⟨fun _=>m.sel [false,false,true,true,true,true,false,false,true,true,true,true],?_⟩;refine jO (by simp only[zw];rfl) (bF (dB rfl) (bW (jO (by simp only[zw];rfl) (bF (aV (c:=0) nZ rfl gH rfl rfl) (bW (tG (by simp only[zw];rfl) ?_))))));simp only[zz];refine cW (off:=9) m 4 O O O gH (gV O) ⟨O,O⟩ ?_;intro u m;simp only[zz,zy,zx,over,aa] at m;refine aM ⟨fun h=>absurd (by decide) h,?_⟩;refine Hk (by simp only[zw];rfl) (bF (dB rfl) (bW (Hk (by simp only[zw];rfl) (bF (aV (c:=0) nZ rfl gH rfl rfl) (bW (tG (by simp only[zw];rfl) ?_))))));simp only[zz];refine cW (off:=10) m 4 O O O gH (gV O) ⟨O,O⟩ ?_;intro u m;simp only[zz,zy,zx,over,aa] at m;refine aM ⟨fun h=>absurd (by decide) h,?_⟩;refine af1 ?_;apply aW 6 [0] m;simp only[↓aD];refine⟨by omega,?_⟩;have hcs:=alu (u:=p) (v:=q) ht (fun e=>hc2 (alw.2 e)) hc3;have hcm:=aeD hcs.1;rw[show ((mC p q (ts.take k))).flatMap aN++_=(mC p q (ts.take (k+1))).flatMap aN by rw[hcs.1,ay];rfl,show ((mC p q (ts.take k))).length+1=(mC p q (ts.take (k+1))).length by rw[hcs.1,aw];rfl] at m;rw[show ((kC p q (ts.take k))).flatMap aN++_=(kC p q (ts.take (k+1))).flatMap aN by rw[hcm,ay];rfl,show ((kC p q (ts.take k))).length+1=(kC p q (ts.take (k+1))).length by rw[hcm,aw];rfl] at m;rw[←hcs.2] at m;exact hK1 (N-(k+1)) _ _ (by omega) (by kernel_rfl) ⟨k+1,_,_,_,_,_,_,O,(m.sel [false,false,false,false,true,true,true,true,true,true,true,true]),by omega,O⟩
       ·
        refine eZ O ?_;intro u g7 e_ h_ k_;replace m:=m.newB e_ h_ k_;refine aM ⟨fun _=>m.sel [false,false,true,true,true,true,false,false,true,true,true,true],?_⟩;refine tG (by simp only[zw];rfl) ?_;simp only[zz];refine bL m 7 O O cH jK O (by decide) O O O (m.b 1 O).rowsO (gB O) (by have:=hle3;omega) (by have:=hle3;omega) ?_;intro A5 cap5 u m;simp only[zF,zG] at m;refine aM ⟨fun _=>m.sel [false,false,true,true,true,true,false,false,true,true,true,true],?_⟩;refine tG (by simp only[zw];rfl) ?_;simp only[zz];refine bL m 6 O O cH jK O (by decide) O O O (m.b 0 O).rowsO (gB O) (by have:=hle2;omega) (by have:=hle2;omega) ?_;intro A6 cap6 u m;simp only[zF,zG] at m;refine aM ⟨fun _=>m.sel [false,false,true,true,true,true,false,false,true,true,true,true],?_⟩;refine jO (by simp only[zw];rfl) (bF (dB rfl) (bW (jO (by simp only[zw];rfl) (bF (aV (c:=0) nZ rfl gH rfl rfl) (bW (tG (by simp only[zw];rfl) ?_))))));simp only[zz];refine cW (off:=9) m 4 O O O gH (gV O) ⟨O,O⟩ ?_;intro u m;simp only[zz,zy,zx,over,aa] at m;refine aM ⟨fun h=>absurd (by decide) h,?_⟩;refine Hk (by simp only[zw];rfl) (bF (dB rfl) (bW (Hk (by simp only[zw];rfl) (bF (aV (c:=0) nZ rfl gH rfl rfl) (bW (tG (by simp only[zw];rfl) ?_))))));simp only[zz];refine cW (off:=10) m 4 O O O gH (gV O) ⟨O,O⟩ ?_;intro u m;simp only[zz,zy,zx,over,aa] at m;refine aM ⟨fun h=>absurd (by decide) h,?_⟩;refine af1 ?_;apply aW 6 [0] m;simp only[↓aD];refine⟨by omega,?_⟩;have hcs:=alu (u:=p) (v:=q) ht (fun e=>hc2 (alw.2 e)) hc3;have hcm:=aeD hcs.1;rw[show ((mC p q (ts.take k))).flatMap aN++_=(mC p q (ts.take (k+1))).flatMap aN by rw[hcs.1,ay];rfl,show ((mC p q (ts.take k))).length+1=(mC p q (ts.take (k+1))).length by rw[hcs.1,aw];rfl] at m;rw[show ((kC p q (ts.take k))).flatMap aN++_=(kC p q (ts.take (k+1))).flatMap aN by rw[hcm,ay];rfl,show ((kC p q (ts.take k))).length+1=(kC p q (ts.take (k+1))).length by rw[hcm,aw];rfl] at m;rw[←hcs.2] at m;exact hK1 (N-(k+1)) _ _ (by omega) (by kernel_rfl) ⟨k+1,_,_,_,_,_,_,O,(m.sel [false,false,false,false,true,true,true,true,true,true,true,true]),by omega,O⟩
      ·
       refine eZ O ?_;intro u g6 e_ h_ k_;replace m:=m.newB e_ h_ k_;refine aM ⟨fun _=>m.sel [false,true,true,true,true,false,false,true,true,true,true],?_⟩;refine tG (by simp only[zw];rfl) ?_;simp only[zz];refine eZ O ?_;intro u g7 e_ h_ k_;replace m:=m.newB e_ h_ k_;refine aM ⟨fun _=>m.sel [false,false,true,true,true,true,false,false,true,true,true,true],?_⟩;refine tG (by simp only[zw];rfl) ?_;simp only[zz];refine bL m 7 O O cH jK O (by decide) O O O (m.b 0 O).rowsO (gB O) (by have:=hle3;omega) (by have:=hle3;omega) ?_;intro A5 cap5 u m;simp only[zF,zG] at m;refine aM ⟨fun _=>m.sel [false,false,true,true,true,true,false,false,true,true,true,true],?_⟩;refine tG (by simp only[zw];rfl) ?_;simp only[zz];refine bL m 6 O O cH jK O (by decide) O O O (m.b 1 O).rowsO (gB O) (by have:=hle2;omega) (by have:=hle2;omega) ?_;intro A6 cap6 u m;simp only[zF,zG] at m;refine aM ⟨fun _=>m.sel [false,false,true,true,true,true,false,false,true,true,true,true],?_⟩;refine jO (by simp only[zw];rfl) (bF (dB rfl) (bW (jO (by simp only[zw];rfl) (bF (aV (c:=0) nZ rfl gH rfl rfl) (bW (tG (by simp only[zw];rfl) ?_))))));simp only[zz];refine cW (off:=9) m 4 O O O gH (gV O) ⟨O,O⟩ ?_;intro u m;simp only[zz,zy,zx,over,aa] at m;refine aM ⟨fun h=>absurd (by decide) h,?_⟩;refine Hk (by simp only[zw];rfl) (bF (dB rfl) (bW (Hk (by simp only[zw];rfl) (bF (aV (c:=0) nZ rfl gH rfl rfl) (bW (tG (by simp only[zw];rfl) ?_))))));simp only[zz];refine cW (off:=10) m 4 O O O gH (gV O) ⟨O,O⟩ ?_;intro u m;simp only[zz,zy,zx,over,aa] at m;refine aM ⟨fun h=>absurd (by decide) h,?_⟩;refine af1 ?_;apply aW 6 [0] m;simp only[↓aD];refine⟨by omega,?_⟩;have hcs:=alu (u:=p) (v:=q) ht (fun e=>hc2 (alw.2 e)) hc3;have hcm:=aeD hcs.1;rw[show ((mC p q (ts.take k))).flatMap aN++_=(mC p q (ts.take (k+1))).flatMap aN by rw[hcs.1,ay];rfl,show ((mC p q (ts.take k))).length+1=(mC p q (ts.take (k+1))).length by rw[hcs.1,aw];rfl] at m;rw[show ((kC p q (ts.take k))).flatMap aN++_=(kC p q (ts.take (k+1))).flatMap aN by rw[hcm,ay];rfl,show ((kC p q (ts.take k))).length+1=(kC p q (ts.take (k+1))).length by rw[hcm,aw];rfl] at m;rw[←hcs.2] at m;exact hK1 (N-(k+1)) _ _ (by omega) (by kernel_rfl) ⟨k+1,_,_,_,_,_,_,O,(m.sel [false,false,false,false,true,true,true,true,true,true,true,true]),by omega,O⟩
     ·
      apply aJ 7 [0] m;simp only[↓aD];refine⟨by omega,?_⟩;have hcs:=att (u:=p) (v:=q) ht (fun e=>hc2 (alw.2 e)) hc3;have hcm:=af2 hcs.1;rw[←hcs.1,←hcs.2,←hcm] at m;exact hK1 (N-(k+1)) _ _ (by omega) (by kernel_rfl) ⟨k+1,_,_,_,_,_,_,O,(m.sel [false,false,true,true,true,true,true,true,true,true]),by omega,O⟩
   ·
    obtain rfl:k=N:=by omega
    rw[show ts.take k=ts from List.take_of_length_le (by omega)] at m;apply aJ 7 [] m;simp only[↓aD];exact aT O O ⟨_,O,m.ext,_,_,_,_,_,_,_,_,_,_,_,_,_,_,_,_,O,m.sel [true,true,true,true,true,true,false,false],hDx,hDy,O,O,O⟩
end Go.Proofs.YtfekpcimgncioaaGreatDoor
namespace Go.Lith
open Go.RowKit
def Hl(js:List It):It where
 own b:=∃j∈js,j.own b
 P w:=(∀j∈js,j.P w)∧js.Pairwise Ap
 lt w b h hb:=by
  obtain⟨j,hj,hb⟩:=hb;exact j.lt w b (h.1 j hj) hb
 st w w' h hs k:=⟨fun j hj=>j.st w w' (h.1 j hj) hs fun b hb=>k b ⟨j,hj,hb⟩,h.2⟩
section
variable {w0 w:aj} {is js:List It}
theorem Mem.bagNil(m:Mem w0 w is):Mem w0 w (Hl []::is) :=
 ⟨m.ext,fun i hi=>by
  rcases an.1 hi with rfl | hi
  · exact⟨fun j hj=>(by cases hj),List.Pairwise.nil⟩
  · exact m.all i hi,fun i hi b hb=>by
  rcases an.1 hi with rfl | hi
  · obtain⟨j,hj,_⟩:=hb;cases hj
  · exact m.ge i hi b hb,bt.2 ⟨fun i _ b ⟨j,hj,_⟩=>(by cases hj),m.nd⟩⟩
theorem Mem.bagPull(m:Mem w0 w (Hl js::is))(i:Nat){j:It}(hj:js[i]? = some j):Mem w0 w (j::Hl (js.eraseIdx i)::is):=by
 have hp:=Le js i j hj;obtain⟨h1,h2⟩:=bt.1 m.nd;have P:=m.all _ (bm ..);have hjm:=bh hj;have hsub:∀x∈js.eraseIdx i,x∈js:=fun x hx=>hp.mem_iff.1 (bg _ hx);have hpw:=bt.1 ((hp.pairwise_iff (fun {a b} (h:Ap a b)=>h.symm)).2 P.2);refine⟨m.ext,fun x hx=>?_,fun x hx b hb=>?_,bt.2 ⟨fun x hx b hb hxb=>?_,bt.2 ⟨fun x hx b ⟨y,hy,hb⟩=>h1 x hx b ⟨y,hsub y hy,hb⟩,h2⟩⟩⟩
 · rcases an.1 hx with rfl | hx
   · exact P.1 x hjm
   · rcases an.1 hx with rfl | hx
     · exact⟨fun y hy=>P.1 y (hsub y hy),hpw.2⟩
     · exact m.all x (bg _ hx)
 · rcases an.1 hx with rfl | hx
   · exact m.ge _ (bm ..) b ⟨x,hjm,hb⟩
   · rcases an.1 hx with rfl | hx
     · obtain⟨y,hy,hb⟩:=hb
       exact m.ge _ (bm ..) b ⟨y,hsub y hy,hb⟩
     · exact m.ge x (bg _ hx) b hb
 · rcases an.1 hx with rfl | hx
   · obtain⟨y,hy,hyb⟩:=hxb
     exact hpw.1 y hy b hb hyb
   · exact h1 x hx b ⟨j,hjm,hb⟩ hxb
theorem Mem.bagPush{j:It}(m:Mem w0 w (j::Hl js::is)):Mem w0 w (Hl (j::js)::is):=by
 obtain⟨h1,h2⟩:=bt.1 m.nd;obtain⟨h3,h4⟩:=bt.1 h2;have P:=m.all (Hl js) (bg _ (bm ..));have Pj:=m.all j (bm ..);refine⟨m.ext,fun x hx=>?_,fun x hx b hb=>?_,bt.2 ⟨fun x hx b ⟨y,hy,hb⟩ hxb=>?_,h4⟩⟩
 · rcases an.1 hx with rfl | hx
   · refine⟨fun y hy=>?_,bt.2 ⟨fun y hy b hb hyb=>h1 _ (bm ..) b hb ⟨y,hy,hyb⟩,P.2⟩⟩
     rcases an.1 hy with rfl | hy
     · exact Pj
     · exact P.1 y hy
   · exact m.all x (bg _ (bg _ hx))
 · rcases an.1 hx with rfl | hx
   · obtain⟨y,hy,hb⟩:=hb
     rcases an.1 hy with rfl | hy
     · exact m.ge y (bm ..) b hb
     · exact m.ge (Hl js) (bg _ (bm ..)) b ⟨y,hy,hb⟩
   · exact m.ge x (bg _ (bg _ hx)) b hb
 · rcases an.1 hy with rfl | hy
   · exact h1 x (bg _ hx) b hb hxb
   · exact h3 x hx b ⟨y,hy,hb⟩ hxb
end
end Go.Lith
