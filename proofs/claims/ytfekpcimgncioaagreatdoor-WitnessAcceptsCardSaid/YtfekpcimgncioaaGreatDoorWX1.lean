/-
 Texts of one claim, laid together: Ext, Ops, Nat, Nat2, Ops2, Nat3, Upd, Nat4, Nat5, Nat6, Held, Eq, Nat7, Nat8, Ops3, Nat9, Nat10, Nat11, Nat12, Geo, Tree, Fresh, Fresh2, Ops4, Geo2, Geo3, Geo4.
-/
import Derived.WalkKit
import Derived.StillTail
import Derived.Deep.Quiet
import Derived.BigQuiet
import Derived.Laws.Rows
import Derived.Laws.IdiomCopy
import Derived.Laws.CopyRow
import Derived.OrdersHeld
import Derived.Laws.StructEq
import Derived.ChangeKeysEq
import Derived.Laws.IdiomStrings
import Derived.Laws.BytesArg
import Derived.RangeFuncBox
import Derived.RangeFuncLeaves
import Derived.LoopN
open Int renaming toNat_natCast→ai,fdiv_eq_ediv_of_nonneg→io,natCast_mul→nj,not_lt→rf
open Go renaming Value→ak,World→am,wpList→au,TypeId→ay,Program→bz,Operand→cd,run_underlying→cj,wpQuiet→cq,execOp→da,Deferred→dl,wpAny→re
open List renaming mem_cons→ao,getElem?_eq_getElem→ar,length_cons→az,length_append→a_,take_of_length_le→bf,map_cons→bi,length_take→bx,replicate→cl,cons_append→cn,append_assoc→dh,all_eq_true→dt,any_eq_true→d_,getElem?_drop→eb,toList_toArray→ec,drop_eq_getElem_cons→el,eq_nil_of_length_eq_zero→eo,filter_cons→ep,take_length→fa,getElem?_map→fj,getElem_mem→fl,getElem?_eq_none→fm,eq_of_mem_replicate→fp,getElem?_take→fq,mem_map_of_mem→ft,nodup_cons→fz,ext_getElem?→gg,range→gm,mem_range→gn,map_congr_left→ji,take_append_drop→jm,foldl_cons→jp,getElem_set_self→ly,getElem_set_ne→mo,drop_append→mx,length_replicate→ny,mem_of_mem_drop→pj,drop_drop→qv
open Nat renaming zero_add→ap,le_refl→av,le_trans→aw,lt_of_lt_of_le→cw,min_eq_left→dx,lt_or_ge→dz,add_sub_cancel→eh,eq_zero_or_pos→ff,mul_le_mul_left→fi,pow_le_pow_right→f_,mul_le_mul_right→gr,add_mul→gt,lt_of_le_of_lt→ib,pow_succ→ix,mul_comm→iy,div_lt_iff_lt_mul→jn,mul_le_mul→jo,mul_add→jz,pow_pos→j_,one_mul→ka,mod_lt→lc,div_le_self→lf,mod_eq_of_lt→lp,lt_of_mul_lt_mul_right→lq,pow_add→mf,add_zero→nc,mul_zero→nh,div_add_mod→np,lt_of_mul_lt_mul_left→oo,add_assoc→pi,mul_one→pw,mul_assoc→p_,pow_succ'→qd,pow_mul→qu
open Bool renaming and_eq_true→bh,not_eq_true'→ij,false_or→kj
open Go.Oper renaming mk→bp,wp→mc,quietAt→m_,upon→nq
open Option renaming getD_some→de,isSome_iff_exists→di,map_some→ew
open Array renaming getElem?_eq_some_iff→dj,replicate→fy,getElem?_eq_getElem→ig,getD_eq_getD_getElem?→n_,setIfInBounds_comm→ot,range→px,ext'→qj,map→rc,ext→rd
open BitVec renaming ofInt→dw,toNat_ofInt→kh
open Prod.mk renaming injEq→fc
open Option.some renaming injEq→fw
open UInt8 renaming toNat→lk,ofNat→oc,toNat_ofNat'→pq
open List.cons renaming injEq→l_
open Go.IntKind renaming signed→mr,bits→nf,wrap→oh
set_option linter.unusedSimpArgs false
set_option linter.unusedVariables false
set_option linter.unusedSectionVars false
theorem O{α:Sort _}{a:α}:a=a:=rfl
namespace Go.Lith
open Go.RowKit
variable{w w':am}{cs l:List ak}{t T:ay}{a:Addr}{c:Bool}{i:Nat}{f:FuncId}{x:Int}
def dY(w w':am):Prop:=Below w.heap.size w w'
theorem dY.refl(w:am):dY w w:=Below.refl _ _
theorem dY.size(h:dY w w'):w.heap.size≤w'.heap.size:=Below.size h
theorem dY.trans{a b c:am}(h:dY a b)(k:dY b c):dY a c:=Below.trans h (Below.mono k h.size)
theorem dY.drawn{w w':am}(h:dY w w'):dY w { w' with drawn:=w'.drawn+1 }:=Below.drew h
theorem dY.alloc(h:dY w w')(o:Obj):dY w (w'.alloc o):=Below.alloc h h.size o
theorem dY.block(h:dY w w'){k:Nat}{o:Obj}(hk:w.heap[k]? = some o):w'.heap[k]? = some o :=
 (Below.block h k (dj.1 hk).1).trans hk
theorem dY.cell(h:dY w w'){p:Addr}{v:ak}(hp:w.cell? p=some v):w'.cell? p=some v :=
 (Below.cell h (World.block_lt_of_cell? _ _ hp)).trans hp
section
variable {P:bz} {ops:Array Oper} {md:Region.Mode} {C:am→Prop}
def Li(P:bz)(md:Region.Mode)(ops:Array Oper)(C:am→Prop)(n:Nat)(L:Array Bool→Act→Prop):Nat→Array Bool→Act→Prop
 | 0,listed,a=>L listed a
 | f+1,listed,a =>
  Region.ready md ops listed≠[]∧∀i∈Region.ready md ops listed,i<n∧qOp P ops C i (Li P md ops C n L f (listed.setIfInBounds i true)) a
theorem vR{n g:Nat}{L:Array Bool→Act→Prop}{Q':Exit→Act→am→Prop}(hL:∀listed a,L listed a→∀w,C w→re P md ops Q' g listed a w) :
 ∀(f:Nat) (listed:Array Bool) (a:Act) (w:am),C w→Li P md ops C n L f listed a→re P md ops Q' (f+g) listed a w
 | 0,listed,a,w,hw,h=>by rw[ap];exact hL _ _ h w hw
 | f+1,listed,a,w,hw,h=>by
  rw[show f+1+g=(f+g)+1 by omega];exact⟨fun h0=>absurd h0 h.1,fun i hi=>wpOp_of_qOp hw (fun a' w' hw' h'=>vR hL f _ a' w' hw' h') (h.2 i hi).2⟩
theorem Zh{n i:Nat}{oi:Oper}{v:ak}{L:Array Bool→Act→Prop}(hi:ops[i]? = some oi)(hsel:∀(j:Nat) (o:Oper) cs b,ops[j]? = some o→o.op≠.select cs b)
 (hs:Region.sinkB md ops n=true) (hc:Region.chainB md ops n=true) (hn:n<ops.size) (hin:i<n)
 (hdone:∀listed a,L listed a→∀j∈Region.ready md ops listed,n≤j) :
 ∀(f:Nat) (listed:Array Bool) (a:Act),HeadInv md ops n listed →
  (∀j oj,ops[j]? = some oj→j≠i→listed.getD j true=false→(∀e∈oj.after,Region.binds md e=true→e.on≠i)→oi.apart ops oj=true) →
  i∈Region.ready md ops listed→YieldsIn P ops C oi v a →
  Li P md ops C n L f (listed.setIfInBounds i true) (a.put oi.dst v)→Li P md ops C n L (f+1) listed a:=by
 intro f
 induction f with
 | zero =>
  intro listed a inv _ hr hy H;have hun:=(mem_ready.1 hr).1;refine⟨fun h=>(by rw[h] at hr;cases hr),fun j hj=>?_⟩;have hjn:j<n:=by
   rcases dz j n with h | h
   · exact h
   · exact absurd hj (tail_waits hs hc hn inv _ i O hin hun j h)
  refine⟨hjn,?_⟩;by_cases hji:j=i
  · subst hji;exact hy.qOp hi H
  · have:=hdone _ _ H j (ready_mono hj hji)
    omega
 | succ f ih =>
  intro listed a inv hfree hr hy H;have hun:=(mem_ready.1 hr).1;refine⟨fun h=>(by rw[h] at hr;cases hr),fun j hj=>?_⟩;have hjn:j<n:=by
   rcases dz j n with h | h
   · exact h
   · exact absurd hj (tail_waits hs hc hn inv _ i O hin hun j h)
  refine⟨hjn,?_⟩;by_cases hji:j=i
  · subst hji;exact hy.qOp hi H
  · have h1:=(H.2 j (ready_mono hj hji)).2
    obtain⟨hjun,oj,hoj,hall⟩:=mem_ready.1 hj;have hnot:∀e∈oj.after,Region.binds md e=true→e.on≠i:=fun e he hb heq=>by
     have h1:=hall e he hb;rw[heq,getD_both hun] at h1;cases h1
    have h2:=qOp_put hoj (hfree j oj hoj hji hjun hnot) (fun cs b=>hsel i oi cs b hi) (fun cs b=>hsel j oj cs b hoj) hy h1;have hfree':∀k ok,ops[k]? = some ok→k≠i→(listed.setIfInBounds j true).getD k true=false →
     (∀e∈ok.after,Region.binds md e=true→e.on≠i)→oi.apart ops ok=true:=fun k ok hk hki hun hno=>by
     refine hfree k ok hk hki ?_ hno;by_cases hjk:j=k
     · subst hjk;exact hjun
     · rw[getD_set_ne true hjk] at hun;exact hun
    refine qOp_mono (fun a' h3=>ih (listed.setIfInBounds j true) a' (inv.set hj hjn) hfree' (ready_mono hr (Ne.symm hji)) h3.1 ?_) h2;rw[ot _ _ hji];exact h3.2
theorem zY{n g:Nat}{Lq:Act→Prop}(hsel:Region.noSelect ops=true)(hs:Region.sinkB md ops n=true)(hc:Region.chainB md ops n=true)(hn:n<ops.size) :
 ∀(l:List Oper) (k:Nat) (listed:Array Bool) (a:Act),(∀j,j<l.length→l[j]? = ops[k+j]?)→k+l.length=n→HeadInv md ops n listed →
 Region.lexHead md ops g l.length k listed=true→cq P ops C Lq l a →
 Li P md ops C n (fun listed' a'=>Region.seqB md ops g n listed'=true∧Lq a') l.length listed a
 | [],k,listed,a,_,hk,_,hB,h=>by
  have:k=n:=by simpa using hk
  subst this;exact⟨by simpa[Region.lexHead] using hB,h⟩
 | o::l,k,listed,a,hl,hk,inv,hB,h=>by
  have h0:ops[k]? = some o:=by simpa using (hl 0 (by simp)).symm
  simp only[az,Region.lexHead,bh] at hB;obtain⟨⟨hr,hf⟩,hB'⟩:=hB;have hkn:k<n:=by simp only[az] at hk;omega
  have hr':k∈Region.ready md ops listed:=by simpa using hr
  have hst:qOp P ops C k (cq P ops C Lq l) a:=by unfold qOp;simp only[h0];exact h
  obtain⟨v,hy,hK⟩:=yieldsIn_of_qOp h0 hst;exact Zh h0 (Region.noSelect_spec hsel) hs hc hn hkn (fun listed' a' hL=>seqB_ready hL.1) l.length listed a inv (Region.free_spec h0 hf) hr' hy
   (zY hsel hs hc hn l (k+1) _ _ (fun j hj=>by have:=hl (j+1) (by simp;omega);simpa[pi,Nat.add_comm 1 j] using this) (by simp only[az] at hk;omega) (inv.set hr' hkn) hB' hK)
theorem nR{id:Nat}{Q:Exit→Act→am→Prop}{a:Act}{w:am}{l:List Oper}(n:Nat)(hm:P.follows .mixedOrders=true)(hB:Region.lexTailB .any l.toArray n=true)
 (hC:C { w with drawn:=w.drawn+1 })
 (h:cq P l.toArray C (fun a'=>∀w',C w'→au P l.toArray Q (l.drop n) a' w') (l.take n) a):(Code.region id l.toArray true).wp P Q a w:=by
 simp only[Region.lexTailB,bh,decide_eq_true_eq] at hB;obtain⟨⟨⟨⟨hsel,hn⟩,hs⟩,hc⟩,hlex⟩:=hB;have hn':n<l.length:=by simpa using hn
 have htl:(l.take n).length=n:=by simp;omega
 have hdl:(l.drop n).length=l.toArray.size-n:=by simp
 have inv0:HeadInv .any l.toArray n (fy l.toArray.size false) :=
  ⟨by simp,fun j oj _ hl=>(by rw[getD_replicate_false] at hl;cases hl),fun t _ ht=>getD_in (by simpa using ht) (getD_replicate_false _ _)⟩
 have H:=zY (md:=.any) (g:=l.toArray.size-n) hsel hs hc hn (l.take n) 0 _ a (fun j hj=>by
  have hj':j<n:=by rw[htl] at hj;exact hj
  simp[hj']) (by simpa using htl) inv0 (by rw[htl];exact hlex) h
 refine wp_region_any hm ?_;have:=vR (Q':=Q) (g:=l.toArray.size-n) (fun listed a' hL w' hw'=>by
  have:=wpAny_of_seq (md:=.any) (Q':=Q) (l.drop n) n listed a' w' (fun j=>by simp[eb]) (by rw[hdl];exact hL.1) (hL.2 w' hw');rwa [hdl] at this) _ _ _ _ hC H
 rw[htl,show n+(l.toArray.size-n)=l.toArray.size by omega] at this;exact this
theorem vS{id:Nat}{Q:Exit→Act→am→Prop}{a:Act}{w:am}{l:List Oper}(n:Nat)(hm:P.follows .mixedOrders=true)(hB:Region.lexTailB .any l.toArray n=true)
 (h:cq P l.toArray (dY w) (fun a'=>∀w',dY w w'→au P l.toArray Q (l.drop n) a' w') (l.take n) a):(Code.region id l.toArray true).wp P Q a w :=
 nR (C:=dY w) n hm hB (dY.refl w).drawn h
theorem xQ{id:Nat}{Q:Exit→Act→am→Prop}{a:Act}{w:am}{l:List Oper}(hm:P.follows .mixedOrders=true)(hB:Region.lexB .any l.toArray=true)
 (h:cq P l.toArray (dY w) (fun a'=>∀w',dY w w'→Q .normal a' w') l a):(Code.region id l.toArray true).wp P Q a w :=
 wp_region_quiet (C:=dY w) hm hB (dY.refl w).drawn (by simpa using h)
def Is(md:Region.Mode)(ops:Array Oper):List (Nat × Bool)→Array Bool→Bool
 | [],listed=>(Region.ready md ops listed).isEmpty
 | (i,true)::r,listed=>(ops[i]?).isSome&&Region.free md ops listed i&&(Region.ready md ops listed).contains i&&Is md ops r (listed.setIfInBounds i true)
 | (i,false)::r,listed=>(ops[i]?).isSome&&decide (Region.ready md ops listed=[i])&&Is md ops r (listed.setIfInBounds i true)
def eF(P:bz)(ops:Array Oper)(Q:Exit→Act→am→Prop):List (Oper × Bool)→Act→am→Prop
 | [],a,w=>Q .normal a w
 | (o,true)::r,a,w=>∃v,Yields P ops o v a∧eF P ops Q r (a.put o.dst v) w
 | (o,false)::r,a,w=>au P ops (Exit.then (eF P ops Q r) Q) [o] a w
theorem zZ{Q:Exit→Act→am→Prop}(hs:Region.noSelect ops=true)(hQ:∀c d v a w,Q (.panic c) (Act.put a d v) w→Q (.panic c) a w):∀(l:List (Nat × Bool)) (listed:Array Bool) (a:Act) (w:am),
 Is md ops l listed=true→eF P ops Q (l.map fun x=>((ops[x.1]?).getD default,x.2)) a w→re P md ops Q l.length listed a w
 | [],listed,a,w,hB,h=>⟨by simpa[Is] using hB,h⟩
 | (i,true)::r,listed,a,w,hB,h=>by
  simp only[Is,bh] at hB;obtain⟨⟨⟨h1,h2⟩,h3⟩,h4⟩:=hB;obtain⟨o,ho⟩:=di.1 h1;simp only[bi,eF,ho,de] at h;obtain⟨v,hy,hr⟩:=h;exact wpAny_take ho hs h2 h3 (fun c a w=>hQ c _ v a w) hy (zZ hs hQ r _ _ _ h4 hr)
 | (i,false)::r,listed,a,w,hB,h=>by
  simp only[Is,bh,decide_eq_true_eq] at hB;obtain⟨⟨h1,h2⟩,h4⟩:=hB;obtain⟨o,ho⟩:=di.1 h1;refine wpAny_all h2 (by simp) fun j hj=>?_;obtain rfl:j=i:=by simpa using hj
  simp only[bi,eF,ho,de] at h;have key:∀a' w',Exit.then (eF P ops Q (r.map fun x=>((ops[x.1]?).getD default,x.2))) Q .normal a' w'→re P md ops Q r.length (listed.setIfInBounds j true) a' w':=fun a' w' hh=>zZ hs hQ r _ a' w' h4 hh
  unfold wpOp;simp only[ho];simp only[au] at h;split
  · rename_i hw
    rw[if_pos hw] at h;rcases h with h | ⟨ha,x,y,hl⟩
    · refine .inl ?_
      unfold mc at h ⊢;generalize (da a.eval o).run P w=res at *
      cases res with
      | ok n w' =>
       cases n <;> simp only[nq] at h ⊢ <;>
        first
         | exact key _ _ h
         | exact Calls.mono h (fun e w'' he=>by cases e <;> first | exact key _ _ he | exact he)
         | exact Rows.mono h (fun _ _ he=>key _ _ he)
      | halt x w'=>cases x <;> simp only[nq] at h ⊢ <;> exact h
    · exact .inr ⟨ha,x,y,hl⟩
  · rename_i hw
    rw[if_neg hw] at h;exact key _ _ h
theorem Vn{id:Nat}{Q:Exit→Act→am→Prop}{a:Act}{w:am}{l:List Oper}(o:List (Nat × Bool))(hm:P.follows .mixedOrders=true)(hB:(Region.noSelect l.toArray&&decide (o.length=l.length)&&Is .any l.toArray o (fy l.toArray.size false))=true)
 (hQ:∀c d v a w,Q (.panic c) (Act.put a d v) w→Q (.panic c) a w) {ol:List (Oper × Bool)} (hol:(o.map fun x=>((l.toArray[x.1]?).getD default,x.2))=ol)
 (h:∀w',dY w w'→eF P l.toArray Q ol a w'):(Code.region id l.toArray true).wp P Q a w:=by
 simp only[bh,decide_eq_true_eq] at hB;subst hol;refine wp_region_any hm ?_;have:=zZ (md:=.any) hB.1.1 hQ o _ a { w with drawn:=w.drawn+1 } hB.2 (h _ (dY.refl w).drawn);rwa [hB.1.2] at this
end
abbrev Fr(l:List ak)(ds:List dl:=[]):Act:={ tmps:=l.toArray,defers:=ds }
def fE(w:am)(g:Nat)(cs:List ak)(t:ay):Prop:=w.heap[g]? = some (.cells cs.toArray t (0,0))
structure Chg(w w':am)(g:Nat):Prop where
 os:w'.os=w.os
 tape:w'.tape=w.tape
 output:w'.output=w.output
 size:w'.heap.size=w.heap.size
 block:∀k,k≠g→w'.heap[k]? = w.heap[k]?
def mE(w:am)(a:Addr)(cs:List ak):Prop:=∀j u,cs[j]? = some u→w.cell? (a.add j)=some u
theorem fE.lt{g:Nat}(h:fE w g cs t):g<w.heap.size:=(dj.1 h).1
theorem fE.ext{g:Nat}(h:fE w g cs t)(hE:dY w w'):fE w' g cs t:=hE.block h
theorem fE.chg{g g':Nat}(h:fE w g cs t)(hC:Chg w w' g')(hne:g≠g'):fE w' g cs t:=(hC.block g hne).trans h
theorem dY.chg{w0:am}{g:Nat}(h:dY w0 w)(hC:Chg w w' g)(hg:w0.heap.size≤g):dY w0 w' :=
 ⟨hC.os.trans h.os,hC.tape.trans h.tape,hC.output.trans h.output,by rw[hC.size];exact h.size,fun k hk=>(hC.block k (by omega)).trans (Below.block h k hk)⟩
theorem mE.ext(h:mE w a cs)(hE:dY w w'):mE w' a cs:=fun j u hj=>hE.cell (h j u hj)
theorem gV(g off j:Nat):(⟨g,off,none⟩:Addr).add j=⟨g,off+j,none⟩:=by unfold Addr.add;split <;> simp_all
theorem lF(a:Addr)(i j:Nat):(a.add i).add j=a.add (i+j):=by
 unfold Addr.add;by_cases hi:i=0 <;> by_cases hj:j=0 <;> simp[hi,hj,pi]
theorem fE.row{g:Nat}(h:fE w g cs t)(off:Nat):mE w ⟨g,off,none⟩ (cs.drop off):=by
 intro j u hj;rw[gV,cell_of_row w g (off+j) cs.toArray t (0,0) h];simpa[eb] using hj
theorem mE.sub(h:mE w a cs)(i:Nat):mE w (a.add i) (cs.drop i):=by
 intro j u hj;rw[lF];exact h (i+j) u (by simpa[eb] using hj)
theorem mE.take(h:mE w a cs)(n:Nat):mE w a (cs.take n):=by
 intro j u hj;refine h j u ?_;rw[fq] at hj;split at hj
 · exact hj
 · cases hj
section
variable {P:bz} {ds:List dl} {l:List ak}
theorem apL(t:Nat):(Fr l).eval (.tmp t)=l.getD t undef:=by
 show l.toArray.getD t undef=_
 simp[Array.getD,List.getD];split <;> simp_all
theorem iZ{ds:List dl}:(Fr l ds).eval=(Fr l).eval:=rfl
theorem gY{ds:List dl}(d:Nat)(v:ak):(Fr l ds).put (some d) v=Fr (l.set d v) ds:=by simp[Act.put,Fr]
def dQ(P:bz)(T:ay)(n:Nat):Prop:=∃inf,P.info? T=some inf∧inf.size=n
def pU(P:bz)(T:ay)(z:ak):Prop:=∃inf,P.info? T=some inf∧inf.zero=some z
def Fb:TypeDesc→Bool
 | .struct _ | .array _ _=>true
 | _=>false
def fP(P:bz)(T:ay)(b:Bool):Prop:=∃dd,P.underlying T=some dd∧Fb dd=b
theorem dZ{n:Nat}(h:(P.info? T).map (·.size)=some n):dQ P T n:=by
 cases hi:P.info? T with
 | none=>rw[hi] at h;cases h
 | some i=>rw[hi] at h;exact⟨i,hi,by simpa using h⟩
theorem lR{z:ak}(h:(P.info? T).bind (·.zero)=some z):pU P T z:=by
 cases hi:P.info? T with
 | none=>rw[hi] at h;cases h
 | some i=>rw[hi] at h;exact⟨i,hi,by simpa using h⟩
theorem eA{b:Bool}(dd:TypeDesc)(h:P.underlying T=some dd)(hb:Fb dd=b):fP P T b:=⟨dd,h,hb⟩
def ev(l:List ak):cd→ak
 | .tmp t=>l.getD t undef
 | .const v=>v
 | .global g=>.pointer (some ⟨g,0,none⟩)
 | .func f=>.func (.func f) #[] #[]
theorem Co(t:Nat):ev l (.tmp t)=l.getD t undef:=rfl
theorem tP(v:ak):ev l (.const v)=v:=rfl
theorem wT(f:Nat):ev l (.func f)=.func (.func f) #[] #[]:=rfl
theorem bW(x:cd):(Fr l).eval x=ev l x:=by
 cases x with
 | tmp t=>exact apL t
 | const=>rfl
 | global=>rfl
 | func=>rfl
def Aa(P:bz)(l:List ak)(op:Op)(ty:ay)(v:ak)(w:am):Prop :=
 ∀o:Oper,o.op=op→o.type=ty→(da (Fr l).eval o).run P w=.ok (.value v) w
def iO(P:bz)(l:List ak)(op:Op)(ty:ay)(v:ak):Prop:=∀w,Aa P l op ty v w
section
variable {ops:Array Oper} {Q:Exit→Act→am→Prop} {w:am} {rest:List Oper} {d:Nat} {op:Op} {ty:ay} {pos:String} {after:Array Edge} {v:ak}
theorem eD(hr:Aa P l op ty v w)(h:au P ops Q rest (Fr (l.set d v) ds) w):au P ops Q (bp (some d) op ty pos after none::rest) (Fr l ds) w:=by
 refine wpList_plain O fun K hK=>?_;unfold mc;rw[iZ,hr _ rfl rfl];show K ((Fr l ds).put (some d) v) w
 rw[gY];exact hK _ _ h
theorem aB(hr:iO P l op ty v)(h:au P ops Q rest (Fr (l.set d v) ds) w):au P ops Q (bp (some d) op ty pos after none::rest) (Fr l ds) w:=eD (hr w) h
theorem aI(h:Q .normal (Fr l ds) w):au P ops Q [] (Fr l ds) w:=h
theorem eY{j:Nat}{b:Bool}(hw:yielded ops l.toArray j=some b)(h:au P ops Q (bp (some d) op ty pos after none::rest) (Fr l ds) w):au P ops Q (bp (some d) op ty pos after (some (j,b))::rest) (Fr l ds) w:=by
 unfold au at h ⊢;rw[if_pos (by simp[Region.wanted])] at h;rw[if_pos (by simp[Region.wanted,hw])];exact h
theorem aiD{j:Nat}{b:Bool}(hw:yielded ops l.toArray j=some c)(hbc:(c == b)=false)(h:au P ops Q rest (Fr (l.set d undef) ds) w):au P ops Q (bp (some d) op ty pos after (some (j,b))::rest) (Fr l ds) w:=by
 unfold au;rw[if_neg (by simp[Region.wanted,hw];simpa using hbc)];show au P ops Q rest ((Fr l ds).put (some d) undef) w
 rw[gY];exact h
theorem kX{j:Nat}(hw:yielded ops l.toArray j=some false)(h:au P ops Q rest (Fr (l.set d undef) ds) w):au P ops Q (bp (some d) op ty pos after (some (j,true))::rest) (Fr l ds) w:=aiD hw rfl h
theorem Fc{j:Nat}(hw:yielded ops l.toArray j=some true)(h:au P ops Q rest (Fr (l.set d undef) ds) w):au P ops Q (bp (some d) op ty pos after (some (j,false))::rest) (Fr l ds) w:=aiD hw rfl h
theorem pM{j:Nat}{b:Bool}(hw:yielded ops l.toArray j=none)(h:au P ops Q rest (Fr (l.set d undef) ds) w):au P ops Q (bp (some d) op ty pos after (some (j,b))::rest) (Fr l ds) w:=by
 unfold au;rw[if_neg (by simp[Region.wanted,hw])];show au P ops Q rest ((Fr l ds).put (some d) undef) w
 rw[gY];exact h
end
section
variable {ops:Array Oper} {Q:Act→Prop} {C:am→Prop} {rest:List Oper} {d:Nat} {op:Op} {ty:ay} {pos:String} {after:Array Edge} {v:ak}
theorem jZ(hr:∀w,C w→Aa P l op ty v w)(h:cq P ops C Q rest (Fr (l.set d v) ds)):cq P ops C Q (bp (some d) op ty pos after none::rest) (Fr l ds):=by
 refine wpQuiet_step fun K hK=>?_;rw[if_pos (by simp[Region.wanted])];refine⟨v,fun w hw=>?_,?_⟩
 · unfold m_
   rw[iZ,hr w hw _ rfl rfl];exact⟨O,O⟩
 · show K ((Fr l ds).put (some d) v)
   rw[gY];exact hK _ h
theorem aK(hr:iO P l op ty v)(h:cq P ops C Q rest (Fr (l.set d v) ds)):cq P ops C Q (bp (some d) op ty pos after none::rest) (Fr l ds):=jZ (fun w _=>hr w) h
theorem bN(h:Q (Fr l ds)):cq P ops C Q [] (Fr l ds):=h
theorem nS{j:Nat}{b:Bool}(hw:yielded ops l.toArray j=some b)(h:cq P ops C Q (bp (some d) op ty pos after none::rest) (Fr l ds)):cq P ops C Q (bp (some d) op ty pos after (some (j,b))::rest) (Fr l ds):=by
 unfold cq at h ⊢;rw[if_pos (by simp[Region.wanted])] at h;rw[if_pos (by simp[Region.wanted,hw])];exact h
theorem aiE{j:Nat}{b:Bool}(hw:yielded ops l.toArray j=some c)(hbc:(c == b)=false)(h:cq P ops C Q rest (Fr (l.set d undef) ds)):cq P ops C Q (bp (some d) op ty pos after (some (j,b))::rest) (Fr l ds):=by
 unfold cq;rw[if_neg (by simp[Region.wanted,hw];simpa using hbc)];show cq P ops C Q rest ((Fr l ds).put (some d) undef)
 rw[gY];exact h
theorem afe{j:Nat}(hw:yielded ops l.toArray j=some false)(h:cq P ops C Q rest (Fr (l.set d undef) ds)):cq P ops C Q (bp (some d) op ty pos after (some (j,true))::rest) (Fr l ds):=aiE hw rfl h
theorem Iu{j:Nat}(hw:yielded ops l.toArray j=some true)(h:cq P ops C Q rest (Fr (l.set d undef) ds)):cq P ops C Q (bp (some d) op ty pos after (some (j,false))::rest) (Fr l ds):=aiE hw rfl h
end
/-! ### Values -/
section
variable {x y:cd} {T T' ty:ay} {k:IntKind} {m n r:Int}
theorem aC:iO P l (.move x) ty (ev l x):=fun w o ho _=>by simp[da,ho,bW]
theorem aJ:iO P l (.assign x) ty (ev l x):=fun w o ho _=>by simp[da,ho,bW]
theorem Zi{c:cd}{b:Bool}(hc:ev l c=.bool b):iO P l (.pick c x y) ty (if b then ev l x else ev l y):=fun w o ho _=>by
 simp[da,ho,bW,hc,asBool]
theorem fH(hx:ev l x=.int k m)(hy:ev l y=.int k n)(hr:k.wrap (m+n)=r):iO P l (.binOp .add T x y T') ty (.int k r):=fun w o ho _=>by
 simp[da,ho,bW,hx,hy,eqGuard,binOp,Op.intArith,hr]
theorem mG(hx:ev l x=.int k m)(hy:ev l y=.int k n)(hr:k.wrap (m-n)=r):iO P l (.binOp .sub T x y T') ty (.int k r):=fun w o ho _=>by
 simp[da,ho,bW,hx,hy,eqGuard,binOp,Op.intArith,hr]
theorem sD(hx:ev l x=.int k m)(hy:ev l y=.int k n)(hr:k.wrap (m*n)=r):iO P l (.binOp .mul T x y T') ty (.int k r):=fun w o ho _=>by
 simp[da,ho,bW,hx,hy,eqGuard,binOp,Op.intArith,hr]
theorem tQ(hx:ev l x=.int k m)(hy:ev l y=.int k n):iO P l (.binOp .lss T x y T') ty (.bool (decide (m<n))):=fun w o ho _=>by
 simp[da,ho,bW,hx,hy,eqGuard,binOp,Op.intCmp]
theorem Ws(hx:ev l x=.int k m)(hy:ev l y=.int k n):iO P l (.binOp .leq T x y T') ty (.bool (decide (m≤n))):=fun w o ho _=>by
 simp[da,ho,bW,hx,hy,eqGuard,binOp,Op.intCmp]
theorem Nr(hx:ev l x=.int k m)(hy:ev l y=.int k n):iO P l (.binOp .gtr T x y T') ty (.bool (decide (n<m))):=fun w o ho _=>by
 simp[da,ho,bW,hx,hy,eqGuard,binOp,Op.intCmp]
theorem Qs(hx:ev l x=.int k m)(hy:ev l y=.int k n):iO P l (.binOp .geq T x y T') ty (.bool (decide (n≤m))):=fun w o ho _=>by
 simp[da,ho,bW,hx,hy,eqGuard,binOp,Op.intCmp]
theorem Qt(hx:ev l x=.int k m)(hy:ev l y=.int k n):iO P l (.binOp .eql T x y T') ty (.bool (decide (m=n))):=fun w o ho _=>by
 simp[da,ho,bW,hx,hy,eqGuard,binOp,Op.intCmp];cases h:(m == n) <;> simp_all
theorem uT(hx:ev l x=.int k m)(hy:ev l y=.int k n):iO P l (.binOp .neq T x y T') ty (.bool (decide (m≠n))):=fun w o ho _=>by
 simp[da,ho,bW,hx,hy,eqGuard,binOp,Op.intCmp];cases h:(m != n) <;> simp_all
theorem mV(hx:ev l x=.int k m)(hy:ev l y=.int k n)(h0:n≠0)(hr:k.wrap (m.tdiv n)=r):iO P l (.binOp .quo T x y T') ty (.int k r):=fun w o ho _=>by
 simp[da,ho,bW,hx,hy,eqGuard,binOp,Op.intDiv,h0,hr]
theorem dL(hx:ev l x=.int k m)(hy:ev l y=.int k n)(h0:n≠0)(hr:m.tmod n=r):iO P l (.binOp .rem T x y T') ty (.int k r):=fun w o ho _=>by
 simp[da,ho,bW,hx,hy,eqGuard,binOp,Op.intDiv,h0,hr]
theorem yD(hx:ev l x=.int k m)(hy:ev l y=.int k n)(hr:k.wrap ((dw k.bits m &&& dw k.bits n).toNat:Int)=r):iO P l (.binOp .and T x y T') ty (.int k r):=fun w o ho _=>by
 subst hr;simp[da,ho,bW,hx,hy,eqGuard,binOp,Op.intBits]
theorem abq(hx:ev l x=.int k m)(hy:ev l y=.int k n)(hr:k.wrap ((dw k.bits m ||| dw k.bits n).toNat:Int)=r):iO P l (.binOp .or T x y T') ty (.int k r):=fun w o ho _=>by
 subst hr;simp[da,ho,bW,hx,hy,eqGuard,binOp,Op.intBits]
theorem Ns{k':IntKind}(hx:ev l x=.int k m)(hy:ev l y=.int k' n)(h0:0≤n)(hr:k.wrap (m*2^(min n.toNat k.bits))=r):iO P l (.binOp .shl T x y T') ty (.int k r):=fun w o ho _=>by
 subst hr;simp[da,ho,bW,hx,hy,eqGuard,binOp,Op.shift,rf.2 h0]
theorem oW{k':IntKind}(hx:ev l x=.int k m)(hy:ev l y=.int k' n)(h0:0≤n)(hr:m.fdiv (2^(min n.toNat k.bits))=r):iO P l (.binOp .shr T x y T') ty (.int k r):=fun w o ho _=>by
 subst hr;simp[da,ho,bW,hx,hy,eqGuard,binOp,Op.shift,rf.2 h0]
theorem mH{b:Bool}(hx:ev l x=.bool b):iO P l (.unOp .not T x) ty (.bool (!b)):=fun w o ho _=>by
 simp[da,ho,bW,hx,Op.unary]
theorem vT(hx:ev l x=.int k m)(hr:k.wrap (0-m)=r):iO P l (.unOp .neg T x) ty (.int k r):=fun w o ho _=>by
 subst hr;simp[da,ho,bW,hx,Op.unary,Op.intArith]
theorem lT(hd:P.underlying T'=some (.int k)){k':IntKind}{dd:TypeDesc}(hs:P.underlying T=some dd)(hx:ev l x=.int k' m)(hr:k.wrap m=r):iO P l (.convert T T' x) ty (.int k r):=fun w o ho _=>by
 subst hr;simp[da,ho,bW,hx,convert,cj hs,cj hd,Conv.intToInt]
theorem dD{vs:Array ak}{v:ak}(hx:ev l x=.tuple vs)(hi:vs[i]? = some v):iO P l (.extract x i) ty v:=fun w o ho _=>by
 simp[da,ho,bW,hx,Instr.extract,hi]
theorem eS{fn:Fn}{first captured:Array cd}:iO P l (.makeFunc fn first captured) ty (.func fn (first.map (ev l)) (captured.map (ev l))):=fun w o ho _=>by
 have e:(Fr l).eval=ev l:=funext bW;simp[da,ho,e,Instr.makeFunc]
theorem jD{E:ay}{A:Option Addr}{n c:Nat}{a0:Array ay}(ha:a0 = #[T])(hu:P.underlying T=some (.slice E))(hx:ev l x=.slice A n c):iO P l (.call { callee:=.builtin .len,args:=#[x],argTypes:=a0 }) ty (.int .i64 n):=fun w o ho _=>by
 subst ha;simp[da,ho,resolve,invoke,builtin,Builtin.len_,bW,hx,cj hu,goInt]
theorem yE{s:ByteArray}{a0:Array ay}(ha:a0 = #[T])(hu:P.underlying T=some .string)(hx:ev l x=.string s):iO P l (.call { callee:=.builtin .len,args:=#[x],argTypes:=a0 }) ty (.int .i64 s.size):=fun w o ho _=>by
 subst ha;simp[da,ho,resolve,invoke,builtin,Builtin.len_,bW,hx,cj hu,goInt]
theorem ash{a0:Array ay}(hx:ev l x=.int k m)(hy:ev l y=.int k n)(hr:(if n<m then n else m)=r):iO P l (.call { callee:=.builtin .min,args:=#[x,y],argTypes:=a0 }) ty (.int k r):=fun w o ho _=>by
 subst hr;simp[da,ho,resolve,invoke,builtin,Builtin.min_,Builtin.min2,bW,hx,hy]
theorem wU{a0:Array ay}(hx:ev l x=.int k m)(hy:ev l y=.int k n)(hr:(if m<n then n else m)=r):iO P l (.call { callee:=.builtin .max,args:=#[x,y],argTypes:=a0 }) ty (.int k r):=fun w o ho _=>by
 subst hr;simp[da,ho,resolve,invoke,builtin,Builtin.max_,Builtin.max2,bW,hx,hy]
end
/-! ### Addresses -/
section
variable {x y:cd} {T T' ty:ay} {k:IntKind} {m n r:Int}
theorem bD{fs:Array Field}{i c:Nat}{f:Field}{a b:Addr}(hu:P.underlying T=some (.struct fs))(hf:fs[i]? = some f)(hc:dQ P f.type (c+1))(hx:ev l x=.pointer (some a))(hb:a.add f.offset=b) :
 iO P l (.fieldAddr T x i) ty (.pointer (some b)):=fun w o ho _=>by
 subst hb;obtain⟨inf,hi,hz⟩:=hc;have hz':¬inf.size=0:=by omega
 simp[da,ho,bW,hx,Instr.fieldAt,cj hu,hf,Instr.sureAddr,fieldPlace,sizeOf,typeInfo,hi,hz']
theorem aN{E:ay}{len:Nat}{c:Nat}{a b:Addr}(hu:P.underlying T=some (.array len E))(hc:dQ P E c)(hx:ev l x=.pointer (some a))(hy:ev l y=.int k m)(h0:0≤m)(h1:m<len)(hb:a.add (m.toNat*c)=b) :
 iO P l (.indexAddr T x y) ty (.pointer (some b)):=fun w o ho _=>by
 subst hb;obtain⟨inf,hi,rfl⟩:=hc;simp[da,ho,bW,hx,hy,Instr.indexAt,asIntOf,cj hu,Instr.sureAddr,sizeOf,typeInfo,hi,h0,h1]
theorem aG{E:ay}{len cap:Nat}{c:Nat}{a b:Addr}(hu:P.underlying T=some (.slice E))(hc:dQ P E c)(hx:ev l x=.slice (some a) len cap)(hy:ev l y=.int k m)(h0:0≤m)(h1:m<len)(hb:a.add (m.toNat*c)=b) :
 iO P l (.indexAddr T x y) ty (.pointer (some b)):=fun w o ho _=>by
 subst hb;obtain⟨inf,hi,rfl⟩:=hc;simp[da,ho,bW,hx,hy,Instr.indexAt,asIntOf,cj hu,sizeOf,typeInfo,hi,h0,h1]
end
/-! ### Memory -/
section
variable {x y:cd} {T T' ty:ay} {w:am}
def nO(P:bz)(w:am)(T:ay)(a:Addr)(v:ak):Prop:=(loadVar T a).run P w=.ok v w
theorem mE.lies{cs:List ak}(h:mE w a cs)(hA:fP P T true)(hc:dQ P T cs.length):nO P w T a (.agg cs.toArray):=by
 obtain⟨dd,hu,hd⟩:=hA;obtain⟨inf,hi,hn⟩:=hc;have hl:=run_loadCells_list (P:=P) w a cs (fun j v hv=>h j v hv);have hagg:(isAgg T).run P w=.ok true w:=by
  unfold isAgg;rw[Sem.run_bind,cj hu w];cases dd <;> simp_all [Fb]
 unfold nO;simp[loadVar,Sem.run_bind,hagg,sizeOf,typeInfo,hi,hn,hl]
theorem lies1{v:ak}(h:w.cell? a=some v)(hA:fP P T false):nO P w T a v:=by
 obtain⟨dd,hu,hd⟩:=hA;have hagg:(isAgg T).run P w=.ok false w:=by
  unfold isAgg;rw[Sem.run_bind,cj hu w];cases dd <;> simp_all [Fb]
 unfold nO;simp[loadVar,Sem.run_bind,hagg,load,Sem.run,h]
theorem fE.cell{g:Nat}{cs:List ak}{t:ay}(h:fE w g cs t){v:ak}(hi:cs[i]? = some v):w.cell? ⟨g,i,none⟩=some v:=by
 rw[cell_of_row w g i cs.toArray t (0,0) h];simpa using hi
theorem fE.lies1{g:Nat}{cs:List ak}{t:ay}{v:ak}(h:fE w g cs t)(hA:fP P T false)(hi:cs[i]? = some v):nO P w T ⟨g,i,none⟩ v:=Lith.lies1 (h.cell hi) hA
theorem fE.lies{g n:Nat}{cs us:List ak}{t:ay}(h:fE w g cs t)(hA:fP P T true)(hc:dQ P T n)(hu:(cs.drop i).take n=us)(hn:us.length=n):nO P w T ⟨g,i,none⟩ (.agg us.toArray):=by
 subst hu;exact ((h.row i).take n).lies hA (by rw[hn];exact hc)
theorem aZ{v:ak}(hx:ev l x=.pointer (some a))(hv:nO P w T a v):Aa P l (.load T x) ty v w:=fun o ho _=>by
 unfold nO at hv;simp[da,ho,bW,hx,Instr.loadAt,Instr.sureAddr,hv]
variable {ops:Array Oper} {Q:Exit→Act→am→Prop} {rest:List Oper} {d:Nat} {op:Op} {pos:String} {after:Array Edge} {v:ak}
theorem aQ(hx:ev l x=.pointer (some a))(hv:nO P w T a v)(h:au P ops Q rest (Fr (l.set d v) ds) w):au P ops Q (bp (some d) (.load T x) ty pos after none::rest) (Fr l ds) w :=
 eD (aZ hx hv) h
theorem Iv{w':am}(hr:∀o:Oper,o.op=op→(da (Fr l).eval o).run P w=.ok .skip w')(h:au P ops Q rest (Fr l ds) w'):au P ops Q (bp none op ty pos after none::rest) (Fr l ds) w:=by
 refine wpList_plain O fun K hK=>?_;unfold mc;rw[iZ,hr _ rfl];exact hK _ _ h
theorem lU{w':am}(hr:∀o:Oper,o.op=op→o.type=ty→(da (Fr l).eval o).run P w=.ok (.value v) w')(h:au P ops Q rest (Fr (l.set d v) ds) w'):au P ops Q (bp (some d) op ty pos after none::rest) (Fr l ds) w:=by
 refine wpList_plain O fun K hK=>?_;unfold mc;rw[iZ,hr _ rfl rfl];show K ((Fr l ds).put (some d) v) w'
 rw[gY];exact hK _ _ h
theorem jP(w:am)(cs:List ak)(t:ay):fE (w.alloc (.cells cs.toArray t)) w.heap.size cs t:=heap_alloc_new w _
theorem aff{cs:List ak}(hv:(ev l x).cells=cs.toArray)(h:∀w' g,dY w w'→w.heap.size≤g→fE w' g cs T→au P ops Q rest (Fr (l.set d (.pointer (some ⟨g,0,none⟩))) ds) w') :
 au P ops Q (bp (some d) (.box T x) ty pos after none::rest) (Fr l ds) w :=
 lU (w':=w.alloc (.cells cs.toArray T)) (v:=.pointer (some ⟨w.heap.size,0,none⟩)) (fun o ho _=>by simp[da,ho,bW,Instr.box,newVar,newRow,hv,newObj,Sem.run]) (h _ _ ((dY.refl w).alloc _) (av _) (jP w cs T))
theorem Ab{cs:List ak}{z:ak}(hZ:pU P T z)(hv:z.cells=cs.toArray)(h:∀w' g,dY w w'→w.heap.size≤g→fE w' g cs T→au P ops Q rest (Fr (l.set d (.pointer (some ⟨g,0,none⟩))) ds) w') :
 au P ops Q (bp (some d) (.alloc T) ty pos after none::rest) (Fr l ds) w:=by
 obtain⟨inf,hi,hz⟩:=hZ;exact lU (w':=w.alloc (.cells cs.toArray T)) (v:=.pointer (some ⟨w.heap.size,0,none⟩)) (fun o ho _=>by simp[da,ho,Instr.alloc,zeroValue,typeInfo,hi,hz,newVar,newRow,hv,newObj,Sem.run]) (h _ _ ((dY.refl w).alloc _) (av _) (jP w cs T))
def bQ(cs:List ak)(off:Nat)(us:List ak):List ak:=cs.take off++us++cs.drop (off+us.length)
theorem Cp{cs us:List ak}{off:Nat}(h:off+us.length≤cs.length):(bQ cs off us).length=cs.length:=by simp[bQ];omega
theorem Ac(w:am)(g:Nat)(cs:Array ak):Chg w (w.setRow g cs) g:=⟨rfl,rfl,rfl,by simp,fun k hk=>setRow_other w g k cs hk⟩
theorem Iy{g off:Nat}{cs us:List ak}{t:ay}(hc:dQ P T us.length)(hv:v.cells=us.toArray)(hB:fE w g cs t)(hfit:off+us.length≤cs.length)(h1:∀u∈us,u.oneCell'=true) :
 (storeVar T ⟨g,off,none⟩ v).run P w=.ok () (w.setRow g (bQ cs off us).toArray):=by
 obtain⟨inf,hi,hn⟩:=hc;have hst:=run_storeCells_at P g off t us 0 cs.toArray w hB (by simpa using hfit) h1;simp only[nc,ec] at hst;simp[storeVar,hv,sizeOf,typeInfo,hi,hn,hst,bQ]
theorem kY{g off:Nat}{cs us:List ak}{t:ay}(hx:ev l x=.pointer (some ⟨g,off,none⟩))(hv:(ev l y).cells=us.toArray)(hc:dQ P T us.length)(hB:fE w g cs t)(hfit:off+us.length≤cs.length)(h1:∀u∈us,u.oneCell'=true)
 (h:∀w',Chg w w' g→fE w' g (bQ cs off us) t→au P ops Q rest (Fr l ds) w'):au P ops Q (bp none (.store T x y) ty pos after none::rest) (Fr l ds) w :=
 Iv (w':=w.setRow g (bQ cs off us).toArray) (fun o ho=>by simp[da,ho,bW,hx,Instr.storeAt,Instr.sureAddr,Iy hc hv hB hfit h1]) (h _ (Ac w g _) (setRow_heap w g cs.toArray _ t _ hB))
/-! ### Calls -/
def Entr(P:bz)(f:FuncId):Prop:=∃fn,P.funcs[f]? = some fn∧(fn.name == "runtime.NumGoroutine")=false∧fn.body.isNone=false
theorem bO{P:bz}{fn:Func}(h:P.funcs[f]? = some fn) (hb:(!(fn.name == "runtime.NumGoroutine") && !fn.body.isNone)=true):Entr P f:=by
 simp only[bh,ij] at hb;exact⟨fn,h,hb.1,hb.2⟩
def dR(P:bz)(f:FuncId)(args:List ak)(w:am)(R:ak→am→Prop):Prop :=
 Entr P f∧Calls P f args.toArray w fun e w'=>∃v,e=.returned v∧dY w w'∧R v w'
def gS(P:bz)(f:FuncId)(args:List ak)(v:ak):Prop:=∀w,dR P f args w fun u _=>u=v
theorem dR.mono{args:List ak}{R R':ak→am→Prop}(h:dR P f args w R)(hr:∀v w',dY w w'→R v w'→R' v w'):dR P f args w R' :=
 ⟨h.1,h.2.mono fun _ _ ⟨v,he,hE,hR⟩=>⟨v,he,hE,hr _ _ hE hR⟩⟩
theorem vA{args:Array ak}(h:Entr P f):(callFunc f args).run P w=.ok (.enter f args) w:=by
 obtain⟨fn,hf,hn,hb⟩:=h;have hn':¬fn.name = "runtime.NumGoroutine" := by simpa using hn
 have hb':¬fn.body=none:=by intro h;rw[h] at hb;cases hb
 simp[callFunc,hf,hn',hb']
theorem oX{f:FuncId}{fo:cd}{xs:Array cd}{args:List ak}{first cap:Array ak}{a0:Array ay}(h:Entr P f)(hf:ev l fo=.func (.func f) first cap)(hxs:first.toList++xs.toList.map (ev l)++cap.toList=args)(o:Oper)(ho:o.op=.call { callee:=.value fo,args:=xs,argTypes:=a0 }) :
 (da (Fr l).eval o).run P w=.ok (.enter f args.toArray) w:=by
 have e:(Fr l).eval=ev l:=funext bW;have ea:args.toArray=first++xs.map (ev l)++cap:=by
  rw[←hxs];apply qj;simp
 simp[da,ho,resolve,e,hf,Deferred.ofValue,invoke,vA h,ea]
theorem bB{f:FuncId}{fo:cd}{xs:Array cd}{args:List ak}{first cap:Array ak}{a0:Array ay}{R:ak→am→Prop}(hf:ev l fo=.func (.func f) first cap)(hxs:first.toList++xs.toList.map (ev l)++cap.toList=args)(hc:dR P f args w R)
 (h:∀v w',dY w w'→R v w'→au P ops Q rest (Fr (l.set d v) ds) w'):au P ops Q (bp (some d) (.call { callee:=.value fo,args:=xs,argTypes:=a0 }) ty pos after none::rest) (Fr l ds) w:=by
 refine wpList_plain O fun K hK=>?_;unfold mc;rw[iZ,oX hc.1 hf hxs _ rfl];refine hc.2.mono ?_;rintro e w' ⟨v,rfl,hE,hR⟩;show K ((Fr l ds).put (some d) v) w'
 rw[gY];exact hK _ _ (h v w' hE hR)
theorem Zj{f:FuncId}{fo:cd}{xs:Array cd}{args:List ak}{first cap:Array ak}{a0:Array ay}(hf:ev l fo=.func (.func f) first cap)(hxs:first.toList++xs.toList.map (ev l)++cap.toList=args)(hc:gS P f args v)
 (h:∀w',dY w w'→au P ops Q rest (Fr (l.set d v) ds) w'):au P ops Q (bp (some d) (.call { callee:=.value fo,args:=xs,argTypes:=a0 }) ty pos after none::rest) (Fr l ds) w :=
 bB hf hxs (hc w) fun _ w' hE hR=>hR▸h w' hE
end
section
variable {x y:cd} {T T' ty:ay} {w:am}
variable {ops:Array Oper} {Q:Act→Prop} {rest:List Oper} {d:Nat} {op:Op} {pos:String} {after:Array Edge} {v:ak}
theorem Lj(hx:ev l x=.pointer (some a))(hv:∀w',dY w w'→nO P w' T a v)(h:cq P ops (dY w) Q rest (Fr (l.set d v) ds)):cq P ops (dY w) Q (bp (some d) (.load T x) ty pos after none::rest) (Fr l ds) :=
 jZ (fun _ hE=>aZ hx (hv _ hE)) h
end
/-! ### Code -/
section
variable {Q:Exit→Act→am→Prop} {w:am} {c c1 c2:Code}
theorem aT{a:Act}(h:∀K:Act→am→Prop,(∀a w,c2.wp P Q a w→K a w)→c1.wp P (Exit.then K Q) a w):(Code.seq c1 c2).wp P Q a w:=wp_seq_k h
theorem lV{x:cd}{b:Bool}(hx:ev l x=.bool b)(ht:b=true→c1.wp P Q (Fr l ds) w)(hf:b=false→c2.wp P Q (Fr l ds) w):(Code.cond x c1 c2).wp P Q (Fr l ds) w :=
 wp_cond_split (by rw[iZ,bW];exact hx) ht hf
theorem bK{x:cd}{p:Prop}[Decidable p](hx:ev l x=.bool (decide p))(ht:p→c1.wp P Q (Fr l ds) w)(hf:¬p→c2.wp P Q (Fr l ds) w):(Code.cond x c1 c2).wp P Q (Fr l ds) w :=
 lV hx (fun h=>ht (of_decide_eq_true h)) (fun h=>hf (of_decide_eq_false h))
theorem wV{x:cd}(hx:ev l x=.bool true)(ht:c1.wp P Q (Fr l ds) w):(Code.cond x c1 c2).wp P Q (Fr l ds) w:=lV hx (fun _=>ht) (fun h=>by cases h)
theorem Zk{x:cd}(hx:ev l x=.bool false)(hf:c2.wp P Q (Fr l ds) w):(Code.cond x c1 c2).wp P Q (Fr l ds) w:=lV hx (fun h=>by cases h) (fun _=>hf)
def Res(P:bz)(l:List ak)(w:am):ResultVar→ak→Prop
 | .tmp t,v=>l.getD t undef=v
 | .cell t T,v=>∃a,l.getD t undef=.pointer (some a)∧nO P w T a v
theorem vI{r:ResultVar}{v:ak}(h:Res P l w r v):(∃t,r=.tmp t∧l[t]?.getD undef=v)∨(∃t T a,r=.cell t T∧l[t]?.getD undef=.pointer (some a)∧(loadVar T a).run P w=.ok v w):=by
 cases r with
 | tmp t=>exact .inl ⟨t,rfl,by simpa[Res] using h⟩
 | cell t T =>
  obtain⟨a,ha,hl⟩:=h;exact .inr ⟨t,T,a,O,by simpa using ha,hl⟩
theorem aY{fn:Func}{R:Ending→am→Prop}{r:ResultVar}{v:ak}(hr:fn.results = #[r])(h:Res P l w r v)(hR:R (.returned v) w):bodyPost P fn R .ret (Fr l) w:=by
 refine⟨O,v,?_,hR⟩;unfold results;rw[hr];rcases vI h with ⟨t,rfl,h1⟩ | ⟨t,T,a,rfl,h1,h2⟩ <;> simp[*,asAddr]
theorem nP{fn:Func}{R:Ending→am→Prop}{r r':ResultVar}{v v':ak}(hr:fn.results = #[r,r'])(h:Res P l w r v)(h':Res P l w r' v')(hR:R (.returned (.tuple #[v,v'])) w):bodyPost P fn R .ret (Fr l) w:=by
 refine⟨O,_,?_,hR⟩;unfold results;rw[hr];rcases vI h with ⟨t,rfl,h1⟩ | ⟨t,T,a,rfl,h1,h2⟩ <;> rcases vI h' with ⟨t',rfl,h1'⟩ | ⟨t',T',a',rfl,h1',h2'⟩ <;> simp[*,asAddr]
theorem atW{fn:Func}{R:Ending→am→Prop}{r r' r'':ResultVar}{v v' v'':ak}(hr:fn.results = #[r,r',r''])(h:Res P l w r v)(h':Res P l w r' v')(h'':Res P l w r'' v'')(hR:R (.returned (.tuple #[v,v',v''])) w):bodyPost P fn R .ret (Fr l) w:=by
 refine⟨O,_,?_,hR⟩;unfold results;rw[hr];rcases vI h with ⟨t,rfl,h1⟩ | ⟨t,T,a,rfl,h1,h2⟩ <;> rcases vI h' with ⟨t',rfl,h1'⟩ | ⟨t',T',a',rfl,h1',h2'⟩ <;> rcases vI h'' with ⟨t'',rfl,h1''⟩ | ⟨t'',T'',a'',rfl,h1'',h2''⟩ <;> simp[*,asAddr]
end
end
/-! ### Numbers,loops,further values -/
theorem bH(h0 : -9223372036854775808≤x)(h1:x<9223372036854775808):IntKind.i64.wrap x=x:=by
 simp[oh,nf,mr];split <;> omega
theorem kQ(h0:0≤x)(h1:x<18446744073709551616):IntKind.u64.wrap x=x:=by
 simp[oh,nf,mr];omega
theorem aiF(h0:0≤x)(h1:x<4294967296):IntKind.u32.wrap x=x:=by
 simp[oh,nf,mr];omega
theorem aiG(h0 : -2147483648≤x)(h1:x<2147483648):IntKind.i32.wrap x=x:=by
 simp[oh,nf,mr];split <;> omega
theorem amO(h0:0≤x)(h1:x<256):IntKind.u8.wrap x=x:=by
 simp[oh,nf,mr];omega
def fN:List ak→List Nat→List ak→List ak
 | l,t::ts,v::vs=>fN (l.set t v) ts vs
 | l,_,_=>l
theorem Zl{t:Nat}{ts:List Nat}{v:ak}{vs:List ak}:fN l (t::ts) (v::vs)=fN (l.set t v) ts vs:=rfl
theorem Cq{vs:List ak}:fN l [] vs=l:=by cases vs <;> rfl
theorem abr{t:Nat}:l.set t (l.getD t undef)=l:=by
 apply gg;intro i;rw[List.getElem?_set];split
 · rename_i h;subst h
   split
   · rename_i h;simp[h]
   · rename_i h;simp at h;simp[h]
 · rfl
theorem Iz:∀(ts:List Nat) (l:List ak),fN l ts (ts.map (l.getD · undef))=l
 | [],l=>Cq
 | t::ts,l=>by
  simp only[bi,Zl,abr];exact Iz ts l
theorem Ad{p:Nat→Prop}(h:∃n,p n):∃n,p n∧∀m,p m→n≤m:=by
 obtain⟨n,hn⟩:=h
 induction n using Nat.strongRecOn with
 | _ n ih =>
  by_cases hx:∃m,m<n∧p m
  · obtain⟨m,hm,hp⟩:=hx;exact ih m hm hp
  · exact⟨n,hn,fun m hm=>Nat.le_of_not_lt fun hlt=>hx ⟨m,hlt,hm⟩⟩
noncomputable def Qu(p:Nat→Prop)(h:∃n,p n):Nat:=(Ad h).choose
theorem abt{p:Nat→Prop}(h:∃n,p n):p (Qu p h):=(Ad h).choose_spec.1
theorem agJ{p:Nat→Prop}(h:∃n,p n){m:Nat}(hm:p m):Qu p h≤m:=(Ad h).choose_spec.2 m hm
section
variable {P:bz} {ds:List dl} {l:List ak}
end
/-! ### Parts of values,slices,new slices -/
section
variable {P:bz} {ds:List dl} {l:List ak} {x y:cd} {T T' ty:ay} {k:IntKind} {m n r:Int}
theorem qU{b:Bool}(h:fP P T b)(w:am):(isAgg T).run P w=.ok b w:=by
 obtain⟨dd,hu,hd⟩:=h;unfold isAgg;rw[Sem.run_bind,cj hu w];cases dd <;> simp_all [Fb]
theorem fA{c:Nat}(h:dQ P T c)(w:am):(sizeOf T).run P w=.ok c w:=by
 obtain⟨inf,hi,rfl⟩:=h;simp[sizeOf,typeInfo,hi]
theorem jQ(cs:Array ak):(Value.agg cs).cells=cs:=rfl
theorem mP{parts:Array (Nat × cd)}{vs:Array (Nat × ak)}{v:ak}(hp:(parts.map fun (i,x)=>(i,ev l x))=vs)(h:∀w,(Instr.build T vs).run P w=.ok v w):iO P l (.build T parts) ty v:=fun w o ho _=>by
 have e:(Fr l).eval=ev l:=funext bW;subst hp;simp only[da,ho,e];rw[Sem.run_bind,h w];rfl
theorem eT{fs:Array Field}{places:Array (Nat × Nat)}{z:ak}{cells:Array ak}{vs:Array (Nat × ak)}(hu:P.underlying T=some (.struct fs))(hz:pU P T z)
 (hpl:∀w,(fs.mapM fun f=>do pure (f.offset,←sizeOf f.type):Sem (Array (Nat × Nat))).run P w=.ok places w) (hf:Instr.fill (places[·]?) z.cells vs.toList=some cells) (w:am):(Instr.build T vs).run P w=.ok (.agg cells) w:=by
 obtain⟨inf,hi,h0⟩:=hz;simp only[Instr.build,zeroValue,typeInfo];simp[hi,h0,cj hu];have:=hpl w;simp at this;simp[this,hf]
theorem mW{E:ay}{n c:Nat}{z:ak}{cells:Array ak}{vs:Array (Nat × ak)}(hu:P.underlying T=some (.array n E))(hz:pU P T z)(hc:dQ P E c)
 (hf:Instr.fill (fun i=>some (i*c,c)) z.cells vs.toList=some cells) (w:am):(Instr.build T vs).run P w=.ok (.agg cells) w:=by
 obtain⟨inf,hi,h0⟩:=hz;simp only[Instr.build,zeroValue,typeInfo];simp[hi,h0,cj hu,fA hc,hf]
theorem aiH{fs:Array Field}{i:Nat}{f:Field}{cs:Array ak}{v:ak}(hu:P.underlying T=some (.struct fs))(hf:fs[i]? = some f)(hA:fP P f.type false)(hx:ev l x=.agg cs)(hv:cs[f.offset]? = some v) :
 iO P l (.field T x i) ty v:=fun w o ho _=>by
 simp[da,ho,bW,hx,Instr.field,cj hu,hf,asAgg,part,qU hA,hv]
theorem aiI{fs:Array Field}{i c:Nat}{f:Field}{cs us:Array ak}(hu:P.underlying T=some (.struct fs))(hf:fs[i]? = some f)(hA:fP P f.type true)(hc:dQ P f.type c)(hx:ev l x=.agg cs)(hv:cs.extract f.offset (f.offset+c)=us) :
 iO P l (.field T x i) ty (.agg us):=fun w o ho _=>by
 subst hv;simp[da,ho,bW,hx,Instr.field,cj hu,hf,asAgg,part,qU hA,fA hc]
theorem qW{E:ay}{len c:Nat}{cs:Array ak}{v:ak}(hu:P.underlying T=some (.array len E))(hA:fP P E false)(hc:dQ P E c)(hx:ev l x=.agg cs)(hy:ev l y=.int k m)(h0:0≤m)(h1:m<len)(hv:cs[m.toNat*c]? = some v) :
 iO P l (.index T x y) ty v:=fun w o ho _=>by
 simp[da,ho,bW,hx,hy,Instr.index,asIntOf,cj hu,h0,h1,part,qU hA,fA hc,hv]
theorem qX{E:ay}{len c:Nat}{cs us:Array ak}(hu:P.underlying T=some (.array len E))(hA:fP P E true)(hc:dQ P E c)(hx:ev l x=.agg cs)(hy:ev l y=.int k m)(h0:0≤m)(h1:m<len)(hv:cs.extract (m.toNat*c) (m.toNat*c+c)=us) :
 iO P l (.index T x y) ty (.agg us):=fun w o ho _=>by
 subst hv;simp[da,ho,bW,hx,hy,Instr.index,asIntOf,cj hu,h0,h1,part,qU hA,fA hc]
theorem vU{s:ByteArray}{b:UInt8}(hu:P.underlying T=some .string)(hx:ev l x=.string s)(hy:ev l y=.int k m)(h0:0≤m)(hb:s[m.toNat]? = some b) :
 iO P l (.index T x y) ty (.int .u8 b.toNat):=fun w o ho _=>by
 simp[da,ho,bW,hx,hy,Instr.index,asIntOf,cj hu,h0,hb]
theorem nC{E:ay}{A:Option Addr}{len cap c:Nat}(hu:P.underlying T=some (.slice E))(hc:dQ P E c){q:Nat}(hx:ev l x=.slice A len cap)(hy:ev l y=.int k m)(hq:m.toNat=q)(h0:0≤m)(h1:m≤cap) :
 iO P l (.slice T x none (some y) none) ty (.slice A q cap):=fun w o ho _=>by
 subst hq;have e:(if cap=0 then A else Option.map (fun a=>a.add 0) A)=A:=by
  split
  · rfl
  · cases A <;> simp[Addr.add]
 have h1':¬(m.toNat:Int)>cap:=by omega
 simp[da,ho,bW,hx,hy,Instr.sliceAt,Instr.slice,Instr.sliceBounds,Instr.sliceBound,asIntOf,cj hu,h0,h1,fA hc];intro _;cases A <;> simp[Addr.add]
theorem nD{E:ay}{A A':Option Addr}{len cap c:Nat}(hu:P.underlying T=some (.slice E))(hc:dQ P E c){q:Nat}(hx:ev l x=.slice A len cap)(hy:ev l y=.int k m)(hq:m.toNat=q)(h0:0≤m)(h1:m≤len)(hA:(if cap=q then A else A.map (·.add (q*c)))=A') :
 iO P l (.slice T x (some y) none none) ty (.slice A' (len-q) (cap-q)):=fun w o ho _=>by
 subst hq;subst hA;simp[da,ho,bW,hx,hy,Instr.sliceAt,Instr.slice,Instr.sliceBounds,Instr.sliceBound,asIntOf,cj hu,h0,h1,fA hc]
theorem aiJ{s:ByteArray}(hu:P.underlying T=some .string)(hx:ev l x=.string s)(hy:ev l y=.int k m)(h0:0≤m)(h1:m≤s.size) :
 iO P l (.slice T x (some y) none none) ty (.string (s.extract m.toNat s.size)):=fun w o ho _=>by
 simp[da,ho,bW,hx,hy,Instr.sliceAt,Instr.slice,Instr.sliceBounds,Instr.sliceBound,asIntOf,cj hu,h0,h1]
variable {ops:Array Oper} {Q:Exit→Act→am→Prop} {rest:List Oper} {d:Nat} {pos:String} {after:Array Edge} {w:am}
theorem qY{E:ay}{b:Nat}{kc:IntKind}{z:ak}(hu:P.underlying T=some (.slice E))(hi:(P.info? E).map (fun i=>(i.size,i.bytes,i.zero))=some (1,b,some z))(hzc:z.cells = #[z]){q q':Nat}(hx:ev l x=.int k m)(hy:ev l y=.int kc n)(hq:m.toNat=q)(hq':n.toNat=q')(h0:0≤m)(h1:m≤n)(hn:n≤9223372036854775807)(hb:(b:Int)*n≤281474976710656)
 (h:∀w' g,dY w w'→w.heap.size≤g→fE w' g (cl q' z) E→au P ops Q rest (Fr (l.set d (.slice (some ⟨g,0,none⟩) q q')) ds) w') :
 au P ops Q (bp (some d) (.makeSlice T x y) ty pos after none::rest) (Fr l ds) w:=by
 subst hq;subst hq';cases hq:P.info? E with
 | none=>rw[hq] at hi;cases hi
 | some i =>
  rw[hq] at hi;simp only[ew,fw,fc] at hi;obtain⟨e1,e2,e3⟩:=hi;subst e2;have hr:=run_make (P:=P) w T E i z hu hq e3 k kc m n h0 h1 hb hn;have hc:madeCells z.cells (n.toNat*i.size)=(cl n.toNat z).toArray:=by
   rw[e1,hzc,pw];apply qj;rw[toList_madeCells_one]
  rw[hc] at hr;exact lU (fun o ho _=>by simp[da,ho,bW,hx,hy,hr]) (h _ _ ((dY.refl w).alloc _) (av _) (jP w _ E))
def Oz(w:am)(base:Nat)(e:ay)(size:Nat)(v:ak)(n:Nat)(xs:List ak):Prop:=w.ownsRow base e size v n xs
structure agK(w w':am)(base:Nat):Prop where
 os:w'.os=w.os
 tape:w'.tape=w.tape
 output:w'.output=w.output
 size:w.heap.size≤w'.heap.size
 block:∀k,k<base→w'.heap[k]? = w.heap[k]?
theorem dY.grew{w w':am}(h:dY w w'){base:Nat}(hb:base≤w.heap.size):agK w w' base:=⟨h.os,h.tape,h.output,h.size,fun k hk=>Below.block h k (by omega)⟩
theorem fE.grew{w w':am}{g base:Nat}{cs:List ak}{t:ay}(h:fE w g cs t)(hG:agK w w' base)(hg:g<base):fE w' g cs t:=(hG.block g hg).trans h
theorem dY.grown{w0 w w':am}{base:Nat}(h:dY w0 w)(hG:agK w w' base)(hb:w0.heap.size≤base):dY w0 w' :=
 ⟨hG.os.trans h.os,hG.tape.trans h.tape,hG.output.trans h.output,aw h.size hG.size,fun k hk=>(hG.block k (by omega)).trans (Below.block h k hk)⟩
theorem adr{w:am}{base:Nat}{e:ay}{size:Nat}{v:ak}{n:Nat}{xs:List ak}(h:w.ownsRow base e size v n xs){w':am}(hg:w.grownBy w' v.ownBlock)(hb:base≤w.heap.size):agK w w' base:=by
 refine⟨hg.os,hg.tape,hg.output,hg.size,fun k hk=>hg.block k (by omega) fun hc=>?_⟩;rcases h.2 with ⟨rfl,_⟩ | ⟨g,cap,cur,rfl,hbg,_⟩
 · cases hc
 · simp[Value.ownBlock] at hc
   omega
theorem Oz.row{w:am}{base:Nat}{e:ay}{size:Nat}{v:ak}{n:Nat}{xs:List ak}(h:Oz w base e size v n xs):(v=.slice none 0 0∧n=0∧xs=[])∨∃g cap,v=.slice (some ⟨g,0,none⟩) n cap∧base≤g∧n≤cap∧cap≤maxLen∧g<w.heap.size∧mE w ⟨g,0,none⟩ xs:=by
 rcases h.2 with ⟨rfl,rfl⟩ | ⟨g,cap,cur,rfl,hbg,hg,h1,h2,h3,h4⟩
 · exact .inl ⟨O,O,eo (by simpa using h.1)⟩
 · refine .inr ⟨g,cap,O,hbg,h1,h2,(dj.1 hg).1,fun j u hj=>?_⟩
   rw[gV,ap,cell_of_row w g j cur e (0,0) hg];rw[←h4,fq] at hj;split at hj
   · simpa using hj
   · cases hj
theorem abu{s0 x0:cd}{base c b nn mm cap:Nat}{E:ay}{z v:ak}{xs news:List ak}{ad:Addr}{a0:Array ay}(ha:a0 = #[T,T])(hu:P.underlying T=some (.slice E))(hi:(P.info? E).map (fun i=>(i.size,i.bytes,i.zero))=some (c,b,some z))(hz:z.cells.size=c)(hc:0<c)
 (hs:ev l s0=v) (hown:Oz w base E c v nn xs) (hx:ev l x0=.slice (some ad) mm cap) (hl:news.length=mm*c) (hrow:mE w ad news) (h1:∀u∈news,u.oneCell'=true) (h63:nn+mm≤9223372036854775807) (hbytes:(nn+mm)*b≤140737488355328) (hbase:base≤w.heap.size)
 (h:∀v' w',Oz w' base E c v' (nn+mm) (xs++news)→agK w w' base→(v'=.slice none 0 0↔v=.slice none 0 0∧mm=0)→au P ops Q rest (Fr (l.set d v') ds) w') :
 au P ops Q (bp (some d) (.call { callee:=.builtin .append,args:=#[s0,x0],argTypes:=a0 }) ty pos after none::rest) (Fr l ds) w:=by
 subst ha;cases hq:P.info? E with
 | none=>rw[hq] at hi;cases hi
 | some i =>
  rw[hq] at hi;simp only[ew,fw,fc] at hi;obtain⟨e1,e2,e3⟩:=hi;refine wpList_append_own w O s0 x0 T O base E i z c b hu hq e3 e1 e2 hz hc v nn xs (by rw[iZ,bW];exact hs) hown ad mm cap news (by rw[iZ,bW];exact hx) hl hrow h1 (by simpa[maxLen] using h63) hbytes hbase ?_;intro v' w' ho hg hn;show au P ops Q rest ((Fr l ds).put (some d) v') w'
  rw[gY];exact h v' w' ho (adr hown hg hbase) hn
end
section
variable {P:bz} {ds:List dl} {l:List ak} {x y:cd} {T T' ty:ay} {k:IntKind} {m n r:Int}
theorem sG(hx:ev l x=.int k m)(hy:ev l y=.int k n)(h:m<n):iO P l (.binOp .lss T x y T') ty (.bool true):=by
 have:=tQ (P:=P) (T:=T) (T':=T') (ty:=ty) hx hy;rwa [decide_eq_true h] at this
theorem Hi(hx:ev l x=.int k m)(hy:ev l y=.int k n)(h:¬m<n):iO P l (.binOp .lss T x y T') ty (.bool false):=by
 have:=tQ (P:=P) (T:=T) (T':=T') (ty:=ty) hx hy;rwa [decide_eq_false h] at this
theorem apM(hx:ev l x=.int k m)(hy:ev l y=.int k n)(h:m≤n):iO P l (.binOp .leq T x y T') ty (.bool true):=by
 have:=Ws (P:=P) (T:=T) (T':=T') (ty:=ty) hx hy;rwa [decide_eq_true h] at this
theorem apN(hx:ev l x=.int k m)(hy:ev l y=.int k n)(h:¬m≤n):iO P l (.binOp .leq T x y T') ty (.bool false):=by
 have:=Ws (P:=P) (T:=T) (T':=T') (ty:=ty) hx hy;rwa [decide_eq_false h] at this
theorem apO(hx:ev l x=.int k m)(hy:ev l y=.int k n)(h:n<m):iO P l (.binOp .gtr T x y T') ty (.bool true):=by
 have:=Nr (P:=P) (T:=T) (T':=T') (ty:=ty) hx hy;rwa [decide_eq_true h] at this
theorem aiK(hx:ev l x=.int k m)(hy:ev l y=.int k n)(h:¬n<m):iO P l (.binOp .gtr T x y T') ty (.bool false):=by
 have:=Nr (P:=P) (T:=T) (T':=T') (ty:=ty) hx hy;rwa [decide_eq_false h] at this
theorem aiL(hx:ev l x=.int k m)(hy:ev l y=.int k n)(h:m=n):iO P l (.binOp .eql T x y T') ty (.bool true):=by
 have:=Qt (P:=P) (T:=T) (T':=T') (ty:=ty) hx hy;rwa [decide_eq_true h] at this
theorem apP(hx:ev l x=.int k m)(hy:ev l y=.int k n)(h:¬m=n):iO P l (.binOp .eql T x y T') ty (.bool false):=by
 have:=Qt (P:=P) (T:=T) (T':=T') (ty:=ty) hx hy;rwa [decide_eq_false h] at this
theorem Fe{c:cd}(hc:ev l c=.bool true):iO P l (.pick c x y) ty (ev l x):=Zi hc
theorem Ff{c:cd}(hc:ev l c=.bool false):iO P l (.pick c x y) ty (ev l y):=Zi hc
theorem aiM{op:Op}{v u:ak}(h:iO P l op ty v)(e:v=u):iO P l op ty u:=e▸h
theorem afg{b:Bool}(h:b=c):Value.bool b=Value.bool c:=by rw[h]
end
def qZ:List ak→List Nat→(Nat→ak)→List ak
 | l,t::ts,g=>qZ (l.set t (g t)) ts g
 | l,[],_=>l
theorem agL{t:Nat}{ts:List Nat}{g:Nat→ak}:qZ l (t::ts) g=qZ (l.set t (g t)) ts g:=rfl
theorem asi{g:Nat→ak}:qZ l [] g=l:=rfl
theorem agM:∀(ts:List Nat) (l:List ak),qZ l ts (l.getD · undef)=l:=by
 intro ts;have key:∀(ts:List Nat) (l:List ak) (g:Nat→ak),(∀t,l.set t (g t)=l)→qZ l ts g=l:=by
  intro ts
  induction ts with
  | nil=>intro l g _;rfl
  | cons t ts ih=>intro l g h;rw[agL,h t];exact ih l g h
 exact fun l=>key ts l _ fun t=>abr
section
variable {P:bz} {ds:List dl} {l:List ak}
theorem vB{c:Code}{Q:Exit→Act→am→Prop}{w:am}(ts ss:List Nat)(I:Nat→List ak→am→Prop)(h0:∃n,I n (ts.map (l.getD · undef)) w)
 (hr:∀n vs w,I n vs w→∀g:Nat→ak,c.wp P (Exit.then (fun a' w'=>∃n' l',n'<n∧a'=Fr l'∧qZ (fN l ts (ts.map (l'.getD · undef))) ss (l'.getD · undef)=l'∧I n' (ts.map (l'.getD · undef)) w') Q) (Fr (qZ (fN l ts vs) ss g)) w):(Code.loop c).wp P Q (Fr l) w:=by
 obtain⟨n0,h0⟩:=h0
 let J:Nat→Act→am→Prop:=fun n a w=>∃vs g,a=Fr (qZ (fN l ts vs) ss g)∧I n vs w
 have hJ0:∃n,J n (Fr l) w:=⟨n0,_,(l.getD · undef),by rw[Iz,agM],h0⟩
 let μ:Act→am→Nat:=fun a w=>@dite _ (∃n,J n a w) (Classical.propDecidable _) (fun h=>Qu (fun n=>J n a w) h) (fun _=>0)
 refine wp_loop (fun a w=>∃n,J n a w) μ hJ0 ?_;intro a w hI;obtain⟨vs,g,rfl,hIv⟩:=abt hI;refine Code.wp_mono ?_ (hr _ vs w hIv g);intro e a' w' hq;cases e with
 | normal =>
  obtain⟨n',l',hlt,rfl,he,hI'⟩:=hq;have hJ:J n' (Fr l') w':=⟨_,(l'.getD · undef),by rw[he],hI'⟩
  refine⟨⟨n',hJ⟩,?_⟩;have e1:μ (Fr l') w'=Qu (fun n=>J n (Fr l') w') ⟨n',hJ⟩:=by simp only[μ];rw[dif_pos ⟨n',hJ⟩]
  have e2:μ (Fr (qZ (fN l ts vs) ss g)) w=Qu (fun n=>J n (Fr (qZ (fN l ts vs) ss g)) w) hI:=by simp only[μ];rw[dif_pos hI]
  rw[e1,e2];exact ib (agJ _ hJ) hlt
 | exit id=>exact hq
 | goto id=>exact hq
 | ret=>exact hq
 | panic ch=>exact hq
 | outgrown=>exact hq
end
section
variable {P:bz} {ds:List dl} {l:List ak} {ops:Array Oper} {Q:Exit→Act→am→Prop} {w:am} {rest:List (Oper × Bool)} {d:Nat} {op:Op} {ty:ay} {pos:String} {after:Array Edge} {v:ak}
theorem Gp(hr:iO P l op ty v)(h:eF P ops Q rest (Fr (l.set d v) ds) w):eF P ops Q ((bp (some d) op ty pos after none,true)::rest) (Fr l ds) w:=by
 refine⟨v,.inl ⟨by simp[Region.wanted],fun w=>hr w _ O O⟩,?_⟩;show eF P ops Q rest ((Fr l ds).put (some d) v) w
 rw[gY];exact h
theorem asj(h:Q .normal (Fr l ds) w):eF P ops Q [] (Fr l ds) w:=h
theorem apQ{o:Oper}(h:au P ops (Exit.then (eF P ops Q rest) Q) [o] (Fr l ds) w):eF P ops Q ((o,false)::rest) (Fr l ds) w:=h
theorem cB{Q:Exit→Act→am→Prop}(h:∀c (t:Array ak) ds (t':Array ak) w,Q (.panic c) { tmps:=t,defers:=ds } w→Q (.panic c) { tmps:=t',defers:=ds } w):∀c d v a w,Q (.panic c) (Act.put a d v) w→Q (.panic c) a w:=by
 intro c d v a w hq;cases d with
 | none=>exact hq
 | some d=>exact h c _ _ _ w hq
end
end Go.Lith
namespace Go.Lith
variable{B x i n k a d cap c q:Nat}{xs ys os:List Nat}{m s:Int}{w:am}
/-! ### Digits -/
def val(B:Nat):List Nat→Nat
 | []=>0
 | x::xs=>x+B*val B xs
def trim:List Nat→List Nat
 | []=>[]
 | x::xs=>if trim xs=[]∧x=0 then [] else x::trim xs
def dV(B:Nat)(xs:List Nat):Prop:=∀x∈xs,x<B
theorem iR(B:Nat):∀xs ys:List Nat,val B (xs++ys)=val B xs+B^xs.length*val B ys
 | [],ys=>by simp[val]
 | x::xs,ys=>by simp only[cn,val,iR B xs ys,az,ix];grind
theorem lW{B:Nat}:∀{xs:List Nat},dV B xs→val B xs<B^xs.length
 | [],_=>by simp[val]
 | x::xs,h=>by
  have h1:x<B:=h x (by simp);have h2:=lW (xs:=xs) fun y hy=>h y (by simp[hy]);simp only[val,az,ix];have h3:val B xs+1≤B^xs.length:=h2;have:=fi B h3
  grind
theorem Cr(B:Nat):∀xs:List Nat,val B (trim xs)=val B xs
 | []=>rfl
 | x::xs=>by
  have ih:=Cr B xs;simp only[trim];split
  · rename_i h;rw[h.1] at ih;simp only[val] at ih ⊢;rw[←ih,h.2];simp
  · simp only[val,ih]
theorem mQ:∀xs:List Nat,trim xs=xs.take (trim xs).length
 | []=>rfl
 | x::xs=>by
  simp only[trim];split
  · rfl
  · simp only[az,List.take_succ_cons];rw[←mQ xs]
theorem dV.take(h:dV B xs)(n:Nat):dV B (xs.take n):=fun x hx=>h x (List.mem_of_mem_take hx)
theorem dV.drop(h:dV B xs)(n:Nat):dV B (xs.drop n):=fun x hx=>h x (pj hx)
theorem dV.trim{B:Nat}{xs:List Nat}(h:dV B xs):dV B (trim xs):=by rw[mQ];exact h.take _
theorem dV.append(h:dV B xs)(k:dV B ys):dV B (xs++ys):=fun x hx=>by
 rcases List.mem_append.1 hx with h' | h'
 · exact h x h'
 · exact k x h'
theorem abv(B:Nat):dV B []:=fun _ h=>by cases h
theorem agN(hx:x<B)(h:dV B xs):dV B (x::xs):=fun y hy=>by
 rcases ao.1 hy with rfl | h'
 · exact hx
 · exact h y h'
theorem dV.set(h:dV B xs)(hx:x<B):dV B (xs.set i x):=fun y hy=>by
 rcases List.mem_or_eq_of_mem_set hy with h' | rfl
 · exact h y h'
 · exact hx
theorem dV.get(h:dV B xs)(hi:xs[i]? = some x):x<B:=h x (List.mem_of_getElem? hi)
def jG(xs:List Nat):Prop:=trim xs=xs
theorem Wt:∀xs:List Nat,trim (trim xs)=trim xs
 | []=>rfl
 | x::xs=>by
  have ih:=Wt xs;simp only[trim];split
  · rfl
  · rename_i h;simp only[trim,ih];rw[if_neg h]
theorem Ja(xs:List Nat):jG (trim xs):=Wt xs
theorem jG.tail(h:jG (x::xs)):jG xs:=by
 unfold jG at *
 simp only[trim] at h;split at h
 · cases h
 · simpa using h
theorem Pg{B:Nat}(hB:0<B):∀{xs:List Nat},jG xs→xs≠[]→0<val B xs
 | [],_,h=>absurd rfl h
 | x::xs,ht,_=>by
  simp only[val];by_cases hx:xs=[]
  · subst hx
    have:x≠0:=by
     rintro rfl;simp[jG,trim] at ht
    omega
  · have:=Nat.mul_pos hB (Pg hB ht.tail hx)
    omega
theorem wW{B:Nat}(hB:1<B):∀{xs ys:List Nat},dV B xs→dV B ys→jG xs→jG ys→val B xs=val B ys→xs=ys
 | [],[],_,_,_,_,_=>rfl
 | [],y::ys,_,_,_,hy,h=>by have:=Pg (B:=B) (by omega) hy (by simp);rw[←h] at this;simp[val] at this
 | x::xs,[],_,_,hx,_,h=>by have:=Pg (B:=B) (by omega) hx (by simp);rw[h] at this;simp[val] at this
 | x::xs,y::ys,hx,hy,tx,ty,h=>by
  simp only[val] at h;have h1:x<B:=hx x (by simp);have h2:y<B:=hy y (by simp);have e1:x=y:=by
   have:=congrArg (· % B) h;simpa[Nat.add_mul_mod_self_left,lp h1,lp h2] using this
  subst e1;have e2:val B xs=val B ys:=by
   have:B*val B xs=B*val B ys:=by omega
   exact Nat.eq_of_mul_eq_mul_left (by omega) this
  rw[wW hB (fun z hz=>hx z (by simp[hz])) (fun z hz=>hy z (by simp[hz])) tx.tail ty.tail e2]
def Wu(B:Nat):Nat→Nat→List Nat
 | 0,_=>[]
 | f+1,n=>if n=0 then [] else (n%B)::Wu B f (n / B)
def digs(B n:Nat):List Nat:=Wu B n n
theorem Ae{B:Nat}(hB:1<B):∀(f n:Nat),n≤f→val B (Wu B f n)=n∧dV B (Wu B f n)∧jG (Wu B f n)
 | 0, n, h => by
  obtain rfl:n=0 := by omega
  exact⟨O,abv B,O⟩
 | f+1,n,h=>by
  simp only[Wu];split
  · rename_i h0;exact⟨by simp[val,h0],abv B,O⟩
  · rename_i h0
    have hlt:n / B≤f:=by
     have:=Nat.div_lt_self (Nat.pos_of_ne_zero h0) hB;omega
    obtain⟨h1,h2,h3⟩:=Ae hB f (n / B) hlt;refine⟨by simp only[val,h1];exact Nat.mod_add_div n B,agN (lc _ (by omega)) h2,?_⟩;unfold jG at *
    simp only[trim,h3];rw[if_neg];rintro⟨h4,h5⟩;rw[h4] at h1;simp only[val] at h1;have:=Nat.mod_add_div n B;rw[h5,←h1] at this;omega
theorem vV(hB:1<B)(n:Nat):val B (digs B n)=n:=(Ae hB n n (av _)).1
theorem yF(hB:1<B)(n:Nat):dV B (digs B n):=(Ae hB n n (av _)).2.1
theorem vC(hB:1<B)(n:Nat):jG (digs B n):=(Ae hB n n (av _)).2.2
theorem Af(hB:1<B)(h:dV B xs)(hv:val B xs=n):trim xs=digs B n :=
 wW hB h.trim (yF hB n) (Ja xs) (vC hB n) (by rw[Cr,vV hB,hv])
theorem wX(hB:1<B):digs B n=[]↔n=0:=by
 constructor
 · intro h;rw[←vV hB n,h];rfl
 · rintro rfl;rfl
theorem fF(hB:1<B)(h:n<B^k):(digs B n).length≤k:=by
 rcases dz k (digs B n).length with hlt | hge
 · exfalso
   have hne:(digs B n)≠[]:=by intro h';rw[h'] at hlt;simp at hlt
   -- the greatest digit is not 0
   have key:∀xs:List Nat,jG xs→xs≠[]→B^(xs.length-1)≤val B xs:=by
    intro xs
    induction xs with
    | nil=>intro _ h;exact absurd O h
    | cons x xs ih =>
     intro ht _;by_cases hx:xs=[]
     · subst hx
       have:=Pg (B:=B) (by omega) ht (by simp);simp[val] at this ⊢;omega
     · have:=ih ht.tail hx
       have h2:xs.length≠0:=by simpa using hx
       simp only[az,val,eh];have e:xs.length=(xs.length-1)+1:=by omega
       rw[e,ix];have:=fi B this
       grind
   have:=key _ (vC hB n) hne;rw[vV hB] at this;have h3:B^k≤B^((digs B n).length-1):=f_ (by omega) (by omega);omega
 · exact hge
/-! ### Numbers as values -/
def fM(n:Int):Bool:=decide (n<0)
def oD(n:Nat):List UInt8:=(digs 256 n).reverse.map oc
def kA(n:Int):ByteArray:=⟨(oD n.natAbs).toArray⟩
def W(n:Int):ak:=.agg #[.bool (fM n),.string (kA n)]
def Bd(k:Nat)(n:Int):Prop:=n.natAbs<2^k
theorem Bd.mono{b:Nat}{n:Int}(h:Bd a n)(hab:a≤b):Bd b n:=cw h (f_ (by omega) hab)
theorem Bd.neg{n:Int}(h:Bd a n):Bd a (-n):=by unfold Bd at *;rwa [Int.natAbs_neg]
theorem Bd.add{b:Nat}{n:Int}(h:Bd a m)(k:Bd b n):Bd (max a b+1) (m+n):=by
 unfold Bd at *
 have h1:(m+n).natAbs≤m.natAbs+n.natAbs:=Int.natAbs_add_le m n;have h2:2^a≤2^max a b:=f_ (by omega) (Nat.le_max_left a b);have h3:2^b≤2^max a b:=f_ (by omega) (Nat.le_max_right a b);rw[ix];omega
theorem Bd.sub{b:Nat}{n:Int}(h:Bd a m)(k:Bd b n):Bd (max a b+1) (m-n):=by rw[Int.sub_eq_add_neg];exact h.add k.neg
theorem Bd.mul{b:Nat}{n:Int}(h:Bd a m)(k:Bd b n):Bd (a+b) (m*n):=by
 unfold Bd at *
 rw[Int.natAbs_mul,mf];exact Nat.mul_lt_mul_of_lt_of_lt h k
theorem Bd.of_i64{n:Int}(h0 : -9223372036854775808≤n)(h1:n≤9223372036854775807):Bd 64 n:=by
 unfold Bd;omega
theorem Ph(k:Nat):Bd k 0:=by unfold Bd;exact Nat.two_pow_pos k
theorem Wv(n:Int):(kA n).size=(digs 256 n.natAbs).length:=by simp[kA,ByteArray.size,oD]
theorem Zm{n:Int}(h:Bd k n):(kA n).size≤k:=by
 rw[Wv];refine fF (by omega) (cw h ?_);rw[show 256=2^8 from rfl,←qu];exact f_ (by omega) (by omega)
theorem abw{m:Nat}(h:oD m=oD n):m=n:=by
 have key:∀k,val 256 (((oD k).map lk).reverse)=k:=by
  intro k;have e:((oD k).map lk).reverse=digs 256 k:=by
   unfold oD;rw[List.map_map,←List.map_reverse,List.reverse_reverse];have:∀x∈digs 256 k,(lk∘oc) x=x:=by
    intro x hx;have:=yF (B:=256) (by omega) k x hx;simp;omega
   exact (ji this).trans (List.map_id' _)
  rw[e,vV (by omega)]
 rw[←key m,←key n,h]
theorem ao5{n:Int}(h:W m=W n):m=n:=by
 simp only[W,Value.agg.injEq,Array.mk.injEq,l_,Value.bool.injEq,Value.string.injEq,and_true] at h;obtain⟨h1,h2⟩:=h;have h3:m.natAbs=n.natAbs:=by
  have:oD m.natAbs=oD n.natAbs:=by simpa[kA] using h2
  exact abw this
 unfold fM at h1;have:(m<0)↔(n<0):=by simpa using h1
 omega
structure dF(w:am)(A:Option Addr)(n cap:Nat)(xs:List Nat):Prop where
 eq:n=xs.length
 row:∀(i x:Nat),xs[i]? = some x→∃a,A=some a∧w.cell? (a.add i)=some (.int .u64 (x:Int))
 le:xs.length≤cap
 cap:cap≤9223372036854775807
 len:xs.length≤17592186044416
 digs:dV 4294967296 xs
section
variable {w:am} {A:Option Addr} {n cap:Nat} {xs:List Nat}
theorem dF.ext{w':am}(h:dF w A n cap xs)(hE:dY w w'):dF w' A n cap xs :=
 ⟨h.eq,fun i x hi=>let ⟨a,e,hc⟩:=h.row i x hi;⟨a,e,hE.cell hc⟩,h.le,h.cap,h.len,h.digs⟩
theorem dF.take(h:dF w A n cap xs)(k:Nat):dF w A (xs.take k).length cap (xs.take k) :=
 ⟨rfl,fun i x hi=>h.row i x (by rw[fq] at hi;split at hi;exact hi;cases hi),aw (by simp;omega) h.le,h.cap,aw (by simp;omega) h.len,h.digs.take k⟩
theorem dF.get(h:dF w A n cap xs){i:Nat}(hi:i<xs.length):∃a,A=some a∧w.cell? (a.add i)=some (.int .u64 ((xs[i]:Nat):Int))∧xs[i]<4294967296 :=
 let ⟨a,e,hc⟩:=h.row i xs[i] (ar hi);⟨a,e,hc,h.digs _ (fl hi)⟩
theorem dF.as(h:dF w A n cap xs){ys:List Nat}(e:xs=ys):dF w A n cap ys:=e▸h
end
theorem rA:∀ys:List Nat,trim (ys++[0])=trim ys
 | []=>by simp[trim]
 | y::ys=>by simp only[cn,trim,rA ys]
theorem tD{x:Nat}(hx:x≠0):∀ys:List Nat,trim (ys++[x])=ys++[x]
 | []=>by simp[trim,hx]
 | y::ys=>by simp only[cn,trim,tD hx ys];rw[if_neg (by simp)]
theorem Lk(hk:0<k)(h:k-1<xs.length):xs.take k=xs.take (k-1)++[xs[k-1]]:=by
 have e:k=(k-1)+1:=by omega
 conv=>lhs;rw[e]
 rw[List.take_succ_eq_append_getElem h]
theorem agO(hk:0<k)(h:k-1<xs.length)(h0:((xs[k-1]:Nat):Int)=0)(ht:trim (xs.take k)=trim xs):trim (xs.take (k-1))=trim xs:=by
 rw[←ht,Lk hk h,show xs[k-1]=0 by omega,rA]
theorem aiN(hk:0<k)(h:k-1<xs.length)(h0:¬((xs[k-1]:Nat):Int)=0)(ht:trim (xs.take k)=trim xs):k=(trim xs).length:=by
 rw[←ht,Lk hk h,tD (by omega)];simp;omega
theorem aiO(ht:trim (xs.take 0)=trim xs):0=(trim xs).length:=by rw[←ht];rfl
/-! ### Words in a block -/
abbrev mX(x:Nat):ak:=.int .u64 (x:Int)
theorem iD(hi:i<os.length):bQ (os.map mX) i [mX d]=(os.set i d).map mX:=by
 unfold bQ;rw[List.set_eq_take_append_cons_drop,if_pos hi];simp[List.map_take,List.map_drop]
theorem iP(n:Nat):cl n (Value.int .u64 0)=(cl n 0).map mX:=by simp[mX]
theorem fE.word{g:Nat}{t:ay}(h:fE w g (os.map mX) t)(hi:i<os.length):w.cell? ⟨g,i,none⟩=some (.int .u64 ((os[i]:Nat):Int)) :=
 h.cell (by simp[hi])
theorem fE.nat{g:Nat}{t:ay}(h:fE w g (os.map mX) t)(hd:dV 4294967296 os)(hn:n=os.length)(hl:n≤17592186044416):dF w (some ⟨g,0,none⟩) n n os :=
 ⟨hn,fun i x hi=>⟨_,rfl,by rw[gV,ap];exact h.cell (by simp[hi])⟩,by omega,by omega,by omega,hd⟩
def iX(n:Nat)(v:ak)(w:am):Prop:=∃A cap,v=.slice A (digs 4294967296 n).length cap∧dF w A (digs 4294967296 n).length cap (digs 4294967296 n)
theorem iX.of_trim{A:Option Addr}(h:dF w A k cap xs)(hv:val 4294967296 xs=n):iX n (.slice A (trim xs).length cap) w:=by
 have e:trim xs=digs 4294967296 n:=Af (by omega) h.digs hv;refine⟨A,cap,by rw[e],?_⟩;have h':=h.take (trim xs).length;rw[←mQ,e] at h';exact h'
def Jb(w:am)(v:ak):Prop:=∀a n c,v=.slice (some a) n c→w.heap.size≤a.block
theorem Jb.of_blk{g off:Nat}(h:w.heap.size≤g):Jb w (.slice (some ⟨g,off,none⟩) n c):=fun a n' c' e=>by cases e;exact h
theorem Fg(a:Addr)(i:Nat):(a.add i).block=a.block:=by unfold Addr.add;split <;> rfl
theorem Chg.cell{w':am}{g:Nat}(h:Chg w w' g){a:Addr}(hne:a.block≠g):w'.cell? a=w.cell? a:=by
 unfold World.cell?;rw[h.block _ hne]
theorem dF.chg{w':am}{g:Nat}{A:Option Addr}(h:dF w A n cap xs)(hC:Chg w w' g)(hne:∀a,A=some a→a.block≠g):dF w' A n cap xs :=
 ⟨h.eq,fun i x hi=>let ⟨a,e,hc⟩:=h.row i x hi;⟨a,e,by rw[hC.cell (by rw[Fg];exact hne a e)];exact hc⟩,h.le,h.cap,h.len,h.digs⟩
/-! ### Sums of digits -/
theorem pN{B:Nat}:∀{os:List Nat} {j d:Nat} (hj:j<os.length),val B (os.set j d)+B^j*os[j]=val B os+B^j*d
 | x::xs,0,d,_=>by simp[val];omega
 | x::xs,j+1,d,h=>by
  have ih:=pN (B:=B) (os:=xs) (j:=j) (d:=d) (by simpa using h);simp only[List.set_cons_succ,val,List.getElem_cons_succ,ix];have:=congrArg (B * ·) ih;simp only[jz] at this
  grind
theorem gZ(B n:Nat):val B (cl n 0)=0:=by
 induction n with
 | zero=>rfl
 | succ n ih=>simp[List.replicate_succ,val,ih]
theorem dS(hi:i<xs.length):val B (xs.take (i+1))=val B (xs.take i)+B^i*xs[i]:=by
 rw[List.take_succ_eq_append_getElem hi,iR,bx,dx (by omega)];simp[val]
theorem qH(hi:xs.length≤i):val B (xs.take i)=val B xs:=by rw[bf hi]
theorem nE   : (os.set i d).drop (i+1)=os.drop (i+1):=by
 apply gg;intro j;simp only[eb];rw[List.getElem?_set_ne (by omega)]
theorem kK(h:os.drop i=cl n 0)(hi:i<os.length):os[i]=0∧os.drop (i+1)=cl (n-1) 0:=by
 rw[el hi] at h;cases n with
 | zero=>cases h
 | succ n=>simp only[List.replicate_succ,l_] at h;exact⟨h.1,by simpa using h.2⟩
theorem abx{B:Nat}{os:List Nat}{i d c c' s t T:Nat}(hi:i<os.length)(hs:os[i]+s+c=d+B*c')(hT:val B os+B^i*c=T)(ht:T+B^i*s=t) :
 val B (os.set i d)+B^(i+1)*c'=t:=by
 have h1:=pN (B:=B) (d:=d) hi;have h2:=congrArg (B^i * ·) hs;simp only[jz] at h2;rw[ix]
 grind
/-! ### Order -/
def ord(a b:Nat):Int:=if a<b then -1 else if b<a then 1 else 0
theorem Vo(hB:1<B)(hx:dV B xs)(hlx:k<xs.length)(hly:k<ys.length)(hd:xs.drop (k+1)=ys.drop (k+1))(h:xs[k]<ys[k]):val B xs<val B ys:=by
 have e1:val B xs=val B (xs.take (k+1))+B^(k+1)*val B (xs.drop (k+1)):=by
  conv=>lhs;rw[←jm (k+1) xs]
  rw[iR,bx,dx (by omega)]
 have e2:val B ys=val B (ys.take (k+1))+B^(k+1)*val B (ys.drop (k+1)):=by
  conv=>lhs;rw[←jm (k+1) ys]
  rw[iR,bx,dx (by omega)]
 rw[e1,e2,hd,dS hlx,dS hly];have h1:=lW (hx.take k);rw[bx,dx (by omega)] at h1;have h2:B^k*(xs[k]+1)≤B^k*ys[k]:=fi _ h;rw[jz] at h2;omega
theorem sH(hB:1<B)(hx:dV B xs)(hy:dV B ys)(ty:jG ys)(h:xs.length<ys.length):val B xs<val B ys:=by
 rcases dz (val B xs) (val B ys) with hlt | hge
 · exact hlt
 · exfalso
   have e:ys=digs B (val B ys):=wW hB hy (yF hB _) ty (vC hB _) (by rw[vV hB]);have h1:val B ys<B^xs.length:=ib hge (lW hx);have h2:=fF hB h1;rw[←e] at h2;omega
/-! ### The machine's numbers -/
theorem iQ(x:Int):IntKind.u64.wrap x=x%18446744073709551616:=by simp[oh,nf,mr]
theorem tR(h0:0≤s)(h1:s<18446744073709551616):IntKind.u64.wrap ((dw IntKind.u64.bits s &&& dw IntKind.u64.bits 4294967295).toNat:Int)=s%4294967296:=by
 obtain⟨n,rfl⟩:=Int.eq_ofNat_of_zero_le h0;have hn:n<18446744073709551616:=by omega
 have e:(dw 64 (n:Int) &&& dw 64 4294967295).toNat=n%4294967296:=by
  rw[BitVec.toNat_and];have e1:(dw 64 (n:Int)).toNat=n:=by simp[kh];omega
  have e2:(dw 64 4294967295).toNat=2^32-1:=by decide
  rw[e1,e2,Nat.and_two_pow_sub_one_eq_mod]
 show IntKind.u64.wrap ((dw 64 (n:Int) &&& dw 64 4294967295).toNat:Int)=_
 rw[e,kQ (by omega) (by omega)];omega
theorem Ww(h0:0≤s):s.fdiv (2^(min (32:Int).toNat IntKind.u64.bits))=s / 4294967296:=by
 show s.fdiv (2^32)=_
 rw[io _ (by decide)];rfl
theorem ao6(h0:0≤s):s.fdiv (2^(min (63:Int).toNat IntKind.u64.bits))=s / 9223372036854775808:=by
 show s.fdiv (2^63)=_
 rw[io _ (by decide)];rfl
/-! ### Addresses of words -/
theorem rB{a:Addr}(h:m.toNat=q):a.add (m.toNat*1)=a.add q:=by rw[h,pw]
theorem bX{a:Addr}(h:m.toNat=q):a.add (m.toNat*c)=a.add (q*c):=by rw[h]
theorem iL{g:Nat}(h:m.toNat=q):(⟨g,0,none⟩:Addr).add (m.toNat*1)=⟨g,q,none⟩:=by rw[h,pw,gV,ap]
theorem mR{g:Nat}(h:m.toNat=q):(⟨g,0,none⟩:Addr).add (m.toNat*c)=⟨g,q*c,none⟩:=by rw[h,gV,ap]
theorem dF.at{a:Addr}(h:dF w (some a) n cap xs)(hi:i<xs.length):w.cell? (a.add i)=some (.int .u64 ((xs[i]:Nat):Int)):=by
 obtain⟨a',e,hc⟩:=h.row i xs[i] (ar hi);cases e;exact hc
/-! ### Rounds -/
theorem aiQ(hx:dV 4294967296 xs)(hk:0<k)(hlx:k-1<xs.length)(hly:k-1<ys.length)(hd:xs.drop k=ys.drop k)(h:((xs[k-1]:Nat):Int)<((ys[k-1]:Nat):Int)):val 4294967296 xs<val 4294967296 ys :=
 Vo (by omega) hx hlx hly (by rw[show k-1+1=k by omega];exact hd) (by omega)
theorem agP(hk:0<k)(hlx:k-1<xs.length)(hly:k-1<ys.length)(hd:xs.drop k=ys.drop k)(h1:¬((xs[k-1]:Nat):Int)<((ys[k-1]:Nat):Int))(h2:¬((ys[k-1]:Nat):Int)<((xs[k-1]:Nat):Int)):xs.drop (k-1)=ys.drop (k-1):=by
 rw[el hlx,el hly,show k-1+1=k by omega,hd,show xs[k-1]=ys[k-1] by omega]
theorem Fh{os xs ys:List Nat}{i c s:Nat}(hi:i<xs.length)(hlo:os.length=xs.length+1)(hv:val 4294967296 os+4294967296^i*c=val 4294967296 (xs.take i)+val 4294967296 (ys.take i))(hz:os.drop i=cl (xs.length+1-i) 0)(hd:dV 4294967296 os)(hc:c≤1)
 (hs:s=xs[i]+c+ys[i]?.getD 0) (hx:xs[i]<4294967296) (hy:ys[i]?.getD 0<4294967296) :
 val 4294967296 (os.set i (s%4294967296))+4294967296^(i+1)*(s / 4294967296)=val 4294967296 (xs.take (i+1))+val 4294967296 (ys.take (i+1))∧(os.set i (s%4294967296)).drop (i+1)=cl (xs.length+1-(i+1)) 0∧dV 4294967296 (os.set i (s%4294967296))∧s / 4294967296≤1:=by
 obtain⟨z1,z2⟩:=kK hz (by omega);refine⟨?_,?_,hd.set (lc _ (by omega)),by omega⟩
 · refine abx (s:=xs[i]+ys[i]?.getD 0) (by omega) (by rw[z1];omega) hv ?_
   rw[dS hi];by_cases hy':i<ys.length
   · rw[dS hy',ar hy']
     simp only[de,jz];omega
   · rw[fm (by omega),qH (xs:=ys) (i:=i+1) (by omega),qH (xs:=ys) (i:=i) (by omega)]
     simp;omega
 · rw[nE,z2]
   congr 1
theorem Pi{os xs ys:List Nat}{c:Nat}(hle:ys.length≤xs.length)(hlo:os.length=xs.length+1)(hv:val 4294967296 os+4294967296^xs.length*c=val 4294967296 (xs.take xs.length)+val 4294967296 (ys.take xs.length))(hz:os.drop xs.length=cl (xs.length+1-xs.length) 0) :
 val 4294967296 (os.set xs.length c)=val 4294967296 xs+val 4294967296 ys:=by
 obtain⟨z1,_⟩:=kK hz (by omega);have h:=pN (B:=4294967296) (d:=c) (show xs.length<os.length by omega);rw[z1] at h;rw[fa,qH hle] at hv;omega
theorem Wx{os xs ys:List Nat}{i c s:Nat}(hi:i<xs.length)(hlo:os.length=xs.length)(hv:val 4294967296 os+val 4294967296 (ys.take i)=val 4294967296 (xs.take i)+4294967296^i*c)(hz:os.drop i=cl (xs.length-i) 0)(hd:dV 4294967296 os)(hc:c≤1)
 (hs:(s:Int)=((xs[i]:Nat)-(c:Nat)-(ys[i]?.getD 0:Nat):Int)%18446744073709551616) (hx:xs[i]<4294967296) (hy:ys[i]?.getD 0<4294967296) :
 val 4294967296 (os.set i (s%4294967296))+val 4294967296 (ys.take (i+1))=val 4294967296 (xs.take (i+1))+4294967296^(i+1)*(s / 9223372036854775808)∧(os.set i (s%4294967296)).drop (i+1)=cl (xs.length-(i+1)) 0∧dV 4294967296 (os.set i (s%4294967296))∧s / 9223372036854775808≤1:=by
 obtain⟨z1,z2⟩:=kK hz (by omega);have key:xs[i]+4294967296*(s / 9223372036854775808)=s%4294967296+c+ys[i]?.getD 0:=by omega
 refine⟨?_,?_,hd.set (lc _ (by omega)),by omega⟩
 · have h1:=pN (B:=4294967296) (d:=s%4294967296) (show i<os.length by omega)
   rw[z1] at h1;have h2:=congrArg (4294967296^i * ·) key;simp only[jz] at h2;rw[dS hi,ix];have h3:val 4294967296 (ys.take (i+1))=val 4294967296 (ys.take i)+4294967296^i*ys[i]?.getD 0:=by
    by_cases hy':i<ys.length
    · rw[dS hy',ar hy'];rfl
    · rw[fm (by omega),qH (xs:=ys) (i:=i+1) (by omega),qH (xs:=ys) (i:=i) (by omega)];rfl
   rw[h3]
   grind
 · rw[nE,z2]
   congr 1
theorem amP{os xs ys:List Nat}{c:Nat}(hle:ys.length≤xs.length)(hlo:os.length=xs.length)(hd:dV 4294967296 os)(hv:val 4294967296 os+val 4294967296 (ys.take xs.length)=val 4294967296 (xs.take xs.length)+4294967296^xs.length*c)(hge:val 4294967296 ys≤val 4294967296 xs) :
 val 4294967296 os=val 4294967296 xs-val 4294967296 ys:=by
 rw[fa,qH hle] at hv;have h:=lW hd;rw[hlo] at h;have hc:c=0:=by
  rcases ff c with h0 | h0
  · exact h0
  · have:=fi (4294967296^xs.length) h0
    omega
 subst hc;omega
theorem agQ{os xs ys:List Nat}{i k c s:Nat}(hi:i<xs.length)(hk:k<ys.length)(hlo:os.length=xs.length+ys.length)(hv:val 4294967296 os+4294967296^(i+k)*c=val 4294967296 (xs.take i)*val 4294967296 ys+4294967296^i*(xs[i]*val 4294967296 (ys.take k)))
 (hs:s=os[i+k]+xs[i]*ys[k]+c):val 4294967296 (os.set (i+k) (s%4294967296))+4294967296^(i+(k+1))*(s / 4294967296)=val 4294967296 (xs.take i)*val 4294967296 ys+4294967296^i*(xs[i]*val 4294967296 (ys.take (k+1))):=by
 refine abx (s:=xs[i]*ys[k]) (i:=i+k) (by omega) (by omega) hv ?_;rw[dS hk,mf]
 grind
theorem wY{j:Nat}(h:i<j):(os.set i d).drop j=os.drop j:=by
 apply gg;intro m;simp only[eb];rw[List.getElem?_set_ne (by omega)]
theorem amQ{os xs ys:List Nat}{i c:Nat}(hi:i<xs.length)(hlo:os.length=xs.length+ys.length)(hv:val 4294967296 os+4294967296^(i+ys.length)*c=val 4294967296 (xs.take i)*val 4294967296 ys+4294967296^i*(xs[i]*val 4294967296 (ys.take ys.length)))(hz:os.drop (i+ys.length)=cl (xs.length-i) 0) :
 val 4294967296 (os.set (i+ys.length) c)=val 4294967296 (xs.take (i+1))*val 4294967296 ys∧(os.set (i+ys.length) c).drop (i+1+ys.length)=cl (xs.length-(i+1)) 0:=by
 obtain⟨z1,z2⟩:=kK hz (by omega);have h:=pN (B:=4294967296) (d:=c) (show i+ys.length<os.length by omega);rw[z1] at h;rw[fa] at hv;refine⟨?_,?_⟩
 · rw[dS hi]
   grind
 · rw[show i+1+ys.length=i+ys.length+1 by omega,nE,z2]
   congr 1
theorem aiR{y:Nat}(hx:x<4294967296)(hy:y<4294967296):x*y≤18446744065119617025:=by
 have:=jo (Nat.le_sub_one_of_lt hx) (Nat.le_sub_one_of_lt hy);omega
theorem amR{y:Nat}(hx:x<4294967296)(hy:y<4294967296):(0:Int)≤(x:Int)*(y:Int)∧(x:Int)*(y:Int)≤18446744065119617025:=by
 have h:=aiR hx hy;have e:((x*y:Nat):Int)=(x:Int)*(y:Int):=nj x y;rw[←e];omega
/-! ### Shifts,divisions by a word -/
theorem Ag{m:Nat}(hn:n<64)(h:m*2^n<18446744073709551616):IntKind.u64.wrap ((m:Int)*2^(min (n:Int).toNat IntKind.u64.bits))=((m*2^n:Nat):Int):=by
 have e:min (n:Int).toNat IntKind.u64.bits=n:=by
  show min (n:Int).toNat 64=n
  rw[ai];omega
 rw[e];have e2:((m:Int)*2^n)=((m*2^n:Nat):Int):=by simp
 rw[e2];exact kQ (by omega) (by omega)
theorem amS{m:Nat}(hn:n<64):(m:Int).fdiv (2^(min (n:Int).toNat IntKind.u64.bits))=((m / 2^n:Nat):Int):=by
 have e:min (n:Int).toNat IntKind.u64.bits=n:=by
  show min (n:Int).toNat 64=n
  rw[ai];omega
 rw[e,io _ (by exact Int.le_of_lt (Int.pow_pos (by decide)))];simp
theorem Zn{b s:Nat}(ha:a<2^s)(hb:b=2^s*c)(h:a+b<18446744073709551616):IntKind.u64.wrap ((dw IntKind.u64.bits (a:Int) ||| dw IntKind.u64.bits (b:Int)).toNat:Int)=((a+b:Nat):Int):=by
 have e:(dw 64 (a:Int) ||| dw 64 (b:Int)).toNat=a+b:=by
  rw[BitVec.toNat_or];have e1:(dw 64 (a:Int)).toNat=a:=by simp[kh];omega
  have e2:(dw 64 (b:Int)).toNat=b:=by simp[kh];omega
  rw[e1,e2,Nat.or_comm,hb,←Nat.two_pow_add_eq_or_of_lt ha];omega
 show IntKind.u64.wrap ((dw 64 (a:Int) ||| dw 64 (b:Int)).toNat:Int)=_
 rw[e];exact kQ (by omega) (by omega)
theorem Pk{b s:Nat}(ha:a<2^s)(hb:b=2^s*c)(h:a+b<18446744073709551616):IntKind.u64.wrap ((dw IntKind.u64.bits (b:Int) ||| dw IntKind.u64.bits (a:Int)).toNat:Int)=((a+b:Nat):Int):=by
 have:=Zn ha hb h;rwa [BitVec.or_comm] at this
theorem Pm{s:Nat}(h:s<18446744073709551616):IntKind.u64.wrap ((dw IntKind.u64.bits (s:Int) &&& dw IntKind.u64.bits 4294967295).toNat:Int)=((s%4294967296:Nat):Int):=by
 rw[tR (by omega) (by omega)];omega
theorem afh{m:Nat}(h:m<18446744073709551616):IntKind.u64.wrap ((m:Int).tdiv (n:Int))=((m / n:Nat):Int):=by
 rw[←Int.ofNat_tdiv];have:m / n≤m:=lf m n;generalize m / n=q at *
 exact kQ (by omega) (by omega)
theorem Zo{m:Nat}:(m:Int).tmod (n:Int)=((m%n:Nat):Int):=(Int.ofNat_tmod m n).symm
theorem tE(hk:0<k)(h:k-1<xs.length):val B (xs.drop (k-1))=xs[k-1]+B*val B (xs.drop k):=by
 rw[el h,show k-1+1=k by omega];rfl
theorem aby{os xs:List Nat}{k d r:Nat}(hk:0<k)(hkl:k≤xs.length)(hlo:os.length=xs.length)(hv:val 4294967296 (xs.drop k)=d*val 4294967296 (os.drop k)+r)(hr:r<d)(hdg:dV 4294967296 os)(hx:xs[k-1]<4294967296) :
 val 4294967296 (xs.drop (k-1))=d*val 4294967296 ((os.set (k-1) ((xs[k-1]+r*4294967296) / d)).drop (k-1))+(xs[k-1]+r*4294967296)%d∧dV 4294967296 (os.set (k-1) ((xs[k-1]+r*4294967296) / d))∧(xs[k-1]+r*4294967296)%d<d:=by
 refine⟨?_,hdg.set ?_,lc _ (by omega)⟩
 · have e1:=tE (B:=4294967296) hk (show k-1<xs.length by omega)
   have e2:=tE (B:=4294967296) (xs:=os.set (k-1) ((xs[k-1]+r*4294967296) / d)) hk (by simp;omega);have e3:(os.set (k-1) ((xs[k-1]+r*4294967296) / d)).drop k=os.drop k:=wY (by omega);rw[e1,e2,e3,ly,hv];have:=np (xs[k-1]+r*4294967296) d
   grind
 · have:(xs[k-1]+r*4294967296) / d<4294967296:=by
    rw[jn (by omega)];have:(r+1)*4294967296≤d*4294967296:=gr _ hr;omega
   exact this
theorem Qv{r:Nat}(h0:0<d)(hr:r<d)(h:a=d*q+r):q=a / d∧r=a%d:=by
 subst h;constructor
 · rw[Nat.mul_add_div h0,Nat.div_eq_of_lt hr,nc]
 · rw[Nat.mul_add_mod,lp hr]
end Go.Lith
namespace Go.Lith
open Go.RowKit
section
variable {P:bz} {ds:List dl} {l:List ak} {x y z0:cd} {T T' ty:ay}
theorem Jc{A:Option Addr}{n c:Nat}{E:ay}(hu:P.underlying T=some (.slice E))(hx:ev l x=.slice A n c)(hy:ev l y=.slice none 0 0):iO P l (.binOp .eql T x y T') ty (.bool A.isNone):=fun w o ho _=>by
 obtain⟨D,hD⟩:∃D,Op.maxDepth=D+1:=⟨9999,rfl⟩
 cases A <;> simp[da,ho,bW,hx,hy,eqGuard,binOp,Op.equal,hD,Op.equalIn,cj hu]
variable {ops:Array Oper} {Q:Exit→Act→am→Prop} {rest:List Oper} {d:Nat} {pos:String} {after:Array Edge} {w:am}
theorem amT{op:Op}{v:ak}{w':am}(hr:∀o:Oper,o.op=op→(da (Fr l).eval o).run P w=.ok (.value v) w')(h:au P ops Q rest (Fr l ds) w'):au P ops Q (bp none op ty pos after none::rest) (Fr l ds) w:=by
 refine wpList_plain O fun K hK=>?_;unfold mc;rw[iZ,hr _ rfl];exact hK _ _ h
theorem Zp:rc (fun (_:Nat)=>(default:ak)) (px 0) = #[]:=Array.eq_empty_of_size_eq_zero (by simp)
theorem Zq(z v:ak):(rc (fun x=>[z][x%1]?.getD default) (px 1)).setIfInBounds 0 v = #[v]:=by
 apply rd (by simp);intro i h1 h2;obtain rfl:i=0:=by simpa using h2
 simp
theorem Jd(z v v2:ak):((rc (fun x=>[z][x%1]?.getD default) (px 2)).setIfInBounds 0 v).setIfInBounds 1 v2 = #[v,v2]:=by
 apply rd (by simp);intro i h1 h2;have h3:i<2:=by simpa using h2
 rcases dz i 1 with h | h
 · obtain rfl:i=0:=by omega
   simp
 · obtain rfl:i=1:=by omega
   simp
theorem Je{E:ay}{c:Nat}(hu:P.underlying T=some (.slice E))(hi:(P.info? E).map (fun i=>i.size)=some c)
 (h:∀w' g,dY w w'→w.heap.size≤g→fE w' g [] E→au P ops Q rest (Fr (l.set d (.slice (some ⟨g,0,none⟩) 0 0)) ds) w') :
 au P ops Q (bp (some d) (.buildSlice T 0 #[]) ty pos after none::rest) (Fr l ds) w:=by
 cases hq:P.info? E with
 | none=>rw[hq] at hi;cases hi
 | some i =>
  exact lU (w':=w.alloc (.cells #[] E)) (v:=.slice (some ⟨w.heap.size,0,none⟩) 0 0) (fun o ho _=>by simp[da,ho,Instr.buildSlice,cj hu,sizeOf,typeInfo,hq,Instr.fill,newRow,newObj,Sem.run,Zp]) (h _ _ ((dY.refl w).alloc _) (av _) (jP w [] E))
theorem Jf{E:ay}{z:ak}(hu:P.underlying T=some (.slice E))(hi:(P.info? E).map (fun i=>(i.size,i.zero))=some (1,some z))(hz:z.cells = #[z]){v:ak}(hx:ev l x=v)(hv:v.cells = #[v])
 (h:∀w' g,dY w w'→w.heap.size≤g→fE w' g [v] E→au P ops Q rest (Fr (l.set d (.slice (some ⟨g,0,none⟩) 1 1)) ds) w') :
 au P ops Q (bp (some d) (.buildSlice T 1 #[(0,x)]) ty pos after none::rest) (Fr l ds) w:=by
 cases hq:P.info? E with
 | none=>rw[hq] at hi;cases hi
 | some i =>
  rw[hq] at hi;simp only[ew,fw,fc] at hi;obtain⟨e1,e2⟩:=hi;exact lU (w':=w.alloc (.cells #[v] E)) (v:=.slice (some ⟨w.heap.size,0,none⟩) 1 1) (fun o ho _=>by simp[da,ho,Instr.buildSlice,cj hu,sizeOf,typeInfo,zeroValue,hq,e1,e2,hz,bW,hx,hv,Instr.fill,newRow,newObj,Sem.run,Zq]) (h _ _ ((dY.refl w).alloc _) (av _) (jP w [v] E))
theorem abz{E:ay}{z:ak}(hu:P.underlying T=some (.slice E))(hi:(P.info? E).map (fun i=>(i.size,i.zero))=some (1,some z))(hz:z.cells = #[z]){v v2:ak}(hx:ev l x=v)(hv:v.cells = #[v])(hy:ev l y=v2)(hv2:v2.cells = #[v2])
 (h:∀w' g,dY w w'→w.heap.size≤g→fE w' g [v,v2] E→au P ops Q rest (Fr (l.set d (.slice (some ⟨g,0,none⟩) 2 2)) ds) w') :
 au P ops Q (bp (some d) (.buildSlice T 2 #[(0,x),(1,y)]) ty pos after none::rest) (Fr l ds) w:=by
 cases hq:P.info? E with
 | none=>rw[hq] at hi;cases hi
 | some i =>
  rw[hq] at hi;simp only[ew,fw,fc] at hi;obtain⟨e1,e2⟩:=hi;exact lU (w':=w.alloc (.cells #[v,v2] E)) (v:=.slice (some ⟨w.heap.size,0,none⟩) 2 2) (fun o ho _=>by simp[da,ho,Instr.buildSlice,cj hu,sizeOf,typeInfo,zeroValue,hq,e1,e2,hz,bW,hx,hv,hy,hv2,Instr.fill,newRow,newObj,Sem.run,Jd]) (h _ _ ((dY.refl w).alloc _) (av _) (jP w [v,v2] E))
theorem Oz.build0{base g:Nat}{E:ay}{c:Nat}(hB:fE w g [] E)(hb:base≤g):Oz w base E c (.slice (some ⟨g,0,none⟩) 0 0) 0 []:=by
 refine⟨(Nat.zero_mul c).symm,.inr ⟨g,0,#[],O,hb,hB,av _,by decide,by simp,by simp⟩⟩
theorem amU{E:ay}{z:ak}{g o n cap:Nat}{cs:List ak}{t:ay}{a0:Array ay}(ha:a0 = #[T])(hu:P.underlying T=some (.slice E))(hi:(P.info? E).map (fun i=>(i.size,i.zero))=some (1,some z))(hz:z.cells = #[z])(hx:ev l x=.slice (some ⟨g,o,none⟩) n cap)(hn:0<n)(hB:fE w g cs t)(hfit:o+n≤cs.length)(h1:z.oneCell'=true)
 (h:∀w',Chg w w' g→fE w' g (bQ cs o (cl n z)) t→au P ops Q rest (Fr l ds) w') :
 au P ops Q (bp none (.call { callee:=.builtin .clear,args:=#[x],argTypes:=a0 }) ty pos after none::rest) (Fr l ds) w:=by
 subst ha;cases hq:P.info? E with
 | none=>rw[hq] at hi;cases hi
 | some i =>
  rw[hq] at hi;simp only[ew,fw,fc] at hi;obtain⟨e1,e2⟩:=hi;have hzc:(Builtin.zeroCells z.cells n).toList=cl n z:=by
   rw[hz];apply List.ext_getElem
   · simp[Builtin.zeroCells]
   · intro j h1 h2
     simp[Builtin.zeroCells,Nat.mod_one]
  have hst:=run_storeCells_at P g o t (cl n z) 0 cs.toArray w hB (by simpa using hfit) (fun u hu=>by rw[fp hu];exact h1);simp only[nc,ec] at hst;obtain⟨n,rfl⟩:∃m,n=m+1:=⟨n-1,by omega⟩
  refine amT (v:=.tuple #[]) (w':=w.setRow g (bQ cs o (cl (n+1) z)).toArray) (fun o' ho=>?_) (h _ (Ac w g _) (setRow_heap w g cs.toArray _ t _ hB));simp[da,ho,resolve,invoke,builtin,bW,hx,Builtin.clear_,cj hu,zeroValue,typeInfo,hq,e2,hzc,hst,bQ]
theorem aiS{cs:List ak}{off:Nat}:bQ cs off []=cs:=by simp[bQ]
end
end Go.Lith
namespace Go.Lith
variable{m x n cap:Nat}{w:am}{xs:List Nat}
theorem Zr  : (m:Int).fdiv (2^(min (32:Int).toNat IntKind.u64.bits))=((m / 4294967296:Nat):Int):=by
 rw[Ww (by omega)];omega
theorem apR  : (m:Int).fdiv (2^(min (31:Int).toNat IntKind.u64.bits))=((m / 2147483648:Nat):Int):=by
 show (m:Int).fdiv (2^31)=_
 rw[io _ (by decide)];omega
theorem Pn(hn:n≤32):x*2^n%4294967296=2^n*(x%2^(32-n)):=by
 have e:(4294967296:Nat)=2^n*2^(32-n):=by rw[←mf,show n+(32-n)=32 by omega]
 rw[iy,e,Nat.mul_mod_mul_left]
theorem yG(hn:n≤32):(4294967296:Nat)=2^n*2^(32-n):=by rw[←mf,show n+(32-n)=32 by omega]
theorem ads(hn:n≤32)(hx:x<4294967296):x*2^n<18446744073709551616:=by
 have h1:2^n≤2^32:=f_ (by omega) hn;have h2:x*2^n≤x*2^32:=fi _ h1;omega
theorem Po{a:Nat}(hn:n≤32)(ha:a<2^n):a+x*2^n%4294967296<4294967296:=by
 rw[Pn hn];have h1:x%2^(32-n)<2^(32-n):=lc _ (j_ (by omega));have h2:2^n*(x%2^(32-n)+1)≤2^n*2^(32-n):=fi _ h1;rw[←yG hn,jz] at h2;omega
theorem amV(hx:x<4294967296):x*2^n / 4294967296<2^n:=by
 rw[jn (by omega),iy (2^n)];exact Nat.mul_lt_mul_of_pos_right hx (j_ (by omega))
theorem abA{os xs:List Nat}{i n:Nat}(hn:n≤31)(hi:i<xs.length)(hlo:os.length=xs.length+1)(hv:val 4294967296 os=2^n*val 4294967296 (xs.take i))(hz:os.drop (i+1)=cl (xs.length-i) 0)(hd:dV 4294967296 os)(h1:i<os.length)(hc:os[i]<2^n)(hx:xs[i]<4294967296) :
 val 4294967296 ((os.set i (os[i]+xs[i]*2^n%4294967296)).set (i+1) (xs[i]*2^n / 4294967296))=2^n*val 4294967296 (xs.take (i+1))∧((os.set i (os[i]+xs[i]*2^n%4294967296)).set (i+1) (xs[i]*2^n / 4294967296)).drop (i+1+1)=cl (xs.length-(i+1)) 0∧dV 4294967296 ((os.set i (os[i]+xs[i]*2^n%4294967296)).set (i+1) (xs[i]*2^n / 4294967296))∧(∀h:i+1<((os.set i (os[i]+xs[i]*2^n%4294967296)).set (i+1) (xs[i]*2^n / 4294967296)).length,((os.set i (os[i]+xs[i]*2^n%4294967296)).set (i+1) (xs[i]*2^n / 4294967296))[i+1]<2^n):=by
 obtain⟨z1,z2⟩:=kK hz (by omega);have ht:=amV (n:=n) hx;have hf:=Po (x:=xs[i]) (by omega) hc;have hp:2^n≤2^32:=f_ (by omega) (by omega);refine⟨?_,?_,(hd.set hf).set (by omega),?_⟩
 · have e1:=pN (B:=4294967296) (d:=os[i]+xs[i]*2^n%4294967296) h1
   have e2:=pN (B:=4294967296) (os:=os.set i (os[i]+xs[i]*2^n%4294967296)) (d:=xs[i]*2^n / 4294967296) (show i+1<_ by simp;omega);rw[mo (by omega),z1] at e2;rw[dS hi];have e3:=np (xs[i]*2^n) 4294967296;generalize xs[i]*2^n / 4294967296=t at *
   generalize hg:xs[i]*2^n%4294967296=r at *
   rw[ix] at e2;have e4:=congrArg (4294967296^i * ·) e3;simp only[jz] at e4 e1
   grind
 · rw[nE,wY (by omega),z2]
   congr 1
 · intro h
   rw[ly];exact ht
theorem aiT(hn:n≤32)(hx:x<4294967296):x / 2^n<2^(32-n):=by
 rw[jn (j_ (by omega)),iy,←yG hn];exact hx
theorem Vp{os xs:List Nat}{n:Nat}(hn:n≤32)(hi:0<xs.length)(hlo:os.length=xs.length)(hv:val 4294967296 os=val 4294967296 (xs.take 0) / 2^n)(hz:os.drop 0=cl (xs.length-0) 0)(hd:dV 4294967296 os)(hx:xs[0]<4294967296) :
 val 4294967296 (os.set 0 (xs[0] / 2^n))=val 4294967296 (xs.take (0+1)) / 2^n∧(os.set 0 (xs[0] / 2^n)).drop (0+1)=cl (xs.length-(0+1)) 0∧dV 4294967296 (os.set 0 (xs[0] / 2^n)):=by
 obtain⟨z1,z2⟩:=kK hz (by omega);refine⟨?_,?_,hd.set (ib (lf _ _) hx)⟩
 · have e1:=pN (B:=4294967296) (d:=xs[0] / 2^n) (show 0<os.length by omega)
   rw[z1] at e1;rw[dS hi];simp only[List.take_zero,val,Nat.pow_zero,ka,ap] at hv e1 ⊢;rw[Nat.zero_div] at hv;omega
 · rw[nE,z2]
   congr 1
theorem Vq{V i:Nat}(hV:V<4294967296^(i+1))(hn:n≤32):(V+4294967296^(i+1)*x) / 2^n=V / 2^n+4294967296^i*(2^(32-n)*x):=by
 have e:4294967296^(i+1)*x=2^n*(4294967296^i*(2^(32-n)*x)):=by
  rw[ix];have:=yG hn;generalize 2^n=p at *
  generalize 2^(32-n)=q at *
  rw[this]
  grind
 rw[e,Nat.add_mul_div_left _ _ (j_ (by omega))]
theorem Vr{os xs:List Nat}{j n:Nat}(hn:n≤32)(hi:j+1<xs.length)(hlo:os.length=xs.length)(hv:val 4294967296 os=val 4294967296 (xs.take (j+1)) / 2^n)(hz:os.drop (j+1)=cl (xs.length-(j+1)) 0)(hd:dV 4294967296 os)(hdx:dV 4294967296 xs)(h1:j<os.length)(hc:os[j]<2^(32-n)) :
 val 4294967296 ((os.set (j+1) (xs[j+1] / 2^n)).set j (os[j]+xs[j+1]*2^(32-n)%4294967296))=val 4294967296 (xs.take (j+1+1)) / 2^n∧((os.set (j+1) (xs[j+1] / 2^n)).set j (os[j]+xs[j+1]*2^(32-n)%4294967296)).drop (j+1+1)=cl (xs.length-(j+1+1)) 0∧dV 4294967296 ((os.set (j+1) (xs[j+1] / 2^n)).set j (os[j]+xs[j+1]*2^(32-n)%4294967296)):=by
 obtain⟨z1,z2⟩:=kK hz (by omega);have hx:xs[j+1]<4294967296:=hdx _ (fl hi);have hf:=Po (x:=xs[j+1]) (n:=32-n) (by omega) hc;refine⟨?_,?_,(hd.set (ib (lf _ _) hx)).set hf⟩
 · have e1:=pN (B:=4294967296) (d:=xs[j+1] / 2^n) (show j+1<os.length by omega)
   have e2:=pN (B:=4294967296) (os:=os.set (j+1) (xs[j+1] / 2^n)) (j:=j) (d:=os[j]+xs[j+1]*2^(32-n)%4294967296) (by simp;omega);rw[mo (by omega)] at e2;rw[z1] at e1;have hV:=lW (hdx.take (j+1));rw[bx,dx (by omega)] at hV;rw[dS hi,Vq hV hn,←hv];have e3:2^(32-n)*xs[j+1]=4294967296*(xs[j+1] / 2^n)+xs[j+1]*2^(32-n)%4294967296:=by
    rw[Pn (by omega),show 32-(32-n)=n by omega];have h3:=np xs[j+1] (2^n);have:=yG hn;generalize 2^n=p at *
    generalize 2^(32-n)=q at *
    conv=>lhs;rw[←h3]
    rw[this]
    grind
   rw[e3,jz];generalize xs[j+1]*2^(32-n)%4294967296=r at *
   generalize xs[j+1] / 2^n=t at *
   rw[ix] at e1;simp only[jz] at e2
   grind
 · rw[wY (by omega),nE,z2]
   congr 1
/-! ### Slices of words -/
theorem dF.nil(w:am):dF w none 0 0 []:=⟨rfl,fun i x hi=>by simp at hi,av _,by omega,by simp,fun x hx=>by cases hx⟩
theorem dF.drop{a:Addr}(h:dF w (some a) n cap xs){k:Nat}(hk:k≤xs.length)(hm:m=n-k):dF w (some (a.add k)) m (cap-k) (xs.drop k):=by
 have hl:=h.len;have hc:=h.cap;have he:=h.eq;have hle:=h.le;refine⟨by rw[hm,he];simp,fun i x hi=>⟨_,rfl,?_⟩,by simp;omega,by omega,by simp;omega,fun x hx=>h.digs x (pj hx)⟩;obtain⟨a',e,hcell⟩:=h.row (k+i) x (by rw[eb] at hi;exact hi);cases e;rw[show (a.add k).add i=a.add (k+i) from ?_]
 · exact hcell
 · obtain⟨g,off,ln⟩:=a
   by_cases hk0:k=0 <;> by_cases hi0:i=0 <;> simp[Addr.add,hk0,hi0,pi]
theorem dF.head{A:Option Addr}(h:dF w A n cap xs){k:Nat}(hk:k≤xs.length):dF w A k cap (xs.take k):=by
 have:=h.take k;rwa [bx,dx hk] at this
theorem dF.words{a:Addr}(h:dF w (some a) n cap xs):mE w a (xs.map mX):=by
 intro j u hj;rw[fj] at hj;cases hq:xs[j]? with
 | none=>rw[hq] at hj;cases hj
 | some x =>
  rw[hq] at hj;cases hj;obtain⟨a',e,hc⟩:=h.row j x hq;cases e;exact hc
theorem dF.of_owns{base:Nat}{v:ak}{E:ay}(h:Oz w base E 1 v n (xs.map mX))(hn:n=xs.length)(hd:dV 4294967296 xs)(hl:n≤17592186044416):∃A c,v=.slice A n c∧dF w A n c xs:=by
 rcases h.row with ⟨rfl,h0,h1⟩ | ⟨g,cap,rfl,_,hc,hm,_,hr⟩
 · subst h0
   have:xs=[]:=by simpa using h1
   subst this;exact⟨_,_,O,dF.nil w⟩
 · refine⟨_,_,O,hn,fun i x hi=>⟨_,O,hr i (mX x) (by rw[fj,hi];rfl)⟩,by omega,hm,by omega,hd⟩
theorem dF.none{w:am}{n cap:Nat}{xs:List Nat}(h:dF w none n cap xs):xs=[]:=by
 cases xs with
 | nil=>rfl
 | cons x xs=>obtain⟨a,e,_⟩:=h.row 0 x rfl;cases e
def amW(xs:List Nat)(v:ak)(w:am):Prop:=∃A c,v=.slice A xs.length c∧dF w A xs.length c xs
end Go.Lith
namespace Go.Lith
open Go.RowKit
variable{w w':am}
theorem asl{P:bz}{l:List ak}{fn:Func}{R:Ending→am→Prop}(hr:fn.results = #[])(hR:R (.returned (.tuple #[])) w):bodyPost P fn R .ret (Fr l) w:=by
 refine⟨O,_,?_,hR⟩;unfold results;rw[hr];simp
theorem Qw{P:bz}{l:List ak}{fn:Func}{R:Ending→am→Prop}(hr:fn.results = #[])(hR:R (.returned (.tuple #[])) w):bodyPost P fn R .normal (Fr l) w:=asl hr hR
structure Upd(w w':am)(g:Nat):Prop where
 os:w'.os=w.os
 tape:w'.tape=w.tape
 output:w'.output=w.output
 size:w.heap.size≤w'.heap.size
 block:∀k,k<w.heap.size→k≠g→w'.heap[k]? = w.heap[k]?
theorem dY.upd(h:dY w w')(g:Nat):Upd w w' g:=⟨h.os,h.tape,h.output,h.size,fun k hk _=>Below.block h k hk⟩
theorem Upd.chg{w'':am}{g k:Nat}(h:Upd w w' g)(hC:Chg w' w'' k)(hk:w.heap.size≤k∨k=g):Upd w w'' g :=
 ⟨hC.os.trans h.os,hC.tape.trans h.tape,hC.output.trans h.output,by rw[hC.size];exact h.size,fun j hj hne=>(hC.block j (by omega)).trans (h.block j hj hne)⟩
theorem dY.grownUpd{w0:am}{g:Nat}(h:dY w0 w)(hU:Upd w w' g)(hg:w0.heap.size≤g):dY w0 w' :=
 ⟨hU.os.trans h.os,hU.tape.trans h.tape,hU.output.trans h.output,aw h.size hU.size,fun k hk=>(hU.block k (cw hk h.size) (by omega)).trans (Below.block h k hk)⟩
theorem fE.upd{g g':Nat}{cs:List ak}{t:ay}(h:fE w g cs t)(hU:Upd w w' g')(hne:g≠g'):fE w' g cs t:=(hU.block g h.lt hne).trans h
def aiU(P:bz)(f:FuncId)(args:List ak)(w:am)(g:Nat)(R:ak→am→Prop):Prop :=
 Entr P f∧Calls P f args.toArray w fun e w'=>∃v,e=.returned v∧Upd w w' g∧R v w'
section
variable {P:bz} {ds:List dl} {l:List ak} {x y:cd} {ty:ay} {w:am}
variable {ops:Array Oper} {Q:Exit→Act→am→Prop} {rest:List Oper} {d:Nat} {pos:String} {after:Array Edge}
theorem Jg{f:FuncId}{fo:cd}{xs:Array cd}{args:List ak}{first cap:Array ak}{a0:Array ay}{g:Nat}{R:ak→am→Prop}(hf:ev l fo=.func (.func f) first cap)(hxs:first.toList++xs.toList.map (ev l)++cap.toList=args)(hc:aiU P f args w g R)
 (h:∀v w',Upd w w' g→R v w'→au P ops Q rest (Fr (l.set d v) ds) w'):au P ops Q (bp (some d) (.call { callee:=.value fo,args:=xs,argTypes:=a0 }) ty pos after none::rest) (Fr l ds) w:=by
 refine wpList_plain O fun K hK=>?_;unfold mc;rw[iZ,oX hc.1 hf hxs _ rfl];refine hc.2.mono ?_;rintro e w' ⟨v,rfl,hE,hR⟩;show K ((Fr l ds).put (some d) v) w'
 rw[gY];exact hK _ _ (h v w' hE hR)
theorem amX{T:ay}{E:ay}{g o n cap m cap2:Nat}{A:Option Addr}{cs us:List ak}{t:ay}{T':ay}{a0:Array ay}(ha:a0 = #[T,T'])(hu:P.underlying T=some (.slice E))(hi:(P.info? E).map (·.size)=some 1)(hx:ev l x=.slice (some ⟨g,o,none⟩) n cap)(hy:ev l y=.slice A m cap2)(hl:us.length=Nat.min m n)
 (hsrc:∀j v,us[j]? = some v→∃a,A=some a∧w.cell? (a.add j)=some v) (hB:fE w g cs t) (hfit:o+us.length≤cs.length) (h1:∀v∈us,v.oneCell'=true)
 (h:∀w',Chg w w' g→fE w' g (bQ cs o us) t→au P ops Q rest (Fr (l.set d (.int .i64 (us.length:Int))) ds) w') :
 au P ops Q (bp (some d) (.call { callee:=.builtin .copy,args:=#[x,y],argTypes:=a0 }) ty pos after none::rest) (Fr l ds) w:=by
 subst ha;cases us with
 | nil =>
  refine lU (v:=.int .i64 0) (w':=w) (fun o' ho _=>?_) (h w ⟨O,O,O,O,fun _ _=>rfl⟩ (by rw[aiS];exact hB));have hrun:=run_copy_none (P:=P) w T T' o'.type E (some ⟨g,o,none⟩) A n cap m cap2 hu hi hl.symm;simp[da,ho,resolve,invoke,builtin,bW,hx,hy,hrun,goInt]
 | cons u us =>
  obtain⟨a,rfl,_⟩:=hsrc 0 u rfl;refine lU (v:=.int .i64 ((u::us).length:Int)) (w':=w.setRow g (bQ cs o (u::us)).toArray) (fun o' ho _=>?_) (h _ (Ac w g _) (setRow_heap w g cs.toArray _ t _ hB));have hrun:=run_copy_row (P:=P) w T T' o'.type E g o n cap a m cap2 cs.toArray t (u::us) hu hi hB hl (fun j v hj=>let ⟨a',e,hc⟩:=hsrc j v hj;by cases e;exact hc) (by simpa using hfit) h1;simp only[ec] at hrun;simp[da,ho,resolve,invoke,builtin,bW,hx,hy,hrun,bQ,goInt]
end
end Go.Lith
namespace Go.Lith
variable{a n cap off m P U two top q two3 v2 i sh sec a3:Nat}{w:am}{xs os us vs ys:List Nat}
theorem aiV{b:Nat}:decide (ord a b<0)=decide (a<b):=by
 unfold ord;split
 · simp[*]
 · split <;> simp[*]
theorem dF.src{A:Option Addr}(h:dF w A n cap xs):∀(j:Nat) (v:ak),(xs.map mX)[j]? = some v→∃a,A=some a∧w.cell? (a.add j)=some v:=by
 intro j v hj;rw[fj] at hj;cases hq:xs[j]? with
 | none=>rw[hq] at hj;cases hj
 | some x =>
  rw[hq] at hj;cases hj;exact h.row j x hq
theorem aiW  : ∀u∈xs.map mX,u.oneCell'=true:=fun u hu=>by obtain⟨x,_,rfl⟩:=List.mem_map.1 hu;rfl
theorem cO(n:Nat):val 4294967296 (digs 4294967296 n)=n:=vV (by omega) n
theorem iS(n:Nat):jG (digs 4294967296 n):=vC (by omega) n
theorem mJ(n:Nat):dV 4294967296 (digs 4294967296 n):=yF (by omega) n
theorem rC(d:Nat):val 4294967296 [d]=d:=by simp[val]
theorem yH{d:Nat}(h:d<4294967296):dV 4294967296 [d]:=fun x hx=>by simp at hx;omega
theorem Cs(xs:List Nat):(trim xs).length≤xs.length:=by rw[mQ];simp;omega
theorem uF(h:dV 4294967296 xs):(digs 4294967296 (val 4294967296 xs)).length≤xs.length:=fF (by omega) (lW h)
theorem Pa{d:Nat}(h:dV 4294967296 xs)(hd:d<4294967296):(digs 4294967296 (val 4294967296 xs*d)).length≤xs.length+1:=by
 refine fF (by omega) ?_;rw[ix];exact Nat.mul_lt_mul'' (lW h) hd
def laid(os:List Nat)(off n m:Nat):List Nat:=os.take off++(digs 4294967296 m++cl (n-(digs 4294967296 m).length) 0)++os.drop (off+n)
theorem abB(h:off+n≤os.length)(hm:(digs 4294967296 m).length≤n):(laid os off n m).length=os.length:=by
 simp[laid];omega
theorem Fi(hd:dV 4294967296 os):dV 4294967296 (laid os off n m) :=
 ((hd.take _).append ((mJ m).append fun x hx=>by rw[fp hx];decide)).append (hd.drop _)
theorem aiX{os:List Nat}{off n m:Nat}(h:off+n≤os.length)(hm:(digs 4294967296 m).length≤n) :
 val 4294967296 (laid os off n m)+4294967296^off*val 4294967296 ((os.drop off).take n)=val 4294967296 os+4294967296^off*m:=by
 have e1:val 4294967296 os=val 4294967296 (os.take off)+4294967296^off*(val 4294967296 ((os.drop off).take n)+4294967296^n*val 4294967296 (os.drop (off+n))):=by
  have e:os=os.take off++((os.drop off).take n++os.drop (off+n)):=by
   rw[←qv,jm,jm]
  conv=>lhs;rw[e]
  rw[iR,iR];simp only[bx,List.length_drop];rw[dx (by omega),dx (by omega)]
 have e2:val 4294967296 (laid os off n m)=val 4294967296 (os.take off)+4294967296^off*(m+4294967296^n*val 4294967296 (os.drop (off+n))):=by
  unfold laid;rw[dh,iR,iR,iR,gZ,cO];simp only[bx,a_,ny];rw[dx (by omega),show (digs 4294967296 m).length+(n-(digs 4294967296 m).length)=n by omega];simp
 rw[e1,e2]
 grind
theorem agR{cs us vs:List ak}(h:off+us.length≤cs.length)(hm:vs.length≤us.length):bQ (bQ cs off us) off vs=cs.take off++(vs++us.drop vs.length)++cs.drop (off+us.length):=by
 have hA:(cs.take off).length=off:=by simp;omega
 unfold bQ;generalize cs.take off=A at *
 generalize cs.drop (off+us.length)=C at *
 subst hA;rw[dh A us C,List.take_left' rfl,mx,List.drop_eq_nil_of_le (by omega),Nat.add_sub_cancel_left,List.drop_append_of_le_length hm];simp
theorem agS{os:List Nat}{off n m:Nat}(h:off+n≤os.length)(hm:(digs 4294967296 m).length≤n) :
 bQ (bQ (os.map mX) off (cl n (.int .u64 0))) off ((digs 4294967296 m).map mX)=(laid os off n m).map mX:=by
 rw[agR (by simpa using h) (by simpa using hm)];simp[laid,List.drop_replicate,mX,List.map_take,List.map_drop]
theorem xR{B:Nat}(xs:List Nat){k:Nat}(hk:k≤xs.length):val B xs=val B (xs.take k)+B^k*val B (xs.drop k):=by
 conv=>lhs;rw[←jm k xs]
 rw[iR,bx,dx hk]
theorem aiY{V:Nat}(hP:0<P)(hU:U<(two+1)*P)(hV:top*P≤V)(hq:q*V≤U)(ht:0<top):q≤two / top:=by
 rw[Nat.le_div_iff_mul_le ht];have h1:q*(top*P)≤q*V:=fi _ hV;have h2:(q*top)*P<(two+1)*P:=by rw[p_];omega
 have:=lq h2;omega
theorem aiZ{V g:Nat}(hP:0<P)(hU:U<(two3+1)*P)(hV:v2*P≤V)(hq:q*V≤U)(h:two3<g*v2):q<g:=by
 rcases dz q g with hlt | hge
 · exact hlt
 · exfalso
   have h1:g*(v2*P)≤q*V:=jo hge hV;have h2:(g*v2)*P<(two3+1)*P:=by rw[p_];omega
   have:=lq h2;omega
theorem abC{V g:Nat}(hU:two3*P≤U)(hV:V<(v2+1)*P)(hq:U<(q+1)*V)(h:g*v2≤two3)(hg:g≤v2):g≤q+1:=by
 rcases dz (q+1) g with hlt | hge
 · exfalso
   obtain⟨e,rfl⟩:∃e,g=e+1:=⟨g-1,by omega⟩
   have h1:(q+1)*V≤e*V:=gr _ (by omega);have h2:e*V≤e*((v2+1)*P):=fi _ (Nat.le_of_lt hV);have h3:two3*P<(e*(v2+1))*P:=by rw[p_];omega
   have h4:=lq h3;rw[jz] at h4;rw[gt] at h;omega
 · exact hge
theorem Wy{V g:Nat}(hq:q*V≤U)(hq2:U<(q+1)*V)(h1:q≤g)(h2:g≤q+1):(U<V*g→g-1=q)∧(¬U<V*g→g=q):=by
 constructor
 · intro h
   rcases dz q g with hlt | hge
   · omega
   · have:V*g≤V*q:=fi _ hge
     rw[iy V q] at this;omega
 · intro h
   rcases dz q g with hlt | hge
   · have:(q+1)*V≤g*V:=gr _ hlt
     rw[iy V g] at h;omega
   · omega
theorem Vs(h:off+n≤os.length)(hm:(digs 4294967296 m).length≤n):val 4294967296 ((laid os off n m).drop off)=m+4294967296^n*val 4294967296 (os.drop (off+n)):=by
 have hA:(os.take off).length=off:=by simp;omega
 unfold laid;rw[dh,mx,List.drop_eq_nil_of_le (by omega),hA,Nat.sub_self,List.drop_zero,List.nil_append,iR,iR,gZ,cO];simp only[a_,ny];rw[show (digs 4294967296 m).length+(n-(digs 4294967296 m).length)=n by omega];simp
theorem Wz(hd:dV 4294967296 vs)(hi:i+vs.length+1≤us.length)(hH:val 4294967296 (us.drop (i+1))<val 4294967296 vs):val 4294967296 (us.drop (i+(vs.length+1)))=0:=by
 have h1:=lW hd;have h2:=xR (B:=4294967296) (us.drop (i+1)) (k:=vs.length) (by simp;omega);rw[qv,show i+1+vs.length=i+(vs.length+1) by omega] at h2;rcases ff (val 4294967296 (us.drop (i+(vs.length+1)))) with h | h
 · exact h
 · have:=fi (4294967296^vs.length) h
   omega
theorem Jh(hd:dV 4294967296 vs)(hi:i+vs.length+1≤us.length)(hH:val 4294967296 (us.drop (i+1))<val 4294967296 vs):val 4294967296 (us.drop i)=val 4294967296 ((us.drop i).take (vs.length+1)):=by
 have h2:=xR (B:=4294967296) (us.drop i) (k:=vs.length+1) (by simp;omega);rw[qv,Wz hd hi hH,nh,nc] at h2;exact h2
theorem amY(hdu:dV 4294967296 us)(hi:i<us.length)(hH:val 4294967296 (us.drop (i+1))<val 4294967296 vs):val 4294967296 (us.drop i)<4294967296*val 4294967296 vs:=by
 have e:=tE (B:=4294967296) (xs:=us) (k:=i+1) (by omega) (by simpa using hi);simp only[eh] at e;have:=hdu us[i] (fl hi);omega
theorem ai0{us:List Nat}{j n:Nat}(hdu:dV 4294967296 us)(hn:2≤n)(h0:j+n<us.length) :
 val 4294967296 ((us.drop j).take (n+1))=(us[j+n]*4294967296+us[j+n-1])*4294967296^(n-1)+us[j+n-2]*4294967296^(n-2)+val 4294967296 ((us.drop j).take (n-2))∧val 4294967296 ((us.drop j).take (n-2))<4294967296^(n-2):=by
 have hL:(us.drop j).length=us.length-j:=by simp
 have e1:=dS (B:=4294967296) (xs:=us.drop j) (i:=n) (by omega);have e2:=dS (B:=4294967296) (xs:=us.drop j) (i:=n-1) (by omega);have e3:=dS (B:=4294967296) (xs:=us.drop j) (i:=n-2) (by omega);rw[show n-1+1=n by omega] at e2;rw[show n-2+1=n-1 by omega] at e3;simp only[List.getElem_drop] at e1 e2 e3;have x2:us[j+(n-1)]=us[j+n-1]:=getElem_congr rfl (by omega) _;have x3:us[j+(n-2)]=us[j+n-2]:=getElem_congr rfl (by omega) _;rw[x2] at e2;rw[x3] at e3;have hp:(4294967296:Nat)^n=4294967296*4294967296^(n-1):=by rw[←qd];congr 1;omega
 have hl:=lW ((hdu.drop j).take (n-2));rw[bx,dx (by omega)] at hl;refine⟨?_,hl⟩;rw[e1,e2,e3,hp]
 grind
theorem Ah{b:Nat}:ord a b<0↔a<b:=by
 have:=@aiV a b;simpa using this
theorem iX.self{A:Option Addr}{c:Nat}(h:dF w A n c xs)(t:jG xs):iX (val 4294967296 xs) (.slice A n c) w:=by
 have:=iX.of_trim h rfl;rw[t] at this;rw[h.eq];exact this
theorem iX.zero(w:am):iX 0 (.slice none 0 0) w:=⟨none,0,rfl,dF.nil w⟩
theorem Nt(t:jG xs)(h:0<xs.length):0<xs[xs.length-1]:=by
 rcases ff (xs[xs.length-1]) with h0 | h0
 · exfalso
   have e:=Lk (xs:=xs) (k:=xs.length) h (by omega);rw[fa,h0] at e;have t2:trim xs=trim (xs.take (xs.length-1)):=by conv=>lhs;rw[e,rA]
   have t3:(trim xs).length=xs.length:=by rw[t]
   have t4:=Cs (xs.take (xs.length-1));rw[←t2,t3] at t4;simp at t4;omega
 · exact h0
theorem vW{g:Nat}(h:fE w g (os.map mX) 231)(hd:dV 4294967296 os)(hl:os.length≤17592186044416):dF w (some ⟨g,0,none⟩) (trim os).length os.length (trim os):=by
 have:=(h.nat hd rfl hl).take (trim os).length;rwa [←mQ] at this
theorem Zs(h:0<ys.length):val 4294967296 ys=val 4294967296 (ys.take (ys.length-1))+4294967296^(ys.length-1)*ys[ys.length-1]:=by
 have e:=dS (B:=4294967296) (xs:=ys) (i:=ys.length-1) (by omega);rw[show ys.length-1+1=ys.length by omega,fa] at e;exact e
theorem agT(hdv:dV 4294967296 vs)(hvv:val 4294967296 vs=2^sh*val 4294967296 ys)(hdy:dV 4294967296 ys)(h:0<ys.length)(hsh:ys[ys.length-1]*2^sh<4294967296)(ht:0<ys[ys.length-1])(hs:sh≤31):(trim vs).length=ys.length:=by
 have e:trim vs=digs 4294967296 (2^sh*val 4294967296 ys):=Af (by omega) hdv hvv;have hv:=Zs h;have hl:=lW (hdy.take (ys.length-1));rw[bx,dx (by omega)] at hl;have hp:0<2^sh:=j_ (by omega);have hsp:=yG (n:=sh) (by omega);have hB:(4294967296:Nat)^ys.length=4294967296^(ys.length-1)*4294967296:=by rw[←ix];congr 1;omega
 have hQ:(trim vs).length<ys.length→(4294967296:Nat)^(trim vs).length≤4294967296^(ys.length-1):=fun h=>f_ (by omega) (by omega);generalize 4294967296^(ys.length-1)=Q at *
 generalize ys[ys.length-1]=t at *
 generalize val 4294967296 (ys.take (ys.length-1))=l at *
 have h1:t+1≤2^(32-sh):=by
  rw[hsp,iy] at hsh;exact oo hsh
 have h2:2^sh*(t+1)≤4294967296:=by rw[hsp];exact fi _ h1
 have h3:val 4294967296 ys<Q*(t+1):=by rw[hv,jz];omega
 have h4:2^sh*val 4294967296 ys<4294967296^ys.length:=by
  rw[hB]
  calc 2^sh*val 4294967296 ys<2^sh*(Q*(t+1)):=Nat.mul_lt_mul_of_pos_left h3 hp
   _=Q*(2^sh*(t+1)):=by grind
   _≤Q*4294967296:=fi _ h2
 have h5:=fF (by omega) h4;rw[←e] at h5;rcases dz (trim vs).length ys.length with hlt | hge
 · exfalso
   have h6:=lW hdv.trim;rw[Cr,hvv] at h6;have h7:=hQ hlt;have h8:Q*1≤Q*t:=fi _ ht;have h9:1*val 4294967296 ys≤2^sh*val 4294967296 ys:=gr _ hp;omega
 · omega
theorem agU(h:0<ys.length)(h31:2147483648≤ys[ys.length-1]*2^sh):2147483648*4294967296^(ys.length-1)≤2^sh*val 4294967296 ys:=by
 rw[Zs h];generalize 4294967296^(ys.length-1)=Q at *
 generalize ys[ys.length-1]=t at *
 have h1:2147483648*Q≤t*2^sh*Q:=gr _ h31;rw[jz];have h2:2^sh*(Q*t)=t*2^sh*Q:=by grind
 rw[h2];exact aw h1 (Nat.le_add_left _ _)
theorem ai1{l V:Nat}(hdx:dV 4294967296 xs)(hlu:us.length=xs.length+1)(hvu:val 4294967296 us=2^sh*val 4294967296 xs)(hl:l≤xs.length)(h0:0<l)(hs:sh≤31)(hV:2147483648*4294967296^(l-1)≤V):val 4294967296 (us.drop (xs.length+1-l))<V:=by
 have e:=xR (B:=4294967296) us (k:=xs.length+1-l) (by omega);have hx:=lW hdx;have hp:(4294967296:Nat)^xs.length=4294967296^(xs.length+1-l)*4294967296^(l-1):=by rw[←mf];congr 1;omega
 have hs2:2^sh≤2^31:=f_ (by omega) hs;rcases dz (val 4294967296 (us.drop (xs.length+1-l))) V with h | h
 · exact h
 · exfalso
   generalize val 4294967296 (us.drop (xs.length+1-l))=D at *
   generalize val 4294967296 (us.take (xs.length+1-l))=T at *
   have h1:4294967296^(xs.length+1-l)*(2147483648*4294967296^(l-1))≤4294967296^(xs.length+1-l)*D:=fi _ (aw hV h);have h2:4294967296^(xs.length+1-l)*(2147483648*4294967296^(l-1))=2147483648*4294967296^xs.length:=by rw[hp];grind
   have h3:2^sh*val 4294967296 xs≤2147483648*val 4294967296 xs:=gr _ hs2;generalize 4294967296^(xs.length+1-l)*D=Z at *
   rw[h2] at h1;generalize (4294967296:Nat)^xs.length=W' at *
   omega
theorem ai2{X Y p u:Nat}(hp:0<p)(h:u+q*(p*Y)=p*X)(hu:u<p*Y):q=X / Y∧u / p=X%Y:=by
 have hY:0<Y:=by
  rcases ff Y with h0 | h0
  · subst h0;omega
  · exact h0
 have hd:p∣u:=by
  have h1:p∣u+q*(p*Y):=h▸Nat.dvd_mul_right p X;have h2:p∣q*(p*Y):=⟨q*Y,by grind⟩
  exact (Nat.dvd_add_iff_left h2).2 h1
 obtain⟨r,rfl⟩:=hd;have h3:p*(r+q*Y)=p*X:=by rw[←h];grind
 have h4:=Nat.eq_of_mul_eq_mul_left hp h3;have h5:=oo hu;rw[Nat.mul_div_cancel_left _ hp];have:=Qv (a:=X) (q:=q) (r:=r) hY h5 (by rw[←h4];grind);exact this
theorem apS(hd:dV 4294967296 vs)(h:2≤vs.length):val 4294967296 vs=(vs[vs.length-1]*4294967296+vs[vs.length-2])*4294967296^(vs.length-2)+val 4294967296 (vs.take (vs.length-2))∧val 4294967296 (vs.take (vs.length-2))<4294967296^(vs.length-2):=by
 have e1:=Zs (ys:=vs) (by omega);have e2:=dS (B:=4294967296) (xs:=vs) (i:=vs.length-2) (by omega);rw[show vs.length-2+1=vs.length-1 by omega] at e2;have hl:=lW (hd.take (vs.length-2));rw[bx,dx (by omega)] at hl;refine⟨?_,hl⟩;have hp:(4294967296:Nat)^(vs.length-1)=4294967296*4294967296^(vs.length-2):=by rw[←qd];congr 1;omega
 rw[e1,e2,hp]
 grind
theorem agV{us ds:List Nat}{i two top sec a3 U:Nat}(hdu:dV 4294967296 us)(hdd:dV 4294967296 ds)(h2:2≤ds.length)(hi:i+ds.length<us.length)(hH:val 4294967296 (us.drop (i+1))<val 4294967296 ds)
 (htwo:two=us[i+ds.length-1]+us[i+ds.length]*4294967296) (htop:top=ds[ds.length-1]) (hsec:sec=ds[ds.length-2]) (ha3:a3=us[i+ds.length-2]) (hU:U=val 4294967296 (us.drop i)) :
 ∃P,0<P∧U<(two+1)*(4294967296*P)∧top*(4294967296*P)≤val 4294967296 ds∧U<(two*4294967296+a3+1)*P∧(two*4294967296+a3)*P≤U∧(top*4294967296+sec)*P≤val 4294967296 ds∧val 4294967296 ds<(top*4294967296+sec+1)*P∧U<4294967296*val 4294967296 ds:=by
 obtain⟨hpt,hpl⟩:=ai0 hdu h2 hi;obtain⟨hvt,hvl⟩:=apS hdd h2;have hUB:=amY hdu (by omega) hH;rw[←Jh hdd (by omega) hH,←hU] at hpt;rw[←hU] at hUB;have hp:(4294967296:Nat)^(ds.length-1)=4294967296*4294967296^(ds.length-2):=by rw[←qd];congr 1;omega
 have ha:us[i+ds.length-2]<4294967296:=hdu _ (fl _);rw[hp,←ha3] at hpt;rw[←ha3] at ha;rw[←htop,←hsec] at hvt;rw[Nat.add_comm (us[i+ds.length]*4294967296),←htwo] at hpt;refine⟨4294967296^(ds.length-2),j_ (by decide),?_⟩;generalize (4294967296:Nat)^(ds.length-2)=P at *
 generalize val 4294967296 ((us.drop i).take (ds.length-2))=lu at *
 generalize val 4294967296 (ds.take (ds.length-2))=ld at *
 generalize val 4294967296 ds=V at *
 have h3:(a3+1)*P≤4294967296*P:=gr _ ha;have e1:(two*4294967296+a3)*P=two*(4294967296*P)+a3*P:=by grind
 have e2:(top*4294967296+sec)*P=top*(4294967296*P)+sec*P:=by grind
 rw[gt,ka] at h3;refine⟨?_,?_,?_,?_,?_,?_,hUB⟩
 · rw[gt,ka];omega
 · rw[hvt,e2];omega
 · rw[gt,e1];omega
 · rw[e1];omega
 · rw[hvt];omega
 · rw[hvt,gt (top*4294967296+sec)];omega
theorem amZ{b:Nat}(h:a*b<18446744073709551616):IntKind.u64.wrap ((a:Int)*(b:Int))=((a*b:Nat):Int):=by
 rw[←nj];generalize a*b=c at *
 exact kQ (by omega) (by omega)
theorem adt{g r:Nat}(h:g*top+r=two)(hx:a3+r*4294967296<g*sec):two*4294967296+a3<g*(top*4294967296+sec):=by
 subst h;have:g*(top*4294967296+sec)=g*top*4294967296+g*sec:=by grind
 rw[this,gt];omega
theorem Qx{g r:Nat}(h:g*top+r=two)(hx:g*sec≤a3+r*4294967296):g*(top*4294967296+sec)≤two*4294967296+a3:=by
 subst h;have:g*(top*4294967296+sec)=g*top*4294967296+g*sec:=by grind
 rw[this,gt];omega
theorem ai3{g s r:Nat}(hg:g<4294967296)(hs:s<4294967296)(hr:4294967296≤r):g*s≤a+r*4294967296:=by
 have h1:g*s≤4294967296*4294967296:=jo (by omega) (by omega);omega
theorem Fj{g:Nat}(h:¬cap=q):(if cap=q then some (⟨g,0,none⟩:Addr) else (some (⟨g,0,none⟩:Addr)).map (·.add (q*1)))=some ⟨g,q,none⟩:=by
 rw[if_neg h];simp[gV]
theorem Fk{us qs ds:List Nat}{i q U S:Nat}(hdd:dV 4294967296 ds)(hdu:dV 4294967296 us)(hi:i+ds.length<us.length)(hH:val 4294967296 (us.drop (i+1))<val 4294967296 ds)(hU:U=val 4294967296 (us.drop i))(hq1:q*val 4294967296 ds≤U)(hq2:U<(q+1)*val 4294967296 ds)(hI:val 4294967296 us+val 4294967296 qs*val 4294967296 ds=S)(hz:qs.take (i+1)=cl (i+1) 0)(hiq:i<qs.length) :
 val 4294967296 (laid us i (ds.length+1) (val 4294967296 ((us.drop i).take (ds.length+1))-val 4294967296 ds*q))+val 4294967296 (qs.set i q)*val 4294967296 ds=S∧val 4294967296 ((laid us i (ds.length+1) (val 4294967296 ((us.drop i).take (ds.length+1))-val 4294967296 ds*q)).drop i)<val 4294967296 ds∧(qs.set i q).take i=cl i 0∧(laid us i (ds.length+1) (val 4294967296 ((us.drop i).take (ds.length+1))-val 4294967296 ds*q)).length=us.length:=by
 have hp:=Jh hdd (by omega) hH;rw[←hp,←hU];have hm:(digs 4294967296 (U-val 4294967296 ds*q)).length≤ds.length+1:=by
  refine fF (by omega) (ib (Nat.sub_le _ _) ?_);have h:=lW ((hdu.drop i).take (ds.length+1));rw[bx,dx (by simp;omega),←hp,←hU] at h;exact h
 have hqc:q*val 4294967296 ds=val 4294967296 ds*q:=iy _ _;refine⟨?_,?_,?_,abB (by omega) hm⟩
 · have e1:=aiX (os:=us) (off:=i) (n:=ds.length+1) (m:=U-val 4294967296 ds*q) (by omega) hm
   rw[←hp,←hU] at e1;have e2:=pN (B:=4294967296) (os:=qs) (j:=i) (d:=q) hiq;have e3:qs[i]=0:=by
    have h:=congrArg (fun l=>l[i]?) hz;simp only[fq] at h;rw[if_pos (by omega),ar hiq,List.getElem?_replicate,if_pos (by omega)] at h;exact Option.some.inj h
   rw[e3,nh,nc] at e2;rw[e2,←hI];obtain⟨r,hr⟩:∃r,U=val 4294967296 ds*q+r:=⟨U-val 4294967296 ds*q,by omega⟩
   rw[hr] at e1 ⊢;rw[Nat.add_sub_cancel_left] at e1 ⊢;generalize val 4294967296 (laid us i (ds.length+1) r)=L at *
   generalize (4294967296:Nat)^i=Q at *
   generalize val 4294967296 ds=V at *
   generalize val 4294967296 us=W' at *
   generalize val 4294967296 qs=Z at *
   grind
 · rw[Vs (by omega) hm,Wz hdd (by omega) hH,nh,nc]
   rw[gt,ka] at hq2;omega
 · rw[List.take_set_of_le (av i)]
   have h:=congrArg (List.take i) hz;rw[List.take_take,dx (by omega),List.take_replicate,dx (by omega)] at h;exact h
theorem Zt{r:Nat}(h:r≤4):(4294967296:Nat)=256^r*256^(4-r):=by rw[←mf,show r+(4-r)=4 by omega]
theorem Qy(r:Nat):(256:Nat)^r=2^(8*r):=by rw[show 256=2^8 from rfl,←qu]
theorem ai4{x b r:Nat}(hr:r<4)(hx:x<4294967296)(hd:256^(r+1)∣x)(hb:b<256):x+b*256^r<4294967296:=by
 obtain⟨c,rfl⟩:=hd;have e:=Zt (r:=r+1) (by omega);rw[e] at hx ⊢;have h1:=oo hx;have h2:256^(r+1)*(c+1)≤256^(r+1)*256^(4-(r+1)):=fi _ h1;rw[jz,pw] at h2;have h3:(b+1)*256^r≤256*256^r:=gr _ hb;have h4:(256:Nat)^(r+1)=256*256^r:=qd;have h5:0<(256:Nat)^r:=j_ (by omega);rw[gt,ka] at h3;generalize 256^(r+1)*256^(4-(r+1))=Z at *
 generalize 256^(r+1)*c=Y at *
 omega
theorem agW{os bs:List Nat}{p j r:Nat}(hp:p<bs.length)(hpj:p=4*j+r)(hr:r<4)(hj:j<os.length)(hd:dV 4294967296 os)(hb:dV 256 bs)(hdv:∀(i:Nat) (h:i<os.length),256^(p+1-4*i)∣os[i])(hv:val 4294967296 os=256^(p+1)*val 256 (bs.drop (p+1))) :
 os[j]+bs[p]*256^r<4294967296∧256^(r+1)∣os[j]∧(∀(i:Nat) (h:i<(os.set j (os[j]+bs[p]*256^r)).length),256^(p-4*i)∣(os.set j (os[j]+bs[p]*256^r))[i])∧val 4294967296 (os.set j (os[j]+bs[p]*256^r))=256^p*val 256 (bs.drop p):=by
 have h1:=hdv j hj;rw[show p+1-4*j=r+1 by omega] at h1;have hx:=hd _ (fl hj);have hby:=hb _ (fl hp);refine⟨ai4 hr hx h1 hby,h1,?_,?_⟩
 · intro i h
   by_cases e:i=j
   · subst e
     rw[ly,show p-4*i=r by omega];exact Nat.dvd_add (Nat.dvd_trans (Nat.pow_dvd_pow 256 (by omega)) h1) (Nat.dvd_mul_left _ _)
   · rw[mo (by omega)]
     exact Nat.dvd_trans (Nat.pow_dvd_pow 256 (by omega)) (hdv i (by simpa using h))
 · have e1:=pN (B:=4294967296) (os:=os) (j:=j) (d:=os[j]+bs[p]*256^r) hj
   have e2:=tE (B:=256) (xs:=bs) (k:=p+1) (by omega) (by simpa using hp);simp only[eh] at e2;have e3:(4294967296:Nat)^j*256^r=256^p:=by
    rw[show (4294967296:Nat)=256^4 from rfl,←qu,←mf,hpj]
   rw[e2,←e3];rw[ix,←e3] at hv;generalize (4294967296:Nat)^j=Q at *
   generalize (256:Nat)^r=R at *
   generalize val 256 (bs.drop (p+1))=D at *
   generalize val 4294967296 (os.set j (os[j]+bs[p]*R))=L at *
   generalize val 4294967296 os=M at *
   subst hv
   grind
end Go.Lith
namespace Go.Lith
open Go.RowKit
variable{a:ByteArray}{xs ys:Array ak}
def asm(w:am)(S:am→Prop):Prop:=S w
section
variable {P:bz} {ops:Array Oper} {md:Region.Mode} {S:am→Prop}
def bJ(P:bz)(ops:Array Oper)(S:am→Prop)(Q:Exit→Act→am→Prop):List (Oper × Bool)→Act→am→Prop
 | [],a,w=>Q .normal a w
 | (o,true)::r,a,w=>∃v,YieldsIf P ops S o v a∧bJ P ops S Q r (a.put o.dst v) w
 | (o,false)::r,a,w=>au P ops (Exit.then (fun a w=>S w∧bJ P ops S Q r a w) Q) [o] a w
theorem xS{Q:Exit→Act→am→Prop}(hs:Region.noSelect ops=true)(hQ:∀c d v a w,Q (.panic c) (Act.put a d v) w→Q (.panic c) a w):∀(l:List (Nat × Bool)) (listed:Array Bool) (a:Act) (w:am),
 Is md ops l listed=true→S w→bJ P ops S Q (l.map fun x=>((ops[x.1]?).getD default,x.2)) a w→wpAnyH P md ops Q S l.length listed a w
 | [],listed,a,w,hB,_,h=>⟨by simpa[Is] using hB,h⟩
 | (i,true)::r,listed,a,w,hB,hS,h=>by
  simp only[Is,bh] at hB;obtain⟨⟨⟨h1,h2⟩,h3⟩,h4⟩:=hB;obtain⟨o,ho⟩:=di.1 h1;simp only[bi,bJ,ho,de] at h;obtain⟨v,hy,hr⟩:=h;exact wpAnyH_take ho hs h2 h3 (fun c a w=>hQ c _ v a w) hy hS (xS hs hQ r _ _ _ h4 hS hr)
 | (i,false)::r,listed,a,w,hB,hS,h=>by
  simp only[Is,bh,decide_eq_true_eq] at hB;obtain⟨⟨h1,h2⟩,h4⟩:=hB;obtain⟨o,ho⟩:=di.1 h1;refine wpAnyH_all h2 (by simp) fun j hj=>?_;obtain rfl:j=i:=by simpa using hj
  simp only[bi,bJ,ho,de] at h;have key:∀a' w',Exit.then (fun a w=>S w∧bJ P ops S Q (r.map fun x=>((ops[x.1]?).getD default,x.2)) a w) Q .normal a' w'→S w'∧wpAnyH P md ops Q S r.length (listed.setIfInBounds j true) a' w':=fun a' w' hh=>⟨hh.1,xS hs hQ r _ a' w' h4 hh.1 hh.2⟩
  unfold wpOp;simp only[ho];simp only[au] at h;split
  · rename_i hw
    rw[if_pos hw] at h;rcases h with h | ⟨ha,x,y,hl⟩
    · refine .inl ?_
      unfold mc at h ⊢;generalize (da a.eval o).run P w=res at *
      cases res with
      | ok n w' =>
       cases n <;> simp only[nq] at h ⊢ <;>
        first
         | exact key _ _ h
         | exact Calls.mono h (fun e w'' he=>by cases e <;> first | exact key _ _ he | exact he)
         | exact Rows.mono h (fun _ _ he=>key _ _ he)
      | halt x w'=>cases x <;> simp only[nq] at h ⊢ <;> exact h
    · exact .inr ⟨ha,x,y,hl⟩
  · rename_i hw
    rw[if_neg hw] at h;exact key _ _ h
theorem Bz{id:Nat}{Q:Exit→Act→am→Prop}{a:Act}{w:am}{l:List Oper}(o:List (Nat × Bool))(hm:P.follows .mixedOrders=true)(hB:(Region.noSelect l.toArray&&decide (o.length=l.length)&&Is .any l.toArray o (fy l.toArray.size false))=true)
 (hQ:∀c d v a w,Q (.panic c) (Act.put a d v) w→Q (.panic c) a w) {ol:List (Oper × Bool)} (hol:(o.map fun x=>((l.toArray[x.1]?).getD default,x.2))=ol)
 (h:∀w',dY w w'→∃S,asm w' S∧bJ P l.toArray S Q ol a w'):(Code.region id l.toArray true).wp P Q a w:=by
 simp only[bh,decide_eq_true_eq] at hB;subst hol;obtain⟨S,hS,h⟩:=h _ (dY.refl w).drawn;refine wp_region_held (S:=S) hm ?_;have:=xS (md:=.any) hB.1.1 hQ o _ a { w with drawn:=w.drawn+1 } hB.2 hS h;rwa [hB.1.2] at this
variable {ds:List dl} {l:List ak} {Q:Exit→Act→am→Prop} {w:am} {rest:List (Oper × Bool)} {d:Nat} {op:Op} {ty:ay} {pos:String} {after:Array Edge} {v:ak}
theorem Zu(hr:∀w,S w→Aa P l op ty v w)(h:bJ P ops S Q rest (Fr (l.set d v) ds) w):bJ P ops S Q ((bp (some d) op ty pos after none,true)::rest) (Fr l ds) w:=by
 refine⟨v,.inl ⟨by simp[Region.wanted],fun w hw=>hr w hw _ O O⟩,?_⟩;show bJ P ops S Q rest ((Fr l ds).put (some d) v) w
 rw[gY];exact h
theorem cF(hr:iO P l op ty v)(h:bJ P ops S Q rest (Fr (l.set d v) ds) w):bJ P ops S Q ((bp (some d) op ty pos after none,true)::rest) (Fr l ds) w:=Zu (fun w _=>hr w) h
theorem nT{T:ay}{x:cd}{a:Addr}(hx:ev l x=.pointer (some a))(hv:∀w',S w'→nO P w' T a v)(h:bJ P ops S Q rest (Fr (l.set d v) ds) w):bJ P ops S Q ((bp (some d) (.load T x) ty pos after none,true)::rest) (Fr l ds) w :=
 Zu (fun _ hS=>aZ hx (hv _ hS)) h
theorem apT{j:Nat}{b:Bool}(hw:yielded ops l.toArray j=some b)(h:bJ P ops S Q ((bp (some d) op ty pos after none,true)::rest) (Fr l ds) w):bJ P ops S Q ((bp (some d) op ty pos after (some (j,b)),true)::rest) (Fr l ds) w:=by
 obtain⟨v,hy,h⟩:=h;refine⟨v,?_,h⟩;rcases hy with ⟨_,hy⟩ | ⟨hn,_⟩
 · exact .inl ⟨by simp[Region.wanted,hw],hy⟩
 · simp[Region.wanted] at hn
theorem apU{j:Nat}{b c:Bool}(hw:yielded ops l.toArray j=some c)(hbc:(c == b)=false)(h:bJ P ops S Q rest (Fr (l.set d undef) ds) w):bJ P ops S Q ((bp (some d) op ty pos after (some (j,b)),true)::rest) (Fr l ds) w:=by
 refine⟨undef,.inr ⟨by simp[Region.wanted,hw];simpa using hbc,rfl⟩,?_⟩;show bJ P ops S Q rest ((Fr l ds).put (some d) undef) w
 rw[gY];exact h
theorem am0{j:Nat}(hw:yielded ops l.toArray j=some false)(h:bJ P ops S Q rest (Fr (l.set d undef) ds) w):bJ P ops S Q ((bp (some d) op ty pos after (some (j,true)),true)::rest) (Fr l ds) w:=apU hw rfl h
theorem bY(h:Q .normal (Fr l ds) w):bJ P ops S Q [] (Fr l ds) w:=h
theorem cG{o:Oper}(h:au P ops (Exit.then (fun a w=>S w∧bJ P ops S Q rest a w) Q) [o] (Fr l ds) w):bJ P ops S Q ((o,false)::rest) (Fr l ds) w:=h
end
def vX(P:bz)(d:Nat)(T:ay)(x y:ak)(p:Prop):Prop:=∀w,∃b:Bool,(Op.equalIn d T x y).run P w=.ok b w∧(b=true↔p)
section
variable {P:bz} {d:Nat} {T:ay}
theorem vX.int{k k':IntKind}{m n:Int}(hu:P.underlying T=some (.int k')):vX P (d+1) T (.int k m) (.int k n) (m=n):=fun w=>⟨m == n,by unfold Op.equalIn;simp[cj hu],by simp⟩
theorem vX.bool{a b:Bool}(hu:P.underlying T=some .bool):vX P (d+1) T (.bool a) (.bool b) (a=b):=fun w=>⟨a == b,by unfold Op.equalIn;simp[cj hu],by simp⟩
theorem Qz{b:ByteArray}(h:a.toList=b.toList):a=b:=by
 rw[ByteArray.toList_eq,ByteArray.toList_eq] at h;cases a;cases b;simp at h;rw[h]
theorem Zv(a b:ByteArray):(a.toList == b.toList)=decide (a=b):=by
 by_cases h:a=b
 · subst h;simp
 · rw[decide_eq_false h];exact beq_eq_false_iff_ne.2 fun e=>h (Qz e)
theorem vX.str{b:ByteArray}(hu:P.underlying T=some .string):vX P (d+1) T (.string a) (.string b) (a=b):=fun w=>⟨a == b,by unfold Op.equalIn;simp[cj hu],by rw[beq_toListBytes,Zv];simp⟩
def Gg(P:bz)(d:Nat)(xs ys:Array ak)(fs:List Field)(p:Prop):Prop:=∀w,∃b:Bool,(Op.eqFields d xs ys fs).run P w=.ok b w∧(b=true↔p)
theorem Gg.nil  : Gg P d xs ys [] True:=fun w=>⟨true,by simp[Op.eqFields],by simp⟩
theorem Gg.cons{xs ys:Array ak}{f:Field}{fs:List Field}{x y:ak}{p q:Prop} (hn:f.name ≠ "_") (hx:∀w,(part f.type xs f.offset).run P w=.ok x w) (hy:∀w,(part f.type ys f.offset).run P w=.ok y w)
 (h:vX P d f.type x y p) (k:Gg P d xs ys fs q):Gg P d xs ys (f::fs) (p∧q):=fun w=>by
 obtain⟨b,hb,hp⟩:=h w;obtain⟨c,hc,hq⟩:=k w;cases b
 · exact⟨false,by simp[Op.eqFields,hn,hx,hy,hb],by simp at hp ⊢;intro h;exact absurd h hp⟩
 · exact⟨c,by simp[Op.eqFields,hn,hx,hy,hb,hc],by simp at hp;simp[hp,hq]⟩
def tS(P:bz)(d:Nat)(E:ay)(n:Nat)(xs ys:Array ak)(is:List Nat)(p:Prop):Prop:=∀w,∃b:Bool,(Op.eqItems d E n xs ys is).run P w=.ok b w∧(b=true↔p)
theorem tS.nil{E:ay}{n:Nat}  : tS P d E n xs ys [] True:=fun w=>⟨true,by simp[Op.eqItems],by simp⟩
theorem tS.cons{E:ay}{n i:Nat}{is:List Nat}{xs ys:Array ak}{x y:ak}{p q:Prop}(hx:∀w,(part E xs (i*n)).run P w=.ok x w)(hy:∀w,(part E ys (i*n)).run P w=.ok y w)
 (h:vX P d E x y p) (k:tS P d E n xs ys is q):tS P d E n xs ys (i::is) (p∧q):=fun w=>by
 obtain⟨b,hb,hp⟩:=h w;obtain⟨c,hc,hq⟩:=k w;cases b
 · exact⟨false,by simp[Op.eqItems,hx,hy,hb],by simp at hp ⊢;intro h;exact absurd h hp⟩
 · exact⟨c,by simp[Op.eqItems,hx,hy,hb,hc],by simp at hp;simp[hp,hq]⟩
theorem vX.struct{fs:Array Field}{p:Prop}(hu:P.underlying T=some (.struct fs))(hs:P.stoodInHeld T=false)(h:Gg P d xs ys fs.toList p):vX P (d+1) T (.agg xs) (.agg ys) p:=fun w=>by
 have hf:P.fieldsOf T=fs:=by simp[Program.fieldsOf,hu]
 rw[run_equalIn_struct w d T xs ys (by rw[hf];exact hu) hs,hf];exact h w
theorem vX.array{n c:Nat}{E:ay}{p:Prop}(hu:P.underlying T=some (.array n E))(hc:dQ P E c)(h:tS P d E c xs ys (gm n) p):vX P (d+1) T (.agg xs) (.agg ys) p:=fun w=>by
 obtain⟨i,hi,rfl⟩:=hc;have hE:P.cellsOf E=i.size:=by simp[Program.cellsOf,hi]
 rw[run_equalIn_array w d xs ys hu hi,hE];exact h w
theorem vX.iff{x y:ak}{p q:Prop}(h:vX P d T x y p)(hpq:p↔q):vX P d T x y q:=fun w=>let ⟨b,hb,hp⟩:=h w;⟨b,hb,hp.trans hpq⟩
theorem bU{off:Nat}{v:ak}(hA:fP P T false)(hv:xs[off]? = some v)(w:am):(part T xs off).run P w=.ok v w:=by simp[part,qU hA,hv]
theorem cZ{us:Array ak}{off c:Nat}(hA:fP P T true)(hc:dQ P T c)(hv:xs.extract off (off+c)=us)(w:am):(part T xs off).run P w=.ok (.agg us) w:=by
 subst hv;simp[part,qU hA,fA hc]
variable {l:List ak} {x y:cd} {T' ty:ay}
theorem Ai{u v:ak}{p:Prop}[Decidable p](h:vX P 10000 T u v p)(w:am):(Op.equal T u v).run P w=.ok (decide p) w:=by
 obtain⟨b,hb,hp⟩:=h w;rw[Op.equal,show Op.maxDepth=10000 from rfl,hb]
 congr 1
 cases b
 · exact (decide_eq_false (by simpa using hp)).symm
 · exact (decide_eq_true (by simpa using hp)).symm
theorem Ra{xs ys:Array ak}{p:Prop}[Decidable p](hg:P.eqGuardType P.depth T=false)(hx:ev l x=.agg xs)(hy:ev l y=.agg ys)(h:vX P 10000 T (.agg xs) (.agg ys) p):iO P l (.binOp .eql T x y T') ty (.bool (decide p)):=fun w o ho _=>by
 simp[da,ho,bW,hx,hy,eqGuard,binOp,hg,Ai h]
theorem adu{xs ys:Array ak}{p:Prop}[Decidable p](hg:P.eqGuardType P.depth T=false)(hx:ev l x=.agg xs)(hy:ev l y=.agg ys)(h:vX P 10000 T (.agg xs) (.agg ys) p):iO P l (.binOp .neq T x y T') ty (.bool (decide (¬p))):=fun w o ho _=>by
 simp[da,ho,bW,hx,hy,eqGuard,binOp,hg,Ai h]
theorem adv{a b:Bool}(hu:P.underlying T=some .bool)(hx:ev l x=.bool a)(hy:ev l y=.bool b):iO P l (.binOp .eql T x y T') ty (.bool (decide (a=b))):=fun w o ho _=>by
 have h:=Ai (vX.bool (d:=9999) (a:=a) (b:=b) hu) w;simp[da,ho,bW,hx,hy,eqGuard,binOp,h]
theorem apV{a b:Bool}(hu:P.underlying T=some .bool)(hx:ev l x=.bool a)(hy:ev l y=.bool b):iO P l (.binOp .neq T x y T') ty (.bool (decide (¬a=b))):=fun w o ho _=>by
 have h:=Ai (vX.bool (d:=9999) (a:=a) (b:=b) hu) w;simp[da,ho,bW,hx,hy,eqGuard,binOp,h]
theorem adw{b:ByteArray}(hu:P.underlying T=some .string)(hx:ev l x=.string a)(hy:ev l y=.string b):iO P l (.binOp .eql T x y T') ty (.bool (decide (a=b))):=fun w o ho _=>by
 have h:=Ai (vX.str (d:=9999) (a:=a) (b:=b) hu) w;simp[da,ho,bW,hx,hy,eqGuard,binOp,h,Op.stringOp,Zv]
theorem apW{b:ByteArray}(hu:P.underlying T=some .string)(hx:ev l x=.string a)(hy:ev l y=.string b):iO P l (.binOp .neq T x y T') ty (.bool (decide (¬a=b))):=fun w o ho _=>by
 have h:=Ai (vX.str (d:=9999) (a:=a) (b:=b) hu) w;simp[da,ho,bW,hx,hy,eqGuard,binOp,h,Op.stringOp,Zv]
end
end Go.Lith
namespace Go.Lith
def xT(s:ByteArray):List Nat:=s.data.toList.reverse.map lk
def apX(s:ByteArray):Nat:=val 256 (xT s)
theorem Cu(s:ByteArray):s.data.toList.length=s.size:=Array.length_toList
theorem Gq(s:ByteArray):(xT s).length=s.size:=by simp only[xT,List.length_map,List.length_reverse,Cu]
theorem abD(s:ByteArray):dV 256 (xT s):=fun x hx=>by
 obtain⟨b,_,rfl⟩:=List.mem_map.1 hx;exact b.toNat_lt
theorem Gr(s:ByteArray)(i:Nat):s[i]? = s.data.toList[i]?:=by
 by_cases h:i<s.size
 · rw[getElem?_pos s i h,ar (by rw[Cu];omega)]
   rfl
 · rw[getElem?_neg s i h,fm (by rw[Cu];omega)]
theorem adx{s:ByteArray}{i p:Nat}(h:p+1+i=s.size):∃b,s[i]? = some b∧∃hp:p<(xT s).length,(xT s)[p]=b.toNat:=by
 have hs:=Cu s;have hi:i<s.data.toList.length:=by omega
 refine⟨s.data.toList[i],by rw[Gr];exact ar hi,by rw[Gq];omega,?_⟩;simp only[xT,List.getElem_map,List.getElem_reverse]
 congr 2
 omega
theorem oE(n:Int):apX (kA n)=n.natAbs:=by
 have e:xT (kA n)=digs 256 n.natAbs:=by
  simp only[xT,kA,oD,List.reverse_reverse,←List.map_reverse,List.map_map];have hd:dV 256 (digs 256 n.natAbs):=yF (by omega) _;have:∀l:List Nat,dV 256 l→l.map (lk∘oc)=l:=by
   intro l hl;refine (ji fun x hx=>?_).trans (List.map_id l);simp only[Function.comp_apply,id_eq,pq];exact lp (hl x hx)
  exact this _ hd
 rw[apX,e,vV (by omega)]
theorem Pp{m n:Nat}(h:m<9223372036854775808):IntKind.i64.wrap ((m:Int).tdiv (n:Int))=((m / n:Nat):Int):=by
 rw[←Int.ofNat_tdiv];have:m / n≤m:=lf m n;exact bH (by have:=Int.natCast_nonneg (m / n);omega) (by omega)
theorem ai5{xs:List Nat}{n:Nat}(h:xs.length≤n):val 256 (xs.drop n)=0:=by rw[List.drop_of_length_le h];rfl
def qI(l:List UInt8):ByteArray:=⟨l.toArray⟩
theorem rD(l:List UInt8):(qI l).data.toList=l:=by simp[qI]
theorem agX{l k:List UInt8}(h:qI l=qI k):l=k:=by rw[←rD l,h,rD]
theorem Hj(l:List UInt8):(qI l).size=l.length:=by rw[←Cu,rD]
theorem agY(l:List UInt8)(i:Nat):(qI l)[i]? = l[i]?:=by rw[Gr,rD]
theorem ady(l:List UInt8)(n:Nat):(qI l).extract n (qI l).size=qI (l.drop n):=by
 apply ByteArray.ext;rw[ByteArray.data_extract];apply qj;rw[Array.toList_extract,rD,Hj];simp only[qI,List.extract_eq_take_drop,ec];exact bf (by simp)
theorem abE(l:List UInt8):(qI l=⟨#[]⟩)=(l=[]):=by
 apply propext;constructor
 · intro h
   exact agX (k:=[]) h
 · rintro rfl;rfl
def vY(l:List UInt8):List UInt8:=l.dropWhile (· == 0)
theorem adz{l:List UInt8}{b:UInt8}(h:l[0]? = some b)(hb:b.toNat=0):vY (l.drop 1)=vY l:=by
 cases l with
 | nil=>cases h
 | cons c l =>
  simp at h;subst h;have:c=0:=UInt8.toNat_inj.1 hb;subst this;simp[vY]
theorem adA{l:List UInt8}{b:UInt8}(h:l[0]? = some b)(hb:¬b.toNat=0):vY l=l:=by
 cases l with
 | nil=>rfl
 | cons c l =>
  simp at h;subst h;have:¬c=0:=fun e=>hb (by rw[e];rfl);simp[vY,this]
theorem agZ:vY []=[]:=rfl
end Go.Lith
namespace Go.Lith
open Go.RowKit
variable{w:am}{D:Nat}
section
variable {P:bz} {ds:List dl} {l:List ak} {x y z0:cd} {T T' ty:ay}
abbrev u8v(b:UInt8):ak:=.int .u8 (b.toNat:Int)
theorem adB{w:am}{base n:Nat}{E:ay}{v:ak}{bs:List UInt8}(hs:P.underlying T=some (.slice E))(he:P.underlying E=some (.int .u8))(hd:P.underlying T'=some .string)(hx:ev l x=v)(hown:Oz w base E 1 v n (bs.map u8v)) :
 Aa P l (.convert T T' x) ty (.string (qI bs)) w:=fun o ho _=>by
 have hn:bs.length=n:=by have:=hown.1;simpa using this
 rcases hown.row with ⟨rfl,rfl,h⟩ | ⟨g,cap,rfl,_,_,_,_,hr⟩
 · obtain rfl:bs=[]:=by simpa using h
   simp only[da,ho,bW,hx];rw[Sem.run_bind,run_convert_bytes_nil w T E hs he 0 0 T' hd];rfl
 · subst hn
   have:=run_convert_bytes_back (P:=P) w T T' E ⟨g,0,none⟩ cap bs hs he hd (fun j hj=>hr j _ (by simp[hj]));simp only[da,ho,bW,hx];rw[Sem.run_bind,this];rfl
end
structure Def(w:am)(D:Nat):Prop where
 h:w.heap[D]? = some (.deferred (some []))
theorem Def.ext{w':am}(h:Def w D)(hE:dY w w'):Def w' D:=⟨hE.block h.h⟩
theorem Def.ne{g:Nat}{cs:List ak}{t:ay}(h:Def w D)(hB:fE w g cs t):D≠g:=fun e=>by
 subst e;have:=h.h;rw[hB] at this;cases this
theorem Def.chg{w':am}{g:Nat}(h:Def w D)(hC:Chg w w' g)(hne:D≠g):Def w' D:=⟨(hC.block D hne).trans h.h⟩
theorem fE.putD{g:Nat}{cs:List ak}{t:ay}(hB:fE w g cs t)(h:Def w D){o:Obj}:fE (w.putObj D o) g cs t:=(World.putObj_heap_other (Ne.symm (h.ne hB))).trans hB
theorem dY.putD{w0:am}(hX:dY w0 w)(hD:w0.heap.size≤D){o:Obj}:dY w0 (w.putObj D o) :=
 ⟨hX.os,hX.tape,hX.output,by rw[World.putObj_size];exact hX.size,fun k hk=>(World.putObj_heap_other (by omega)).trans (Below.block hX k hk)⟩
theorem adC{P:bz}{l:List ak}{n:Nat}{fn:Func}{R:Ending→am→Prop}{D:Nat}{w:am}(hK:Def w D)(h:bodyPost P fn R .ret (Fr l) (w.putObj D (.deferred none))) :
 bodyPostM Fence.wide n P fn R .ret (Fr l [{ target:=.collected D,args:=#[] }]) w:=by
 refine⟨by simp,.inl ⟨D,_,O,run_takeDeferred hK.h,?_⟩⟩;obtain⟨_,v,hv,hR⟩:=h;exact⟨v,hv,hR⟩
end Go.Lith
namespace Go.Lith
variable{n a:Int}{k m X:Nat}
def wb(x:Nat):List UInt8:=[oc (x / 16777216),oc (x / 65536),oc (x / 256),oc x]
def wbs(l:List (Nat × Nat)):List UInt8:=l.flatMap fun x=>wb x.2
theorem ai6(l:List (Nat × Nat))(x:Nat × Nat):wbs (l++[x])=wbs l++wb x.2:=by simp[wbs]
theorem Rb(l:List (Nat × Nat)):(wbs l).length=4*l.length:=by
 induction l with
 | nil=>rfl
 | cons x l ih=>rw[wbs,List.flatMap_cons,a_];rw[wbs] at ih;rw[ih];simp[wb];omega
def sgn(neg:Bool)(n:Nat):Int:=if neg then -(n:Int) else n
theorem Rc(neg:Bool)(n:Nat):(sgn neg n).natAbs=n:=by cases neg <;> simp[sgn]
theorem afi(neg:Bool)(n:Nat):fM (sgn neg n)=(neg&&decide (n≠0)):=by
 cases neg
 · simp[sgn,fM]
 · rcases ff n with h | h
   · subst h;rfl
   · have h2:n≠0:=by omega
     simp[sgn,fM,h,h2]
theorem Vt(ys:List Nat)(h:dV 4294967296 ys):val 256 (((ys.reverse.flatMap wb).reverse).map lk)=val 4294967296 ys∧dV 256 (((ys.reverse.flatMap wb).reverse).map lk):=by
 induction ys with
 | nil=>exact⟨rfl,fun _ h=>by cases h⟩
 | cons y ys ih =>
  have hy:=h y (by simp);obtain⟨i1,i2⟩:=ih (fun x hx=>h x (by simp[hx]));have e:(((y::ys).reverse.flatMap wb).reverse).map lk=[y%256,y / 256%256,y / 65536%256,y / 16777216%256]++(((ys.reverse.flatMap wb).reverse).map lk):=by
   simp[List.flatMap_append,wb,pq]
  rw[e];refine⟨?_,?_⟩
  · rw[iR,i1]
    simp only[val,az,List.length_nil];omega
  · refine dV.append ?_ i2
    intro x hx;simp at hx;omega
theorem abG{l:List UInt8}:vY l=((trim ((l.reverse).map lk)).reverse).map oc:=by
 induction l with
 | nil=>rfl
 | cons b l ih =>
  have hk:∀k:List Nat,∀x:Nat,trim (k++[x])=if x=0 then trim k else k++[x]:=fun k x=>by
   split
   · rename_i h;subst h;exact rA k
   · rename_i h;exact tD h k
  rw[List.reverse_cons,List.map_append,bi,List.map_nil,hk];by_cases hb:b=0
  · subst hb
    rw[if_pos (show lk 0=0 from rfl),←ih];simp[vY]
  · have hb':¬b.toNat=0:=fun e=>hb (UInt8.toNat_inj.1 e)
    rw[if_neg hb'];simp[vY,hb,Function.comp_def]
theorem adD{ys:List Nat}(h:dV 4294967296 ys)(neg:Bool):qI (vY (ys.reverse.flatMap wb))=kA (sgn neg (val 4294967296 ys)):=by
 obtain⟨h1,h2⟩:=Vt ys h;rw[abG,Af (by omega) h2 h1,kA,Rc,oD];rfl
theorem Re{neg:Bool}{n:Nat}:(kA (sgn neg n)=⟨#[]⟩)↔n=0:=by
 constructor
 · intro h
   have:=Wv (sgn neg n);rw[h,Rc] at this;have h0:digs 256 n=[]:=eo this.symm;exact (wX (by omega)).1 h0
 · rintro rfl
   cases neg <;> rfl
class Bw(k:outParam Nat)(n:Int):Prop where
 h:Bd k n
instance {a b:Nat}{m n:Int}[x:Bw a m][y:Bw b n]:Bw (max a b+1) (m+n):=⟨x.h.add y.h⟩
instance {a b:Nat}{m n:Int}[x:Bw a m][y:Bw b n]:Bw (max a b+1) (m-n):=⟨x.h.sub y.h⟩
instance {a b:Nat}{m n:Int}[x:Bw a m][y:Bw b n]:Bw (a+b) (m*n):=⟨x.h.mul y.h⟩
instance:Bw 1 0:=⟨Ph 1⟩
theorem Ll(h:fM n=true):n<0:=of_decide_eq_true h
theorem Rf(h:fM n=false):0≤n:=rf.1 (of_decide_eq_false h)
theorem natAbs_neg(h:fM n=true):(n.natAbs:Int) = -n:=by have:=Ll h;omega
theorem lC(h:fM n=false):(n.natAbs:Int)=n:=by have:=Rf h;omega
theorem Cv(n:Nat):sgn true n = -(n:Int):=rfl
theorem vJ(n:Nat):sgn false n=(n:Int):=rfl
theorem abH(a:Int):sgn (fM a) a.natAbs=a:=by
 cases h:fM a
 · rw[vJ,lC h]
 · rw[Cv,natAbs_neg h];omega
theorem am1(a:Int):sgn (!fM a) a.natAbs = -a:=by
 cases h:fM a
 · rw[Bool.not_false,Cv,lC h]
 · rw[Bool.not_true,vJ,natAbs_neg h]
theorem am2{b:Int}(h:fM a=fM b):sgn (fM a) (a.natAbs+b.natAbs)=a+b:=by
 cases ha:fM a <;> rw[ha] at h
 · have h1:=lC ha;have h2:=lC h.symm;rw[vJ];omega
 · have h1:=natAbs_neg ha;have h2:=natAbs_neg h.symm;rw[Cv];omega
theorem apY{b:Int}(h:¬fM a=fM b)(hl:a.natAbs<b.natAbs):sgn (fM b) (b.natAbs-a.natAbs)=a+b:=by
 cases ha:fM a <;> cases hb:fM b <;> rw[ha,hb] at h
 · exact absurd O h
 · have h1:=lC ha;have h2:=natAbs_neg hb;rw[Cv];omega
 · have h1:=natAbs_neg ha;have h2:=lC hb;rw[vJ];omega
 · exact absurd O h
theorem apZ{b:Int}(h:¬fM a=fM b)(hl:b.natAbs≤a.natAbs):sgn (fM a) (a.natAbs-b.natAbs)=a+b:=by
 cases ha:fM a <;> cases hb:fM b <;> rw[ha,hb] at h
 · exact absurd O h
 · have h1:=lC ha;have h2:=natAbs_neg hb;rw[vJ];omega
 · have h1:=natAbs_neg ha;have h2:=lC hb;rw[Cv];omega
 · exact absurd O h
theorem am3{b:Int}:sgn (decide (¬fM a=fM b)) (a.natAbs*b.natAbs)=a*b:=by
 cases ha:fM a <;> cases hb:fM b
 · have h1:=lC ha;have h2:=lC hb
   show ((a.natAbs*b.natAbs:Nat):Int)=_
   rw[nj,h1,h2]
 · have h1:=lC ha;have h2:=natAbs_neg hb
   show -((a.natAbs*b.natAbs:Nat):Int)=_
   rw[nj,h1,h2,Int.mul_neg,Int.neg_neg]
 · have h1:=natAbs_neg ha;have h2:=lC hb
   show -((a.natAbs*b.natAbs:Nat):Int)=_
   rw[nj,h1,h2,Int.neg_mul,Int.neg_neg]
 · have h1:=natAbs_neg ha;have h2:=natAbs_neg hb
   show ((a.natAbs*b.natAbs:Nat):Int)=_
   rw[nj,h1,h2,Int.neg_mul_neg]
def bR(n:Int):Int:=if n<0 then -1 else if 0<n then 1 else 0
theorem Xa(h:n<0):bR n = -1:=by rw[bR,if_pos h]
theorem Xb(h:0<n):bR n=1:=by rw[bR,if_neg (by omega),if_pos h]
def fB:Nat→Nat
 | 0=>0
 | n+1=>if (fB n+1)*(fB n+1)≤n+1 then fB n+1 else fB n
theorem vZ:∀n,fB n*fB n≤n∧n<(fB n+1)*(fB n+1)
 | 0=>by simp[fB]
 | n+1=>by
  obtain⟨h1,h2⟩:=vZ n;simp only[fB];split
  · rename_i h
    refine⟨h,?_⟩;have:(fB n+1+1)*(fB n+1+1)=(fB n+1)*(fB n+1)+2*fB n+3:=by grind
    omega
  · rename_i h
    exact⟨by omega,by omega⟩
theorem Zw{n r:Nat}(h1:r*r≤n)(h2:n<(r+1)*(r+1)):r=fB n:=by
 obtain⟨g1,g2⟩:=vZ n;rcases Nat.lt_trichotomy r (fB n) with h | h | h
 · have:=jo (show r+1≤fB n from h) (show r+1≤fB n from h);omega
 · exact h
 · have:=jo (show fB n+1≤r from h) (show fB n+1≤r from h);omega
theorem Cw{V:Nat}(h:V<2^k):(digs 4294967296 V).length≤k:=by
 refine fF (by omega) (cw h ?_);rw[show (4294967296:Nat)=2^32 from rfl,←qu];exact f_ (by omega) (by omega)
theorem qJ(h:Bd 1000000 n):(kA n).size≤1000000000000:=aw (Zm h) (by decide)
theorem ag0{b:Int}(ha:Bd k a)(hb:Bd k b):(digs 4294967296 (a.natAbs+b.natAbs)).length≤k+1:=Cw (by unfold Bd at ha hb;rw[ix];omega)
theorem Cx(h:Bd k n):(digs 4294967296 n.natAbs).length≤k:=Cw h
theorem Rg{n:Nat}(h:m≤n):(digs 4294967296 m).length≤(digs 4294967296 n).length:=by
 refine fF (by omega) (ib h ?_);have:=lW (mJ n);rwa [cO] at this
theorem afj  : (((digs 4294967296 a.natAbs).length:Int)=0)↔a=0:=by
 constructor
 · intro h
   have h0:digs 4294967296 a.natAbs=[]:=eo (by omega);have:=(wX (by omega)).1 h0;omega
 · rintro rfl;rfl
def pV(n:Int):Prop:=-9223372036854775808≤n∧n<9223372036854775808
theorem pV.bd(h:pV n):Bd 64 n:=Bd.of_i64 h.1 (by have:=h.2;omega)
theorem ap0(h:pV n)(h0:0≤n):IntKind.u64.wrap n=(n.natAbs:Int):=by
 rw[iQ];have:=h.2;omega
theorem am4(h:pV n)(h0:n<0):IntKind.u64.wrap n=((18446744073709551616-n.natAbs:Nat):Int):=by
 rw[iQ];have:=h.1;omega
theorem ag1(h:m≤9223372036854775808)(h0:0<m):IntKind.u64.wrap (0-((18446744073709551616-m:Nat):Int))=(m:Int):=by
 rw[iQ];omega
theorem Xc  : val 4294967296 [m%4294967296,m / 4294967296]=m:=by simp[val];omega
theorem Rh(h:m<18446744073709551616):dV 4294967296 [m%4294967296,m / 4294967296]:=fun x hx=>by simp at hx;omega
theorem pV.natAbs(h:pV n):n.natAbs≤9223372036854775808:=by have:=h.1;have:=h.2;omega
theorem ag2{r:Nat}(h0:0<r):X<((r+X / r) / 2+1)*((r+X / r) / 2+1):=by
 generalize hq:X / r=q;have h1:X<r*(q+1):=by
  have:=Nat.lt_mul_div_succ X h0;rw[hq] at this;exact this
 generalize hs:(r+q) / 2=s;have h2:r+q+1≤2*(s+1):=by omega
 have h3:(r+(q+1))*(r+(q+1))≤(2*(s+1))*(2*(s+1)):=jo (by omega) (by omega);have h4:4*(r*(q+1))≤(r+(q+1))*(r+(q+1)):=by
  generalize q+1=p;rcases Nat.le_total r p with h | h
  · obtain⟨d,rfl⟩:=Nat.exists_eq_add_of_le h
    have e:(r+(r+d))*(r+(r+d))=4*(r*(r+d))+d*d:=by grind
    omega
  · obtain⟨d,rfl⟩:=Nat.exists_eq_add_of_le h
    have e:(p+d+p)*(p+d+p)=4*((p+d)*p)+d*d:=by grind
    omega
 have h5:(2*(s+1))*(2*(s+1))=4*((s+1)*(s+1)):=by grind
 omega
theorem ag3{r:Nat}(h0:0<r)(hx:X<(r+1)*(r+1))(h:r≤(r+X / r) / 2):r=fB X:=by
 refine Zw ?_ hx;have h1:r≤X / r:=by omega
 exact (Nat.le_div_iff_mul_le h0).1 h1
theorem Xd{r:Nat}(h:¬r≤(r+X / r) / 2):(r+X / r) / 2<r:=by omega
theorem adE{n:Nat}(h:X<4294967296^n):X<(4294967296^((n+1) / 2)+1)*(4294967296^((n+1) / 2)+1):=by
 have h1:4294967296^n≤4294967296^((n+1) / 2)*4294967296^((n+1) / 2):=by
  rw[←mf];exact f_ (by omega) (by omega)
 generalize 4294967296^((n+1) / 2)=p at *
 generalize 4294967296^n=m at *
 have:(p+1)*(p+1)=p*p+2*p+1:=by grind
 omega
def Qc(n d:Int):Go.Value:=.agg #[.bool (fM n),.string (kA n),.bool (fM d),.string (kA d)]
def Q(q:Rat):Go.Value:=Qc q.num q.den
end Go.Lith
namespace Go.Lith
open Go.RowKit
variable{w:am}{base i k m:Nat}
theorem Oz.full{g n:Nat}{E:ay}{cs:List ak}(hB:fE w g cs E)(hb:base≤g)(hn:cs.length=n)(hl:n≤9223372036854775807):Oz w base E 1 (.slice (some ⟨g,0,none⟩) n n) n cs:=by
 refine⟨by simpa using hn,.inr ⟨g,n,cs.toArray,O,hb,hB,av _,hl,by simpa using hn,?_⟩⟩;simp[←hn]
theorem dY.refl_of{g:Nat}{cs:List ak}{t:ay}(_:fE w g cs t):dY w w:=dY.refl w
theorem dY.ext{a b c:am}(h:dY a b)(k:dY b c):dY a c:=h.trans k
theorem dF.grew{w0 w':am}{A:Option Addr}{n cap:Nat}{xs:List Nat}(h:dF w0 A n cap xs)(hE:dY w0 w)(hG:agK w w' base)(hb:w0.heap.size≤base):dF w' A n cap xs :=
 ⟨h.eq,fun i x hi=>by
  obtain⟨a,e,hc⟩:=h.row i x hi;have h1:=World.block_lt_of_cell? _ _ hc;have h2:=hE.cell hc;exact⟨a,e,(World.cell?_of_block (hG.block _ (cw h1 hb))).trans h2⟩,h.le,h.cap,h.len,h.digs⟩
theorem Xe(n:Nat):cl n 0++[1]=digs 4294967296 (4294967296^n):=by
 refine wW (B:=4294967296) (by omega) ?_ (mJ _) (tD (by omega) _) (iS _) ?_
 · intro x hx
   simp at hx;omega
 · rw[iR,gZ,cO,ny]
   simp[val]
theorem ap1{a b j:Nat}(ha:a<4294967296^i)(hb:b<4294967296^j):a+b<4294967296^(i+j+1):=by
 rw[ix,mf];have h1:0<4294967296^i:=j_ (by omega);have h2:0<4294967296^j:=j_ (by omega);generalize 4294967296^i=p at *
 generalize 4294967296^j=q at *
 have h3:p≤p*q:=Nat.le_mul_of_pos_right _ h2;have h4:q≤p*q:=Nat.le_mul_of_pos_left _ h1;generalize p*q=m at *
 omega
theorem Ri{a b:Nat}:0≤ord a b↔b≤a:=by
 unfold ord;split
 · omega
 · split <;> omega
theorem ai7{X r:Nat}(h0:0<r)(hx:X<(r+1)*(r+1))(hX:0<X):0<(r+X / r) / 2:=by
 rcases dz r 2 with h | h
 · obtain rfl:r=1:=by omega
   rw[Nat.div_one];omega
 · generalize X / r=q;omega
structure P3 where
 x:Int
 y:Int
 z:Int
structure T3 where
 a:P3
 b:P3
 c:P3
namespace P3
def sub(p q:P3):P3:=⟨p.x-q.x,p.y-q.y,p.z-q.z⟩
def dot(p q:P3):Int:=p.x*q.x+p.y*q.y+p.z*q.z
def cross(u v:P3):P3:=⟨u.y*v.z-u.z*v.y,u.z*v.x-u.x*v.z,u.x*v.y-u.y*v.x⟩
end P3
def T3.normal(t:T3):P3:=(t.b.sub t.a).cross (t.c.sub t.a)
def pt(p:P3):Go.Value:=.agg #[.int .i64 p.x,.int .i64 p.y,.int .i64 p.z]
def tr(t:T3):Go.Value:=.agg #[.int .i64 t.a.x,.int .i64 t.a.y,.int .i64 t.a.z,.int .i64 t.b.x,.int .i64 t.b.y,.int .i64 t.b.z,.int .i64 t.c.x,.int .i64 t.c.y,.int .i64 t.c.z]
def wv(v:P3):Go.Value:=.agg #[.bool (fM v.x),.string (kA v.x),.bool (fM v.y),.string (kA v.y),.bool (fM v.z),.string (kA v.z)]
theorem Bw.up{n:Int}[x:Bw k n](h:k≤m:=by decide):Bd m n:=x.h.mono h
theorem Lm:kA 0=⟨#[]⟩:=by
 have:oD 0=[]:=by
  unfold oD;rw[(wX (B:=256) (by omega)).2 rfl];rfl
 simp only[kA,Int.natAbs_zero,this]
theorem Zx:W 0=.agg #[.bool false,.string ⟨#[]⟩]:=by simp only[W,Lm];rfl
class Iw(n:Int):Prop where
 h:pV n
class I3(p:P3):Prop where
 x:pV p.x
 y:pV p.y
 z:pV p.z
class IT(t:T3):Prop where
 a:I3 t.a
 b:I3 t.b
 c:I3 t.c
instance {p:P3}[h:I3 p]:Iw p.x:=⟨h.x⟩
instance {p:P3}[h:I3 p]:Iw p.y:=⟨h.y⟩
instance {p:P3}[h:I3 p]:Iw p.z:=⟨h.z⟩
instance {t:T3}[h:IT t]:I3 t.a:=h.a
instance {t:T3}[h:IT t]:I3 t.b:=h.b
instance {t:T3}[h:IT t]:I3 t.c:=h.c
instance {n:Int}[h:Iw n]:Bw 64 n:=⟨h.h.bd⟩
class Bv(k:outParam Nat)(v:P3):Prop where
 x:Bd k v.x
 y:Bd k v.y
 z:Bd k v.z
instance {k:Nat}{v:P3}[h:Bv k v]:Bw k v.x:=⟨h.x⟩
instance {k:Nat}{v:P3}[h:Bv k v]:Bw k v.y:=⟨h.y⟩
instance {k:Nat}{v:P3}[h:Bv k v]:Bw k v.z:=⟨h.z⟩
theorem Bv.mono{v:P3}(h:Bv k v)(hk:k≤m):Bv m v:=⟨h.x.mono hk,h.y.mono hk,h.z.mono hk⟩
theorem Bv.of{v:P3}[h:Bv k v](hk:k≤m:=by decide):Bv m v:=h.mono hk
instance {p q:P3}[a:I3 p][b:I3 q]:Bv 65 (p.sub q):=⟨a.x.bd.sub b.x.bd,a.y.bd.sub b.y.bd,a.z.bd.sub b.z.bd⟩
theorem Zy{l:Nat}{a b c d:Int}(ha:Bd k a)(hb:Bd l b)(hc:Bd k c)(hd:Bd l d):Bd (k+l+1) (a*b-c*d):=by
 have:=(ha.mul hb).sub (hc.mul hd);exact this.mono (by omega)
theorem ai8{l:Nat}{a b c d:Int}(ha:Bd k a)(hb:Bd l b)(hc:Bd k c)(hd:Bd l d):Bd (k+l+1) (a*b+c*d):=by
 have:=(ha.mul hb).add (hc.mul hd);exact this.mono (by omega)
instance {k l:Nat}{u v:P3}[a:Bv k u][b:Bv l v]:Bv (k+l+1) (u.cross v):=⟨Zy a.y b.z a.z b.y,Zy a.z b.x a.x b.z,Zy a.x b.y a.y b.x⟩
instance {k l:Nat}{u v:P3}[a:Bv k u][b:Bv l v]:Bw (k+l+2) (u.dot v):=⟨((ai8 a.x b.x a.y b.y).add (a.z.mul b.z)).mono (by omega)⟩
instance {t:T3}[h:IT t]:Bv 131 t.normal:=inferInstanceAs (Bv 131 ((t.b.sub t.a).cross (t.c.sub t.a)))
theorem P3.dot0{u v:P3}:0+u.x*v.x+u.y*v.y+u.z*v.z=u.dot v:=by simp only[P3.dot,Int.zero_add]
section
variable {P:bz} {Q:Exit→Act→am→Prop} {a:Act} {w:am} {c:Code} {n:Nat}
theorem Cy(h:c.wp P (Exit.then (Code.rounds P c Q n) Q) a w):Code.rounds P c Q (n+1) a w:=h
theorem mK(h:c.wp P (Exit.then (Code.rounds P c Q n) Q) a w):Exit.then (Code.rounds P c Q (n+1)) Q .normal a w:=h
end
inductive rZ where
 | nil:rZ
 | take:Nat→rZ→rZ
 | one:Nat→rZ→rZ
 | two:Nat→rZ→Nat→rZ→rZ
 | three:Nat→rZ→Nat→rZ→Nat→rZ→rZ
section
variable {P:bz} {ops:Array Oper} {md:Region.Mode} {S:am→Prop}
def rZ.ok(md:Region.Mode)(ops:Array Oper):rZ→Nat→Array Bool→Bool
 | .nil,f,listed=>f == 0&&(Region.ready md ops listed).isEmpty
 | .take i t,f,listed=>decide (0<f)&&(ops[i]?).isSome&&Region.free md ops listed i&&(Region.ready md ops listed).contains i&&t.ok md ops (f-1) (listed.setIfInBounds i true)
 | .one i t,f,listed=>decide (0<f)&&(ops[i]?).isSome&&decide (Region.ready md ops listed=[i])&&t.ok md ops (f-1) (listed.setIfInBounds i true)
 | .two i t j u,f,listed=>decide (0<f)&&(ops[i]?).isSome&&(ops[j]?).isSome&&decide (Region.ready md ops listed=[i,j])&&t.ok md ops (f-1) (listed.setIfInBounds i true)&&u.ok md ops (f-1) (listed.setIfInBounds j true)
 | .three i t j u k v,f,listed=>decide (0<f)&&(ops[i]?).isSome&&(ops[j]?).isSome&&(ops[k]?).isSome&&decide (Region.ready md ops listed=[i,j,k])&&t.ok md ops (f-1) (listed.setIfInBounds i true)&&u.ok md ops (f-1) (listed.setIfInBounds j true)&&v.ok md ops (f-1) (listed.setIfInBounds k true)
def cD(P:bz)(ops:Array Oper)(S:am→Prop)(Q:Exit→Act→am→Prop):rZ→Act→am→Prop
 | .nil,a,w=>Q .normal a w
 | .take i t,a,w=>bJ P ops S (fun _ a w=>cD P ops S Q t a w) [((ops[i]?).getD default,true)] a w
 | .one i t,a,w=>au P ops (Exit.then (fun a w=>S w∧cD P ops S Q t a w) Q) [(ops[i]?).getD default] a w
 | .two i t j u,a,w=>au P ops (Exit.then (fun a w=>S w∧cD P ops S Q t a w) Q) [(ops[i]?).getD default] a w∧au P ops (Exit.then (fun a w=>S w∧cD P ops S Q u a w) Q) [(ops[j]?).getD default] a w
 | .three i t j u k v,a,w=>au P ops (Exit.then (fun a w=>S w∧cD P ops S Q t a w) Q) [(ops[i]?).getD default] a w∧au P ops (Exit.then (fun a w=>S w∧cD P ops S Q u a w) Q) [(ops[j]?).getD default] a w∧au P ops (Exit.then (fun a w=>S w∧cD P ops S Q v a w) Q) [(ops[k]?).getD default] a w
theorem kB{Q:Exit→Act→am→Prop}{K:Act→am→Prop}{o:Oper}(ho:ops[i]? = some o){a:Act}{w:am}(h:au P ops (Exit.then K Q) [o] a w):wpOp P ops Q i K a w:=by
 unfold wpOp;simp only[ho];simp only[au] at h;split
 · rename_i hw
   rw[if_pos hw] at h;rcases h with h | ⟨ha,x,y,hl⟩
   · refine .inl ?_
     unfold mc at h ⊢;generalize (da a.eval o).run P w=res at *
     cases res with
     | ok n w' =>
      cases n <;> simp only[nq] at h ⊢ <;>
       first
        | exact h
        | exact Calls.mono h (fun e w'' he=>by cases e <;> exact he)
        | exact Rows.mono h (fun _ _ he=>he)
     | halt x w'=>cases x <;> simp only[nq] at h ⊢ <;> exact h
   · exact .inr ⟨ha,x,y,hl⟩
 · rename_i hw
   rw[if_neg hw] at h;exact h
theorem jL{Q:Exit→Act→am→Prop}(hs:Region.noSelect ops=true)(hQ:∀c d v a w,Q (.panic c) (Act.put a d v) w→Q (.panic c) a w):∀(t:rZ) (f:Nat) (listed:Array Bool) (a:Act) (w:am),
 t.ok md ops f listed=true→S w→cD P ops S Q t a w→wpAnyH P md ops Q S f listed a w
 | .nil,f,listed,a,w,hB,_,h=>by
  simp only[rZ.ok,bh,beq_iff_eq] at hB;obtain⟨rfl,h2⟩:=hB;exact⟨by simpa using h2,h⟩
 | .take i t,f,listed,a,w,hB,hS,h=>by
  simp only[rZ.ok,bh,decide_eq_true_eq] at hB;obtain⟨⟨⟨⟨h0,h1⟩,h2⟩,h3⟩,h4⟩:=hB;obtain⟨o,ho⟩:=di.1 h1;simp only[cD,bJ,ho,de] at h;obtain⟨v,hy,hr⟩:=h;obtain⟨f,rfl⟩:∃g,f=g+1:=⟨f-1,by omega⟩
  exact wpAnyH_take ho hs h2 h3 (fun c a w=>hQ c _ v a w) hy hS (jL hs hQ t f _ _ _ h4 hS hr)
 | .one i t,f,listed,a,w,hB,hS,h=>by
  simp only[rZ.ok,bh,decide_eq_true_eq] at hB;obtain⟨⟨⟨h0,h1⟩,h2⟩,h4⟩:=hB;obtain⟨o,ho⟩:=di.1 h1;obtain⟨f,rfl⟩:∃g,f=g+1:=⟨f-1,by omega⟩
  refine wpAnyH_all h2 (by simp) fun j hj=>?_;obtain rfl:j=i:=by simpa using hj
  simp only[cD,ho,de] at h;exact wpOp_mono (fun a' w' hh=>⟨hh.1,jL hs hQ t f _ a' w' h4 hh.1 hh.2⟩) (kB ho h)
 | .two i t j u,f,listed,a,w,hB,hS,h=>by
  simp only[rZ.ok,bh,decide_eq_true_eq] at hB;obtain⟨⟨⟨⟨⟨h0,h1⟩,h1'⟩,h2⟩,h4⟩,h5⟩:=hB;obtain⟨o,ho⟩:=di.1 h1;obtain⟨o',ho'⟩:=di.1 h1';obtain⟨f,rfl⟩:∃g,f=g+1:=⟨f-1,by omega⟩
  simp only[cD,ho,ho',de] at h;refine wpAnyH_all h2 (by simp) fun k hk=>?_;have hk':k=i∨k=j:=by simpa using hk
  rcases hk' with rfl | rfl
  · exact wpOp_mono (fun a' w' hh=>⟨hh.1,jL hs hQ t f _ a' w' h4 hh.1 hh.2⟩) (kB ho h.1)
  · exact wpOp_mono (fun a' w' hh=>⟨hh.1,jL hs hQ u f _ a' w' h5 hh.1 hh.2⟩) (kB ho' h.2)
 | .three i t j u k v,f,listed,a,w,hB,hS,h=>by
  simp only[rZ.ok,bh,decide_eq_true_eq] at hB;obtain⟨⟨⟨⟨⟨⟨⟨h0,h1⟩,h1'⟩,h1''⟩,h2⟩,h4⟩,h5⟩,h6⟩:=hB;obtain⟨o,ho⟩:=di.1 h1;obtain⟨o',ho'⟩:=di.1 h1';obtain⟨o'',ho''⟩:=di.1 h1'';obtain⟨f,rfl⟩:∃g,f=g+1:=⟨f-1,by omega⟩
  simp only[cD,ho,ho',ho'',de] at h;refine wpAnyH_all h2 (by simp) fun m hm=>?_;have hm':m=i∨m=j∨m=k:=by simpa using hm
  rcases hm' with rfl | rfl | rfl
  · exact wpOp_mono (fun a' w' hh=>⟨hh.1,jL hs hQ t f _ a' w' h4 hh.1 hh.2⟩) (kB ho h.1)
  · exact wpOp_mono (fun a' w' hh=>⟨hh.1,jL hs hQ u f _ a' w' h5 hh.1 hh.2⟩) (kB ho' h.2.1)
  · exact wpOp_mono (fun a' w' hh=>⟨hh.1,jL hs hQ v f _ a' w' h6 hh.1 hh.2⟩) (kB ho'' h.2.2)
theorem Rj{id:Nat}{Q:Exit→Act→am→Prop}{a:Act}{w:am}{l:List Oper}(t:rZ)(hm:P.follows .mixedOrders=true)(hB:(Region.noSelect l.toArray&&t.ok .any l.toArray l.toArray.size (fy l.toArray.size false))=true)
 (hQ:∀c d v a w,Q (.panic c) (Act.put a d v) w→Q (.panic c) a w)
 (h:∀w',dY w w'→∃S,asm w' S∧cD P l.toArray S Q t a w'):(Code.region id l.toArray true).wp P Q a w:=by
 simp only[bh] at hB;obtain⟨S,hS,h⟩:=h _ (dY.refl w).drawn;exact wp_region_held (S:=S) hm (jL (md:=.any) hB.1 hQ t _ _ a _ hB.2 hS h)
variable {Q:Exit→Act→am→Prop} {a:Act} {w:am} {o o':Oper} {i j:Nat} {t u:rZ}
theorem Gs(h:Q .normal a w):cD P ops S Q .nil a w:=h
theorem fD(ho:(ops[i]?).getD default=o)(h:bJ P ops S (fun _ a w=>cD P ops S Q t a w) [(o,true)] a w):cD P ops S Q (.take i t) a w:=by subst ho;exact h
theorem oM(ho:(ops[i]?).getD default=o)(h:au P ops (Exit.then (fun a w=>S w∧cD P ops S Q t a w) Q) [o] a w):cD P ops S Q (.one i t) a w:=by subst ho;exact h
theorem abI(ho:(ops[i]?).getD default=o)(ho':(ops[j]?).getD default=o')(h:au P ops (Exit.then (fun a w=>S w∧cD P ops S Q t a w) Q) [o] a w)(h':au P ops (Exit.then (fun a w=>S w∧cD P ops S Q u a w) Q) [o'] a w):cD P ops S Q (.two i t j u) a w:=by
 subst ho;subst ho';exact⟨h,h'⟩
end
section
variable {P:bz} {ops:Array Oper} {md:Region.Mode} {w0:am}
def YE(P:bz)(ops:Array Oper)(w0:am)(o:Oper)(v:ak)(a:Act):Prop :=
 (Region.wanted o (yielded ops a.tmps)=true∧∀w,dY w0 w→o.quietAt P a (dY w) w v)∨(Region.wanted o (yielded ops a.tmps)=false∧v=undef)
theorem YE.of_same{o:Oper}{v:ak}{a a':Act}(hy:YE P ops w0 o v a)(he:da a'.eval o=da a.eval o)
 (hw:Region.wanted o (yielded ops a'.tmps)=Region.wanted o (yielded ops a.tmps)):YE P ops w0 o v a':=by
 unfold YE m_ at *
 rw[he,hw];exact hy
def qE(P:bz)(ops:Array Oper)(w0:am)(i:Nat)(K:Act→Prop)(a:Act):Prop:=∃o v,ops[i]? = some o∧YE P ops w0 o v a∧K (a.put o.dst v)
theorem am5{a:Act}{K K':Act→Prop}(h:∀a,K a→K' a)(hh:qE P ops w0 i K a):qE P ops w0 i K' a :=
 let ⟨o,v,h1,h2,h3⟩:=hh;⟨o,v,h1,h2,h _ h3⟩
theorem ap2{j:Nat}{oi oj:Oper}{v:ak}(hj:ops[j]? = some oj)(hap:oi.apart ops oj=true)(hsi:∀cs b,oi.op≠.select cs b)(hsj:∀cs b,oj.op≠.select cs b){K:Act→Prop}{a:Act}
 (hy:YE P ops w0 oi v a) (h:qE P ops w0 j K (a.put oi.dst v)):qE P ops w0 j (fun a'=>YE P ops w0 oi v a'∧K (a'.put oi.dst v)) a:=by
 obtain⟨h1,h2,h3⟩:=Oper.apart_spec hap;obtain⟨o,u,ho,hu,hk⟩:=h;rw[hj] at ho;cases ho;refine⟨oj,u,hj,hu.of_same (execOp_put oj hsj a oi.dst v h1).symm (wanted_put oj a oi.dst v h1).symm,hy.of_same (execOp_put oi hsi a oj.dst u h3) (wanted_put oi a oj.dst u h3),?_⟩;rw[←Act.put_comm a v u h2];exact hk
def Rk(P:bz)(md:Region.Mode)(ops:Array Oper)(w0:am)(n:Nat)(L:Array Bool→Act→Prop):Nat→Array Bool→Act→Prop
 | 0,listed,a=>L listed a
 | f+1,listed,a=>Region.ready md ops listed≠[]∧∀i∈Region.ready md ops listed,i<n∧qE P ops w0 i (Rk P md ops w0 n L f (listed.setIfInBounds i true)) a
theorem Zz{n i:Nat}{oi:Oper}{v:ak}{L:Array Bool→Act→Prop}(hi:ops[i]? = some oi)(hsel:∀(j:Nat) (o:Oper) cs b,ops[j]? = some o→o.op≠.select cs b)
 (hs:Region.sinkB md ops n=true) (hc:Region.chainB md ops n=true) (hn:n<ops.size) (hin:i<n)
 (hdone:∀listed a,L listed a→∀j∈Region.ready md ops listed,n≤j) :
 ∀(f:Nat) (listed:Array Bool) (a:Act),HeadInv md ops n listed →
  (∀j oj,ops[j]? = some oj→j≠i→listed.getD j true=false→(∀e∈oj.after,Region.binds md e=true→e.on≠i)→oi.apart ops oj=true) →
  i∈Region.ready md ops listed→YE P ops w0 oi v a →
  Rk P md ops w0 n L f (listed.setIfInBounds i true) (a.put oi.dst v)→Rk P md ops w0 n L (f+1) listed a:=by
 intro f
 induction f with
 | zero =>
  intro listed a inv _ hr hy H;have hun:=(mem_ready.1 hr).1;refine⟨fun h=>(by rw[h] at hr;cases hr),fun j hj=>?_⟩;have hjn:j<n:=by
   rcases dz j n with h | h
   · exact h
   · exact absurd hj (tail_waits hs hc hn inv _ i O hin hun j h)
  refine⟨hjn,?_⟩;by_cases hji:j=i
  · subst hji;exact⟨oi,v,hi,hy,H⟩
  · have:=hdone _ _ H j (ready_mono hj hji)
    omega
 | succ f ih =>
  intro listed a inv hfree hr hy H;have hun:=(mem_ready.1 hr).1;refine⟨fun h=>(by rw[h] at hr;cases hr),fun j hj=>?_⟩;have hjn:j<n:=by
   rcases dz j n with h | h
   · exact h
   · exact absurd hj (tail_waits hs hc hn inv _ i O hin hun j h)
  refine⟨hjn,?_⟩;by_cases hji:j=i
  · subst hji;exact⟨oi,v,hi,hy,H⟩
  · have h1:=(H.2 j (ready_mono hj hji)).2
    obtain⟨hjun,oj,hoj,hall⟩:=mem_ready.1 hj;have hnot:∀e∈oj.after,Region.binds md e=true→e.on≠i:=fun e he hb heq=>by
     have h1:=hall e he hb;rw[heq,getD_both hun] at h1;cases h1
    have h2:=ap2 hoj (hfree j oj hoj hji hjun hnot) (fun cs b=>hsel i oi cs b hi) (fun cs b=>hsel j oj cs b hoj) hy h1;have hfree':∀k ok,ops[k]? = some ok→k≠i→(listed.setIfInBounds j true).getD k true=false →
     (∀e∈ok.after,Region.binds md e=true→e.on≠i)→oi.apart ops ok=true:=fun k ok hk hki hun hno=>by
     refine hfree k ok hk hki ?_ hno;by_cases hjk:j=k
     · subst hjk;exact hjun
     · rw[getD_set_ne true hjk] at hun;exact hun
    refine am5 (fun a' h3=>ih (listed.setIfInBounds j true) a' (inv.set hj hjn) hfree' (ready_mono hr (Ne.symm hji)) h3.1 ?_) h2;rw[ot _ _ hji];exact h3.2
def Cz(P:bz)(ops:Array Oper)(w0:am)(L:Act→Prop):List Oper→Act→Prop
 | [],a=>L a
 | o::r,a=>∃v,YE P ops w0 o v a∧Cz P ops w0 L r (a.put o.dst v)
def ai9(md:Region.Mode)(ops:Array Oper)(g n:Nat):List Nat→Array Bool→Bool
 | [],listed=>Region.seqB md ops g n listed
 | i::r,listed=>(ops[i]?).isSome&&decide (i<n)&&(Region.ready md ops listed).contains i&&Region.free md ops listed i&&ai9 md ops g n r (listed.setIfInBounds i true)
theorem Rl{n g:Nat}{L:Act→Prop}(hsel:Region.noSelect ops=true)(hs:Region.sinkB md ops n=true)(hc:Region.chainB md ops n=true)(hn:n<ops.size) :
 ∀(l:List Nat) (listed:Array Bool) (a:Act),HeadInv md ops n listed→ai9 md ops g n l listed=true→Cz P ops w0 L (l.map fun i=>(ops[i]?).getD default) a →
 Rk P md ops w0 n (fun listed' a'=>Region.seqB md ops g n listed'=true∧L a') l.length listed a
 | [],listed,a,_,hB,h=>⟨by simpa[ai9] using hB,h⟩
 | i::l,listed,a,inv,hB,h=>by
  simp only[ai9,bh,decide_eq_true_eq] at hB;obtain⟨⟨⟨⟨h1,h2⟩,h3⟩,h4⟩,h5⟩:=hB;obtain⟨o,ho⟩:=di.1 h1;simp only[bi,Cz,ho,de] at h;obtain⟨v,hy,hr⟩:=h;have hi':i∈Region.ready md ops listed:=by simpa using h3
  exact Zz ho (Region.noSelect_spec hsel) hs hc hn h2 (fun listed' a' hL=>seqB_ready hL.1) l.length listed a inv (Region.free_spec ho h4) hi' hy (Rl hsel hs hc hn l _ _ (inv.set hi' h2) h5 hr)
structure Al where
 i:Nat
 d:Nat
 T:ay
 cs:List ak
def Aj(P:bz)(md:Region.Mode)(ops:Array Oper)(x:Al):Prop :=
 ∃ty pos after,ops[x.i]? = some (bp (some x.d) (.alloc x.T) ty pos after none)∧(after.all fun e=>!Region.binds md e)=true∧∃z,pU P x.T z∧z.cells=x.cs.toArray
def gU(E:Nat→Option ak):List Al→Act→Act
 | [],a=>a
 | x::r,a=>match E x.i with
  | some v=>gU E r (a.put (some x.d) v)
  | none=>gU E r a
def Ak(ops:Array Oper)(o:Oper)(al:List Al):Bool:=al.all fun x=>!(o.looksAt ops).contains x.d&&o.dst != some x.d
theorem Da{E:Nat→Option ak}{o:Oper}(hs:∀cs b,o.op≠.select cs b):∀{al:List Al},Ak ops o al=true→∀a,da (gU E al a).eval o=da a.eval o∧Region.wanted o (yielded ops (gU E al a).tmps)=Region.wanted o (yielded ops a.tmps)
 | [],_,a=>⟨rfl,rfl⟩
 | x::r,hc,a=>by
  simp only[Ak,List.all_cons,bh,ij] at hc;have hr:Ak ops o r=true:=by simp only[Ak,bh,ij] ;simpa using hc.2
  have hd:x.d∉o.looksAt ops:=by simpa using hc.1.1
  unfold gU;split
  · obtain⟨h1,h2⟩:=Da (E:=E) hs hr (a.put (some x.d) _)
    rename_i v _;exact⟨h1.trans (execOp_put o hs a (some x.d) v (fun d e=>by cases e;exact hd)),h2.trans (wanted_put o a (some x.d) v (fun d e=>by cases e;exact hd))⟩
  · exact Da hs hr a
theorem Hk{E:Nat→Option ak}{o:Oper}{v:ak}:∀{al:List Al},Ak ops o al=true→∀a,(gU E al a).put o.dst v=gU E al (a.put o.dst v)
 | [],_,a=>rfl
 | x::r,hc,a=>by
  simp only[Ak,List.all_cons,bh,ij,bne_iff_ne,ne_eq] at hc;have hr:Ak ops o r=true:=by simp only[Ak,bh,ij] ;simpa using hc.2
  unfold gU;split
  · rename_i u _
    rw[Hk hr,Act.put_comm a u v (fun d e=>by cases e;exact hc.1.2)]
  · exact Hk hr a
theorem Rm{E:Nat→Option ak}{x:Al}{v:ak}:∀{al:List Al},(al.map (·.i)).Nodup→(al.map (·.d)).Nodup→x∈al→E x.i=none→∀a,(gU E al a).put (some x.d) v=gU (fun j=>if j=x.i then some v else E j) al a
 | [],_,_,hx,_,_=>by cases hx
 | y::r,hi,hd,hx,he,a=>by
  simp only[bi,fz] at hi hd;have same:∀(l:List Al),x.i∉l.map (·.i)→∀a,gU (fun j=>if j=x.i then some v else E j) l a=gU E l a:=by
   intro l
   induction l with
   | nil=>intro _ a;rfl
   | cons z l ih =>
    intro hn a;simp only[bi,ao,not_or] at hn;unfold gU;simp only[Ne.symm hn.1,if_false];split <;> exact ih hn.2 _
  have push:∀(l:List Al),x.d∉l.map (·.d)→∀a,(gU E l a).put (some x.d) v=gU E l (a.put (some x.d) v):=by
   intro l
   induction l with
   | nil=>intro _ a;rfl
   | cons z l ih =>
    intro hn a;simp only[bi,ao,not_or] at hn;unfold gU;split
    · rename_i u _
      rw[ih hn.2,Act.put_comm a u v (fun d e=>by cases e;simp;exact hn.1)]
    · exact ih hn.2 _
  rcases ao.1 hx with rfl | hx
  · unfold gU
    simp only[he,if_true];rw[push r hd.1,same r hi.1]
  · have hne:y.i≠x.i:=fun e=>hi.1 (by rw[e];exact ft hx)
    unfold gU;simp only[hne,if_false];split <;> exact Rm hi.2 hd.2 hx he _
def cnt(E:Nat→Option ak)(al:List Al):Nat:=(al.filter fun x=>(E x.i).isNone).length
theorem afk{E:Nat→Option ak}{x:Al}{v:ak}:∀{al:List Al},(al.map (·.i)).Nodup→x∈al→E x.i=none→cnt E al=cnt (fun j=>if j=x.i then some v else E j) al+1
 | [],_,hx,_=>by cases hx
 | y::r,hi,hx,he=>by
  simp only[bi,fz] at hi;have same:∀(l:List Al),x.i∉l.map (·.i)→cnt (fun j=>if j=x.i then some v else E j) l=cnt E l:=by
   intro l
   induction l with
   | nil=>intro _;rfl
   | cons z l ih =>
    intro hn;simp only[bi,ao,not_or] at hn;have:=ih hn.2;unfold cnt at *
    rw[ep,ep];simp only[Ne.symm hn.1,if_false];split <;> simp[this]
  rcases ao.1 hx with rfl | hx
  · have:=same r hi.1
    unfold cnt at *
    rw[ep,ep];simp[he,this]
  · have hne:y.i≠x.i:=fun e=>hi.1 (by rw[e];exact ft hx)
    have:=afk (v:=v) hi.2 hx he;unfold cnt at *
    rw[ep,ep];simp only[hne,if_false];split <;> simp[this]
theorem abJ{E:Nat→Option ak}{al:List Al}(h:cnt E al=0):∀x∈al,∃v,E x.i=some v:=fun x hx=>by
 unfold cnt at h;have:=List.filter_eq_nil_iff.1 (eo h) x hx;cases he:E x.i with
 | none=>simp[he] at this
 | some v=>exact⟨v,rfl⟩
theorem am6{E:Nat→Option ak}{al:List Al}(h:0<cnt E al):∃x∈al,E x.i=none:=by
 unfold cnt at h;obtain⟨x,hx⟩:=List.length_pos_iff_exists_mem.1 h;obtain⟨h1,h2⟩:=List.mem_filter.1 hx;exact⟨x,h1,by simpa using h2⟩
def Ln(base:Nat)(E:Nat→Option ak)(al:List Al)(w:am):Prop :=
 (∀x∈al,∀v,E x.i=some v→∃g,v=.pointer (some ⟨g,0,none⟩)∧base≤g∧fE w g x.cs x.T) ∧
 (∀x∈al,∀y∈al,x.i≠y.i→∀g g',E x.i=some (.pointer (some ⟨g,0,none⟩))→E y.i=some (.pointer (some ⟨g',0,none⟩))→g≠g')
theorem Ln.ext{E:Nat→Option ak}{al:List Al}{w w':am}(h:Ln base E al w)(hE:dY w w'):Ln base E al w' :=
 ⟨fun x hx v hv=>let ⟨g,e,hb,hB⟩:=h.1 x hx v hv;⟨g,e,hb,hB.ext hE⟩,h.2⟩
theorem Ln.new{base:Nat}{E:Nat→Option ak}{al:List Al}{w:am}(h:Ln base E al w){x:Al}(hx:x∈al)(hi:(al.map (·.i)).Nodup)(he:E x.i=none)(hb:base≤w.heap.size) :
 Ln base (fun j=>if j=x.i then some (.pointer (some ⟨w.heap.size,0,none⟩)) else E j) al (w.alloc (.cells x.cs.toArray x.T)):=by
 have huniq:∀y∈al,y.i=x.i→y=x:=by
  intro y hy e;clear h
  induction al with
  | nil=>cases hx
  | cons z r ih =>
   simp only[bi,fz] at hi;rcases ao.1 hx with rfl | hx'
   · rcases ao.1 hy with rfl | hy'
     · rfl
     · exact absurd (by rw[←e];exact ft hy') hi.1
   · rcases ao.1 hy with rfl | hy'
     · exact absurd (by rw[e];exact ft hx') hi.1
     · exact ih hx' hi.2 hy'
 refine⟨fun y hy v hv=>?_,fun y hy z hz hne g g' h1 h2=>?_⟩
 · by_cases e:y.i=x.i
   · obtain rfl:=huniq y hy e
     simp only[if_true] at hv;cases hv;exact⟨_,O,hb,jP w _ _⟩
   · simp only[e,if_false] at hv
     obtain⟨g,e1,e2,e3⟩:=h.1 y hy v hv;exact⟨g,e1,e2,e3.ext ((dY.refl w).alloc _)⟩
 · by_cases e:y.i=x.i
   · have e':z.i≠x.i:=fun e2=>hne (e.trans e2.symm)
     simp only[e,if_true] at h1;simp only[e',if_false] at h2;cases h1;obtain⟨g2,e1,_,e3⟩:=h.1 z hz _ h2;cases e1;exact Nat.ne_of_gt e3.lt
   · by_cases e':z.i=x.i
     · simp only[e,if_false] at h1
       simp only[e',if_true] at h2;cases h2;obtain⟨g2,e1,_,e3⟩:=h.1 y hy _ h1;cases e1;exact Nat.ne_of_lt e3.lt
     · simp only[e,if_false] at h1
       simp only[e',if_false] at h2;exact h.2 y hy z hz hne g g' h1 h2
def aaa(md:Region.Mode)(ops:Array Oper)(n:Nat)(al:List Al):Bool :=
 decide ((al.map (·.i)).Nodup)&&decide ((al.map (·.d)).Nodup)&&(al.all fun x=>decide (x.i<n)) &&
 ((gm n).all fun j=>(al.any fun x=>x.i == j)||match ops[j]? with
  | some o=>Ak ops o al&&o.after.all fun e=>!Region.binds md e || !(al.any fun x=>x.i == e.on)
  | none=>true)
theorem sim{n g:Nat}{al:List Al}{L:Act→Prop}{Q':Exit→Act→am→Prop}{tl:List Oper}(hsel:Region.noSelect ops=true)(hs:Region.sinkB md ops n=true)(hc:Region.chainB md ops n=true)(hn:n<ops.size)
 (hal:∀x∈al,Aj P md ops x) (hB:aaa md ops n al=true) (htl:∀j,tl[j]? = ops[n+j]?) (hgl:tl.length=g)
 (hL:∀a E w,dY w0 w→Ln w0.heap.size E al w→(∀x∈al,∃v,E x.i=some v)→L a→au P ops Q' tl (gU E al a) w) :
 ∀(k f:Nat) (E:Nat→Option ak) (lr lm:Array Bool) (a:Act) (w:am),k=f+cnt E al→HeadInv md ops n lr→lm.size=lr.size→(∀j,lm.getD j false=(lr.getD j false||al.any fun x=>x.i == j)) →
  (∀x∈al,(E x.i=none↔lr.getD x.i false=false))→dY w0 w→Ln w0.heap.size E al w →
  Rk P md ops w0 n (fun listed' a'=>Region.seqB md ops g n listed'=true∧L a') f lm a→re P md ops Q' (k+g) lr (gU E al a) w:=by
 simp only[aaa,bh,decide_eq_true_eq,dt,gn] at hB;obtain⟨⟨⟨hni,hnd⟩,hlt⟩,hcl⟩:=hB;intro k
 induction k with
 | zero =>
  intro f E lr lm a w hk inv hsz hlm hE hx hla H;obtain rfl:f=0:=by omega
  have h0:cnt E al=0:=by omega
  have hall:=abJ h0;have heq:lm=lr:=by
   apply rd hsz;intro j h1 h2;have h3:=hlm j;simp only[n_,ig h1,ig h2,de] at h3;rw[h3];cases hlr:lr[j] with
   | true=>rfl
   | false =>
    rw[kj];cases hany:al.any fun x=>x.i == j with
    | false=>rfl
    | true =>
     obtain⟨x,hx1,hx2⟩:=d_.1 hany;have hx3:x.i=j:=by simpa using hx2
     obtain⟨v,hv⟩:=hall x hx1;have:lr.getD x.i false=false:=by
      rw[hx3,n_,ig h2];simpa using hlr
     rw[(hE x hx1).2 this] at hv;cases hv
  subst heq;obtain⟨H1,H2⟩:=H;rw[ap,←hgl];exact wpAny_of_seq (md:=md) tl n lm _ w htl (by rw[hgl];exact H1) (hL a E w hx hla hall H2)
 | succ k ih =>
  intro f E lr lm a w hk inv hsz hlm hE hx hla H;have getT:∀j,j<ops.size→lr.getD j false=false→lr.getD j true=false:=fun j hj h=>getD_in (by rw[inv.size];exact hj) h
  -- some head operation is not listed
  have hsome:∃j,j∈Region.ready md ops lr∧j<n:=by
   rcases ff (cnt E al) with h0 | h0
   · obtain⟨f,rfl⟩:∃q,f=q+1:=⟨f-1,by omega⟩
     obtain⟨hne,hr⟩:=H;obtain⟨j,hj⟩:=List.exists_mem_of_ne_nil _ hne;have hjn:=(hr j hj).1;refine⟨j,?_,hjn⟩;have hall:=abJ h0;obtain⟨hju,oj,hoj,hpre⟩:=mem_ready.1 hj;refine mem_ready.2 ⟨?_,oj,hoj,fun e he hb=>?_⟩
     · have h1:=hlm j
       rw[getD_both hju] at h1;have h2:lr.getD j false=false:=by
        cases h:lr.getD j false with
        | false=>rfl
        | true=>rw[h] at h1;simp at h1
       exact getT j (by omega) h2
     · have h1:=hlm e.on
       rw[hpre e he hb] at h1;cases h:lr.getD e.on false with
       | true=>rfl
       | false =>
        rw[h,kj] at h1;obtain⟨x,hx1,hx2⟩:=d_.1 h1.symm;have hx3:x.i=e.on:=by simpa using hx2
        obtain⟨v,hv⟩:=hall x hx1;rw[(hE x hx1).2 (by rw[hx3];exact h)] at hv;cases hv
   · obtain⟨x,hx1,hx2⟩:=am6 h0
     obtain⟨ty,pos,after,hop,haf,_⟩:=hal x hx1;have hxn:x.i<n:=by simpa using hlt x hx1
     refine⟨x.i,mem_ready.2 ⟨getT _ (by omega) ((hE x hx1).1 hx2),_,hop,fun e he hb=>?_⟩,hxn⟩;have:=Array.all_eq_true_iff_forall_mem.1 haf e he;simp[hb] at this
  obtain⟨j0,hj0,hj0n⟩:=hsome;have hj0u:=(mem_ready.1 hj0).1;rw[show k+1+g=(k+g)+1 by omega];refine⟨fun h=>(by rw[h] at hj0;cases hj0),fun i hi=>?_⟩;have hin:i<n:=by
   rcases dz i n with h | h
   · exact h
   · exact absurd hi (tail_waits hs hc hn inv _ j0 O hj0n hj0u i h)
  obtain⟨hiu,oi,hoi,hpre⟩:=mem_ready.1 hi;by_cases hia:al.any (fun x=>x.i == i)=true
  · -- an allocation
    obtain⟨x,hx1,hx2⟩:=d_.1 hia;obtain rfl:x.i=i:=by simpa using hx2
    obtain⟨ty,pos,after,hop,haf,z,hz,hzc⟩:=hal x hx1;have hex:E x.i=none:=(hE x hx1).2 (getD_both hiu);obtain⟨inf,hinf,hinz⟩:=hz;unfold wpOp;simp only[hop];rw[if_pos (by simp[Region.wanted])];refine .inl ?_;have hrun:∀ρ:cd→ak,(da ρ (bp (some x.d) (.alloc x.T) ty pos after none)).run P w=.ok (.value (.pointer (some ⟨w.heap.size,0,none⟩))) (w.alloc (.cells x.cs.toArray x.T)):=fun ρ=>by
     simp[da,Instr.alloc,zeroValue,typeInfo,hinf,hinz,newVar,newRow,hzc,newObj,Sem.run]
    unfold mc;rw[hrun];show re P md ops Q' (k+g) (lr.setIfInBounds x.i true) ((gU E al a).put (some x.d) (.pointer (some ⟨w.heap.size,0,none⟩))) _
    rw[Rm hni hnd hx1 hex];have hc1:=afk (v:=.pointer (some ⟨w.heap.size,0,none⟩)) hni hx1 hex;have hxs:x.i<lr.size:=by rw[inv.size];omega
    refine ih f _ _ lm a _ (by omega) (inv.set hi hin) (by simp[hsz]) (fun j=>?_) (fun y hy=>?_) (hx.alloc _) (hla.new hx1 hni hex hx.size) H
    · rw[hlm j]
      by_cases e:x.i=j
      · subst e
        rw[hia];simp
      · rw[getD_set_ne false e]
    · by_cases e:x.i=y.i
      · rw[←e]
        simp[hxs]
      · rw[getD_set_ne false e]
        simp only[Ne.symm e,if_false];exact hE y hy
  · -- an operation that computes
    have hia':al.any (fun x=>x.i == i)=false:=by simpa using hia
    have hci:=hcl i hin;rw[hia',kj,hoi] at hci;simp only[bh] at hci;have hready:i∈Region.ready md ops lm:=by
     refine mem_ready.2 ⟨?_,oi,hoi,fun e he hb=>by rw[hlm,hpre e he hb];rfl⟩;have h1:=hlm i;rw[getD_both hiu,hia'] at h1;exact getD_in (by rw[hsz,inv.size];omega) (by simpa using h1)
    cases f with
    | zero =>
     obtain⟨H1,H2⟩:=H;have:=seqB_ready H1 i hready;omega
    | succ f =>
     obtain⟨_,o,v,ho,hy,hK⟩:=H.2 i hready;rw[hoi] at ho;cases ho;have hse:∀cs b,oi.op≠.select cs b:=fun cs b=>Region.noSelect_spec hsel i oi cs b hoi;obtain⟨e1,e2⟩:=Da (E:=E) hse hci.1 a;have hy':=hy.of_same e1 e2;have key:∀w',dY w w'→re P md ops Q' (k+g) (lr.setIfInBounds i true) ((gU E al a).put oi.dst v) w':=fun w' hw'=>by
      rw[Hk hci.1];refine ih f E _ _ _ w' (by omega) (inv.set hi hin) (by simp[hsz]) (fun j=>?_) (fun y hy=>?_) (hx.trans hw') (hla.ext hw') hK
      · by_cases e:i=j
        · subst e
          have h1:i<lr.size:=by rw[inv.size];omega
          simp[h1,hsz]
        · rw[getD_set_ne false e,getD_set_ne false e,hlm j]
      · have e:i≠y.i:=fun e=>by
         have:al.any (fun x=>x.i == i)=true:=d_.2 ⟨y,hy,by simp[e]⟩;rw[hia'] at this;cases this
        rw[getD_set_ne false e];exact hE y hy
     unfold wpOp;simp only[hoi];rcases hy' with ⟨hw,hv⟩ | ⟨hw,rfl⟩
     · rw[if_pos hw]
       refine .inl ?_;have h3:=hv w hx;unfold m_ at h3;unfold mc;generalize (da (gU E al a).eval oi).run P w=r at *
       cases r with
       | ok nx w' =>
        cases nx <;> simp only[Oper.quietUpon] at h3 <;> simp only[nq]
        case value u =>
         obtain⟨e1,e2⟩:=h3;rw[e1,e2];exact key w (dY.refl w)
        case skip =>
         obtain⟨e1,e2⟩:=h3;rw[e1,←e2];exact key w (dY.refl w)
        case enter f' args =>
         obtain⟨e1,hcl⟩:=h3;rw[e1];exact hcl.mono fun e w'' ⟨he,hw''⟩=>by subst he;exact key w'' hw''
       | halt x w'=>simp only[Oper.quietUpon] at h3
     · rw[if_neg (by rw[hw];simp)]
       exact key w (dY.refl w)
theorem pO{id:Nat}{Q:Exit→Act→am→Prop}{a:Act}{w:am}{l:List Oper}(n:Nat)(idx:List Nat)(al:List Al)(hm:P.follows .mixedOrders=true)
 (hB:(Region.noSelect l.toArray&&decide (n<l.length)&&Region.sinkB .any l.toArray n&&Region.chainB .any l.toArray n&&aaa .any l.toArray n al&&decide (n=idx.length+al.length) &&
  ai9 .any l.toArray (l.length-n) n idx (al.foldl (fun s x=>s.setIfInBounds x.i true) (fy l.toArray.size false)))=true)
 (hal:∀x∈al,Aj P .any l.toArray x) {ol:List Oper} (hol:(idx.map fun i=>(l.toArray[i]?).getD default)=ol)
 (h:∀w1,dY w w1→Cz P l.toArray w1 (fun a'=>∀E w',dY w1 w'→Ln w1.heap.size E al w'→(∀x∈al,∃v,E x.i=some v)→au P l.toArray Q (l.drop n) (gU E al a') w') ol a):(Code.region id l.toArray true).wp P Q a w:=by
 simp only[bh,decide_eq_true_eq] at hB;obtain⟨⟨⟨⟨⟨⟨hsel,hn⟩,hs⟩,hc⟩,hf⟩,hlen⟩,hlex⟩:=hB;subst hol;have hn':n<l.toArray.size:=by simpa using hn
 have hf':=hf;simp only[aaa,bh,decide_eq_true_eq,dt,gn] at hf';obtain⟨⟨⟨hni,hnd⟩,hlt⟩,hcl⟩:=hf';generalize hlm:al.foldl (fun s x=>s.setIfInBounds x.i true) (fy l.toArray.size false)=lm at hlex;have hfold:∀(r:List Al) (s:Array Bool),(r.foldl (fun s x=>s.setIfInBounds x.i true) s).size=s.size∧∀j,j<s.size→(r.foldl (fun s x=>s.setIfInBounds x.i true) s).getD j false=(s.getD j false||r.any fun x=>x.i == j):=by
  intro r
  induction r with
  | nil=>intro s;exact⟨O,fun j _=>by simp⟩
  | cons x r ih =>
   intro s;obtain⟨h1,h2⟩:=ih (s.setIfInBounds x.i true);refine⟨by rw[jp,h1];simp,fun j hj=>?_⟩;rw[jp,h2 j (by simpa using hj),List.any_cons];by_cases e:x.i=j
   · subst e
     simp[hj]
   · have e2:(x.i == j)=false:=by simpa using e
     rw[getD_set_ne false e,e2,kj]
 obtain⟨hsz,hget⟩:=hfold al (fy l.toArray.size false);rw[hlm] at hsz hget;have hsz':lm.size=l.toArray.size:=by rw[hsz];simp
 have hlmj:∀j,lm.getD j false=al.any fun x=>x.i == j:=fun j=>by
  rcases dz j l.toArray.size with hj | hj
  · rw[hget j (by simpa using hj),getD_replicate_false,kj]
  · have h1:lm.getD j false=false:=by rw[n_,Array.getElem?_eq_none (by omega)];rfl
    rw[h1]
    symm
    rw[Bool.eq_false_iff];intro h2;obtain⟨x,hx1,hx2⟩:=d_.1 h2;have hx3:x.i=j:=by simpa using hx2
    have:x.i<n:=by simpa using hlt x hx1
    omega
 have inv0:HeadInv .any l.toArray n (fy l.toArray.size false) :=
  ⟨by simp,fun j oj _ hl=>(by rw[getD_replicate_false] at hl;cases hl),fun t _ ht=>getD_in (by simpa using ht) (getD_replicate_false _ _)⟩
 have invm:HeadInv .any l.toArray n lm:=by
  refine⟨hsz',fun j oj hoj hl e he hb=>?_,fun t ht ht'=>getD_in (by rw[hsz'];exact ht') ?_⟩
  · rw[hlmj] at hl
    obtain⟨x,hx1,hx2⟩:=d_.1 hl;have hx3:x.i=j:=by simpa using hx2
    obtain⟨ty,pos,after,hop,haf,_⟩:=hal x hx1;rw[hx3,hoj] at hop;cases hop;have:=Array.all_eq_true_iff_forall_mem.1 haf e he;simp[hb] at this
  · rw[hlmj,Bool.eq_false_iff]
    intro h2;obtain⟨x,hx1,hx2⟩:=d_.1 h2;have hx3:x.i=t:=by simpa using hx2
    have:x.i<n:=by simpa using hlt x hx1
    omega
 refine wp_region_any hm ?_;obtain⟨w1,hw1⟩:∃w1,w1=({ w with drawn:=w.drawn+1 }:am):=⟨_,rfl⟩
 rw[←hw1];have hx1:dY w w1:=by rw[hw1];exact (dY.refl w).drawn
 have H:=Rl (md:=.any) (g:=l.length-n) hsel hs hc hn' idx lm a invm hlex (h w1 hx1);have hcnt:cnt (fun _=>none) al=al.length:=by
  unfold cnt;simp
 have key:=sim (md:=.any) (P:=P) (ops:=l.toArray) (w0:=w1) (Q':=Q) (tl:=l.drop n) (g:=l.length-n) (al:=al) hsel hs hc hn' hal hf (fun j=>by simp[eb]) (by simp) (fun a E w' hw' hla hall hL=>hL E w' hw' hla hall)
  (idx.length+al.length) idx.length (fun _=>none) (fy l.toArray.size false) lm a w1 (by rw[hcnt]) inv0 (by rw[hsz'];simp) (fun j=>by rw[getD_replicate_false,kj];exact hlmj j)
  (fun x _=>⟨fun _=>getD_replicate_false _ _,fun _=>rfl⟩) (dY.refl w1) ⟨fun x _ v hv=>(by cases hv),fun x _ y _ _ g g' h1 _=>(by cases h1)⟩ H
 have hap:∀r:List Al,gU (fun _=>none) r a=a:=by
  intro r
  induction r with
  | nil=>rfl
  | cons x r ih=>exact ih
 rw[hap,←hlen] at key;have e:n+(l.length-n)=l.toArray.size:=by rw[List.size_toArray];omega
 rwa [e] at key
end
section
variable {P:bz} {ops:Array Oper} {w0:am} {L:Act→Prop} {ds:List dl} {l:List ak} {rest:List Oper} {d:Nat} {op:Op} {ty:ay} {pos:String} {after:Array Edge} {v:ak} {x y:cd} {T:ay}
theorem aja(hr:∀w,dY w0 w→Aa P l op ty v w)(h:Cz P ops w0 L rest (Fr (l.set d v) ds)):Cz P ops w0 L (bp (some d) op ty pos after none::rest) (Fr l ds):=by
 refine⟨v,.inl ⟨by simp[Region.wanted],fun w hw=>?_⟩,?_⟩
 · unfold m_
   rw[iZ,hr w hw _ rfl rfl];exact⟨O,O⟩
 · show Cz P ops w0 L rest ((Fr l ds).put (some d) v)
   rw[gY];exact h
theorem jF(hr:iO P l op ty v)(h:Cz P ops w0 L rest (Fr (l.set d v) ds)):Cz P ops w0 L (bp (some d) op ty pos after none::rest) (Fr l ds):=aja (fun w _=>hr w) h
theorem nU{a:Addr}(hx:ev l x=.pointer (some a))(hv:∀w',dY w0 w'→nO P w' T a v)(h:Cz P ops w0 L rest (Fr (l.set d v) ds)):Cz P ops w0 L (bp (some d) (.load T x) ty pos after none::rest) (Fr l ds) :=
 aja (fun _ hE=>aZ hx (hv _ hE)) h
theorem Pq{f:FuncId}{fo:cd}{xs:Array cd}{args:List ak}{first cap:Array ak}{a0:Array ay}(hf:ev l fo=.func (.func f) first cap)(hxs:first.toList++xs.toList.map (ev l)++cap.toList=args)(hc:∀w',dY w0 w'→dR P f args w' fun u _=>u=v)
 (h:Cz P ops w0 L rest (Fr (l.set d v) ds)):Cz P ops w0 L (bp (some d) (.call { callee:=.value fo,args:=xs,argTypes:=a0 }) ty pos after none::rest) (Fr l ds):=by
 refine⟨v,.inl ⟨by simp[Region.wanted],fun w hw=>?_⟩,?_⟩
 · unfold m_
   rw[iZ,oX (hc w hw).1 hf hxs _ rfl];refine⟨O,(hc w hw).2.mono ?_⟩;rintro e w'' ⟨u,rfl,hE,rfl⟩;exact⟨O,hE⟩
 · show Cz P ops w0 L rest ((Fr l ds).put (some d) v)
   rw[gY];exact h
theorem vD{f:FuncId}{fo:cd}{xs:Array cd}{args:List ak}{first cap:Array ak}{a0:Array ay}(hf:ev l fo=.func (.func f) first cap)(hxs:first.toList++xs.toList.map (ev l)++cap.toList=args)(hc:gS P f args v)
 (h:Cz P ops w0 L rest (Fr (l.set d v) ds)):Cz P ops w0 L (bp (some d) (.call { callee:=.value fo,args:=xs,argTypes:=a0 }) ty pos after none::rest) (Fr l ds) :=
 Pq hf hxs (fun w' _=>hc w') h
theorem afl(h:L (Fr l ds)):Cz P ops w0 L [] (Fr l ds):=h
theorem al1{md:Region.Mode}{x:Al}(h:Aj P md ops x):∀y∈[x],Aj P md ops y:=fun y hy=>by
 rcases ao.1 hy with rfl | hy
 · exact h
 · cases hy
theorem al2{md:Region.Mode}{x y:Al}(h:Aj P md ops x)(k:Aj P md ops y):∀z∈[x,y],Aj P md ops z:=fun z hz=>by
 rcases ao.1 hz with rfl | hz
 · exact h
 · exact al1 k z hz
variable {Q:Exit→Act→am→Prop} {tl:List Oper}
theorem ap3{i d:Nat}{T:ay}{cs:List ak}(h:∀w' g,dY w0 w'→w0.heap.size≤g→fE w' g cs T→au P ops Q tl (Fr (l.set d (.pointer (some ⟨g,0,none⟩))) ds) w') :
 ∀E w',dY w0 w'→Ln w0.heap.size E [⟨i,d,T,cs⟩] w'→(∀x∈[(⟨i,d,T,cs⟩:Al)],∃v,E x.i=some v)→au P ops Q tl (gU E [⟨i,d,T,cs⟩] (Fr l ds)) w':=fun E w' hE hL hv=>by
 obtain⟨v,hv⟩:=hv ⟨i,d,T,cs⟩ (by simp);obtain⟨g,rfl,hg,hB⟩:=hL.1 ⟨i,d,T,cs⟩ (by simp) v hv;have e:gU E [⟨i,d,T,cs⟩] (Fr l ds)=Fr (l.set d (.pointer (some ⟨g,0,none⟩))) ds:=by
  simp only[gU,hv];exact gY _ _
 rw[e];exact h w' g hE hg hB
theorem ap4{i d j e:Nat}{T U:ay}{cs us:List ak}(hij:i≠j)(h:∀w' g k,dY w0 w'→w0.heap.size≤g→w0.heap.size≤k→fE w' g cs T→fE w' k us U→k≠g→au P ops Q tl (Fr ((l.set d (.pointer (some ⟨g,0,none⟩))).set e (.pointer (some ⟨k,0,none⟩))) ds) w') :
 ∀E w',dY w0 w'→Ln w0.heap.size E [⟨i,d,T,cs⟩,⟨j,e,U,us⟩] w'→(∀x∈[(⟨i,d,T,cs⟩:Al),⟨j,e,U,us⟩],∃v,E x.i=some v)→au P ops Q tl (gU E [⟨i,d,T,cs⟩,⟨j,e,U,us⟩] (Fr l ds)) w':=fun E w' hE hL hv=>by
 obtain⟨v,h1⟩:=hv ⟨i,d,T,cs⟩ (by simp);obtain⟨u,h2⟩:=hv ⟨j,e,U,us⟩ (by simp);obtain⟨g,rfl,hg,hB⟩:=hL.1 ⟨i,d,T,cs⟩ (by simp) v h1;obtain⟨k,rfl,hk,hK⟩:=hL.1 ⟨j,e,U,us⟩ (by simp) u h2;have e':gU E [⟨i,d,T,cs⟩,⟨j,e,U,us⟩] (Fr l ds)=Fr ((l.set d (.pointer (some ⟨g,0,none⟩))).set e (.pointer (some ⟨k,0,none⟩))) ds:=by
  simp only[gU,h1,h2];rw[gY,gY]
 rw[e'];exact h w' g k hE hg hk hB hK (Ne.symm (hL.2 ⟨i,d,T,cs⟩ (by simp) ⟨j,e,U,us⟩ (by simp) hij g k h1 h2))
end
end Go.Lith
namespace Go.Lith
section
variable {P:bz} {ops:Array Oper} {w0:am} {ds:List dl} {l:List ak} {Q:Exit→Act→am→Prop} {tl:List Oper}
end
end Go.Lith
namespace Go.Lith
open Go.RowKit
variable{n:Int}
section
variable {P:bz} {ds:List dl} {l:List ak} {T ty:ay} {ops:Array Oper} {Q:Exit→Act→am→Prop} {rest:List Oper} {d:Nat} {pos:String} {after:Array Edge} {w:am}
theorem lX{E:ay}{c n:Nat}{z:ak}{parts:Array (Nat × cd)}{vs:Array (Nat × ak)}{base:Array ak}{cs:List ak}(hu:P.underlying T=some (.slice E))(hi:(P.info? E).map (fun i=>(i.size,i.zero))=some (c,some z))(h0:n*c≠0)(h24:n*c≤16777216)
 (hb:((px (n*c)).map fun i=>z.cells[i%z.cells.size]!)=base) (hp:(parts.map fun (i,x)=>(i,ev l x))=vs) (hf:Instr.fill (fun i=>some (i*c,c)) base vs.toList=some cs.toArray)
 (h:∀w' g,dY w w'→w.heap.size≤g→fE w' g cs E→au P ops Q rest (Fr (l.set d (.slice (some ⟨g,0,none⟩) n n)) ds) w') :
 au P ops Q (bp (some d) (.buildSlice T n parts) ty pos after none::rest) (Fr l ds) w:=by
 subst hb;subst hp;cases hq:P.info? E with
 | none=>rw[hq] at hi;cases hi
 | some i =>
  rw[hq] at hi;simp only[ew,fw,fc] at hi;obtain⟨e1,e2⟩:=hi;have e:(Fr l).eval=ev l:=funext bW;have h24':¬16777216<n*c:=by omega
  refine lU (w':=w.alloc (.cells cs.toArray E)) (v:=.slice (some ⟨w.heap.size,0,none⟩) n n) (fun o ho _=>?_) (h _ _ ((dY.refl w).alloc _) (av _) (jP w cs E));simp only[da,ho,e];simp[Instr.buildSlice,cj hu,sizeOf,typeInfo,zeroValue,hq,e1,e2,h24',newRow,newObj,Sem.run] at hf ⊢;rw[if_neg h0];simp[hf];rfl
end
def nv(v:P3):Go.Value:=.agg #[.int .i64 v.x,.int .i64 v.y,.int .i64 v.z]
def sg(v:P3):Go.Value:=.agg #[.int .i64 (bR v.x),.int .i64 (bR v.y),.int .i64 (bR v.z)]
class S3(p:P3):Prop where
 x:p.x.natAbs<262144
 y:p.y.natAbs<262144
 z:p.z.natAbs<262144
class N3(p:P3):Prop where
 x:p.x.natAbs<524288
 y:p.y.natAbs<524288
 z:p.z.natAbs<524288
instance {p q:P3}[a:S3 p][b:S3 q]:N3 (p.sub q):=⟨by have:=a.x;have:=b.x;simp only[P3.sub];omega,by have:=a.y;have:=b.y;simp only[P3.sub];omega,by have:=a.z;have:=b.z;simp only[P3.sub];omega⟩
theorem Ci{a b:Int}(ha:a.natAbs<524288)(hb:b.natAbs<524288) : -274877906944<a*b∧a*b<274877906944:=by
 have h:(a*b).natAbs≤524287*524287:=by rw[Int.natAbs_mul];exact jo (by omega) (by omega)
 omega
theorem ap5{x y:Int}(h : -274877906944<x∧x<274877906944)(k : -274877906944<y∧y<274877906944):IntKind.i64.wrap (x-y)=x-y:=bH (by omega) (by omega)
theorem Xf{x:Int}(h : -274877906944<x∧x<274877906944):IntKind.i64.wrap x=x:=bH (by omega) (by omega)
theorem Ca{v:Int}(h:pV v):IntKind.u64.wrap (if v<IntKind.i64.wrap (0-v) then IntKind.i64.wrap (0-v) else v)=(v.natAbs:Int):=by
 obtain⟨h1,h2⟩:=h;rcases Int.lt_or_le (-9223372036854775808) v with h3 | h3
 · rw[bH (x:=0-v) (by omega) (by omega),iQ]
   split <;> omega
 · obtain rfl:v = -9223372036854775808:=by omega
   decide
def am7:ByteArray:=⟨#[0,1,2,2,3,3,3,3,4,4,4,4,4,4,4,4,5,5,5,5,5,5,5,5,5,5,5,5,5,5,5,5,6,6,6,6,6,6,6,6,6,6,6,6,6,6,6,6,6,6,6,6,6,6,6,6,6,6,6,6,6,6,6,6,7,7,7,7,7,7,7,7,7,7,7,7,7,7,7,7,7,7,7,7,7,7,7,7,7,7,7,7,7,7,7,7,7,7,7,7,7,7,7,7,7,7,7,7,7,7,7,7,7,7,7,7,7,7,7,7,7,7,7,7,7,7,7,7,8,8,8,8,8,8,8,8,8,8,8,8,8,8,8,8,8,8,8,8,8,8,8,8,8,8,8,8,8,8,8,8,8,8,8,8,8,8,8,8,8,8,8,8,8,8,8,8,8,8,8,8,8,8,8,8,8,8,8,8,8,8,8,8,8,8,8,8,8,8,8,8,8,8,8,8,8,8,8,8,8,8,8,8,8,8,8,8,8,8,8,8,8,8,8,8,8,8,8,8,8,8,8,8,8,8,8,8,8,8,8,8,8,8,8,8,8,8,8,8,8,8,8,8,8,8,8,8]⟩
theorem ag4:∀i,i<256→∃b:UInt8,am7[i]? = some b∧b.toNat≤8∧(b.toNat≤2→i<4):=by
 have h:(gm 256).all (fun i=>match am7[i]? with
  | some b=>decide (b.toNat≤8)&&(decide (2<b.toNat)||decide (i<4))
  | none=>false)=true:=by decide +kernel
 intro i hi;have:=dt.1 h i (gn.2 hi);cases hb:am7[i]? with
 | none=>rw[hb] at this;cases this
 | some b =>
  rw[hb] at this;simp only[bh,Bool.or_eq_true,decide_eq_true_eq] at this;exact⟨b,O,this.1,fun h=>by omega⟩
section
variable {P:bz} {ds:List dl} {l:List ak} {x y:cd} {T ty:ay} {ops:Array Oper} {Q:Exit→Act→am→Prop} {rest:List Oper} {d:Nat} {pos:String} {after:Array Edge} {w:am} {k:IntKind}
theorem Db{Y:Nat}(hu:P.underlying T=some .string)(hx:ev l x=.string am7)(hy:ev l y=.int k (Y:Int))(hY:Y<256)(h:∀b:Nat,b≤8→(b≤2→Y<4)→au P ops Q rest (Fr (l.set d (.int .u8 (b:Int))) ds) w) :
 au P ops Q (bp (some d) (.index T x y) ty pos after none::rest) (Fr l ds) w:=by
 obtain⟨b,hb,h1,h2⟩:=ag4 Y hY;exact aB (vU hu hx hy (by omega) (by rw[ai];exact hb)) (h b.toNat h1 h2)
end
theorem ajb{m:Nat}:(m:Int).fdiv (2^(min (16:Int).toNat IntKind.u64.bits))=((m / 65536:Nat):Int):=by
 show (m:Int).fdiv (2^16)=_
 rw[io _ (by decide)];omega
theorem afm{m:Nat}:(m:Int).fdiv (2^(min (8:Int).toNat IntKind.u64.bits))=((m / 256:Nat):Int):=by
 show (m:Int).fdiv (2^8)=_
 rw[io _ (by decide)];omega
def T3.flat(t:T3):Prop:=t.normal.x=0∧t.normal.y=0∧t.normal.z=0
instance (t:T3):Decidable t.flat:=inferInstanceAs (Decidable (_∧_∧_))
theorem iT  : bR n=0↔n=0:=by
 unfold bR;constructor
 · intro h
   split at h
   · cases h
   · split at h
     · cases h
     · omega
 · rintro rfl;rfl
theorem abK  : 0≤bR n↔0≤n:=by
 unfold bR;split
 · constructor <;> intro h <;> omega
 · split <;> constructor <;> intro h <;> omega
theorem ajc  : 0<bR n↔0<n:=by
 unfold bR;split
 · constructor <;> intro h <;> omega
 · split <;> constructor <;> intro h <;> omega
theorem ajd  : bR n≤0↔n≤0:=by
 have:=@ajc n;omega
theorem aje(a:Int):0≤a*a:=by
 rcases Int.le_total 0 a with h | h
 · exact Int.mul_nonneg h h
 · exact Int.mul_nonneg_of_nonpos_of_nonpos h h
theorem ajf(u:P3):0≤u.dot u:=by
 have:=aje u.x;have:=aje u.y;have:=aje u.z;simp only[P3.dot];omega
theorem aso:Bd 1 1:=by
 show Int.natAbs 1<2^1
 decide
instance:Bw 1 1:=⟨aso⟩
structure cJ(w:am)(A:Option Addr)(n:Nat)(ts:List T3):Prop where
 len:ts.length=n
 it:∀t∈ts,IT t
 row:∀i t,ts[i]? = some t→∃a,A=some a∧mE w (a.add (i*9)) [.int .i64 t.a.x,.int .i64 t.a.y,.int .i64 t.a.z,.int .i64 t.b.x,.int .i64 t.b.y,.int .i64 t.b.z,.int .i64 t.c.x,.int .i64 t.c.y,.int .i64 t.c.z]
theorem cJ.ext{w w':am}{A:Option Addr}{n:Nat}{ts:List T3}(h:cJ w A n ts)(hE:dY w w'):cJ w' A n ts :=
 ⟨h.len,h.it,fun i t hi=>let ⟨a,e,hr⟩:=h.row i t hi;⟨a,e,hr.ext hE⟩⟩
theorem cJ.nil(w:am)(A:Option Addr):cJ w A 0 []:=⟨rfl,fun t h=>(by cases h),fun i t h=>(by cases h)⟩
theorem cJ.get{w:am}{A:Option Addr}{n:Nat}{ts:List T3}(h:cJ w A n ts){i:Nat}(hi:i<n):∃t,ts[i]? = some t∧IT t∧∃a,A=some a∧mE w (a.add (i*9)) [.int .i64 t.a.x,.int .i64 t.a.y,.int .i64 t.a.z,.int .i64 t.b.x,.int .i64 t.b.y,.int .i64 t.b.z,.int .i64 t.c.x,.int .i64 t.c.y,.int .i64 t.c.z]:=by
 have hl:i<ts.length:=by rw[h.len];exact hi
 refine⟨ts[i],ar hl,h.it _ (fl hl),h.row i _ (ar hl)⟩
theorem ajg{a b:Int}:(fM a=fM b∧kA a=kA b)↔a=b:=by
 constructor
 · rintro⟨h1,h2⟩
   exact ao5 (by simp only[W,h1,h2])
 · rintro rfl;exact⟨O,O⟩
end Go.Lith
