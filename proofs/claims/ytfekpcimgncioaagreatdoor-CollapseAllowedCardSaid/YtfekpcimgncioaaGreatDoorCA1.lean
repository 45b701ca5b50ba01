/-
 Texts of one claim, laid together: Ext, Ops, Nat, Nat2, Ops2, Nat3, Upd, Nat4, Nat5, Nat6, Held, Eq, Nat7, Nat8, Ops3, Nat9, Nat10, Nat11, Nat12, Geo, Tree, Fresh, Fresh2, Ops4, Geo2, Geo3, Geo4, Geo5, Own, Al, Mem, Grow, Pts.
-/
import Derived.WalkKit
import Derived.StillTail
import Derived.Deep.Quiet
import Derived.BigQuiet
import Derived.Laws.Rows
import Derived.Laws.IdiomCopy
import Derived.Laws.CopyRow
import Derived.OrdersHeld
import Derived.Laws.StructEq
import Derived.ChangeKeysEq
import Derived.Laws.IdiomStrings
import Derived.Laws.BytesArg
import Derived.RangeFuncBox
import Derived.RangeFuncLeaves
import Derived.LoopN
import Derived.Sort.Grow
import Derived.Deep.Draws
open Int renaming toNat_natCast→ah,fdiv_eq_ediv_of_nonneg→gu,natCast_mul→lw,not_lt→qj
open Go renaming Value→ai,World→aj,wpList→ar,TypeId→az,Program→bp,Operand→bx,run_underlying→cd,wpQuiet→cl,execOp→de,Deferred→dx
open List renaming getElem?_eq_getElem→am,mem_cons→an,getElem?_eq_some_iff→ap,length_append→au,length_cons→aw,take_of_length_le→ay,mem_of_getElem?→be,map_cons→bh,pairwise_cons→br,mem_cons_of_mem→bt,mem_cons_self→bu,length_take→bv,getElem?_eq_none→bz,nil_append→b_,cons_append→cj,getElem?_append_left→cn,replicate→cu,getElem?_drop→di,toList_toArray→dj,append_assoc→dl,getElem?_take→dm,flatMap_cons→dt,getElem?_append_right→dw,any_eq_true→el,all_eq_true→ep,drop_eq_getElem_cons→eu,eq_nil_of_length_eq_zero→fa,append_nil→fe,mem_map_of_mem→fh,take_length→fi,getElem_mem→fq,length_drop→ft,ext_getElem?→fw,set_cons_succ→fy,size_toArray→gi,drop_of_length_le→gp,nodup_cons→gt,filter_cons→gv,pairwise_iff_getElem→ic,mem_or_eq_of_mem_set→ix,map_congr_left→iy,foldl_cons→jd,range→ji,mem_range→jj,take_zero→jx,getElem?_toArray→km,take_append_drop→lz,getElem?_set_ne→me,drop_zero→mi,nil_sublist→pb
open Nat renaming zero_add→aq,le_refl→av,le_trans→ba,zero_le→bw,lt_or_ge→dq,lt_of_lt_of_le→gg,add_sub_cancel→gr,min_eq_left→ii,eq_zero_or_pos→iu,pow_succ→iw,pow_le_pow_right→jg,mod_lt→jr,add_mul→jw,mul_le_mul_left→ka,mod_eq_of_lt→kg,mul_one→ll,le_sub_one_of_lt→mf,mul_le_mul_right→mg,lt_of_le_of_lt→nc,pow_add→og,pow_mul→oh,mul_add→om,div_le_self→pj
open Bool renaming and_eq_true→bg,not_eq_true'→ew,false_or→ju
open Go.Oper renaming mk→bm,quietAt→lo,wp→ma,upon→nh
open Option renaming getD_some→df,isSome_iff_exists→ee,map_some→fl,some→ln
open Array renaming getElem?_eq_some_iff→dz,replicate→gd,getElem?_eq_getElem→gm,getElem?_eq_none→lp,getD_eq_getD_getElem?→mb,setIfInBounds_comm→mw,range→oz,ext'→pd,map→qg,ext→qh
open BitVec renaming ofInt→d_,toNat_ofInt→ox
open UInt8 renaming ofNat→ei,toNat→iz,toNat_ofNat'→jf,toNat_inj→my
open Prod.mk renaming injEq→gh
open Option.some renaming injEq→gn
open List.cons renaming injEq→lv
open Go.IntKind renaming signed→mc,wrap→ni,bits→nj
set_option linter.unusedSimpArgs false
set_option linter.unusedVariables false
set_option linter.unusedSectionVars false
theorem O{α:Sort _}{a:α}:a=a:=rfl
namespace Go.Lith
open Go.RowKit
variable{w w':aj}{cs l:List ai}{t T:az}{a:Addr}{i:Nat}{f:FuncId}{fn:Func}{x:Int}
def fQ(w w':aj):Prop:=Below w.heap.size w w'
theorem fQ.refl(w:aj):fQ w w:=Below.refl _ _
theorem fQ.size(h:fQ w w'):w.heap.size≤w'.heap.size:=Below.size h
theorem fQ.trans{a b c:aj}(h:fQ a b)(k:fQ b c):fQ a c:=Below.trans h (Below.mono k h.size)
theorem fQ.drawn{w w':aj}(h:fQ w w'):fQ w { w' with drawn:=w'.drawn+1 }:=Below.drew h
theorem fQ.alloc(h:fQ w w')(o:Obj):fQ w (w'.alloc o):=Below.alloc h h.size o
theorem fQ.block(h:fQ w w'){k:Nat}{o:Obj}(hk:w.heap[k]? = some o):w'.heap[k]? = some o :=
 (Below.block h k (dz.1 hk).1).trans hk
theorem fQ.cell(h:fQ w w'){p:Addr}{v:ai}(hp:w.cell? p=some v):w'.cell? p=some v :=
 (Below.cell h (World.block_lt_of_cell? _ _ hp)).trans hp
section
variable {P:bp} {ops:Array Oper} {md:Region.Mode} {C:aj→Prop}
def Jv(P:bp)(md:Region.Mode)(ops:Array Oper)(C:aj→Prop)(n:Nat)(L:Array Bool→Act→Prop):Nat→Array Bool→Act→Prop
 | 0,listed,a=>L listed a
 | f+1,listed,a =>
  Region.ready md ops listed≠[]∧∀i∈Region.ready md ops listed,i<n∧qOp P ops C i (Jv P md ops C n L f (listed.setIfInBounds i true)) a
theorem tX{n g:Nat}{L:Array Bool→Act→Prop}{Q':Exit→Act→aj→Prop}(hL:∀listed a,L listed a→∀w,C w→wpAny P md ops Q' g listed a w) :
 ∀(f:Nat) (listed:Array Bool) (a:Act) (w:aj),C w→Jv P md ops C n L f listed a→wpAny P md ops Q' (f+g) listed a w
 | 0,listed,a,w,hw,h=>by rw[aq];exact hL _ _ h w hw
 | f+1,listed,a,w,hw,h=>by
  rw[show f+1+g=(f+g)+1 by omega];exact⟨fun h0=>absurd h0 h.1,fun i hi=>wpOp_of_qOp hw (fun a' w' hw' h'=>tX hL f _ a' w' hw' h') (h.2 i hi).2⟩
theorem Wz{n i:Nat}{oi:Oper}{v:ai}{L:Array Bool→Act→Prop}(hi:ops[i]? = some oi)(hsel:∀(j:Nat) (o:Oper) cs b,ops[j]? = some o→o.op≠.select cs b)
 (hs:Region.sinkB md ops n=true) (hc:Region.chainB md ops n=true) (hn:n<ops.size) (hin:i<n)
 (hdone:∀listed a,L listed a→∀j∈Region.ready md ops listed,n≤j) :
 ∀(f:Nat) (listed:Array Bool) (a:Act),HeadInv md ops n listed →
  (∀j oj,ops[j]? = some oj→j≠i→listed.getD j true=false→(∀e∈oj.after,Region.binds md e=true→e.on≠i)→oi.apart ops oj=true) →
  i∈Region.ready md ops listed→YieldsIn P ops C oi v a →
  Jv P md ops C n L f (listed.setIfInBounds i true) (a.put oi.dst v)→Jv P md ops C n L (f+1) listed a:=by
 intro f
 induction f with
 | zero =>
  intro listed a inv _ hr hy H;have hun:=(mem_ready.1 hr).1;refine⟨fun h=>(by rw[h] at hr;cases hr),fun j hj=>?_⟩;have hjn:j<n:=by
   rcases dq j n with h | h
   · exact h
   · exact absurd hj (tail_waits hs hc hn inv _ i O hin hun j h)
  refine⟨hjn,?_⟩;by_cases hji:j=i
  · subst hji;exact hy.qOp hi H
  · have:=hdone _ _ H j (ready_mono hj hji)
    omega
 | succ f ih =>
  intro listed a inv hfree hr hy H;have hun:=(mem_ready.1 hr).1;refine⟨fun h=>(by rw[h] at hr;cases hr),fun j hj=>?_⟩;have hjn:j<n:=by
   rcases dq j n with h | h
   · exact h
   · exact absurd hj (tail_waits hs hc hn inv _ i O hin hun j h)
  refine⟨hjn,?_⟩;by_cases hji:j=i
  · subst hji;exact hy.qOp hi H
  · have h1:=(H.2 j (ready_mono hj hji)).2
    obtain⟨hjun,oj,hoj,hall⟩:=mem_ready.1 hj;have hnot:∀e∈oj.after,Region.binds md e=true→e.on≠i:=fun e he hb heq=>by
     have h1:=hall e he hb;rw[heq,getD_both hun] at h1;cases h1
    have h2:=qOp_put hoj (hfree j oj hoj hji hjun hnot) (fun cs b=>hsel i oi cs b hi) (fun cs b=>hsel j oj cs b hoj) hy h1;have hfree':∀k ok,ops[k]? = some ok→k≠i→(listed.setIfInBounds j true).getD k true=false →
     (∀e∈ok.after,Region.binds md e=true→e.on≠i)→oi.apart ops ok=true:=fun k ok hk hki hun hno=>by
     refine hfree k ok hk hki ?_ hno;by_cases hjk:j=k
     · subst hjk;exact hjun
     · rw[getD_set_ne true hjk] at hun;exact hun
    refine qOp_mono (fun a' h3=>ih (listed.setIfInBounds j true) a' (inv.set hj hjn) hfree' (ready_mono hr (Ne.symm hji)) h3.1 ?_) h2;rw[mw _ _ hji];exact h3.2
theorem xQ{n g:Nat}{Lq:Act→Prop}(hsel:Region.noSelect ops=true)(hs:Region.sinkB md ops n=true)(hc:Region.chainB md ops n=true)(hn:n<ops.size) :
 ∀(l:List Oper) (k:Nat) (listed:Array Bool) (a:Act),(∀j,j<l.length→l[j]? = ops[k+j]?)→k+l.length=n→HeadInv md ops n listed →
 Region.lexHead md ops g l.length k listed=true→cl P ops C Lq l a →
 Jv P md ops C n (fun listed' a'=>Region.seqB md ops g n listed'=true∧Lq a') l.length listed a
 | [],k,listed,a,_,hk,_,hB,h=>by
  have:k=n:=by simpa using hk
  subst this;exact⟨by simpa[Region.lexHead] using hB,h⟩
 | o::l,k,listed,a,hl,hk,inv,hB,h=>by
  have h0:ops[k]? = some o:=by simpa using (hl 0 (by simp)).symm
  simp only[aw,Region.lexHead,bg] at hB;obtain⟨⟨hr,hf⟩,hB'⟩:=hB;have hkn:k<n:=by simp only[aw] at hk;omega
  have hr':k∈Region.ready md ops listed:=by simpa using hr
  have hst:qOp P ops C k (cl P ops C Lq l) a:=by unfold qOp;simp only[h0];exact h
  obtain⟨v,hy,hK⟩:=yieldsIn_of_qOp h0 hst;exact Wz h0 (Region.noSelect_spec hsel) hs hc hn hkn (fun listed' a' hL=>seqB_ready hL.1) l.length listed a inv (Region.free_spec h0 hf) hr' hy
   (xQ hsel hs hc hn l (k+1) _ _ (fun j hj=>by have:=hl (j+1) (by simp;omega);simpa[Nat.add_assoc,Nat.add_comm 1 j] using this) (by simp only[aw] at hk;omega) (inv.set hr' hkn) hB' hK)
theorem rN{id:Nat}{Q:Exit→Act→aj→Prop}{a:Act}{w:aj}{l:List Oper}(n:Nat)(hm:P.follows .mixedOrders=true)(hB:Region.lexTailB .any l.toArray n=true)
 (hC:C { w with drawn:=w.drawn+1 })
 (h:cl P l.toArray C (fun a'=>∀w',C w'→ar P l.toArray Q (l.drop n) a' w') (l.take n) a):(Code.region id l.toArray true).wp P Q a w:=by
 simp only[Region.lexTailB,bg,decide_eq_true_eq] at hB;obtain⟨⟨⟨⟨hsel,hn⟩,hs⟩,hc⟩,hlex⟩:=hB;have hn':n<l.length:=by simpa using hn
 have htl:(l.take n).length=n:=by simp;omega
 have hdl:(l.drop n).length=l.toArray.size-n:=by simp
 have inv0:HeadInv .any l.toArray n (gd l.toArray.size false) :=
  ⟨by simp,fun j oj _ hl=>(by rw[getD_replicate_false] at hl;cases hl),fun t _ ht=>getD_in (by simpa using ht) (getD_replicate_false _ _)⟩
 have H:=xQ (md:=.any) (g:=l.toArray.size-n) hsel hs hc hn (l.take n) 0 _ a (fun j hj=>by
  have hj':j<n:=by rw[htl] at hj;exact hj
  simp[hj']) (by simpa using htl) inv0 (by rw[htl];exact hlex) h
 refine wp_region_any hm ?_;have:=tX (Q':=Q) (g:=l.toArray.size-n) (fun listed a' hL w' hw'=>by
  have:=wpAny_of_seq (md:=.any) (Q':=Q) (l.drop n) n listed a' w' (fun j=>by simp[di]) (by rw[hdl];exact hL.1) (hL.2 w' hw');rwa [hdl] at this) _ _ _ _ hC H
 rw[htl,show n+(l.toArray.size-n)=l.toArray.size by omega] at this;exact this
def Xa(md:Region.Mode)(ops:Array Oper):List (Nat × Bool)→Array Bool→Bool
 | [],listed=>(Region.ready md ops listed).isEmpty
 | (i,true)::r,listed=>(ops[i]?).isSome&&Region.free md ops listed i&&(Region.ready md ops listed).contains i&&Xa md ops r (listed.setIfInBounds i true)
 | (i,false)::r,listed=>(ops[i]?).isSome&&decide (Region.ready md ops listed=[i])&&Xa md ops r (listed.setIfInBounds i true)
def fU(P:bp)(ops:Array Oper)(Q:Exit→Act→aj→Prop):List (Oper × Bool)→Act→aj→Prop
 | [],a,w=>Q .normal a w
 | (o,true)::r,a,w=>∃v,Yields P ops o v a∧fU P ops Q r (a.put o.dst v) w
 | (o,false)::r,a,w=>ar P ops (Exit.then (fU P ops Q r) Q) [o] a w
end
abbrev Fr(l:List ai)(ds:List dx:=[]):Act:={ tmps:=l.toArray,defers:=ds }
def fR(w:aj)(g:Nat)(cs:List ai)(t:az):Prop:=w.heap[g]? = some (.cells cs.toArray t (0,0))
structure Chg(w w':aj)(g:Nat):Prop where
 os:w'.os=w.os
 tape:w'.tape=w.tape
 output:w'.output=w.output
 size:w'.heap.size=w.heap.size
 block:∀k,k≠g→w'.heap[k]? = w.heap[k]?
def mD(w:aj)(a:Addr)(cs:List ai):Prop:=∀j u,cs[j]? = some u→w.cell? (a.add j)=some u
theorem fR.lt{g:Nat}(h:fR w g cs t):g<w.heap.size:=(dz.1 h).1
theorem fR.ext{g:Nat}(h:fR w g cs t)(hE:fQ w w'):fR w' g cs t:=hE.block h
theorem fR.chg{g g':Nat}(h:fR w g cs t)(hC:Chg w w' g')(hne:g≠g'):fR w' g cs t:=(hC.block g hne).trans h
theorem fQ.chg{w0:aj}{g:Nat}(h:fQ w0 w)(hC:Chg w w' g)(hg:w0.heap.size≤g):fQ w0 w' :=
 ⟨hC.os.trans h.os,hC.tape.trans h.tape,hC.output.trans h.output,by rw[hC.size];exact h.size,fun k hk=>(hC.block k (by omega)).trans (Below.block h k hk)⟩
theorem mD.ext(h:mD w a cs)(hE:fQ w w'):mD w' a cs:=fun j u hj=>hE.cell (h j u hj)
theorem eL(g off j:Nat):(⟨g,off,none⟩:Addr).add j=⟨g,off+j,none⟩:=by unfold Addr.add;split <;> simp_all
theorem jW(a:Addr)(i j:Nat):(a.add i).add j=a.add (i+j):=by
 unfold Addr.add;by_cases hi:i=0 <;> by_cases hj:j=0 <;> simp[hi,hj,Nat.add_assoc]
theorem fR.row{g:Nat}(h:fR w g cs t)(off:Nat):mD w ⟨g,off,none⟩ (cs.drop off):=by
 intro j u hj;rw[eL,cell_of_row w g (off+j) cs.toArray t (0,0) h];simpa[di] using hj
theorem mD.sub(h:mD w a cs)(i:Nat):mD w (a.add i) (cs.drop i):=by
 intro j u hj;rw[jW];exact h (i+j) u (by simpa[di] using hj)
theorem mD.take(h:mD w a cs)(n:Nat):mD w a (cs.take n):=by
 intro j u hj;refine h j u ?_;rw[dm] at hj;split at hj
 · exact hj
 · cases hj
section
variable {P:bp} {ds:List dx} {l:List ai}
theorem anM(t:Nat):(Fr l).eval (.tmp t)=l.getD t undef:=by
 show l.toArray.getD t undef=_
 simp[Array.getD,List.getD];split <;> simp_all
theorem kI{ds:List dx}:(Fr l ds).eval=(Fr l).eval:=rfl
theorem iN{ds:List dx}(d:Nat)(v:ai):(Fr l ds).put (some d) v=Fr (l.set d v) ds:=by simp[Act.put,Fr]
def dQ(P:bp)(T:az)(n:Nat):Prop:=∃inf,P.info? T=some inf∧inf.size=n
def nU(P:bp)(T:az)(z:ai):Prop:=∃inf,P.info? T=some inf∧inf.zero=some z
def Cy:TypeDesc→Bool
 | .struct _ | .array _ _=>true
 | _=>false
def fA(P:bp)(T:az)(b:Bool):Prop:=∃dd,P.underlying T=some dd∧Cy dd=b
theorem dV{n:Nat}(h:(P.info? T).map (·.size)=some n):dQ P T n:=by
 cases hi:P.info? T with
 | none=>rw[hi] at h;cases h
 | some i=>rw[hi] at h;exact⟨i,hi,by simpa using h⟩
theorem kX{z:ai}(h:(P.info? T).bind (·.zero)=some z):nU P T z:=by
 cases hi:P.info? T with
 | none=>rw[hi] at h;cases h
 | some i=>rw[hi] at h;exact⟨i,hi,by simpa using h⟩
theorem dO{b:Bool}(dd:TypeDesc)(h:P.underlying T=some dd)(hb:Cy dd=b):fA P T b:=⟨dd,h,hb⟩
def ev(l:List ai):bx→ai
 | .tmp t=>l.getD t undef
 | .const v=>v
 | .global g=>.pointer (some ⟨g,0,none⟩)
 | .func f=>.func (.func f) #[] #[]
theorem Av(t:Nat):ev l (.tmp t)=l.getD t undef:=rfl
theorem rO(v:ai):ev l (.const v)=v:=rfl
theorem vE(f:Nat):ev l (.func f)=.func (.func f) #[] #[]:=rfl
theorem cK(x:bx):(Fr l).eval x=ev l x:=by
 cases x with
 | tmp t=>exact anM t
 | const=>rfl
 | global=>rfl
 | func=>rfl
def Ak(P:bp)(l:List ai)(op:Op)(ty:az)(v:ai)(w:aj):Prop :=
 ∀o:Oper,o.op=op→o.type=ty→(de (Fr l).eval o).run P w=.ok (.value v) w
def iR(P:bp)(l:List ai)(op:Op)(ty:az)(v:ai):Prop:=∀w,Ak P l op ty v w
section
variable {ops:Array Oper} {Q:Exit→Act→aj→Prop} {w:aj} {rest:List Oper} {d:Nat} {op:Op} {ty:az} {pos:String} {after:Array Edge} {v:ai}
theorem fO(hr:Ak P l op ty v w)(h:ar P ops Q rest (Fr (l.set d v) ds) w):ar P ops Q (bm (some d) op ty pos after none::rest) (Fr l ds) w:=by
 refine wpList_plain O fun K hK=>?_;unfold ma;rw[kI,hr _ rfl rfl];show K ((Fr l ds).put (some d) v) w
 rw[iN];exact hK _ _ h
theorem aC(hr:iR P l op ty v)(h:ar P ops Q rest (Fr (l.set d v) ds) w):ar P ops Q (bm (some d) op ty pos after none::rest) (Fr l ds) w:=fO (hr w) h
theorem aM(h:Q .normal (Fr l ds) w):ar P ops Q [] (Fr l ds) w:=h
theorem eB{j:Nat}{b:Bool}(hw:yielded ops l.toArray j=some b)(h:ar P ops Q (bm (some d) op ty pos after none::rest) (Fr l ds) w):ar P ops Q (bm (some d) op ty pos after (some (j,b))::rest) (Fr l ds) w:=by
 unfold ar at h ⊢;rw[if_pos (by simp[Region.wanted])] at h;rw[if_pos (by simp[Region.wanted,hw])];exact h
theorem agM{j:Nat}{b c:Bool}(hw:yielded ops l.toArray j=some c)(hbc:(c == b)=false)(h:ar P ops Q rest (Fr (l.set d undef) ds) w):ar P ops Q (bm (some d) op ty pos after (some (j,b))::rest) (Fr l ds) w:=by
 unfold ar;rw[if_neg (by simp[Region.wanted,hw];simpa using hbc)];show ar P ops Q rest ((Fr l ds).put (some d) undef) w
 rw[iN];exact h
theorem pH{j:Nat}(hw:yielded ops l.toArray j=some false)(h:ar P ops Q rest (Fr (l.set d undef) ds) w):ar P ops Q (bm (some d) op ty pos after (some (j,true))::rest) (Fr l ds) w:=agM hw rfl h
theorem Nn{j:Nat}(hw:yielded ops l.toArray j=some true)(h:ar P ops Q rest (Fr (l.set d undef) ds) w):ar P ops Q (bm (some d) op ty pos after (some (j,false))::rest) (Fr l ds) w:=agM hw rfl h
end
section
variable {ops:Array Oper} {Q:Act→Prop} {C:aj→Prop} {rest:List Oper} {d:Nat} {op:Op} {ty:az} {pos:String} {after:Array Edge} {v:ai}
theorem kP(hr:∀w,C w→Ak P l op ty v w)(h:cl P ops C Q rest (Fr (l.set d v) ds)):cl P ops C Q (bm (some d) op ty pos after none::rest) (Fr l ds):=by
 refine wpQuiet_step fun K hK=>?_;rw[if_pos (by simp[Region.wanted])];refine⟨v,fun w hw=>?_,?_⟩
 · unfold lo
   rw[kI,hr w hw _ rfl rfl];exact⟨O,O⟩
 · show K ((Fr l ds).put (some d) v)
   rw[iN];exact hK _ h
theorem aI(hr:iR P l op ty v)(h:cl P ops C Q rest (Fr (l.set d v) ds)):cl P ops C Q (bm (some d) op ty pos after none::rest) (Fr l ds):=kP (fun w _=>hr w) h
theorem bC(h:Q (Fr l ds)):cl P ops C Q [] (Fr l ds):=h
theorem dH{j:Nat}{b:Bool}(hw:yielded ops l.toArray j=some b)(h:cl P ops C Q (bm (some d) op ty pos after none::rest) (Fr l ds)):cl P ops C Q (bm (some d) op ty pos after (some (j,b))::rest) (Fr l ds):=by
 unfold cl at h ⊢;rw[if_pos (by simp[Region.wanted])] at h;rw[if_pos (by simp[Region.wanted,hw])];exact h
theorem agN{j:Nat}{b c:Bool}(hw:yielded ops l.toArray j=some c)(hbc:(c == b)=false)(h:cl P ops C Q rest (Fr (l.set d undef) ds)):cl P ops C Q (bm (some d) op ty pos after (some (j,b))::rest) (Fr l ds):=by
 unfold cl;rw[if_neg (by simp[Region.wanted,hw];simpa using hbc)];show cl P ops C Q rest ((Fr l ds).put (some d) undef)
 rw[iN];exact h
theorem pI{j:Nat}(hw:yielded ops l.toArray j=some false)(h:cl P ops C Q rest (Fr (l.set d undef) ds)):cl P ops C Q (bm (some d) op ty pos after (some (j,true))::rest) (Fr l ds):=agN hw rfl h
theorem Gw{j:Nat}(hw:yielded ops l.toArray j=some true)(h:cl P ops C Q rest (Fr (l.set d undef) ds)):cl P ops C Q (bm (some d) op ty pos after (some (j,false))::rest) (Fr l ds):=agN hw rfl h
end
/-! ### Values -/
section
variable {x y:bx} {T T' ty:az} {k:IntKind} {m n r:Int}
theorem aH:iR P l (.move x) ty (ev l x):=fun w o ho _=>by simp[de,ho,cK]
theorem aO:iR P l (.assign x) ty (ev l x):=fun w o ho _=>by simp[de,ho,cK]
theorem Xb{c:bx}{b:Bool}(hc:ev l c=.bool b):iR P l (.pick c x y) ty (if b then ev l x else ev l y):=fun w o ho _=>by
 simp[de,ho,cK,hc,asBool]
theorem fC(hx:ev l x=.int k m)(hy:ev l y=.int k n)(hr:k.wrap (m+n)=r):iR P l (.binOp .add T x y T') ty (.int k r):=fun w o ho _=>by
 simp[de,ho,cK,hx,hy,eqGuard,binOp,Op.intArith,hr]
theorem Ac(hx:ev l x=.int k m)(hy:ev l y=.int k n)(hr:k.wrap (m-n)=r):iR P l (.binOp .sub T x y T') ty (.int k r):=fun w o ho _=>by
 simp[de,ho,cK,hx,hy,eqGuard,binOp,Op.intArith,hr]
theorem lE(hx:ev l x=.int k m)(hy:ev l y=.int k n)(hr:k.wrap (m*n)=r):iR P l (.binOp .mul T x y T') ty (.int k r):=fun w o ho _=>by
 simp[de,ho,cK,hx,hy,eqGuard,binOp,Op.intArith,hr]
theorem qL(hx:ev l x=.int k m)(hy:ev l y=.int k n):iR P l (.binOp .lss T x y T') ty (.bool (decide (m<n))):=fun w o ho _=>by
 simp[de,ho,cK,hx,hy,eqGuard,binOp,Op.intCmp]
theorem En(hx:ev l x=.int k m)(hy:ev l y=.int k n):iR P l (.binOp .leq T x y T') ty (.bool (decide (m≤n))):=fun w o ho _=>by
 simp[de,ho,cK,hx,hy,eqGuard,binOp,Op.intCmp]
theorem aag(hx:ev l x=.int k m)(hy:ev l y=.int k n):iR P l (.binOp .gtr T x y T') ty (.bool (decide (n<m))):=fun w o ho _=>by
 simp[de,ho,cK,hx,hy,eqGuard,binOp,Op.intCmp]
theorem Gx(hx:ev l x=.int k m)(hy:ev l y=.int k n):iR P l (.binOp .geq T x y T') ty (.bool (decide (n≤m))):=fun w o ho _=>by
 simp[de,ho,cK,hx,hy,eqGuard,binOp,Op.intCmp]
theorem rP(hx:ev l x=.int k m)(hy:ev l y=.int k n):iR P l (.binOp .eql T x y T') ty (.bool (decide (m=n))):=fun w o ho _=>by
 simp[de,ho,cK,hx,hy,eqGuard,binOp,Op.intCmp];cases h:(m == n) <;> simp_all
theorem qM(hx:ev l x=.int k m)(hy:ev l y=.int k n):iR P l (.binOp .neq T x y T') ty (.bool (decide (m≠n))):=fun w o ho _=>by
 simp[de,ho,cK,hx,hy,eqGuard,binOp,Op.intCmp];cases h:(m != n) <;> simp_all
theorem jD(hx:ev l x=.int k m)(hy:ev l y=.int k n)(h0:n≠0)(hr:k.wrap (m.tdiv n)=r):iR P l (.binOp .quo T x y T') ty (.int k r):=fun w o ho _=>by
 simp[de,ho,cK,hx,hy,eqGuard,binOp,Op.intDiv,h0,hr]
theorem cP(hx:ev l x=.int k m)(hy:ev l y=.int k n)(h0:n≠0)(hr:m.tmod n=r):iR P l (.binOp .rem T x y T') ty (.int k r):=fun w o ho _=>by
 simp[de,ho,cK,hx,hy,eqGuard,binOp,Op.intDiv,h0,hr]
theorem lQ(hx:ev l x=.int k m)(hy:ev l y=.int k n)(hr:k.wrap ((d_ k.bits m &&& d_ k.bits n).toNat:Int)=r):iR P l (.binOp .and T x y T') ty (.int k r):=fun w o ho _=>by
 subst hr;simp[de,ho,cK,hx,hy,eqGuard,binOp,Op.intBits]
theorem arG(hx:ev l x=.int k m)(hy:ev l y=.int k n)(hr:k.wrap ((d_ k.bits m ||| d_ k.bits n).toNat:Int)=r):iR P l (.binOp .or T x y T') ty (.int k r):=fun w o ho _=>by
 subst hr;simp[de,ho,cK,hx,hy,eqGuard,binOp,Op.intBits]
theorem qN{k':IntKind}(hx:ev l x=.int k m)(hy:ev l y=.int k' n)(h0:0≤n)(hr:k.wrap (m*2^(min n.toNat k.bits))=r):iR P l (.binOp .shl T x y T') ty (.int k r):=fun w o ho _=>by
 subst hr;simp[de,ho,cK,hx,hy,eqGuard,binOp,Op.shift,qj.2 h0]
theorem lF{k':IntKind}(hx:ev l x=.int k m)(hy:ev l y=.int k' n)(h0:0≤n)(hr:m.fdiv (2^(min n.toNat k.bits))=r):iR P l (.binOp .shr T x y T') ty (.int k r):=fun w o ho _=>by
 subst hr;simp[de,ho,cK,hx,hy,eqGuard,binOp,Op.shift,qj.2 h0]
theorem nV{b:Bool}(hx:ev l x=.bool b):iR P l (.unOp .not T x) ty (.bool (!b)):=fun w o ho _=>by
 simp[de,ho,cK,hx,Op.unary]
theorem tY(hx:ev l x=.int k m)(hr:k.wrap (0-m)=r):iR P l (.unOp .neg T x) ty (.int k r):=fun w o ho _=>by
 subst hr;simp[de,ho,cK,hx,Op.unary,Op.intArith]
theorem jE(hd:P.underlying T'=some (.int k)){k':IntKind}{dd:TypeDesc}(hs:P.underlying T=some dd)(hx:ev l x=.int k' m)(hr:k.wrap m=r):iR P l (.convert T T' x) ty (.int k r):=fun w o ho _=>by
 subst hr;simp[de,ho,cK,hx,convert,cd hs,cd hd,Conv.intToInt]
theorem fG{vs:Array ai}{v:ai}(hx:ev l x=.tuple vs)(hi:vs[i]? = some v):iR P l (.extract x i) ty v:=fun w o ho _=>by
 simp[de,ho,cK,hx,Instr.extract,hi]
theorem fX{fn:Fn}{first captured:Array bx}:iR P l (.makeFunc fn first captured) ty (.func fn (first.map (ev l)) (captured.map (ev l))):=fun w o ho _=>by
 have e:(Fr l).eval=ev l:=funext cK;simp[de,ho,e,Instr.makeFunc]
theorem Jw{E:az}{A:Option Addr}{n c:Nat}{a0:Array az}(ha:a0 = #[T])(hu:P.underlying T=some (.slice E))(hx:ev l x=.slice A n c):iR P l (.call { callee:=.builtin .len,args:=#[x],argTypes:=a0 }) ty (.int .i64 n):=fun w o ho _=>by
 subst ha;simp[de,ho,resolve,invoke,builtin,Builtin.len_,cK,hx,cd hu,goInt]
theorem tZ{s:ByteArray}{a0:Array az}(ha:a0 = #[T])(hu:P.underlying T=some .string)(hx:ev l x=.string s):iR P l (.call { callee:=.builtin .len,args:=#[x],argTypes:=a0 }) ty (.int .i64 s.size):=fun w o ho _=>by
 subst ha;simp[de,ho,resolve,invoke,builtin,Builtin.len_,cK,hx,cd hu,goInt]
theorem ap9{a0:Array az}(hx:ev l x=.int k m)(hy:ev l y=.int k n)(hr:(if n<m then n else m)=r):iR P l (.call { callee:=.builtin .min,args:=#[x,y],argTypes:=a0 }) ty (.int k r):=fun w o ho _=>by
 subst hr;simp[de,ho,resolve,invoke,builtin,Builtin.min_,Builtin.min2,cK,hx,hy]
theorem wN{a0:Array az}(hx:ev l x=.int k m)(hy:ev l y=.int k n)(hr:(if m<n then n else m)=r):iR P l (.call { callee:=.builtin .max,args:=#[x,y],argTypes:=a0 }) ty (.int k r):=fun w o ho _=>by
 subst hr;simp[de,ho,resolve,invoke,builtin,Builtin.max_,Builtin.max2,cK,hx,hy]
end
/-! ### Addresses -/
section
variable {x y:bx} {T T' ty:az} {k:IntKind} {m n r:Int}
theorem aW{fs:Array Field}{i c:Nat}{f:Field}{a b:Addr}(hu:P.underlying T=some (.struct fs))(hf:fs[i]? = some f)(hc:dQ P f.type (c+1))(hx:ev l x=.pointer (some a))(hb:a.add f.offset=b) :
 iR P l (.fieldAddr T x i) ty (.pointer (some b)):=fun w o ho _=>by
 subst hb;obtain⟨inf,hi,hz⟩:=hc;have hz':¬inf.size=0:=by omega
 simp[de,ho,cK,hx,Instr.fieldAt,cd hu,hf,Instr.sureAddr,fieldPlace,sizeOf,typeInfo,hi,hz']
theorem aJ{E:az}{len:Nat}{c:Nat}{a b:Addr}(hu:P.underlying T=some (.array len E))(hc:dQ P E c)(hx:ev l x=.pointer (some a))(hy:ev l y=.int k m)(h0:0≤m)(h1:m<len)(hb:a.add (m.toNat*c)=b) :
 iR P l (.indexAddr T x y) ty (.pointer (some b)):=fun w o ho _=>by
 subst hb;obtain⟨inf,hi,rfl⟩:=hc;simp[de,ho,cK,hx,hy,Instr.indexAt,asIntOf,cd hu,Instr.sureAddr,sizeOf,typeInfo,hi,h0,h1]
theorem aF{E:az}{len cap:Nat}{c:Nat}{a b:Addr}(hu:P.underlying T=some (.slice E))(hc:dQ P E c)(hx:ev l x=.slice (some a) len cap)(hy:ev l y=.int k m)(h0:0≤m)(h1:m<len)(hb:a.add (m.toNat*c)=b) :
 iR P l (.indexAddr T x y) ty (.pointer (some b)):=fun w o ho _=>by
 subst hb;obtain⟨inf,hi,rfl⟩:=hc;simp[de,ho,cK,hx,hy,Instr.indexAt,asIntOf,cd hu,sizeOf,typeInfo,hi,h0,h1]
end
/-! ### Memory -/
section
variable {x y:bx} {T T' ty:az} {w:aj}
def eR(P:bp)(w:aj)(T:az)(a:Addr)(v:ai):Prop:=(loadVar T a).run P w=.ok v w
theorem mD.lies{cs:List ai}(h:mD w a cs)(hA:fA P T true)(hc:dQ P T cs.length):eR P w T a (.agg cs.toArray):=by
 obtain⟨dd,hu,hd⟩:=hA;obtain⟨inf,hi,hn⟩:=hc;have hl:=run_loadCells_list (P:=P) w a cs (fun j v hv=>h j v hv);have hagg:(isAgg T).run P w=.ok true w:=by
  unfold isAgg;rw[Sem.run_bind,cd hu w];cases dd <;> simp_all [Cy]
 unfold eR;simp[loadVar,Sem.run_bind,hagg,sizeOf,typeInfo,hi,hn,hl]
theorem lies1{v:ai}(h:w.cell? a=some v)(hA:fA P T false):eR P w T a v:=by
 obtain⟨dd,hu,hd⟩:=hA;have hagg:(isAgg T).run P w=.ok false w:=by
  unfold isAgg;rw[Sem.run_bind,cd hu w];cases dd <;> simp_all [Cy]
 unfold eR;simp[loadVar,Sem.run_bind,hagg,load,Sem.run,h]
theorem fR.cell{g:Nat}{cs:List ai}{t:az}(h:fR w g cs t){v:ai}(hi:cs[i]? = some v):w.cell? ⟨g,i,none⟩=some v:=by
 rw[cell_of_row w g i cs.toArray t (0,0) h];simpa using hi
theorem fR.lies1{g:Nat}{cs:List ai}{t:az}{v:ai}(h:fR w g cs t)(hA:fA P T false)(hi:cs[i]? = some v):eR P w T ⟨g,i,none⟩ v:=Lith.lies1 (h.cell hi) hA
theorem fR.lies{g n:Nat}{cs us:List ai}{t:az}(h:fR w g cs t)(hA:fA P T true)(hc:dQ P T n)(hu:(cs.drop i).take n=us)(hn:us.length=n):eR P w T ⟨g,i,none⟩ (.agg us.toArray):=by
 subst hu;exact ((h.row i).take n).lies hA (by rw[hn];exact hc)
theorem aY{v:ai}(hx:ev l x=.pointer (some a))(hv:eR P w T a v):Ak P l (.load T x) ty v w:=fun o ho _=>by
 unfold eR at hv;simp[de,ho,cK,hx,Instr.loadAt,Instr.sureAddr,hv]
variable {ops:Array Oper} {Q:Exit→Act→aj→Prop} {rest:List Oper} {d:Nat} {op:Op} {pos:String} {after:Array Edge} {v:ai}
theorem aS(hx:ev l x=.pointer (some a))(hv:eR P w T a v)(h:ar P ops Q rest (Fr (l.set d v) ds) w):ar P ops Q (bm (some d) (.load T x) ty pos after none::rest) (Fr l ds) w :=
 fO (aY hx hv) h
theorem Gy{w':aj}(hr:∀o:Oper,o.op=op→(de (Fr l).eval o).run P w=.ok .skip w')(h:ar P ops Q rest (Fr l ds) w'):ar P ops Q (bm none op ty pos after none::rest) (Fr l ds) w:=by
 refine wpList_plain O fun K hK=>?_;unfold ma;rw[kI,hr _ rfl];exact hK _ _ h
theorem mJ{w':aj}(hr:∀o:Oper,o.op=op→o.type=ty→(de (Fr l).eval o).run P w=.ok (.value v) w')(h:ar P ops Q rest (Fr (l.set d v) ds) w'):ar P ops Q (bm (some d) op ty pos after none::rest) (Fr l ds) w:=by
 refine wpList_plain O fun K hK=>?_;unfold ma;rw[kI,hr _ rfl rfl];show K ((Fr l ds).put (some d) v) w'
 rw[iN];exact hK _ _ h
theorem jQ(w:aj)(cs:List ai)(t:az):fR (w.alloc (.cells cs.toArray t)) w.heap.size cs t:=heap_alloc_new w _
theorem agO{cs:List ai}(hv:(ev l x).cells=cs.toArray)(h:∀w' g,fQ w w'→w.heap.size≤g→fR w' g cs T→ar P ops Q rest (Fr (l.set d (.pointer (some ⟨g,0,none⟩))) ds) w') :
 ar P ops Q (bm (some d) (.box T x) ty pos after none::rest) (Fr l ds) w :=
 mJ (w':=w.alloc (.cells cs.toArray T)) (v:=.pointer (some ⟨w.heap.size,0,none⟩)) (fun o ho _=>by simp[de,ho,cK,Instr.box,newVar,newRow,hv,newObj,Sem.run]) (h _ _ ((fQ.refl w).alloc _) (av _) (jQ w cs T))
theorem Cz{cs:List ai}{z:ai}(hZ:nU P T z)(hv:z.cells=cs.toArray)(h:∀w' g,fQ w w'→w.heap.size≤g→fR w' g cs T→ar P ops Q rest (Fr (l.set d (.pointer (some ⟨g,0,none⟩))) ds) w') :
 ar P ops Q (bm (some d) (.alloc T) ty pos after none::rest) (Fr l ds) w:=by
 obtain⟨inf,hi,hz⟩:=hZ;exact mJ (w':=w.alloc (.cells cs.toArray T)) (v:=.pointer (some ⟨w.heap.size,0,none⟩)) (fun o ho _=>by simp[de,ho,Instr.alloc,zeroValue,typeInfo,hi,hz,newVar,newRow,hv,newObj,Sem.run]) (h _ _ ((fQ.refl w).alloc _) (av _) (jQ w cs T))
def over(cs:List ai)(off:Nat)(us:List ai):List ai:=cs.take off++us++cs.drop (off+us.length)
theorem Aw{cs us:List ai}{off:Nat}(h:off+us.length≤cs.length):(over cs off us).length=cs.length:=by simp[over];omega
theorem Oq(w:aj)(g:Nat)(cs:Array ai):Chg w (w.setRow g cs) g:=⟨rfl,rfl,rfl,by simp,fun k hk=>setRow_other w g k cs hk⟩
theorem Gz{g off:Nat}{cs us:List ai}{t:az}(hc:dQ P T us.length)(hv:v.cells=us.toArray)(hB:fR w g cs t)(hfit:off+us.length≤cs.length)(h1:∀u∈us,u.oneCell'=true) :
 (storeVar T ⟨g,off,none⟩ v).run P w=.ok () (w.setRow g (over cs off us).toArray):=by
 obtain⟨inf,hi,hn⟩:=hc;have hst:=run_storeCells_at P g off t us 0 cs.toArray w hB (by simpa using hfit) h1;simp only[Nat.add_zero,dj] at hst;simp[storeVar,hv,sizeOf,typeInfo,hi,hn,hst,over]
theorem xR{g off:Nat}{cs us:List ai}{t:az}(hx:ev l x=.pointer (some ⟨g,off,none⟩))(hv:(ev l y).cells=us.toArray)(hc:dQ P T us.length)(hB:fR w g cs t)(hfit:off+us.length≤cs.length)(h1:∀u∈us,u.oneCell'=true)
 (h:∀w',Chg w w' g→fR w' g (over cs off us) t→ar P ops Q rest (Fr l ds) w'):ar P ops Q (bm none (.store T x y) ty pos after none::rest) (Fr l ds) w :=
 Gy (w':=w.setRow g (over cs off us).toArray) (fun o ho=>by simp[de,ho,cK,hx,Instr.storeAt,Instr.sureAddr,Gz hc hv hB hfit h1]) (h _ (Oq w g _) (setRow_heap w g cs.toArray _ t _ hB))
/-! ### Calls -/
def Entr(P:bp)(f:FuncId):Prop:=∃fn,P.funcs[f]? = some fn∧(fn.name == "runtime.NumGoroutine")=false∧fn.body.isNone=false
theorem bJ{P:bp}(h:P.funcs[f]? = some fn) (hb:(!(fn.name == "runtime.NumGoroutine") && !fn.body.isNone)=true):Entr P f:=by
 simp only[bg,ew] at hb;exact⟨fn,h,hb.1,hb.2⟩
def dA(P:bp)(f:FuncId)(args:List ai)(w:aj)(R:ai→aj→Prop):Prop :=
 Entr P f∧Calls P f args.toArray w fun e w'=>∃v,e=.returned v∧fQ w w'∧R v w'
def dS(P:bp)(f:FuncId)(args:List ai)(v:ai):Prop:=∀w,dA P f args w fun u _=>u=v
theorem dA.mono{args:List ai}{R R':ai→aj→Prop}(h:dA P f args w R)(hr:∀v w',fQ w w'→R v w'→R' v w'):dA P f args w R' :=
 ⟨h.1,h.2.mono fun _ _ ⟨v,he,hE,hR⟩=>⟨v,he,hE,hr _ _ hE hR⟩⟩
theorem tD{args:Array ai}(h:Entr P f):(callFunc f args).run P w=.ok (.enter f args) w:=by
 obtain⟨fn,hf,hn,hb⟩:=h;have hn':¬fn.name = "runtime.NumGoroutine" := by simpa using hn
 have hb':¬fn.body=none:=by intro h;rw[h] at hb;cases hb
 simp[callFunc,hf,hn',hb']
theorem pJ{f:FuncId}{fo:bx}{xs:Array bx}{args:List ai}{first cap:Array ai}{a0:Array az}(h:Entr P f)(hf:ev l fo=.func (.func f) first cap)(hxs:first.toList++xs.toList.map (ev l)++cap.toList=args)(o:Oper)(ho:o.op=.call { callee:=.value fo,args:=xs,argTypes:=a0 }) :
 (de (Fr l).eval o).run P w=.ok (.enter f args.toArray) w:=by
 have e:(Fr l).eval=ev l:=funext cK;have ea:args.toArray=first++xs.map (ev l)++cap:=by
  rw[←hxs];apply pd;simp
 simp[de,ho,resolve,e,hf,Deferred.ofValue,invoke,tD h,ea]
theorem bH{f:FuncId}{fo:bx}{xs:Array bx}{args:List ai}{first cap:Array ai}{a0:Array az}{R:ai→aj→Prop}(hf:ev l fo=.func (.func f) first cap)(hxs:first.toList++xs.toList.map (ev l)++cap.toList=args)(hc:dA P f args w R)
 (h:∀v w',fQ w w'→R v w'→ar P ops Q rest (Fr (l.set d v) ds) w'):ar P ops Q (bm (some d) (.call { callee:=.value fo,args:=xs,argTypes:=a0 }) ty pos after none::rest) (Fr l ds) w:=by
 refine wpList_plain O fun K hK=>?_;unfold ma;rw[kI,pJ hc.1 hf hxs _ rfl];refine hc.2.mono ?_;rintro e w' ⟨v,rfl,hE,hR⟩;show K ((Fr l ds).put (some d) v) w'
 rw[iN];exact hK _ _ (h v w' hE hR)
theorem Xc{f:FuncId}{fo:bx}{xs:Array bx}{args:List ai}{first cap:Array ai}{a0:Array az}(hf:ev l fo=.func (.func f) first cap)(hxs:first.toList++xs.toList.map (ev l)++cap.toList=args)(hc:dS P f args v)
 (h:∀w',fQ w w'→ar P ops Q rest (Fr (l.set d v) ds) w'):ar P ops Q (bm (some d) (.call { callee:=.value fo,args:=xs,argTypes:=a0 }) ty pos after none::rest) (Fr l ds) w :=
 bH hf hxs (hc w) fun _ w' hE hR=>hR▸h w' hE
end
section
variable {x y:bx} {T T' ty:az} {w:aj}
variable {ops:Array Oper} {Q:Act→Prop} {rest:List Oper} {d:Nat} {op:Op} {pos:String} {after:Array Edge} {v:ai}
end
/-! ### Code -/
section
variable {Q:Exit→Act→aj→Prop} {w:aj} {c c1 c2:Code}
theorem bG{a:Act}(h:∀K:Act→aj→Prop,(∀a w,c2.wp P Q a w→K a w)→c1.wp P (Exit.then K Q) a w):(Code.seq c1 c2).wp P Q a w:=wp_seq_k h
theorem gE{x:bx}{b:Bool}(hx:ev l x=.bool b)(ht:b=true→c1.wp P Q (Fr l ds) w)(hf:b=false→c2.wp P Q (Fr l ds) w):(Code.cond x c1 c2).wp P Q (Fr l ds) w :=
 wp_cond_split (by rw[kI,cK];exact hx) ht hf
theorem bD{x:bx}{p:Prop}[Decidable p](hx:ev l x=.bool (decide p))(ht:p→c1.wp P Q (Fr l ds) w)(hf:¬p→c2.wp P Q (Fr l ds) w):(Code.cond x c1 c2).wp P Q (Fr l ds) w :=
 gE hx (fun h=>ht (of_decide_eq_true h)) (fun h=>hf (of_decide_eq_false h))
theorem Ax{x:bx}(hx:ev l x=.bool true)(ht:c1.wp P Q (Fr l ds) w):(Code.cond x c1 c2).wp P Q (Fr l ds) w:=gE hx (fun _=>ht) (fun h=>by cases h)
theorem aeX{x:bx}(hx:ev l x=.bool false)(hf:c2.wp P Q (Fr l ds) w):(Code.cond x c1 c2).wp P Q (Fr l ds) w:=gE hx (fun h=>by cases h) (fun _=>hf)
def Res(P:bp)(l:List ai)(w:aj):ResultVar→ai→Prop
 | .tmp t,v=>l.getD t undef=v
 | .cell t T,v=>∃a,l.getD t undef=.pointer (some a)∧eR P w T a v
theorem Jy{r:ResultVar}{v:ai}(h:Res P l w r v):(∃t,r=.tmp t∧l[t]?.getD undef=v)∨(∃t T a,r=.cell t T∧l[t]?.getD undef=.pointer (some a)∧(loadVar T a).run P w=.ok v w):=by
 cases r with
 | tmp t=>exact .inl ⟨t,rfl,by simpa[Res] using h⟩
 | cell t T =>
  obtain⟨a,ha,hl⟩:=h;exact .inr ⟨t,T,a,O,by simpa using ha,hl⟩
theorem aT{R:Ending→aj→Prop}{r:ResultVar}{v:ai}(hr:fn.results = #[r])(h:Res P l w r v)(hR:R (.returned v) w):bodyPost P fn R .ret (Fr l) w:=by
 refine⟨O,v,?_,hR⟩;unfold results;rw[hr];rcases Jy h with ⟨t,rfl,h1⟩ | ⟨t,T,a,rfl,h1,h2⟩ <;> simp[*,asAddr]
theorem uA{R:Ending→aj→Prop}{r r':ResultVar}{v v':ai}(hr:fn.results = #[r,r'])(h:Res P l w r v)(h':Res P l w r' v')(hR:R (.returned (.tuple #[v,v'])) w):bodyPost P fn R .ret (Fr l) w:=by
 refine⟨O,_,?_,hR⟩;unfold results;rw[hr];rcases Jy h with ⟨t,rfl,h1⟩ | ⟨t,T,a,rfl,h1,h2⟩ <;> rcases Jy h' with ⟨t',rfl,h1'⟩ | ⟨t',T',a',rfl,h1',h2'⟩ <;> simp[*,asAddr]
end
end
/-! ### Numbers,loops,further values -/
theorem bP(h0 : -9223372036854775808≤x)(h1:x<9223372036854775808):IntKind.i64.wrap x=x:=by
 simp[ni,nj,mc];split <;> omega
theorem wO(h0:0≤x)(h1:x<18446744073709551616):IntKind.u64.wrap x=x:=by
 simp[ni,nj,mc];omega
theorem agP(h0:0≤x)(h1:x<4294967296):IntKind.u32.wrap x=x:=by
 simp[ni,nj,mc];omega
theorem agQ(h0 : -2147483648≤x)(h1:x<2147483648):IntKind.i32.wrap x=x:=by
 simp[ni,nj,mc];split <;> omega
theorem adO(h0:0≤x)(h1:x<256):IntKind.u8.wrap x=x:=by
 simp[ni,nj,mc];omega
def fJ:List ai→List Nat→List ai→List ai
 | l,t::ts,v::vs=>fJ (l.set t v) ts vs
 | l,_,_=>l
theorem Xd{t:Nat}{ts:List Nat}{v:ai}{vs:List ai}:fJ l (t::ts) (v::vs)=fJ (l.set t v) ts vs:=rfl
theorem Ay{vs:List ai}:fJ l [] vs=l:=by cases vs <;> rfl
theorem aah{t:Nat}:l.set t (l.getD t undef)=l:=by
 apply fw;intro i;rw[List.getElem?_set];split
 · rename_i h;subst h
   split
   · rename_i h;simp[h]
   · rename_i h;simp at h;simp[h]
 · rfl
theorem Ha:∀(ts:List Nat) (l:List ai),fJ l ts (ts.map (l.getD · undef))=l
 | [],l=>Ay
 | t::ts,l=>by
  simp only[bh,Xd,aah];exact Ha ts l
theorem xS{p:Nat→Prop}(h:∃n,p n):∃n,p n∧∀m,p m→n≤m:=by
 obtain⟨n,hn⟩:=h
 induction n using Nat.strongRecOn with
 | _ n ih =>
  by_cases hx:∃m,m<n∧p m
  · obtain⟨m,hm,hp⟩:=hx;exact ih m hm hp
  · exact⟨n,hn,fun m hm=>Nat.le_of_not_lt fun hlt=>hx ⟨m,hlt,hm⟩⟩
noncomputable def Ot(p:Nat→Prop)(h:∃n,p n):Nat:=(xS h).choose
theorem aai{p:Nat→Prop}(h:∃n,p n):p (Ot p h):=(xS h).choose_spec.1
theorem aeY{p:Nat→Prop}(h:∃n,p n){m:Nat}(hm:p m):Ot p h≤m:=(xS h).choose_spec.2 m hm
section
variable {P:bp} {ds:List dx} {l:List ai}
end
/-! ### Parts of values,slices,new slices -/
section
variable {P:bp} {ds:List dx} {l:List ai} {x y:bx} {T T' ty:az} {k:IntKind} {m n r:Int}
theorem pK{b:Bool}(h:fA P T b)(w:aj):(isAgg T).run P w=.ok b w:=by
 obtain⟨dd,hu,hd⟩:=h;unfold isAgg;rw[Sem.run_bind,cd hu w];cases dd <;> simp_all [Cy]
theorem eG{c:Nat}(h:dQ P T c)(w:aj):(sizeOf T).run P w=.ok c w:=by
 obtain⟨inf,hi,rfl⟩:=h;simp[sizeOf,typeInfo,hi]
theorem lG(cs:Array ai):(Value.agg cs).cells=cs:=rfl
theorem oF{parts:Array (Nat × bx)}{vs:Array (Nat × ai)}{v:ai}(hp:(parts.map fun (i,x)=>(i,ev l x))=vs)(h:∀w,(Instr.build T vs).run P w=.ok v w):iR P l (.build T parts) ty v:=fun w o ho _=>by
 have e:(Fr l).eval=ev l:=funext cK;subst hp;simp only[de,ho,e];rw[Sem.run_bind,h w];rfl
theorem iW{fs:Array Field}{places:Array (Nat × Nat)}{z:ai}{cells:Array ai}{vs:Array (Nat × ai)}(hu:P.underlying T=some (.struct fs))(hz:nU P T z)
 (hpl:∀w,(fs.mapM fun f=>do pure (f.offset,←sizeOf f.type):Sem (Array (Nat × Nat))).run P w=.ok places w) (hf:Instr.fill (places[·]?) z.cells vs.toList=some cells) (w:aj):(Instr.build T vs).run P w=.ok (.agg cells) w:=by
 obtain⟨inf,hi,h0⟩:=hz;simp only[Instr.build,zeroValue,typeInfo];simp[hi,h0,cd hu];have:=hpl w;simp at this;simp[this,hf]
theorem kR{E:az}{n c:Nat}{z:ai}{cells:Array ai}{vs:Array (Nat × ai)}(hu:P.underlying T=some (.array n E))(hz:nU P T z)(hc:dQ P E c)
 (hf:Instr.fill (fun i=>some (i*c,c)) z.cells vs.toList=some cells) (w:aj):(Instr.build T vs).run P w=.ok (.agg cells) w:=by
 obtain⟨inf,hi,h0⟩:=hz;simp only[Instr.build,zeroValue,typeInfo];simp[hi,h0,cd hu,eG hc,hf]
theorem agR{fs:Array Field}{i:Nat}{f:Field}{cs:Array ai}{v:ai}(hu:P.underlying T=some (.struct fs))(hf:fs[i]? = some f)(hA:fA P f.type false)(hx:ev l x=.agg cs)(hv:cs[f.offset]? = some v) :
 iR P l (.field T x i) ty v:=fun w o ho _=>by
 simp[de,ho,cK,hx,Instr.field,cd hu,hf,asAgg,part,pK hA,hv]
theorem agS{fs:Array Field}{i c:Nat}{f:Field}{cs us:Array ai}(hu:P.underlying T=some (.struct fs))(hf:fs[i]? = some f)(hA:fA P f.type true)(hc:dQ P f.type c)(hx:ev l x=.agg cs)(hv:cs.extract f.offset (f.offset+c)=us) :
 iR P l (.field T x i) ty (.agg us):=fun w o ho _=>by
 subst hv;simp[de,ho,cK,hx,Instr.field,cd hu,hf,asAgg,part,pK hA,eG hc]
theorem pL{E:az}{len c:Nat}{cs:Array ai}{v:ai}(hu:P.underlying T=some (.array len E))(hA:fA P E false)(hc:dQ P E c)(hx:ev l x=.agg cs)(hy:ev l y=.int k m)(h0:0≤m)(h1:m<len)(hv:cs[m.toNat*c]? = some v) :
 iR P l (.index T x y) ty v:=fun w o ho _=>by
 simp[de,ho,cK,hx,hy,Instr.index,asIntOf,cd hu,h0,h1,part,pK hA,eG hc,hv]
theorem pM{E:az}{len c:Nat}{cs us:Array ai}(hu:P.underlying T=some (.array len E))(hA:fA P E true)(hc:dQ P E c)(hx:ev l x=.agg cs)(hy:ev l y=.int k m)(h0:0≤m)(h1:m<len)(hv:cs.extract (m.toNat*c) (m.toNat*c+c)=us) :
 iR P l (.index T x y) ty (.agg us):=fun w o ho _=>by
 subst hv;simp[de,ho,cK,hx,hy,Instr.index,asIntOf,cd hu,h0,h1,part,pK hA,eG hc]
theorem oJ{s:ByteArray}{b:UInt8}(hu:P.underlying T=some .string)(hx:ev l x=.string s)(hy:ev l y=.int k m)(h0:0≤m)(hb:s[m.toNat]? = some b) :
 iR P l (.index T x y) ty (.int .u8 b.toNat):=fun w o ho _=>by
 simp[de,ho,cK,hx,hy,Instr.index,asIntOf,cd hu,h0,hb]
theorem nG{E:az}{A:Option Addr}{len cap c:Nat}(hu:P.underlying T=some (.slice E))(hc:dQ P E c){q:Nat}(hx:ev l x=.slice A len cap)(hy:ev l y=.int k m)(hq:m.toNat=q)(h0:0≤m)(h1:m≤cap) :
 iR P l (.slice T x none (some y) none) ty (.slice A q cap):=fun w o ho _=>by
 subst hq;have e:(if cap=0 then A else Option.map (fun a=>a.add 0) A)=A:=by
  split
  · rfl
  · cases A <;> simp[Addr.add]
 have h1':¬(m.toNat:Int)>cap:=by omega
 simp[de,ho,cK,hx,hy,Instr.sliceAt,Instr.slice,Instr.sliceBounds,Instr.sliceBound,asIntOf,cd hu,h0,h1,eG hc];intro _;cases A <;> simp[Addr.add]
theorem tR{E:az}{A A':Option Addr}{len cap c:Nat}(hu:P.underlying T=some (.slice E))(hc:dQ P E c){q:Nat}(hx:ev l x=.slice A len cap)(hy:ev l y=.int k m)(hq:m.toNat=q)(h0:0≤m)(h1:m≤len)(hA:(if cap=q then A else A.map (·.add (q*c)))=A') :
 iR P l (.slice T x (some y) none none) ty (.slice A' (len-q) (cap-q)):=fun w o ho _=>by
 subst hq;subst hA;simp[de,ho,cK,hx,hy,Instr.sliceAt,Instr.slice,Instr.sliceBounds,Instr.sliceBound,asIntOf,cd hu,h0,h1,eG hc]
theorem agT{s:ByteArray}(hu:P.underlying T=some .string)(hx:ev l x=.string s)(hy:ev l y=.int k m)(h0:0≤m)(h1:m≤s.size) :
 iR P l (.slice T x (some y) none none) ty (.string (s.extract m.toNat s.size)):=fun w o ho _=>by
 simp[de,ho,cK,hx,hy,Instr.sliceAt,Instr.slice,Instr.sliceBounds,Instr.sliceBound,asIntOf,cd hu,h0,h1]
variable {ops:Array Oper} {Q:Exit→Act→aj→Prop} {rest:List Oper} {d:Nat} {pos:String} {after:Array Edge} {w:aj}
theorem tE{E:az}{b:Nat}{kc:IntKind}{z:ai}(hu:P.underlying T=some (.slice E))(hi:(P.info? E).map (fun i=>(i.size,i.bytes,i.zero))=some (1,b,some z))(hzc:z.cells = #[z]){q q':Nat}(hx:ev l x=.int k m)(hy:ev l y=.int kc n)(hq:m.toNat=q)(hq':n.toNat=q')(h0:0≤m)(h1:m≤n)(hn:n≤9223372036854775807)(hb:(b:Int)*n≤281474976710656)
 (h:∀w' g,fQ w w'→w.heap.size≤g→fR w' g (cu q' z) E→ar P ops Q rest (Fr (l.set d (.slice (some ⟨g,0,none⟩) q q')) ds) w') :
 ar P ops Q (bm (some d) (.makeSlice T x y) ty pos after none::rest) (Fr l ds) w:=by
 subst hq;subst hq';cases hq:P.info? E with
 | none=>rw[hq] at hi;cases hi
 | some i =>
  rw[hq] at hi;simp only[fl,gn,gh] at hi;obtain⟨e1,e2,e3⟩:=hi;subst e2;have hr:=run_make (P:=P) w T E i z hu hq e3 k kc m n h0 h1 hb hn;have hc:madeCells z.cells (n.toNat*i.size)=(cu n.toNat z).toArray:=by
   rw[e1,hzc,ll];apply pd;rw[toList_madeCells_one]
  rw[hc] at hr;exact mJ (fun o ho _=>by simp[de,ho,cK,hx,hy,hr]) (h _ _ ((fQ.refl w).alloc _) (av _) (jQ w _ E))
def agU(w:aj)(base:Nat)(e:az)(size:Nat)(v:ai)(n:Nat)(xs:List ai):Prop:=w.ownsRow base e size v n xs
theorem agU.row{w:aj}{base:Nat}{e:az}{size:Nat}{v:ai}{n:Nat}{xs:List ai}(h:agU w base e size v n xs):(v=.slice none 0 0∧n=0∧xs=[])∨∃g cap,v=.slice (some ⟨g,0,none⟩) n cap∧base≤g∧n≤cap∧cap≤maxLen∧g<w.heap.size∧mD w ⟨g,0,none⟩ xs:=by
 rcases h.2 with ⟨rfl,rfl⟩ | ⟨g,cap,cur,rfl,hbg,hg,h1,h2,h3,h4⟩
 · exact .inl ⟨O,O,fa (by simpa using h.1)⟩
 · refine .inr ⟨g,cap,O,hbg,h1,h2,(dz.1 hg).1,fun j u hj=>?_⟩
   rw[eL,aq,cell_of_row w g j cur e (0,0) hg];rw[←h4,dm] at hj;split at hj
   · simpa using hj
   · cases hj
end
section
variable {P:bp} {ds:List dx} {l:List ai} {x y:bx} {T T' ty:az} {k:IntKind} {m n r:Int}
theorem qT(hx:ev l x=.int k m)(hy:ev l y=.int k n)(h:m<n):iR P l (.binOp .lss T x y T') ty (.bool true):=by
 have:=qL (P:=P) (T:=T) (T':=T') (ty:=ty) hx hy;rwa [decide_eq_true h] at this
theorem Fj(hx:ev l x=.int k m)(hy:ev l y=.int k n)(h:¬m<n):iR P l (.binOp .lss T x y T') ty (.bool false):=by
 have:=qL (P:=P) (T:=T) (T':=T') (ty:=ty) hx hy;rwa [decide_eq_false h] at this
theorem xT(hx:ev l x=.int k m)(hy:ev l y=.int k n)(h:m=n):iR P l (.binOp .eql T x y T') ty (.bool true):=by
 have:=rP (P:=P) (T:=T) (T':=T') (ty:=ty) hx hy;rwa [decide_eq_true h] at this
theorem Xe(hx:ev l x=.int k m)(hy:ev l y=.int k n)(h:¬m=n):iR P l (.binOp .eql T x y T') ty (.bool false):=by
 have:=rP (P:=P) (T:=T) (T':=T') (ty:=ty) hx hy;rwa [decide_eq_false h] at this
theorem rH{c:bx}(hc:ev l c=.bool true):iR P l (.pick c x y) ty (ev l x):=Xb hc
theorem Da{c:bx}(hc:ev l c=.bool false):iR P l (.pick c x y) ty (ev l y):=Xb hc
theorem anN{op:Op}{v u:ai}(h:iR P l op ty v)(e:v=u):iR P l op ty u:=e▸h
end
def pN:List ai→List Nat→(Nat→ai)→List ai
 | l,t::ts,g=>pN (l.set t (g t)) ts g
 | l,[],_=>l
theorem aeZ{t:Nat}{ts:List Nat}{g:Nat→ai}:pN l (t::ts) g=pN (l.set t (g t)) ts g:=rfl
theorem aqb{g:Nat→ai}:pN l [] g=l:=rfl
theorem ae0:∀(ts:List Nat) (l:List ai),pN l ts (l.getD · undef)=l:=by
 intro ts;have key:∀(ts:List Nat) (l:List ai) (g:Nat→ai),(∀t,l.set t (g t)=l)→pN l ts g=l:=by
  intro ts
  induction ts with
  | nil=>intro l g _;rfl
  | cons t ts ih=>intro l g h;rw[aeZ,h t];exact ih l g h
 exact fun l=>key ts l _ fun t=>aah
section
variable {P:bp} {ds:List dx} {l:List ai}
theorem adP{c:Code}{Q:Exit→Act→aj→Prop}{w:aj}(ts ss:List Nat)(I:Nat→List ai→aj→Prop)(h0:∃n,I n (ts.map (l.getD · undef)) w)
 (hr:∀n vs w,I n vs w→∀g:Nat→ai,c.wp P (Exit.then (fun a' w'=>∃n' l',n'<n∧a'=Fr l'∧pN (fJ l ts (ts.map (l'.getD · undef))) ss (l'.getD · undef)=l'∧I n' (ts.map (l'.getD · undef)) w') Q) (Fr (pN (fJ l ts vs) ss g)) w):(Code.loop c).wp P Q (Fr l) w:=by
 obtain⟨n0,h0⟩:=h0
 let J:Nat→Act→aj→Prop:=fun n a w=>∃vs g,a=Fr (pN (fJ l ts vs) ss g)∧I n vs w
 have hJ0:∃n,J n (Fr l) w:=⟨n0,_,(l.getD · undef),by rw[Ha,ae0],h0⟩
 let μ:Act→aj→Nat:=fun a w=>@dite _ (∃n,J n a w) (Classical.propDecidable _) (fun h=>Ot (fun n=>J n a w) h) (fun _=>0)
 refine wp_loop (fun a w=>∃n,J n a w) μ hJ0 ?_;intro a w hI;obtain⟨vs,g,rfl,hIv⟩:=aai hI;refine Code.wp_mono ?_ (hr _ vs w hIv g);intro e a' w' hq;cases e with
 | normal =>
  obtain⟨n',l',hlt,rfl,he,hI'⟩:=hq;have hJ:J n' (Fr l') w':=⟨_,(l'.getD · undef),by rw[he],hI'⟩
  refine⟨⟨n',hJ⟩,?_⟩;have e1:μ (Fr l') w'=Ot (fun n=>J n (Fr l') w') ⟨n',hJ⟩:=by simp only[μ];rw[dif_pos ⟨n',hJ⟩]
  have e2:μ (Fr (pN (fJ l ts vs) ss g)) w=Ot (fun n=>J n (Fr (pN (fJ l ts vs) ss g)) w) hI:=by simp only[μ];rw[dif_pos hI]
  rw[e1,e2];exact nc (aeY _ hJ) hlt
 | exit id=>exact hq
 | goto id=>exact hq
 | ret=>exact hq
 | panic ch=>exact hq
 | outgrown=>exact hq
end
section
variable {P:bp} {ds:List dx} {l:List ai} {ops:Array Oper} {Q:Exit→Act→aj→Prop} {w:aj} {rest:List (Oper × Bool)} {d:Nat} {op:Op} {ty:az} {pos:String} {after:Array Edge} {v:ai}
theorem bQ{Q:Exit→Act→aj→Prop}(h:∀c (t:Array ai) ds (t':Array ai) w,Q (.panic c) { tmps:=t,defers:=ds } w→Q (.panic c) { tmps:=t',defers:=ds } w):∀c d v a w,Q (.panic c) (Act.put a d v) w→Q (.panic c) a w:=by
 intro c d v a w hq;cases d with
 | none=>exact hq
 | some d=>exact h c _ _ _ w hq
end
end Go.Lith
namespace Go.Lith
variable{B x i n k a d cap c q:Nat}{xs ys os:List Nat}{m s:Int}{w:aj}
/-! ### Digits -/
def val(B:Nat):List Nat→Nat
 | []=>0
 | x::xs=>x+B*val B xs
def trim:List Nat→List Nat
 | []=>[]
 | x::xs=>if trim xs=[]∧x=0 then [] else x::trim xs
def eO(B:Nat)(xs:List Nat):Prop:=∀x∈xs,x<B
theorem lC(B:Nat):∀xs ys:List Nat,val B (xs++ys)=val B xs+B^xs.length*val B ys
 | [],ys=>by simp[val]
 | x::xs,ys=>by simp only[cj,val,lC B xs ys,aw,iw];grind
theorem Fk{B:Nat}:∀{xs:List Nat},eO B xs→val B xs<B^xs.length
 | [],_=>by simp[val]
 | x::xs,h=>by
  have h1:x<B:=h x (by simp);have h2:=Fk (xs:=xs) fun y hy=>h y (by simp[hy]);simp only[val,aw,iw];have h3:val B xs+1≤B^xs.length:=h2;have:=ka B h3
  grind
theorem Hb(B:Nat):∀xs:List Nat,val B (trim xs)=val B xs
 | []=>rfl
 | x::xs=>by
  have ih:=Hb B xs;simp only[trim];split
  · rename_i h;rw[h.1] at ih;simp only[val] at ih ⊢;rw[←ih,h.2];simp
  · simp only[val,ih]
theorem kY:∀xs:List Nat,trim xs=xs.take (trim xs).length
 | []=>rfl
 | x::xs=>by
  simp only[trim];split
  · rfl
  · simp only[aw,List.take_succ_cons];rw[←kY xs]
theorem eO.take(h:eO B xs)(n:Nat):eO B (xs.take n):=fun x hx=>h x (List.mem_of_mem_take hx)
theorem eO.trim{B:Nat}{xs:List Nat}(h:eO B xs):eO B (trim xs):=by rw[kY];exact h.take _
theorem eO.append(h:eO B xs)(k:eO B ys):eO B (xs++ys):=fun x hx=>by
 rcases List.mem_append.1 hx with h' | h'
 · exact h x h'
 · exact k x h'
theorem mU(B:Nat):eO B []:=fun _ h=>by cases h
theorem wP(hx:x<B)(h:eO B xs):eO B (x::xs):=fun y hy=>by
 rcases an.1 hy with rfl | h'
 · exact hx
 · exact h y h'
theorem eO.set(h:eO B xs)(hx:x<B):eO B (xs.set i x):=fun y hy=>by
 rcases ix hy with h' | rfl
 · exact h y h'
 · exact hx
theorem eO.get(h:eO B xs)(hi:xs[i]? = some x):x<B:=h x (be hi)
def iS(xs:List Nat):Prop:=trim xs=xs
theorem Uf:∀xs:List Nat,trim (trim xs)=trim xs
 | []=>rfl
 | x::xs=>by
  have ih:=Uf xs;simp only[trim];split
  · rfl
  · rename_i h;simp only[trim,ih];rw[if_neg h]
theorem Hc(xs:List Nat):iS (trim xs):=Uf xs
theorem iS.tail(h:iS (x::xs)):iS xs:=by
 unfold iS at *
 simp only[trim] at h;split at h
 · cases h
 · simpa using h
theorem He{B:Nat}(hB:0<B):∀{xs:List Nat},iS xs→xs≠[]→0<val B xs
 | [],_,h=>absurd rfl h
 | x::xs,ht,_=>by
  simp only[val];by_cases hx:xs=[]
  · subst hx
    have:x≠0:=by
     rintro rfl;simp[iS,trim] at ht
    omega
  · have:=Nat.mul_pos hB (He hB ht.tail hx)
    omega
theorem Az{B:Nat}(hB:1<B):∀{xs ys:List Nat},eO B xs→eO B ys→iS xs→iS ys→val B xs=val B ys→xs=ys
 | [],[],_,_,_,_,_=>rfl
 | [],y::ys,_,_,_,hy,h=>by have:=He (B:=B) (by omega) hy (by simp);rw[←h] at this;simp[val] at this
 | x::xs,[],_,_,hx,_,h=>by have:=He (B:=B) (by omega) hx (by simp);rw[h] at this;simp[val] at this
 | x::xs,y::ys,hx,hy,tx,ty,h=>by
  simp only[val] at h;have h1:x<B:=hx x (by simp);have h2:y<B:=hy y (by simp);have e1:x=y:=by
   have:=congrArg (· % B) h;simpa[Nat.add_mul_mod_self_left,kg h1,kg h2] using this
  subst e1;have e2:val B xs=val B ys:=by
   have:B*val B xs=B*val B ys:=by omega
   exact Nat.eq_of_mul_eq_mul_left (by omega) this
  rw[Az hB (fun z hz=>hx z (by simp[hz])) (fun z hz=>hy z (by simp[hz])) tx.tail ty.tail e2]
def Ug(B:Nat):Nat→Nat→List Nat
 | 0,_=>[]
 | f+1,n=>if n=0 then [] else (n%B)::Ug B f (n / B)
def digs(B n:Nat):List Nat:=Ug B n n
theorem xU{B:Nat}(hB:1<B):∀(f n:Nat),n≤f→val B (Ug B f n)=n∧eO B (Ug B f n)∧iS (Ug B f n)
 | 0, n, h => by
  obtain rfl:n=0 := by omega
  exact⟨O,mU B,O⟩
 | f+1,n,h=>by
  simp only[Ug];split
  · rename_i h0;exact⟨by simp[val,h0],mU B,O⟩
  · rename_i h0
    have hlt:n / B≤f:=by
     have:=Nat.div_lt_self (Nat.pos_of_ne_zero h0) hB;omega
    obtain⟨h1,h2,h3⟩:=xU hB f (n / B) hlt;refine⟨by simp only[val,h1];exact Nat.mod_add_div n B,wP (jr _ (by omega)) h2,?_⟩;unfold iS at *
    simp only[trim,h3];rw[if_neg];rintro⟨h4,h5⟩;rw[h4] at h1;simp only[val] at h1;have:=Nat.mod_add_div n B;rw[h5,←h1] at this;omega
theorem rQ(hB:1<B)(n:Nat):val B (digs B n)=n:=(xU hB n n (av _)).1
theorem tS(hB:1<B)(n:Nat):eO B (digs B n):=(xU hB n n (av _)).2.1
theorem pO(hB:1<B)(n:Nat):iS (digs B n):=(xU hB n n (av _)).2.2
theorem pP(hB:1<B)(h:eO B xs)(hv:val B xs=n):trim xs=digs B n :=
 Az hB h.trim (tS hB n) (Hc xs) (pO hB n) (by rw[Hb,rQ hB,hv])
theorem vF(hB:1<B):digs B n=[]↔n=0:=by
 constructor
 · intro h;rw[←rQ hB n,h];rfl
 · rintro rfl;rfl
theorem lH(hB:1<B)(h:n<B^k):(digs B n).length≤k:=by
 rcases dq k (digs B n).length with hlt | hge
 · exfalso
   have hne:(digs B n)≠[]:=by intro h';rw[h'] at hlt;simp at hlt
   -- the greatest digit is not 0
   have key:∀xs:List Nat,iS xs→xs≠[]→B^(xs.length-1)≤val B xs:=by
    intro xs
    induction xs with
    | nil=>intro _ h;exact absurd O h
    | cons x xs ih =>
     intro ht _;by_cases hx:xs=[]
     · subst hx
       have:=He (B:=B) (by omega) ht (by simp);simp[val] at this ⊢;omega
     · have:=ih ht.tail hx
       have h2:xs.length≠0:=by simpa using hx
       simp only[aw,val,gr];have e:xs.length=(xs.length-1)+1:=by omega
       rw[e,iw];have:=ka B this
       grind
   have:=key _ (pO hB n) hne;rw[rQ hB] at this;have h3:B^k≤B^((digs B n).length-1):=jg (by omega) (by omega);omega
 · exact hge
/-! ### Numbers as values -/
def fY(n:Int):Bool:=decide (n<0)
def mN(n:Nat):List UInt8:=(digs 256 n).reverse.map ei
def kK(n:Int):ByteArray:=⟨(mN n.natAbs).toArray⟩
def W(n:Int):ai:=.agg #[.bool (fY n),.string (kK n)]
def Bd(k:Nat)(n:Int):Prop:=n.natAbs<2^k
theorem Bd.mono{b:Nat}{n:Int}(h:Bd a n)(hab:a≤b):Bd b n:=gg h (jg (by omega) hab)
theorem Bd.neg{n:Int}(h:Bd a n):Bd a (-n):=by unfold Bd at *;rwa [Int.natAbs_neg]
theorem Bd.add{b:Nat}{n:Int}(h:Bd a m)(k:Bd b n):Bd (max a b+1) (m+n):=by
 unfold Bd at *
 have h1:(m+n).natAbs≤m.natAbs+n.natAbs:=Int.natAbs_add_le m n;have h2:2^a≤2^max a b:=jg (by omega) (Nat.le_max_left a b);have h3:2^b≤2^max a b:=jg (by omega) (Nat.le_max_right a b);rw[iw];omega
theorem Bd.sub{b:Nat}{n:Int}(h:Bd a m)(k:Bd b n):Bd (max a b+1) (m-n):=by rw[Int.sub_eq_add_neg];exact h.add k.neg
theorem Bd.mul{b:Nat}{n:Int}(h:Bd a m)(k:Bd b n):Bd (a+b) (m*n):=by
 unfold Bd at *
 rw[Int.natAbs_mul,og];exact Nat.mul_lt_mul_of_lt_of_lt h k
theorem Bd.of_i64{n:Int}(h0 : -9223372036854775808≤n)(h1:n≤9223372036854775807):Bd 64 n:=by
 unfold Bd;omega
theorem No(k:Nat):Bd k 0:=by unfold Bd;exact Nat.two_pow_pos k
theorem Uh(n:Int):(kK n).size=(digs 256 n.natAbs).length:=by simp[kK,ByteArray.size,mN]
theorem Xf{n:Int}(h:Bd k n):(kK n).size≤k:=by
 rw[Uh];refine lH (by omega) (gg h ?_);rw[show 256=2^8 from rfl,←oh];exact jg (by omega) (by omega)
theorem aaj{m:Nat}(h:mN m=mN n):m=n:=by
 have key:∀k,val 256 (((mN k).map iz).reverse)=k:=by
  intro k;have e:((mN k).map iz).reverse=digs 256 k:=by
   unfold mN;rw[List.map_map,←List.map_reverse,List.reverse_reverse];have:∀x∈digs 256 k,(iz∘ei) x=x:=by
    intro x hx;have:=tS (B:=256) (by omega) k x hx;simp;omega
   exact (iy this).trans (List.map_id' _)
  rw[e,rQ (by omega)]
 rw[←key m,←key n,h]
theorem aqc{n:Int}(h:W m=W n):m=n:=by
 simp only[W,Value.agg.injEq,Array.mk.injEq,lv,Value.bool.injEq,Value.string.injEq,and_true] at h;obtain⟨h1,h2⟩:=h;have h3:m.natAbs=n.natAbs:=by
  have:mN m.natAbs=mN n.natAbs:=by simpa[kK] using h2
  exact aaj this
 unfold fY at h1;have:(m<0)↔(n<0):=by simpa using h1
 omega
structure lI(w:aj)(A:Option Addr)(n cap:Nat)(xs:List Nat):Prop where
 eq:n=xs.length
 row:∀(i x:Nat),xs[i]? = some x→∃a,A=some a∧w.cell? (a.add i)=some (.int .u64 (x:Int))
 le:xs.length≤cap
 cap:cap≤9223372036854775807
 len:xs.length≤17592186044416
 digs:eO 4294967296 xs
section
variable {w:aj} {A:Option Addr} {n cap:Nat} {xs:List Nat}
theorem lI.ext{w':aj}(h:lI w A n cap xs)(hE:fQ w w'):lI w' A n cap xs :=
 ⟨h.eq,fun i x hi=>let ⟨a,e,hc⟩:=h.row i x hi;⟨a,e,hE.cell hc⟩,h.le,h.cap,h.len,h.digs⟩
theorem lI.take(h:lI w A n cap xs)(k:Nat):lI w A (xs.take k).length cap (xs.take k) :=
 ⟨rfl,fun i x hi=>h.row i x (by rw[dm] at hi;split at hi;exact hi;cases hi),ba (by simp;omega) h.le,h.cap,ba (by simp;omega) h.len,h.digs.take k⟩
theorem lI.get(h:lI w A n cap xs){i:Nat}(hi:i<xs.length):∃a,A=some a∧w.cell? (a.add i)=some (.int .u64 ((xs[i]:Nat):Int))∧xs[i]<4294967296 :=
 let ⟨a,e,hc⟩:=h.row i xs[i] (am hi);⟨a,e,hc,h.digs _ (fq hi)⟩
theorem lI.as(h:lI w A n cap xs){ys:List Nat}(e:xs=ys):lI w A n cap ys:=e▸h
end
theorem pQ:∀ys:List Nat,trim (ys++[0])=trim ys
 | []=>by simp[trim]
 | y::ys=>by simp only[cj,trim,pQ ys]
theorem vY{x:Nat}(hx:x≠0):∀ys:List Nat,trim (ys++[x])=ys++[x]
 | []=>by simp[trim,hx]
 | y::ys=>by simp only[cj,trim,vY hx ys];rw[if_neg (by simp)]
theorem Jz(hk:0<k)(h:k-1<xs.length):xs.take k=xs.take (k-1)++[xs[k-1]]:=by
 have e:k=(k-1)+1:=by omega
 conv=>lhs;rw[e]
 rw[List.take_succ_eq_append_getElem h]
theorem Ui(hk:0<k)(h:k-1<xs.length)(h0:((xs[k-1]:Nat):Int)=0)(ht:trim (xs.take k)=trim xs):trim (xs.take (k-1))=trim xs:=by
 rw[←ht,Jz hk h,show xs[k-1]=0 by omega,pQ]
theorem aak(hk:0<k)(h:k-1<xs.length)(h0:¬((xs[k-1]:Nat):Int)=0)(ht:trim (xs.take k)=trim xs):k=(trim xs).length:=by
 rw[←ht,Jz hk h,vY (by omega)];simp;omega
theorem aal(ht:trim (xs.take 0)=trim xs):0=(trim xs).length:=by rw[←ht];rfl
/-! ### Words in a block -/
abbrev Ka(x:Nat):ai:=.int .u64 (x:Int)
theorem mV(hi:i<os.length):over (os.map Ka) i [Ka d]=(os.set i d).map Ka:=by
 unfold over;rw[List.set_eq_take_append_cons_drop,if_pos hi];simp[List.map_take,List.map_drop]
theorem nW(n:Nat):cu n (Value.int .u64 0)=(cu n 0).map Ka:=by simp[Ka]
theorem fR.word{g:Nat}{t:az}(h:fR w g (os.map Ka) t)(hi:i<os.length):w.cell? ⟨g,i,none⟩=some (.int .u64 ((os[i]:Nat):Int)) :=
 h.cell (by simp[hi])
theorem fR.nat{g:Nat}{t:az}(h:fR w g (os.map Ka) t)(hd:eO 4294967296 os)(hn:n=os.length)(hl:n≤17592186044416):lI w (some ⟨g,0,none⟩) n n os :=
 ⟨hn,fun i x hi=>⟨_,rfl,by rw[eL,aq];exact h.cell (by simp[hi])⟩,by omega,by omega,by omega,hd⟩
def qU(n:Nat)(v:ai)(w:aj):Prop:=∃A cap,v=.slice A (digs 4294967296 n).length cap∧lI w A (digs 4294967296 n).length cap (digs 4294967296 n)
theorem qU.of_trim{A:Option Addr}(h:lI w A k cap xs)(hv:val 4294967296 xs=n):qU n (.slice A (trim xs).length cap) w:=by
 have e:trim xs=digs 4294967296 n:=pP (by omega) h.digs hv;refine⟨A,cap,by rw[e],?_⟩;have h':=h.take (trim xs).length;rw[←kY,e] at h';exact h'
def wQ(w:aj)(v:ai):Prop:=∀a n c,v=.slice (some a) n c→w.heap.size≤a.block
theorem wQ.of_blk{g off:Nat}(h:w.heap.size≤g):wQ w (.slice (some ⟨g,off,none⟩) n c):=fun a n' c' e=>by cases e;exact h
theorem Db(a:Addr)(i:Nat):(a.add i).block=a.block:=by unfold Addr.add;split <;> rfl
/-! ### Sums of digits -/
theorem vG{B:Nat}:∀{os:List Nat} {j d:Nat} (hj:j<os.length),val B (os.set j d)+B^j*os[j]=val B os+B^j*d
 | x::xs,0,d,_=>by simp[val];omega
 | x::xs,j+1,d,h=>by
  have ih:=vG (B:=B) (os:=xs) (j:=j) (d:=d) (by simpa using h);simp only[fy,val,List.getElem_cons_succ,iw];have:=congrArg (B * ·) ih;simp only[om] at this
  grind
theorem mE(B n:Nat):val B (cu n 0)=0:=by
 induction n with
 | zero=>rfl
 | succ n ih=>simp[List.replicate_succ,val,ih]
theorem eD(hi:i<xs.length):val B (xs.take (i+1))=val B (xs.take i)+B^i*xs[i]:=by
 rw[List.take_succ_eq_append_getElem hi,lC,bv,ii (by omega)];simp[val]
theorem oU(hi:xs.length≤i):val B (xs.take i)=val B xs:=by rw[ay hi]
theorem rI   : (os.set i d).drop (i+1)=os.drop (i+1):=by
 apply fw;intro j;simp only[di];rw[me (by omega)]
theorem nX(h:os.drop i=cu n 0)(hi:i<os.length):os[i]=0∧os.drop (i+1)=cu (n-1) 0:=by
 rw[eu hi] at h;cases n with
 | zero=>cases h
 | succ n=>simp only[List.replicate_succ,lv] at h;exact⟨h.1,by simpa using h.2⟩
theorem aam{B:Nat}{os:List Nat}{i d c c' s t T:Nat}(hi:i<os.length)(hs:os[i]+s+c=d+B*c')(hT:val B os+B^i*c=T)(ht:T+B^i*s=t) :
 val B (os.set i d)+B^(i+1)*c'=t:=by
 have h1:=vG (B:=B) (d:=d) hi;have h2:=congrArg (B^i * ·) hs;simp only[om] at h2;rw[iw]
 grind
/-! ### Order -/
def ord(a b:Nat):Int:=if a<b then -1 else if b<a then 1 else 0
theorem Eo(hB:1<B)(hx:eO B xs)(hlx:k<xs.length)(hly:k<ys.length)(hd:xs.drop (k+1)=ys.drop (k+1))(h:xs[k]<ys[k]):val B xs<val B ys:=by
 have e1:val B xs=val B (xs.take (k+1))+B^(k+1)*val B (xs.drop (k+1)):=by
  conv=>lhs;rw[←lz (k+1) xs]
  rw[lC,bv,ii (by omega)]
 have e2:val B ys=val B (ys.take (k+1))+B^(k+1)*val B (ys.drop (k+1)):=by
  conv=>lhs;rw[←lz (k+1) ys]
  rw[lC,bv,ii (by omega)]
 rw[e1,e2,hd,eD hlx,eD hly];have h1:=Fk (hx.take k);rw[bv,ii (by omega)] at h1;have h2:B^k*(xs[k]+1)≤B^k*ys[k]:=ka _ h;rw[om] at h2;omega
theorem nH(hB:1<B)(hx:eO B xs)(hy:eO B ys)(ty:iS ys)(h:xs.length<ys.length):val B xs<val B ys:=by
 rcases dq (val B xs) (val B ys) with hlt | hge
 · exact hlt
 · exfalso
   have e:ys=digs B (val B ys):=Az hB hy (tS hB _) ty (pO hB _) (by rw[rQ hB]);have h1:val B ys<B^xs.length:=nc hge (Fk hx);have h2:=lH hB h1;rw[←e] at h2;omega
/-! ### The machine's numbers -/
theorem mF(x:Int):IntKind.u64.wrap x=x%18446744073709551616:=by simp[ni,nj,mc]
theorem rR(h0:0≤s)(h1:s<18446744073709551616):IntKind.u64.wrap ((d_ IntKind.u64.bits s &&& d_ IntKind.u64.bits 4294967295).toNat:Int)=s%4294967296:=by
 obtain⟨n,rfl⟩:=Int.eq_ofNat_of_zero_le h0;have hn:n<18446744073709551616:=by omega
 have e:(d_ 64 (n:Int) &&& d_ 64 4294967295).toNat=n%4294967296:=by
  rw[BitVec.toNat_and];have e1:(d_ 64 (n:Int)).toNat=n:=by simp[ox];omega
  have e2:(d_ 64 4294967295).toNat=2^32-1:=by decide
  rw[e1,e2,Nat.and_two_pow_sub_one_eq_mod]
 show IntKind.u64.wrap ((d_ 64 (n:Int) &&& d_ 64 4294967295).toNat:Int)=_
 rw[e,wO (by omega) (by omega)];omega
theorem Uj(h0:0≤s):s.fdiv (2^(min (32:Int).toNat IntKind.u64.bits))=s / 4294967296:=by
 show s.fdiv (2^32)=_
 rw[gu _ (by decide)];rfl
theorem amW(h0:0≤s):s.fdiv (2^(min (63:Int).toNat IntKind.u64.bits))=s / 9223372036854775808:=by
 show s.fdiv (2^63)=_
 rw[gu _ (by decide)];rfl
/-! ### Addresses of words -/
theorem jF{a:Addr}(h:m.toNat=q):a.add (m.toNat*1)=a.add q:=by rw[h,ll]
theorem bZ{a:Addr}(h:m.toNat=q):a.add (m.toNat*c)=a.add (q*c):=by rw[h]
theorem fK{g:Nat}(h:m.toNat=q):(⟨g,0,none⟩:Addr).add (m.toNat*1)=⟨g,q,none⟩:=by rw[h,ll,eL,aq]
theorem mW{g:Nat}(h:m.toNat=q):(⟨g,0,none⟩:Addr).add (m.toNat*c)=⟨g,q*c,none⟩:=by rw[h,eL,aq]
theorem lI.at{a:Addr}(h:lI w (some a) n cap xs)(hi:i<xs.length):w.cell? (a.add i)=some (.int .u64 ((xs[i]:Nat):Int)):=by
 obtain⟨a',e,hc⟩:=h.row i xs[i] (am hi);cases e;exact hc
/-! ### Rounds -/
theorem agV(hx:eO 4294967296 xs)(hk:0<k)(hlx:k-1<xs.length)(hly:k-1<ys.length)(hd:xs.drop k=ys.drop k)(h:((xs[k-1]:Nat):Int)<((ys[k-1]:Nat):Int)):val 4294967296 xs<val 4294967296 ys :=
 Eo (by omega) hx hlx hly (by rw[show k-1+1=k by omega];exact hd) (by omega)
theorem ae1(hk:0<k)(hlx:k-1<xs.length)(hly:k-1<ys.length)(hd:xs.drop k=ys.drop k)(h1:¬((xs[k-1]:Nat):Int)<((ys[k-1]:Nat):Int))(h2:¬((ys[k-1]:Nat):Int)<((xs[k-1]:Nat):Int)):xs.drop (k-1)=ys.drop (k-1):=by
 rw[eu hlx,eu hly,show k-1+1=k by omega,hd,show xs[k-1]=ys[k-1] by omega]
theorem Dd{os xs ys:List Nat}{i c s:Nat}(hi:i<xs.length)(hlo:os.length=xs.length+1)(hv:val 4294967296 os+4294967296^i*c=val 4294967296 (xs.take i)+val 4294967296 (ys.take i))(hz:os.drop i=cu (xs.length+1-i) 0)(hd:eO 4294967296 os)(hc:c≤1)
 (hs:s=xs[i]+c+ys[i]?.getD 0) (hx:xs[i]<4294967296) (hy:ys[i]?.getD 0<4294967296) :
 val 4294967296 (os.set i (s%4294967296))+4294967296^(i+1)*(s / 4294967296)=val 4294967296 (xs.take (i+1))+val 4294967296 (ys.take (i+1))∧(os.set i (s%4294967296)).drop (i+1)=cu (xs.length+1-(i+1)) 0∧eO 4294967296 (os.set i (s%4294967296))∧s / 4294967296≤1:=by
 obtain⟨z1,z2⟩:=nX hz (by omega);refine⟨?_,?_,hd.set (jr _ (by omega)),by omega⟩
 · refine aam (s:=xs[i]+ys[i]?.getD 0) (by omega) (by rw[z1];omega) hv ?_
   rw[eD hi];by_cases hy':i<ys.length
   · rw[eD hy',am hy']
     simp only[df,om];omega
   · rw[bz (by omega),oU (xs:=ys) (i:=i+1) (by omega),oU (xs:=ys) (i:=i) (by omega)]
     simp;omega
 · rw[rI,z2]
   congr 1
theorem Np{os xs ys:List Nat}{c:Nat}(hle:ys.length≤xs.length)(hlo:os.length=xs.length+1)(hv:val 4294967296 os+4294967296^xs.length*c=val 4294967296 (xs.take xs.length)+val 4294967296 (ys.take xs.length))(hz:os.drop xs.length=cu (xs.length+1-xs.length) 0) :
 val 4294967296 (os.set xs.length c)=val 4294967296 xs+val 4294967296 ys:=by
 obtain⟨z1,_⟩:=nX hz (by omega);have h:=vG (B:=4294967296) (d:=c) (show xs.length<os.length by omega);rw[z1] at h;rw[fi,oU hle] at hv;omega
theorem Uk{os xs ys:List Nat}{i c s:Nat}(hi:i<xs.length)(hlo:os.length=xs.length)(hv:val 4294967296 os+val 4294967296 (ys.take i)=val 4294967296 (xs.take i)+4294967296^i*c)(hz:os.drop i=cu (xs.length-i) 0)(hd:eO 4294967296 os)(hc:c≤1)
 (hs:(s:Int)=((xs[i]:Nat)-(c:Nat)-(ys[i]?.getD 0:Nat):Int)%18446744073709551616) (hx:xs[i]<4294967296) (hy:ys[i]?.getD 0<4294967296) :
 val 4294967296 (os.set i (s%4294967296))+val 4294967296 (ys.take (i+1))=val 4294967296 (xs.take (i+1))+4294967296^(i+1)*(s / 9223372036854775808)∧(os.set i (s%4294967296)).drop (i+1)=cu (xs.length-(i+1)) 0∧eO 4294967296 (os.set i (s%4294967296))∧s / 9223372036854775808≤1:=by
 obtain⟨z1,z2⟩:=nX hz (by omega);have key:xs[i]+4294967296*(s / 9223372036854775808)=s%4294967296+c+ys[i]?.getD 0:=by omega
 refine⟨?_,?_,hd.set (jr _ (by omega)),by omega⟩
 · have h1:=vG (B:=4294967296) (d:=s%4294967296) (show i<os.length by omega)
   rw[z1] at h1;have h2:=congrArg (4294967296^i * ·) key;simp only[om] at h2;rw[eD hi,iw];have h3:val 4294967296 (ys.take (i+1))=val 4294967296 (ys.take i)+4294967296^i*ys[i]?.getD 0:=by
    by_cases hy':i<ys.length
    · rw[eD hy',am hy'];rfl
    · rw[bz (by omega),oU (xs:=ys) (i:=i+1) (by omega),oU (xs:=ys) (i:=i) (by omega)];rfl
   rw[h3]
   grind
 · rw[rI,z2]
   congr 1
theorem akT{os xs ys:List Nat}{c:Nat}(hle:ys.length≤xs.length)(hlo:os.length=xs.length)(hd:eO 4294967296 os)(hv:val 4294967296 os+val 4294967296 (ys.take xs.length)=val 4294967296 (xs.take xs.length)+4294967296^xs.length*c)(hge:val 4294967296 ys≤val 4294967296 xs) :
 val 4294967296 os=val 4294967296 xs-val 4294967296 ys:=by
 rw[fi,oU hle] at hv;have h:=Fk hd;rw[hlo] at h;have hc:c=0:=by
  rcases iu c with h0 | h0
  · exact h0
  · have:=ka (4294967296^xs.length) h0
    omega
 subst hc;omega
theorem ae2{os xs ys:List Nat}{i k c s:Nat}(hi:i<xs.length)(hk:k<ys.length)(hlo:os.length=xs.length+ys.length)(hv:val 4294967296 os+4294967296^(i+k)*c=val 4294967296 (xs.take i)*val 4294967296 ys+4294967296^i*(xs[i]*val 4294967296 (ys.take k)))
 (hs:s=os[i+k]+xs[i]*ys[k]+c):val 4294967296 (os.set (i+k) (s%4294967296))+4294967296^(i+(k+1))*(s / 4294967296)=val 4294967296 (xs.take i)*val 4294967296 ys+4294967296^i*(xs[i]*val 4294967296 (ys.take (k+1))):=by
 refine aam (s:=xs[i]*ys[k]) (i:=i+k) (by omega) (by omega) hv ?_;rw[eD hk,og]
 grind
theorem Mb{j:Nat}(h:i<j):(os.set i d).drop j=os.drop j:=by
 apply fw;intro m;simp only[di];rw[me (by omega)]
theorem akU{os xs ys:List Nat}{i c:Nat}(hi:i<xs.length)(hlo:os.length=xs.length+ys.length)(hv:val 4294967296 os+4294967296^(i+ys.length)*c=val 4294967296 (xs.take i)*val 4294967296 ys+4294967296^i*(xs[i]*val 4294967296 (ys.take ys.length)))(hz:os.drop (i+ys.length)=cu (xs.length-i) 0) :
 val 4294967296 (os.set (i+ys.length) c)=val 4294967296 (xs.take (i+1))*val 4294967296 ys∧(os.set (i+ys.length) c).drop (i+1+ys.length)=cu (xs.length-(i+1)) 0:=by
 obtain⟨z1,z2⟩:=nX hz (by omega);have h:=vG (B:=4294967296) (d:=c) (show i+ys.length<os.length by omega);rw[z1] at h;rw[fi] at hv;refine⟨?_,?_⟩
 · rw[eD hi]
   grind
 · rw[show i+1+ys.length=i+ys.length+1 by omega,rI,z2]
   congr 1
theorem anO{y:Nat}(hx:x<4294967296)(hy:y<4294967296):x*y≤18446744065119617025:=by
 have:=Nat.mul_le_mul (mf hx) (mf hy);omega
theorem akV{y:Nat}(hx:x<4294967296)(hy:y<4294967296):(0:Int)≤(x:Int)*(y:Int)∧(x:Int)*(y:Int)≤18446744065119617025:=by
 have h:=anO hx hy;have e:((x*y:Nat):Int)=(x:Int)*(y:Int):=lw x y;rw[←e];omega
/-! ### Shifts,divisions by a word -/
theorem akW{m:Nat}(hn:n<64)(h:m*2^n<18446744073709551616):IntKind.u64.wrap ((m:Int)*2^(min (n:Int).toNat IntKind.u64.bits))=((m*2^n:Nat):Int):=by
 have e:min (n:Int).toNat IntKind.u64.bits=n:=by
  show min (n:Int).toNat 64=n
  rw[ah];omega
 rw[e];have e2:((m:Int)*2^n)=((m*2^n:Nat):Int):=by simp
 rw[e2];exact wO (by omega) (by omega)
theorem anP{b s:Nat}(ha:a<2^s)(hb:b=2^s*c)(h:a+b<18446744073709551616):IntKind.u64.wrap ((d_ IntKind.u64.bits (a:Int) ||| d_ IntKind.u64.bits (b:Int)).toNat:Int)=((a+b:Nat):Int):=by
 have e:(d_ 64 (a:Int) ||| d_ 64 (b:Int)).toNat=a+b:=by
  rw[BitVec.toNat_or];have e1:(d_ 64 (a:Int)).toNat=a:=by simp[ox];omega
  have e2:(d_ 64 (b:Int)).toNat=b:=by simp[ox];omega
  rw[e1,e2,Nat.or_comm,hb,←Nat.two_pow_add_eq_or_of_lt ha];omega
 show IntKind.u64.wrap ((d_ 64 (a:Int) ||| d_ 64 (b:Int)).toNat:Int)=_
 rw[e];exact wO (by omega) (by omega)
theorem akX{b s:Nat}(ha:a<2^s)(hb:b=2^s*c)(h:a+b<18446744073709551616):IntKind.u64.wrap ((d_ IntKind.u64.bits (b:Int) ||| d_ IntKind.u64.bits (a:Int)).toNat:Int)=((a+b:Nat):Int):=by
 have:=anP ha hb h;rwa [BitVec.or_comm] at this
theorem adQ{s:Nat}(h:s<18446744073709551616):IntKind.u64.wrap ((d_ IntKind.u64.bits (s:Int) &&& d_ IntKind.u64.bits 4294967295).toNat:Int)=((s%4294967296:Nat):Int):=by
 rw[rR (by omega) (by omega)];omega
theorem adR{m:Nat}(h:m<18446744073709551616):IntKind.u64.wrap ((m:Int).tdiv (n:Int))=((m / n:Nat):Int):=by
 rw[←Int.ofNat_tdiv];have:m / n≤m:=pj m n;generalize m / n=q at *
 exact wO (by omega) (by omega)
theorem pR{m:Nat}:(m:Int).tmod (n:Int)=((m%n:Nat):Int):=(Int.ofNat_tmod m n).symm
theorem Tf(hk:0<k)(h:k-1<xs.length):val B (xs.drop (k-1))=xs[k-1]+B*val B (xs.drop k):=by
 rw[eu h,show k-1+1=k by omega];rfl
end Go.Lith
namespace Go.Lith
open Go.RowKit
section
variable {P:bp} {ds:List dx} {l:List ai} {x y z0:bx} {T T' ty:az}
theorem aao{A:Option Addr}{n c:Nat}{E:az}(hu:P.underlying T=some (.slice E))(hx:ev l x=.slice A n c)(hy:ev l y=.slice none 0 0):iR P l (.binOp .eql T x y T') ty (.bool A.isNone):=fun w o ho _=>by
 obtain⟨D,hD⟩:∃D,Op.maxDepth=D+1:=⟨9999,rfl⟩
 cases A <;> simp[de,ho,cK,hx,hy,eqGuard,binOp,Op.equal,hD,Op.equalIn,cd hu]
variable {ops:Array Oper} {Q:Exit→Act→aj→Prop} {rest:List Oper} {d:Nat} {pos:String} {after:Array Edge} {w:aj}
theorem Xg:qg (fun (_:Nat)=>(default:ai)) (oz 0) = #[]:=Array.eq_empty_of_size_eq_zero (by simp)
theorem Xh(z v:ai):(qg (fun x=>[z][x%1]?.getD default) (oz 1)).setIfInBounds 0 v = #[v]:=by
 apply qh (by simp);intro i h1 h2;obtain rfl:i=0:=by simpa using h2
 simp
theorem Hf(z v v2:ai):((qg (fun x=>[z][x%1]?.getD default) (oz 2)).setIfInBounds 0 v).setIfInBounds 1 v2 = #[v,v2]:=by
 apply qh (by simp);intro i h1 h2;have h3:i<2:=by simpa using h2
 rcases dq i 1 with h | h
 · obtain rfl:i=0:=by omega
   simp
 · obtain rfl:i=1:=by omega
   simp
theorem aap{E:az}{c:Nat}(hu:P.underlying T=some (.slice E))(hi:(P.info? E).map (fun i=>i.size)=some c)
 (h:∀w' g,fQ w w'→w.heap.size≤g→fR w' g [] E→ar P ops Q rest (Fr (l.set d (.slice (some ⟨g,0,none⟩) 0 0)) ds) w') :
 ar P ops Q (bm (some d) (.buildSlice T 0 #[]) ty pos after none::rest) (Fr l ds) w:=by
 cases hq:P.info? E with
 | none=>rw[hq] at hi;cases hi
 | some i =>
  exact mJ (w':=w.alloc (.cells #[] E)) (v:=.slice (some ⟨w.heap.size,0,none⟩) 0 0) (fun o ho _=>by simp[de,ho,Instr.buildSlice,cd hu,sizeOf,typeInfo,hq,Instr.fill,newRow,newObj,Sem.run,Xg]) (h _ _ ((fQ.refl w).alloc _) (av _) (jQ w [] E))
theorem gA{E:az}{z:ai}(hu:P.underlying T=some (.slice E))(hi:(P.info? E).map (fun i=>(i.size,i.zero))=some (1,some z))(hz:z.cells = #[z]){v:ai}(hx:ev l x=v)(hv:v.cells = #[v])
 (h:∀w' g,fQ w w'→w.heap.size≤g→fR w' g [v] E→ar P ops Q rest (Fr (l.set d (.slice (some ⟨g,0,none⟩) 1 1)) ds) w') :
 ar P ops Q (bm (some d) (.buildSlice T 1 #[(0,x)]) ty pos after none::rest) (Fr l ds) w:=by
 cases hq:P.info? E with
 | none=>rw[hq] at hi;cases hi
 | some i =>
  rw[hq] at hi;simp only[fl,gn,gh] at hi;obtain⟨e1,e2⟩:=hi;exact mJ (w':=w.alloc (.cells #[v] E)) (v:=.slice (some ⟨w.heap.size,0,none⟩) 1 1) (fun o ho _=>by simp[de,ho,Instr.buildSlice,cd hu,sizeOf,typeInfo,zeroValue,hq,e1,e2,hz,cK,hx,hv,Instr.fill,newRow,newObj,Sem.run,Xh]) (h _ _ ((fQ.refl w).alloc _) (av _) (jQ w [v] E))
theorem aaq{E:az}{z:ai}(hu:P.underlying T=some (.slice E))(hi:(P.info? E).map (fun i=>(i.size,i.zero))=some (1,some z))(hz:z.cells = #[z]){v v2:ai}(hx:ev l x=v)(hv:v.cells = #[v])(hy:ev l y=v2)(hv2:v2.cells = #[v2])
 (h:∀w' g,fQ w w'→w.heap.size≤g→fR w' g [v,v2] E→ar P ops Q rest (Fr (l.set d (.slice (some ⟨g,0,none⟩) 2 2)) ds) w') :
 ar P ops Q (bm (some d) (.buildSlice T 2 #[(0,x),(1,y)]) ty pos after none::rest) (Fr l ds) w:=by
 cases hq:P.info? E with
 | none=>rw[hq] at hi;cases hi
 | some i =>
  rw[hq] at hi;simp only[fl,gn,gh] at hi;obtain⟨e1,e2⟩:=hi;exact mJ (w':=w.alloc (.cells #[v,v2] E)) (v:=.slice (some ⟨w.heap.size,0,none⟩) 2 2) (fun o ho _=>by simp[de,ho,Instr.buildSlice,cd hu,sizeOf,typeInfo,zeroValue,hq,e1,e2,hz,cK,hx,hv,hy,hv2,Instr.fill,newRow,newObj,Sem.run,Hf]) (h _ _ ((fQ.refl w).alloc _) (av _) (jQ w [v,v2] E))
end
end Go.Lith
namespace Go.Lith
theorem ab3{m:Nat}:(m:Int).fdiv (2^(min (32:Int).toNat IntKind.u64.bits))=((m / 4294967296:Nat):Int):=by
 rw[Uj (by omega)];omega
/-! ### Slices of words -/
end Go.Lith
namespace Go.Lith
open Go.RowKit
theorem aqd{P:bp}{l:List ai}{w:aj}{fn:Func}{R:Ending→aj→Prop}(hr:fn.results = #[])(hR:R (.returned (.tuple #[])) w):bodyPost P fn R .ret (Fr l) w:=by
 refine⟨O,_,?_,hR⟩;unfold results;rw[hr];simp
theorem Ep{P:bp}{l:List ai}{w:aj}{fn:Func}{R:Ending→aj→Prop}(hr:fn.results = #[])(hR:R (.returned (.tuple #[])) w):bodyPost P fn R .normal (Fr l) w:=aqd hr hR
section
variable {P:bp} {ds:List dx} {l:List ai} {x y:bx} {ty:az} {w:aj}
variable {ops:Array Oper} {Q:Exit→Act→aj→Prop} {rest:List Oper} {d:Nat} {pos:String} {after:Array Edge}
end
end Go.Lith
namespace Go.Lith
theorem anQ{a b:Nat}:decide (ord a b<0)=decide (a<b):=by
 unfold ord;split
 · simp[*]
 · split <;> simp[*]
theorem iX(n:Nat):val 4294967296 (digs 4294967296 n)=n:=rQ (by omega) n
theorem Ba(n:Nat):iS (digs 4294967296 n):=pO (by omega) n
theorem aar(n:Nat):eO 4294967296 (digs 4294967296 n):=tS (by omega) n
theorem uB(xs:List Nat):(trim xs).length≤xs.length:=by rw[kY];simp;omega
theorem Ou{a b:Nat}:ord a b<0↔a<b:=by
 have:=@anQ a b;simpa using this
theorem aas{xs:List Nat}(t:iS xs)(h:0<xs.length):0<xs[xs.length-1]:=by
 rcases iu (xs[xs.length-1]) with h0 | h0
 · exfalso
   have e:=Jz (xs:=xs) (k:=xs.length) h (by omega);rw[fi,h0] at e;have t2:trim xs=trim (xs.take (xs.length-1)):=by conv=>lhs;rw[e,pQ]
   have t3:(trim xs).length=xs.length:=by rw[t]
   have t4:=uB (xs.take (xs.length-1));rw[←t2,t3] at t4;simp at t4;omega
 · exact h0
theorem Xi{r:Nat}(h:r≤4):(4294967296:Nat)=256^r*256^(4-r):=by rw[←og,show r+(4-r)=4 by omega]
theorem Ov(r:Nat):(256:Nat)^r=2^(8*r):=by rw[show 256=2^8 from rfl,←oh]
theorem agW{x b r:Nat}(hr:r<4)(hx:x<4294967296)(hd:256^(r+1)∣x)(hb:b<256):x+b*256^r<4294967296:=by
 obtain⟨c,rfl⟩:=hd;have e:=Xi (r:=r+1) (by omega);rw[e] at hx ⊢;have h1:=Nat.lt_of_mul_lt_mul_left hx;have h2:256^(r+1)*(c+1)≤256^(r+1)*256^(4-(r+1)):=ka _ h1;rw[om,ll] at h2;have h3:(b+1)*256^r≤256*256^r:=mg _ hb;have h4:(256:Nat)^(r+1)=256*256^r:=Nat.pow_succ';have h5:0<(256:Nat)^r:=Nat.pow_pos (by omega);rw[jw,Nat.one_mul] at h3;generalize 256^(r+1)*256^(4-(r+1))=Z at *
 generalize 256^(r+1)*c=Y at *
 omega
theorem ae3{os bs:List Nat}{p j r:Nat}(hp:p<bs.length)(hpj:p=4*j+r)(hr:r<4)(hj:j<os.length)(hd:eO 4294967296 os)(hb:eO 256 bs)(hdv:∀(i:Nat) (h:i<os.length),256^(p+1-4*i)∣os[i])(hv:val 4294967296 os=256^(p+1)*val 256 (bs.drop (p+1))) :
 os[j]+bs[p]*256^r<4294967296∧256^(r+1)∣os[j]∧(∀(i:Nat) (h:i<(os.set j (os[j]+bs[p]*256^r)).length),256^(p-4*i)∣(os.set j (os[j]+bs[p]*256^r))[i])∧val 4294967296 (os.set j (os[j]+bs[p]*256^r))=256^p*val 256 (bs.drop p):=by
 have h1:=hdv j hj;rw[show p+1-4*j=r+1 by omega] at h1;have hx:=hd _ (fq hj);have hby:=hb _ (fq hp);refine⟨agW hr hx h1 hby,h1,?_,?_⟩
 · intro i h
   by_cases e:i=j
   · subst e
     rw[List.getElem_set_self,show p-4*i=r by omega];exact Nat.dvd_add (Nat.dvd_trans (Nat.pow_dvd_pow 256 (by omega)) h1) (Nat.dvd_mul_left _ _)
   · rw[List.getElem_set_ne (by omega)]
     exact Nat.dvd_trans (Nat.pow_dvd_pow 256 (by omega)) (hdv i (by simpa using h))
 · have e1:=vG (B:=4294967296) (os:=os) (j:=j) (d:=os[j]+bs[p]*256^r) hj
   have e2:=Tf (B:=256) (xs:=bs) (k:=p+1) (by omega) (by simpa using hp);simp only[gr] at e2;have e3:(4294967296:Nat)^j*256^r=256^p:=by
    rw[show (4294967296:Nat)=256^4 from rfl,←oh,←og,hpj]
   rw[e2,←e3];rw[iw,←e3] at hv;generalize (4294967296:Nat)^j=Q at *
   generalize (256:Nat)^r=R at *
   generalize val 256 (bs.drop (p+1))=D at *
   generalize val 4294967296 (os.set j (os[j]+bs[p]*R))=L at *
   generalize val 4294967296 os=M at *
   subst hv
   grind
end Go.Lith
namespace Go.Lith
open Go.RowKit
variable{a:ByteArray}{xs ys:Array ai}
def aqe(w:aj)(S:aj→Prop):Prop:=S w
section
variable {P:bp} {ops:Array Oper} {md:Region.Mode} {S:aj→Prop}
def bS(P:bp)(ops:Array Oper)(S:aj→Prop)(Q:Exit→Act→aj→Prop):List (Oper × Bool)→Act→aj→Prop
 | [],a,w=>Q .normal a w
 | (o,true)::r,a,w=>∃v,YieldsIf P ops S o v a∧bS P ops S Q r (a.put o.dst v) w
 | (o,false)::r,a,w=>ar P ops (Exit.then (fun a w=>S w∧bS P ops S Q r a w) Q) [o] a w
theorem vZ{Q:Exit→Act→aj→Prop}(hs:Region.noSelect ops=true)(hQ:∀c d v a w,Q (.panic c) (Act.put a d v) w→Q (.panic c) a w):∀(l:List (Nat × Bool)) (listed:Array Bool) (a:Act) (w:aj),
 Xa md ops l listed=true→S w→bS P ops S Q (l.map fun x=>((ops[x.1]?).getD default,x.2)) a w→wpAnyH P md ops Q S l.length listed a w
 | [],listed,a,w,hB,_,h=>⟨by simpa[Xa] using hB,h⟩
 | (i,true)::r,listed,a,w,hB,hS,h=>by
  simp only[Xa,bg] at hB;obtain⟨⟨⟨h1,h2⟩,h3⟩,h4⟩:=hB;obtain⟨o,ho⟩:=ee.1 h1;simp only[bh,bS,ho,df] at h;obtain⟨v,hy,hr⟩:=h;exact wpAnyH_take ho hs h2 h3 (fun c a w=>hQ c _ v a w) hy hS (vZ hs hQ r _ _ _ h4 hS hr)
 | (i,false)::r,listed,a,w,hB,hS,h=>by
  simp only[Xa,bg,decide_eq_true_eq] at hB;obtain⟨⟨h1,h2⟩,h4⟩:=hB;obtain⟨o,ho⟩:=ee.1 h1;refine wpAnyH_all h2 (by simp) fun j hj=>?_;obtain rfl:j=i:=by simpa using hj
  simp only[bh,bS,ho,df] at h;have key:∀a' w',Exit.then (fun a w=>S w∧bS P ops S Q (r.map fun x=>((ops[x.1]?).getD default,x.2)) a w) Q .normal a' w'→S w'∧wpAnyH P md ops Q S r.length (listed.setIfInBounds j true) a' w':=fun a' w' hh=>⟨hh.1,vZ hs hQ r _ a' w' h4 hh.1 hh.2⟩
  unfold wpOp;simp only[ho];simp only[ar] at h;split
  · rename_i hw
    rw[if_pos hw] at h;rcases h with h | ⟨ha,x,y,hl⟩
    · refine .inl ?_
      unfold ma at h ⊢;generalize (de a.eval o).run P w=res at *
      cases res with
      | ok n w' =>
       cases n <;> simp only[nh] at h ⊢ <;>
        first
         | exact key _ _ h
         | exact Calls.mono h (fun e w'' he=>by cases e <;> first | exact key _ _ he | exact he)
         | exact Rows.mono h (fun _ _ he=>key _ _ he)
      | halt x w'=>cases x <;> simp only[nh] at h ⊢ <;> exact h
    · exact .inr ⟨ha,x,y,hl⟩
  · rename_i hw
    rw[if_neg hw] at h;exact key _ _ h
theorem Ad{id:Nat}{Q:Exit→Act→aj→Prop}{a:Act}{w:aj}{l:List Oper}(o:List (Nat × Bool))(hm:P.follows .mixedOrders=true)(hB:(Region.noSelect l.toArray&&decide (o.length=l.length)&&Xa .any l.toArray o (gd l.toArray.size false))=true)
 (hQ:∀c d v a w,Q (.panic c) (Act.put a d v) w→Q (.panic c) a w) {ol:List (Oper × Bool)} (hol:(o.map fun x=>((l.toArray[x.1]?).getD default,x.2))=ol)
 (h:∀w',fQ w w'→∃S,aqe w' S∧bS P l.toArray S Q ol a w'):(Code.region id l.toArray true).wp P Q a w:=by
 simp only[bg,decide_eq_true_eq] at hB;subst hol;obtain⟨S,hS,h⟩:=h _ (fQ.refl w).drawn;refine wp_region_held (S:=S) hm ?_;have:=vZ (md:=.any) hB.1.1 hQ o _ a { w with drawn:=w.drawn+1 } hB.2 hS h;rwa [hB.1.2] at this
variable {ds:List dx} {l:List ai} {Q:Exit→Act→aj→Prop} {w:aj} {rest:List (Oper × Bool)} {d:Nat} {op:Op} {ty:az} {pos:String} {after:Array Edge} {v:ai}
theorem Xj(hr:∀w,S w→Ak P l op ty v w)(h:bS P ops S Q rest (Fr (l.set d v) ds) w):bS P ops S Q ((bm (some d) op ty pos after none,true)::rest) (Fr l ds) w:=by
 refine⟨v,.inl ⟨by simp[Region.wanted],fun w hw=>hr w hw _ O O⟩,?_⟩;show bS P ops S Q rest ((Fr l ds).put (some d) v) w
 rw[iN];exact h
theorem aZ(hr:iR P l op ty v)(h:bS P ops S Q rest (Fr (l.set d v) ds) w):bS P ops S Q ((bm (some d) op ty pos after none,true)::rest) (Fr l ds) w:=Xj (fun w _=>hr w) h
theorem eE{T:az}{x:bx}{a:Addr}(hx:ev l x=.pointer (some a))(hv:∀w',S w'→eR P w' T a v)(h:bS P ops S Q rest (Fr (l.set d v) ds) w):bS P ops S Q ((bm (some d) (.load T x) ty pos after none,true)::rest) (Fr l ds) w :=
 Xj (fun _ hS=>aY hx (hv _ hS)) h
theorem wA{j:Nat}{b:Bool}(hw:yielded ops l.toArray j=some b)(h:bS P ops S Q ((bm (some d) op ty pos after none,true)::rest) (Fr l ds) w):bS P ops S Q ((bm (some d) op ty pos after (some (j,b)),true)::rest) (Fr l ds) w:=by
 obtain⟨v,hy,h⟩:=h;refine⟨v,?_,h⟩;rcases hy with ⟨_,hy⟩ | ⟨hn,_⟩
 · exact .inl ⟨by simp[Region.wanted,hw],hy⟩
 · simp[Region.wanted] at hn
theorem agX{j:Nat}{b c:Bool}(hw:yielded ops l.toArray j=some c)(hbc:(c == b)=false)(h:bS P ops S Q rest (Fr (l.set d undef) ds) w):bS P ops S Q ((bm (some d) op ty pos after (some (j,b)),true)::rest) (Fr l ds) w:=by
 refine⟨undef,.inr ⟨by simp[Region.wanted,hw];simpa using hbc,rfl⟩,?_⟩;show bS P ops S Q rest ((Fr l ds).put (some d) undef) w
 rw[iN];exact h
theorem tF{j:Nat}(hw:yielded ops l.toArray j=some false)(h:bS P ops S Q rest (Fr (l.set d undef) ds) w):bS P ops S Q ((bm (some d) op ty pos after (some (j,true)),true)::rest) (Fr l ds) w:=agX hw rfl h
theorem adS{j:Nat}(hw:yielded ops l.toArray j=some true)(h:bS P ops S Q rest (Fr (l.set d undef) ds) w):bS P ops S Q ((bm (some d) op ty pos after (some (j,false)),true)::rest) (Fr l ds) w:=agX hw rfl h
theorem bY(h:Q .normal (Fr l ds) w):bS P ops S Q [] (Fr l ds) w:=h
theorem bL{o:Oper}(h:ar P ops (Exit.then (fun a w=>S w∧bS P ops S Q rest a w) Q) [o] (Fr l ds) w):bS P ops S Q ((o,false)::rest) (Fr l ds) w:=h
end
def tG(P:bp)(d:Nat)(T:az)(x y:ai)(p:Prop):Prop:=∀w,∃b:Bool,(Op.equalIn d T x y).run P w=.ok b w∧(b=true↔p)
section
variable {P:bp} {d:Nat} {T:az}
theorem tG.int{k k':IntKind}{m n:Int}(hu:P.underlying T=some (.int k')):tG P (d+1) T (.int k m) (.int k n) (m=n):=fun w=>⟨m == n,by unfold Op.equalIn;simp[cd hu],by simp⟩
theorem tG.bool{a b:Bool}(hu:P.underlying T=some .bool):tG P (d+1) T (.bool a) (.bool b) (a=b):=fun w=>⟨a == b,by unfold Op.equalIn;simp[cd hu],by simp⟩
theorem Ox{b:ByteArray}(h:a.toList=b.toList):a=b:=by
 rw[ByteArray.toList_eq,ByteArray.toList_eq] at h;cases a;cases b;simp at h;rw[h]
theorem Xk(a b:ByteArray):(a.toList == b.toList)=decide (a=b):=by
 by_cases h:a=b
 · subst h;simp
 · rw[decide_eq_false h];exact beq_eq_false_iff_ne.2 fun e=>h (Ox e)
theorem tG.str{b:ByteArray}(hu:P.underlying T=some .string):tG P (d+1) T (.string a) (.string b) (a=b):=fun w=>⟨a == b,by unfold Op.equalIn;simp[cd hu],by rw[beq_toListBytes,Xk];simp⟩
def xV(P:bp)(d:Nat)(xs ys:Array ai)(fs:List Field)(p:Prop):Prop:=∀w,∃b:Bool,(Op.eqFields d xs ys fs).run P w=.ok b w∧(b=true↔p)
theorem xV.nil  : xV P d xs ys [] True:=fun w=>⟨true,by simp[Op.eqFields],by simp⟩
theorem xV.cons{xs ys:Array ai}{f:Field}{fs:List Field}{x y:ai}{p q:Prop} (hn:f.name ≠ "_") (hx:∀w,(part f.type xs f.offset).run P w=.ok x w) (hy:∀w,(part f.type ys f.offset).run P w=.ok y w)
 (h:tG P d f.type x y p) (k:xV P d xs ys fs q):xV P d xs ys (f::fs) (p∧q):=fun w=>by
 obtain⟨b,hb,hp⟩:=h w;obtain⟨c,hc,hq⟩:=k w;cases b
 · exact⟨false,by simp[Op.eqFields,hn,hx,hy,hb],by simp at hp ⊢;intro h;exact absurd h hp⟩
 · exact⟨c,by simp[Op.eqFields,hn,hx,hy,hb,hc],by simp at hp;simp[hp,hq]⟩
def rS(P:bp)(d:Nat)(E:az)(n:Nat)(xs ys:Array ai)(is:List Nat)(p:Prop):Prop:=∀w,∃b:Bool,(Op.eqItems d E n xs ys is).run P w=.ok b w∧(b=true↔p)
theorem rS.nil{E:az}{n:Nat}  : rS P d E n xs ys [] True:=fun w=>⟨true,by simp[Op.eqItems],by simp⟩
theorem rS.cons{E:az}{n i:Nat}{is:List Nat}{xs ys:Array ai}{x y:ai}{p q:Prop}(hx:∀w,(part E xs (i*n)).run P w=.ok x w)(hy:∀w,(part E ys (i*n)).run P w=.ok y w)
 (h:tG P d E x y p) (k:rS P d E n xs ys is q):rS P d E n xs ys (i::is) (p∧q):=fun w=>by
 obtain⟨b,hb,hp⟩:=h w;obtain⟨c,hc,hq⟩:=k w;cases b
 · exact⟨false,by simp[Op.eqItems,hx,hy,hb],by simp at hp ⊢;intro h;exact absurd h hp⟩
 · exact⟨c,by simp[Op.eqItems,hx,hy,hb,hc],by simp at hp;simp[hp,hq]⟩
theorem tG.struct{fs:Array Field}{p:Prop}(hu:P.underlying T=some (.struct fs))(hs:P.stoodInHeld T=false)(h:xV P d xs ys fs.toList p):tG P (d+1) T (.agg xs) (.agg ys) p:=fun w=>by
 have hf:P.fieldsOf T=fs:=by simp[Program.fieldsOf,hu]
 rw[run_equalIn_struct w d T xs ys (by rw[hf];exact hu) hs,hf];exact h w
theorem tG.array{n c:Nat}{E:az}{p:Prop}(hu:P.underlying T=some (.array n E))(hc:dQ P E c)(h:rS P d E c xs ys (ji n) p):tG P (d+1) T (.agg xs) (.agg ys) p:=fun w=>by
 obtain⟨i,hi,rfl⟩:=hc;have hE:P.cellsOf E=i.size:=by simp[Program.cellsOf,hi]
 rw[run_equalIn_array w d xs ys hu hi,hE];exact h w
theorem tG.iff{x y:ai}{p q:Prop}(h:tG P d T x y p)(hpq:p↔q):tG P d T x y q:=fun w=>let ⟨b,hb,hp⟩:=h w;⟨b,hb,hp.trans hpq⟩
theorem cZ{off:Nat}{v:ai}(hA:fA P T false)(hv:xs[off]? = some v)(w:aj):(part T xs off).run P w=.ok v w:=by simp[part,pK hA,hv]
theorem cX{us:Array ai}{off c:Nat}(hA:fA P T true)(hc:dQ P T c)(hv:xs.extract off (off+c)=us)(w:aj):(part T xs off).run P w=.ok (.agg us) w:=by
 subst hv;simp[part,pK hA,eG hc]
variable {l:List ai} {x y:bx} {T' ty:az}
theorem xW{u v:ai}{p:Prop}[Decidable p](h:tG P 10000 T u v p)(w:aj):(Op.equal T u v).run P w=.ok (decide p) w:=by
 obtain⟨b,hb,hp⟩:=h w;rw[Op.equal,show Op.maxDepth=10000 from rfl,hb]
 congr 1
 cases b
 · exact (decide_eq_false (by simpa using hp)).symm
 · exact (decide_eq_true (by simpa using hp)).symm
theorem Oy{xs ys:Array ai}{p:Prop}[Decidable p](hg:P.eqGuardType P.depth T=false)(hx:ev l x=.agg xs)(hy:ev l y=.agg ys)(h:tG P 10000 T (.agg xs) (.agg ys) p):iR P l (.binOp .eql T x y T') ty (.bool (decide p)):=fun w o ho _=>by
 simp[de,ho,cK,hx,hy,eqGuard,binOp,hg,xW h]
theorem agY{xs ys:Array ai}{p:Prop}[Decidable p](hg:P.eqGuardType P.depth T=false)(hx:ev l x=.agg xs)(hy:ev l y=.agg ys)(h:tG P 10000 T (.agg xs) (.agg ys) p):iR P l (.binOp .neq T x y T') ty (.bool (decide (¬p))):=fun w o ho _=>by
 simp[de,ho,cK,hx,hy,eqGuard,binOp,hg,xW h]
theorem agZ{a b:Bool}(hu:P.underlying T=some .bool)(hx:ev l x=.bool a)(hy:ev l y=.bool b):iR P l (.binOp .eql T x y T') ty (.bool (decide (a=b))):=fun w o ho _=>by
 have h:=xW (tG.bool (d:=9999) (a:=a) (b:=b) hu) w;simp[de,ho,cK,hx,hy,eqGuard,binOp,h]
theorem Kb{a b:Bool}(hu:P.underlying T=some .bool)(hx:ev l x=.bool a)(hy:ev l y=.bool b):iR P l (.binOp .neq T x y T') ty (.bool (decide (¬a=b))):=fun w o ho _=>by
 have h:=xW (tG.bool (d:=9999) (a:=a) (b:=b) hu) w;simp[de,ho,cK,hx,hy,eqGuard,binOp,h]
theorem ab4{b:ByteArray}(hu:P.underlying T=some .string)(hx:ev l x=.string a)(hy:ev l y=.string b):iR P l (.binOp .eql T x y T') ty (.bool (decide (a=b))):=fun w o ho _=>by
 have h:=xW (tG.str (d:=9999) (a:=a) (b:=b) hu) w;simp[de,ho,cK,hx,hy,eqGuard,binOp,h,Op.stringOp,Xk]
theorem anR{b:ByteArray}(hu:P.underlying T=some .string)(hx:ev l x=.string a)(hy:ev l y=.string b):iR P l (.binOp .neq T x y T') ty (.bool (decide (¬a=b))):=fun w o ho _=>by
 have h:=xW (tG.str (d:=9999) (a:=a) (b:=b) hu) w;simp[de,ho,cK,hx,hy,eqGuard,binOp,h,Op.stringOp,Xk]
end
end Go.Lith
namespace Go.Lith
def oK(s:ByteArray):List Nat:=s.data.toList.reverse.map iz
def akY(s:ByteArray):Nat:=val 256 (oK s)
theorem Bb(s:ByteArray):s.data.toList.length=s.size:=Array.length_toList
theorem wB(s:ByteArray):(oK s).length=s.size:=by simp only[oK,List.length_map,List.length_reverse,Bb]
theorem Mc(s:ByteArray):eO 256 (oK s):=fun x hx=>by
 obtain⟨b,_,rfl⟩:=List.mem_map.1 hx;exact b.toNat_lt
theorem Er(s:ByteArray)(i:Nat):s[i]? = s.data.toList[i]?:=by
 by_cases h:i<s.size
 · rw[getElem?_pos s i h,am (by rw[Bb];omega)]
   rfl
 · rw[getElem?_neg s i h,bz (by rw[Bb];omega)]
theorem Fl{s:ByteArray}{i p:Nat}(h:p+1+i=s.size):∃b,s[i]? = some b∧∃hp:p<(oK s).length,(oK s)[p]=b.toNat:=by
 have hs:=Bb s;have hi:i<s.data.toList.length:=by omega
 refine⟨s.data.toList[i],by rw[Er];exact am hi,by rw[wB];omega,?_⟩;simp only[oK,List.getElem_map,List.getElem_reverse]
 congr 2
 omega
theorem kS(n:Int):akY (kK n)=n.natAbs:=by
 have e:oK (kK n)=digs 256 n.natAbs:=by
  simp only[oK,kK,mN,List.reverse_reverse,←List.map_reverse,List.map_map];have hd:eO 256 (digs 256 n.natAbs):=tS (by omega) _;have:∀l:List Nat,eO 256 l→l.map (iz∘ei)=l:=by
   intro l hl;refine (iy fun x hx=>?_).trans (List.map_id l);simp only[Function.comp_apply,id_eq,jf];exact kg (hl x hx)
  exact this _ hd
 rw[akY,e,rQ (by omega)]
theorem tH{m n:Nat}(h:m<9223372036854775808):IntKind.i64.wrap ((m:Int).tdiv (n:Int))=((m / n:Nat):Int):=by
 rw[←Int.ofNat_tdiv];have:m / n≤m:=pj m n;exact bP (by have:=Int.natCast_nonneg (m / n);omega) (by omega)
theorem ag0{xs:List Nat}{n:Nat}(h:xs.length≤n):val 256 (xs.drop n)=0:=by rw[gp h];rfl
def nM(l:List UInt8):ByteArray:=⟨l.toArray⟩
theorem pS(l:List UInt8):(nM l).data.toList=l:=by simp[nM]
theorem ae4{l k:List UInt8}(h:nM l=nM k):l=k:=by rw[←pS l,h,pS]
theorem Fm(l:List UInt8):(nM l).size=l.length:=by rw[←Bb,pS]
theorem ae5(l:List UInt8)(i:Nat):(nM l)[i]? = l[i]?:=by rw[Er,pS]
theorem ab5(l:List UInt8)(n:Nat):(nM l).extract n (nM l).size=nM (l.drop n):=by
 apply ByteArray.ext;rw[ByteArray.data_extract];apply pd;rw[Array.toList_extract,pS,Fm];simp only[nM,List.extract_eq_take_drop,dj];exact ay (by simp)
theorem aat(l:List UInt8):(nM l=⟨#[]⟩)=(l=[]):=by
 apply propext;constructor
 · intro h
   exact ae4 (k:=[]) h
 · rintro rfl;rfl
def jR(l:List UInt8):List UInt8:=l.dropWhile (· == 0)
theorem ab6{l:List UInt8}{b:UInt8}(h:l[0]? = some b)(hb:b.toNat=0):jR (l.drop 1)=jR l:=by
 cases l with
 | nil=>cases h
 | cons c l =>
  simp at h;subst h;have:c=0:=my.1 hb;subst this;simp[jR]
theorem ab7{l:List UInt8}{b:UInt8}(h:l[0]? = some b)(hb:¬b.toNat=0):jR l=l:=by
 cases l with
 | nil=>rfl
 | cons c l =>
  simp at h;subst h;have:¬c=0:=fun e=>hb (by rw[e];rfl);simp[jR,this]
theorem ae6:jR []=[]:=rfl
end Go.Lith
namespace Go.Lith
open Go.RowKit
variable{w:aj}{D:Nat}
section
variable {P:bp} {ds:List dx} {l:List ai} {x y z0:bx} {T T' ty:az}
abbrev u8v(b:UInt8):ai:=.int .u8 (b.toNat:Int)
theorem Oz{w:aj}{base n:Nat}{E:az}{v:ai}{bs:List UInt8}(hs:P.underlying T=some (.slice E))(he:P.underlying E=some (.int .u8))(hd:P.underlying T'=some .string)(hx:ev l x=v)(hown:agU w base E 1 v n (bs.map u8v)) :
 Ak P l (.convert T T' x) ty (.string (nM bs)) w:=fun o ho _=>by
 have hn:bs.length=n:=by have:=hown.1;simpa using this
 rcases hown.row with ⟨rfl,rfl,h⟩ | ⟨g,cap,rfl,_,_,_,_,hr⟩
 · obtain rfl:bs=[]:=by simpa using h
   simp only[de,ho,cK,hx];rw[Sem.run_bind,run_convert_bytes_nil w T E hs he 0 0 T' hd];rfl
 · subst hn
   have:=run_convert_bytes_back (P:=P) w T T' E ⟨g,0,none⟩ cap bs hs he hd (fun j hj=>hr j _ (by simp[hj]));simp only[de,ho,cK,hx];rw[Sem.run_bind,this];rfl
end
structure Def(w:aj)(D:Nat):Prop where
 h:w.heap[D]? = some (.deferred (some []))
theorem Def.ext{w':aj}(h:Def w D)(hE:fQ w w'):Def w' D:=⟨hE.block h.h⟩
theorem Def.ne{g:Nat}{cs:List ai}{t:az}(h:Def w D)(hB:fR w g cs t):D≠g:=fun e=>by
 subst e;have:=h.h;rw[hB] at this;cases this
theorem Def.chg{w':aj}{g:Nat}(h:Def w D)(hC:Chg w w' g)(hne:D≠g):Def w' D:=⟨(hC.block D hne).trans h.h⟩
theorem fR.putD{g:Nat}{cs:List ai}{t:az}(hB:fR w g cs t)(h:Def w D){o:Obj}:fR (w.putObj D o) g cs t:=(World.putObj_heap_other (Ne.symm (h.ne hB))).trans hB
theorem fQ.putD{w0:aj}(hX:fQ w0 w)(hD:w0.heap.size≤D){o:Obj}:fQ w0 (w.putObj D o) :=
 ⟨hX.os,hX.tape,hX.output,by rw[World.putObj_size];exact hX.size,fun k hk=>(World.putObj_heap_other (by omega)).trans (Below.block hX k hk)⟩
theorem ab8{P:bp}{l:List ai}{n:Nat}{fn:Func}{R:Ending→aj→Prop}{D:Nat}{w:aj}(hK:Def w D)(h:bodyPost P fn R .ret (Fr l) (w.putObj D (.deferred none))) :
 bodyPostM Fence.wide n P fn R .ret (Fr l [{ target:=.collected D,args:=#[] }]) w:=by
 refine⟨by simp,.inl ⟨D,_,O,run_takeDeferred hK.h,?_⟩⟩;obtain⟨_,v,hv,hR⟩:=h;exact⟨v,hv,hR⟩
end Go.Lith
namespace Go.Lith
variable{n a:Int}{k m:Nat}
def wb(x:Nat):List UInt8:=[ei (x / 16777216),ei (x / 65536),ei (x / 256),ei x]
def wbs(l:List (Nat × Nat)):List UInt8:=l.flatMap fun x=>wb x.2
theorem ag1(l:List (Nat × Nat))(x:Nat × Nat):wbs (l++[x])=wbs l++wb x.2:=by simp[wbs]
theorem Pa(l:List (Nat × Nat)):(wbs l).length=4*l.length:=by
 induction l with
 | nil=>rfl
 | cons x l ih=>rw[wbs,dt,au];rw[wbs] at ih;rw[ih];simp[wb];omega
def Tg(neg:Bool)(n:Nat):Int:=if neg then -(n:Int) else n
theorem Fo(neg:Bool)(n:Nat):(Tg neg n).natAbs=n:=by cases neg <;> simp[Tg]
theorem Xl(neg:Bool)(n:Nat):fY (Tg neg n)=(neg&&decide (n≠0)):=by
 cases neg
 · simp[Tg,fY]
 · rcases iu n with h | h
   · subst h;rfl
   · have h2:n≠0:=by omega
     simp[Tg,fY,h,h2]
theorem Th(ys:List Nat)(h:eO 4294967296 ys):val 256 (((ys.reverse.flatMap wb).reverse).map iz)=val 4294967296 ys∧eO 256 (((ys.reverse.flatMap wb).reverse).map iz):=by
 induction ys with
 | nil=>exact⟨rfl,fun _ h=>by cases h⟩
 | cons y ys ih =>
  have hy:=h y (by simp);obtain⟨i1,i2⟩:=ih (fun x hx=>h x (by simp[hx]));have e:(((y::ys).reverse.flatMap wb).reverse).map iz=[y%256,y / 256%256,y / 65536%256,y / 16777216%256]++(((ys.reverse.flatMap wb).reverse).map iz):=by
   simp[List.flatMap_append,wb,jf]
  rw[e];refine⟨?_,?_⟩
  · rw[lC,i1]
    simp only[val,aw,List.length_nil];omega
  · refine eO.append ?_ i2
    intro x hx;simp at hx;omega
theorem Md{l:List UInt8}:jR l=((trim ((l.reverse).map iz)).reverse).map ei:=by
 induction l with
 | nil=>rfl
 | cons b l ih =>
  have hk:∀k:List Nat,∀x:Nat,trim (k++[x])=if x=0 then trim k else k++[x]:=fun k x=>by
   split
   · rename_i h;subst h;exact pQ k
   · rename_i h;exact vY h k
  rw[List.reverse_cons,List.map_append,bh,List.map_nil,hk];by_cases hb:b=0
  · subst hb
    rw[if_pos (show iz 0=0 from rfl),←ih];simp[jR]
  · have hb':¬b.toNat=0:=fun e=>hb (my.1 e)
    rw[if_neg hb'];simp[jR,hb,Function.comp_def]
theorem ab9{ys:List Nat}(h:eO 4294967296 ys)(neg:Bool):nM (jR (ys.reverse.flatMap wb))=kK (Tg neg (val 4294967296 ys)):=by
 obtain⟨h1,h2⟩:=Th ys h;rw[Md,pP (by omega) h2 h1,kK,Fo,mN];rfl
theorem Pb{neg:Bool}{n:Nat}:(kK (Tg neg n)=⟨#[]⟩)↔n=0:=by
 constructor
 · intro h
   have:=Uh (Tg neg n);rw[h,Fo] at this;have h0:digs 256 n=[]:=fa this.symm;exact (vF (by omega)).1 h0
 · rintro rfl
   cases neg <;> rfl
class Bw(k:outParam Nat)(n:Int):Prop where
 h:Bd k n
instance {a b:Nat}{m n:Int}[x:Bw a m][y:Bw b n]:Bw (max a b+1) (m+n):=⟨x.h.add y.h⟩
instance {a b:Nat}{m n:Int}[x:Bw a m][y:Bw b n]:Bw (max a b+1) (m-n):=⟨x.h.sub y.h⟩
instance {a b:Nat}{m n:Int}[x:Bw a m][y:Bw b n]:Bw (a+b) (m*n):=⟨x.h.mul y.h⟩
instance:Bw 1 0:=⟨No 1⟩
theorem Kc(h:fY n=true):n<0:=of_decide_eq_true h
theorem Fp(h:fY n=false):0≤n:=qj.1 (of_decide_eq_false h)
theorem natAbs_neg(h:fY n=true):(n.natAbs:Int) = -n:=by have:=Kc h;omega
theorem kU(h:fY n=false):(n.natAbs:Int)=n:=by have:=Fp h;omega
theorem Bc(n:Nat):Tg true n = -(n:Int):=rfl
theorem wR(n:Nat):Tg false n=(n:Int):=rfl
theorem Hg(a:Int):Tg (fY a) a.natAbs=a:=by
 cases h:fY a
 · rw[wR,kU h]
 · rw[Bc,natAbs_neg h];omega
theorem adT(a:Int):Tg (!fY a) a.natAbs = -a:=by
 cases h:fY a
 · rw[Bool.not_false,Bc,kU h]
 · rw[Bool.not_true,wR,natAbs_neg h]
theorem adU{b:Int}(h:fY a=fY b):Tg (fY a) (a.natAbs+b.natAbs)=a+b:=by
 cases ha:fY a <;> rw[ha] at h
 · have h1:=kU ha;have h2:=kU h.symm;rw[wR];omega
 · have h1:=natAbs_neg ha;have h2:=natAbs_neg h.symm;rw[Bc];omega
theorem ag2{b:Int}(h:¬fY a=fY b)(hl:a.natAbs<b.natAbs):Tg (fY b) (b.natAbs-a.natAbs)=a+b:=by
 cases ha:fY a <;> cases hb:fY b <;> rw[ha,hb] at h
 · exact absurd O h
 · have h1:=kU ha;have h2:=natAbs_neg hb;rw[Bc];omega
 · have h1:=natAbs_neg ha;have h2:=kU hb;rw[wR];omega
 · exact absurd O h
theorem ag3{b:Int}(h:¬fY a=fY b)(hl:b.natAbs≤a.natAbs):Tg (fY a) (a.natAbs-b.natAbs)=a+b:=by
 cases ha:fY a <;> cases hb:fY b <;> rw[ha,hb] at h
 · exact absurd O h
 · have h1:=kU ha;have h2:=natAbs_neg hb;rw[wR];omega
 · have h1:=natAbs_neg ha;have h2:=kU hb;rw[Bc];omega
 · exact absurd O h
theorem adV{b:Int}:Tg (decide (¬fY a=fY b)) (a.natAbs*b.natAbs)=a*b:=by
 cases ha:fY a <;> cases hb:fY b
 · have h1:=kU ha;have h2:=kU hb
   show ((a.natAbs*b.natAbs:Nat):Int)=_
   rw[lw,h1,h2]
 · have h1:=kU ha;have h2:=natAbs_neg hb
   show -((a.natAbs*b.natAbs:Nat):Int)=_
   rw[lw,h1,h2,Int.mul_neg,Int.neg_neg]
 · have h1:=natAbs_neg ha;have h2:=kU hb
   show -((a.natAbs*b.natAbs:Nat):Int)=_
   rw[lw,h1,h2,Int.neg_mul,Int.neg_neg]
 · have h1:=natAbs_neg ha;have h2:=natAbs_neg hb
   show ((a.natAbs*b.natAbs:Nat):Int)=_
   rw[lw,h1,h2,Int.neg_mul_neg]
def bB(n:Int):Int:=if n<0 then -1 else if 0<n then 1 else 0
theorem De(h:n<0):bB n = -1:=by rw[bB,if_pos h]
theorem Df(h:0<n):bB n=1:=by rw[bB,if_neg (by omega),if_pos h]
theorem Be{V:Nat}(h:V<2^k):(digs 4294967296 V).length≤k:=by
 refine lH (by omega) (gg h ?_);rw[show (4294967296:Nat)=2^32 from rfl,←oh];exact jg (by omega) (by omega)
theorem kV(h:Bd 1000000 n):(kK n).size≤1000000000000:=ba (Xf h) (by decide)
theorem ae7{b:Int}(ha:Bd k a)(hb:Bd k b):(digs 4294967296 (a.natAbs+b.natAbs)).length≤k+1:=Be (by unfold Bd at ha hb;rw[iw];omega)
theorem Fq(h:Bd k n):(digs 4294967296 n.natAbs).length≤k:=Be h
theorem Xm{n:Nat}(h:m≤n):(digs 4294967296 m).length≤(digs 4294967296 n).length:=by
 refine lH (by omega) (nc h ?_);have:=Fk (aar n);rwa [iX] at this
theorem adW  : (((digs 4294967296 a.natAbs).length:Int)=0)↔a=0:=by
 constructor
 · intro h
   have h0:digs 4294967296 a.natAbs=[]:=fa (by omega);have:=(vF (by omega)).1 h0;omega
 · rintro rfl;rfl
def rT(n:Int):Prop:=-9223372036854775808≤n∧n<9223372036854775808
theorem rT.bd(h:rT n):Bd 64 n:=Bd.of_i64 h.1 (by have:=h.2;omega)
theorem ag4(h:rT n)(h0:0≤n):IntKind.u64.wrap n=(n.natAbs:Int):=by
 rw[mF];have:=h.2;omega
theorem adX(h:rT n)(h0:n<0):IntKind.u64.wrap n=((18446744073709551616-n.natAbs:Nat):Int):=by
 rw[mF];have:=h.1;omega
theorem Ul(h:m≤9223372036854775808)(h0:0<m):IntKind.u64.wrap (0-((18446744073709551616-m:Nat):Int))=(m:Int):=by
 rw[mF];omega
theorem Um  : val 4294967296 [m%4294967296,m / 4294967296]=m:=by simp[val];omega
theorem Pc(h:m<18446744073709551616):eO 4294967296 [m%4294967296,m / 4294967296]:=fun x hx=>by simp at hx;omega
theorem rT.natAbs(h:rT n):n.natAbs≤9223372036854775808:=by have:=h.1;have:=h.2;omega
def Qc(n d:Int):Go.Value:=.agg #[.bool (fY n),.string (kK n),.bool (fY d),.string (kK d)]
def Q(q:Rat):Go.Value:=Qc q.num q.den
end Go.Lith
namespace Go.Lith
open Go.RowKit
variable{k m:Nat}
theorem Pd{a b:Nat}:0≤ord a b↔b≤a:=by
 unfold ord;split
 · omega
 · split <;> omega
structure P3 where
 x:Int
 y:Int
 z:Int
structure T3 where
 a:P3
 b:P3
 c:P3
namespace P3
def sub(p q:P3):P3:=⟨p.x-q.x,p.y-q.y,p.z-q.z⟩
def dot(p q:P3):Int:=p.x*q.x+p.y*q.y+p.z*q.z
def cross(u v:P3):P3:=⟨u.y*v.z-u.z*v.y,u.z*v.x-u.x*v.z,u.x*v.y-u.y*v.x⟩
end P3
def T3.normal(t:T3):P3:=(t.b.sub t.a).cross (t.c.sub t.a)
def pt(p:P3):Go.Value:=.agg #[.int .i64 p.x,.int .i64 p.y,.int .i64 p.z]
def tr(t:T3):Go.Value:=.agg #[.int .i64 t.a.x,.int .i64 t.a.y,.int .i64 t.a.z,.int .i64 t.b.x,.int .i64 t.b.y,.int .i64 t.b.z,.int .i64 t.c.x,.int .i64 t.c.y,.int .i64 t.c.z]
def wv(v:P3):Go.Value:=.agg #[.bool (fY v.x),.string (kK v.x),.bool (fY v.y),.string (kK v.y),.bool (fY v.z),.string (kK v.z)]
theorem Bw.up{n:Int}[x:Bw k n](h:k≤m:=by decide):Bd m n:=x.h.mono h
theorem Kd:kK 0=⟨#[]⟩:=by
 have:mN 0=[]:=by
  unfold mN;rw[(vF (B:=256) (by omega)).2 rfl];rfl
 simp only[kK,Int.natAbs_zero,this]
theorem Xn:W 0=.agg #[.bool false,.string ⟨#[]⟩]:=by simp only[W,Kd];rfl
class Iw(n:Int):Prop where
 h:rT n
class I3(p:P3):Prop where
 x:rT p.x
 y:rT p.y
 z:rT p.z
class IT(t:T3):Prop where
 a:I3 t.a
 b:I3 t.b
 c:I3 t.c
instance {p:P3}[h:I3 p]:Iw p.x:=⟨h.x⟩
instance {p:P3}[h:I3 p]:Iw p.y:=⟨h.y⟩
instance {p:P3}[h:I3 p]:Iw p.z:=⟨h.z⟩
instance {t:T3}[h:IT t]:I3 t.a:=h.a
instance {t:T3}[h:IT t]:I3 t.b:=h.b
instance {t:T3}[h:IT t]:I3 t.c:=h.c
instance {n:Int}[h:Iw n]:Bw 64 n:=⟨h.h.bd⟩
class Bv(k:outParam Nat)(v:P3):Prop where
 x:Bd k v.x
 y:Bd k v.y
 z:Bd k v.z
instance {k:Nat}{v:P3}[h:Bv k v]:Bw k v.x:=⟨h.x⟩
instance {k:Nat}{v:P3}[h:Bv k v]:Bw k v.y:=⟨h.y⟩
instance {k:Nat}{v:P3}[h:Bv k v]:Bw k v.z:=⟨h.z⟩
theorem Bv.mono{v:P3}(h:Bv k v)(hk:k≤m):Bv m v:=⟨h.x.mono hk,h.y.mono hk,h.z.mono hk⟩
theorem Bv.of{v:P3}[h:Bv k v](hk:k≤m:=by decide):Bv m v:=h.mono hk
instance {p q:P3}[a:I3 p][b:I3 q]:Bv 65 (p.sub q):=⟨a.x.bd.sub b.x.bd,a.y.bd.sub b.y.bd,a.z.bd.sub b.z.bd⟩
theorem Xo{l:Nat}{a b c d:Int}(ha:Bd k a)(hb:Bd l b)(hc:Bd k c)(hd:Bd l d):Bd (k+l+1) (a*b-c*d):=by
 have:=(ha.mul hb).sub (hc.mul hd);exact this.mono (by omega)
theorem ag5{l:Nat}{a b c d:Int}(ha:Bd k a)(hb:Bd l b)(hc:Bd k c)(hd:Bd l d):Bd (k+l+1) (a*b+c*d):=by
 have:=(ha.mul hb).add (hc.mul hd);exact this.mono (by omega)
instance {k l:Nat}{u v:P3}[a:Bv k u][b:Bv l v]:Bv (k+l+1) (u.cross v):=⟨Xo a.y b.z a.z b.y,Xo a.z b.x a.x b.z,Xo a.x b.y a.y b.x⟩
instance {k l:Nat}{u v:P3}[a:Bv k u][b:Bv l v]:Bw (k+l+2) (u.dot v):=⟨((ag5 a.x b.x a.y b.y).add (a.z.mul b.z)).mono (by omega)⟩
instance {t:T3}[h:IT t]:Bv 131 t.normal:=inferInstanceAs (Bv 131 ((t.b.sub t.a).cross (t.c.sub t.a)))
theorem P3.dot0{u v:P3}:0+u.x*v.x+u.y*v.y+u.z*v.z=u.dot v:=by simp only[P3.dot,Int.zero_add]
section
variable {P:bp} {Q:Exit→Act→aj→Prop} {a:Act} {w:aj} {c:Code} {n:Nat}
theorem Bf(h:c.wp P (Exit.then (Code.rounds P c Q n) Q) a w):Code.rounds P c Q (n+1) a w:=h
theorem lR(h:c.wp P (Exit.then (Code.rounds P c Q n) Q) a w):Exit.then (Code.rounds P c Q (n+1)) Q .normal a w:=h
end
inductive qJ where
 | nil:qJ
 | take:Nat→qJ→qJ
 | one:Nat→qJ→qJ
 | two:Nat→qJ→Nat→qJ→qJ
 | three:Nat→qJ→Nat→qJ→Nat→qJ→qJ
section
variable {P:bp} {ops:Array Oper} {md:Region.Mode} {S:aj→Prop}
def qJ.ok(md:Region.Mode)(ops:Array Oper):qJ→Nat→Array Bool→Bool
 | .nil,f,listed=>f == 0&&(Region.ready md ops listed).isEmpty
 | .take i t,f,listed=>decide (0<f)&&(ops[i]?).isSome&&Region.free md ops listed i&&(Region.ready md ops listed).contains i&&t.ok md ops (f-1) (listed.setIfInBounds i true)
 | .one i t,f,listed=>decide (0<f)&&(ops[i]?).isSome&&decide (Region.ready md ops listed=[i])&&t.ok md ops (f-1) (listed.setIfInBounds i true)
 | .two i t j u,f,listed=>decide (0<f)&&(ops[i]?).isSome&&(ops[j]?).isSome&&decide (Region.ready md ops listed=[i,j])&&t.ok md ops (f-1) (listed.setIfInBounds i true)&&u.ok md ops (f-1) (listed.setIfInBounds j true)
 | .three i t j u k v,f,listed=>decide (0<f)&&(ops[i]?).isSome&&(ops[j]?).isSome&&(ops[k]?).isSome&&decide (Region.ready md ops listed=[i,j,k])&&t.ok md ops (f-1) (listed.setIfInBounds i true)&&u.ok md ops (f-1) (listed.setIfInBounds j true)&&v.ok md ops (f-1) (listed.setIfInBounds k true)
def cO(P:bp)(ops:Array Oper)(S:aj→Prop)(Q:Exit→Act→aj→Prop):qJ→Act→aj→Prop
 | .nil,a,w=>Q .normal a w
 | .take i t,a,w=>bS P ops S (fun _ a w=>cO P ops S Q t a w) [((ops[i]?).getD default,true)] a w
 | .one i t,a,w=>ar P ops (Exit.then (fun a w=>S w∧cO P ops S Q t a w) Q) [(ops[i]?).getD default] a w
 | .two i t j u,a,w=>ar P ops (Exit.then (fun a w=>S w∧cO P ops S Q t a w) Q) [(ops[i]?).getD default] a w∧ar P ops (Exit.then (fun a w=>S w∧cO P ops S Q u a w) Q) [(ops[j]?).getD default] a w
 | .three i t j u k v,a,w=>ar P ops (Exit.then (fun a w=>S w∧cO P ops S Q t a w) Q) [(ops[i]?).getD default] a w∧ar P ops (Exit.then (fun a w=>S w∧cO P ops S Q u a w) Q) [(ops[j]?).getD default] a w∧ar P ops (Exit.then (fun a w=>S w∧cO P ops S Q v a w) Q) [(ops[k]?).getD default] a w
theorem jX{Q:Exit→Act→aj→Prop}{K:Act→aj→Prop}{i:Nat}{o:Oper}(ho:ops[i]? = some o){a:Act}{w:aj}(h:ar P ops (Exit.then K Q) [o] a w):wpOp P ops Q i K a w:=by
 unfold wpOp;simp only[ho];simp only[ar] at h;split
 · rename_i hw
   rw[if_pos hw] at h;rcases h with h | ⟨ha,x,y,hl⟩
   · refine .inl ?_
     unfold ma at h ⊢;generalize (de a.eval o).run P w=res at *
     cases res with
     | ok n w' =>
      cases n <;> simp only[nh] at h ⊢ <;>
       first
        | exact h
        | exact Calls.mono h (fun e w'' he=>by cases e <;> exact he)
        | exact Rows.mono h (fun _ _ he=>he)
     | halt x w'=>cases x <;> simp only[nh] at h ⊢ <;> exact h
   · exact .inr ⟨ha,x,y,hl⟩
 · rename_i hw
   rw[if_neg hw] at h;exact h
theorem jG{Q:Exit→Act→aj→Prop}(hs:Region.noSelect ops=true)(hQ:∀c d v a w,Q (.panic c) (Act.put a d v) w→Q (.panic c) a w):∀(t:qJ) (f:Nat) (listed:Array Bool) (a:Act) (w:aj),
 t.ok md ops f listed=true→S w→cO P ops S Q t a w→wpAnyH P md ops Q S f listed a w
 | .nil,f,listed,a,w,hB,_,h=>by
  simp only[qJ.ok,bg,beq_iff_eq] at hB;obtain⟨rfl,h2⟩:=hB;exact⟨by simpa using h2,h⟩
 | .take i t,f,listed,a,w,hB,hS,h=>by
  simp only[qJ.ok,bg,decide_eq_true_eq] at hB;obtain⟨⟨⟨⟨h0,h1⟩,h2⟩,h3⟩,h4⟩:=hB;obtain⟨o,ho⟩:=ee.1 h1;simp only[cO,bS,ho,df] at h;obtain⟨v,hy,hr⟩:=h;obtain⟨f,rfl⟩:∃g,f=g+1:=⟨f-1,by omega⟩
  exact wpAnyH_take ho hs h2 h3 (fun c a w=>hQ c _ v a w) hy hS (jG hs hQ t f _ _ _ h4 hS hr)
 | .one i t,f,listed,a,w,hB,hS,h=>by
  simp only[qJ.ok,bg,decide_eq_true_eq] at hB;obtain⟨⟨⟨h0,h1⟩,h2⟩,h4⟩:=hB;obtain⟨o,ho⟩:=ee.1 h1;obtain⟨f,rfl⟩:∃g,f=g+1:=⟨f-1,by omega⟩
  refine wpAnyH_all h2 (by simp) fun j hj=>?_;obtain rfl:j=i:=by simpa using hj
  simp only[cO,ho,df] at h;exact wpOp_mono (fun a' w' hh=>⟨hh.1,jG hs hQ t f _ a' w' h4 hh.1 hh.2⟩) (jX ho h)
 | .two i t j u,f,listed,a,w,hB,hS,h=>by
  simp only[qJ.ok,bg,decide_eq_true_eq] at hB;obtain⟨⟨⟨⟨⟨h0,h1⟩,h1'⟩,h2⟩,h4⟩,h5⟩:=hB;obtain⟨o,ho⟩:=ee.1 h1;obtain⟨o',ho'⟩:=ee.1 h1';obtain⟨f,rfl⟩:∃g,f=g+1:=⟨f-1,by omega⟩
  simp only[cO,ho,ho',df] at h;refine wpAnyH_all h2 (by simp) fun k hk=>?_;have hk':k=i∨k=j:=by simpa using hk
  rcases hk' with rfl | rfl
  · exact wpOp_mono (fun a' w' hh=>⟨hh.1,jG hs hQ t f _ a' w' h4 hh.1 hh.2⟩) (jX ho h.1)
  · exact wpOp_mono (fun a' w' hh=>⟨hh.1,jG hs hQ u f _ a' w' h5 hh.1 hh.2⟩) (jX ho' h.2)
 | .three i t j u k v,f,listed,a,w,hB,hS,h=>by
  simp only[qJ.ok,bg,decide_eq_true_eq] at hB;obtain⟨⟨⟨⟨⟨⟨⟨h0,h1⟩,h1'⟩,h1''⟩,h2⟩,h4⟩,h5⟩,h6⟩:=hB;obtain⟨o,ho⟩:=ee.1 h1;obtain⟨o',ho'⟩:=ee.1 h1';obtain⟨o'',ho''⟩:=ee.1 h1'';obtain⟨f,rfl⟩:∃g,f=g+1:=⟨f-1,by omega⟩
  simp only[cO,ho,ho',ho'',df] at h;refine wpAnyH_all h2 (by simp) fun m hm=>?_;have hm':m=i∨m=j∨m=k:=by simpa using hm
  rcases hm' with rfl | rfl | rfl
  · exact wpOp_mono (fun a' w' hh=>⟨hh.1,jG hs hQ t f _ a' w' h4 hh.1 hh.2⟩) (jX ho h.1)
  · exact wpOp_mono (fun a' w' hh=>⟨hh.1,jG hs hQ u f _ a' w' h5 hh.1 hh.2⟩) (jX ho' h.2.1)
  · exact wpOp_mono (fun a' w' hh=>⟨hh.1,jG hs hQ v f _ a' w' h6 hh.1 hh.2⟩) (jX ho'' h.2.2)
theorem Pe{id:Nat}{Q:Exit→Act→aj→Prop}{a:Act}{w:aj}{l:List Oper}(t:qJ)(hm:P.follows .mixedOrders=true)(hB:(Region.noSelect l.toArray&&t.ok .any l.toArray l.toArray.size (gd l.toArray.size false))=true)
 (hQ:∀c d v a w,Q (.panic c) (Act.put a d v) w→Q (.panic c) a w)
 (h:∀w',fQ w w'→∃S,aqe w' S∧cO P l.toArray S Q t a w'):(Code.region id l.toArray true).wp P Q a w:=by
 simp only[bg] at hB;obtain⟨S,hS,h⟩:=h _ (fQ.refl w).drawn;exact wp_region_held (S:=S) hm (jG (md:=.any) hB.1 hQ t _ _ a _ hB.2 hS h)
variable {Q:Exit→Act→aj→Prop} {a:Act} {w:aj} {o o':Oper} {i j:Nat} {t u:qJ}
theorem Es(h:Q .normal a w):cO P ops S Q .nil a w:=h
theorem eP(ho:(ops[i]?).getD default=o)(h:bS P ops S (fun _ a w=>cO P ops S Q t a w) [(o,true)] a w):cO P ops S Q (.take i t) a w:=by subst ho;exact h
theorem nN(ho:(ops[i]?).getD default=o)(h:ar P ops (Exit.then (fun a w=>S w∧cO P ops S Q t a w) Q) [o] a w):cO P ops S Q (.one i t) a w:=by subst ho;exact h
theorem aav(ho:(ops[i]?).getD default=o)(ho':(ops[j]?).getD default=o')(h:ar P ops (Exit.then (fun a w=>S w∧cO P ops S Q t a w) Q) [o] a w)(h':ar P ops (Exit.then (fun a w=>S w∧cO P ops S Q u a w) Q) [o'] a w):cO P ops S Q (.two i t j u) a w:=by
 subst ho;subst ho';exact⟨h,h'⟩
end
section
variable {P:bp} {ops:Array Oper} {md:Region.Mode} {w0:aj}
def YE(P:bp)(ops:Array Oper)(w0:aj)(o:Oper)(v:ai)(a:Act):Prop :=
 (Region.wanted o (yielded ops a.tmps)=true∧∀w,fQ w0 w→o.quietAt P a (fQ w) w v)∨(Region.wanted o (yielded ops a.tmps)=false∧v=undef)
theorem YE.of_same{o:Oper}{v:ai}{a a':Act}(hy:YE P ops w0 o v a)(he:de a'.eval o=de a.eval o)
 (hw:Region.wanted o (yielded ops a'.tmps)=Region.wanted o (yielded ops a.tmps)):YE P ops w0 o v a':=by
 unfold YE lo at *
 rw[he,hw];exact hy
def qE(P:bp)(ops:Array Oper)(w0:aj)(i:Nat)(K:Act→Prop)(a:Act):Prop:=∃o v,ops[i]? = some o∧YE P ops w0 o v a∧K (a.put o.dst v)
theorem ak0{i:Nat}{a:Act}{K K':Act→Prop}(h:∀a,K a→K' a)(hh:qE P ops w0 i K a):qE P ops w0 i K' a :=
 let ⟨o,v,h1,h2,h3⟩:=hh;⟨o,v,h1,h2,h _ h3⟩
theorem anS{j:Nat}{oi oj:Oper}{v:ai}(hj:ops[j]? = some oj)(hap:oi.apart ops oj=true)(hsi:∀cs b,oi.op≠.select cs b)(hsj:∀cs b,oj.op≠.select cs b){K:Act→Prop}{a:Act}
 (hy:YE P ops w0 oi v a) (h:qE P ops w0 j K (a.put oi.dst v)):qE P ops w0 j (fun a'=>YE P ops w0 oi v a'∧K (a'.put oi.dst v)) a:=by
 obtain⟨h1,h2,h3⟩:=Oper.apart_spec hap;obtain⟨o,u,ho,hu,hk⟩:=h;rw[hj] at ho;cases ho;refine⟨oj,u,hj,hu.of_same (execOp_put oj hsj a oi.dst v h1).symm (wanted_put oj a oi.dst v h1).symm,hy.of_same (execOp_put oi hsi a oj.dst u h3) (wanted_put oi a oj.dst u h3),?_⟩;rw[←Act.put_comm a v u h2];exact hk
def Pf(P:bp)(md:Region.Mode)(ops:Array Oper)(w0:aj)(n:Nat)(L:Array Bool→Act→Prop):Nat→Array Bool→Act→Prop
 | 0,listed,a=>L listed a
 | f+1,listed,a=>Region.ready md ops listed≠[]∧∀i∈Region.ready md ops listed,i<n∧qE P ops w0 i (Pf P md ops w0 n L f (listed.setIfInBounds i true)) a
theorem Xp{n i:Nat}{oi:Oper}{v:ai}{L:Array Bool→Act→Prop}(hi:ops[i]? = some oi)(hsel:∀(j:Nat) (o:Oper) cs b,ops[j]? = some o→o.op≠.select cs b)
 (hs:Region.sinkB md ops n=true) (hc:Region.chainB md ops n=true) (hn:n<ops.size) (hin:i<n)
 (hdone:∀listed a,L listed a→∀j∈Region.ready md ops listed,n≤j) :
 ∀(f:Nat) (listed:Array Bool) (a:Act),HeadInv md ops n listed →
  (∀j oj,ops[j]? = some oj→j≠i→listed.getD j true=false→(∀e∈oj.after,Region.binds md e=true→e.on≠i)→oi.apart ops oj=true) →
  i∈Region.ready md ops listed→YE P ops w0 oi v a →
  Pf P md ops w0 n L f (listed.setIfInBounds i true) (a.put oi.dst v)→Pf P md ops w0 n L (f+1) listed a:=by
 intro f
 induction f with
 | zero =>
  intro listed a inv _ hr hy H;have hun:=(mem_ready.1 hr).1;refine⟨fun h=>(by rw[h] at hr;cases hr),fun j hj=>?_⟩;have hjn:j<n:=by
   rcases dq j n with h | h
   · exact h
   · exact absurd hj (tail_waits hs hc hn inv _ i O hin hun j h)
  refine⟨hjn,?_⟩;by_cases hji:j=i
  · subst hji;exact⟨oi,v,hi,hy,H⟩
  · have:=hdone _ _ H j (ready_mono hj hji)
    omega
 | succ f ih =>
  intro listed a inv hfree hr hy H;have hun:=(mem_ready.1 hr).1;refine⟨fun h=>(by rw[h] at hr;cases hr),fun j hj=>?_⟩;have hjn:j<n:=by
   rcases dq j n with h | h
   · exact h
   · exact absurd hj (tail_waits hs hc hn inv _ i O hin hun j h)
  refine⟨hjn,?_⟩;by_cases hji:j=i
  · subst hji;exact⟨oi,v,hi,hy,H⟩
  · have h1:=(H.2 j (ready_mono hj hji)).2
    obtain⟨hjun,oj,hoj,hall⟩:=mem_ready.1 hj;have hnot:∀e∈oj.after,Region.binds md e=true→e.on≠i:=fun e he hb heq=>by
     have h1:=hall e he hb;rw[heq,getD_both hun] at h1;cases h1
    have h2:=anS hoj (hfree j oj hoj hji hjun hnot) (fun cs b=>hsel i oi cs b hi) (fun cs b=>hsel j oj cs b hoj) hy h1;have hfree':∀k ok,ops[k]? = some ok→k≠i→(listed.setIfInBounds j true).getD k true=false →
     (∀e∈ok.after,Region.binds md e=true→e.on≠i)→oi.apart ops ok=true:=fun k ok hk hki hun hno=>by
     refine hfree k ok hk hki ?_ hno;by_cases hjk:j=k
     · subst hjk;exact hjun
     · rw[getD_set_ne true hjk] at hun;exact hun
    refine ak0 (fun a' h3=>ih (listed.setIfInBounds j true) a' (inv.set hj hjn) hfree' (ready_mono hr (Ne.symm hji)) h3.1 ?_) h2;rw[mw _ _ hji];exact h3.2
def Bg(P:bp)(ops:Array Oper)(w0:aj)(L:Act→Prop):List Oper→Act→Prop
 | [],a=>L a
 | o::r,a=>∃v,YE P ops w0 o v a∧Bg P ops w0 L r (a.put o.dst v)
def ag6(md:Region.Mode)(ops:Array Oper)(g n:Nat):List Nat→Array Bool→Bool
 | [],listed=>Region.seqB md ops g n listed
 | i::r,listed=>(ops[i]?).isSome&&decide (i<n)&&(Region.ready md ops listed).contains i&&Region.free md ops listed i&&ag6 md ops g n r (listed.setIfInBounds i true)
theorem Pg{n g:Nat}{L:Act→Prop}(hsel:Region.noSelect ops=true)(hs:Region.sinkB md ops n=true)(hc:Region.chainB md ops n=true)(hn:n<ops.size) :
 ∀(l:List Nat) (listed:Array Bool) (a:Act),HeadInv md ops n listed→ag6 md ops g n l listed=true→Bg P ops w0 L (l.map fun i=>(ops[i]?).getD default) a →
 Pf P md ops w0 n (fun listed' a'=>Region.seqB md ops g n listed'=true∧L a') l.length listed a
 | [],listed,a,_,hB,h=>⟨by simpa[ag6] using hB,h⟩
 | i::l,listed,a,inv,hB,h=>by
  simp only[ag6,bg,decide_eq_true_eq] at hB;obtain⟨⟨⟨⟨h1,h2⟩,h3⟩,h4⟩,h5⟩:=hB;obtain⟨o,ho⟩:=ee.1 h1;simp only[bh,Bg,ho,df] at h;obtain⟨v,hy,hr⟩:=h;have hi':i∈Region.ready md ops listed:=by simpa using h3
  exact Xp ho (Region.noSelect_spec hsel) hs hc hn h2 (fun listed' a' hL=>seqB_ready hL.1) l.length listed a inv (Region.free_spec ho h4) hi' hy (Pg hsel hs hc hn l _ _ (inv.set hi' h2) h5 hr)
structure Al where
 i:Nat
 d:Nat
 T:az
 cs:List ai
def xX(P:bp)(md:Region.Mode)(ops:Array Oper)(x:Al):Prop :=
 ∃ty pos after,ops[x.i]? = some (bm (some x.d) (.alloc x.T) ty pos after none)∧(after.all fun e=>!Region.binds md e)=true∧∃z,nU P x.T z∧z.cells=x.cs.toArray
def fS(E:Nat→Option ai):List Al→Act→Act
 | [],a=>a
 | x::r,a=>match E x.i with
  | some v=>fS E r (a.put (some x.d) v)
  | none=>fS E r a
def xY(ops:Array Oper)(o:Oper)(al:List Al):Bool:=al.all fun x=>!(o.looksAt ops).contains x.d&&o.dst != some x.d
theorem Bh{E:Nat→Option ai}{o:Oper}(hs:∀cs b,o.op≠.select cs b):∀{al:List Al},xY ops o al=true→∀a,de (fS E al a).eval o=de a.eval o∧Region.wanted o (yielded ops (fS E al a).tmps)=Region.wanted o (yielded ops a.tmps)
 | [],_,a=>⟨rfl,rfl⟩
 | x::r,hc,a=>by
  simp only[xY,List.all_cons,bg,ew] at hc;have hr:xY ops o r=true:=by simp only[xY,bg,ew] ;simpa using hc.2
  have hd:x.d∉o.looksAt ops:=by simpa using hc.1.1
  unfold fS;split
  · obtain⟨h1,h2⟩:=Bh (E:=E) hs hr (a.put (some x.d) _)
    rename_i v _;exact⟨h1.trans (execOp_put o hs a (some x.d) v (fun d e=>by cases e;exact hd)),h2.trans (wanted_put o a (some x.d) v (fun d e=>by cases e;exact hd))⟩
  · exact Bh hs hr a
theorem Fs{E:Nat→Option ai}{o:Oper}{v:ai}:∀{al:List Al},xY ops o al=true→∀a,(fS E al a).put o.dst v=fS E al (a.put o.dst v)
 | [],_,a=>rfl
 | x::r,hc,a=>by
  simp only[xY,List.all_cons,bg,ew,bne_iff_ne,ne_eq] at hc;have hr:xY ops o r=true:=by simp only[xY,bg,ew] ;simpa using hc.2
  unfold fS;split
  · rename_i u _
    rw[Fs hr,Act.put_comm a u v (fun d e=>by cases e;exact hc.1.2)]
  · exact Fs hr a
theorem Ph{E:Nat→Option ai}{x:Al}{v:ai}:∀{al:List Al},(al.map (·.i)).Nodup→(al.map (·.d)).Nodup→x∈al→E x.i=none→∀a,(fS E al a).put (some x.d) v=fS (fun j=>if j=x.i then some v else E j) al a
 | [],_,_,hx,_,_=>by cases hx
 | y::r,hi,hd,hx,he,a=>by
  simp only[bh,gt] at hi hd;have same:∀(l:List Al),x.i∉l.map (·.i)→∀a,fS (fun j=>if j=x.i then some v else E j) l a=fS E l a:=by
   intro l
   induction l with
   | nil=>intro _ a;rfl
   | cons z l ih =>
    intro hn a;simp only[bh,an,not_or] at hn;unfold fS;simp only[Ne.symm hn.1,if_false];split <;> exact ih hn.2 _
  have push:∀(l:List Al),x.d∉l.map (·.d)→∀a,(fS E l a).put (some x.d) v=fS E l (a.put (some x.d) v):=by
   intro l
   induction l with
   | nil=>intro _ a;rfl
   | cons z l ih =>
    intro hn a;simp only[bh,an,not_or] at hn;unfold fS;split
    · rename_i u _
      rw[ih hn.2,Act.put_comm a u v (fun d e=>by cases e;simp;exact hn.1)]
    · exact ih hn.2 _
  rcases an.1 hx with rfl | hx
  · unfold fS
    simp only[he,if_true];rw[push r hd.1,same r hi.1]
  · have hne:y.i≠x.i:=fun e=>hi.1 (by rw[e];exact fh hx)
    unfold fS;simp only[hne,if_false];split <;> exact Ph hi.2 hd.2 hx he _
def cnt(E:Nat→Option ai)(al:List Al):Nat:=(al.filter fun x=>(E x.i).isNone).length
theorem Hh{E:Nat→Option ai}{x:Al}{v:ai}:∀{al:List Al},(al.map (·.i)).Nodup→x∈al→E x.i=none→cnt E al=cnt (fun j=>if j=x.i then some v else E j) al+1
 | [],_,hx,_=>by cases hx
 | y::r,hi,hx,he=>by
  simp only[bh,gt] at hi;have same:∀(l:List Al),x.i∉l.map (·.i)→cnt (fun j=>if j=x.i then some v else E j) l=cnt E l:=by
   intro l
   induction l with
   | nil=>intro _;rfl
   | cons z l ih =>
    intro hn;simp only[bh,an,not_or] at hn;have:=ih hn.2;unfold cnt at *
    rw[gv,gv];simp only[Ne.symm hn.1,if_false];split <;> simp[this]
  rcases an.1 hx with rfl | hx
  · have:=same r hi.1
    unfold cnt at *
    rw[gv,gv];simp[he,this]
  · have hne:y.i≠x.i:=fun e=>hi.1 (by rw[e];exact fh hx)
    have:=Hh (v:=v) hi.2 hx he;unfold cnt at *
    rw[gv,gv];simp only[hne,if_false];split <;> simp[this]
theorem aaw{E:Nat→Option ai}{al:List Al}(h:cnt E al=0):∀x∈al,∃v,E x.i=some v:=fun x hx=>by
 unfold cnt at h;have:=List.filter_eq_nil_iff.1 (fa h) x hx;cases he:E x.i with
 | none=>simp[he] at this
 | some v=>exact⟨v,rfl⟩
theorem ak1{E:Nat→Option ai}{al:List Al}(h:0<cnt E al):∃x∈al,E x.i=none:=by
 unfold cnt at h;obtain⟨x,hx⟩:=List.length_pos_iff_exists_mem.1 h;obtain⟨h1,h2⟩:=List.mem_filter.1 hx;exact⟨x,h1,by simpa using h2⟩
def Ke(base:Nat)(E:Nat→Option ai)(al:List Al)(w:aj):Prop :=
 (∀x∈al,∀v,E x.i=some v→∃g,v=.pointer (some ⟨g,0,none⟩)∧base≤g∧fR w g x.cs x.T) ∧
 (∀x∈al,∀y∈al,x.i≠y.i→∀g g',E x.i=some (.pointer (some ⟨g,0,none⟩))→E y.i=some (.pointer (some ⟨g',0,none⟩))→g≠g')
theorem Ke.ext{base:Nat}{E:Nat→Option ai}{al:List Al}{w w':aj}(h:Ke base E al w)(hE:fQ w w'):Ke base E al w' :=
 ⟨fun x hx v hv=>let ⟨g,e,hb,hB⟩:=h.1 x hx v hv;⟨g,e,hb,hB.ext hE⟩,h.2⟩
theorem Ke.new{base:Nat}{E:Nat→Option ai}{al:List Al}{w:aj}(h:Ke base E al w){x:Al}(hx:x∈al)(hi:(al.map (·.i)).Nodup)(he:E x.i=none)(hb:base≤w.heap.size) :
 Ke base (fun j=>if j=x.i then some (.pointer (some ⟨w.heap.size,0,none⟩)) else E j) al (w.alloc (.cells x.cs.toArray x.T)):=by
 have huniq:∀y∈al,y.i=x.i→y=x:=by
  intro y hy e;clear h
  induction al with
  | nil=>cases hx
  | cons z r ih =>
   simp only[bh,gt] at hi;rcases an.1 hx with rfl | hx'
   · rcases an.1 hy with rfl | hy'
     · rfl
     · exact absurd (by rw[←e];exact fh hy') hi.1
   · rcases an.1 hy with rfl | hy'
     · exact absurd (by rw[e];exact fh hx') hi.1
     · exact ih hx' hi.2 hy'
 refine⟨fun y hy v hv=>?_,fun y hy z hz hne g g' h1 h2=>?_⟩
 · by_cases e:y.i=x.i
   · obtain rfl:=huniq y hy e
     simp only[if_true] at hv;cases hv;exact⟨_,O,hb,jQ w _ _⟩
   · simp only[e,if_false] at hv
     obtain⟨g,e1,e2,e3⟩:=h.1 y hy v hv;exact⟨g,e1,e2,e3.ext ((fQ.refl w).alloc _)⟩
 · by_cases e:y.i=x.i
   · have e':z.i≠x.i:=fun e2=>hne (e.trans e2.symm)
     simp only[e,if_true] at h1;simp only[e',if_false] at h2;cases h1;obtain⟨g2,e1,_,e3⟩:=h.1 z hz _ h2;cases e1;exact Nat.ne_of_gt e3.lt
   · by_cases e':z.i=x.i
     · simp only[e,if_false] at h1
       simp only[e',if_true] at h2;cases h2;obtain⟨g2,e1,_,e3⟩:=h.1 y hy _ h1;cases e1;exact Nat.ne_of_lt e3.lt
     · simp only[e,if_false] at h1
       simp only[e',if_false] at h2;exact h.2 y hy z hz hne g g' h1 h2
def Xq(md:Region.Mode)(ops:Array Oper)(n:Nat)(al:List Al):Bool :=
 decide ((al.map (·.i)).Nodup)&&decide ((al.map (·.d)).Nodup)&&(al.all fun x=>decide (x.i<n)) &&
 ((ji n).all fun j=>(al.any fun x=>x.i == j)||match ops[j]? with
  | some o=>xY ops o al&&o.after.all fun e=>!Region.binds md e || !(al.any fun x=>x.i == e.on)
  | none=>true)
theorem sim{n g:Nat}{al:List Al}{L:Act→Prop}{Q':Exit→Act→aj→Prop}{tl:List Oper}(hsel:Region.noSelect ops=true)(hs:Region.sinkB md ops n=true)(hc:Region.chainB md ops n=true)(hn:n<ops.size)
 (hal:∀x∈al,xX P md ops x) (hB:Xq md ops n al=true) (htl:∀j,tl[j]? = ops[n+j]?) (hgl:tl.length=g)
 (hL:∀a E w,fQ w0 w→Ke w0.heap.size E al w→(∀x∈al,∃v,E x.i=some v)→L a→ar P ops Q' tl (fS E al a) w) :
 ∀(k f:Nat) (E:Nat→Option ai) (lr lm:Array Bool) (a:Act) (w:aj),k=f+cnt E al→HeadInv md ops n lr→lm.size=lr.size→(∀j,lm.getD j false=(lr.getD j false||al.any fun x=>x.i == j)) →
  (∀x∈al,(E x.i=none↔lr.getD x.i false=false))→fQ w0 w→Ke w0.heap.size E al w →
  Pf P md ops w0 n (fun listed' a'=>Region.seqB md ops g n listed'=true∧L a') f lm a→wpAny P md ops Q' (k+g) lr (fS E al a) w:=by
 simp only[Xq,bg,decide_eq_true_eq,ep,jj] at hB;obtain⟨⟨⟨hni,hnd⟩,hlt⟩,hcl⟩:=hB;intro k
 induction k with
 | zero =>
  intro f E lr lm a w hk inv hsz hlm hE hx hla H;obtain rfl:f=0:=by omega
  have h0:cnt E al=0:=by omega
  have hall:=aaw h0;have heq:lm=lr:=by
   apply qh hsz;intro j h1 h2;have h3:=hlm j;simp only[mb,gm h1,gm h2,df] at h3;rw[h3];cases hlr:lr[j] with
   | true=>rfl
   | false =>
    rw[ju];cases hany:al.any fun x=>x.i == j with
    | false=>rfl
    | true =>
     obtain⟨x,hx1,hx2⟩:=el.1 hany;have hx3:x.i=j:=by simpa using hx2
     obtain⟨v,hv⟩:=hall x hx1;have:lr.getD x.i false=false:=by
      rw[hx3,mb,gm h2];simpa using hlr
     rw[(hE x hx1).2 this] at hv;cases hv
  subst heq;obtain⟨H1,H2⟩:=H;rw[aq,←hgl];exact wpAny_of_seq (md:=md) tl n lm _ w htl (by rw[hgl];exact H1) (hL a E w hx hla hall H2)
 | succ k ih =>
  intro f E lr lm a w hk inv hsz hlm hE hx hla H;have getT:∀j,j<ops.size→lr.getD j false=false→lr.getD j true=false:=fun j hj h=>getD_in (by rw[inv.size];exact hj) h
  -- some head operation is not listed
  have hsome:∃j,j∈Region.ready md ops lr∧j<n:=by
   rcases iu (cnt E al) with h0 | h0
   · obtain⟨f,rfl⟩:∃q,f=q+1:=⟨f-1,by omega⟩
     obtain⟨hne,hr⟩:=H;obtain⟨j,hj⟩:=List.exists_mem_of_ne_nil _ hne;have hjn:=(hr j hj).1;refine⟨j,?_,hjn⟩;have hall:=aaw h0;obtain⟨hju,oj,hoj,hpre⟩:=mem_ready.1 hj;refine mem_ready.2 ⟨?_,oj,hoj,fun e he hb=>?_⟩
     · have h1:=hlm j
       rw[getD_both hju] at h1;have h2:lr.getD j false=false:=by
        cases h:lr.getD j false with
        | false=>rfl
        | true=>rw[h] at h1;simp at h1
       exact getT j (by omega) h2
     · have h1:=hlm e.on
       rw[hpre e he hb] at h1;cases h:lr.getD e.on false with
       | true=>rfl
       | false =>
        rw[h,ju] at h1;obtain⟨x,hx1,hx2⟩:=el.1 h1.symm;have hx3:x.i=e.on:=by simpa using hx2
        obtain⟨v,hv⟩:=hall x hx1;rw[(hE x hx1).2 (by rw[hx3];exact h)] at hv;cases hv
   · obtain⟨x,hx1,hx2⟩:=ak1 h0
     obtain⟨ty,pos,after,hop,haf,_⟩:=hal x hx1;have hxn:x.i<n:=by simpa using hlt x hx1
     refine⟨x.i,mem_ready.2 ⟨getT _ (by omega) ((hE x hx1).1 hx2),_,hop,fun e he hb=>?_⟩,hxn⟩;have:=Array.all_eq_true_iff_forall_mem.1 haf e he;simp[hb] at this
  obtain⟨j0,hj0,hj0n⟩:=hsome;have hj0u:=(mem_ready.1 hj0).1;rw[show k+1+g=(k+g)+1 by omega];refine⟨fun h=>(by rw[h] at hj0;cases hj0),fun i hi=>?_⟩;have hin:i<n:=by
   rcases dq i n with h | h
   · exact h
   · exact absurd hi (tail_waits hs hc hn inv _ j0 O hj0n hj0u i h)
  obtain⟨hiu,oi,hoi,hpre⟩:=mem_ready.1 hi;by_cases hia:al.any (fun x=>x.i == i)=true
  · -- an allocation
    obtain⟨x,hx1,hx2⟩:=el.1 hia;obtain rfl:x.i=i:=by simpa using hx2
    obtain⟨ty,pos,after,hop,haf,z,hz,hzc⟩:=hal x hx1;have hex:E x.i=none:=(hE x hx1).2 (getD_both hiu);obtain⟨inf,hinf,hinz⟩:=hz;unfold wpOp;simp only[hop];rw[if_pos (by simp[Region.wanted])];refine .inl ?_;have hrun:∀ρ:bx→ai,(de ρ (bm (some x.d) (.alloc x.T) ty pos after none)).run P w=.ok (.value (.pointer (some ⟨w.heap.size,0,none⟩))) (w.alloc (.cells x.cs.toArray x.T)):=fun ρ=>by
     simp[de,Instr.alloc,zeroValue,typeInfo,hinf,hinz,newVar,newRow,hzc,newObj,Sem.run]
    unfold ma;rw[hrun];show wpAny P md ops Q' (k+g) (lr.setIfInBounds x.i true) ((fS E al a).put (some x.d) (.pointer (some ⟨w.heap.size,0,none⟩))) _
    rw[Ph hni hnd hx1 hex];have hc1:=Hh (v:=.pointer (some ⟨w.heap.size,0,none⟩)) hni hx1 hex;have hxs:x.i<lr.size:=by rw[inv.size];omega
    refine ih f _ _ lm a _ (by omega) (inv.set hi hin) (by simp[hsz]) (fun j=>?_) (fun y hy=>?_) (hx.alloc _) (hla.new hx1 hni hex hx.size) H
    · rw[hlm j]
      by_cases e:x.i=j
      · subst e
        rw[hia];simp
      · rw[getD_set_ne false e]
    · by_cases e:x.i=y.i
      · rw[←e]
        simp[hxs]
      · rw[getD_set_ne false e]
        simp only[Ne.symm e,if_false];exact hE y hy
  · -- an operation that computes
    have hia':al.any (fun x=>x.i == i)=false:=by simpa using hia
    have hci:=hcl i hin;rw[hia',ju,hoi] at hci;simp only[bg] at hci;have hready:i∈Region.ready md ops lm:=by
     refine mem_ready.2 ⟨?_,oi,hoi,fun e he hb=>by rw[hlm,hpre e he hb];rfl⟩;have h1:=hlm i;rw[getD_both hiu,hia'] at h1;exact getD_in (by rw[hsz,inv.size];omega) (by simpa using h1)
    cases f with
    | zero =>
     obtain⟨H1,H2⟩:=H;have:=seqB_ready H1 i hready;omega
    | succ f =>
     obtain⟨_,o,v,ho,hy,hK⟩:=H.2 i hready;rw[hoi] at ho;cases ho;have hse:∀cs b,oi.op≠.select cs b:=fun cs b=>Region.noSelect_spec hsel i oi cs b hoi;obtain⟨e1,e2⟩:=Bh (E:=E) hse hci.1 a;have hy':=hy.of_same e1 e2;have key:∀w',fQ w w'→wpAny P md ops Q' (k+g) (lr.setIfInBounds i true) ((fS E al a).put oi.dst v) w':=fun w' hw'=>by
      rw[Fs hci.1];refine ih f E _ _ _ w' (by omega) (inv.set hi hin) (by simp[hsz]) (fun j=>?_) (fun y hy=>?_) (hx.trans hw') (hla.ext hw') hK
      · by_cases e:i=j
        · subst e
          have h1:i<lr.size:=by rw[inv.size];omega
          simp[h1,hsz]
        · rw[getD_set_ne false e,getD_set_ne false e,hlm j]
      · have e:i≠y.i:=fun e=>by
         have:al.any (fun x=>x.i == i)=true:=el.2 ⟨y,hy,by simp[e]⟩;rw[hia'] at this;cases this
        rw[getD_set_ne false e];exact hE y hy
     unfold wpOp;simp only[hoi];rcases hy' with ⟨hw,hv⟩ | ⟨hw,rfl⟩
     · rw[if_pos hw]
       refine .inl ?_;have h3:=hv w hx;unfold lo at h3;unfold ma;generalize (de (fS E al a).eval oi).run P w=r at *
       cases r with
       | ok nx w' =>
        cases nx <;> simp only[Oper.quietUpon] at h3 <;> simp only[nh]
        case value u =>
         obtain⟨e1,e2⟩:=h3;rw[e1,e2];exact key w (fQ.refl w)
        case skip =>
         obtain⟨e1,e2⟩:=h3;rw[e1,←e2];exact key w (fQ.refl w)
        case enter f' args =>
         obtain⟨e1,hcl⟩:=h3;rw[e1];exact hcl.mono fun e w'' ⟨he,hw''⟩=>by subst he;exact key w'' hw''
       | halt x w'=>simp only[Oper.quietUpon] at h3
     · rw[if_neg (by rw[hw];simp)]
       exact key w (fQ.refl w)
theorem eN{id:Nat}{Q:Exit→Act→aj→Prop}{a:Act}{w:aj}{l:List Oper}(n:Nat)(idx:List Nat)(al:List Al)(hm:P.follows .mixedOrders=true)
 (hB:(Region.noSelect l.toArray&&decide (n<l.length)&&Region.sinkB .any l.toArray n&&Region.chainB .any l.toArray n&&Xq .any l.toArray n al&&decide (n=idx.length+al.length) &&
  ag6 .any l.toArray (l.length-n) n idx (al.foldl (fun s x=>s.setIfInBounds x.i true) (gd l.toArray.size false)))=true)
 (hal:∀x∈al,xX P .any l.toArray x) {ol:List Oper} (hol:(idx.map fun i=>(l.toArray[i]?).getD default)=ol)
 (h:∀w1,fQ w w1→Bg P l.toArray w1 (fun a'=>∀E w',fQ w1 w'→Ke w1.heap.size E al w'→(∀x∈al,∃v,E x.i=some v)→ar P l.toArray Q (l.drop n) (fS E al a') w') ol a):(Code.region id l.toArray true).wp P Q a w:=by
 simp only[bg,decide_eq_true_eq] at hB;obtain⟨⟨⟨⟨⟨⟨hsel,hn⟩,hs⟩,hc⟩,hf⟩,hlen⟩,hlex⟩:=hB;subst hol;have hn':n<l.toArray.size:=by simpa using hn
 have hf':=hf;simp only[Xq,bg,decide_eq_true_eq,ep,jj] at hf';obtain⟨⟨⟨hni,hnd⟩,hlt⟩,hcl⟩:=hf';generalize hlm:al.foldl (fun s x=>s.setIfInBounds x.i true) (gd l.toArray.size false)=lm at hlex;have hfold:∀(r:List Al) (s:Array Bool),(r.foldl (fun s x=>s.setIfInBounds x.i true) s).size=s.size∧∀j,j<s.size→(r.foldl (fun s x=>s.setIfInBounds x.i true) s).getD j false=(s.getD j false||r.any fun x=>x.i == j):=by
  intro r
  induction r with
  | nil=>intro s;exact⟨O,fun j _=>by simp⟩
  | cons x r ih =>
   intro s;obtain⟨h1,h2⟩:=ih (s.setIfInBounds x.i true);refine⟨by rw[jd,h1];simp,fun j hj=>?_⟩;rw[jd,h2 j (by simpa using hj),List.any_cons];by_cases e:x.i=j
   · subst e
     simp[hj]
   · have e2:(x.i == j)=false:=by simpa using e
     rw[getD_set_ne false e,e2,ju]
 obtain⟨hsz,hget⟩:=hfold al (gd l.toArray.size false);rw[hlm] at hsz hget;have hsz':lm.size=l.toArray.size:=by rw[hsz];simp
 have hlmj:∀j,lm.getD j false=al.any fun x=>x.i == j:=fun j=>by
  rcases dq j l.toArray.size with hj | hj
  · rw[hget j (by simpa using hj),getD_replicate_false,ju]
  · have h1:lm.getD j false=false:=by rw[mb,lp (by omega)];rfl
    rw[h1]
    symm
    rw[Bool.eq_false_iff];intro h2;obtain⟨x,hx1,hx2⟩:=el.1 h2;have hx3:x.i=j:=by simpa using hx2
    have:x.i<n:=by simpa using hlt x hx1
    omega
 have inv0:HeadInv .any l.toArray n (gd l.toArray.size false) :=
  ⟨by simp,fun j oj _ hl=>(by rw[getD_replicate_false] at hl;cases hl),fun t _ ht=>getD_in (by simpa using ht) (getD_replicate_false _ _)⟩
 have invm:HeadInv .any l.toArray n lm:=by
  refine⟨hsz',fun j oj hoj hl e he hb=>?_,fun t ht ht'=>getD_in (by rw[hsz'];exact ht') ?_⟩
  · rw[hlmj] at hl
    obtain⟨x,hx1,hx2⟩:=el.1 hl;have hx3:x.i=j:=by simpa using hx2
    obtain⟨ty,pos,after,hop,haf,_⟩:=hal x hx1;rw[hx3,hoj] at hop;cases hop;have:=Array.all_eq_true_iff_forall_mem.1 haf e he;simp[hb] at this
  · rw[hlmj,Bool.eq_false_iff]
    intro h2;obtain⟨x,hx1,hx2⟩:=el.1 h2;have hx3:x.i=t:=by simpa using hx2
    have:x.i<n:=by simpa using hlt x hx1
    omega
 refine wp_region_any hm ?_;obtain⟨w1,hw1⟩:∃w1,w1=({ w with drawn:=w.drawn+1 }:aj):=⟨_,rfl⟩
 rw[←hw1];have hx1:fQ w w1:=by rw[hw1];exact (fQ.refl w).drawn
 have H:=Pg (md:=.any) (g:=l.length-n) hsel hs hc hn' idx lm a invm hlex (h w1 hx1);have hcnt:cnt (fun _=>none) al=al.length:=by
  unfold cnt;simp
 have key:=sim (md:=.any) (P:=P) (ops:=l.toArray) (w0:=w1) (Q':=Q) (tl:=l.drop n) (g:=l.length-n) (al:=al) hsel hs hc hn' hal hf (fun j=>by simp[di]) (by simp) (fun a E w' hw' hla hall hL=>hL E w' hw' hla hall)
  (idx.length+al.length) idx.length (fun _=>none) (gd l.toArray.size false) lm a w1 (by rw[hcnt]) inv0 (by rw[hsz'];simp) (fun j=>by rw[getD_replicate_false,ju];exact hlmj j)
  (fun x _=>⟨fun _=>getD_replicate_false _ _,fun _=>rfl⟩) (fQ.refl w1) ⟨fun x _ v hv=>(by cases hv),fun x _ y _ _ g g' h1 _=>(by cases h1)⟩ H
 have hap:∀r:List Al,fS (fun _=>none) r a=a:=by
  intro r
  induction r with
  | nil=>rfl
  | cons x r ih=>exact ih
 rw[hap,←hlen] at key;have e:n+(l.length-n)=l.toArray.size:=by rw[gi];omega
 rwa [e] at key
end
section
variable {P:bp} {ops:Array Oper} {w0:aj} {L:Act→Prop} {ds:List dx} {l:List ai} {rest:List Oper} {d:Nat} {op:Op} {ty:az} {pos:String} {after:Array Edge} {v:ai} {x y:bx} {T:az}
theorem ag7(hr:∀w,fQ w0 w→Ak P l op ty v w)(h:Bg P ops w0 L rest (Fr (l.set d v) ds)):Bg P ops w0 L (bm (some d) op ty pos after none::rest) (Fr l ds):=by
 refine⟨v,.inl ⟨by simp[Region.wanted],fun w hw=>?_⟩,?_⟩
 · unfold lo
   rw[kI,hr w hw _ rfl rfl];exact⟨O,O⟩
 · show Bg P ops w0 L rest ((Fr l ds).put (some d) v)
   rw[iN];exact h
theorem jH(hr:iR P l op ty v)(h:Bg P ops w0 L rest (Fr (l.set d v) ds)):Bg P ops w0 L (bm (some d) op ty pos after none::rest) (Fr l ds):=ag7 (fun w _=>hr w) h
theorem eK{a:Addr}(hx:ev l x=.pointer (some a))(hv:∀w',fQ w0 w'→eR P w' T a v)(h:Bg P ops w0 L rest (Fr (l.set d v) ds)):Bg P ops w0 L (bm (some d) (.load T x) ty pos after none::rest) (Fr l ds) :=
 ag7 (fun _ hE=>aY hx (hv _ hE)) h
theorem ak2{f:FuncId}{fo:bx}{xs:Array bx}{args:List ai}{first cap:Array ai}{a0:Array az}(hf:ev l fo=.func (.func f) first cap)(hxs:first.toList++xs.toList.map (ev l)++cap.toList=args)(hc:∀w',fQ w0 w'→dA P f args w' fun u _=>u=v)
 (h:Bg P ops w0 L rest (Fr (l.set d v) ds)):Bg P ops w0 L (bm (some d) (.call { callee:=.value fo,args:=xs,argTypes:=a0 }) ty pos after none::rest) (Fr l ds):=by
 refine⟨v,.inl ⟨by simp[Region.wanted],fun w hw=>?_⟩,?_⟩
 · unfold lo
   rw[kI,pJ (hc w hw).1 hf hxs _ rfl];refine⟨O,(hc w hw).2.mono ?_⟩;rintro e w'' ⟨u,rfl,hE,rfl⟩;exact⟨O,hE⟩
 · show Bg P ops w0 L rest ((Fr l ds).put (some d) v)
   rw[iN];exact h
theorem eT{f:FuncId}{fo:bx}{xs:Array bx}{args:List ai}{first cap:Array ai}{a0:Array az}(hf:ev l fo=.func (.func f) first cap)(hxs:first.toList++xs.toList.map (ev l)++cap.toList=args)(hc:dS P f args v)
 (h:Bg P ops w0 L rest (Fr (l.set d v) ds)):Bg P ops w0 L (bm (some d) (.call { callee:=.value fo,args:=xs,argTypes:=a0 }) ty pos after none::rest) (Fr l ds) :=
 ak2 hf hxs (fun w' _=>hc w') h
theorem Ae(h:L (Fr l ds)):Bg P ops w0 L [] (Fr l ds):=h
theorem al1{md:Region.Mode}{x:Al}(h:xX P md ops x):∀y∈[x],xX P md ops y:=fun y hy=>by
 rcases an.1 hy with rfl | hy
 · exact h
 · cases hy
theorem al2{md:Region.Mode}{x y:Al}(h:xX P md ops x)(k:xX P md ops y):∀z∈[x,y],xX P md ops z:=fun z hz=>by
 rcases an.1 hz with rfl | hz
 · exact h
 · exact al1 k z hz
variable {Q:Exit→Act→aj→Prop} {tl:List Oper}
theorem anT{i d:Nat}{T:az}{cs:List ai}(h:∀w' g,fQ w0 w'→w0.heap.size≤g→fR w' g cs T→ar P ops Q tl (Fr (l.set d (.pointer (some ⟨g,0,none⟩))) ds) w') :
 ∀E w',fQ w0 w'→Ke w0.heap.size E [⟨i,d,T,cs⟩] w'→(∀x∈[(⟨i,d,T,cs⟩:Al)],∃v,E x.i=some v)→ar P ops Q tl (fS E [⟨i,d,T,cs⟩] (Fr l ds)) w':=fun E w' hE hL hv=>by
 obtain⟨v,hv⟩:=hv ⟨i,d,T,cs⟩ (by simp);obtain⟨g,rfl,hg,hB⟩:=hL.1 ⟨i,d,T,cs⟩ (by simp) v hv;have e:fS E [⟨i,d,T,cs⟩] (Fr l ds)=Fr (l.set d (.pointer (some ⟨g,0,none⟩))) ds:=by
  simp only[fS,hv];exact iN _ _
 rw[e];exact h w' g hE hg hB
theorem anU{i d j e:Nat}{T U:az}{cs us:List ai}(hij:i≠j)(h:∀w' g k,fQ w0 w'→w0.heap.size≤g→w0.heap.size≤k→fR w' g cs T→fR w' k us U→k≠g→ar P ops Q tl (Fr ((l.set d (.pointer (some ⟨g,0,none⟩))).set e (.pointer (some ⟨k,0,none⟩))) ds) w') :
 ∀E w',fQ w0 w'→Ke w0.heap.size E [⟨i,d,T,cs⟩,⟨j,e,U,us⟩] w'→(∀x∈[(⟨i,d,T,cs⟩:Al),⟨j,e,U,us⟩],∃v,E x.i=some v)→ar P ops Q tl (fS E [⟨i,d,T,cs⟩,⟨j,e,U,us⟩] (Fr l ds)) w':=fun E w' hE hL hv=>by
 obtain⟨v,h1⟩:=hv ⟨i,d,T,cs⟩ (by simp);obtain⟨u,h2⟩:=hv ⟨j,e,U,us⟩ (by simp);obtain⟨g,rfl,hg,hB⟩:=hL.1 ⟨i,d,T,cs⟩ (by simp) v h1;obtain⟨k,rfl,hk,hK⟩:=hL.1 ⟨j,e,U,us⟩ (by simp) u h2;have e':fS E [⟨i,d,T,cs⟩,⟨j,e,U,us⟩] (Fr l ds)=Fr ((l.set d (.pointer (some ⟨g,0,none⟩))).set e (.pointer (some ⟨k,0,none⟩))) ds:=by
  simp only[fS,h1,h2];rw[iN,iN]
 rw[e'];exact h w' g k hE hg hk hB hK (Ne.symm (hL.2 ⟨i,d,T,cs⟩ (by simp) ⟨j,e,U,us⟩ (by simp) hij g k h1 h2))
end
end Go.Lith
namespace Go.Lith
section
variable {P:bp} {ops:Array Oper} {w0:aj} {ds:List dx} {l:List ai} {Q:Exit→Act→aj→Prop} {tl:List Oper}
end
end Go.Lith
namespace Go.Lith
open Go.RowKit
variable{n cap c:Nat}{w:aj}{A:Option Addr}{a:Addr}{E t:az}{α:Type}
section
variable {P:bp} {ds:List dx} {l:List ai} {T ty:az} {ops:Array Oper} {Q:Exit→Act→aj→Prop} {rest:List Oper} {d:Nat} {pos:String} {after:Array Edge} {w:aj}
theorem lY{E:az}{c n:Nat}{z:ai}{parts:Array (Nat × bx)}{vs:Array (Nat × ai)}{base:Array ai}{cs:List ai}(hu:P.underlying T=some (.slice E))(hi:(P.info? E).map (fun i=>(i.size,i.zero))=some (c,some z))(h0:n*c≠0)(h24:n*c≤16777216)
 (hb:((oz (n*c)).map fun i=>z.cells[i%z.cells.size]!)=base) (hp:(parts.map fun (i,x)=>(i,ev l x))=vs) (hf:Instr.fill (fun i=>some (i*c,c)) base vs.toList=some cs.toArray)
 (h:∀w' g,fQ w w'→w.heap.size≤g→fR w' g cs E→ar P ops Q rest (Fr (l.set d (.slice (some ⟨g,0,none⟩) n n)) ds) w') :
 ar P ops Q (bm (some d) (.buildSlice T n parts) ty pos after none::rest) (Fr l ds) w:=by
 subst hb;subst hp;cases hq:P.info? E with
 | none=>rw[hq] at hi;cases hi
 | some i =>
  rw[hq] at hi;simp only[fl,gn,gh] at hi;obtain⟨e1,e2⟩:=hi;have e:(Fr l).eval=ev l:=funext cK;have h24':¬16777216<n*c:=by omega
  refine mJ (w':=w.alloc (.cells cs.toArray E)) (v:=.slice (some ⟨w.heap.size,0,none⟩) n n) (fun o ho _=>?_) (h _ _ ((fQ.refl w).alloc _) (av _) (jQ w cs E));simp only[de,ho,e];simp[Instr.buildSlice,cd hu,sizeOf,typeInfo,zeroValue,hq,e1,e2,h24',newRow,newObj,Sem.run] at hf ⊢;rw[if_neg h0];simp[hf];rfl
end
def nv(v:P3):Go.Value:=.agg #[.int .i64 v.x,.int .i64 v.y,.int .i64 v.z]
def sg(v:P3):Go.Value:=.agg #[.int .i64 (bB v.x),.int .i64 (bB v.y),.int .i64 (bB v.z)]
class S3(p:P3):Prop where
 x:p.x.natAbs<262144
 y:p.y.natAbs<262144
 z:p.z.natAbs<262144
class N3(p:P3):Prop where
 x:p.x.natAbs<524288
 y:p.y.natAbs<524288
 z:p.z.natAbs<524288
instance {p q:P3}[a:S3 p][b:S3 q]:N3 (p.sub q):=⟨by have:=a.x;have:=b.x;simp only[P3.sub];omega,by have:=a.y;have:=b.y;simp only[P3.sub];omega,by have:=a.z;have:=b.z;simp only[P3.sub];omega⟩
theorem An{a b:Int}(ha:a.natAbs<524288)(hb:b.natAbs<524288) : -274877906944<a*b∧a*b<274877906944:=by
 have h:(a*b).natAbs≤524287*524287:=by rw[Int.natAbs_mul];exact Nat.mul_le_mul (by omega) (by omega)
 omega
theorem anV{x y:Int}(h : -274877906944<x∧x<274877906944)(k : -274877906944<y∧y<274877906944):IntKind.i64.wrap (x-y)=x-y:=bP (by omega) (by omega)
theorem Un{x:Int}(h : -274877906944<x∧x<274877906944):IntKind.i64.wrap x=x:=bP (by omega) (by omega)
theorem Ag{v:Int}(h:rT v):IntKind.u64.wrap (if v<IntKind.i64.wrap (0-v) then IntKind.i64.wrap (0-v) else v)=(v.natAbs:Int):=by
 obtain⟨h1,h2⟩:=h;rcases Int.lt_or_le (-9223372036854775808) v with h3 | h3
 · rw[bP (x:=0-v) (by omega) (by omega),mF]
   split <;> omega
 · obtain rfl:v = -9223372036854775808:=by omega
   decide
def ak3:ByteArray:=⟨#[0,1,2,2,3,3,3,3,4,4,4,4,4,4,4,4,5,5,5,5,5,5,5,5,5,5,5,5,5,5,5,5,6,6,6,6,6,6,6,6,6,6,6,6,6,6,6,6,6,6,6,6,6,6,6,6,6,6,6,6,6,6,6,6,7,7,7,7,7,7,7,7,7,7,7,7,7,7,7,7,7,7,7,7,7,7,7,7,7,7,7,7,7,7,7,7,7,7,7,7,7,7,7,7,7,7,7,7,7,7,7,7,7,7,7,7,7,7,7,7,7,7,7,7,7,7,7,7,8,8,8,8,8,8,8,8,8,8,8,8,8,8,8,8,8,8,8,8,8,8,8,8,8,8,8,8,8,8,8,8,8,8,8,8,8,8,8,8,8,8,8,8,8,8,8,8,8,8,8,8,8,8,8,8,8,8,8,8,8,8,8,8,8,8,8,8,8,8,8,8,8,8,8,8,8,8,8,8,8,8,8,8,8,8,8,8,8,8,8,8,8,8,8,8,8,8,8,8,8,8,8,8,8,8,8,8,8,8,8,8,8,8,8,8,8,8,8,8,8,8,8,8,8,8,8,8]⟩
theorem ae8:∀i,i<256→∃b:UInt8,ak3[i]? = some b∧b.toNat≤8∧(b.toNat≤2→i<4):=by
 have h:(ji 256).all (fun i=>match ak3[i]? with
  | some b=>decide (b.toNat≤8)&&(decide (2<b.toNat)||decide (i<4))
  | none=>false)=true:=by decide +kernel
 intro i hi;have:=ep.1 h i (jj.2 hi);cases hb:ak3[i]? with
 | none=>rw[hb] at this;cases this
 | some b =>
  rw[hb] at this;simp only[bg,Bool.or_eq_true,decide_eq_true_eq] at this;exact⟨b,O,this.1,fun h=>by omega⟩
section
variable {P:bp} {ds:List dx} {l:List ai} {x y:bx} {T ty:az} {ops:Array Oper} {Q:Exit→Act→aj→Prop} {rest:List Oper} {d:Nat} {pos:String} {after:Array Edge} {w:aj} {k:IntKind}
theorem Bi{Y:Nat}(hu:P.underlying T=some .string)(hx:ev l x=.string ak3)(hy:ev l y=.int k (Y:Int))(hY:Y<256)(h:∀b:Nat,b≤8→(b≤2→Y<4)→ar P ops Q rest (Fr (l.set d (.int .u8 (b:Int))) ds) w) :
 ar P ops Q (bm (some d) (.index T x y) ty pos after none::rest) (Fr l ds) w:=by
 obtain⟨b,hb,h1,h2⟩:=ae8 Y hY;exact aC (oJ hu hx hy (by omega) (by rw[ah];exact hb)) (h b.toNat h1 h2)
end
theorem ag8{m:Nat}:(m:Int).fdiv (2^(min (16:Int).toNat IntKind.u64.bits))=((m / 65536:Nat):Int):=by
 show (m:Int).fdiv (2^16)=_
 rw[gu _ (by decide)];omega
theorem adY{m:Nat}:(m:Int).fdiv (2^(min (8:Int).toNat IntKind.u64.bits))=((m / 256:Nat):Int):=by
 show (m:Int).fdiv (2^8)=_
 rw[gu _ (by decide)];omega
def T3.flat(t:T3):Prop:=t.normal.x=0∧t.normal.y=0∧t.normal.z=0
variable{ts:List T3}
instance (t:T3):Decidable t.flat:=inferInstanceAs (Decidable (_∧_∧_))
theorem cI{n:Int}:bB n=0↔n=0:=by
 unfold bB;constructor
 · intro h
   split at h
   · cases h
   · split at h
     · cases h
     · omega
 · rintro rfl;rfl
theorem Hi{n:Int}:0≤bB n↔0≤n:=by
 unfold bB;split
 · constructor <;> intro h <;> omega
 · split <;> constructor <;> intro h <;> omega
theorem ag9{n:Int}:0<bB n↔0<n:=by
 unfold bB;split
 · constructor <;> intro h <;> omega
 · split <;> constructor <;> intro h <;> omega
theorem Pi{n:Int}:bB n≤0↔n≤0:=by
 have:=@ag9 n;omega
structure bU(w:aj)(A:Option Addr)(n:Nat)(ts:List T3):Prop where
 len:ts.length=n
 it:∀t∈ts,IT t
 row:∀i t,ts[i]? = some t→∃a,A=some a∧mD w (a.add (i*9)) [.int .i64 t.a.x,.int .i64 t.a.y,.int .i64 t.a.z,.int .i64 t.b.x,.int .i64 t.b.y,.int .i64 t.b.z,.int .i64 t.c.x,.int .i64 t.c.y,.int .i64 t.c.z]
theorem bU.ext{w':aj}(h:bU w A n ts)(hE:fQ w w'):bU w' A n ts :=
 ⟨h.len,h.it,fun i t hi=>let ⟨a,e,hr⟩:=h.row i t hi;⟨a,e,hr.ext hE⟩⟩
theorem bU.nil(w:aj)(A:Option Addr):bU w A 0 []:=⟨rfl,fun t h=>(by cases h),fun i t h=>(by cases h)⟩
theorem bU.get(h:bU w A n ts){i:Nat}(hi:i<n):∃t,ts[i]? = some t∧IT t∧∃a,A=some a∧mD w (a.add (i*9)) [.int .i64 t.a.x,.int .i64 t.a.y,.int .i64 t.a.z,.int .i64 t.b.x,.int .i64 t.b.y,.int .i64 t.b.z,.int .i64 t.c.x,.int .i64 t.c.y,.int .i64 t.c.z]:=by
 have hl:i<ts.length:=by rw[h.len];exact hi
 refine⟨ts[i],am hl,h.it _ (fq hl),h.row i _ (am hl)⟩
def aN(t:T3):List Go.Value:=[.int .i64 t.a.x,.int .i64 t.a.y,.int .i64 t.a.z,.int .i64 t.b.x,.int .i64 t.b.y,.int .i64 t.b.z,.int .i64 t.c.x,.int .i64 t.c.y,.int .i64 t.c.z]
theorem mD.pre{xs ys:List Go.Value}(h:mD w a (xs++ys)):mD w a xs:=fun j u hj=>h j u (by
 have hl:j<xs.length:=(ap.1 hj).1;rw[cn hl];exact hj)
theorem dM(t:T3):(aN t).length=9:=rfl
theorem Dg:∀(ts:List T3) (i:Nat) (t:T3),ts[i]? = some t→(ts.flatMap aN).drop (i*9)=aN t++(ts.drop (i+1)).flatMap aN
 | [],i,t,h=>by cases h
 | u::ts,0,t,h=>by
  cases h;rfl
 | u::ts,i+1,t,h=>by
  rw[dt,show (i+1)*9=(aN u).length+i*9 by rw[dM];omega,List.drop_append,gp (by omega),b_];rw[show (aN u).length+i*9-(aN u).length=i*9 by omega];exact Dg ts i t h
abbrev Me(A:Option Addr):Option Nat:=A.map (·.block)
structure Ow(w0 w:aj)(S:List (Option Nat))(E:az)(c:Nat)(A:Option Addr)(n cap:Nat)(xs:List ai):Prop where
 own:w.ownsRow w0.heap.size E c (.slice A n cap) n xs
 sep:∀b,Me A=some b→some b∉S
 bd:∀b,some b∈S→b<w.heap.size
structure Wr(w w':aj)(A:Option Addr):Prop where
 os:w'.os=w.os
 tape:w'.tape=w.tape
 output:w'.output=w.output
 size:w.heap.size≤w'.heap.size
 block:∀k,k<w.heap.size→Me A≠some k→w'.heap[k]? = w.heap[k]?
theorem nY{w:aj}{base c n cap:Nat}{E:az}{A:Option Addr}{xs:List ai}(h:w.ownsRow base E c (.slice A n cap) n xs) :
 (A=none∧n=0∧cap=0∧xs=[])∨∃g cur,A=some ⟨g,0,none⟩∧base≤g∧w.heap[g]? = some (.cells cur E (0,0))∧n≤cap∧cap≤maxLen∧cur.size=cap*c∧cur.toList.take (n*c)=xs:=by
 rcases h.2 with ⟨h1,h2⟩ | ⟨g,cap',cur,h1,h2,h3,h4,h5,h6,h7⟩
 · cases h1
   exact .inl ⟨O,h2,O,fa (by rw[h.1,h2,Nat.zero_mul])⟩
 · cases h1
   exact .inr ⟨g,cur,O,h2,h3,h4,h5,h6,h7⟩
section
variable {w0 w w':aj} {S:List (Option Nat)} {E:az} {c n cap:Nat} {A:Option Addr} {xs:List ai}
theorem Ow.cases(h:Ow w0 w S E c A n cap xs):(A=none∧n=0∧cap=0∧xs=[])∨∃g cur,A=some ⟨g,0,none⟩∧w0.heap.size≤g∧w.heap[g]? = some (.cells cur E (0,0))∧n≤cap∧cap≤maxLen∧cur.size=cap*c∧cur.toList.take (n*c)=xs:=nY h.own
theorem Ow.ge(h:Ow w0 w S E c A n cap xs):∀b,Me A=some b→w0.heap.size≤b:=fun b hb=>by
 rcases h.cases with ⟨rfl,_⟩ | ⟨g,cur,rfl,hg,_⟩
 · cases hb
 · cases hb
   exact hg
theorem Ow.le(h:Ow w0 w S E c A n cap xs):n≤cap:=by
 rcases h.cases with ⟨_,rfl,rfl,_⟩ | ⟨g,cur,_,_,_,h1,_⟩
 · exact av _
 · exact h1
theorem Ow.some(h:Ow w0 w S E c A n cap xs)(hn:0<n):∃g,A=some ⟨g,0,none⟩:=by
 rcases h.cases with ⟨_,rfl,_⟩ | ⟨g,cur,rfl,_⟩
 · omega
 · exact⟨g,O⟩
theorem Ow.row(h:Ow w0 w S E c A n cap xs):∀j u,xs[j]? = ln u→∃a,A=ln a∧w.cell? (a.add j)=ln u:=fun j u hj=>by
 rcases h.cases with ⟨_,_,_,rfl⟩ | ⟨g,cur,rfl,_,hg,_,_,_,h4⟩
 · cases hj
 · refine⟨_,O,?_⟩
   rw[eL,aq,cell_of_row w g j cur E (0,0) hg];rw[←h4,dm] at hj;split at hj
   · simpa using hj
   · cases hj
theorem Ow.rows{g:Nat}(h:Ow w0 w S E c (ln ⟨g,0,none⟩) n cap xs):mD w ⟨g,0,none⟩ xs:=fun j u hj=>by
 obtain⟨a,e,h1⟩:=h.row j u hj;cases e;exact h1
theorem Ow.nil(w0 w:aj)(E:az)(c:Nat):Ow w0 w [] E c none 0 0 []:=⟨World.ownsRow_nil w _ E c,fun _ h=>(by cases h),fun _ h=>(by cases h)⟩
theorem Ow.mk' {g:Nat}{cs:List ai}(hB:fR w g cs E)(hg:w0.heap.size≤g)(hl:cs.length=n*c)(hm:n≤maxLen):Ow w0 w [] E c (ln ⟨g,0,none⟩) n n cs :=
 ⟨⟨hl,.inr ⟨g,n,_,rfl,hg,hB,av _,hm,by simpa using hl,by simp[←hl]⟩⟩,fun _ _ h=>(by cases h),fun _ h=>(by cases h)⟩
theorem Ow.as{ys:List ai}(h:Ow w0 w S E c A n cap xs)(e:xs=ys):Ow w0 w S E c A n cap ys:=e▸h
end
section
variable {P:bp} {ds:List dx} {l:List ai} {x y:bx} {T ty:az}
variable {ops:Array Oper} {Q:Exit→Act→aj→Prop} {rest:List Oper} {d:Nat} {pos:String} {after:Array Edge} {w w0:aj} {S:List (Option Nat)} {E:az} {c n cap m mcap:Nat} {A B:Option Addr} {xs news:List ai}
theorem Wr.refl(w:aj)(A:Option Addr):Wr w w A:=⟨rfl,rfl,rfl,av _,fun _ _ _=>rfl⟩
theorem Ti{t:az}{i:TypeInfo}{z:ai}{bytes:Nat}(ht:P.underlying t=some (.slice E))(hi:P.info? E=some i)(hz:i.zero=some z)(hsize:i.size=c)(hby:i.bytes=bytes)(hzs:z.cells.size=c)(hsz:0<c)
 (hown:Ow w0 w S E c A n cap xs) (hl:news.length=m*c) (hnews:∀j u,news[j]? = some u→∃a,B=some a∧w.cell? (a.add j)=some u) (h1:∀u∈news,u.oneCell'=true)
 (h63:n+m≤maxLen) (hbytes:(n+m)*bytes≤140737488355328) (hbase:w0.heap.size≤w.heap.size) :
 ∃A' cap' w',(Builtin.append_ #[t,t] ty #[.slice A n cap,.slice B m mcap]).run P w=.ok (.slice A' (n+m) cap') w'∧Ow w0 w' S E c A' (n+m) cap' (xs++news)∧Wr w w' A∧(A'=A∨Me A'=some w.heap.size):=by
 subst hsize;subst hby;have hsmall:n+m≤9223372036854775807:=by simp only[maxLen] at h63;omega
 have hlen:(xs++news).length=(n+m)*i.size:=by rw[au,hown.own.1,hl,jw]
 have grown:∀(old:Nat),old<n+m →
  Ow w0 (w.drew.alloc (.cells (xs.toArray++news.toArray++Builtin.zeroCells z.cells (grownCap w (n+m) old E-(n+m))) E)) S E i.size
   (some ⟨w.heap.size,0,none⟩) (n+m) (grownCap w (n+m) old E) (xs++news) ∧
  Wr w (w.drew.alloc (.cells (xs.toArray++news.toArray++Builtin.zeroCells z.cells (grownCap w (n+m) old E-(n+m))) E)) A:=by
  intro old ho;have hge:=grownCap_ge w (n+m) old E;have hcm:grownCap w (n+m) old E≤maxLen:=grownCap_le_maxLen w (n+m) old E h63;refine⟨⟨⟨hlen,.inr ⟨w.heap.size,_,_,O,hbase,heap_alloc_new w.drew _,hge,hcm,?_,?_⟩⟩,fun b hb hm=>?_,fun b hb=>?_⟩,⟨O,O,O,by simp,fun k hk _=>heap_alloc_old w.drew _ (h:=hk)⟩⟩
  · simp only[Array.size_append,gi,size_zeroCells,hzs,hown.own.1,hl,←jw]
    congr 1
    omega
  · simp only[Array.toList_append,dl]
    rw[←dl,←hlen];exact List.take_left
  · have hb':w.heap.size=b:=by simpa using hb
    subst hb';exact absurd (hown.bd _ hm) (Nat.lt_irrefl _)
  · have:=hown.bd _ hb
    have h2:(w.drew.alloc (.cells (xs.toArray++news.toArray++Builtin.zeroCells z.cells (grownCap w (n+m) old E-(n+m))) E)).heap.size=w.heap.size+1:=by simp
    rw[h2];omega
 have hB0:B=none→m=0∧news=[]:=fun hB=>by
  have hn:news=[]:=by
   cases news with
   | nil=>rfl
   | cons u us=>obtain⟨a,e,_⟩:=hnews 0 u rfl;rw[hB] at e;cases e
  subst hn;refine⟨?_,O⟩;rcases iu m with h0 | h0
  · exact h0
  · have:=Nat.mul_pos h0 hsz;simp at hl;omega
 rcases hown.cases with ⟨rfl,rfl,rfl,rfl⟩ | ⟨g,cur,rfl,hbg,hg,hnc,hcm,hcs,htake⟩
 · by_cases hm:m=0
   · subst hm
     have hn:news=[]:=fa (by simpa using hl);subst hn;refine⟨none,0,w,?_,by simpa using hown,Wr.refl _ _,.inl O⟩;cases B <;> simp[Builtin.append_,cd ht,sizeOf,typeInfo,hi,Builtin.lenOf,Builtin.firstCells,loadCells,loadCellsFrom]
   · cases B with
     | none=>exact absurd (hB0 rfl).1 hm
     | some a =>
      have hr:=run_append_nil (P:=P) w t ty E i z ht hi hz a m mcap news hl (fun j u hj=>by obtain⟨a',e,h⟩:=hnews j u hj;cases e;exact h) (by omega) (by omega) (by have hb:=hbytes;simp only[aq] at hb;omega);have hgr:=grown 0 (by omega);simp only[aq,b_,Array.empty_append] at hgr ⊢;exact⟨_,_,_,hr,hgr.1,hgr.2,.inr O⟩
 · cases B with
   | none =>
    obtain⟨rfl,rfl⟩:=hB0 rfl;refine⟨some ⟨g,0,none⟩,cap,w,?_,by simpa using hown,Wr.refl _ _,.inl O⟩;simp[Builtin.append_,cd ht,sizeOf,typeInfo,hi,Builtin.lenOf,Builtin.firstCells,hnc,storeCells]
   | some a =>
    have hnews':∀j u,news[j]? = some u→w.cell? (a.add j)=some u:=fun j u hj=>by obtain⟨a',e,h⟩:=hnews j u hj;cases e;exact h
    by_cases hroom:n+m≤cap
    · have hfit:n*i.size+news.length≤cur.size:=by rw[hl,hcs,←jw];exact mg _ hroom
      have hr:=run_append_room (P:=P) w t ty E i ht hi g n cap cur hg a m mcap news hl hnews' h1 hroom hfit;refine⟨_,_,_,hr,⟨⟨hlen,.inr ⟨g,cap,_,O,hbg,setRow_heap w g cur _ E _ hg,hroom,hcm,?_,?_⟩⟩,hown.sep,fun b hb=>by simpa using hown.bd b hb⟩,⟨O,O,O,by simp,fun k _ hk=>setRow_other w g k _ (fun e=>hk (by rw[e];rfl))⟩,.inl rfl⟩
      · simp only[gi,au,bv,ft,Array.length_toList]
        omega
      · rw[htake,←hlen]
        exact List.take_left
    · have hr:=run_append_grow (P:=P) w t ty E i z ht hi hz ⟨g,0,none⟩ n cap xs hown.own.1 hown.rows a m mcap news hl hnews' (by omega) (by omega) (growslice_fits (by omega) hbytes)
      have hgr:=grown cap (by omega);exact⟨_,_,_,hr,hgr.1,hgr.2,.inr O⟩
theorem Uo{b:Nat}{z:ai}{a0:Array az}(ha:a0 = #[T,T])(hu:P.underlying T=some (.slice E))(hi:(P.info? E).map (fun i=>(i.size,i.bytes,i.zero))=some (c,b,some z))(hz:z.cells.size=c)(hc:0<c)(hX:fQ w0 w)
 (hs:ev l x=.slice A n cap) (hown:Ow w0 w S E c A n cap xs) (hx:ev l y=.slice B m mcap) (hl:news.length=m*c) (hrow:∀j u,news[j]? = some u→∃a,B=some a∧w.cell? (a.add j)=some u) (h1:∀u∈news,u.oneCell'=true) (h63:n+m≤9223372036854775807) (hbytes:(n+m)*b≤140737488355328)
 (h:∀A' cap' w',Ow w0 w' S E c A' (n+m) cap' (xs++news)→Wr w w' A→(A'=A∨Me A'=some w.heap.size)→ar P ops Q rest (Fr (l.set d (.slice A' (n+m) cap')) ds) w') :
 ar P ops Q (bm (some d) (.call { callee:=.builtin .append,args:=#[x,y],argTypes:=a0 }) ty pos after none::rest) (Fr l ds) w:=by
 subst ha;cases hq:P.info? E with
 | none=>rw[hq] at hi;cases hi
 | some i =>
  rw[hq] at hi;simp only[fl,gn,gh] at hi;obtain⟨e1,e2,e3⟩:=hi;obtain⟨A',cap',w',hr,h2,h3,h4⟩:=Ti (P:=P) (w:=w) (ty:=ty) (mcap:=mcap) hu hq e3 e1 e2 hz hc hown hl hrow h1 (by simpa[maxLen] using h63) hbytes hX.size;exact mJ (fun o ho hty=>by simp[de,ho,hty,resolve,invoke,builtin,cK,hs,hx,hr]) (h A' cap' w' h2 h3 h4)
theorem Tj{cur:Array ai}{xs us:List ai}{off k:Nat}(hx:cur.toList.take k=xs)(hl:xs.length=k)(hf:off+us.length≤k):(over cur.toList off us).take k=over xs off us:=by
 subst hx;have hk:k≤cur.toList.length:=by rw[bv] at hl;omega
 unfold over;apply fw;intro j;rw[dm];have e1:(cur.toList.take off).length=off:=by rw[bv];omega
 have e2:((cur.toList.take k).take off).length=off:=by rw[bv,bv];omega
 simp only[dl];by_cases h0:j<k
 · rw[if_pos h0]
   rcases dq j off with h1 | h1
   · rw[cn (by omega),cn (by omega),List.take_take,ii (by omega)]
   · rw[dw (l₁:=cur.toList.take off) (by omega),dw (l₁:=(cur.toList.take k).take off) (by omega),e1,e2]
     rcases dq (j-off) us.length with h2 | h2
     · rw[cn h2,cn h2]
     · rw[dw h2,dw h2,di,di,dm,if_pos (by omega)]
 · rw[if_neg h0]
   symm
   apply bz;simp only[au,e2,ft,bv];omega
theorem aha{g off:Nat}{us:List ai}(hx:ev l x=.pointer (some ⟨g,off,none⟩))(hv:(ev l y).cells=us.toArray)(hc:dQ P T us.length)(hO:Ow w0 w S E c (some ⟨g,0,none⟩) n cap xs)(hfit:off+us.length≤n*c)(h1:∀u∈us,u.oneCell'=true)
 (h:∀w',Wr w w' (some ⟨g,0,none⟩)→Ow w0 w' S E c (some ⟨g,0,none⟩) n cap (over xs off us)→ar P ops Q rest (Fr l ds) w'):ar P ops Q (bm none (.store T x y) ty pos after none::rest) (Fr l ds) w:=by
 rcases hO.cases with ⟨e,_⟩ | ⟨g',cur,e,hbg,hg,hnc,hcm,hcs,htake⟩
 · cases e
 · cases e
   have hfc:off+us.length≤cur.toList.length:=by
    have:=mg c hnc;simp;omega
   have hB:fR w g cur.toList E:=by unfold fR;simpa using hg
   refine xR (cs:=cur.toList) (t:=E) hx hv hc hB hfc h1 fun w' hC hB'=>h w' ⟨hC.os,hC.tape,hC.output,by rw[hC.size];exact av _,fun k _ hk=>hC.block k (fun e=>hk (by rw[e];rfl))⟩ ?_;refine⟨⟨?_,.inr ⟨g,cap,_,O,hbg,hB',hnc,hcm,?_,?_⟩⟩,hO.sep,fun b hb=>by rw[hC.size];exact hO.bd b hb⟩
   · rw[Aw (by rw[hO.own.1];exact hfit)];exact hO.own.1
   · simp only[gi];rw[Aw hfc];simpa using hcs
   · show ((over cur.toList off us).toArray.toList).take (n*c)=_
     simp only[dj];exact Tj htake hO.own.1 hfit
end
theorem Dh(ts:List T3):(ts.flatMap aN).length=ts.length*9:=by
 induction ts with
 | nil=>rfl
 | cons t ts ih=>rw[dt,au,ih,dM,aw];omega
theorem Ow.tris{w0:aj}{S:List (Option Nat)}(h:Ow w0 w S E 9 A n cap (ts.flatMap aN))(hi:∀t∈ts,IT t):bU w A n ts:=by
 refine⟨?_,hi,fun i t ht=>?_⟩
 · have:=h.own.1;rw[Dh] at this;omega
 · have hr:∀j u,(aN t)[j]? = ln u→(ts.flatMap aN)[i*9+j]? = ln u:=fun j u hj=>by
    have hj':j<(aN t).length:=(ap.1 hj).1;rw[←di,Dg ts i t ht,cn hj'];exact hj
   obtain⟨a,e,_⟩:=h.row _ _ (hr 0 _ rfl);refine⟨a,e,fun j u hj=>?_⟩;obtain⟨a',e',hc⟩:=h.row _ _ (hr j u hj);rw[e] at e';cases e';rw[jW];exact hc
theorem bU.cells(h:bU w A n ts):∀j u,(ts.flatMap aN)[j]? = some u→∃a,A=some a∧w.cell? (a.add j)=some u:=fun j u hj=>by
 have hl:j<ts.length*9:=by
  have:=(ap.1 hj).1;rwa [Dh] at this
 have hq:j / 9<ts.length:=by omega
 have ht:=am hq;obtain⟨a,e,hr⟩:=h.row _ _ ht;refine⟨a,e,?_⟩;have hd:=Dg ts (j / 9) _ ht;have hj':(aN ts[j / 9])[j%9]? = some u:=by
  have:((ts.flatMap aN).drop (j / 9*9))[j%9]? = some u:=by rw[di,show j / 9*9+j%9=j by omega];exact hj
  rw[hd,cn (by rw[dM];omega)] at this;exact this
 have:=hr _ _ hj';rwa [jW,show j / 9*9+j%9=j by omega] at this
theorem ak4:∀(t:T3),∀u∈aN t,u.oneCell'=true:=fun t u hu=>by
 simp only[aN,an,List.not_mem_nil,or_false] at hu;rcases hu with rfl | rfl | rfl | rfl | rfl | rfl | rfl | rfl | rfl <;> rfl
theorem wS(ts:List T3):∀u∈ts.flatMap aN,u.oneCell'=true:=fun u hu=>by
 obtain⟨t,_,h⟩:=List.mem_flatMap.1 hu;exact ak4 t u h
theorem fR.rowsO{g:Nat}{cs:List ai}(h:fR w g cs t):∀j u,cs[j]? = some u→∃a,some (⟨g,0,none⟩:Addr)=some a∧w.cell? (a.add j)=some u:=fun j u hj=>⟨_,rfl,by have:=h.row 0;rw[mi] at this;exact this j u hj⟩
section
variable {w0 w w':aj} {S:List (Option Nat)} {E:az} {c n cap:Nat} {A:Option Addr} {xs:List ai}
end
/-! ### Names that are short -/
theorem zA{l:List ai}(t:Nat):ev l (.tmp t)=l.getD t undef:=rfl
theorem zB{l:List ai}(v:ai):ev l (.const v)=v:=rfl
theorem zC{l:List ai}(f:Nat):ev l (.func f)=.func (.func f) #[] #[]:=rfl
theorem zD{x:α}{xs:List α}{d:α}:(x::xs).getD (n+1) d=xs.getD n d:=rfl
theorem zE{x:α}{xs:List α}{d:α}:(x::xs).getD 0 d=x:=rfl
theorem zF{x:α}{xs:List α}{a:α}:(x::xs).set (n+1) a=x::xs.set n a:=rfl
theorem zG{x:α}{xs:List α}{a:α}:(x::xs).set 0 a=a::xs:=rfl
theorem zH{x:α}{xs:List α}  : (x::xs).take (n+1)=x::xs.take n:=rfl
theorem zI{xs:List α}:xs.take 0=[]:=jx
theorem zJ{x:α}{xs:List α}  : (x::xs).drop (n+1)=xs.drop n:=rfl
theorem zK{xs:List α}:xs.drop 0=xs:=rfl
theorem zL{x:α}{xs ys:List α}:(x::xs)++ys=x::(xs++ys):=rfl
theorem zM{ys:List α}:[]++ys=ys:=rfl
theorem zN{ys:List α}:ys++[]=ys:=fe ys
theorem zO{x:α}{xs:List α}:(x::xs).length=xs.length+1:=rfl
theorem zP  : ([]:List α).length=0:=rfl
theorem zQ{β:Type}{f:α→β}{x:α}{xs:List α}:(x::xs).map f=f x::xs.map f:=rfl
theorem zR{β:Type}{f:α→β}:([]:List α).map f=[]:=rfl
theorem zS{l:List α}{i:Nat}:l.toArray[i]? = l[i]?:=km
theorem zT{x:α}{xs:List α}  : (x::xs)[n+1]? = xs[n]?:=rfl
theorem zU{x:α}{xs:List α}:(x::xs)[0]? = some x:=rfl
theorem zV{x d:α}:(some x).getD d=x:=rfl
theorem zz:(∀(l:List Go.Value) (t:Nat), ev l (.tmp t)=l.getD t undef)∧(∀(l:List Go.Value) (v:Go.Value), ev l (.const v)=v)∧(∀(l:List Go.Value) (f:Nat), ev l (.func f)=.func (.func f) #[] #[])∧(∀{α:Type} (x:α) (xs:List α) (n:Nat) (d:α), (x::xs).getD (n+1) d=xs.getD n d)∧(∀{α:Type} (x:α) (xs:List α) (d:α), (x::xs).getD 0 d=x)∧(∀{α:Type} (x:α) (xs:List α) (n:Nat) (a:α), (x::xs).set (n+1) a=x::xs.set n a)∧(∀{α:Type} (x:α) (xs:List α) (a:α), (x::xs).set 0 a=a::xs) := ⟨fun _ _ => rfl, fun _ _ => rfl, fun _ _ => rfl, fun _ _ _ _ => rfl, fun _ _ _ => rfl, fun _ _ _ _ => rfl, fun _ _ _ => rfl⟩
theorem zy:(∀{α:Type} (x:α) (xs:List α) (n:Nat), (x::xs).take (n+1)=x::xs.take n)∧(∀{α:Type} (xs:List α), xs.take 0=[])∧(∀{α:Type} (x:α) (xs:List α) (n:Nat), (x::xs).drop (n+1)=xs.drop n)∧(∀{α:Type} (xs:List α), xs.drop 0=xs) := ⟨fun _ _ _ => rfl, fun _ => jx, fun _ _ _ => rfl, fun _ => rfl⟩
theorem zx:(∀{α:Type} (x:α) (xs ys:List α), (x::xs)++ys=x::(xs++ys))∧(∀{α:Type} (ys:List α), []++ys=ys)∧(∀{α:Type} (ys:List α), ys++[]=ys)∧(∀{α:Type} (x:α) (xs:List α), (x::xs).length=xs.length+1)∧(∀{α:Type}, ([]:List α).length=0) := ⟨fun _ _ _ => rfl, fun _ => rfl, fun _ => fe _, fun _ _ => rfl, rfl⟩
theorem zw:(∀{α:Type} (l:List α) (i:Nat), l.toArray[i]? = l[i]?)∧(∀{α:Type} (x:α) (xs:List α) (n:Nat), (x::xs)[n+1]? = xs[n]?)∧(∀{α:Type} (x:α) (xs:List α), (x::xs)[0]? = some x)∧(∀{α:Type} (x d:α), (some x).getD d=x) := ⟨fun _ _ => km, fun _ _ _ => rfl, fun _ _ => rfl, fun _ _ => rfl⟩
theorem zu:(∀(l:List Go.Value) (t:Nat) (ts:List Nat) (v:Go.Value) (vs:List Go.Value), fJ l (t::ts) (v::vs)=fJ (l.set t v) ts vs)∧(∀(l vs:List Go.Value), fJ l [] vs=l)∧(∀(l:List Go.Value) (t:Nat) (ts:List Nat) (g:Nat→Go.Value), pN l (t::ts) g=pN (l.set t (g t)) ts g)∧(∀(l:List Go.Value) (g:Nat→Go.Value), pN l [] g=l) := ⟨fun _ _ _ _ _ => rfl, fun _ _ => Ay, fun _ _ _ _ => rfl, fun _ _ => rfl⟩
theorem zv:(∀{α β:Type} (f:α→β) (x:α) (xs:List α), (x::xs).map f=f x::xs.map f)∧(∀{α β:Type} (f:α→β), ([]:List α).map f=[])∧(∀(l:List Go.Value) (t:Nat) (ts:List Nat) (v:Go.Value) (vs:List Go.Value), fJ l (t::ts) (v::vs)=fJ (l.set t v) ts vs)∧(∀(l vs:List Go.Value), fJ l [] vs=l)∧(∀(l:List Go.Value) (t:Nat) (ts:List Nat) (g:Nat→Go.Value), pN l (t::ts) g=pN (l.set t (g t)) ts g)∧(∀(l:List Go.Value) (g:Nat→Go.Value), pN l [] g=l) := ⟨fun _ _ _ => rfl, fun _ => rfl, fun _ _ _ _ _ => rfl, fun _ _ => Ay, fun _ _ _ _ => rfl, fun _ _ => rfl⟩
structure It where
 own:Nat→Prop
 P:aj→Prop
 lt:∀w b,P w→own b→b<w.heap.size
 st:∀w w',P w→w.heap.size≤w'.heap.size→(∀b,own b→w'.heap[b]? = w.heap[b]?)→P w'
 bk:Option (Nat × List ai × az):=none
 bkP:∀x,bk=some x→(∀b,own b↔b=x.1)∧∀w,P w→fR w x.1 x.2.1 x.2.2:=by intro _ h;cases h
def bI(g:Nat)(cs:List ai)(t:az):It where
 own b:=some g=some b
 P w:=fR w g cs t
 lt w b h e:=by cases e;exact h.lt
 st w w' h _ k:=(k g rfl).trans h
 bk:=some (g,cs,t)
 bkP x h:=by cases h;exact⟨fun b=>⟨fun e=>by cases e;rfl,fun e=>by rw[e]⟩,fun _ h=>h⟩
def oI(E:az)(c:Nat)(A:Option Addr)(n cap:Nat)(xs:List ai):It where
 own b:=Me A=some b
 P w:=w.ownsRow 0 E c (.slice A n cap) n xs
 lt w b h e:=by
  rcases nY h with ⟨rfl,_⟩ | ⟨g,cur,rfl,_,hg,_⟩
  · cases e
  · cases e;exact (dz.1 hg).1
 st w w' h _ k:=by
  refine⟨h.1,?_⟩;rcases nY h with ⟨rfl,rfl,rfl,_⟩ | ⟨g,cur,rfl,h1,h2,h3⟩
  · exact .inl ⟨O,O⟩
  · exact .inr ⟨g,cap,cur,O,h1,(k g O).trans h2,h3⟩
def Ap(i j:It):Prop:=∀b,i.own b→j.own b→False
theorem Ap.symm{i j:It}(h:Ap i j):Ap j i:=fun b h1 h2=>h b h2 h1
structure Mem(w0 w:aj)(is:List It):Prop where
 ext:fQ w0 w
 all:∀i∈is,i.P w
 ge:∀i∈is,∀b,i.own b→w0.heap.size≤b
 nd:is.Pairwise Ap
def pT:List Bool→List It→List It
 | true::bs,i::is=>i::pT bs is
 | false::bs,_::is=>pT bs is
 | _,_=>[]
theorem Bj:∀(bs:List Bool) (is:List It),(pT bs is).Sublist is
 | true::bs,i::is=>(Bj bs is).cons_cons i
 | false::bs,i::is=>(Bj bs is).cons i
 | [],is=>pb _
 | true::bs,[]=>pb _
 | false::bs,[]=>pb _
section
variable {w0 w w':aj} {is:List It}
theorem Mem.refl(w:aj):Mem w w []:=⟨fQ.refl w,fun _ h=>(by cases h),fun _ h=>(by cases h),.nil⟩
theorem Mem.ext' (m:Mem w0 w is)(e:fQ w w'):Mem w0 w' is :=
 ⟨m.ext.trans e,fun i hi=>i.st w w' (m.all i hi) e.size fun b hb=>Below.block e b (i.lt w b (m.all i hi) hb),m.ge,m.nd⟩
theorem Mem.sel(m:Mem w0 w is)(bs:List Bool):Mem w0 w (pT bs is) :=
 ⟨m.ext,fun i hi=>m.all i ((Bj bs is).subset hi),fun i hi=>m.ge i ((Bj bs is).subset hi),m.nd.sublist (Bj bs is)⟩
theorem Mem.tl{i:It}(m:Mem w0 w (i::is)):Mem w0 w is:=⟨m.ext,fun j hj=>m.all j (bt _ hj),fun j hj=>m.ge j (bt _ hj),(br.1 m.nd).2⟩
theorem Mem.get(m:Mem w0 w is)(k:Nat){i:It}(hk:is[k]? = some i):i.P w:=m.all i (be hk)
theorem Mem.b(m:Mem w0 w is)(k:Nat){g:Nat}{cs:List ai}(hk:is[k]? = some (bI g cs t)):fR w g cs t:=m.get k hk
theorem Mem.o(m:Mem w0 w is)(k:Nat){xs:List ai}(hk:is[k]? = some (oI E c A n cap xs)):Ow w0 w [] E c A n cap xs:=by
 have h:w.ownsRow 0 E c (.slice A n cap) n xs:=m.get k hk;refine⟨⟨h.1,?_⟩,fun _ _ h=>(by cases h),fun _ h=>(by cases h)⟩;rcases nY h with ⟨rfl,rfl,rfl,_⟩ | ⟨g,cur,rfl,_,h2,h3⟩
 · exact .inl ⟨O,O⟩
 · exact .inr ⟨g,cap,cur,O,m.ge _ (be hk) g O,h2,h3⟩
theorem Mem.bo(m:Mem w0 w is)(k:Nat){g:Nat}{cs:List ai}(hk:is[k]? = some (bI g cs t))(hl:cs.length=n*c)(hm:n≤maxLen):Ow w0 w [] t c (some ⟨g,0,none⟩) n n cs :=
 Ow.mk' (m.b k hk) (m.ge _ (be hk) g rfl) hl hm
theorem Mem.toO(m:Mem w0 w is)(k:Nat){g:Nat}{cs:List ai}(hk:is[k]? = some (bI g cs t))(hl:cs.length=n*c)(hm:n≤maxLen):∃i,i=oI t c (some ⟨g,0,none⟩) n n cs∧i.P w:=⟨_,rfl,(m.bo k hk hl hm).own.1,.inr ⟨g,n,_,rfl,bw _,m.b k hk,av _,hm,by simpa using hl,by simp[←hl]⟩⟩
theorem Mem.new{i:It}(m:Mem w0 w is)(e:fQ w w')(hi:i.P w')(hg:∀b,i.own b→w.heap.size≤b):Mem w0 w' (i::is):=by
 have m':=m.ext' e;refine⟨m'.ext,fun j hj=>?_,fun j hj=>?_,br.2 ⟨fun j hj b h1 h2=>?_,m'.nd⟩⟩
 · rcases an.1 hj with rfl | hj
   · exact hi
   · exact m'.all j hj
 · rcases an.1 hj with rfl | hj
   · exact fun b hb=>ba m.ext.size (hg b hb)
   · exact m'.ge j hj
 · have:=j.lt w b (m.all j hj) h2
   have:=hg b h1;omega
theorem Mem.newB{g:Nat}{cs:List ai}(m:Mem w0 w is)(e:fQ w w')(hg:w.heap.size≤g)(hB:fR w' g cs t):Mem w0 w' (bI g cs t::is):=m.new e hB (fun b h=>by cases h;exact hg)
theorem Mem.newO{S:List (Option Nat)}{xs:List ai}(m:Mem w0 w is)(e:fQ w w')(h:Ow w w' S E c A n cap xs):Mem w0 w' (oI E c A n cap xs::is):=by
 refine m.new e (i:=oI E c A n cap xs) ?_ h.ge;refine⟨h.own.1,?_⟩;rcases h.cases with ⟨rfl,rfl,rfl,_⟩ | ⟨g,cur,rfl,_,h2,h3⟩
 · exact .inl ⟨O,O⟩
 · exact .inr ⟨g,cap,cur,O,bw _,h2,h3⟩
theorem Mem.nilO(m:Mem w0 w is)(E:az)(c:Nat):Mem w0 w (oI E c none 0 0 []::is):=m.newO (fQ.refl w) (Ow.nil w w E c)
theorem aca{i i':It}:∀(is:List It) (k:Nat),is.Pairwise Ap→is[k]? = some i→(∀x∈is,Ap i x→Ap i' x)→(is.set k i').Pairwise Ap
 | [],_,_,h,_=>by cases h
 | j::is,0,hp,h,hc=>by
  cases h;rw[List.set_cons_zero];have:=br.1 hp;exact br.2 ⟨fun x hx=>hc x (bt _ hx) (this.1 x hx),this.2⟩
 | j::is,k+1,hp,h,hc=>by
  rw[fy];have hp':=br.1 hp;have h':is[k]? = some i:=h;refine br.2 ⟨fun x hx=>?_,aca is k hp'.2 h' fun x hx=>hc x (bt _ hx)⟩;rcases ix hx with hx | rfl
  · exact hp'.1 x hx
  · exact (hc j (bu ..) (hp'.1 i (be h')).symm).symm
theorem Mem.put{i i':It}(m:Mem w0 w is)(k:Nat)(hk:is[k]? = some i)(hos:w'.os=w.os)(ht:w'.tape=w.tape)(ho:w'.output=w.output)(hs:w.heap.size≤w'.heap.size)(hb:∀b,b<w.heap.size→¬i.own b→w'.heap[b]? = w.heap[b]?)
 (hi:i'.P w') (hid:(∀b,i'.own b→i.own b)∨∀b,i'.own b→w.heap.size≤b):Mem w0 w' (is.set k i'):=by
 have hmem:=be hk;refine⟨⟨hos.trans m.ext.os,ht.trans m.ext.tape,ho.trans m.ext.output,ba m.ext.size hs,fun b hlt=>(hb b (gg hlt m.ext.size) fun e=>?_).trans (Below.block m.ext b hlt)⟩,fun j hj=>?_,fun j hj b hjb=>?_,aca is k m.nd hk fun x hx ha b h1 h2=>?_⟩
 · have:=m.ge i hmem b e
   omega
 · obtain⟨q,hq,e⟩:=List.getElem_of_mem hj
   rw[List.getElem_set] at e;split at e
   · subst e;exact hi
   · rename_i hne
     rw[List.length_set] at hq;have hj':j∈is:=e▸fq hq;have hq':is[q]? = some j:=by rw[←e];exact am hq
     refine j.st w w' (m.all j hj') hs fun b hjb=>hb b (j.lt w b (m.all j hj') hjb) fun hib=>?_;have hklt:k<is.length:=(ap.1 hk).1;have hki:is[k]=i:=(ap.1 hk).2;rcases Nat.lt_or_gt_of_ne hne with h | h
     · have:=ic.1 m.nd k q hklt hq h
       rw[hki,e] at this;exact this b hib hjb
     · have:=ic.1 m.nd q k hq hklt h
       rw[hki,e] at this;exact this b hjb hib
 · rcases ix hj with hj | rfl
   · exact m.ge j hj b hjb
   · rcases hid with hid | hid
     · exact m.ge i hmem b (hid b hjb)
     · exact ba m.ext.size (hid b hjb)
 · rcases hid with hid | hid
   · exact ha b (hid b h1) h2
   · have:=hid b h1
     have:=x.lt w b (m.all x hx) h2;omega
theorem Mem.re(m:Mem w0 w is)(k:Nat){g:Nat}{cs cs':List ai}(hk:is[k]? = some (bI g cs t))(hB:fR w g cs' t):Mem w0 w (is.set k (bI g cs' t)) :=
 m.put k hk rfl rfl rfl (av _) (fun _ _ _=>rfl) hB (.inl fun _ h=>h)
theorem Mem.reO(m:Mem w0 w is)(k:Nat){n' cap':Nat}{xs xs':List ai}(hk:is[k]? = some (oI E c A n cap xs))(h:Ow w0 w [] E c A n' cap' xs'):Mem w0 w (is.set k (oI E c A n' cap' xs')):=by
 refine m.put k hk O O O (av _) (fun _ _ _=>rfl) ?_ (.inl fun _ h=>h);refine⟨h.own.1,?_⟩;rcases h.cases with ⟨rfl,rfl,rfl,_⟩ | ⟨g,cur,rfl,_,h2,h3⟩
 · exact .inl ⟨O,O⟩
 · exact .inr ⟨g,cap',cur,O,bw _,h2,h3⟩
theorem Mem.own(m:Mem w0 w is)(k:Nat){g:Nat}{cs:List ai}(hk:is[k]? = some (bI g cs t))(hl:cs.length=n*c)(hm:n≤maxLen):Mem w0 w (is.set k (oI t c (some ⟨g,0,none⟩) n n cs)):=by
 obtain⟨i,rfl,h⟩:=m.toO k hk hl hm;exact m.put k hk O O O (av _) (fun _ _ _=>rfl) h (.inl fun _ h=>h)
theorem iK{a b:Nat}(h:Nat.ble a b=true):a≤b:=Nat.le_of_ble_eq_true h
theorem fV{us:List ai}(h:(us.all (·.oneCell'))=true):∀u∈us,u.oneCell'=true:=fun u hu=>ep.1 h u hu
end
section
variable {P:bp} {ds:List dx} {l:List ai} {x y:bx} {T ty:az}
variable {ops:Array Oper} {Q:Exit→Act→aj→Prop} {rest:List Oper} {d:Nat} {pos:String} {after:Array Edge} {w w0:aj} {is:List It}
theorem aqf{cs:List ai}(m:Mem w0 w is)(hv:(ev l x).cells=cs.toArray)(h:∀g u,Mem w0 u (bI g cs T::is)→ar P ops Q rest (Fr (l.set d (.pointer (some ⟨g,0,none⟩))) ds) u) :
 ar P ops Q (bm (some d) (.box T x) ty pos after none::rest) (Fr l ds) w:=agO hv fun u g e hg hB=>h g u (m.newB e hg hB)
theorem mK{cs:List ai}{z:ai}(m:Mem w0 w is)(hZ:nU P T z)(hv:z.cells=cs.toArray)(h:∀g u,Mem w0 u (bI g cs T::is)→ar P ops Q rest (Fr (l.set d (.pointer (some ⟨g,0,none⟩))) ds) u) :
 ar P ops Q (bm (some d) (.alloc T) ty pos after none::rest) (Fr l ds) w:=Cz hZ hv fun u g e hg hB=>h g u (m.newB e hg hB)
theorem ahb{g off:Nat}{cs us:List ai}{t:az}(m:Mem w0 w is)(k:Nat)(hk:is[k]? = some (bI g cs t))(hx:ev l x=.pointer (some ⟨g,off,none⟩))(hv:(ev l y).cells=us.toArray)(hc:dQ P T us.length)(hfit:off+us.length≤cs.length)(h1:(us.all (·.oneCell'))=true)
 (h:∀u,Mem w0 u (is.set k (bI g (over cs off us) t))→ar P ops Q rest (Fr l ds) u):ar P ops Q (bm none (.store T x y) ty pos after none::rest) (Fr l ds) w :=
 xR hx hv hc (m.b k hk) hfit (fV h1) fun u hC hB=>h u (m.put k hk hC.os hC.tape hC.output (by rw[hC.size];exact av _) (fun b _ hne=>hC.block b fun e=>hne (by rw[e];rfl)) hB (.inl fun _ h=>h))
theorem ak5{g off:Nat}{us xs:List ai}{E:az}{c n cap:Nat}(m:Mem w0 w is)(k:Nat)(hk:is[k]? = some (oI E c (some ⟨g,0,none⟩) n cap xs))(hx:ev l x=.pointer (some ⟨g,off,none⟩))(hv:(ev l y).cells=us.toArray)(hc:dQ P T us.length)(hfit:off+us.length≤n*c)(h1:(us.all (·.oneCell'))=true)
 (h:∀u,Mem w0 u (is.set k (oI E c (some ⟨g,0,none⟩) n cap (over xs off us)))→ar P ops Q rest (Fr l ds) u):ar P ops Q (bm none (.store T x y) ty pos after none::rest) (Fr l ds) w :=
 aha hx hv hc (m.o k hk) hfit (fV h1) fun u hW hO=>h u (m.put k hk hW.os hW.tape hW.output hW.size (fun b hb hne=>hW.block b hb hne) (by
  refine⟨hO.own.1,?_⟩;rcases hO.cases with ⟨e,_⟩ | ⟨g,cur,e,_,h2,h3⟩
  · cases e
  · cases e;exact .inr ⟨_,cap,cur,O,bw _,h2,h3⟩) (.inl fun _ h=>h))
theorem lD{v:ai}{f:FuncId}{fo:bx}{xs:Array bx}{args:List ai}{first cap:Array ai}{a0:Array az}(m:Mem w0 w is)(hf:ev l fo=.func (.func f) first cap)(hxs:first.toList++xs.toList.map (ev l)++cap.toList=args)(hc:dS P f args v)
 (h:∀u,Mem w0 u is→ar P ops Q rest (Fr (l.set d v) ds) u):ar P ops Q (bm (some d) (.call { callee:=.value fo,args:=xs,argTypes:=a0 }) ty pos after none::rest) (Fr l ds) w :=
 Xc hf hxs hc fun u e=>h u (m.ext' e)
theorem cQ{f:FuncId}{fo:bx}{xs:Array bx}{args:List ai}{first cap:Array ai}{a0:Array az}{R:ai→aj→Prop}(m:Mem w0 w is)(hf:ev l fo=.func (.func f) first cap)(hxs:first.toList++xs.toList.map (ev l)++cap.toList=args)(hc:dA P f args w R)
 (h:∀v u,Mem w0 u is→R v u→ar P ops Q rest (Fr (l.set d v) ds) u):ar P ops Q (bm (some d) (.call { callee:=.value fo,args:=xs,argTypes:=a0 }) ty pos after none::rest) (Fr l ds) w :=
 bH hf hxs hc fun v u e hR=>h v u (m.ext' e) hR
def OR(E:az)(c:Nat)(R:List ai→Prop)(w:aj)(v:ai)(w':aj):Prop:=∃A n cap xs,v=.slice A n cap∧Ow w w' [] E c A n cap xs∧R xs
theorem bM{E:az}{c n cap b nm mcap:Nat}{A B:Option Addr}{z:ai}{xs news:List ai}{a0:Array az}(m:Mem w0 w is)(k:Nat)(hk:is[k]? = some (oI E c A n cap xs))(ha:a0 = #[T,T])(hu:P.underlying T=some (.slice E))(hi:(P.info? E).map (fun i=>(i.size,i.bytes,i.zero))=some (c,b,some z))(hz:z.cells.size=c)(hc:0<c)
 (hs:ev l x=.slice A n cap) (hx:ev l y=.slice B nm mcap) (hl:news.length=nm*c) (hrow:∀j u,news[j]? = some u→∃a,B=some a∧w.cell? (a.add j)=some u) (h1:∀u∈news,u.oneCell'=true) (h63:n+nm≤9223372036854775807) (hbytes:(n+nm)*b≤140737488355328)
 (h:∀A' cap' u,Mem w0 u (is.set k (oI E c A' (n+nm) cap' (xs++news)))→ar P ops Q rest (Fr (l.set d (.slice A' (n+nm) cap')) ds) u) :
 ar P ops Q (bm (some d) (.call { callee:=.builtin .append,args:=#[x,y],argTypes:=a0 }) ty pos after none::rest) (Fr l ds) w :=
 Uo ha hu hi hz hc m.ext hs (m.o k hk) hx hl hrow h1 h63 hbytes fun A' cap' u hO hW hF=>h A' cap' u (m.put k hk hW.os hW.tape hW.output hW.size (fun b hb hne=>hW.block b hb hne) (by
  refine⟨hO.own.1,?_⟩;rcases hO.cases with ⟨rfl,e1,rfl,_⟩ | ⟨g,cur,rfl,_,h2,h3⟩
  · exact .inl ⟨by rw[e1],e1⟩
  · exact .inr ⟨g,cap',cur,O,bw _,h2,h3⟩) (by
  rcases hF with rfl | hF
  · exact .inl fun _ h=>h
  · exact .inr fun b hb=>by
     have e:Me A'=some b:=hb;rw[hF] at e;cases e;exact av _))
theorem Up{cs:List ai}(m:Mem w0 w is)(hv:ev l x=.agg cs.toArray)(h:∀g u,Mem w0 u (bI g cs T::is)→ar P ops Q rest (Fr (l.set d (.pointer (some ⟨g,0,none⟩))) ds) u) :
 ar P ops Q (bm (some d) (.box T x) ty pos after none::rest) (Fr l ds) w:=aqf m (by rw[hv];rfl) h
theorem aqg{v:ai}(m:Mem w0 w is)(hv:ev l x=v)(h1:v.cells = #[v])(h:∀g u,Mem w0 u (bI g [v] T::is)→ar P ops Q rest (Fr (l.set d (.pointer (some ⟨g,0,none⟩))) ds) u) :
 ar P ops Q (bm (some d) (.box T x) ty pos after none::rest) (Fr l ds) w:=aqf m (by rw[hv,h1]) h
theorem bN{g off:Nat}{cs us:List ai}{t:az}(m:Mem w0 w is)(k:Nat)(hk:is[k]? = some (bI g cs t))(hx:ev l x=.pointer (some ⟨g,off,none⟩))(hv:ev l y=.agg us.toArray)(hc:dQ P T us.length)(hfit:off+us.length≤cs.length)(h1:(us.all (·.oneCell'))=true)
 (h:∀u,Mem w0 u (is.set k (bI g (over cs off us) t))→ar P ops Q rest (Fr l ds) u):ar P ops Q (bm none (.store T x y) ty pos after none::rest) (Fr l ds) w:=ahb m k hk hx (by rw[hv];rfl) hc hfit h1 h
theorem dB{g off:Nat}{cs:List ai}{v:ai}{t:az}(m:Mem w0 w is)(k:Nat)(hk:is[k]? = some (bI g cs t))(hx:ev l x=.pointer (some ⟨g,off,none⟩))(hv:ev l y=v)(hc:dQ P T 1)(hfit:off+1≤cs.length)(h1:v.oneCell'=true∧v.cells = #[v])
 (h:∀u,Mem w0 u (is.set k (bI g (over cs off [v]) t))→ar P ops Q rest (Fr l ds) u):ar P ops Q (bm none (.store T x y) ty pos after none::rest) (Fr l ds) w:=ahb (us:=[v]) m k hk hx (by rw[hv,h1.2]) hc hfit (by simp[h1.1]) h
theorem fR.full{g:Nat}{cs:List ai}{t:az}(h:fR w g cs t)(hA:fA P T true)(hc:dQ P T cs.length):eR P w T ⟨g,0,none⟩ (.agg cs.toArray):=by
 have:=h.row 0;rw[mi] at this;exact this.lies hA hc
theorem Mem.s01{w0 w:aj}{i j:It}{is:List It}(m:Mem w0 w (i::j::is)):Mem w0 w (j::i::is):=by
 have h1:=br.1 m.nd;have h2:=br.1 h1.2;refine⟨m.ext,fun x hx=>m.all x ?_,fun x hx=>m.ge x ?_,br.2 ⟨fun x hx=>?_,br.2 ⟨fun x hx=>h1.1 x (bt _ hx),h2.2⟩⟩⟩
 · simp only[an] at hx ⊢;rcases hx with h | h | h <;> simp[h]
 · simp only[an] at hx ⊢;rcases hx with h | h | h <;> simp[h]
 · rcases an.1 hx with rfl | hx
   · exact (h1.1 _ (bu ..)).symm
   · exact h2.1 x hx
/-! ### Regions -/
theorem cU{id:Nat}{a:Act}{l:List Oper}(m:Mem w0 w is)(n:Nat)(hm:P.follows .mixedOrders=true)(hB:Region.lexTailB .any l.toArray n=true)
 (h:cl P l.toArray (fun u=>Mem w0 u is) (fun a'=>∀u,Mem w0 u is→ar P l.toArray Q (l.drop n) a' u) (l.take n) a):(Code.region id l.toArray true).wp P Q a w :=
 rN (C:=fun u=>Mem w0 u is) n hm hB (m.ext' (fQ.refl w).drawn) h
theorem mq{id:Nat}{a:Act}{l:List Oper}(m:Mem w0 w is)(hm:P.follows .mixedOrders=true)(hB:Region.lexB .any l.toArray=true)
 (h:cl P l.toArray (fun u=>Mem w0 u is) (fun a'=>∀u,Mem w0 u is→Q .normal a' u) l a):(Code.region id l.toArray true).wp P Q a w :=
 wp_region_quiet (C:=fun u=>Mem w0 u is) hm hB (m.ext' (fQ.refl w).drawn) (by simpa using h)
theorem mh{id:Nat}{a:Act}{l:List Oper}(m:Mem w0 w is)(bs:List Bool)(o:List (Nat × Bool))(hm:P.follows .mixedOrders=true)(hB:(Region.noSelect l.toArray&&decide (o.length=l.length)&&Xa .any l.toArray o (gd l.toArray.size false))=true)
 (hQ:∀c d v a w,Q (.panic c) (Act.put a d v) w→Q (.panic c) a w) {ol:List (Oper × Bool)} (hol:(o.map fun x=>((l.toArray[x.1]?).getD default,x.2))=ol)
 (h:∀u,Mem w0 u is→bS P l.toArray (fun u=>Mem w0 u (pT bs is)) Q ol a u):(Code.region id l.toArray true).wp P Q a w :=
 Ad o hm hB hQ hol fun u e=>⟨fun u=>Mem w0 u (pT bs is),(m.ext' e).sel bs,h u (m.ext' e)⟩
theorem mhe{id:Nat}{a:Act}{l:List Oper}(m:Mem w0 w is)(bs:List Bool)(o:List (Nat × Bool))(hm:P.follows .mixedOrders=true)(hB:(Region.noSelect l.toArray&&decide (o.length=l.length)&&Xa .any l.toArray o (gd l.toArray.size false))=true)
 (hQ:∀c d v a w,Q (.panic c) (Act.put a d v) w→Q (.panic c) a w) {ol:List (Oper × Bool)} (hol:(o.map fun x=>((l.toArray[x.1]?).getD default,x.2))=ol)
 (h:∀u,fQ w u→Mem w0 u is→bS P l.toArray (fun u=>Mem w0 u (pT bs is)) Q ol a u):(Code.region id l.toArray true).wp P Q a w :=
 Ad o hm hB hQ hol fun u e=>⟨fun u=>Mem w0 u (pT bs is),(m.ext' e).sel bs,h u e (m.ext' e)⟩
theorem Uq{id:Nat}{a:Act}{l:List Oper}(m:Mem w0 w is)(bs:List Bool)(t:qJ)(hm:P.follows .mixedOrders=true)(hB:(Region.noSelect l.toArray&&t.ok .any l.toArray l.toArray.size (gd l.toArray.size false))=true)
 (hQ:∀c d v a w,Q (.panic c) (Act.put a d v) w→Q (.panic c) a w)
 (h:∀u,Mem w0 u is→cO P l.toArray (fun u=>Mem w0 u (pT bs is)) Q t a u):(Code.region id l.toArray true).wp P Q a w :=
 Pe t hm hB hQ fun u e=>⟨fun u=>Mem w0 u (pT bs is),(m.ext' e).sel bs,h u (m.ext' e)⟩
theorem mf1{tl:List Oper}{i d:Nat}{T:az}{cs:List ai}(m:Mem w0 w is)(h:∀g u,Mem w0 u (bI g cs T::is)→ar P ops Q tl (Fr (l.set d (.pointer (some ⟨g,0,none⟩))) ds) u) :
 ∀E w',fQ w w'→Ke w.heap.size E [⟨i,d,T,cs⟩] w'→(∀x∈[(⟨i,d,T,cs⟩:Al)],∃v,E x.i=some v)→ar P ops Q tl (fS E [⟨i,d,T,cs⟩] (Fr l ds)) w' :=
 anT fun u g e hg hB=>h g u (m.newB e hg hB)
theorem Mem.newB2{w w':aj}{is:List It}{g g2:Nat}{cs cs2:List ai}{t t2:az}(m:Mem w0 w is)(e:fQ w w')(hg:w.heap.size≤g)(hg2:w.heap.size≤g2)(hB:fR w' g cs t)(hB2:fR w' g2 cs2 t2)(hne:g2≠g):Mem w0 w' (bI g2 cs2 t2::bI g cs t::is):=by
 have m1:=m.newB e hg hB;refine⟨m1.ext,fun j hj=>?_,fun j hj=>?_,br.2 ⟨fun j hj b h1 h2=>?_,m1.nd⟩⟩
 · rcases an.1 hj with rfl | hj
   · exact hB2
   · exact m1.all j hj
 · rcases an.1 hj with rfl | hj
   · exact fun b hb=>by cases hb;exact ba m.ext.size hg2
   · exact m1.ge j hj
 · cases h1
   rcases an.1 hj with rfl | hj
   · cases h2;exact hne O
   · have:=j.lt w _ (m.all j hj) h2
     omega
theorem mf2{tl:List Oper}{i d j e:Nat}{T U:az}{cs us:List ai}(m:Mem w0 w is)(hij:i≠j)(h:∀g k u,Mem w0 u (bI k us U::bI g cs T::is)→ar P ops Q tl (Fr ((l.set d (.pointer (some ⟨g,0,none⟩))).set e (.pointer (some ⟨k,0,none⟩))) ds) u) :
 ∀E w',fQ w w'→Ke w.heap.size E [⟨i,d,T,cs⟩,⟨j,e,U,us⟩] w'→(∀x∈[(⟨i,d,T,cs⟩:Al),⟨j,e,U,us⟩],∃v,E x.i=some v)→ar P ops Q tl (fS E [⟨i,d,T,cs⟩,⟨j,e,U,us⟩] (Fr l ds)) w' :=
 anU hij fun u g k e hg hk hB hK hne=>h g k u (m.newB2 e hg hk hB hK hne)
theorem aqh{c:Code}{a:Act}{l:Nat→Nat→List ai}{c1 c2:List ai}{T1 T2:az}(m:Mem w0 w is)(h1:c.wp P (fun e a' u=>e=.normal∧∃g k,a'=Fr (l g k) ds∧Mem w0 u (bI k c2 T2::bI g c1 T1::is)) a w)
 (h2:∀g k u,Mem w0 u (bI k c2 T2::bI g c1 T1::is)→Q .normal (Fr (l g k) ds) u):c.wp P Q a w:=by
 refine Code.wp_mono ?_ h1;rintro e a' u ⟨rfl,g,k,rfl,m'⟩;exact h2 g k u m'
end
section
variable {P:bp} {w0:aj} {is:List It} {l:List ai} {x y:bx} {T ty:az}
variable {ops:Array Oper} {Q:Act→Prop} {rest:List Oper} {d:Nat} {pos:String} {after:Array Edge} {v:ai} {ds:List dx}
theorem ql(hx:ev l x=.pointer (some a))(hv:∀u,Mem w0 u is→eR P u T a v)(h:cl P ops (fun u=>Mem w0 u is) Q rest (Fr (l.set d v) ds)):cl P ops (fun u=>Mem w0 u is) Q (bm (some d) (.load T x) ty pos after none::rest) (Fr l ds) :=
 kP (fun u m=>aY hx (hv u m)) h
theorem qc{f:FuncId}{fo:bx}{xs:Array bx}{args:List ai}{first cap:Array ai}{a0:Array az}(hf:ev l fo=.func (.func f) first cap)(hxs:first.toList++xs.toList.map (ev l)++cap.toList=args)(hc:∀u,Mem w0 u is→dA P f args u fun x _=>x=v)
 (h:cl P ops (fun u=>Mem w0 u is) Q rest (Fr (l.set d v) ds)):cl P ops (fun u=>Mem w0 u is) Q (bm (some d) (.call { callee:=.value fo,args:=xs,argTypes:=a0 }) ty pos after none::rest) (Fr l ds):=by
 refine wpQuiet_step fun K hK=>?_;rw[if_pos (by simp[Region.wanted])];refine⟨v,fun w' hw=>?_,?_⟩
 · unfold lo
   rw[kI,pJ (hc w' hw).1 hf hxs _ rfl];refine⟨O,(hc w' hw).2.mono ?_⟩;rintro e w'' ⟨u,rfl,hE,rfl⟩;exact⟨O,hw.ext' hE⟩
 · show K ((Fr l ds).put (some d) v)
   rw[iN];exact hK _ h
theorem fD{f:FuncId}{fo:bx}{xs:Array bx}{args:List ai}{first cap:Array ai}{a0:Array az}(hf:ev l fo=.func (.func f) first cap)(hxs:first.toList++xs.toList.map (ev l)++cap.toList=args)(hc:dS P f args v)
 (h:cl P ops (fun u=>Mem w0 u is) Q rest (Fr (l.set d v) ds)):cl P ops (fun u=>Mem w0 u is) Q (bm (some d) (.call { callee:=.value fo,args:=xs,argTypes:=a0 }) ty pos after none::rest) (Fr l ds):=qc hf hxs (fun u _=>hc u) h
end
structure GX(w w':aj):Prop where
 ext:fQ w w'
 dr:w.drawn≤w'.drawn
theorem GX.grow{w':aj}(h:GX w w'):∃q os,w'=Sort.grow (w.drewN q) os:=by
 refine⟨w'.drawn-w.drawn,w'.heap.extract w.heap.size w'.heap.size,?_⟩;have e1:w.heap++w'.heap.extract w.heap.size w'.heap.size=w'.heap:=by
  apply Array.ext_getElem?;intro i;rw[Array.getElem?_append];split
  · rename_i hi
    exact (Below.block h.ext i hi).symm
  · rename_i hi
    rw[Array.getElem?_extract];have:=h.ext.size;split
    · congr 1;omega
    · rw[lp (by omega)]
 have e2:w.drawn+(w'.drawn-w.drawn)=w'.drawn:=by have:=h.dr;omega
 have h1:=h.ext.os;have h2:=h.ext.tape;have h3:=h.ext.output;cases w;cases w';simp only[Sort.grow,World.drewN] at *
 subst h1 h2 h3;rw[e1,e2]
structure iU(w0 w:aj)(is:List It):Prop where
 ext:GX w0 w
 mem:Mem w0 w is
def sT(P:bp)(f:FuncId)(args:List ai)(v:ai):Prop:=∀w,Entr P f∧Calls P f args.toArray w fun e w'=>∃u,e=.returned u∧GX w w'∧u=v
theorem sT.pure{P:bp}{f:FuncId}{args:List ai}{v:ai}(h:sT P f args v):dS P f args v:=fun w=>⟨(h w).1,(h w).2.mono fun _ _ ⟨u,he,hX,hv⟩=>⟨u,he,hX.ext,hv⟩⟩
section
variable {w0 w w':aj} {is:List It}
theorem iU.refl(w:aj):iU w w []:=⟨⟨fQ.refl w,av _⟩,Mem.refl w⟩
theorem iU.go(m:iU w0 w is){js:List It}(h:Mem w0 w' js)(d:w.drawn≤w'.drawn):iU w0 w' js:=⟨⟨h.ext,ba m.ext.dr d⟩,h⟩
theorem iU.ext' (m:iU w0 w is)(e:GX w w'):iU w0 w' is:=m.go (m.mem.ext' e.ext) e.dr
theorem iU.b(m:iU w0 w is)(k:Nat){g:Nat}{cs:List ai}(hk:is[k]? = some (bI g cs t)):fR w g cs t:=m.mem.b k hk
end
section
variable {P:bp} {ds:List dx} {l:List ai} {x y:bx} {T ty:az}
variable {ops:Array Oper} {Q:Exit→Act→aj→Prop} {rest:List Oper} {d:Nat} {pos:String} {after:Array Edge} {w w0:aj} {is:List It} {v:ai}
theorem aqi{cs:List ai}(m:iU w0 w is)(hv:(ev l x).cells=cs.toArray)(h:∀g u,iU w0 u (bI g cs T::is)→ar P ops Q rest (Fr (l.set d (.pointer (some ⟨g,0,none⟩))) ds) u) :
 ar P ops Q (bm (some d) (.box T x) ty pos after none::rest) (Fr l ds) w :=
 mJ (w':=w.alloc (.cells cs.toArray T)) (v:=.pointer (some ⟨w.heap.size,0,none⟩)) (fun o ho _=>by simp[de,ho,cK,Instr.box,newVar,newRow,hv,newObj,Sem.run]) (h _ _ (m.go (m.mem.newB ((fQ.refl w).alloc _) (av _) (jQ w cs T)) (av _)))
theorem oL{cs:List ai}(m:iU w0 w is)(hv:ev l x=.agg cs.toArray)(h:∀g u,iU w0 u (bI g cs T::is)→ar P ops Q rest (Fr (l.set d (.pointer (some ⟨g,0,none⟩))) ds) u) :
 ar P ops Q (bm (some d) (.box T x) ty pos after none::rest) (Fr l ds) w:=aqi m (by rw[hv];rfl) h
theorem ak6{cs:List ai}{z:ai}(m:iU w0 w is)(hZ:nU P T z)(hv:z.cells=cs.toArray)(h:∀g u,iU w0 u (bI g cs T::is)→ar P ops Q rest (Fr (l.set d (.pointer (some ⟨g,0,none⟩))) ds) u) :
 ar P ops Q (bm (some d) (.alloc T) ty pos after none::rest) (Fr l ds) w:=by
 obtain⟨inf,hi,hz⟩:=hZ;exact mJ (w':=w.alloc (.cells cs.toArray T)) (v:=.pointer (some ⟨w.heap.size,0,none⟩)) (fun o ho _=>by simp[de,ho,Instr.alloc,zeroValue,typeInfo,hi,hz,newVar,newRow,hv,newObj,Sem.run]) (h _ _ (m.go (m.mem.newB ((fQ.refl w).alloc _) (av _) (jQ w cs T)) (av _)))
theorem ak7{g off:Nat}{cs us:List ai}{t:az}(m:iU w0 w is)(k:Nat)(hk:is[k]? = some (bI g cs t))(hx:ev l x=.pointer (some ⟨g,off,none⟩))(hv:(ev l y).cells=us.toArray)(hc:dQ P T us.length)(hfit:off+us.length≤cs.length)(h1:(us.all (·.oneCell'))=true)
 (h:∀u,iU w0 u (is.set k (bI g (over cs off us) t))→ar P ops Q rest (Fr l ds) u):ar P ops Q (bm none (.store T x y) ty pos after none::rest) (Fr l ds) w:=by
 have hB:=m.b k hk;have hC:=Oq w g (over cs off us).toArray;exact Gy (w':=w.setRow g (over cs off us).toArray) (fun o ho=>by simp[de,ho,cK,hx,Instr.storeAt,Instr.sureAddr,Gz hc hv hB hfit (fV h1)])
  (h _ (m.go (m.mem.put k hk hC.os hC.tape hC.output (by rw[hC.size];exact av _) (fun b _ hne=>hC.block b fun e=>hne (by rw[e];rfl)) (setRow_heap w g cs.toArray _ t _ hB) (.inl fun _ h=>h)) (av _)))
theorem ahd{g off:Nat}{cs us:List ai}{t:az}(m:iU w0 w is)(k:Nat)(hk:is[k]? = some (bI g cs t))(hx:ev l x=.pointer (some ⟨g,off,none⟩))(hv:ev l y=.agg us.toArray)(hc:dQ P T us.length)(hfit:off+us.length≤cs.length)(h1:(us.all (·.oneCell'))=true)
 (h:∀u,iU w0 u (is.set k (bI g (over cs off us) t))→ar P ops Q rest (Fr l ds) u):ar P ops Q (bm none (.store T x y) ty pos after none::rest) (Fr l ds) w:=ak7 m k hk hx (by rw[hv];rfl) hc hfit h1 h
theorem Nq{f:FuncId}{fo:bx}{xs:Array bx}{args:List ai}{first cap:Array ai}{a0:Array az}(m:iU w0 w is)(hf:ev l fo=.func (.func f) first cap)(hxs:first.toList++xs.toList.map (ev l)++cap.toList=args)(hc:sT P f args v)
 (h:∀u,iU w0 u is→ar P ops Q rest (Fr (l.set d v) ds) u):ar P ops Q (bm (some d) (.call { callee:=.value fo,args:=xs,argTypes:=a0 }) ty pos after none::rest) (Fr l ds) w:=by
 refine wpList_plain O fun K hK=>?_;unfold ma;rw[kI,pJ (hc w).1 hf hxs _ rfl];refine (hc w).2.mono ?_;rintro e w' ⟨u,rfl,hE,rfl⟩;show K ((Fr l ds).put (some d) u) w'
 rw[iN];exact hK _ _ (h w' (m.ext' hE))
theorem iU.drew(m:iU w0 w is):iU w0 { w with drawn:=w.drawn+1 } is:=m.ext' ⟨(fQ.refl w).drawn,Nat.le_succ _⟩
theorem Pk{id:Nat}{a:Act}{l:List Oper}(m:iU w0 w is)(n:Nat)(hm:P.follows .mixedOrders=true)(hB:Region.lexTailB .any l.toArray n=true)
 (h:cl P l.toArray (fun u=>iU w0 u is) (fun a'=>∀u,iU w0 u is→ar P l.toArray Q (l.drop n) a' u) (l.take n) a):(Code.region id l.toArray true).wp P Q a w :=
 rN (C:=fun u=>iU w0 u is) n hm hB m.drew h
theorem Gmq{id:Nat}{a:Act}{l:List Oper}(m:iU w0 w is)(hm:P.follows .mixedOrders=true)(hB:Region.lexB .any l.toArray=true)
 (h:cl P l.toArray (fun u=>iU w0 u is) (fun a'=>∀u,iU w0 u is→Q .normal a' u) l a):(Code.region id l.toArray true).wp P Q a w :=
 wp_region_quiet (C:=fun u=>iU w0 u is) hm hB m.drew (by simpa using h)
end
section
variable {P:bp} {w0:aj} {is:List It} {l:List ai} {x y:bx} {T ty:az}
variable {ops:Array Oper} {Q:Act→Prop} {rest:List Oper} {d:Nat} {pos:String} {after:Array Edge} {v:ai} {ds:List dx}
theorem Tc(hx:ev l x=.pointer (some a))(hv:∀u,iU w0 u is→eR P u T a v)(h:cl P ops (fun u=>iU w0 u is) Q rest (Fr (l.set d v) ds)):cl P ops (fun u=>iU w0 u is) Q (bm (some d) (.load T x) ty pos after none::rest) (Fr l ds) :=
 kP (fun u m=>aY hx (hv u m)) h
theorem Hj{f:FuncId}{fo:bx}{xs:Array bx}{args:List ai}{first cap:Array ai}{a0:Array az}(hf:ev l fo=.func (.func f) first cap)(hxs:first.toList++xs.toList.map (ev l)++cap.toList=args)(hc:sT P f args v)
 (h:cl P ops (fun u=>iU w0 u is) Q rest (Fr (l.set d v) ds)):cl P ops (fun u=>iU w0 u is) Q (bm (some d) (.call { callee:=.value fo,args:=xs,argTypes:=a0 }) ty pos after none::rest) (Fr l ds):=by
 refine wpQuiet_step fun K hK=>?_;rw[if_pos (by simp[Region.wanted])];refine⟨v,fun w' hw=>?_,?_⟩
 · unfold lo
   rw[kI,pJ (hc w').1 hf hxs _ rfl];refine⟨O,(hc w').2.mono ?_⟩;rintro e w'' ⟨u,rfl,hE,rfl⟩;exact⟨O,hw.ext' hE⟩
 · show K ((Fr l ds).put (some d) v)
   rw[iN];exact hK _ h
end
def P3.Lt(p q:P3):Prop:=p.x<q.x∨p.x=q.x∧(p.y<q.y∨p.y=q.y∧p.z<q.z)
variable{q:P3}
instance (p q:P3):Decidable (p.Lt q):=by unfold P3.Lt;infer_instance
def qK(p q:P3):Int:=if p.Lt q then -1 else if q.Lt p then 1 else 0
theorem P3.eq{p:P3}(h1:p.x=q.x)(h2:p.y=q.y)(h3:p.z=q.z):p=q:=by
 cases p;cases q;simp_all
instance:DecidableEq P3:=fun p q=>if h:p.x=q.x∧p.y=q.y∧p.z=q.z then isTrue (P3.eq h.1 h.2.1 h.2.2) else isFalse fun e=>h (by subst e;exact⟨rfl,rfl,rfl⟩)
theorem P3.lt_irrefl(p:P3):¬p.Lt p:=by unfold P3.Lt;omega
theorem P3.lt_trans{p r:P3}(h:p.Lt q)(k:q.Lt r):p.Lt r:=by unfold P3.Lt at *;omega
theorem P3.lt_tri(p q:P3):p.Lt q∨p=q∨q.Lt p:=by
 by_cases h1:p.x=q.x
 · by_cases h2:p.y=q.y
   · by_cases h3:p.z=q.z
     · exact .inr (.inl (P3.eq h1 h2 h3))
     · unfold P3.Lt;omega
   · unfold P3.Lt;omega
 · unfold P3.Lt;omega
theorem P3.lt_x{p:P3}(h:¬p.x=q.x):p.Lt q↔p.x<q.x:=by unfold P3.Lt;omega
theorem P3.lt_y{p:P3}(h:p.x=q.x)(h2:¬p.y=q.y):p.Lt q↔p.y<q.y:=by unfold P3.Lt;omega
theorem P3.lt_z{p:P3}(h:p.x=q.x)(h2:p.y=q.y):p.Lt q↔p.z<q.z:=by unfold P3.Lt;omega
end Go.Lith
