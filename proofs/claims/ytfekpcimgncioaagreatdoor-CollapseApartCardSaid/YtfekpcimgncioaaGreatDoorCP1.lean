/-
 Texts of one claim, laid together: Ext, Ops, Nat, Nat2, Ops2, Nat3, Upd, Nat4, Nat5, Nat6, Held, Eq, Nat7, Nat8, Ops3, Nat9, Nat10, Nat11, Nat12, Geo, Tree, Fresh, Fresh2, Ops4, Geo2, Geo3, Geo4, Geo5, Own, Al, Mem, Grow, Pts.
-/
import Derived.WalkKit
import Derived.StillTail
import Derived.Deep.Quiet
import Derived.BigQuiet
import Derived.Laws.Rows
import Derived.Laws.IdiomCopy
import Derived.Laws.CopyRow
import Derived.OrdersHeld
import Derived.Laws.StructEq
import Derived.ChangeKeysEq
import Derived.Laws.IdiomStrings
import Derived.Laws.BytesArg
import Derived.RangeFuncBox
import Derived.RangeFuncLeaves
import Derived.LoopN
import Derived.Sort.Grow
import Derived.Deep.Draws
open Int renaming toNat_natCast→ah,fdiv_eq_ediv_of_nonneg→ia,natCast_mul→jh,not_lt→qu
open Go renaming Value→ai,World→aj,wpList→ar,TypeId→az,Program→br,Operand→bw,run_underlying→cd,wpQuiet→cw,execOp→dm,Deferred→dz
open List renaming getElem?_eq_getElem→am,mem_cons→an,getElem?_eq_some_iff→ap,length_cons→av,length_append→aw,take_of_length_le→a_,mem_cons_of_mem→bg,mem_of_getElem?→bh,map_cons→bj,mem_cons_self→bm,length_take→bp,pairwise_cons→bt,getElem?_eq_none→bz,nil_append→b_,replicate→cl,cons_append→cn,append_assoc→cq,getElem?_append_left→cu,all_eq_true→de,range→df,flatMap_cons→di,getElem?_drop→dj,getElem?_append_right→dt,getElem?_take→d_,eq_nil_of_length_eq_zero→et,append_nil→fa,drop_eq_getElem_cons→fc,any_eq_true→fe,toList_toArray→ff,mem_map_of_mem→fk,length_drop→fl,take_length→fp,ext_getElem?→fw,set_cons_succ→fx,drop_of_length_le→gi,getElem_mem→gl,size_toArray→gm,mem_range→gn,nodup_cons→gt,filter_cons→ib,map_congr_left→ir,pairwise_iff_getElem→jb,foldl_cons→jx,mem_or_eq_of_mem_set→jy,take_zero→kf,getElem?_toArray→ky,getElem?_set_ne→lf,take_append_drop→mn,drop_zero→m_,replicate_succ→nh,nil_sublist→pu
open Nat renaming le_refl→aq,zero_add→au,le_trans→ba,zero_le→cv,lt_or_ge→eu,lt_of_lt_of_le→gg,min_eq_left→gr,add_sub_cancel→g_,eq_zero_or_pos→iz,pow_succ→ja,mod_lt→ji,pow_le_pow_right→jk,add_mul→ke,mul_le_mul_left→ki,mod_eq_of_lt→kn,mul_one→lz,le_sub_one_of_lt→my,mul_le_mul_right→mz,lt_of_le_of_lt→nw,pow_add→ox,pow_mul→oy,mul_add→oz
open Bool renaming and_eq_true→be,not_eq_true'→fj,false_or→jn
open Go.Oper renaming mk→bu,quietAt→ma,wp→mr,upon→ny
open Option renaming getD_some→dq,isSome_iff_exists→eh,map_some→fm,some→l_
open Array renaming getElem?_eq_some_iff→ee,replicate→f_,getElem?_eq_getElem→gq,getElem?_eq_none→mb,getD_eq_getD_getElem?→mw,setIfInBounds_comm→nj,range→pm,ext'→pw,map→qq,ext→qr
open UInt8 renaming ofNat→ei,toNat→jc,toNat_ofNat'→jj,toNat_inj→nl
open BitVec renaming ofInt→ew,toNat_ofInt→ph
open Prod.mk renaming injEq→ft
open Option.some renaming injEq→gw
open List.cons renaming injEq→mg
open Go.IntKind renaming signed→mx,wrap→n_,bits→oa
set_option linter.unusedSimpArgs false
set_option linter.unusedVariables false
set_option linter.unusedSectionVars false
theorem O{α:Sort _}{a:α}:a=a:=rfl
namespace Go.Lith
open Go.RowKit
variable{w w':aj}{cs l:List ai}{t T:az}{a:Addr}{i:Nat}{fn:Func}{x:Int}
def fQ(w w':aj):Prop:=Below w.heap.size w w'
theorem fQ.refl(w:aj):fQ w w:=Below.refl _ _
theorem fQ.size(h:fQ w w'):w.heap.size≤w'.heap.size:=Below.size h
theorem fQ.trans{a b c:aj}(h:fQ a b)(k:fQ b c):fQ a c:=Below.trans h (Below.mono k h.size)
theorem fQ.drawn{w w':aj}(h:fQ w w'):fQ w { w' with drawn:=w'.drawn+1 }:=Below.drew h
theorem fQ.alloc(h:fQ w w')(o:Obj):fQ w (w'.alloc o):=Below.alloc h h.size o
theorem fQ.block(h:fQ w w'){k:Nat}{o:Obj}(hk:w.heap[k]? = some o):w'.heap[k]? = some o :=
 (Below.block h k (ee.1 hk).1).trans hk
theorem fQ.cell(h:fQ w w'){p:Addr}{v:ai}(hp:w.cell? p=some v):w'.cell? p=some v :=
 (Below.cell h (World.block_lt_of_cell? _ _ hp)).trans hp
section
variable {P:br} {ops:Array Oper} {md:Region.Mode} {C:aj→Prop}
def Ku(P:br)(md:Region.Mode)(ops:Array Oper)(C:aj→Prop)(n:Nat)(L:Array Bool→Act→Prop):Nat→Array Bool→Act→Prop
 | 0,listed,a=>L listed a
 | f+1,listed,a =>
  Region.ready md ops listed≠[]∧∀i∈Region.ready md ops listed,i<n∧qOp P ops C i (Ku P md ops C n L f (listed.setIfInBounds i true)) a
theorem uI{n g:Nat}{L:Array Bool→Act→Prop}{Q':Exit→Act→aj→Prop}(hL:∀listed a,L listed a→∀w,C w→wpAny P md ops Q' g listed a w) :
 ∀(f:Nat) (listed:Array Bool) (a:Act) (w:aj),C w→Ku P md ops C n L f listed a→wpAny P md ops Q' (f+g) listed a w
 | 0,listed,a,w,hw,h=>by rw[au];exact hL _ _ h w hw
 | f+1,listed,a,w,hw,h=>by
  rw[show f+1+g=(f+g)+1 by omega];exact⟨fun h0=>absurd h0 h.1,fun i hi=>wpOp_of_qOp hw (fun a' w' hw' h'=>uI hL f _ a' w' hw' h') (h.2 i hi).2⟩
theorem Yu{n i:Nat}{oi:Oper}{v:ai}{L:Array Bool→Act→Prop}(hi:ops[i]? = some oi)(hsel:∀(j:Nat) (o:Oper) cs b,ops[j]? = some o→o.op≠.select cs b)
 (hs:Region.sinkB md ops n=true) (hc:Region.chainB md ops n=true) (hn:n<ops.size) (hin:i<n)
 (hdone:∀listed a,L listed a→∀j∈Region.ready md ops listed,n≤j) :
 ∀(f:Nat) (listed:Array Bool) (a:Act),HeadInv md ops n listed →
  (∀j oj,ops[j]? = some oj→j≠i→listed.getD j true=false→(∀e∈oj.after,Region.binds md e=true→e.on≠i)→oi.apart ops oj=true) →
  i∈Region.ready md ops listed→YieldsIn P ops C oi v a →
  Ku P md ops C n L f (listed.setIfInBounds i true) (a.put oi.dst v)→Ku P md ops C n L (f+1) listed a:=by
 intro f
 induction f with
 | zero =>
  intro listed a inv _ hr hy H;have hun:=(mem_ready.1 hr).1;refine⟨fun h=>(by rw[h] at hr;cases hr),fun j hj=>?_⟩;have hjn:j<n:=by
   rcases eu j n with h | h
   · exact h
   · exact absurd hj (tail_waits hs hc hn inv _ i O hin hun j h)
  refine⟨hjn,?_⟩;by_cases hji:j=i
  · subst hji;exact hy.qOp hi H
  · have:=hdone _ _ H j (ready_mono hj hji)
    omega
 | succ f ih =>
  intro listed a inv hfree hr hy H;have hun:=(mem_ready.1 hr).1;refine⟨fun h=>(by rw[h] at hr;cases hr),fun j hj=>?_⟩;have hjn:j<n:=by
   rcases eu j n with h | h
   · exact h
   · exact absurd hj (tail_waits hs hc hn inv _ i O hin hun j h)
  refine⟨hjn,?_⟩;by_cases hji:j=i
  · subst hji;exact hy.qOp hi H
  · have h1:=(H.2 j (ready_mono hj hji)).2
    obtain⟨hjun,oj,hoj,hall⟩:=mem_ready.1 hj;have hnot:∀e∈oj.after,Region.binds md e=true→e.on≠i:=fun e he hb heq=>by
     have h1:=hall e he hb;rw[heq,getD_both hun] at h1;cases h1
    have h2:=qOp_put hoj (hfree j oj hoj hji hjun hnot) (fun cs b=>hsel i oi cs b hi) (fun cs b=>hsel j oj cs b hoj) hy h1;have hfree':∀k ok,ops[k]? = some ok→k≠i→(listed.setIfInBounds j true).getD k true=false →
     (∀e∈ok.after,Region.binds md e=true→e.on≠i)→oi.apart ops ok=true:=fun k ok hk hki hun hno=>by
     refine hfree k ok hk hki ?_ hno;by_cases hjk:j=k
     · subst hjk;exact hjun
     · rw[getD_set_ne true hjk] at hun;exact hun
    refine qOp_mono (fun a' h3=>ih (listed.setIfInBounds j true) a' (inv.set hj hjn) hfree' (ready_mono hr (Ne.symm hji)) h3.1 ?_) h2;rw[nj _ _ hji];exact h3.2
theorem yC{n g:Nat}{Lq:Act→Prop}(hsel:Region.noSelect ops=true)(hs:Region.sinkB md ops n=true)(hc:Region.chainB md ops n=true)(hn:n<ops.size) :
 ∀(l:List Oper) (k:Nat) (listed:Array Bool) (a:Act),(∀j,j<l.length→l[j]? = ops[k+j]?)→k+l.length=n→HeadInv md ops n listed →
 Region.lexHead md ops g l.length k listed=true→cw P ops C Lq l a →
 Ku P md ops C n (fun listed' a'=>Region.seqB md ops g n listed'=true∧Lq a') l.length listed a
 | [],k,listed,a,_,hk,_,hB,h=>by
  have:k=n:=by simpa using hk
  subst this;exact⟨by simpa[Region.lexHead] using hB,h⟩
 | o::l,k,listed,a,hl,hk,inv,hB,h=>by
  have h0:ops[k]? = some o:=by simpa using (hl 0 (by simp)).symm
  simp only[av,Region.lexHead,be] at hB;obtain⟨⟨hr,hf⟩,hB'⟩:=hB;have hkn:k<n:=by simp only[av] at hk;omega
  have hr':k∈Region.ready md ops listed:=by simpa using hr
  have hst:qOp P ops C k (cw P ops C Lq l) a:=by unfold qOp;simp only[h0];exact h
  obtain⟨v,hy,hK⟩:=yieldsIn_of_qOp h0 hst;exact Yu h0 (Region.noSelect_spec hsel) hs hc hn hkn (fun listed' a' hL=>seqB_ready hL.1) l.length listed a inv (Region.free_spec h0 hf) hr' hy
   (yC hsel hs hc hn l (k+1) _ _ (fun j hj=>by have:=hl (j+1) (by simp;omega);simpa[Nat.add_assoc,Nat.add_comm 1 j] using this) (by simp only[av] at hk;omega) (inv.set hr' hkn) hB' hK)
theorem rP{id:Nat}{Q:Exit→Act→aj→Prop}{a:Act}{w:aj}{l:List Oper}(n:Nat)(hm:P.follows .mixedOrders=true)(hB:Region.lexTailB .any l.toArray n=true)
 (hC:C { w with drawn:=w.drawn+1 })
 (h:cw P l.toArray C (fun a'=>∀w',C w'→ar P l.toArray Q (l.drop n) a' w') (l.take n) a):(Code.region id l.toArray true).wp P Q a w:=by
 simp only[Region.lexTailB,be,decide_eq_true_eq] at hB;obtain⟨⟨⟨⟨hsel,hn⟩,hs⟩,hc⟩,hlex⟩:=hB;have hn':n<l.length:=by simpa using hn
 have htl:(l.take n).length=n:=by simp;omega
 have hdl:(l.drop n).length=l.toArray.size-n:=by simp
 have inv0:HeadInv .any l.toArray n (f_ l.toArray.size false) :=
  ⟨by simp,fun j oj _ hl=>(by rw[getD_replicate_false] at hl;cases hl),fun t _ ht=>getD_in (by simpa using ht) (getD_replicate_false _ _)⟩
 have H:=yC (md:=.any) (g:=l.toArray.size-n) hsel hs hc hn (l.take n) 0 _ a (fun j hj=>by
  have hj':j<n:=by rw[htl] at hj;exact hj
  simp[hj']) (by simpa using htl) inv0 (by rw[htl];exact hlex) h
 refine wp_region_any hm ?_;have:=uI (Q':=Q) (g:=l.toArray.size-n) (fun listed a' hL w' hw'=>by
  have:=wpAny_of_seq (md:=.any) (Q':=Q) (l.drop n) n listed a' w' (fun j=>by simp[dj]) (by rw[hdl];exact hL.1) (hL.2 w' hw');rwa [hdl] at this) _ _ _ _ hC H
 rw[htl,show n+(l.toArray.size-n)=l.toArray.size by omega] at this;exact this
def Yv(md:Region.Mode)(ops:Array Oper):List (Nat × Bool)→Array Bool→Bool
 | [],listed=>(Region.ready md ops listed).isEmpty
 | (i,true)::r,listed=>(ops[i]?).isSome&&Region.free md ops listed i&&(Region.ready md ops listed).contains i&&Yv md ops r (listed.setIfInBounds i true)
 | (i,false)::r,listed=>(ops[i]?).isSome&&decide (Region.ready md ops listed=[i])&&Yv md ops r (listed.setIfInBounds i true)
def gG(P:br)(ops:Array Oper)(Q:Exit→Act→aj→Prop):List (Oper × Bool)→Act→aj→Prop
 | [],a,w=>Q .normal a w
 | (o,true)::r,a,w=>∃v,Yields P ops o v a∧gG P ops Q r (a.put o.dst v) w
 | (o,false)::r,a,w=>ar P ops (Exit.then (gG P ops Q r) Q) [o] a w
end
abbrev Fr(l:List ai)(ds:List dz:=[]):Act:={ tmps:=l.toArray,defers:=ds }
def fR(w:aj)(g:Nat)(cs:List ai)(t:az):Prop:=w.heap[g]? = some (.cells cs.toArray t (0,0))
structure Chg(w w':aj)(g:Nat):Prop where
 os:w'.os=w.os
 tape:w'.tape=w.tape
 output:w'.output=w.output
 size:w'.heap.size=w.heap.size
 block:∀k,k≠g→w'.heap[k]? = w.heap[k]?
def mX(w:aj)(a:Addr)(cs:List ai):Prop:=∀j u,cs[j]? = some u→w.cell? (a.add j)=some u
theorem fR.lt{g:Nat}(h:fR w g cs t):g<w.heap.size:=(ee.1 h).1
theorem fR.ext{g:Nat}(h:fR w g cs t)(hE:fQ w w'):fR w' g cs t:=hE.block h
theorem fR.chg{g g':Nat}(h:fR w g cs t)(hC:Chg w w' g')(hne:g≠g'):fR w' g cs t:=(hC.block g hne).trans h
theorem fQ.chg{w0:aj}{g:Nat}(h:fQ w0 w)(hC:Chg w w' g)(hg:w0.heap.size≤g):fQ w0 w' :=
 ⟨hC.os.trans h.os,hC.tape.trans h.tape,hC.output.trans h.output,by rw[hC.size];exact h.size,fun k hk=>(hC.block k (by omega)).trans (Below.block h k hk)⟩
theorem mX.ext(h:mX w a cs)(hE:fQ w w'):mX w' a cs:=fun j u hj=>hE.cell (h j u hj)
theorem eD(g off j:Nat):(⟨g,off,none⟩:Addr).add j=⟨g,off+j,none⟩:=by unfold Addr.add;split <;> simp_all
theorem jR(a:Addr)(i j:Nat):(a.add i).add j=a.add (i+j):=by
 unfold Addr.add;by_cases hi:i=0 <;> by_cases hj:j=0 <;> simp[hi,hj,Nat.add_assoc]
theorem fR.row{g:Nat}(h:fR w g cs t)(off:Nat):mX w ⟨g,off,none⟩ (cs.drop off):=by
 intro j u hj;rw[eD,cell_of_row w g (off+j) cs.toArray t (0,0) h];simpa[dj] using hj
theorem mX.sub(h:mX w a cs)(i:Nat):mX w (a.add i) (cs.drop i):=by
 intro j u hj;rw[jR];exact h (i+j) u (by simpa[dj] using hj)
theorem mX.take(h:mX w a cs)(n:Nat):mX w a (cs.take n):=by
 intro j u hj;refine h j u ?_;rw[d_] at hj;split at hj
 · exact hj
 · cases hj
section
variable {P:br} {ds:List dz} {l:List ai}
theorem apJ(t:Nat):(Fr l).eval (.tmp t)=l.getD t undef:=by
 show l.toArray.getD t undef=_
 simp[Array.getD,List.getD];split <;> simp_all
theorem kJ{ds:List dz}:(Fr l ds).eval=(Fr l).eval:=rfl
theorem gL{ds:List dz}(d:Nat)(v:ai):(Fr l ds).put (some d) v=Fr (l.set d v) ds:=by simp[Act.put,Fr]
def dO(P:br)(T:az)(n:Nat):Prop:=∃inf,P.info? T=some inf∧inf.size=n
def oD(P:br)(T:az)(z:ai):Prop:=∃inf,P.info? T=some inf∧inf.zero=some z
def Dv:TypeDesc→Bool
 | .struct _ | .array _ _=>true
 | _=>false
def eU(P:br)(T:az)(b:Bool):Prop:=∃dd,P.underlying T=some dd∧Dv dd=b
theorem eB{n:Nat}(h:(P.info? T).map (·.size)=some n):dO P T n:=by
 cases hi:P.info? T with
 | none=>rw[hi] at h;cases h
 | some i=>rw[hi] at h;exact⟨i,hi,by simpa using h⟩
theorem kV{z:ai}(h:(P.info? T).bind (·.zero)=some z):oD P T z:=by
 cases hi:P.info? T with
 | none=>rw[hi] at h;cases h
 | some i=>rw[hi] at h;exact⟨i,hi,by simpa using h⟩
theorem dP{b:Bool}(dd:TypeDesc)(h:P.underlying T=some dd)(hb:Dv dd=b):eU P T b:=⟨dd,h,hb⟩
def ev(l:List ai):bw→ai
 | .tmp t=>l.getD t undef
 | .const v=>v
 | .global g=>.pointer (some ⟨g,0,none⟩)
 | .func f=>.func (.func f) #[] #[]
theorem Bk(t:Nat):ev l (.tmp t)=l.getD t undef:=rfl
theorem rQ(v:ai):ev l (.const v)=v:=rfl
theorem vO(f:Nat):ev l (.func f)=.func (.func f) #[] #[]:=rfl
theorem cD(x:bw):(Fr l).eval x=ev l x:=by
 cases x with
 | tmp t=>exact apJ t
 | const=>rfl
 | global=>rfl
 | func=>rfl
def Bb(P:br)(l:List ai)(op:Op)(ty:az)(v:ai)(w:aj):Prop :=
 ∀o:Oper,o.op=op→o.type=ty→(dm (Fr l).eval o).run P w=.ok (.value v) w
def gN(P:br)(l:List ai)(op:Op)(ty:az)(v:ai):Prop:=∀w,Bb P l op ty v w
section
variable {ops:Array Oper} {Q:Exit→Act→aj→Prop} {w:aj} {rest:List Oper} {d:Nat} {op:Op} {ty:az} {pos:String} {after:Array Edge} {v:ai}
theorem fG(hr:Bb P l op ty v w)(h:ar P ops Q rest (Fr (l.set d v) ds) w):ar P ops Q (bu (some d) op ty pos after none::rest) (Fr l ds) w:=by
 refine wpList_plain O fun K hK=>?_;unfold mr;rw[kJ,hr _ rfl rfl];show K ((Fr l ds).put (some d) v) w
 rw[gL];exact hK _ _ h
theorem aB(hr:gN P l op ty v)(h:ar P ops Q rest (Fr (l.set d v) ds) w):ar P ops Q (bu (some d) op ty pos after none::rest) (Fr l ds) w:=fG (hr w) h
theorem aM(h:Q .normal (Fr l ds) w):ar P ops Q [] (Fr l ds) w:=h
theorem eE{j:Nat}{b:Bool}(hw:yielded ops l.toArray j=some b)(h:ar P ops Q (bu (some d) op ty pos after none::rest) (Fr l ds) w):ar P ops Q (bu (some d) op ty pos after (some (j,b))::rest) (Fr l ds) w:=by
 unfold ar at h ⊢;rw[if_pos (by simp[Region.wanted])] at h;rw[if_pos (by simp[Region.wanted,hw])];exact h
theorem ahY{j:Nat}{b c:Bool}(hw:yielded ops l.toArray j=some c)(hbc:(c == b)=false)(h:ar P ops Q rest (Fr (l.set d undef) ds) w):ar P ops Q (bu (some d) op ty pos after (some (j,b))::rest) (Fr l ds) w:=by
 unfold ar;rw[if_neg (by simp[Region.wanted,hw];simpa using hbc)];show ar P ops Q rest ((Fr l ds).put (some d) undef) w
 rw[gL];exact h
theorem rI{j:Nat}(hw:yielded ops l.toArray j=some false)(h:ar P ops Q rest (Fr (l.set d undef) ds) w):ar P ops Q (bu (some d) op ty pos after (some (j,true))::rest) (Fr l ds) w:=ahY hw rfl h
theorem aeY{j:Nat}(hw:yielded ops l.toArray j=some true)(h:ar P ops Q rest (Fr (l.set d undef) ds) w):ar P ops Q (bu (some d) op ty pos after (some (j,false))::rest) (Fr l ds) w:=ahY hw rfl h
end
section
variable {ops:Array Oper} {Q:Act→Prop} {C:aj→Prop} {rest:List Oper} {d:Nat} {op:Op} {ty:az} {pos:String} {after:Array Edge} {v:ai}
theorem kN(hr:∀w,C w→Bb P l op ty v w)(h:cw P ops C Q rest (Fr (l.set d v) ds)):cw P ops C Q (bu (some d) op ty pos after none::rest) (Fr l ds):=by
 refine wpQuiet_step fun K hK=>?_;rw[if_pos (by simp[Region.wanted])];refine⟨v,fun w hw=>?_,?_⟩
 · unfold ma
   rw[kJ,hr w hw _ rfl rfl];exact⟨O,O⟩
 · show K ((Fr l ds).put (some d) v)
   rw[gL];exact hK _ h
theorem aG(hr:gN P l op ty v)(h:cw P ops C Q rest (Fr (l.set d v) ds)):cw P ops C Q (bu (some d) op ty pos after none::rest) (Fr l ds):=kN (fun w _=>hr w) h
theorem bC(h:Q (Fr l ds)):cw P ops C Q [] (Fr l ds):=h
theorem cZ{j:Nat}{b:Bool}(hw:yielded ops l.toArray j=some b)(h:cw P ops C Q (bu (some d) op ty pos after none::rest) (Fr l ds)):cw P ops C Q (bu (some d) op ty pos after (some (j,b))::rest) (Fr l ds):=by
 unfold cw at h ⊢;rw[if_pos (by simp[Region.wanted])] at h;rw[if_pos (by simp[Region.wanted,hw])];exact h
theorem ahZ{j:Nat}{b c:Bool}(hw:yielded ops l.toArray j=some c)(hbc:(c == b)=false)(h:cw P ops C Q rest (Fr (l.set d undef) ds)):cw P ops C Q (bu (some d) op ty pos after (some (j,b))::rest) (Fr l ds):=by
 unfold cw;rw[if_neg (by simp[Region.wanted,hw];simpa using hbc)];show cw P ops C Q rest ((Fr l ds).put (some d) undef)
 rw[gL];exact h
theorem pL{j:Nat}(hw:yielded ops l.toArray j=some false)(h:cw P ops C Q rest (Fr (l.set d undef) ds)):cw P ops C Q (bu (some d) op ty pos after (some (j,true))::rest) (Fr l ds):=ahZ hw rfl h
theorem Hn{j:Nat}(hw:yielded ops l.toArray j=some true)(h:cw P ops C Q rest (Fr (l.set d undef) ds)):cw P ops C Q (bu (some d) op ty pos after (some (j,false))::rest) (Fr l ds):=ahZ hw rfl h
end
/-! ### Values -/
section
variable {x y:bw} {T T' ty:az} {k:IntKind} {m n r:Int}
theorem aI:gN P l (.move x) ty (ev l x):=fun w o ho _=>by simp[dm,ho,cD]
theorem aO:gN P l (.assign x) ty (ev l x):=fun w o ho _=>by simp[dm,ho,cD]
theorem Yw{c:bw}{b:Bool}(hc:ev l c=.bool b):gN P l (.pick c x y) ty (if b then ev l x else ev l y):=fun w o ho _=>by
 simp[dm,ho,cD,hc,asBool]
theorem fB(hx:ev l x=.int k m)(hy:ev l y=.int k n)(hr:k.wrap (m+n)=r):gN P l (.binOp .add T x y T') ty (.int k r):=fun w o ho _=>by
 simp[dm,ho,cD,hx,hy,eqGuard,binOp,Op.intArith,hr]
theorem Aw(hx:ev l x=.int k m)(hy:ev l y=.int k n)(hr:k.wrap (m-n)=r):gN P l (.binOp .sub T x y T') ty (.int k r):=fun w o ho _=>by
 simp[dm,ho,cD,hx,hy,eqGuard,binOp,Op.intArith,hr]
theorem lC(hx:ev l x=.int k m)(hy:ev l y=.int k n)(hr:k.wrap (m*n)=r):gN P l (.binOp .mul T x y T') ty (.int k r):=fun w o ho _=>by
 simp[dm,ho,cD,hx,hy,eqGuard,binOp,Op.intArith,hr]
theorem rR(hx:ev l x=.int k m)(hy:ev l y=.int k n):gN P l (.binOp .lss T x y T') ty (.bool (decide (m<n))):=fun w o ho _=>by
 simp[dm,ho,cD,hx,hy,eqGuard,binOp,Op.intCmp]
theorem Fj(hx:ev l x=.int k m)(hy:ev l y=.int k n):gN P l (.binOp .leq T x y T') ty (.bool (decide (m≤n))):=fun w o ho _=>by
 simp[dm,ho,cD,hx,hy,eqGuard,binOp,Op.intCmp]
theorem aa1(hx:ev l x=.int k m)(hy:ev l y=.int k n):gN P l (.binOp .gtr T x y T') ty (.bool (decide (n<m))):=fun w o ho _=>by
 simp[dm,ho,cD,hx,hy,eqGuard,binOp,Op.intCmp]
theorem Ho(hx:ev l x=.int k m)(hy:ev l y=.int k n):gN P l (.binOp .geq T x y T') ty (.bool (decide (n≤m))):=fun w o ho _=>by
 simp[dm,ho,cD,hx,hy,eqGuard,binOp,Op.intCmp]
theorem uJ(hx:ev l x=.int k m)(hy:ev l y=.int k n):gN P l (.binOp .eql T x y T') ty (.bool (decide (m=n))):=fun w o ho _=>by
 simp[dm,ho,cD,hx,hy,eqGuard,binOp,Op.intCmp];cases h:(m == n) <;> simp_all
theorem rS(hx:ev l x=.int k m)(hy:ev l y=.int k n):gN P l (.binOp .neq T x y T') ty (.bool (decide (m≠n))):=fun w o ho _=>by
 simp[dm,ho,cD,hx,hy,eqGuard,binOp,Op.intCmp];cases h:(m != n) <;> simp_all
theorem jG(hx:ev l x=.int k m)(hy:ev l y=.int k n)(h0:n≠0)(hr:k.wrap (m.tdiv n)=r):gN P l (.binOp .quo T x y T') ty (.int k r):=fun w o ho _=>by
 simp[dm,ho,cD,hx,hy,eqGuard,binOp,Op.intDiv,h0,hr]
theorem cP(hx:ev l x=.int k m)(hy:ev l y=.int k n)(h0:n≠0)(hr:m.tmod n=r):gN P l (.binOp .rem T x y T') ty (.int k r):=fun w o ho _=>by
 simp[dm,ho,cD,hx,hy,eqGuard,binOp,Op.intDiv,h0,hr]
theorem lQ(hx:ev l x=.int k m)(hy:ev l y=.int k n)(hr:k.wrap ((ew k.bits m &&& ew k.bits n).toNat:Int)=r):gN P l (.binOp .and T x y T') ty (.int k r):=fun w o ho _=>by
 subst hr;simp[dm,ho,cD,hx,hy,eqGuard,binOp,Op.intBits]
theorem auc(hx:ev l x=.int k m)(hy:ev l y=.int k n)(hr:k.wrap ((ew k.bits m ||| ew k.bits n).toNat:Int)=r):gN P l (.binOp .or T x y T') ty (.int k r):=fun w o ho _=>by
 subst hr;simp[dm,ho,cD,hx,hy,eqGuard,binOp,Op.intBits]
theorem qQ{k':IntKind}(hx:ev l x=.int k m)(hy:ev l y=.int k' n)(h0:0≤n)(hr:k.wrap (m*2^(min n.toNat k.bits))=r):gN P l (.binOp .shl T x y T') ty (.int k r):=fun w o ho _=>by
 subst hr;simp[dm,ho,cD,hx,hy,eqGuard,binOp,Op.shift,qu.2 h0]
theorem lD{k':IntKind}(hx:ev l x=.int k m)(hy:ev l y=.int k' n)(h0:0≤n)(hr:m.fdiv (2^(min n.toNat k.bits))=r):gN P l (.binOp .shr T x y T') ty (.int k r):=fun w o ho _=>by
 subst hr;simp[dm,ho,cD,hx,hy,eqGuard,binOp,Op.shift,qu.2 h0]
theorem rT{b:Bool}(hx:ev l x=.bool b):gN P l (.unOp .not T x) ty (.bool (!b)):=fun w o ho _=>by
 simp[dm,ho,cD,hx,Op.unary]
theorem uK(hx:ev l x=.int k m)(hr:k.wrap (0-m)=r):gN P l (.unOp .neg T x) ty (.int k r):=fun w o ho _=>by
 subst hr;simp[dm,ho,cD,hx,Op.unary,Op.intArith]
theorem jA(hd:P.underlying T'=some (.int k)){k':IntKind}{dd:TypeDesc}(hs:P.underlying T=some dd)(hx:ev l x=.int k' m)(hr:k.wrap m=r):gN P l (.convert T T' x) ty (.int k r):=fun w o ho _=>by
 subst hr;simp[dm,ho,cD,hx,convert,cd hs,cd hd,Conv.intToInt]
theorem eY{vs:Array ai}{v:ai}(hx:ev l x=.tuple vs)(hi:vs[i]? = some v):gN P l (.extract x i) ty v:=fun w o ho _=>by
 simp[dm,ho,cD,hx,Instr.extract,hi]
theorem fW{fn:Fn}{first captured:Array bw}:gN P l (.makeFunc fn first captured) ty (.func fn (first.map (ev l)) (captured.map (ev l))):=fun w o ho _=>by
 have e:(Fr l).eval=ev l:=funext cD;simp[dm,ho,e,Instr.makeFunc]
theorem Kv{E:az}{A:Option Addr}{n c:Nat}{a0:Array az}(ha:a0 = #[T])(hu:P.underlying T=some (.slice E))(hx:ev l x=.slice A n c):gN P l (.call { callee:=.builtin .len,args:=#[x],argTypes:=a0 }) ty (.int .i64 n):=fun w o ho _=>by
 subst ha;simp[dm,ho,resolve,invoke,builtin,Builtin.len_,cD,hx,cd hu,goInt]
theorem uL{s:ByteArray}{a0:Array az}(ha:a0 = #[T])(hu:P.underlying T=some .string)(hx:ev l x=.string s):gN P l (.call { callee:=.builtin .len,args:=#[x],argTypes:=a0 }) ty (.int .i64 s.size):=fun w o ho _=>by
 subst ha;simp[dm,ho,resolve,invoke,builtin,Builtin.len_,cD,hx,cd hu,goInt]
theorem asj{a0:Array az}(hx:ev l x=.int k m)(hy:ev l y=.int k n)(hr:(if n<m then n else m)=r):gN P l (.call { callee:=.builtin .min,args:=#[x,y],argTypes:=a0 }) ty (.int k r):=fun w o ho _=>by
 subst hr;simp[dm,ho,resolve,invoke,builtin,Builtin.min_,Builtin.min2,cD,hx,hy]
theorem wW{a0:Array az}(hx:ev l x=.int k m)(hy:ev l y=.int k n)(hr:(if m<n then n else m)=r):gN P l (.call { callee:=.builtin .max,args:=#[x,y],argTypes:=a0 }) ty (.int k r):=fun w o ho _=>by
 subst hr;simp[dm,ho,resolve,invoke,builtin,Builtin.max_,Builtin.max2,cD,hx,hy]
end
/-! ### Addresses -/
section
variable {x y:bw} {T T' ty:az} {k:IntKind} {m n r:Int}
theorem aV{fs:Array Field}{i c:Nat}{f:Field}{a b:Addr}(hu:P.underlying T=some (.struct fs))(hf:fs[i]? = some f)(hc:dO P f.type (c+1))(hx:ev l x=.pointer (some a))(hb:a.add f.offset=b) :
 gN P l (.fieldAddr T x i) ty (.pointer (some b)):=fun w o ho _=>by
 subst hb;obtain⟨inf,hi,hz⟩:=hc;have hz':¬inf.size=0:=by omega
 simp[dm,ho,cD,hx,Instr.fieldAt,cd hu,hf,Instr.sureAddr,fieldPlace,sizeOf,typeInfo,hi,hz']
theorem aK{E:az}{len:Nat}{c:Nat}{a b:Addr}(hu:P.underlying T=some (.array len E))(hc:dO P E c)(hx:ev l x=.pointer (some a))(hy:ev l y=.int k m)(h0:0≤m)(h1:m<len)(hb:a.add (m.toNat*c)=b) :
 gN P l (.indexAddr T x y) ty (.pointer (some b)):=fun w o ho _=>by
 subst hb;obtain⟨inf,hi,rfl⟩:=hc;simp[dm,ho,cD,hx,hy,Instr.indexAt,asIntOf,cd hu,Instr.sureAddr,sizeOf,typeInfo,hi,h0,h1]
theorem aF{E:az}{len cap:Nat}{c:Nat}{a b:Addr}(hu:P.underlying T=some (.slice E))(hc:dO P E c)(hx:ev l x=.slice (some a) len cap)(hy:ev l y=.int k m)(h0:0≤m)(h1:m<len)(hb:a.add (m.toNat*c)=b) :
 gN P l (.indexAddr T x y) ty (.pointer (some b)):=fun w o ho _=>by
 subst hb;obtain⟨inf,hi,rfl⟩:=hc;simp[dm,ho,cD,hx,hy,Instr.indexAt,asIntOf,cd hu,sizeOf,typeInfo,hi,h0,h1]
end
/-! ### Memory -/
section
variable {x y:bw} {T T' ty:az} {w:aj}
def fZ(P:br)(w:aj)(T:az)(a:Addr)(v:ai):Prop:=(loadVar T a).run P w=.ok v w
theorem mX.lies{cs:List ai}(h:mX w a cs)(hA:eU P T true)(hc:dO P T cs.length):fZ P w T a (.agg cs.toArray):=by
 obtain⟨dd,hu,hd⟩:=hA;obtain⟨inf,hi,hn⟩:=hc;have hl:=run_loadCells_list (P:=P) w a cs (fun j v hv=>h j v hv);have hagg:(isAgg T).run P w=.ok true w:=by
  unfold isAgg;rw[Sem.run_bind,cd hu w];cases dd <;> simp_all [Dv]
 unfold fZ;simp[loadVar,Sem.run_bind,hagg,sizeOf,typeInfo,hi,hn,hl]
theorem lies1{v:ai}(h:w.cell? a=some v)(hA:eU P T false):fZ P w T a v:=by
 obtain⟨dd,hu,hd⟩:=hA;have hagg:(isAgg T).run P w=.ok false w:=by
  unfold isAgg;rw[Sem.run_bind,cd hu w];cases dd <;> simp_all [Dv]
 unfold fZ;simp[loadVar,Sem.run_bind,hagg,load,Sem.run,h]
theorem fR.cell{g:Nat}{cs:List ai}{t:az}(h:fR w g cs t){v:ai}(hi:cs[i]? = some v):w.cell? ⟨g,i,none⟩=some v:=by
 rw[cell_of_row w g i cs.toArray t (0,0) h];simpa using hi
theorem fR.lies1{g:Nat}{cs:List ai}{t:az}{v:ai}(h:fR w g cs t)(hA:eU P T false)(hi:cs[i]? = some v):fZ P w T ⟨g,i,none⟩ v:=Lith.lies1 (h.cell hi) hA
theorem fR.lies{g n:Nat}{cs us:List ai}{t:az}(h:fR w g cs t)(hA:eU P T true)(hc:dO P T n)(hu:(cs.drop i).take n=us)(hn:us.length=n):fZ P w T ⟨g,i,none⟩ (.agg us.toArray):=by
 subst hu;exact ((h.row i).take n).lies hA (by rw[hn];exact hc)
theorem aZ{v:ai}(hx:ev l x=.pointer (some a))(hv:fZ P w T a v):Bb P l (.load T x) ty v w:=fun o ho _=>by
 unfold fZ at hv;simp[dm,ho,cD,hx,Instr.loadAt,Instr.sureAddr,hv]
variable {ops:Array Oper} {Q:Exit→Act→aj→Prop} {rest:List Oper} {d:Nat} {op:Op} {pos:String} {after:Array Edge} {v:ai}
theorem aR(hx:ev l x=.pointer (some a))(hv:fZ P w T a v)(h:ar P ops Q rest (Fr (l.set d v) ds) w):ar P ops Q (bu (some d) (.load T x) ty pos after none::rest) (Fr l ds) w :=
 fG (aZ hx hv) h
theorem Hp{w':aj}(hr:∀o:Oper,o.op=op→(dm (Fr l).eval o).run P w=.ok .skip w')(h:ar P ops Q rest (Fr l ds) w'):ar P ops Q (bu none op ty pos after none::rest) (Fr l ds) w:=by
 refine wpList_plain O fun K hK=>?_;unfold mr;rw[kJ,hr _ rfl];exact hK _ _ h
theorem mM{w':aj}(hr:∀o:Oper,o.op=op→o.type=ty→(dm (Fr l).eval o).run P w=.ok (.value v) w')(h:ar P ops Q rest (Fr (l.set d v) ds) w'):ar P ops Q (bu (some d) op ty pos after none::rest) (Fr l ds) w:=by
 refine wpList_plain O fun K hK=>?_;unfold mr;rw[kJ,hr _ rfl rfl];show K ((Fr l ds).put (some d) v) w'
 rw[gL];exact hK _ _ h
theorem jH(w:aj)(cs:List ai)(t:az):fR (w.alloc (.cells cs.toArray t)) w.heap.size cs t:=heap_alloc_new w _
theorem ah0{cs:List ai}(hv:(ev l x).cells=cs.toArray)(h:∀w' g,fQ w w'→w.heap.size≤g→fR w' g cs T→ar P ops Q rest (Fr (l.set d (.pointer (some ⟨g,0,none⟩))) ds) w') :
 ar P ops Q (bu (some d) (.box T x) ty pos after none::rest) (Fr l ds) w :=
 mM (w':=w.alloc (.cells cs.toArray T)) (v:=.pointer (some ⟨w.heap.size,0,none⟩)) (fun o ho _=>by simp[dm,ho,cD,Instr.box,newVar,newRow,hv,newObj,Sem.run]) (h _ _ ((fQ.refl w).alloc _) (aq _) (jH w cs T))
theorem Dw{cs:List ai}{z:ai}(hZ:oD P T z)(hv:z.cells=cs.toArray)(h:∀w' g,fQ w w'→w.heap.size≤g→fR w' g cs T→ar P ops Q rest (Fr (l.set d (.pointer (some ⟨g,0,none⟩))) ds) w') :
 ar P ops Q (bu (some d) (.alloc T) ty pos after none::rest) (Fr l ds) w:=by
 obtain⟨inf,hi,hz⟩:=hZ;exact mM (w':=w.alloc (.cells cs.toArray T)) (v:=.pointer (some ⟨w.heap.size,0,none⟩)) (fun o ho _=>by simp[dm,ho,Instr.alloc,zeroValue,typeInfo,hi,hz,newVar,newRow,hv,newObj,Sem.run]) (h _ _ ((fQ.refl w).alloc _) (aq _) (jH w cs T))
def over(cs:List ai)(off:Nat)(us:List ai):List ai:=cs.take off++us++cs.drop (off+us.length)
theorem Bl{cs us:List ai}{off:Nat}(h:off+us.length≤cs.length):(over cs off us).length=cs.length:=by simp[over];omega
theorem Qg(w:aj)(g:Nat)(cs:Array ai):Chg w (w.setRow g cs) g:=⟨rfl,rfl,rfl,by simp,fun k hk=>setRow_other w g k cs hk⟩
theorem Hq{g off:Nat}{cs us:List ai}{t:az}(hc:dO P T us.length)(hv:v.cells=us.toArray)(hB:fR w g cs t)(hfit:off+us.length≤cs.length)(h1:∀u∈us,u.oneCell'=true) :
 (storeVar T ⟨g,off,none⟩ v).run P w=.ok () (w.setRow g (over cs off us).toArray):=by
 obtain⟨inf,hi,hn⟩:=hc;have hst:=run_storeCells_at P g off t us 0 cs.toArray w hB (by simpa using hfit) h1;simp only[Nat.add_zero,ff] at hst;simp[storeVar,hv,sizeOf,typeInfo,hi,hn,hst,over]
theorem yD{g off:Nat}{cs us:List ai}{t:az}(hx:ev l x=.pointer (some ⟨g,off,none⟩))(hv:(ev l y).cells=us.toArray)(hc:dO P T us.length)(hB:fR w g cs t)(hfit:off+us.length≤cs.length)(h1:∀u∈us,u.oneCell'=true)
 (h:∀w',Chg w w' g→fR w' g (over cs off us) t→ar P ops Q rest (Fr l ds) w'):ar P ops Q (bu none (.store T x y) ty pos after none::rest) (Fr l ds) w :=
 Hp (w':=w.setRow g (over cs off us).toArray) (fun o ho=>by simp[dm,ho,cD,hx,Instr.storeAt,Instr.sureAddr,Hq hc hv hB hfit h1]) (h _ (Qg w g _) (setRow_heap w g cs.toArray _ t _ hB))
/-! ### Calls -/
def Entr(P:br)(f:FuncId):Prop:=∃fn,P.funcs[f]? = some fn∧(fn.name == "runtime.NumGoroutine")=false∧fn.body.isNone=false
theorem bK{P:br}{f:FuncId}(h:P.funcs[f]? = some fn) (hb:(!(fn.name == "runtime.NumGoroutine") && !fn.body.isNone)=true):Entr P f:=by
 simp only[be,fj] at hb;exact⟨fn,h,hb.1,hb.2⟩
def dQ(P:br)(f:FuncId)(args:List ai)(w:aj)(R:ai→aj→Prop):Prop :=
 Entr P f∧Calls P f args.toArray w fun e w'=>∃v,e=.returned v∧fQ w w'∧R v w'
def dT(P:br)(f:FuncId)(args:List ai)(v:ai):Prop:=∀w,dQ P f args w fun u _=>u=v
theorem tJ{f:FuncId}{args:Array ai}(h:Entr P f):(callFunc f args).run P w=.ok (.enter f args) w:=by
 obtain⟨fn,hf,hn,hb⟩:=h;have hn':¬fn.name = "runtime.NumGoroutine" := by simpa using hn
 have hb':¬fn.body=none:=by intro h;rw[h] at hb;cases hb
 simp[callFunc,hf,hn',hb']
theorem pM{f:FuncId}{fo:bw}{xs:Array bw}{args:List ai}{first cap:Array ai}{a0:Array az}(h:Entr P f)(hf:ev l fo=.func (.func f) first cap)(hxs:first.toList++xs.toList.map (ev l)++cap.toList=args)(o:Oper)(ho:o.op=.call { callee:=.value fo,args:=xs,argTypes:=a0 }) :
 (dm (Fr l).eval o).run P w=.ok (.enter f args.toArray) w:=by
 have e:(Fr l).eval=ev l:=funext cD;have ea:args.toArray=first++xs.map (ev l)++cap:=by
  rw[←hxs];apply pw;simp
 simp[dm,ho,resolve,e,hf,Deferred.ofValue,invoke,tJ h,ea]
theorem bJ{f:FuncId}{fo:bw}{xs:Array bw}{args:List ai}{first cap:Array ai}{a0:Array az}{R:ai→aj→Prop}(hf:ev l fo=.func (.func f) first cap)(hxs:first.toList++xs.toList.map (ev l)++cap.toList=args)(hc:dQ P f args w R)
 (h:∀v w',fQ w w'→R v w'→ar P ops Q rest (Fr (l.set d v) ds) w'):ar P ops Q (bu (some d) (.call { callee:=.value fo,args:=xs,argTypes:=a0 }) ty pos after none::rest) (Fr l ds) w:=by
 refine wpList_plain O fun K hK=>?_;unfold mr;rw[kJ,pM hc.1 hf hxs _ rfl];refine hc.2.mono ?_;rintro e w' ⟨v,rfl,hE,hR⟩;show K ((Fr l ds).put (some d) v) w'
 rw[gL];exact hK _ _ (h v w' hE hR)
theorem Yx{f:FuncId}{fo:bw}{xs:Array bw}{args:List ai}{first cap:Array ai}{a0:Array az}(hf:ev l fo=.func (.func f) first cap)(hxs:first.toList++xs.toList.map (ev l)++cap.toList=args)(hc:dT P f args v)
 (h:∀w',fQ w w'→ar P ops Q rest (Fr (l.set d v) ds) w'):ar P ops Q (bu (some d) (.call { callee:=.value fo,args:=xs,argTypes:=a0 }) ty pos after none::rest) (Fr l ds) w :=
 bJ hf hxs (hc w) fun _ w' hE hR=>hR▸h w' hE
end
section
variable {x y:bw} {T T' ty:az} {w:aj}
variable {ops:Array Oper} {Q:Act→Prop} {rest:List Oper} {d:Nat} {op:Op} {pos:String} {after:Array Edge} {v:ai}
end
/-! ### Code -/
section
variable {Q:Exit→Act→aj→Prop} {w:aj} {c c1 c2:Code}
theorem bE{a:Act}(h:∀K:Act→aj→Prop,(∀a w,c2.wp P Q a w→K a w)→c1.wp P (Exit.then K Q) a w):(Code.seq c1 c2).wp P Q a w:=wp_seq_k h
theorem gF{x:bw}{b:Bool}(hx:ev l x=.bool b)(ht:b=true→c1.wp P Q (Fr l ds) w)(hf:b=false→c2.wp P Q (Fr l ds) w):(Code.cond x c1 c2).wp P Q (Fr l ds) w :=
 wp_cond_split (by rw[kJ,cD];exact hx) ht hf
theorem bG{x:bw}{p:Prop}[Decidable p](hx:ev l x=.bool (decide p))(ht:p→c1.wp P Q (Fr l ds) w)(hf:¬p→c2.wp P Q (Fr l ds) w):(Code.cond x c1 c2).wp P Q (Fr l ds) w :=
 gF hx (fun h=>ht (of_decide_eq_true h)) (fun h=>hf (of_decide_eq_false h))
theorem Bm{x:bw}(hx:ev l x=.bool true)(ht:c1.wp P Q (Fr l ds) w):(Code.cond x c1 c2).wp P Q (Fr l ds) w:=gF hx (fun _=>ht) (fun h=>by cases h)
theorem af9{x:bw}(hx:ev l x=.bool false)(hf:c2.wp P Q (Fr l ds) w):(Code.cond x c1 c2).wp P Q (Fr l ds) w:=gF hx (fun h=>by cases h) (fun _=>hf)
def Res(P:br)(l:List ai)(w:aj):ResultVar→ai→Prop
 | .tmp t,v=>l.getD t undef=v
 | .cell t T,v=>∃a,l.getD t undef=.pointer (some a)∧fZ P w T a v
theorem Kx{r:ResultVar}{v:ai}(h:Res P l w r v):(∃t,r=.tmp t∧l[t]?.getD undef=v)∨(∃t T a,r=.cell t T∧l[t]?.getD undef=.pointer (some a)∧(loadVar T a).run P w=.ok v w):=by
 cases r with
 | tmp t=>exact .inl ⟨t,rfl,by simpa[Res] using h⟩
 | cell t T =>
  obtain⟨a,ha,hl⟩:=h;exact .inr ⟨t,T,a,O,by simpa using ha,hl⟩
theorem aT{R:Ending→aj→Prop}{r:ResultVar}{v:ai}(hr:fn.results = #[r])(h:Res P l w r v)(hR:R (.returned v) w):bodyPost P fn R .ret (Fr l) w:=by
 refine⟨O,v,?_,hR⟩;unfold results;rw[hr];rcases Kx h with ⟨t,rfl,h1⟩ | ⟨t,T,a,rfl,h1,h2⟩ <;> simp[*,asAddr]
theorem yE{R:Ending→aj→Prop}{r r':ResultVar}{v v':ai}(hr:fn.results = #[r,r'])(h:Res P l w r v)(h':Res P l w r' v')(hR:R (.returned (.tuple #[v,v'])) w):bodyPost P fn R .ret (Fr l) w:=by
 refine⟨O,_,?_,hR⟩;unfold results;rw[hr];rcases Kx h with ⟨t,rfl,h1⟩ | ⟨t,T,a,rfl,h1,h2⟩ <;> rcases Kx h' with ⟨t',rfl,h1'⟩ | ⟨t',T',a',rfl,h1',h2'⟩ <;> simp[*,asAddr]
end
end
/-! ### Numbers,loops,further values -/
theorem bM(h0 : -9223372036854775808≤x)(h1:x<9223372036854775808):IntKind.i64.wrap x=x:=by
 simp[n_,oa,mx];split <;> omega
theorem wX(h0:0≤x)(h1:x<18446744073709551616):IntKind.u64.wrap x=x:=by
 simp[n_,oa,mx];omega
theorem ah1(h0:0≤x)(h1:x<4294967296):IntKind.u32.wrap x=x:=by
 simp[n_,oa,mx];omega
theorem ah2(h0 : -2147483648≤x)(h1:x<2147483648):IntKind.i32.wrap x=x:=by
 simp[n_,oa,mx];split <;> omega
theorem aeZ(h0:0≤x)(h1:x<256):IntKind.u8.wrap x=x:=by
 simp[n_,oa,mx];omega
def fA:List ai→List Nat→List ai→List ai
 | l,t::ts,v::vs=>fA (l.set t v) ts vs
 | l,_,_=>l
theorem Yy{t:Nat}{ts:List Nat}{v:ai}{vs:List ai}:fA l (t::ts) (v::vs)=fA (l.set t v) ts vs:=rfl
theorem Bn{vs:List ai}:fA l [] vs=l:=by cases vs <;> rfl
theorem aa2{t:Nat}:l.set t (l.getD t undef)=l:=by
 apply fw;intro i;rw[List.getElem?_set];split
 · rename_i h;subst h
   split
   · rename_i h;simp[h]
   · rename_i h;simp at h;simp[h]
 · rfl
theorem Hr:∀(ts:List Nat) (l:List ai),fA l ts (ts.map (l.getD · undef))=l
 | [],l=>Bn
 | t::ts,l=>by
  simp only[bj,Yy,aa2];exact Hr ts l
theorem yF{p:Nat→Prop}(h:∃n,p n):∃n,p n∧∀m,p m→n≤m:=by
 obtain⟨n,hn⟩:=h
 induction n using Nat.strongRecOn with
 | _ n ih =>
  by_cases hx:∃m,m<n∧p m
  · obtain⟨m,hm,hp⟩:=hx;exact ih m hm hp
  · exact⟨n,hn,fun m hm=>Nat.le_of_not_lt fun hlt=>hx ⟨m,hlt,hm⟩⟩
noncomputable def Qh(p:Nat→Prop)(h:∃n,p n):Nat:=(yF h).choose
theorem aa3{p:Nat→Prop}(h:∃n,p n):p (Qh p h):=(yF h).choose_spec.1
theorem aga{p:Nat→Prop}(h:∃n,p n){m:Nat}(hm:p m):Qh p h≤m:=(yF h).choose_spec.2 m hm
section
variable {P:br} {ds:List dz} {l:List ai}
end
/-! ### Parts of values,slices,new slices -/
section
variable {P:br} {ds:List dz} {l:List ai} {x y:bw} {T T' ty:az} {k:IntKind} {m n r:Int}
theorem pN{b:Bool}(h:eU P T b)(w:aj):(isAgg T).run P w=.ok b w:=by
 obtain⟨dd,hu,hd⟩:=h;unfold isAgg;rw[Sem.run_bind,cd hu w];cases dd <;> simp_all [Dv]
theorem eG{c:Nat}(h:dO P T c)(w:aj):(sizeOf T).run P w=.ok c w:=by
 obtain⟨inf,hi,rfl⟩:=h;simp[sizeOf,typeInfo,hi]
theorem lE(cs:Array ai):(Value.agg cs).cells=cs:=rfl
theorem oN{parts:Array (Nat × bw)}{vs:Array (Nat × ai)}{v:ai}(hp:(parts.map fun (i,x)=>(i,ev l x))=vs)(h:∀w,(Instr.build T vs).run P w=.ok v w):gN P l (.build T parts) ty v:=fun w o ho _=>by
 have e:(Fr l).eval=ev l:=funext cD;subst hp;simp only[dm,ho,e];rw[Sem.run_bind,h w];rfl
theorem gT{fs:Array Field}{places:Array (Nat × Nat)}{z:ai}{cells:Array ai}{vs:Array (Nat × ai)}(hu:P.underlying T=some (.struct fs))(hz:oD P T z)
 (hpl:∀w,(fs.mapM fun f=>do pure (f.offset,←sizeOf f.type):Sem (Array (Nat × Nat))).run P w=.ok places w) (hf:Instr.fill (places[·]?) z.cells vs.toList=some cells) (w:aj):(Instr.build T vs).run P w=.ok (.agg cells) w:=by
 obtain⟨inf,hi,h0⟩:=hz;simp only[Instr.build,zeroValue,typeInfo];simp[hi,h0,cd hu];have:=hpl w;simp at this;simp[this,hf]
theorem kP{E:az}{n c:Nat}{z:ai}{cells:Array ai}{vs:Array (Nat × ai)}(hu:P.underlying T=some (.array n E))(hz:oD P T z)(hc:dO P E c)
 (hf:Instr.fill (fun i=>some (i*c,c)) z.cells vs.toList=some cells) (w:aj):(Instr.build T vs).run P w=.ok (.agg cells) w:=by
 obtain⟨inf,hi,h0⟩:=hz;simp only[Instr.build,zeroValue,typeInfo];simp[hi,h0,cd hu,eG hc,hf]
theorem ah3{fs:Array Field}{i:Nat}{f:Field}{cs:Array ai}{v:ai}(hu:P.underlying T=some (.struct fs))(hf:fs[i]? = some f)(hA:eU P f.type false)(hx:ev l x=.agg cs)(hv:cs[f.offset]? = some v) :
 gN P l (.field T x i) ty v:=fun w o ho _=>by
 simp[dm,ho,cD,hx,Instr.field,cd hu,hf,asAgg,part,pN hA,hv]
theorem ah4{fs:Array Field}{i c:Nat}{f:Field}{cs us:Array ai}(hu:P.underlying T=some (.struct fs))(hf:fs[i]? = some f)(hA:eU P f.type true)(hc:dO P f.type c)(hx:ev l x=.agg cs)(hv:cs.extract f.offset (f.offset+c)=us) :
 gN P l (.field T x i) ty (.agg us):=fun w o ho _=>by
 subst hv;simp[dm,ho,cD,hx,Instr.field,cd hu,hf,asAgg,part,pN hA,eG hc]
theorem pO{E:az}{len c:Nat}{cs:Array ai}{v:ai}(hu:P.underlying T=some (.array len E))(hA:eU P E false)(hc:dO P E c)(hx:ev l x=.agg cs)(hy:ev l y=.int k m)(h0:0≤m)(h1:m<len)(hv:cs[m.toNat*c]? = some v) :
 gN P l (.index T x y) ty v:=fun w o ho _=>by
 simp[dm,ho,cD,hx,hy,Instr.index,asIntOf,cd hu,h0,h1,part,pN hA,eG hc,hv]
theorem pP{E:az}{len c:Nat}{cs us:Array ai}(hu:P.underlying T=some (.array len E))(hA:eU P E true)(hc:dO P E c)(hx:ev l x=.agg cs)(hy:ev l y=.int k m)(h0:0≤m)(h1:m<len)(hv:cs.extract (m.toNat*c) (m.toNat*c+c)=us) :
 gN P l (.index T x y) ty (.agg us):=fun w o ho _=>by
 subst hv;simp[dm,ho,cD,hx,hy,Instr.index,asIntOf,cd hu,h0,h1,part,pN hA,eG hc]
theorem oQ{s:ByteArray}{b:UInt8}(hu:P.underlying T=some .string)(hx:ev l x=.string s)(hy:ev l y=.int k m)(h0:0≤m)(hb:s[m.toNat]? = some b) :
 gN P l (.index T x y) ty (.int .u8 b.toNat):=fun w o ho _=>by
 simp[dm,ho,cD,hx,hy,Instr.index,asIntOf,cd hu,h0,hb]
theorem mF{E:az}{A:Option Addr}{len cap c:Nat}(hu:P.underlying T=some (.slice E))(hc:dO P E c){q:Nat}(hx:ev l x=.slice A len cap)(hy:ev l y=.int k m)(hq:m.toNat=q)(h0:0≤m)(h1:m≤cap) :
 gN P l (.slice T x none (some y) none) ty (.slice A q cap):=fun w o ho _=>by
 subst hq;have e:(if cap=0 then A else Option.map (fun a=>a.add 0) A)=A:=by
  split
  · rfl
  · cases A <;> simp[Addr.add]
 have h1':¬(m.toNat:Int)>cap:=by omega
 simp[dm,ho,cD,hx,hy,Instr.sliceAt,Instr.slice,Instr.sliceBounds,Instr.sliceBound,asIntOf,cd hu,h0,h1,eG hc];intro _;cases A <;> simp[Addr.add]
theorem uA{E:az}{A A':Option Addr}{len cap c:Nat}(hu:P.underlying T=some (.slice E))(hc:dO P E c){q:Nat}(hx:ev l x=.slice A len cap)(hy:ev l y=.int k m)(hq:m.toNat=q)(h0:0≤m)(h1:m≤len)(hA:(if cap=q then A else A.map (·.add (q*c)))=A') :
 gN P l (.slice T x (some y) none none) ty (.slice A' (len-q) (cap-q)):=fun w o ho _=>by
 subst hq;subst hA;simp[dm,ho,cD,hx,hy,Instr.sliceAt,Instr.slice,Instr.sliceBounds,Instr.sliceBound,asIntOf,cd hu,h0,h1,eG hc]
theorem ah5{s:ByteArray}(hu:P.underlying T=some .string)(hx:ev l x=.string s)(hy:ev l y=.int k m)(h0:0≤m)(h1:m≤s.size) :
 gN P l (.slice T x (some y) none none) ty (.string (s.extract m.toNat s.size)):=fun w o ho _=>by
 simp[dm,ho,cD,hx,hy,Instr.sliceAt,Instr.slice,Instr.sliceBounds,Instr.sliceBound,asIntOf,cd hu,h0,h1]
variable {ops:Array Oper} {Q:Exit→Act→aj→Prop} {rest:List Oper} {d:Nat} {pos:String} {after:Array Edge} {w:aj}
theorem tK{E:az}{b:Nat}{kc:IntKind}{z:ai}(hu:P.underlying T=some (.slice E))(hi:(P.info? E).map (fun i=>(i.size,i.bytes,i.zero))=some (1,b,some z))(hzc:z.cells = #[z]){q q':Nat}(hx:ev l x=.int k m)(hy:ev l y=.int kc n)(hq:m.toNat=q)(hq':n.toNat=q')(h0:0≤m)(h1:m≤n)(hn:n≤9223372036854775807)(hb:(b:Int)*n≤281474976710656)
 (h:∀w' g,fQ w w'→w.heap.size≤g→fR w' g (cl q' z) E→ar P ops Q rest (Fr (l.set d (.slice (some ⟨g,0,none⟩) q q')) ds) w') :
 ar P ops Q (bu (some d) (.makeSlice T x y) ty pos after none::rest) (Fr l ds) w:=by
 subst hq;subst hq';cases hq:P.info? E with
 | none=>rw[hq] at hi;cases hi
 | some i =>
  rw[hq] at hi;simp only[fm,gw,ft] at hi;obtain⟨e1,e2,e3⟩:=hi;subst e2;have hr:=run_make (P:=P) w T E i z hu hq e3 k kc m n h0 h1 hb hn;have hc:madeCells z.cells (n.toNat*i.size)=(cl n.toNat z).toArray:=by
   rw[e1,hzc,lz];apply pw;rw[toList_madeCells_one]
  rw[hc] at hr;exact mM (fun o ho _=>by simp[dm,ho,cD,hx,hy,hr]) (h _ _ ((fQ.refl w).alloc _) (aq _) (jH w _ E))
def ah6(w:aj)(base:Nat)(e:az)(size:Nat)(v:ai)(n:Nat)(xs:List ai):Prop:=w.ownsRow base e size v n xs
theorem ah6.row{w:aj}{base:Nat}{e:az}{size:Nat}{v:ai}{n:Nat}{xs:List ai}(h:ah6 w base e size v n xs):(v=.slice none 0 0∧n=0∧xs=[])∨∃g cap,v=.slice (some ⟨g,0,none⟩) n cap∧base≤g∧n≤cap∧cap≤maxLen∧g<w.heap.size∧mX w ⟨g,0,none⟩ xs:=by
 rcases h.2 with ⟨rfl,rfl⟩ | ⟨g,cap,cur,rfl,hbg,hg,h1,h2,h3,h4⟩
 · exact .inl ⟨O,O,et (by simpa using h.1)⟩
 · refine .inr ⟨g,cap,O,hbg,h1,h2,(ee.1 hg).1,fun j u hj=>?_⟩
   rw[eD,au,cell_of_row w g j cur e (0,0) hg];rw[←h4,d_] at hj;split at hj
   · simpa using hj
   · cases hj
end
section
variable {P:br} {ds:List dz} {l:List ai} {x y:bw} {T T' ty:az} {k:IntKind} {m n r:Int}
theorem qW(hx:ev l x=.int k m)(hy:ev l y=.int k n)(h:m<n):gN P l (.binOp .lss T x y T') ty (.bool true):=by
 have:=rR (P:=P) (T:=T) (T':=T') (ty:=ty) hx hy;rwa [decide_eq_true h] at this
theorem Gf(hx:ev l x=.int k m)(hy:ev l y=.int k n)(h:¬m<n):gN P l (.binOp .lss T x y T') ty (.bool false):=by
 have:=rR (P:=P) (T:=T) (T':=T') (ty:=ty) hx hy;rwa [decide_eq_false h] at this
theorem yG(hx:ev l x=.int k m)(hy:ev l y=.int k n)(h:m=n):gN P l (.binOp .eql T x y T') ty (.bool true):=by
 have:=uJ (P:=P) (T:=T) (T':=T') (ty:=ty) hx hy;rwa [decide_eq_true h] at this
theorem Yz(hx:ev l x=.int k m)(hy:ev l y=.int k n)(h:¬m=n):gN P l (.binOp .eql T x y T') ty (.bool false):=by
 have:=uJ (P:=P) (T:=T) (T':=T') (ty:=ty) hx hy;rwa [decide_eq_false h] at this
theorem tL{c:bw}(hc:ev l c=.bool true):gN P l (.pick c x y) ty (ev l x):=Yw hc
theorem Hs{c:bw}(hc:ev l c=.bool false):gN P l (.pick c x y) ty (ev l y):=Yw hc
theorem apK{op:Op}{v u:ai}(h:gN P l op ty v)(e:v=u):gN P l op ty u:=e▸h
end
def pQ:List ai→List Nat→(Nat→ai)→List ai
 | l,t::ts,g=>pQ (l.set t (g t)) ts g
 | l,[],_=>l
theorem agb{t:Nat}{ts:List Nat}{g:Nat→ai}:pQ l (t::ts) g=pQ (l.set t (g t)) ts g:=rfl
theorem asm{g:Nat→ai}:pQ l [] g=l:=rfl
theorem agc:∀(ts:List Nat) (l:List ai),pQ l ts (l.getD · undef)=l:=by
 intro ts;have key:∀(ts:List Nat) (l:List ai) (g:Nat→ai),(∀t,l.set t (g t)=l)→pQ l ts g=l:=by
  intro ts
  induction ts with
  | nil=>intro l g _;rfl
  | cons t ts ih=>intro l g h;rw[agb,h t];exact ih l g h
 exact fun l=>key ts l _ fun t=>aa2
section
variable {P:br} {ds:List dz} {l:List ai}
theorem ae0{c:Code}{Q:Exit→Act→aj→Prop}{w:aj}(ts ss:List Nat)(I:Nat→List ai→aj→Prop)(h0:∃n,I n (ts.map (l.getD · undef)) w)
 (hr:∀n vs w,I n vs w→∀g:Nat→ai,c.wp P (Exit.then (fun a' w'=>∃n' l',n'<n∧a'=Fr l'∧pQ (fA l ts (ts.map (l'.getD · undef))) ss (l'.getD · undef)=l'∧I n' (ts.map (l'.getD · undef)) w') Q) (Fr (pQ (fA l ts vs) ss g)) w):(Code.loop c).wp P Q (Fr l) w:=by
 obtain⟨n0,h0⟩:=h0
 let J:Nat→Act→aj→Prop:=fun n a w=>∃vs g,a=Fr (pQ (fA l ts vs) ss g)∧I n vs w
 have hJ0:∃n,J n (Fr l) w:=⟨n0,_,(l.getD · undef),by rw[Hr,agc],h0⟩
 let μ:Act→aj→Nat:=fun a w=>@dite _ (∃n,J n a w) (Classical.propDecidable _) (fun h=>Qh (fun n=>J n a w) h) (fun _=>0)
 refine wp_loop (fun a w=>∃n,J n a w) μ hJ0 ?_;intro a w hI;obtain⟨vs,g,rfl,hIv⟩:=aa3 hI;refine Code.wp_mono ?_ (hr _ vs w hIv g);intro e a' w' hq;cases e with
 | normal =>
  obtain⟨n',l',hlt,rfl,he,hI'⟩:=hq;have hJ:J n' (Fr l') w':=⟨_,(l'.getD · undef),by rw[he],hI'⟩
  refine⟨⟨n',hJ⟩,?_⟩;have e1:μ (Fr l') w'=Qh (fun n=>J n (Fr l') w') ⟨n',hJ⟩:=by simp only[μ];rw[dif_pos ⟨n',hJ⟩]
  have e2:μ (Fr (pQ (fA l ts vs) ss g)) w=Qh (fun n=>J n (Fr (pQ (fA l ts vs) ss g)) w) hI:=by simp only[μ];rw[dif_pos hI]
  rw[e1,e2];exact nw (aga _ hJ) hlt
 | exit id=>exact hq
 | goto id=>exact hq
 | ret=>exact hq
 | panic ch=>exact hq
 | outgrown=>exact hq
end
section
variable {P:br} {ds:List dz} {l:List ai} {ops:Array Oper} {Q:Exit→Act→aj→Prop} {w:aj} {rest:List (Oper × Bool)} {d:Nat} {op:Op} {ty:az} {pos:String} {after:Array Edge} {v:ai}
theorem bU{Q:Exit→Act→aj→Prop}(h:∀c (t:Array ai) ds (t':Array ai) w,Q (.panic c) { tmps:=t,defers:=ds } w→Q (.panic c) { tmps:=t',defers:=ds } w):∀c d v a w,Q (.panic c) (Act.put a d v) w→Q (.panic c) a w:=by
 intro c d v a w hq;cases d with
 | none=>exact hq
 | some d=>exact h c _ _ _ w hq
end
end Go.Lith
namespace Go.Lith
variable{B x i n k a d cap c q:Nat}{xs ys os:List Nat}{m s:Int}{w:aj}
/-! ### Digits -/
def val(B:Nat):List Nat→Nat
 | []=>0
 | x::xs=>x+B*val B xs
def trim:List Nat→List Nat
 | []=>[]
 | x::xs=>if trim xs=[]∧x=0 then [] else x::trim xs
def eM(B:Nat)(xs:List Nat):Prop:=∀x∈xs,x<B
theorem lB(B:Nat):∀xs ys:List Nat,val B (xs++ys)=val B xs+B^xs.length*val B ys
 | [],ys=>by simp[val]
 | x::xs,ys=>by simp only[cn,val,lB B xs ys,av,ja];grind
theorem Gg{B:Nat}:∀{xs:List Nat},eM B xs→val B xs<B^xs.length
 | [],_=>by simp[val]
 | x::xs,h=>by
  have h1:x<B:=h x (by simp);have h2:=Gg (xs:=xs) fun y hy=>h y (by simp[hy]);simp only[val,av,ja];have h3:val B xs+1≤B^xs.length:=h2;have:=ki B h3
  grind
theorem Ht(B:Nat):∀xs:List Nat,val B (trim xs)=val B xs
 | []=>rfl
 | x::xs=>by
  have ih:=Ht B xs;simp only[trim];split
  · rename_i h;rw[h.1] at ih;simp only[val] at ih ⊢;rw[←ih,h.2];simp
  · simp only[val,ih]
theorem kW:∀xs:List Nat,trim xs=xs.take (trim xs).length
 | []=>rfl
 | x::xs=>by
  simp only[trim];split
  · rfl
  · simp only[av,List.take_succ_cons];rw[←kW xs]
theorem eM.take(h:eM B xs)(n:Nat):eM B (xs.take n):=fun x hx=>h x (List.mem_of_mem_take hx)
theorem eM.trim{B:Nat}{xs:List Nat}(h:eM B xs):eM B (trim xs):=by rw[kW];exact h.take _
theorem eM.append(h:eM B xs)(k:eM B ys):eM B (xs++ys):=fun x hx=>by
 rcases List.mem_append.1 hx with h' | h'
 · exact h x h'
 · exact k x h'
theorem mZ(B:Nat):eM B []:=fun _ h=>by cases h
theorem wY(hx:x<B)(h:eM B xs):eM B (x::xs):=fun y hy=>by
 rcases an.1 hy with rfl | h'
 · exact hx
 · exact h y h'
theorem eM.set(h:eM B xs)(hx:x<B):eM B (xs.set i x):=fun y hy=>by
 rcases jy hy with h' | rfl
 · exact h y h'
 · exact hx
theorem eM.get(h:eM B xs)(hi:xs[i]? = some x):x<B:=h x (bh hi)
def gQ(xs:List Nat):Prop:=trim xs=xs
theorem Vx:∀xs:List Nat,trim (trim xs)=trim xs
 | []=>rfl
 | x::xs=>by
  have ih:=Vx xs;simp only[trim];split
  · rfl
  · rename_i h;simp only[trim,ih];rw[if_neg h]
theorem Hu(xs:List Nat):gQ (trim xs):=Vx xs
theorem gQ.tail(h:gQ (x::xs)):gQ xs:=by
 unfold gQ at *
 simp only[trim] at h;split at h
 · cases h
 · simpa using h
theorem Hv{B:Nat}(hB:0<B):∀{xs:List Nat},gQ xs→xs≠[]→0<val B xs
 | [],_,h=>absurd rfl h
 | x::xs,ht,_=>by
  simp only[val];by_cases hx:xs=[]
  · subst hx
    have:x≠0:=by
     rintro rfl;simp[gQ,trim] at ht
    omega
  · have:=Nat.mul_pos hB (Hv hB ht.tail hx)
    omega
theorem Bo{B:Nat}(hB:1<B):∀{xs ys:List Nat},eM B xs→eM B ys→gQ xs→gQ ys→val B xs=val B ys→xs=ys
 | [],[],_,_,_,_,_=>rfl
 | [],y::ys,_,_,_,hy,h=>by have:=Hv (B:=B) (by omega) hy (by simp);rw[←h] at this;simp[val] at this
 | x::xs,[],_,_,hx,_,h=>by have:=Hv (B:=B) (by omega) hx (by simp);rw[h] at this;simp[val] at this
 | x::xs,y::ys,hx,hy,tx,ty,h=>by
  simp only[val] at h;have h1:x<B:=hx x (by simp);have h2:y<B:=hy y (by simp);have e1:x=y:=by
   have:=congrArg (· % B) h;simpa[Nat.add_mul_mod_self_left,kn h1,kn h2] using this
  subst e1;have e2:val B xs=val B ys:=by
   have:B*val B xs=B*val B ys:=by omega
   exact Nat.eq_of_mul_eq_mul_left (by omega) this
  rw[Bo hB (fun z hz=>hx z (by simp[hz])) (fun z hz=>hy z (by simp[hz])) tx.tail ty.tail e2]
def Vy(B:Nat):Nat→Nat→List Nat
 | 0,_=>[]
 | f+1,n=>if n=0 then [] else (n%B)::Vy B f (n / B)
def digs(B n:Nat):List Nat:=Vy B n n
theorem yH{B:Nat}(hB:1<B):∀(f n:Nat),n≤f→val B (Vy B f n)=n∧eM B (Vy B f n)∧gQ (Vy B f n)
 | 0, n, h => by
  obtain rfl:n=0 := by omega
  exact⟨O,mZ B,O⟩
 | f+1,n,h=>by
  simp only[Vy];split
  · rename_i h0;exact⟨by simp[val,h0],mZ B,O⟩
  · rename_i h0
    have hlt:n / B≤f:=by
     have:=Nat.div_lt_self (Nat.pos_of_ne_zero h0) hB;omega
    obtain⟨h1,h2,h3⟩:=yH hB f (n / B) hlt;refine⟨by simp only[val,h1];exact Nat.mod_add_div n B,wY (ji _ (by omega)) h2,?_⟩;unfold gQ at *
    simp only[trim,h3];rw[if_neg];rintro⟨h4,h5⟩;rw[h4] at h1;simp only[val] at h1;have:=Nat.mod_add_div n B;rw[h5,←h1] at this;omega
theorem rU(hB:1<B)(n:Nat):val B (digs B n)=n:=(yH hB n n (aq _)).1
theorem uB(hB:1<B)(n:Nat):eM B (digs B n):=(yH hB n n (aq _)).2.1
theorem pR(hB:1<B)(n:Nat):gQ (digs B n):=(yH hB n n (aq _)).2.2
theorem pS(hB:1<B)(h:eM B xs)(hv:val B xs=n):trim xs=digs B n :=
 Bo hB h.trim (uB hB n) (Hu xs) (pR hB n) (by rw[Ht,rU hB,hv])
theorem vP(hB:1<B):digs B n=[]↔n=0:=by
 constructor
 · intro h;rw[←rU hB n,h];rfl
 · rintro rfl;rfl
theorem lF(hB:1<B)(h:n<B^k):(digs B n).length≤k:=by
 rcases eu k (digs B n).length with hlt | hge
 · exfalso
   have hne:(digs B n)≠[]:=by intro h';rw[h'] at hlt;simp at hlt
   -- the greatest digit is not 0
   have key:∀xs:List Nat,gQ xs→xs≠[]→B^(xs.length-1)≤val B xs:=by
    intro xs
    induction xs with
    | nil=>intro _ h;exact absurd O h
    | cons x xs ih =>
     intro ht _;by_cases hx:xs=[]
     · subst hx
       have:=Hv (B:=B) (by omega) ht (by simp);simp[val] at this ⊢;omega
     · have:=ih ht.tail hx
       have h2:xs.length≠0:=by simpa using hx
       simp only[av,val,g_];have e:xs.length=(xs.length-1)+1:=by omega
       rw[e,ja];have:=ki B this
       grind
   have:=key _ (pR hB n) hne;rw[rU hB] at this;have h3:B^k≤B^((digs B n).length-1):=jk (by omega) (by omega);omega
 · exact hge
/-! ### Numbers as values -/
def fX(n:Int):Bool:=decide (n<0)
def mQ(n:Nat):List UInt8:=(digs 256 n).reverse.map ei
def kL(n:Int):ByteArray:=⟨(mQ n.natAbs).toArray⟩
def W(n:Int):ai:=.agg #[.bool (fX n),.string (kL n)]
def Bd(k:Nat)(n:Int):Prop:=n.natAbs<2^k
theorem Bd.mono{b:Nat}{n:Int}(h:Bd a n)(hab:a≤b):Bd b n:=gg h (jk (by omega) hab)
theorem Bd.neg{n:Int}(h:Bd a n):Bd a (-n):=by unfold Bd at *;rwa [Int.natAbs_neg]
theorem Bd.add{b:Nat}{n:Int}(h:Bd a m)(k:Bd b n):Bd (max a b+1) (m+n):=by
 unfold Bd at *
 have h1:(m+n).natAbs≤m.natAbs+n.natAbs:=Int.natAbs_add_le m n;have h2:2^a≤2^max a b:=jk (by omega) (Nat.le_max_left a b);have h3:2^b≤2^max a b:=jk (by omega) (Nat.le_max_right a b);rw[ja];omega
theorem Bd.sub{b:Nat}{n:Int}(h:Bd a m)(k:Bd b n):Bd (max a b+1) (m-n):=by rw[Int.sub_eq_add_neg];exact h.add k.neg
theorem Bd.mul{b:Nat}{n:Int}(h:Bd a m)(k:Bd b n):Bd (a+b) (m*n):=by
 unfold Bd at *
 rw[Int.natAbs_mul,ox];exact Nat.mul_lt_mul_of_lt_of_lt h k
theorem Bd.of_i64{n:Int}(h0 : -9223372036854775808≤n)(h1:n≤9223372036854775807):Bd 64 n:=by
 unfold Bd;omega
theorem Oz(k:Nat):Bd k 0:=by unfold Bd;exact Nat.two_pow_pos k
theorem Vz(n:Int):(kL n).size=(digs 256 n.natAbs).length:=by simp[kL,ByteArray.size,mQ]
theorem Za{n:Int}(h:Bd k n):(kL n).size≤k:=by
 rw[Vz];refine lF (by omega) (gg h ?_);rw[show 256=2^8 from rfl,←oy];exact jk (by omega) (by omega)
theorem aa4{m:Nat}(h:mQ m=mQ n):m=n:=by
 have key:∀k,val 256 (((mQ k).map jc).reverse)=k:=by
  intro k;have e:((mQ k).map jc).reverse=digs 256 k:=by
   unfold mQ;rw[List.map_map,←List.map_reverse,List.reverse_reverse];have:∀x∈digs 256 k,(jc∘ei) x=x:=by
    intro x hx;have:=uB (B:=256) (by omega) k x hx;simp;omega
   exact (ir this).trans (List.map_id' _)
  rw[e,rU (by omega)]
 rw[←key m,←key n,h]
theorem aso{n:Int}(h:W m=W n):m=n:=by
 simp only[W,Value.agg.injEq,Array.mk.injEq,mg,Value.bool.injEq,Value.string.injEq,and_true] at h;obtain⟨h1,h2⟩:=h;have h3:m.natAbs=n.natAbs:=by
  have:mQ m.natAbs=mQ n.natAbs:=by simpa[kL] using h2
  exact aa4 this
 unfold fX at h1;have:(m<0)↔(n<0):=by simpa using h1
 omega
structure lG(w:aj)(A:Option Addr)(n cap:Nat)(xs:List Nat):Prop where
 eq:n=xs.length
 row:∀(i x:Nat),xs[i]? = some x→∃a,A=some a∧w.cell? (a.add i)=some (.int .u64 (x:Int))
 le:xs.length≤cap
 cap:cap≤9223372036854775807
 len:xs.length≤17592186044416
 digs:eM 4294967296 xs
section
variable {w:aj} {A:Option Addr} {n cap:Nat} {xs:List Nat}
theorem lG.ext{w':aj}(h:lG w A n cap xs)(hE:fQ w w'):lG w' A n cap xs :=
 ⟨h.eq,fun i x hi=>let ⟨a,e,hc⟩:=h.row i x hi;⟨a,e,hE.cell hc⟩,h.le,h.cap,h.len,h.digs⟩
theorem lG.take(h:lG w A n cap xs)(k:Nat):lG w A (xs.take k).length cap (xs.take k) :=
 ⟨rfl,fun i x hi=>h.row i x (by rw[d_] at hi;split at hi;exact hi;cases hi),ba (by simp;omega) h.le,h.cap,ba (by simp;omega) h.len,h.digs.take k⟩
theorem lG.get(h:lG w A n cap xs){i:Nat}(hi:i<xs.length):∃a,A=some a∧w.cell? (a.add i)=some (.int .u64 ((xs[i]:Nat):Int))∧xs[i]<4294967296 :=
 let ⟨a,e,hc⟩:=h.row i xs[i] (am hi);⟨a,e,hc,h.digs _ (gl hi)⟩
theorem lG.as(h:lG w A n cap xs){ys:List Nat}(e:xs=ys):lG w A n cap ys:=e▸h
end
theorem pT:∀ys:List Nat,trim (ys++[0])=trim ys
 | []=>by simp[trim]
 | y::ys=>by simp only[cn,trim,pT ys]
theorem wI{x:Nat}(hx:x≠0):∀ys:List Nat,trim (ys++[x])=ys++[x]
 | []=>by simp[trim,hx]
 | y::ys=>by simp only[cn,trim,wI hx ys];rw[if_neg (by simp)]
theorem Ky(hk:0<k)(h:k-1<xs.length):xs.take k=xs.take (k-1)++[xs[k-1]]:=by
 have e:k=(k-1)+1:=by omega
 conv=>lhs;rw[e]
 rw[List.take_succ_eq_append_getElem h]
theorem Wa(hk:0<k)(h:k-1<xs.length)(h0:((xs[k-1]:Nat):Int)=0)(ht:trim (xs.take k)=trim xs):trim (xs.take (k-1))=trim xs:=by
 rw[←ht,Ky hk h,show xs[k-1]=0 by omega,pT]
theorem aa5(hk:0<k)(h:k-1<xs.length)(h0:¬((xs[k-1]:Nat):Int)=0)(ht:trim (xs.take k)=trim xs):k=(trim xs).length:=by
 rw[←ht,Ky hk h,wI (by omega)];simp;omega
theorem aa6(ht:trim (xs.take 0)=trim xs):0=(trim xs).length:=by rw[←ht];rfl
/-! ### Words in a block -/
abbrev Kz(x:Nat):ai:=.int .u64 (x:Int)
theorem nA(hi:i<os.length):over (os.map Kz) i [Kz d]=(os.set i d).map Kz:=by
 unfold over;rw[List.set_eq_take_append_cons_drop,if_pos hi];simp[List.map_take,List.map_drop]
theorem oE(n:Nat):cl n (Value.int .u64 0)=(cl n 0).map Kz:=by simp[Kz]
theorem fR.word{g:Nat}{t:az}(h:fR w g (os.map Kz) t)(hi:i<os.length):w.cell? ⟨g,i,none⟩=some (.int .u64 ((os[i]:Nat):Int)) :=
 h.cell (by simp[hi])
theorem fR.nat{g:Nat}{t:az}(h:fR w g (os.map Kz) t)(hd:eM 4294967296 os)(hn:n=os.length)(hl:n≤17592186044416):lG w (some ⟨g,0,none⟩) n n os :=
 ⟨hn,fun i x hi=>⟨_,rfl,by rw[eD,au];exact h.cell (by simp[hi])⟩,by omega,by omega,by omega,hd⟩
def qX(n:Nat)(v:ai)(w:aj):Prop:=∃A cap,v=.slice A (digs 4294967296 n).length cap∧lG w A (digs 4294967296 n).length cap (digs 4294967296 n)
theorem qX.of_trim{A:Option Addr}(h:lG w A k cap xs)(hv:val 4294967296 xs=n):qX n (.slice A (trim xs).length cap) w:=by
 have e:trim xs=digs 4294967296 n:=pS (by omega) h.digs hv;refine⟨A,cap,by rw[e],?_⟩;have h':=h.take (trim xs).length;rw[←kW,e] at h';exact h'
def wZ(w:aj)(v:ai):Prop:=∀a n c,v=.slice (some a) n c→w.heap.size≤a.block
theorem wZ.of_blk{g off:Nat}(h:w.heap.size≤g):wZ w (.slice (some ⟨g,off,none⟩) n c):=fun a n' c' e=>by cases e;exact h
theorem Dx(a:Addr)(i:Nat):(a.add i).block=a.block:=by unfold Addr.add;split <;> rfl
/-! ### Sums of digits -/
theorem vQ{B:Nat}:∀{os:List Nat} {j d:Nat} (hj:j<os.length),val B (os.set j d)+B^j*os[j]=val B os+B^j*d
 | x::xs,0,d,_=>by simp[val];omega
 | x::xs,j+1,d,h=>by
  have ih:=vQ (B:=B) (os:=xs) (j:=j) (d:=d) (by simpa using h);simp only[fx,val,List.getElem_cons_succ,ja];have:=congrArg (B * ·) ih;simp only[oz] at this
  grind
theorem mG(B n:Nat):val B (cl n 0)=0:=by
 induction n with
 | zero=>rfl
 | succ n ih=>simp[nh,val,ih]
theorem eF(hi:i<xs.length):val B (xs.take (i+1))=val B (xs.take i)+B^i*xs[i]:=by
 rw[List.take_succ_eq_append_getElem hi,lB,bp,gr (by omega)];simp[val]
theorem pA(hi:xs.length≤i):val B (xs.take i)=val B xs:=by rw[a_ hi]
theorem rJ   : (os.set i d).drop (i+1)=os.drop (i+1):=by
 apply fw;intro j;simp only[dj];rw[lf (by omega)]
theorem oF(h:os.drop i=cl n 0)(hi:i<os.length):os[i]=0∧os.drop (i+1)=cl (n-1) 0:=by
 rw[fc hi] at h;cases n with
 | zero=>cases h
 | succ n=>simp only[nh,mg] at h;exact⟨h.1,by simpa using h.2⟩
theorem aa7{B:Nat}{os:List Nat}{i d c c' s t T:Nat}(hi:i<os.length)(hs:os[i]+s+c=d+B*c')(hT:val B os+B^i*c=T)(ht:T+B^i*s=t) :
 val B (os.set i d)+B^(i+1)*c'=t:=by
 have h1:=vQ (B:=B) (d:=d) hi;have h2:=congrArg (B^i * ·) hs;simp only[oz] at h2;rw[ja]
 grind
/-! ### Order -/
def ord(a b:Nat):Int:=if a<b then -1 else if b<a then 1 else 0
theorem Fk(hB:1<B)(hx:eM B xs)(hlx:k<xs.length)(hly:k<ys.length)(hd:xs.drop (k+1)=ys.drop (k+1))(h:xs[k]<ys[k]):val B xs<val B ys:=by
 have e1:val B xs=val B (xs.take (k+1))+B^(k+1)*val B (xs.drop (k+1)):=by
  conv=>lhs;rw[←mn (k+1) xs]
  rw[lB,bp,gr (by omega)]
 have e2:val B ys=val B (ys.take (k+1))+B^(k+1)*val B (ys.drop (k+1)):=by
  conv=>lhs;rw[←mn (k+1) ys]
  rw[lB,bp,gr (by omega)]
 rw[e1,e2,hd,eF hlx,eF hly];have h1:=Gg (hx.take k);rw[bp,gr (by omega)] at h1;have h2:B^k*(xs[k]+1)≤B^k*ys[k]:=ki _ h;rw[oz] at h2;omega
theorem nM(hB:1<B)(hx:eM B xs)(hy:eM B ys)(ty:gQ ys)(h:xs.length<ys.length):val B xs<val B ys:=by
 rcases eu (val B xs) (val B ys) with hlt | hge
 · exact hlt
 · exfalso
   have e:ys=digs B (val B ys):=Bo hB hy (uB hB _) ty (pR hB _) (by rw[rU hB]);have h1:val B ys<B^xs.length:=nw hge (Gg hx);have h2:=lF hB h1;rw[←e] at h2;omega
/-! ### The machine's numbers -/
theorem mH(x:Int):IntKind.u64.wrap x=x%18446744073709551616:=by simp[n_,oa,mx]
theorem rV(h0:0≤s)(h1:s<18446744073709551616):IntKind.u64.wrap ((ew IntKind.u64.bits s &&& ew IntKind.u64.bits 4294967295).toNat:Int)=s%4294967296:=by
 obtain⟨n,rfl⟩:=Int.eq_ofNat_of_zero_le h0;have hn:n<18446744073709551616:=by omega
 have e:(ew 64 (n:Int) &&& ew 64 4294967295).toNat=n%4294967296:=by
  rw[BitVec.toNat_and];have e1:(ew 64 (n:Int)).toNat=n:=by simp[ph];omega
  have e2:(ew 64 4294967295).toNat=2^32-1:=by decide
  rw[e1,e2,Nat.and_two_pow_sub_one_eq_mod]
 show IntKind.u64.wrap ((ew 64 (n:Int) &&& ew 64 4294967295).toNat:Int)=_
 rw[e,wX (by omega) (by omega)];omega
theorem Wb(h0:0≤s):s.fdiv (2^(min (32:Int).toNat IntKind.u64.bits))=s / 4294967296:=by
 show s.fdiv (2^32)=_
 rw[ia _ (by decide)];rfl
theorem aoP(h0:0≤s):s.fdiv (2^(min (63:Int).toNat IntKind.u64.bits))=s / 9223372036854775808:=by
 show s.fdiv (2^63)=_
 rw[ia _ (by decide)];rfl
/-! ### Addresses of words -/
theorem jI{a:Addr}(h:m.toNat=q):a.add (m.toNat*1)=a.add q:=by rw[h,lz]
theorem cQ{a:Addr}(h:m.toNat=q):a.add (m.toNat*c)=a.add (q*c):=by rw[h]
theorem fC{g:Nat}(h:m.toNat=q):(⟨g,0,none⟩:Addr).add (m.toNat*1)=⟨g,q,none⟩:=by rw[h,lz,eD,au]
theorem nB{g:Nat}(h:m.toNat=q):(⟨g,0,none⟩:Addr).add (m.toNat*c)=⟨g,q*c,none⟩:=by rw[h,eD,au]
theorem lG.at{a:Addr}(h:lG w (some a) n cap xs)(hi:i<xs.length):w.cell? (a.add i)=some (.int .u64 ((xs[i]:Nat):Int)):=by
 obtain⟨a',e,hc⟩:=h.row i xs[i] (am hi);cases e;exact hc
/-! ### Rounds -/
theorem ah7(hx:eM 4294967296 xs)(hk:0<k)(hlx:k-1<xs.length)(hly:k-1<ys.length)(hd:xs.drop k=ys.drop k)(h:((xs[k-1]:Nat):Int)<((ys[k-1]:Nat):Int)):val 4294967296 xs<val 4294967296 ys :=
 Fk (by omega) hx hlx hly (by rw[show k-1+1=k by omega];exact hd) (by omega)
theorem agd(hk:0<k)(hlx:k-1<xs.length)(hly:k-1<ys.length)(hd:xs.drop k=ys.drop k)(h1:¬((xs[k-1]:Nat):Int)<((ys[k-1]:Nat):Int))(h2:¬((ys[k-1]:Nat):Int)<((xs[k-1]:Nat):Int)):xs.drop (k-1)=ys.drop (k-1):=by
 rw[fc hlx,fc hly,show k-1+1=k by omega,hd,show xs[k-1]=ys[k-1] by omega]
theorem Dy{os xs ys:List Nat}{i c s:Nat}(hi:i<xs.length)(hlo:os.length=xs.length+1)(hv:val 4294967296 os+4294967296^i*c=val 4294967296 (xs.take i)+val 4294967296 (ys.take i))(hz:os.drop i=cl (xs.length+1-i) 0)(hd:eM 4294967296 os)(hc:c≤1)
 (hs:s=xs[i]+c+ys[i]?.getD 0) (hx:xs[i]<4294967296) (hy:ys[i]?.getD 0<4294967296) :
 val 4294967296 (os.set i (s%4294967296))+4294967296^(i+1)*(s / 4294967296)=val 4294967296 (xs.take (i+1))+val 4294967296 (ys.take (i+1))∧(os.set i (s%4294967296)).drop (i+1)=cl (xs.length+1-(i+1)) 0∧eM 4294967296 (os.set i (s%4294967296))∧s / 4294967296≤1:=by
 obtain⟨z1,z2⟩:=oF hz (by omega);refine⟨?_,?_,hd.set (ji _ (by omega)),by omega⟩
 · refine aa7 (s:=xs[i]+ys[i]?.getD 0) (by omega) (by rw[z1];omega) hv ?_
   rw[eF hi];by_cases hy':i<ys.length
   · rw[eF hy',am hy']
     simp only[dq,oz];omega
   · rw[bz (by omega),pA (xs:=ys) (i:=i+1) (by omega),pA (xs:=ys) (i:=i) (by omega)]
     simp;omega
 · rw[rJ,z2]
   congr 1
theorem Pa{os xs ys:List Nat}{c:Nat}(hle:ys.length≤xs.length)(hlo:os.length=xs.length+1)(hv:val 4294967296 os+4294967296^xs.length*c=val 4294967296 (xs.take xs.length)+val 4294967296 (ys.take xs.length))(hz:os.drop xs.length=cl (xs.length+1-xs.length) 0) :
 val 4294967296 (os.set xs.length c)=val 4294967296 xs+val 4294967296 ys:=by
 obtain⟨z1,_⟩:=oF hz (by omega);have h:=vQ (B:=4294967296) (d:=c) (show xs.length<os.length by omega);rw[z1] at h;rw[fp,pA hle] at hv;omega
theorem Wc{os xs ys:List Nat}{i c s:Nat}(hi:i<xs.length)(hlo:os.length=xs.length)(hv:val 4294967296 os+val 4294967296 (ys.take i)=val 4294967296 (xs.take i)+4294967296^i*c)(hz:os.drop i=cl (xs.length-i) 0)(hd:eM 4294967296 os)(hc:c≤1)
 (hs:(s:Int)=((xs[i]:Nat)-(c:Nat)-(ys[i]?.getD 0:Nat):Int)%18446744073709551616) (hx:xs[i]<4294967296) (hy:ys[i]?.getD 0<4294967296) :
 val 4294967296 (os.set i (s%4294967296))+val 4294967296 (ys.take (i+1))=val 4294967296 (xs.take (i+1))+4294967296^(i+1)*(s / 9223372036854775808)∧(os.set i (s%4294967296)).drop (i+1)=cl (xs.length-(i+1)) 0∧eM 4294967296 (os.set i (s%4294967296))∧s / 9223372036854775808≤1:=by
 obtain⟨z1,z2⟩:=oF hz (by omega);have key:xs[i]+4294967296*(s / 9223372036854775808)=s%4294967296+c+ys[i]?.getD 0:=by omega
 refine⟨?_,?_,hd.set (ji _ (by omega)),by omega⟩
 · have h1:=vQ (B:=4294967296) (d:=s%4294967296) (show i<os.length by omega)
   rw[z1] at h1;have h2:=congrArg (4294967296^i * ·) key;simp only[oz] at h2;rw[eF hi,ja];have h3:val 4294967296 (ys.take (i+1))=val 4294967296 (ys.take i)+4294967296^i*ys[i]?.getD 0:=by
    by_cases hy':i<ys.length
    · rw[eF hy',am hy'];rfl
    · rw[bz (by omega),pA (xs:=ys) (i:=i+1) (by omega),pA (xs:=ys) (i:=i) (by omega)];rfl
   rw[h3]
   grind
 · rw[rJ,z2]
   congr 1
theorem aml{os xs ys:List Nat}{c:Nat}(hle:ys.length≤xs.length)(hlo:os.length=xs.length)(hd:eM 4294967296 os)(hv:val 4294967296 os+val 4294967296 (ys.take xs.length)=val 4294967296 (xs.take xs.length)+4294967296^xs.length*c)(hge:val 4294967296 ys≤val 4294967296 xs) :
 val 4294967296 os=val 4294967296 xs-val 4294967296 ys:=by
 rw[fp,pA hle] at hv;have h:=Gg hd;rw[hlo] at h;have hc:c=0:=by
  rcases iz c with h0 | h0
  · exact h0
  · have:=ki (4294967296^xs.length) h0
    omega
 subst hc;omega
theorem age{os xs ys:List Nat}{i k c s:Nat}(hi:i<xs.length)(hk:k<ys.length)(hlo:os.length=xs.length+ys.length)(hv:val 4294967296 os+4294967296^(i+k)*c=val 4294967296 (xs.take i)*val 4294967296 ys+4294967296^i*(xs[i]*val 4294967296 (ys.take k)))
 (hs:s=os[i+k]+xs[i]*ys[k]+c):val 4294967296 (os.set (i+k) (s%4294967296))+4294967296^(i+(k+1))*(s / 4294967296)=val 4294967296 (xs.take i)*val 4294967296 ys+4294967296^i*(xs[i]*val 4294967296 (ys.take (k+1))):=by
 refine aa7 (s:=xs[i]*ys[k]) (i:=i+k) (by omega) (by omega) hv ?_;rw[eF hk,ox]
 grind
theorem Nf{j:Nat}(h:i<j):(os.set i d).drop j=os.drop j:=by
 apply fw;intro m;simp only[dj];rw[lf (by omega)]
theorem amm{os xs ys:List Nat}{i c:Nat}(hi:i<xs.length)(hlo:os.length=xs.length+ys.length)(hv:val 4294967296 os+4294967296^(i+ys.length)*c=val 4294967296 (xs.take i)*val 4294967296 ys+4294967296^i*(xs[i]*val 4294967296 (ys.take ys.length)))(hz:os.drop (i+ys.length)=cl (xs.length-i) 0) :
 val 4294967296 (os.set (i+ys.length) c)=val 4294967296 (xs.take (i+1))*val 4294967296 ys∧(os.set (i+ys.length) c).drop (i+1+ys.length)=cl (xs.length-(i+1)) 0:=by
 obtain⟨z1,z2⟩:=oF hz (by omega);have h:=vQ (B:=4294967296) (d:=c) (show i+ys.length<os.length by omega);rw[z1] at h;rw[fp] at hv;refine⟨?_,?_⟩
 · rw[eF hi]
   grind
 · rw[show i+1+ys.length=i+ys.length+1 by omega,rJ,z2]
   congr 1
theorem apL{y:Nat}(hx:x<4294967296)(hy:y<4294967296):x*y≤18446744065119617025:=by
 have:=Nat.mul_le_mul (my hx) (my hy);omega
theorem amn{y:Nat}(hx:x<4294967296)(hy:y<4294967296):(0:Int)≤(x:Int)*(y:Int)∧(x:Int)*(y:Int)≤18446744065119617025:=by
 have h:=apL hx hy;have e:((x*y:Nat):Int)=(x:Int)*(y:Int):=jh x y;rw[←e];omega
/-! ### Shifts,divisions by a word -/
theorem amo{m:Nat}(hn:n<64)(h:m*2^n<18446744073709551616):IntKind.u64.wrap ((m:Int)*2^(min (n:Int).toNat IntKind.u64.bits))=((m*2^n:Nat):Int):=by
 have e:min (n:Int).toNat IntKind.u64.bits=n:=by
  show min (n:Int).toNat 64=n
  rw[ah];omega
 rw[e];have e2:((m:Int)*2^n)=((m*2^n:Nat):Int):=by simp
 rw[e2];exact wX (by omega) (by omega)
theorem apM{b s:Nat}(ha:a<2^s)(hb:b=2^s*c)(h:a+b<18446744073709551616):IntKind.u64.wrap ((ew IntKind.u64.bits (a:Int) ||| ew IntKind.u64.bits (b:Int)).toNat:Int)=((a+b:Nat):Int):=by
 have e:(ew 64 (a:Int) ||| ew 64 (b:Int)).toNat=a+b:=by
  rw[BitVec.toNat_or];have e1:(ew 64 (a:Int)).toNat=a:=by simp[ph];omega
  have e2:(ew 64 (b:Int)).toNat=b:=by simp[ph];omega
  rw[e1,e2,Nat.or_comm,hb,←Nat.two_pow_add_eq_or_of_lt ha];omega
 show IntKind.u64.wrap ((ew 64 (a:Int) ||| ew 64 (b:Int)).toNat:Int)=_
 rw[e];exact wX (by omega) (by omega)
theorem amp{b s:Nat}(ha:a<2^s)(hb:b=2^s*c)(h:a+b<18446744073709551616):IntKind.u64.wrap ((ew IntKind.u64.bits (b:Int) ||| ew IntKind.u64.bits (a:Int)).toNat:Int)=((a+b:Nat):Int):=by
 have:=apM ha hb h;rwa [BitVec.or_comm] at this
theorem ae1{s:Nat}(h:s<18446744073709551616):IntKind.u64.wrap ((ew IntKind.u64.bits (s:Int) &&& ew IntKind.u64.bits 4294967295).toNat:Int)=((s%4294967296:Nat):Int):=by
 rw[rV (by omega) (by omega)];omega
theorem ae2{m:Nat}(h:m<18446744073709551616):IntKind.u64.wrap ((m:Int).tdiv (n:Int))=((m / n:Nat):Int):=by
 rw[←Int.ofNat_tdiv];have:m / n≤m:=Nat.div_le_self m n;generalize m / n=q at *
 exact wX (by omega) (by omega)
theorem pU{m:Nat}:(m:Int).tmod (n:Int)=((m%n:Nat):Int):=(Int.ofNat_tmod m n).symm
theorem Uv(hk:0<k)(h:k-1<xs.length):val B (xs.drop (k-1))=xs[k-1]+B*val B (xs.drop k):=by
 rw[fc h,show k-1+1=k by omega];rfl
end Go.Lith
namespace Go.Lith
open Go.RowKit
section
variable {P:br} {ds:List dz} {l:List ai} {x y z0:bw} {T T' ty:az}
theorem aa9{A:Option Addr}{n c:Nat}{E:az}(hu:P.underlying T=some (.slice E))(hx:ev l x=.slice A n c)(hy:ev l y=.slice none 0 0):gN P l (.binOp .eql T x y T') ty (.bool A.isNone):=fun w o ho _=>by
 obtain⟨D,hD⟩:∃D,Op.maxDepth=D+1:=⟨9999,rfl⟩
 cases A <;> simp[dm,ho,cD,hx,hy,eqGuard,binOp,Op.equal,hD,Op.equalIn,cd hu]
variable {ops:Array Oper} {Q:Exit→Act→aj→Prop} {rest:List Oper} {d:Nat} {pos:String} {after:Array Edge} {w:aj}
theorem Zb:qq (fun (_:Nat)=>(default:ai)) (pm 0) = #[]:=Array.eq_empty_of_size_eq_zero (by simp)
theorem Zc(z v:ai):(qq (fun x=>[z][x%1]?.getD default) (pm 1)).setIfInBounds 0 v = #[v]:=by
 apply qr (by simp);intro i h1 h2;obtain rfl:i=0:=by simpa using h2
 simp
theorem Hw(z v v2:ai):((qq (fun x=>[z][x%1]?.getD default) (pm 2)).setIfInBounds 0 v).setIfInBounds 1 v2 = #[v,v2]:=by
 apply qr (by simp);intro i h1 h2;have h3:i<2:=by simpa using h2
 rcases eu i 1 with h | h
 · obtain rfl:i=0:=by omega
   simp
 · obtain rfl:i=1:=by omega
   simp
theorem aba{E:az}{c:Nat}(hu:P.underlying T=some (.slice E))(hi:(P.info? E).map (fun i=>i.size)=some c)
 (h:∀w' g,fQ w w'→w.heap.size≤g→fR w' g [] E→ar P ops Q rest (Fr (l.set d (.slice (some ⟨g,0,none⟩) 0 0)) ds) w') :
 ar P ops Q (bu (some d) (.buildSlice T 0 #[]) ty pos after none::rest) (Fr l ds) w:=by
 cases hq:P.info? E with
 | none=>rw[hq] at hi;cases hi
 | some i =>
  exact mM (w':=w.alloc (.cells #[] E)) (v:=.slice (some ⟨w.heap.size,0,none⟩) 0 0) (fun o ho _=>by simp[dm,ho,Instr.buildSlice,cd hu,sizeOf,typeInfo,hq,Instr.fill,newRow,newObj,Sem.run,Zb]) (h _ _ ((fQ.refl w).alloc _) (aq _) (jH w [] E))
theorem gA{E:az}{z:ai}(hu:P.underlying T=some (.slice E))(hi:(P.info? E).map (fun i=>(i.size,i.zero))=some (1,some z))(hz:z.cells = #[z]){v:ai}(hx:ev l x=v)(hv:v.cells = #[v])
 (h:∀w' g,fQ w w'→w.heap.size≤g→fR w' g [v] E→ar P ops Q rest (Fr (l.set d (.slice (some ⟨g,0,none⟩) 1 1)) ds) w') :
 ar P ops Q (bu (some d) (.buildSlice T 1 #[(0,x)]) ty pos after none::rest) (Fr l ds) w:=by
 cases hq:P.info? E with
 | none=>rw[hq] at hi;cases hi
 | some i =>
  rw[hq] at hi;simp only[fm,gw,ft] at hi;obtain⟨e1,e2⟩:=hi;exact mM (w':=w.alloc (.cells #[v] E)) (v:=.slice (some ⟨w.heap.size,0,none⟩) 1 1) (fun o ho _=>by simp[dm,ho,Instr.buildSlice,cd hu,sizeOf,typeInfo,zeroValue,hq,e1,e2,hz,cD,hx,hv,Instr.fill,newRow,newObj,Sem.run,Zc]) (h _ _ ((fQ.refl w).alloc _) (aq _) (jH w [v] E))
theorem abb{E:az}{z:ai}(hu:P.underlying T=some (.slice E))(hi:(P.info? E).map (fun i=>(i.size,i.zero))=some (1,some z))(hz:z.cells = #[z]){v v2:ai}(hx:ev l x=v)(hv:v.cells = #[v])(hy:ev l y=v2)(hv2:v2.cells = #[v2])
 (h:∀w' g,fQ w w'→w.heap.size≤g→fR w' g [v,v2] E→ar P ops Q rest (Fr (l.set d (.slice (some ⟨g,0,none⟩) 2 2)) ds) w') :
 ar P ops Q (bu (some d) (.buildSlice T 2 #[(0,x),(1,y)]) ty pos after none::rest) (Fr l ds) w:=by
 cases hq:P.info? E with
 | none=>rw[hq] at hi;cases hi
 | some i =>
  rw[hq] at hi;simp only[fm,gw,ft] at hi;obtain⟨e1,e2⟩:=hi;exact mM (w':=w.alloc (.cells #[v,v2] E)) (v:=.slice (some ⟨w.heap.size,0,none⟩) 2 2) (fun o ho _=>by simp[dm,ho,Instr.buildSlice,cd hu,sizeOf,typeInfo,zeroValue,hq,e1,e2,hz,cD,hx,hv,hy,hv2,Instr.fill,newRow,newObj,Sem.run,Hw]) (h _ _ ((fQ.refl w).alloc _) (aq _) (jH w [v,v2] E))
end
end Go.Lith
namespace Go.Lith
theorem ac5{m:Nat}:(m:Int).fdiv (2^(min (32:Int).toNat IntKind.u64.bits))=((m / 4294967296:Nat):Int):=by
 rw[Wb (by omega)];omega
/-! ### Slices of words -/
end Go.Lith
namespace Go.Lith
open Go.RowKit
theorem asp{P:br}{l:List ai}{w:aj}{fn:Func}{R:Ending→aj→Prop}(hr:fn.results = #[])(hR:R (.returned (.tuple #[])) w):bodyPost P fn R .ret (Fr l) w:=by
 refine⟨O,_,?_,hR⟩;unfold results;rw[hr];simp
theorem Fl{P:br}{l:List ai}{w:aj}{fn:Func}{R:Ending→aj→Prop}(hr:fn.results = #[])(hR:R (.returned (.tuple #[])) w):bodyPost P fn R .normal (Fr l) w:=asp hr hR
section
variable {P:br} {ds:List dz} {l:List ai} {x y:bw} {ty:az} {w:aj}
variable {ops:Array Oper} {Q:Exit→Act→aj→Prop} {rest:List Oper} {d:Nat} {pos:String} {after:Array Edge}
end
end Go.Lith
namespace Go.Lith
theorem apN{a b:Nat}:decide (ord a b<0)=decide (a<b):=by
 unfold ord;split
 · simp[*]
 · split <;> simp[*]
theorem gU(n:Nat):val 4294967296 (digs 4294967296 n)=n:=rU (by omega) n
theorem Bp(n:Nat):gQ (digs 4294967296 n):=pR (by omega) n
theorem abc(n:Nat):eM 4294967296 (digs 4294967296 n):=uB (by omega) n
theorem uM(xs:List Nat):(trim xs).length≤xs.length:=by rw[kW];simp;omega
theorem Qi{a b:Nat}:ord a b<0↔a<b:=by
 have:=@apN a b;simpa using this
theorem abd{xs:List Nat}(t:gQ xs)(h:0<xs.length):0<xs[xs.length-1]:=by
 rcases iz (xs[xs.length-1]) with h0 | h0
 · exfalso
   have e:=Ky (xs:=xs) (k:=xs.length) h (by omega);rw[fp,h0] at e;have t2:trim xs=trim (xs.take (xs.length-1)):=by conv=>lhs;rw[e,pT]
   have t3:(trim xs).length=xs.length:=by rw[t]
   have t4:=uM (xs.take (xs.length-1));rw[←t2,t3] at t4;simp at t4;omega
 · exact h0
theorem Zd{r:Nat}(h:r≤4):(4294967296:Nat)=256^r*256^(4-r):=by rw[←ox,show r+(4-r)=4 by omega]
theorem Qj(r:Nat):(256:Nat)^r=2^(8*r):=by rw[show 256=2^8 from rfl,←oy]
theorem ah8{x b r:Nat}(hr:r<4)(hx:x<4294967296)(hd:256^(r+1)∣x)(hb:b<256):x+b*256^r<4294967296:=by
 obtain⟨c,rfl⟩:=hd;have e:=Zd (r:=r+1) (by omega);rw[e] at hx ⊢;have h1:=Nat.lt_of_mul_lt_mul_left hx;have h2:256^(r+1)*(c+1)≤256^(r+1)*256^(4-(r+1)):=ki _ h1;rw[oz,lz] at h2;have h3:(b+1)*256^r≤256*256^r:=mz _ hb;have h4:(256:Nat)^(r+1)=256*256^r:=Nat.pow_succ';have h5:0<(256:Nat)^r:=Nat.pow_pos (by omega);rw[ke,Nat.one_mul] at h3;generalize 256^(r+1)*256^(4-(r+1))=Z at *
 generalize 256^(r+1)*c=Y at *
 omega
theorem agf{os bs:List Nat}{p j r:Nat}(hp:p<bs.length)(hpj:p=4*j+r)(hr:r<4)(hj:j<os.length)(hd:eM 4294967296 os)(hb:eM 256 bs)(hdv:∀(i:Nat) (h:i<os.length),256^(p+1-4*i)∣os[i])(hv:val 4294967296 os=256^(p+1)*val 256 (bs.drop (p+1))) :
 os[j]+bs[p]*256^r<4294967296∧256^(r+1)∣os[j]∧(∀(i:Nat) (h:i<(os.set j (os[j]+bs[p]*256^r)).length),256^(p-4*i)∣(os.set j (os[j]+bs[p]*256^r))[i])∧val 4294967296 (os.set j (os[j]+bs[p]*256^r))=256^p*val 256 (bs.drop p):=by
 have h1:=hdv j hj;rw[show p+1-4*j=r+1 by omega] at h1;have hx:=hd _ (gl hj);have hby:=hb _ (gl hp);refine⟨ah8 hr hx h1 hby,h1,?_,?_⟩
 · intro i h
   by_cases e:i=j
   · subst e
     rw[List.getElem_set_self,show p-4*i=r by omega];exact Nat.dvd_add (Nat.dvd_trans (Nat.pow_dvd_pow 256 (by omega)) h1) (Nat.dvd_mul_left _ _)
   · rw[List.getElem_set_ne (by omega)]
     exact Nat.dvd_trans (Nat.pow_dvd_pow 256 (by omega)) (hdv i (by simpa using h))
 · have e1:=vQ (B:=4294967296) (os:=os) (j:=j) (d:=os[j]+bs[p]*256^r) hj
   have e2:=Uv (B:=256) (xs:=bs) (k:=p+1) (by omega) (by simpa using hp);simp only[g_] at e2;have e3:(4294967296:Nat)^j*256^r=256^p:=by
    rw[show (4294967296:Nat)=256^4 from rfl,←oy,←ox,hpj]
   rw[e2,←e3];rw[ja,←e3] at hv;generalize (4294967296:Nat)^j=Q at *
   generalize (256:Nat)^r=R at *
   generalize val 256 (bs.drop (p+1))=D at *
   generalize val 4294967296 (os.set j (os[j]+bs[p]*R))=L at *
   generalize val 4294967296 os=M at *
   subst hv
   grind
end Go.Lith
namespace Go.Lith
open Go.RowKit
variable{a:ByteArray}{xs ys:Array ai}
def asq(w:aj)(S:aj→Prop):Prop:=S w
section
variable {P:br} {ops:Array Oper} {md:Region.Mode} {S:aj→Prop}
def bQ(P:br)(ops:Array Oper)(S:aj→Prop)(Q:Exit→Act→aj→Prop):List (Oper × Bool)→Act→aj→Prop
 | [],a,w=>Q .normal a w
 | (o,true)::r,a,w=>∃v,YieldsIf P ops S o v a∧bQ P ops S Q r (a.put o.dst v) w
 | (o,false)::r,a,w=>ar P ops (Exit.then (fun a w=>S w∧bQ P ops S Q r a w) Q) [o] a w
theorem wJ{Q:Exit→Act→aj→Prop}(hs:Region.noSelect ops=true)(hQ:∀c d v a w,Q (.panic c) (Act.put a d v) w→Q (.panic c) a w):∀(l:List (Nat × Bool)) (listed:Array Bool) (a:Act) (w:aj),
 Yv md ops l listed=true→S w→bQ P ops S Q (l.map fun x=>((ops[x.1]?).getD default,x.2)) a w→wpAnyH P md ops Q S l.length listed a w
 | [],listed,a,w,hB,_,h=>⟨by simpa[Yv] using hB,h⟩
 | (i,true)::r,listed,a,w,hB,hS,h=>by
  simp only[Yv,be] at hB;obtain⟨⟨⟨h1,h2⟩,h3⟩,h4⟩:=hB;obtain⟨o,ho⟩:=eh.1 h1;simp only[bj,bQ,ho,dq] at h;obtain⟨v,hy,hr⟩:=h;exact wpAnyH_take ho hs h2 h3 (fun c a w=>hQ c _ v a w) hy hS (wJ hs hQ r _ _ _ h4 hS hr)
 | (i,false)::r,listed,a,w,hB,hS,h=>by
  simp only[Yv,be,decide_eq_true_eq] at hB;obtain⟨⟨h1,h2⟩,h4⟩:=hB;obtain⟨o,ho⟩:=eh.1 h1;refine wpAnyH_all h2 (by simp) fun j hj=>?_;obtain rfl:j=i:=by simpa using hj
  simp only[bj,bQ,ho,dq] at h;have key:∀a' w',Exit.then (fun a w=>S w∧bQ P ops S Q (r.map fun x=>((ops[x.1]?).getD default,x.2)) a w) Q .normal a' w'→S w'∧wpAnyH P md ops Q S r.length (listed.setIfInBounds j true) a' w':=fun a' w' hh=>⟨hh.1,wJ hs hQ r _ a' w' h4 hh.1 hh.2⟩
  unfold wpOp;simp only[ho];simp only[ar] at h;split
  · rename_i hw
    rw[if_pos hw] at h;rcases h with h | ⟨ha,x,y,hl⟩
    · refine .inl ?_
      unfold mr at h ⊢;generalize (dm a.eval o).run P w=res at *
      cases res with
      | ok n w' =>
       cases n <;> simp only[ny] at h ⊢ <;>
        first
         | exact key _ _ h
         | exact Calls.mono h (fun e w'' he=>by cases e <;> first | exact key _ _ he | exact he)
         | exact Rows.mono h (fun _ _ he=>key _ _ he)
      | halt x w'=>cases x <;> simp only[ny] at h ⊢ <;> exact h
    · exact .inr ⟨ha,x,y,hl⟩
  · rename_i hw
    rw[if_neg hw] at h;exact key _ _ h
theorem Ax{id:Nat}{Q:Exit→Act→aj→Prop}{a:Act}{w:aj}{l:List Oper}(o:List (Nat × Bool))(hm:P.follows .mixedOrders=true)(hB:(Region.noSelect l.toArray&&decide (o.length=l.length)&&Yv .any l.toArray o (f_ l.toArray.size false))=true)
 (hQ:∀c d v a w,Q (.panic c) (Act.put a d v) w→Q (.panic c) a w) {ol:List (Oper × Bool)} (hol:(o.map fun x=>((l.toArray[x.1]?).getD default,x.2))=ol)
 (h:∀w',fQ w w'→∃S,asq w' S∧bQ P l.toArray S Q ol a w'):(Code.region id l.toArray true).wp P Q a w:=by
 simp only[be,decide_eq_true_eq] at hB;subst hol;obtain⟨S,hS,h⟩:=h _ (fQ.refl w).drawn;refine wp_region_held (S:=S) hm ?_;have:=wJ (md:=.any) hB.1.1 hQ o _ a { w with drawn:=w.drawn+1 } hB.2 hS h;rwa [hB.1.2] at this
variable {ds:List dz} {l:List ai} {Q:Exit→Act→aj→Prop} {w:aj} {rest:List (Oper × Bool)} {d:Nat} {op:Op} {ty:az} {pos:String} {after:Array Edge} {v:ai}
theorem Ze(hr:∀w,S w→Bb P l op ty v w)(h:bQ P ops S Q rest (Fr (l.set d v) ds) w):bQ P ops S Q ((bu (some d) op ty pos after none,true)::rest) (Fr l ds) w:=by
 refine⟨v,.inl ⟨by simp[Region.wanted],fun w hw=>hr w hw _ O O⟩,?_⟩;show bQ P ops S Q rest ((Fr l ds).put (some d) v) w
 rw[gL];exact h
theorem bF(hr:gN P l op ty v)(h:bQ P ops S Q rest (Fr (l.set d v) ds) w):bQ P ops S Q ((bu (some d) op ty pos after none,true)::rest) (Fr l ds) w:=Ze (fun w _=>hr w) h
theorem fU{T:az}{x:bw}{a:Addr}(hx:ev l x=.pointer (some a))(hv:∀w',S w'→fZ P w' T a v)(h:bQ P ops S Q rest (Fr (l.set d v) ds) w):bQ P ops S Q ((bu (some d) (.load T x) ty pos after none,true)::rest) (Fr l ds) w :=
 Ze (fun _ hS=>aZ hx (hv _ hS)) h
theorem Bq{j:Nat}{b:Bool}(hw:yielded ops l.toArray j=some b)(h:bQ P ops S Q ((bu (some d) op ty pos after none,true)::rest) (Fr l ds) w):bQ P ops S Q ((bu (some d) op ty pos after (some (j,b)),true)::rest) (Fr l ds) w:=by
 obtain⟨v,hy,h⟩:=h;refine⟨v,?_,h⟩;rcases hy with ⟨_,hy⟩ | ⟨hn,_⟩
 · exact .inl ⟨by simp[Region.wanted,hw],hy⟩
 · simp[Region.wanted] at hn
theorem apO{j:Nat}{b c:Bool}(hw:yielded ops l.toArray j=some c)(hbc:(c == b)=false)(h:bQ P ops S Q rest (Fr (l.set d undef) ds) w):bQ P ops S Q ((bu (some d) op ty pos after (some (j,b)),true)::rest) (Fr l ds) w:=by
 refine⟨undef,.inr ⟨by simp[Region.wanted,hw];simpa using hbc,rfl⟩,?_⟩;show bQ P ops S Q rest ((Fr l ds).put (some d) undef) w
 rw[gL];exact h
theorem tM{j:Nat}(hw:yielded ops l.toArray j=some false)(h:bQ P ops S Q rest (Fr (l.set d undef) ds) w):bQ P ops S Q ((bu (some d) op ty pos after (some (j,true)),true)::rest) (Fr l ds) w:=apO hw rfl h
theorem bW(h:Q .normal (Fr l ds) w):bQ P ops S Q [] (Fr l ds) w:=h
theorem bR{o:Oper}(h:ar P ops (Exit.then (fun a w=>S w∧bQ P ops S Q rest a w) Q) [o] (Fr l ds) w):bQ P ops S Q ((o,false)::rest) (Fr l ds) w:=h
end
def tN(P:br)(d:Nat)(T:az)(x y:ai)(p:Prop):Prop:=∀w,∃b:Bool,(Op.equalIn d T x y).run P w=.ok b w∧(b=true↔p)
section
variable {P:br} {d:Nat} {T:az}
theorem tN.int{k k':IntKind}{m n:Int}(hu:P.underlying T=some (.int k')):tN P (d+1) T (.int k m) (.int k n) (m=n):=fun w=>⟨m == n,by unfold Op.equalIn;simp[cd hu],by simp⟩
theorem tN.bool{a b:Bool}(hu:P.underlying T=some .bool):tN P (d+1) T (.bool a) (.bool b) (a=b):=fun w=>⟨a == b,by unfold Op.equalIn;simp[cd hu],by simp⟩
theorem Qk{b:ByteArray}(h:a.toList=b.toList):a=b:=by
 rw[ByteArray.toList_eq,ByteArray.toList_eq] at h;cases a;cases b;simp at h;rw[h]
theorem Zf(a b:ByteArray):(a.toList == b.toList)=decide (a=b):=by
 by_cases h:a=b
 · subst h;simp
 · rw[decide_eq_false h];exact beq_eq_false_iff_ne.2 fun e=>h (Qk e)
theorem tN.str{b:ByteArray}(hu:P.underlying T=some .string):tN P (d+1) T (.string a) (.string b) (a=b):=fun w=>⟨a == b,by unfold Op.equalIn;simp[cd hu],by rw[beq_toListBytes,Zf];simp⟩
def yI(P:br)(d:Nat)(xs ys:Array ai)(fs:List Field)(p:Prop):Prop:=∀w,∃b:Bool,(Op.eqFields d xs ys fs).run P w=.ok b w∧(b=true↔p)
theorem yI.nil  : yI P d xs ys [] True:=fun w=>⟨true,by simp[Op.eqFields],by simp⟩
theorem yI.cons{xs ys:Array ai}{f:Field}{fs:List Field}{x y:ai}{p q:Prop} (hn:f.name ≠ "_") (hx:∀w,(part f.type xs f.offset).run P w=.ok x w) (hy:∀w,(part f.type ys f.offset).run P w=.ok y w)
 (h:tN P d f.type x y p) (k:yI P d xs ys fs q):yI P d xs ys (f::fs) (p∧q):=fun w=>by
 obtain⟨b,hb,hp⟩:=h w;obtain⟨c,hc,hq⟩:=k w;cases b
 · exact⟨false,by simp[Op.eqFields,hn,hx,hy,hb],by simp at hp ⊢;intro h;exact absurd h hp⟩
 · exact⟨c,by simp[Op.eqFields,hn,hx,hy,hb,hc],by simp at hp;simp[hp,hq]⟩
def rW(P:br)(d:Nat)(E:az)(n:Nat)(xs ys:Array ai)(is:List Nat)(p:Prop):Prop:=∀w,∃b:Bool,(Op.eqItems d E n xs ys is).run P w=.ok b w∧(b=true↔p)
theorem rW.nil{E:az}{n:Nat}  : rW P d E n xs ys [] True:=fun w=>⟨true,by simp[Op.eqItems],by simp⟩
theorem rW.cons{E:az}{n i:Nat}{is:List Nat}{xs ys:Array ai}{x y:ai}{p q:Prop}(hx:∀w,(part E xs (i*n)).run P w=.ok x w)(hy:∀w,(part E ys (i*n)).run P w=.ok y w)
 (h:tN P d E x y p) (k:rW P d E n xs ys is q):rW P d E n xs ys (i::is) (p∧q):=fun w=>by
 obtain⟨b,hb,hp⟩:=h w;obtain⟨c,hc,hq⟩:=k w;cases b
 · exact⟨false,by simp[Op.eqItems,hx,hy,hb],by simp at hp ⊢;intro h;exact absurd h hp⟩
 · exact⟨c,by simp[Op.eqItems,hx,hy,hb,hc],by simp at hp;simp[hp,hq]⟩
theorem tN.struct{fs:Array Field}{p:Prop}(hu:P.underlying T=some (.struct fs))(hs:P.stoodInHeld T=false)(h:yI P d xs ys fs.toList p):tN P (d+1) T (.agg xs) (.agg ys) p:=fun w=>by
 have hf:P.fieldsOf T=fs:=by simp[Program.fieldsOf,hu]
 rw[run_equalIn_struct w d T xs ys (by rw[hf];exact hu) hs,hf];exact h w
theorem tN.array{n c:Nat}{E:az}{p:Prop}(hu:P.underlying T=some (.array n E))(hc:dO P E c)(h:rW P d E c xs ys (df n) p):tN P (d+1) T (.agg xs) (.agg ys) p:=fun w=>by
 obtain⟨i,hi,rfl⟩:=hc;have hE:P.cellsOf E=i.size:=by simp[Program.cellsOf,hi]
 rw[run_equalIn_array w d xs ys hu hi,hE];exact h w
theorem tN.iff{x y:ai}{p q:Prop}(h:tN P d T x y p)(hpq:p↔q):tN P d T x y q:=fun w=>let ⟨b,hb,hp⟩:=h w;⟨b,hb,hp.trans hpq⟩
theorem cU{off:Nat}{v:ai}(hA:eU P T false)(hv:xs[off]? = some v)(w:aj):(part T xs off).run P w=.ok v w:=by simp[part,pN hA,hv]
theorem cR{us:Array ai}{off c:Nat}(hA:eU P T true)(hc:dO P T c)(hv:xs.extract off (off+c)=us)(w:aj):(part T xs off).run P w=.ok (.agg us) w:=by
 subst hv;simp[part,pN hA,eG hc]
variable {l:List ai} {x y:bw} {T' ty:az}
theorem yJ{u v:ai}{p:Prop}[Decidable p](h:tN P 10000 T u v p)(w:aj):(Op.equal T u v).run P w=.ok (decide p) w:=by
 obtain⟨b,hb,hp⟩:=h w;rw[Op.equal,show Op.maxDepth=10000 from rfl,hb]
 congr 1
 cases b
 · exact (decide_eq_false (by simpa using hp)).symm
 · exact (decide_eq_true (by simpa using hp)).symm
theorem Ql{xs ys:Array ai}{p:Prop}[Decidable p](hg:P.eqGuardType P.depth T=false)(hx:ev l x=.agg xs)(hy:ev l y=.agg ys)(h:tN P 10000 T (.agg xs) (.agg ys) p):gN P l (.binOp .eql T x y T') ty (.bool (decide p)):=fun w o ho _=>by
 simp[dm,ho,cD,hx,hy,eqGuard,binOp,hg,yJ h]
theorem ah9{xs ys:Array ai}{p:Prop}[Decidable p](hg:P.eqGuardType P.depth T=false)(hx:ev l x=.agg xs)(hy:ev l y=.agg ys)(h:tN P 10000 T (.agg xs) (.agg ys) p):gN P l (.binOp .neq T x y T') ty (.bool (decide (¬p))):=fun w o ho _=>by
 simp[dm,ho,cD,hx,hy,eqGuard,binOp,hg,yJ h]
theorem aia{a b:Bool}(hu:P.underlying T=some .bool)(hx:ev l x=.bool a)(hy:ev l y=.bool b):gN P l (.binOp .eql T x y T') ty (.bool (decide (a=b))):=fun w o ho _=>by
 have h:=yJ (tN.bool (d:=9999) (a:=a) (b:=b) hu) w;simp[dm,ho,cD,hx,hy,eqGuard,binOp,h]
theorem Qm{a b:Bool}(hu:P.underlying T=some .bool)(hx:ev l x=.bool a)(hy:ev l y=.bool b):gN P l (.binOp .neq T x y T') ty (.bool (decide (¬a=b))):=fun w o ho _=>by
 have h:=yJ (tN.bool (d:=9999) (a:=a) (b:=b) hu) w;simp[dm,ho,cD,hx,hy,eqGuard,binOp,h]
theorem ac6{b:ByteArray}(hu:P.underlying T=some .string)(hx:ev l x=.string a)(hy:ev l y=.string b):gN P l (.binOp .eql T x y T') ty (.bool (decide (a=b))):=fun w o ho _=>by
 have h:=yJ (tN.str (d:=9999) (a:=a) (b:=b) hu) w;simp[dm,ho,cD,hx,hy,eqGuard,binOp,h,Op.stringOp,Zf]
theorem apP{b:ByteArray}(hu:P.underlying T=some .string)(hx:ev l x=.string a)(hy:ev l y=.string b):gN P l (.binOp .neq T x y T') ty (.bool (decide (¬a=b))):=fun w o ho _=>by
 have h:=yJ (tN.str (d:=9999) (a:=a) (b:=b) hu) w;simp[dm,ho,cD,hx,hy,eqGuard,binOp,h,Op.stringOp,Zf]
end
end Go.Lith
namespace Go.Lith
def oR(s:ByteArray):List Nat:=s.data.toList.reverse.map jc
def amq(s:ByteArray):Nat:=val 256 (oR s)
theorem Br(s:ByteArray):s.data.toList.length=s.size:=Array.length_toList
theorem wK(s:ByteArray):(oR s).length=s.size:=by simp only[oR,List.length_map,List.length_reverse,Br]
theorem Ng(s:ByteArray):eM 256 (oR s):=fun x hx=>by
 obtain⟨b,_,rfl⟩:=List.mem_map.1 hx;exact b.toNat_lt
theorem Fm(s:ByteArray)(i:Nat):s[i]? = s.data.toList[i]?:=by
 by_cases h:i<s.size
 · rw[getElem?_pos s i h,am (by rw[Br];omega)]
   rfl
 · rw[getElem?_neg s i h,bz (by rw[Br];omega)]
theorem Gh{s:ByteArray}{i p:Nat}(h:p+1+i=s.size):∃b,s[i]? = some b∧∃hp:p<(oR s).length,(oR s)[p]=b.toNat:=by
 have hs:=Br s;have hi:i<s.data.toList.length:=by omega
 refine⟨s.data.toList[i],by rw[Fm];exact am hi,by rw[wK];omega,?_⟩;simp only[oR,List.getElem_map,List.getElem_reverse]
 congr 2
 omega
theorem kQ(n:Int):amq (kL n)=n.natAbs:=by
 have e:oR (kL n)=digs 256 n.natAbs:=by
  simp only[oR,kL,mQ,List.reverse_reverse,←List.map_reverse,List.map_map];have hd:eM 256 (digs 256 n.natAbs):=uB (by omega) _;have:∀l:List Nat,eM 256 l→l.map (jc∘ei)=l:=by
   intro l hl;refine (ir fun x hx=>?_).trans (List.map_id l);simp only[Function.comp_apply,id_eq,jj];exact kn (hl x hx)
  exact this _ hd
 rw[amq,e,rU (by omega)]
theorem tO{m n:Nat}(h:m<9223372036854775808):IntKind.i64.wrap ((m:Int).tdiv (n:Int))=((m / n:Nat):Int):=by
 rw[←Int.ofNat_tdiv];have:m / n≤m:=Nat.div_le_self m n;exact bM (by have:=Int.natCast_nonneg (m / n);omega) (by omega)
theorem aib{xs:List Nat}{n:Nat}(h:xs.length≤n):val 256 (xs.drop n)=0:=by rw[gi h];rfl
def nT(l:List UInt8):ByteArray:=⟨l.toArray⟩
theorem pV(l:List UInt8):(nT l).data.toList=l:=by simp[nT]
theorem agh{l k:List UInt8}(h:nT l=nT k):l=k:=by rw[←pV l,h,pV]
theorem Gi(l:List UInt8):(nT l).size=l.length:=by rw[←Br,pV]
theorem agi(l:List UInt8)(i:Nat):(nT l)[i]? = l[i]?:=by rw[Fm,pV]
theorem ac7(l:List UInt8)(n:Nat):(nT l).extract n (nT l).size=nT (l.drop n):=by
 apply ByteArray.ext;rw[ByteArray.data_extract];apply pw;rw[Array.toList_extract,pV,Gi];simp only[nT,List.extract_eq_take_drop,ff];exact a_ (by simp)
theorem abe(l:List UInt8):(nT l=⟨#[]⟩)=(l=[]):=by
 apply propext;constructor
 · intro h
   exact agh (k:=[]) h
 · rintro rfl;rfl
def jJ(l:List UInt8):List UInt8:=l.dropWhile (· == 0)
theorem ac8{l:List UInt8}{b:UInt8}(h:l[0]? = some b)(hb:b.toNat=0):jJ (l.drop 1)=jJ l:=by
 cases l with
 | nil=>cases h
 | cons c l =>
  simp at h;subst h;have:c=0:=nl.1 hb;subst this;simp[jJ]
theorem ac9{l:List UInt8}{b:UInt8}(h:l[0]? = some b)(hb:¬b.toNat=0):jJ l=l:=by
 cases l with
 | nil=>rfl
 | cons c l =>
  simp at h;subst h;have:¬c=0:=fun e=>hb (by rw[e];rfl);simp[jJ,this]
theorem agj:jJ []=[]:=rfl
end Go.Lith
namespace Go.Lith
open Go.RowKit
variable{w:aj}{D:Nat}
section
variable {P:br} {ds:List dz} {l:List ai} {x y z0:bw} {T T' ty:az}
abbrev u8v(b:UInt8):ai:=.int .u8 (b.toNat:Int)
theorem Qn{w:aj}{base n:Nat}{E:az}{v:ai}{bs:List UInt8}(hs:P.underlying T=some (.slice E))(he:P.underlying E=some (.int .u8))(hd:P.underlying T'=some .string)(hx:ev l x=v)(hown:ah6 w base E 1 v n (bs.map u8v)) :
 Bb P l (.convert T T' x) ty (.string (nT bs)) w:=fun o ho _=>by
 have hn:bs.length=n:=by have:=hown.1;simpa using this
 rcases hown.row with ⟨rfl,rfl,h⟩ | ⟨g,cap,rfl,_,_,_,_,hr⟩
 · obtain rfl:bs=[]:=by simpa using h
   simp only[dm,ho,cD,hx];rw[Sem.run_bind,run_convert_bytes_nil w T E hs he 0 0 T' hd];rfl
 · subst hn
   have:=run_convert_bytes_back (P:=P) w T T' E ⟨g,0,none⟩ cap bs hs he hd (fun j hj=>hr j _ (by simp[hj]));simp only[dm,ho,cD,hx];rw[Sem.run_bind,this];rfl
end
structure Def(w:aj)(D:Nat):Prop where
 h:w.heap[D]? = some (.deferred (some []))
theorem Def.ext{w':aj}(h:Def w D)(hE:fQ w w'):Def w' D:=⟨hE.block h.h⟩
theorem Def.ne{g:Nat}{cs:List ai}{t:az}(h:Def w D)(hB:fR w g cs t):D≠g:=fun e=>by
 subst e;have:=h.h;rw[hB] at this;cases this
theorem Def.chg{w':aj}{g:Nat}(h:Def w D)(hC:Chg w w' g)(hne:D≠g):Def w' D:=⟨(hC.block D hne).trans h.h⟩
theorem fR.putD{g:Nat}{cs:List ai}{t:az}(hB:fR w g cs t)(h:Def w D){o:Obj}:fR (w.putObj D o) g cs t:=(World.putObj_heap_other (Ne.symm (h.ne hB))).trans hB
theorem fQ.putD{w0:aj}(hX:fQ w0 w)(hD:w0.heap.size≤D){o:Obj}:fQ w0 (w.putObj D o) :=
 ⟨hX.os,hX.tape,hX.output,by rw[World.putObj_size];exact hX.size,fun k hk=>(World.putObj_heap_other (by omega)).trans (Below.block hX k hk)⟩
theorem ada{P:br}{l:List ai}{n:Nat}{fn:Func}{R:Ending→aj→Prop}{D:Nat}{w:aj}(hK:Def w D)(h:bodyPost P fn R .ret (Fr l) (w.putObj D (.deferred none))) :
 bodyPostM Fence.wide n P fn R .ret (Fr l [{ target:=.collected D,args:=#[] }]) w:=by
 refine⟨by simp,.inl ⟨D,_,O,run_takeDeferred hK.h,?_⟩⟩;obtain⟨_,v,hv,hR⟩:=h;exact⟨v,hv,hR⟩
end Go.Lith
namespace Go.Lith
variable{n a:Int}{k m:Nat}
def wb(x:Nat):List UInt8:=[ei (x / 16777216),ei (x / 65536),ei (x / 256),ei x]
def wbs(l:List (Nat × Nat)):List UInt8:=l.flatMap fun x=>wb x.2
theorem aic(l:List (Nat × Nat))(x:Nat × Nat):wbs (l++[x])=wbs l++wb x.2:=by simp[wbs]
theorem Qo(l:List (Nat × Nat)):(wbs l).length=4*l.length:=by
 induction l with
 | nil=>rfl
 | cons x l ih=>rw[wbs,di,aw];rw[wbs] at ih;rw[ih];simp[wb];omega
def Uw(neg:Bool)(n:Nat):Int:=if neg then -(n:Int) else n
theorem Gj(neg:Bool)(n:Nat):(Uw neg n).natAbs=n:=by cases neg <;> simp[Uw]
theorem Zg(neg:Bool)(n:Nat):fX (Uw neg n)=(neg&&decide (n≠0)):=by
 cases neg
 · simp[Uw,fX]
 · rcases iz n with h | h
   · subst h;rfl
   · have h2:n≠0:=by omega
     simp[Uw,fX,h,h2]
theorem Ux(ys:List Nat)(h:eM 4294967296 ys):val 256 (((ys.reverse.flatMap wb).reverse).map jc)=val 4294967296 ys∧eM 256 (((ys.reverse.flatMap wb).reverse).map jc):=by
 induction ys with
 | nil=>exact⟨rfl,fun _ h=>by cases h⟩
 | cons y ys ih =>
  have hy:=h y (by simp);obtain⟨i1,i2⟩:=ih (fun x hx=>h x (by simp[hx]));have e:(((y::ys).reverse.flatMap wb).reverse).map jc=[y%256,y / 256%256,y / 65536%256,y / 16777216%256]++(((ys.reverse.flatMap wb).reverse).map jc):=by
   simp[List.flatMap_append,wb,jj]
  rw[e];refine⟨?_,?_⟩
  · rw[lB,i1]
    simp only[val,av,List.length_nil];omega
  · refine eM.append ?_ i2
    intro x hx;simp at hx;omega
theorem Nh{l:List UInt8}:jJ l=((trim ((l.reverse).map jc)).reverse).map ei:=by
 induction l with
 | nil=>rfl
 | cons b l ih =>
  have hk:∀k:List Nat,∀x:Nat,trim (k++[x])=if x=0 then trim k else k++[x]:=fun k x=>by
   split
   · rename_i h;subst h;exact pT k
   · rename_i h;exact wI h k
  rw[List.reverse_cons,List.map_append,bj,List.map_nil,hk];by_cases hb:b=0
  · subst hb
    rw[if_pos (show jc 0=0 from rfl),←ih];simp[jJ]
  · have hb':¬b.toNat=0:=fun e=>hb (nl.1 e)
    rw[if_neg hb'];simp[jJ,hb,Function.comp_def]
theorem adb{ys:List Nat}(h:eM 4294967296 ys)(neg:Bool):nT (jJ (ys.reverse.flatMap wb))=kL (Uw neg (val 4294967296 ys)):=by
 obtain⟨h1,h2⟩:=Ux ys h;rw[Nh,pS (by omega) h2 h1,kL,Gj,mQ];rfl
theorem Qp{neg:Bool}{n:Nat}:(kL (Uw neg n)=⟨#[]⟩)↔n=0:=by
 constructor
 · intro h
   have:=Vz (Uw neg n);rw[h,Gj] at this;have h0:digs 256 n=[]:=et this.symm;exact (vP (by omega)).1 h0
 · rintro rfl
   cases neg <;> rfl
class Bw(k:outParam Nat)(n:Int):Prop where
 h:Bd k n
instance {a b:Nat}{m n:Int}[x:Bw a m][y:Bw b n]:Bw (max a b+1) (m+n):=⟨x.h.add y.h⟩
instance {a b:Nat}{m n:Int}[x:Bw a m][y:Bw b n]:Bw (max a b+1) (m-n):=⟨x.h.sub y.h⟩
instance {a b:Nat}{m n:Int}[x:Bw a m][y:Bw b n]:Bw (a+b) (m*n):=⟨x.h.mul y.h⟩
instance:Bw 1 0:=⟨Oz 1⟩
theorem La(h:fX n=true):n<0:=of_decide_eq_true h
theorem Gk(h:fX n=false):0≤n:=qu.1 (of_decide_eq_false h)
theorem natAbs_neg(h:fX n=true):(n.natAbs:Int) = -n:=by have:=La h;omega
theorem kR(h:fX n=false):(n.natAbs:Int)=n:=by have:=Gk h;omega
theorem Bt(n:Nat):Uw true n = -(n:Int):=rfl
theorem xA(n:Nat):Uw false n=(n:Int):=rfl
theorem Hx(a:Int):Uw (fX a) a.natAbs=a:=by
 cases h:fX a
 · rw[xA,kR h]
 · rw[Bt,natAbs_neg h];omega
theorem ae3(a:Int):Uw (!fX a) a.natAbs = -a:=by
 cases h:fX a
 · rw[Bool.not_false,Bt,kR h]
 · rw[Bool.not_true,xA,natAbs_neg h]
theorem ae4{b:Int}(h:fX a=fX b):Uw (fX a) (a.natAbs+b.natAbs)=a+b:=by
 cases ha:fX a <;> rw[ha] at h
 · have h1:=kR ha;have h2:=kR h.symm;rw[xA];omega
 · have h1:=natAbs_neg ha;have h2:=natAbs_neg h.symm;rw[Bt];omega
theorem aid{b:Int}(h:¬fX a=fX b)(hl:a.natAbs<b.natAbs):Uw (fX b) (b.natAbs-a.natAbs)=a+b:=by
 cases ha:fX a <;> cases hb:fX b <;> rw[ha,hb] at h
 · exact absurd O h
 · have h1:=kR ha;have h2:=natAbs_neg hb;rw[Bt];omega
 · have h1:=natAbs_neg ha;have h2:=kR hb;rw[xA];omega
 · exact absurd O h
theorem aie{b:Int}(h:¬fX a=fX b)(hl:b.natAbs≤a.natAbs):Uw (fX a) (a.natAbs-b.natAbs)=a+b:=by
 cases ha:fX a <;> cases hb:fX b <;> rw[ha,hb] at h
 · exact absurd O h
 · have h1:=kR ha;have h2:=natAbs_neg hb;rw[xA];omega
 · have h1:=natAbs_neg ha;have h2:=kR hb;rw[Bt];omega
 · exact absurd O h
theorem ae5{b:Int}:Uw (decide (¬fX a=fX b)) (a.natAbs*b.natAbs)=a*b:=by
 cases ha:fX a <;> cases hb:fX b
 · have h1:=kR ha;have h2:=kR hb
   show ((a.natAbs*b.natAbs:Nat):Int)=_
   rw[jh,h1,h2]
 · have h1:=kR ha;have h2:=natAbs_neg hb
   show -((a.natAbs*b.natAbs:Nat):Int)=_
   rw[jh,h1,h2,Int.mul_neg,Int.neg_neg]
 · have h1:=natAbs_neg ha;have h2:=kR hb
   show -((a.natAbs*b.natAbs:Nat):Int)=_
   rw[jh,h1,h2,Int.neg_mul,Int.neg_neg]
 · have h1:=natAbs_neg ha;have h2:=natAbs_neg hb
   show ((a.natAbs*b.natAbs:Nat):Int)=_
   rw[jh,h1,h2,Int.neg_mul_neg]
def bA(n:Int):Int:=if n<0 then -1 else if 0<n then 1 else 0
theorem Dz(h:n<0):bA n = -1:=by rw[bA,if_pos h]
theorem Ea(h:0<n):bA n=1:=by rw[bA,if_neg (by omega),if_pos h]
theorem Bu{V:Nat}(h:V<2^k):(digs 4294967296 V).length≤k:=by
 refine lF (by omega) (gg h ?_);rw[show (4294967296:Nat)=2^32 from rfl,←oy];exact jk (by omega) (by omega)
theorem kS(h:Bd 1000000 n):(kL n).size≤1000000000000:=ba (Za h) (by decide)
theorem agk{b:Int}(ha:Bd k a)(hb:Bd k b):(digs 4294967296 (a.natAbs+b.natAbs)).length≤k+1:=Bu (by unfold Bd at ha hb;rw[ja];omega)
theorem Gl(h:Bd k n):(digs 4294967296 n.natAbs).length≤k:=Bu h
theorem Zh{n:Nat}(h:m≤n):(digs 4294967296 m).length≤(digs 4294967296 n).length:=by
 refine lF (by omega) (nw h ?_);have:=Gg (abc n);rwa [gU] at this
theorem ae6  : (((digs 4294967296 a.natAbs).length:Int)=0)↔a=0:=by
 constructor
 · intro h
   have h0:digs 4294967296 a.natAbs=[]:=et (by omega);have:=(vP (by omega)).1 h0;omega
 · rintro rfl;rfl
def sP(n:Int):Prop:=-9223372036854775808≤n∧n<9223372036854775808
theorem sP.bd(h:sP n):Bd 64 n:=Bd.of_i64 h.1 (by have:=h.2;omega)
theorem aif(h:sP n)(h0:0≤n):IntKind.u64.wrap n=(n.natAbs:Int):=by
 rw[mH];have:=h.2;omega
theorem ae7(h:sP n)(h0:n<0):IntKind.u64.wrap n=((18446744073709551616-n.natAbs:Nat):Int):=by
 rw[mH];have:=h.1;omega
theorem Wd(h:m≤9223372036854775808)(h0:0<m):IntKind.u64.wrap (0-((18446744073709551616-m:Nat):Int))=(m:Int):=by
 rw[mH];omega
theorem We  : val 4294967296 [m%4294967296,m / 4294967296]=m:=by simp[val];omega
theorem Qr(h:m<18446744073709551616):eM 4294967296 [m%4294967296,m / 4294967296]:=fun x hx=>by simp at hx;omega
theorem sP.natAbs(h:sP n):n.natAbs≤9223372036854775808:=by have:=h.1;have:=h.2;omega
def Qc(n d:Int):Go.Value:=.agg #[.bool (fX n),.string (kL n),.bool (fX d),.string (kL d)]
def Q(q:Rat):Go.Value:=Qc q.num q.den
end Go.Lith
namespace Go.Lith
open Go.RowKit
variable{k m:Nat}
theorem Qs{a b:Nat}:0≤ord a b↔b≤a:=by
 unfold ord;split
 · omega
 · split <;> omega
structure P3 where
 x:Int
 y:Int
 z:Int
structure T3 where
 a:P3
 b:P3
 c:P3
namespace P3
def sub(p q:P3):P3:=⟨p.x-q.x,p.y-q.y,p.z-q.z⟩
def dot(p q:P3):Int:=p.x*q.x+p.y*q.y+p.z*q.z
def cross(u v:P3):P3:=⟨u.y*v.z-u.z*v.y,u.z*v.x-u.x*v.z,u.x*v.y-u.y*v.x⟩
end P3
def T3.normal(t:T3):P3:=(t.b.sub t.a).cross (t.c.sub t.a)
def pt(p:P3):Go.Value:=.agg #[.int .i64 p.x,.int .i64 p.y,.int .i64 p.z]
def tr(t:T3):Go.Value:=.agg #[.int .i64 t.a.x,.int .i64 t.a.y,.int .i64 t.a.z,.int .i64 t.b.x,.int .i64 t.b.y,.int .i64 t.b.z,.int .i64 t.c.x,.int .i64 t.c.y,.int .i64 t.c.z]
def wv(v:P3):Go.Value:=.agg #[.bool (fX v.x),.string (kL v.x),.bool (fX v.y),.string (kL v.y),.bool (fX v.z),.string (kL v.z)]
theorem Bw.up{n:Int}[x:Bw k n](h:k≤m:=by decide):Bd m n:=x.h.mono h
theorem Lb:kL 0=⟨#[]⟩:=by
 have:mQ 0=[]:=by
  unfold mQ;rw[(vP (B:=256) (by omega)).2 rfl];rfl
 simp only[kL,Int.natAbs_zero,this]
theorem Zi:W 0=.agg #[.bool false,.string ⟨#[]⟩]:=by simp only[W,Lb];rfl
class Iw(n:Int):Prop where
 h:sP n
class I3(p:P3):Prop where
 x:sP p.x
 y:sP p.y
 z:sP p.z
class IT(t:T3):Prop where
 a:I3 t.a
 b:I3 t.b
 c:I3 t.c
instance {p:P3}[h:I3 p]:Iw p.x:=⟨h.x⟩
instance {p:P3}[h:I3 p]:Iw p.y:=⟨h.y⟩
instance {p:P3}[h:I3 p]:Iw p.z:=⟨h.z⟩
instance {t:T3}[h:IT t]:I3 t.a:=h.a
instance {t:T3}[h:IT t]:I3 t.b:=h.b
instance {t:T3}[h:IT t]:I3 t.c:=h.c
instance {n:Int}[h:Iw n]:Bw 64 n:=⟨h.h.bd⟩
class Bv(k:outParam Nat)(v:P3):Prop where
 x:Bd k v.x
 y:Bd k v.y
 z:Bd k v.z
instance {k:Nat}{v:P3}[h:Bv k v]:Bw k v.x:=⟨h.x⟩
instance {k:Nat}{v:P3}[h:Bv k v]:Bw k v.y:=⟨h.y⟩
instance {k:Nat}{v:P3}[h:Bv k v]:Bw k v.z:=⟨h.z⟩
theorem Bv.mono{v:P3}(h:Bv k v)(hk:k≤m):Bv m v:=⟨h.x.mono hk,h.y.mono hk,h.z.mono hk⟩
theorem Bv.of{v:P3}[h:Bv k v](hk:k≤m:=by decide):Bv m v:=h.mono hk
instance {p q:P3}[a:I3 p][b:I3 q]:Bv 65 (p.sub q):=⟨a.x.bd.sub b.x.bd,a.y.bd.sub b.y.bd,a.z.bd.sub b.z.bd⟩
theorem Zj{l:Nat}{a b c d:Int}(ha:Bd k a)(hb:Bd l b)(hc:Bd k c)(hd:Bd l d):Bd (k+l+1) (a*b-c*d):=by
 have:=(ha.mul hb).sub (hc.mul hd);exact this.mono (by omega)
theorem aig{l:Nat}{a b c d:Int}(ha:Bd k a)(hb:Bd l b)(hc:Bd k c)(hd:Bd l d):Bd (k+l+1) (a*b+c*d):=by
 have:=(ha.mul hb).add (hc.mul hd);exact this.mono (by omega)
instance {k l:Nat}{u v:P3}[a:Bv k u][b:Bv l v]:Bv (k+l+1) (u.cross v):=⟨Zj a.y b.z a.z b.y,Zj a.z b.x a.x b.z,Zj a.x b.y a.y b.x⟩
instance {k l:Nat}{u v:P3}[a:Bv k u][b:Bv l v]:Bw (k+l+2) (u.dot v):=⟨((aig a.x b.x a.y b.y).add (a.z.mul b.z)).mono (by omega)⟩
instance {t:T3}[h:IT t]:Bv 131 t.normal:=inferInstanceAs (Bv 131 ((t.b.sub t.a).cross (t.c.sub t.a)))
theorem P3.dot0{u v:P3}:0+u.x*v.x+u.y*v.y+u.z*v.z=u.dot v:=by simp only[P3.dot,Int.zero_add]
section
variable {P:br} {Q:Exit→Act→aj→Prop} {a:Act} {w:aj} {c:Code} {n:Nat}
theorem By(h:c.wp P (Exit.then (Code.rounds P c Q n) Q) a w):Code.rounds P c Q (n+1) a w:=h
theorem lR(h:c.wp P (Exit.then (Code.rounds P c Q n) Q) a w):Exit.then (Code.rounds P c Q (n+1)) Q .normal a w:=h
end
inductive qN where
 | nil:qN
 | take:Nat→qN→qN
 | one:Nat→qN→qN
 | two:Nat→qN→Nat→qN→qN
 | three:Nat→qN→Nat→qN→Nat→qN→qN
section
variable {P:br} {ops:Array Oper} {md:Region.Mode} {S:aj→Prop}
def qN.ok(md:Region.Mode)(ops:Array Oper):qN→Nat→Array Bool→Bool
 | .nil,f,listed=>f == 0&&(Region.ready md ops listed).isEmpty
 | .take i t,f,listed=>decide (0<f)&&(ops[i]?).isSome&&Region.free md ops listed i&&(Region.ready md ops listed).contains i&&t.ok md ops (f-1) (listed.setIfInBounds i true)
 | .one i t,f,listed=>decide (0<f)&&(ops[i]?).isSome&&decide (Region.ready md ops listed=[i])&&t.ok md ops (f-1) (listed.setIfInBounds i true)
 | .two i t j u,f,listed=>decide (0<f)&&(ops[i]?).isSome&&(ops[j]?).isSome&&decide (Region.ready md ops listed=[i,j])&&t.ok md ops (f-1) (listed.setIfInBounds i true)&&u.ok md ops (f-1) (listed.setIfInBounds j true)
 | .three i t j u k v,f,listed=>decide (0<f)&&(ops[i]?).isSome&&(ops[j]?).isSome&&(ops[k]?).isSome&&decide (Region.ready md ops listed=[i,j,k])&&t.ok md ops (f-1) (listed.setIfInBounds i true)&&u.ok md ops (f-1) (listed.setIfInBounds j true)&&v.ok md ops (f-1) (listed.setIfInBounds k true)
def cO(P:br)(ops:Array Oper)(S:aj→Prop)(Q:Exit→Act→aj→Prop):qN→Act→aj→Prop
 | .nil,a,w=>Q .normal a w
 | .take i t,a,w=>bQ P ops S (fun _ a w=>cO P ops S Q t a w) [((ops[i]?).getD default,true)] a w
 | .one i t,a,w=>ar P ops (Exit.then (fun a w=>S w∧cO P ops S Q t a w) Q) [(ops[i]?).getD default] a w
 | .two i t j u,a,w=>ar P ops (Exit.then (fun a w=>S w∧cO P ops S Q t a w) Q) [(ops[i]?).getD default] a w∧ar P ops (Exit.then (fun a w=>S w∧cO P ops S Q u a w) Q) [(ops[j]?).getD default] a w
 | .three i t j u k v,a,w=>ar P ops (Exit.then (fun a w=>S w∧cO P ops S Q t a w) Q) [(ops[i]?).getD default] a w∧ar P ops (Exit.then (fun a w=>S w∧cO P ops S Q u a w) Q) [(ops[j]?).getD default] a w∧ar P ops (Exit.then (fun a w=>S w∧cO P ops S Q v a w) Q) [(ops[k]?).getD default] a w
theorem jS{Q:Exit→Act→aj→Prop}{K:Act→aj→Prop}{i:Nat}{o:Oper}(ho:ops[i]? = some o){a:Act}{w:aj}(h:ar P ops (Exit.then K Q) [o] a w):wpOp P ops Q i K a w:=by
 unfold wpOp;simp only[ho];simp only[ar] at h;split
 · rename_i hw
   rw[if_pos hw] at h;rcases h with h | ⟨ha,x,y,hl⟩
   · refine .inl ?_
     unfold mr at h ⊢;generalize (dm a.eval o).run P w=res at *
     cases res with
     | ok n w' =>
      cases n <;> simp only[ny] at h ⊢ <;>
       first
        | exact h
        | exact Calls.mono h (fun e w'' he=>by cases e <;> exact he)
        | exact Rows.mono h (fun _ _ he=>he)
     | halt x w'=>cases x <;> simp only[ny] at h ⊢ <;> exact h
   · exact .inr ⟨ha,x,y,hl⟩
 · rename_i hw
   rw[if_neg hw] at h;exact h
theorem jB{Q:Exit→Act→aj→Prop}(hs:Region.noSelect ops=true)(hQ:∀c d v a w,Q (.panic c) (Act.put a d v) w→Q (.panic c) a w):∀(t:qN) (f:Nat) (listed:Array Bool) (a:Act) (w:aj),
 t.ok md ops f listed=true→S w→cO P ops S Q t a w→wpAnyH P md ops Q S f listed a w
 | .nil,f,listed,a,w,hB,_,h=>by
  simp only[qN.ok,be,beq_iff_eq] at hB;obtain⟨rfl,h2⟩:=hB;exact⟨by simpa using h2,h⟩
 | .take i t,f,listed,a,w,hB,hS,h=>by
  simp only[qN.ok,be,decide_eq_true_eq] at hB;obtain⟨⟨⟨⟨h0,h1⟩,h2⟩,h3⟩,h4⟩:=hB;obtain⟨o,ho⟩:=eh.1 h1;simp only[cO,bQ,ho,dq] at h;obtain⟨v,hy,hr⟩:=h;obtain⟨f,rfl⟩:∃g,f=g+1:=⟨f-1,by omega⟩
  exact wpAnyH_take ho hs h2 h3 (fun c a w=>hQ c _ v a w) hy hS (jB hs hQ t f _ _ _ h4 hS hr)
 | .one i t,f,listed,a,w,hB,hS,h=>by
  simp only[qN.ok,be,decide_eq_true_eq] at hB;obtain⟨⟨⟨h0,h1⟩,h2⟩,h4⟩:=hB;obtain⟨o,ho⟩:=eh.1 h1;obtain⟨f,rfl⟩:∃g,f=g+1:=⟨f-1,by omega⟩
  refine wpAnyH_all h2 (by simp) fun j hj=>?_;obtain rfl:j=i:=by simpa using hj
  simp only[cO,ho,dq] at h;exact wpOp_mono (fun a' w' hh=>⟨hh.1,jB hs hQ t f _ a' w' h4 hh.1 hh.2⟩) (jS ho h)
 | .two i t j u,f,listed,a,w,hB,hS,h=>by
  simp only[qN.ok,be,decide_eq_true_eq] at hB;obtain⟨⟨⟨⟨⟨h0,h1⟩,h1'⟩,h2⟩,h4⟩,h5⟩:=hB;obtain⟨o,ho⟩:=eh.1 h1;obtain⟨o',ho'⟩:=eh.1 h1';obtain⟨f,rfl⟩:∃g,f=g+1:=⟨f-1,by omega⟩
  simp only[cO,ho,ho',dq] at h;refine wpAnyH_all h2 (by simp) fun k hk=>?_;have hk':k=i∨k=j:=by simpa using hk
  rcases hk' with rfl | rfl
  · exact wpOp_mono (fun a' w' hh=>⟨hh.1,jB hs hQ t f _ a' w' h4 hh.1 hh.2⟩) (jS ho h.1)
  · exact wpOp_mono (fun a' w' hh=>⟨hh.1,jB hs hQ u f _ a' w' h5 hh.1 hh.2⟩) (jS ho' h.2)
 | .three i t j u k v,f,listed,a,w,hB,hS,h=>by
  simp only[qN.ok,be,decide_eq_true_eq] at hB;obtain⟨⟨⟨⟨⟨⟨⟨h0,h1⟩,h1'⟩,h1''⟩,h2⟩,h4⟩,h5⟩,h6⟩:=hB;obtain⟨o,ho⟩:=eh.1 h1;obtain⟨o',ho'⟩:=eh.1 h1';obtain⟨o'',ho''⟩:=eh.1 h1'';obtain⟨f,rfl⟩:∃g,f=g+1:=⟨f-1,by omega⟩
  simp only[cO,ho,ho',ho'',dq] at h;refine wpAnyH_all h2 (by simp) fun m hm=>?_;have hm':m=i∨m=j∨m=k:=by simpa using hm
  rcases hm' with rfl | rfl | rfl
  · exact wpOp_mono (fun a' w' hh=>⟨hh.1,jB hs hQ t f _ a' w' h4 hh.1 hh.2⟩) (jS ho h.1)
  · exact wpOp_mono (fun a' w' hh=>⟨hh.1,jB hs hQ u f _ a' w' h5 hh.1 hh.2⟩) (jS ho' h.2.1)
  · exact wpOp_mono (fun a' w' hh=>⟨hh.1,jB hs hQ v f _ a' w' h6 hh.1 hh.2⟩) (jS ho'' h.2.2)
theorem Qt{id:Nat}{Q:Exit→Act→aj→Prop}{a:Act}{w:aj}{l:List Oper}(t:qN)(hm:P.follows .mixedOrders=true)(hB:(Region.noSelect l.toArray&&t.ok .any l.toArray l.toArray.size (f_ l.toArray.size false))=true)
 (hQ:∀c d v a w,Q (.panic c) (Act.put a d v) w→Q (.panic c) a w)
 (h:∀w',fQ w w'→∃S,asq w' S∧cO P l.toArray S Q t a w'):(Code.region id l.toArray true).wp P Q a w:=by
 simp only[be] at hB;obtain⟨S,hS,h⟩:=h _ (fQ.refl w).drawn;exact wp_region_held (S:=S) hm (jB (md:=.any) hB.1 hQ t _ _ a _ hB.2 hS h)
variable {Q:Exit→Act→aj→Prop} {a:Act} {w:aj} {o o':Oper} {i j:Nat} {t u:qN}
theorem Fo(h:Q .normal a w):cO P ops S Q .nil a w:=h
theorem eN(ho:(ops[i]?).getD default=o)(h:bQ P ops S (fun _ a w=>cO P ops S Q t a w) [(o,true)] a w):cO P ops S Q (.take i t) a w:=by subst ho;exact h
theorem nU(ho:(ops[i]?).getD default=o)(h:ar P ops (Exit.then (fun a w=>S w∧cO P ops S Q t a w) Q) [o] a w):cO P ops S Q (.one i t) a w:=by subst ho;exact h
theorem abg(ho:(ops[i]?).getD default=o)(ho':(ops[j]?).getD default=o')(h:ar P ops (Exit.then (fun a w=>S w∧cO P ops S Q t a w) Q) [o] a w)(h':ar P ops (Exit.then (fun a w=>S w∧cO P ops S Q u a w) Q) [o'] a w):cO P ops S Q (.two i t j u) a w:=by
 subst ho;subst ho';exact⟨h,h'⟩
end
section
variable {P:br} {ops:Array Oper} {md:Region.Mode} {w0:aj}
def YE(P:br)(ops:Array Oper)(w0:aj)(o:Oper)(v:ai)(a:Act):Prop :=
 (Region.wanted o (yielded ops a.tmps)=true∧∀w,fQ w0 w→o.quietAt P a (fQ w) w v)∨(Region.wanted o (yielded ops a.tmps)=false∧v=undef)
theorem YE.of_same{o:Oper}{v:ai}{a a':Act}(hy:YE P ops w0 o v a)(he:dm a'.eval o=dm a.eval o)
 (hw:Region.wanted o (yielded ops a'.tmps)=Region.wanted o (yielded ops a.tmps)):YE P ops w0 o v a':=by
 unfold YE ma at *
 rw[he,hw];exact hy
def qE(P:br)(ops:Array Oper)(w0:aj)(i:Nat)(K:Act→Prop)(a:Act):Prop:=∃o v,ops[i]? = some o∧YE P ops w0 o v a∧K (a.put o.dst v)
theorem ams{i:Nat}{a:Act}{K K':Act→Prop}(h:∀a,K a→K' a)(hh:qE P ops w0 i K a):qE P ops w0 i K' a :=
 let ⟨o,v,h1,h2,h3⟩:=hh;⟨o,v,h1,h2,h _ h3⟩
theorem apQ{j:Nat}{oi oj:Oper}{v:ai}(hj:ops[j]? = some oj)(hap:oi.apart ops oj=true)(hsi:∀cs b,oi.op≠.select cs b)(hsj:∀cs b,oj.op≠.select cs b){K:Act→Prop}{a:Act}
 (hy:YE P ops w0 oi v a) (h:qE P ops w0 j K (a.put oi.dst v)):qE P ops w0 j (fun a'=>YE P ops w0 oi v a'∧K (a'.put oi.dst v)) a:=by
 obtain⟨h1,h2,h3⟩:=Oper.apart_spec hap;obtain⟨o,u,ho,hu,hk⟩:=h;rw[hj] at ho;cases ho;refine⟨oj,u,hj,hu.of_same (execOp_put oj hsj a oi.dst v h1).symm (wanted_put oj a oi.dst v h1).symm,hy.of_same (execOp_put oi hsi a oj.dst u h3) (wanted_put oi a oj.dst u h3),?_⟩;rw[←Act.put_comm a v u h2];exact hk
def Qu(P:br)(md:Region.Mode)(ops:Array Oper)(w0:aj)(n:Nat)(L:Array Bool→Act→Prop):Nat→Array Bool→Act→Prop
 | 0,listed,a=>L listed a
 | f+1,listed,a=>Region.ready md ops listed≠[]∧∀i∈Region.ready md ops listed,i<n∧qE P ops w0 i (Qu P md ops w0 n L f (listed.setIfInBounds i true)) a
theorem Zk{n i:Nat}{oi:Oper}{v:ai}{L:Array Bool→Act→Prop}(hi:ops[i]? = some oi)(hsel:∀(j:Nat) (o:Oper) cs b,ops[j]? = some o→o.op≠.select cs b)
 (hs:Region.sinkB md ops n=true) (hc:Region.chainB md ops n=true) (hn:n<ops.size) (hin:i<n)
 (hdone:∀listed a,L listed a→∀j∈Region.ready md ops listed,n≤j) :
 ∀(f:Nat) (listed:Array Bool) (a:Act),HeadInv md ops n listed →
  (∀j oj,ops[j]? = some oj→j≠i→listed.getD j true=false→(∀e∈oj.after,Region.binds md e=true→e.on≠i)→oi.apart ops oj=true) →
  i∈Region.ready md ops listed→YE P ops w0 oi v a →
  Qu P md ops w0 n L f (listed.setIfInBounds i true) (a.put oi.dst v)→Qu P md ops w0 n L (f+1) listed a:=by
 intro f
 induction f with
 | zero =>
  intro listed a inv _ hr hy H;have hun:=(mem_ready.1 hr).1;refine⟨fun h=>(by rw[h] at hr;cases hr),fun j hj=>?_⟩;have hjn:j<n:=by
   rcases eu j n with h | h
   · exact h
   · exact absurd hj (tail_waits hs hc hn inv _ i O hin hun j h)
  refine⟨hjn,?_⟩;by_cases hji:j=i
  · subst hji;exact⟨oi,v,hi,hy,H⟩
  · have:=hdone _ _ H j (ready_mono hj hji)
    omega
 | succ f ih =>
  intro listed a inv hfree hr hy H;have hun:=(mem_ready.1 hr).1;refine⟨fun h=>(by rw[h] at hr;cases hr),fun j hj=>?_⟩;have hjn:j<n:=by
   rcases eu j n with h | h
   · exact h
   · exact absurd hj (tail_waits hs hc hn inv _ i O hin hun j h)
  refine⟨hjn,?_⟩;by_cases hji:j=i
  · subst hji;exact⟨oi,v,hi,hy,H⟩
  · have h1:=(H.2 j (ready_mono hj hji)).2
    obtain⟨hjun,oj,hoj,hall⟩:=mem_ready.1 hj;have hnot:∀e∈oj.after,Region.binds md e=true→e.on≠i:=fun e he hb heq=>by
     have h1:=hall e he hb;rw[heq,getD_both hun] at h1;cases h1
    have h2:=apQ hoj (hfree j oj hoj hji hjun hnot) (fun cs b=>hsel i oi cs b hi) (fun cs b=>hsel j oj cs b hoj) hy h1;have hfree':∀k ok,ops[k]? = some ok→k≠i→(listed.setIfInBounds j true).getD k true=false →
     (∀e∈ok.after,Region.binds md e=true→e.on≠i)→oi.apart ops ok=true:=fun k ok hk hki hun hno=>by
     refine hfree k ok hk hki ?_ hno;by_cases hjk:j=k
     · subst hjk;exact hjun
     · rw[getD_set_ne true hjk] at hun;exact hun
    refine ams (fun a' h3=>ih (listed.setIfInBounds j true) a' (inv.set hj hjn) hfree' (ready_mono hr (Ne.symm hji)) h3.1 ?_) h2;rw[nj _ _ hji];exact h3.2
def Bz(P:br)(ops:Array Oper)(w0:aj)(L:Act→Prop):List Oper→Act→Prop
 | [],a=>L a
 | o::r,a=>∃v,YE P ops w0 o v a∧Bz P ops w0 L r (a.put o.dst v)
def aih(md:Region.Mode)(ops:Array Oper)(g n:Nat):List Nat→Array Bool→Bool
 | [],listed=>Region.seqB md ops g n listed
 | i::r,listed=>(ops[i]?).isSome&&decide (i<n)&&(Region.ready md ops listed).contains i&&Region.free md ops listed i&&aih md ops g n r (listed.setIfInBounds i true)
theorem Qv{n g:Nat}{L:Act→Prop}(hsel:Region.noSelect ops=true)(hs:Region.sinkB md ops n=true)(hc:Region.chainB md ops n=true)(hn:n<ops.size) :
 ∀(l:List Nat) (listed:Array Bool) (a:Act),HeadInv md ops n listed→aih md ops g n l listed=true→Bz P ops w0 L (l.map fun i=>(ops[i]?).getD default) a →
 Qu P md ops w0 n (fun listed' a'=>Region.seqB md ops g n listed'=true∧L a') l.length listed a
 | [],listed,a,_,hB,h=>⟨by simpa[aih] using hB,h⟩
 | i::l,listed,a,inv,hB,h=>by
  simp only[aih,be,decide_eq_true_eq] at hB;obtain⟨⟨⟨⟨h1,h2⟩,h3⟩,h4⟩,h5⟩:=hB;obtain⟨o,ho⟩:=eh.1 h1;simp only[bj,Bz,ho,dq] at h;obtain⟨v,hy,hr⟩:=h;have hi':i∈Region.ready md ops listed:=by simpa using h3
  exact Zk ho (Region.noSelect_spec hsel) hs hc hn h2 (fun listed' a' hL=>seqB_ready hL.1) l.length listed a inv (Region.free_spec ho h4) hi' hy (Qv hsel hs hc hn l _ _ (inv.set hi' h2) h5 hr)
structure Al where
 i:Nat
 d:Nat
 T:az
 cs:List ai
def yK(P:br)(md:Region.Mode)(ops:Array Oper)(x:Al):Prop :=
 ∃ty pos after,ops[x.i]? = some (bu (some x.d) (.alloc x.T) ty pos after none)∧(after.all fun e=>!Region.binds md e)=true∧∃z,oD P x.T z∧z.cells=x.cs.toArray
def fS(E:Nat→Option ai):List Al→Act→Act
 | [],a=>a
 | x::r,a=>match E x.i with
  | some v=>fS E r (a.put (some x.d) v)
  | none=>fS E r a
def yL(ops:Array Oper)(o:Oper)(al:List Al):Bool:=al.all fun x=>!(o.looksAt ops).contains x.d&&o.dst != some x.d
theorem Ca{E:Nat→Option ai}{o:Oper}(hs:∀cs b,o.op≠.select cs b):∀{al:List Al},yL ops o al=true→∀a,dm (fS E al a).eval o=dm a.eval o∧Region.wanted o (yielded ops (fS E al a).tmps)=Region.wanted o (yielded ops a.tmps)
 | [],_,a=>⟨rfl,rfl⟩
 | x::r,hc,a=>by
  simp only[yL,List.all_cons,be,fj] at hc;have hr:yL ops o r=true:=by simp only[yL,be,fj] ;simpa using hc.2
  have hd:x.d∉o.looksAt ops:=by simpa using hc.1.1
  unfold fS;split
  · obtain⟨h1,h2⟩:=Ca (E:=E) hs hr (a.put (some x.d) _)
    rename_i v _;exact⟨h1.trans (execOp_put o hs a (some x.d) v (fun d e=>by cases e;exact hd)),h2.trans (wanted_put o a (some x.d) v (fun d e=>by cases e;exact hd))⟩
  · exact Ca hs hr a
theorem Gm{E:Nat→Option ai}{o:Oper}{v:ai}:∀{al:List Al},yL ops o al=true→∀a,(fS E al a).put o.dst v=fS E al (a.put o.dst v)
 | [],_,a=>rfl
 | x::r,hc,a=>by
  simp only[yL,List.all_cons,be,fj,bne_iff_ne,ne_eq] at hc;have hr:yL ops o r=true:=by simp only[yL,be,fj] ;simpa using hc.2
  unfold fS;split
  · rename_i u _
    rw[Gm hr,Act.put_comm a u v (fun d e=>by cases e;exact hc.1.2)]
  · exact Gm hr a
theorem Qw{E:Nat→Option ai}{x:Al}{v:ai}:∀{al:List Al},(al.map (·.i)).Nodup→(al.map (·.d)).Nodup→x∈al→E x.i=none→∀a,(fS E al a).put (some x.d) v=fS (fun j=>if j=x.i then some v else E j) al a
 | [],_,_,hx,_,_=>by cases hx
 | y::r,hi,hd,hx,he,a=>by
  simp only[bj,gt] at hi hd;have same:∀(l:List Al),x.i∉l.map (·.i)→∀a,fS (fun j=>if j=x.i then some v else E j) l a=fS E l a:=by
   intro l
   induction l with
   | nil=>intro _ a;rfl
   | cons z l ih =>
    intro hn a;simp only[bj,an,not_or] at hn;unfold fS;simp only[Ne.symm hn.1,if_false];split <;> exact ih hn.2 _
  have push:∀(l:List Al),x.d∉l.map (·.d)→∀a,(fS E l a).put (some x.d) v=fS E l (a.put (some x.d) v):=by
   intro l
   induction l with
   | nil=>intro _ a;rfl
   | cons z l ih =>
    intro hn a;simp only[bj,an,not_or] at hn;unfold fS;split
    · rename_i u _
      rw[ih hn.2,Act.put_comm a u v (fun d e=>by cases e;simp;exact hn.1)]
    · exact ih hn.2 _
  rcases an.1 hx with rfl | hx
  · unfold fS
    simp only[he,if_true];rw[push r hd.1,same r hi.1]
  · have hne:y.i≠x.i:=fun e=>hi.1 (by rw[e];exact fk hx)
    unfold fS;simp only[hne,if_false];split <;> exact Qw hi.2 hd.2 hx he _
def cnt(E:Nat→Option ai)(al:List Al):Nat:=(al.filter fun x=>(E x.i).isNone).length
theorem Hy{E:Nat→Option ai}{x:Al}{v:ai}:∀{al:List Al},(al.map (·.i)).Nodup→x∈al→E x.i=none→cnt E al=cnt (fun j=>if j=x.i then some v else E j) al+1
 | [],_,hx,_=>by cases hx
 | y::r,hi,hx,he=>by
  simp only[bj,gt] at hi;have same:∀(l:List Al),x.i∉l.map (·.i)→cnt (fun j=>if j=x.i then some v else E j) l=cnt E l:=by
   intro l
   induction l with
   | nil=>intro _;rfl
   | cons z l ih =>
    intro hn;simp only[bj,an,not_or] at hn;have:=ih hn.2;unfold cnt at *
    rw[ib,ib];simp only[Ne.symm hn.1,if_false];split <;> simp[this]
  rcases an.1 hx with rfl | hx
  · have:=same r hi.1
    unfold cnt at *
    rw[ib,ib];simp[he,this]
  · have hne:y.i≠x.i:=fun e=>hi.1 (by rw[e];exact fk hx)
    have:=Hy (v:=v) hi.2 hx he;unfold cnt at *
    rw[ib,ib];simp only[hne,if_false];split <;> simp[this]
theorem abh{E:Nat→Option ai}{al:List Al}(h:cnt E al=0):∀x∈al,∃v,E x.i=some v:=fun x hx=>by
 unfold cnt at h;have:=List.filter_eq_nil_iff.1 (et h) x hx;cases he:E x.i with
 | none=>simp[he] at this
 | some v=>exact⟨v,rfl⟩
theorem amt{E:Nat→Option ai}{al:List Al}(h:0<cnt E al):∃x∈al,E x.i=none:=by
 unfold cnt at h;obtain⟨x,hx⟩:=List.length_pos_iff_exists_mem.1 h;obtain⟨h1,h2⟩:=List.mem_filter.1 hx;exact⟨x,h1,by simpa using h2⟩
def Lc(base:Nat)(E:Nat→Option ai)(al:List Al)(w:aj):Prop :=
 (∀x∈al,∀v,E x.i=some v→∃g,v=.pointer (some ⟨g,0,none⟩)∧base≤g∧fR w g x.cs x.T) ∧
 (∀x∈al,∀y∈al,x.i≠y.i→∀g g',E x.i=some (.pointer (some ⟨g,0,none⟩))→E y.i=some (.pointer (some ⟨g',0,none⟩))→g≠g')
theorem Lc.ext{base:Nat}{E:Nat→Option ai}{al:List Al}{w w':aj}(h:Lc base E al w)(hE:fQ w w'):Lc base E al w' :=
 ⟨fun x hx v hv=>let ⟨g,e,hb,hB⟩:=h.1 x hx v hv;⟨g,e,hb,hB.ext hE⟩,h.2⟩
theorem Lc.new{base:Nat}{E:Nat→Option ai}{al:List Al}{w:aj}(h:Lc base E al w){x:Al}(hx:x∈al)(hi:(al.map (·.i)).Nodup)(he:E x.i=none)(hb:base≤w.heap.size) :
 Lc base (fun j=>if j=x.i then some (.pointer (some ⟨w.heap.size,0,none⟩)) else E j) al (w.alloc (.cells x.cs.toArray x.T)):=by
 have huniq:∀y∈al,y.i=x.i→y=x:=by
  intro y hy e;clear h
  induction al with
  | nil=>cases hx
  | cons z r ih =>
   simp only[bj,gt] at hi;rcases an.1 hx with rfl | hx'
   · rcases an.1 hy with rfl | hy'
     · rfl
     · exact absurd (by rw[←e];exact fk hy') hi.1
   · rcases an.1 hy with rfl | hy'
     · exact absurd (by rw[e];exact fk hx') hi.1
     · exact ih hx' hi.2 hy'
 refine⟨fun y hy v hv=>?_,fun y hy z hz hne g g' h1 h2=>?_⟩
 · by_cases e:y.i=x.i
   · obtain rfl:=huniq y hy e
     simp only[if_true] at hv;cases hv;exact⟨_,O,hb,jH w _ _⟩
   · simp only[e,if_false] at hv
     obtain⟨g,e1,e2,e3⟩:=h.1 y hy v hv;exact⟨g,e1,e2,e3.ext ((fQ.refl w).alloc _)⟩
 · by_cases e:y.i=x.i
   · have e':z.i≠x.i:=fun e2=>hne (e.trans e2.symm)
     simp only[e,if_true] at h1;simp only[e',if_false] at h2;cases h1;obtain⟨g2,e1,_,e3⟩:=h.1 z hz _ h2;cases e1;exact Nat.ne_of_gt e3.lt
   · by_cases e':z.i=x.i
     · simp only[e,if_false] at h1
       simp only[e',if_true] at h2;cases h2;obtain⟨g2,e1,_,e3⟩:=h.1 y hy _ h1;cases e1;exact Nat.ne_of_lt e3.lt
     · simp only[e,if_false] at h1
       simp only[e',if_false] at h2;exact h.2 y hy z hz hne g g' h1 h2
def Zl(md:Region.Mode)(ops:Array Oper)(n:Nat)(al:List Al):Bool :=
 decide ((al.map (·.i)).Nodup)&&decide ((al.map (·.d)).Nodup)&&(al.all fun x=>decide (x.i<n)) &&
 ((df n).all fun j=>(al.any fun x=>x.i == j)||match ops[j]? with
  | some o=>yL ops o al&&o.after.all fun e=>!Region.binds md e || !(al.any fun x=>x.i == e.on)
  | none=>true)
theorem sim{n g:Nat}{al:List Al}{L:Act→Prop}{Q':Exit→Act→aj→Prop}{tl:List Oper}(hsel:Region.noSelect ops=true)(hs:Region.sinkB md ops n=true)(hc:Region.chainB md ops n=true)(hn:n<ops.size)
 (hal:∀x∈al,yK P md ops x) (hB:Zl md ops n al=true) (htl:∀j,tl[j]? = ops[n+j]?) (hgl:tl.length=g)
 (hL:∀a E w,fQ w0 w→Lc w0.heap.size E al w→(∀x∈al,∃v,E x.i=some v)→L a→ar P ops Q' tl (fS E al a) w) :
 ∀(k f:Nat) (E:Nat→Option ai) (lr lm:Array Bool) (a:Act) (w:aj),k=f+cnt E al→HeadInv md ops n lr→lm.size=lr.size→(∀j,lm.getD j false=(lr.getD j false||al.any fun x=>x.i == j)) →
  (∀x∈al,(E x.i=none↔lr.getD x.i false=false))→fQ w0 w→Lc w0.heap.size E al w →
  Qu P md ops w0 n (fun listed' a'=>Region.seqB md ops g n listed'=true∧L a') f lm a→wpAny P md ops Q' (k+g) lr (fS E al a) w:=by
 simp only[Zl,be,decide_eq_true_eq,de,gn] at hB;obtain⟨⟨⟨hni,hnd⟩,hlt⟩,hcl⟩:=hB;intro k
 induction k with
 | zero =>
  intro f E lr lm a w hk inv hsz hlm hE hx hla H;obtain rfl:f=0:=by omega
  have h0:cnt E al=0:=by omega
  have hall:=abh h0;have heq:lm=lr:=by
   apply qr hsz;intro j h1 h2;have h3:=hlm j;simp only[mw,gq h1,gq h2,dq] at h3;rw[h3];cases hlr:lr[j] with
   | true=>rfl
   | false =>
    rw[jn];cases hany:al.any fun x=>x.i == j with
    | false=>rfl
    | true =>
     obtain⟨x,hx1,hx2⟩:=fe.1 hany;have hx3:x.i=j:=by simpa using hx2
     obtain⟨v,hv⟩:=hall x hx1;have:lr.getD x.i false=false:=by
      rw[hx3,mw,gq h2];simpa using hlr
     rw[(hE x hx1).2 this] at hv;cases hv
  subst heq;obtain⟨H1,H2⟩:=H;rw[au,←hgl];exact wpAny_of_seq (md:=md) tl n lm _ w htl (by rw[hgl];exact H1) (hL a E w hx hla hall H2)
 | succ k ih =>
  intro f E lr lm a w hk inv hsz hlm hE hx hla H;have getT:∀j,j<ops.size→lr.getD j false=false→lr.getD j true=false:=fun j hj h=>getD_in (by rw[inv.size];exact hj) h
  -- some head operation is not listed
  have hsome:∃j,j∈Region.ready md ops lr∧j<n:=by
   rcases iz (cnt E al) with h0 | h0
   · obtain⟨f,rfl⟩:∃q,f=q+1:=⟨f-1,by omega⟩
     obtain⟨hne,hr⟩:=H;obtain⟨j,hj⟩:=List.exists_mem_of_ne_nil _ hne;have hjn:=(hr j hj).1;refine⟨j,?_,hjn⟩;have hall:=abh h0;obtain⟨hju,oj,hoj,hpre⟩:=mem_ready.1 hj;refine mem_ready.2 ⟨?_,oj,hoj,fun e he hb=>?_⟩
     · have h1:=hlm j
       rw[getD_both hju] at h1;have h2:lr.getD j false=false:=by
        cases h:lr.getD j false with
        | false=>rfl
        | true=>rw[h] at h1;simp at h1
       exact getT j (by omega) h2
     · have h1:=hlm e.on
       rw[hpre e he hb] at h1;cases h:lr.getD e.on false with
       | true=>rfl
       | false =>
        rw[h,jn] at h1;obtain⟨x,hx1,hx2⟩:=fe.1 h1.symm;have hx3:x.i=e.on:=by simpa using hx2
        obtain⟨v,hv⟩:=hall x hx1;rw[(hE x hx1).2 (by rw[hx3];exact h)] at hv;cases hv
   · obtain⟨x,hx1,hx2⟩:=amt h0
     obtain⟨ty,pos,after,hop,haf,_⟩:=hal x hx1;have hxn:x.i<n:=by simpa using hlt x hx1
     refine⟨x.i,mem_ready.2 ⟨getT _ (by omega) ((hE x hx1).1 hx2),_,hop,fun e he hb=>?_⟩,hxn⟩;have:=Array.all_eq_true_iff_forall_mem.1 haf e he;simp[hb] at this
  obtain⟨j0,hj0,hj0n⟩:=hsome;have hj0u:=(mem_ready.1 hj0).1;rw[show k+1+g=(k+g)+1 by omega];refine⟨fun h=>(by rw[h] at hj0;cases hj0),fun i hi=>?_⟩;have hin:i<n:=by
   rcases eu i n with h | h
   · exact h
   · exact absurd hi (tail_waits hs hc hn inv _ j0 O hj0n hj0u i h)
  obtain⟨hiu,oi,hoi,hpre⟩:=mem_ready.1 hi;by_cases hia:al.any (fun x=>x.i == i)=true
  · -- an allocation
    obtain⟨x,hx1,hx2⟩:=fe.1 hia;obtain rfl:x.i=i:=by simpa using hx2
    obtain⟨ty,pos,after,hop,haf,z,hz,hzc⟩:=hal x hx1;have hex:E x.i=none:=(hE x hx1).2 (getD_both hiu);obtain⟨inf,hinf,hinz⟩:=hz;unfold wpOp;simp only[hop];rw[if_pos (by simp[Region.wanted])];refine .inl ?_;have hrun:∀ρ:bw→ai,(dm ρ (bu (some x.d) (.alloc x.T) ty pos after none)).run P w=.ok (.value (.pointer (some ⟨w.heap.size,0,none⟩))) (w.alloc (.cells x.cs.toArray x.T)):=fun ρ=>by
     simp[dm,Instr.alloc,zeroValue,typeInfo,hinf,hinz,newVar,newRow,hzc,newObj,Sem.run]
    unfold mr;rw[hrun];show wpAny P md ops Q' (k+g) (lr.setIfInBounds x.i true) ((fS E al a).put (some x.d) (.pointer (some ⟨w.heap.size,0,none⟩))) _
    rw[Qw hni hnd hx1 hex];have hc1:=Hy (v:=.pointer (some ⟨w.heap.size,0,none⟩)) hni hx1 hex;have hxs:x.i<lr.size:=by rw[inv.size];omega
    refine ih f _ _ lm a _ (by omega) (inv.set hi hin) (by simp[hsz]) (fun j=>?_) (fun y hy=>?_) (hx.alloc _) (hla.new hx1 hni hex hx.size) H
    · rw[hlm j]
      by_cases e:x.i=j
      · subst e
        rw[hia];simp
      · rw[getD_set_ne false e]
    · by_cases e:x.i=y.i
      · rw[←e]
        simp[hxs]
      · rw[getD_set_ne false e]
        simp only[Ne.symm e,if_false];exact hE y hy
  · -- an operation that computes
    have hia':al.any (fun x=>x.i == i)=false:=by simpa using hia
    have hci:=hcl i hin;rw[hia',jn,hoi] at hci;simp only[be] at hci;have hready:i∈Region.ready md ops lm:=by
     refine mem_ready.2 ⟨?_,oi,hoi,fun e he hb=>by rw[hlm,hpre e he hb];rfl⟩;have h1:=hlm i;rw[getD_both hiu,hia'] at h1;exact getD_in (by rw[hsz,inv.size];omega) (by simpa using h1)
    cases f with
    | zero =>
     obtain⟨H1,H2⟩:=H;have:=seqB_ready H1 i hready;omega
    | succ f =>
     obtain⟨_,o,v,ho,hy,hK⟩:=H.2 i hready;rw[hoi] at ho;cases ho;have hse:∀cs b,oi.op≠.select cs b:=fun cs b=>Region.noSelect_spec hsel i oi cs b hoi;obtain⟨e1,e2⟩:=Ca (E:=E) hse hci.1 a;have hy':=hy.of_same e1 e2;have key:∀w',fQ w w'→wpAny P md ops Q' (k+g) (lr.setIfInBounds i true) ((fS E al a).put oi.dst v) w':=fun w' hw'=>by
      rw[Gm hci.1];refine ih f E _ _ _ w' (by omega) (inv.set hi hin) (by simp[hsz]) (fun j=>?_) (fun y hy=>?_) (hx.trans hw') (hla.ext hw') hK
      · by_cases e:i=j
        · subst e
          have h1:i<lr.size:=by rw[inv.size];omega
          simp[h1,hsz]
        · rw[getD_set_ne false e,getD_set_ne false e,hlm j]
      · have e:i≠y.i:=fun e=>by
         have:al.any (fun x=>x.i == i)=true:=fe.2 ⟨y,hy,by simp[e]⟩;rw[hia'] at this;cases this
        rw[getD_set_ne false e];exact hE y hy
     unfold wpOp;simp only[hoi];rcases hy' with ⟨hw,hv⟩ | ⟨hw,rfl⟩
     · rw[if_pos hw]
       refine .inl ?_;have h3:=hv w hx;unfold ma at h3;unfold mr;generalize (dm (fS E al a).eval oi).run P w=r at *
       cases r with
       | ok nx w' =>
        cases nx <;> simp only[Oper.quietUpon] at h3 <;> simp only[ny]
        case value u =>
         obtain⟨e1,e2⟩:=h3;rw[e1,e2];exact key w (fQ.refl w)
        case skip =>
         obtain⟨e1,e2⟩:=h3;rw[e1,←e2];exact key w (fQ.refl w)
        case enter f' args =>
         obtain⟨e1,hcl⟩:=h3;rw[e1];exact hcl.mono fun e w'' ⟨he,hw''⟩=>by subst he;exact key w'' hw''
       | halt x w'=>simp only[Oper.quietUpon] at h3
     · rw[if_neg (by rw[hw];simp)]
       exact key w (fQ.refl w)
theorem eQ{id:Nat}{Q:Exit→Act→aj→Prop}{a:Act}{w:aj}{l:List Oper}(n:Nat)(idx:List Nat)(al:List Al)(hm:P.follows .mixedOrders=true)
 (hB:(Region.noSelect l.toArray&&decide (n<l.length)&&Region.sinkB .any l.toArray n&&Region.chainB .any l.toArray n&&Zl .any l.toArray n al&&decide (n=idx.length+al.length) &&
  aih .any l.toArray (l.length-n) n idx (al.foldl (fun s x=>s.setIfInBounds x.i true) (f_ l.toArray.size false)))=true)
 (hal:∀x∈al,yK P .any l.toArray x) {ol:List Oper} (hol:(idx.map fun i=>(l.toArray[i]?).getD default)=ol)
 (h:∀w1,fQ w w1→Bz P l.toArray w1 (fun a'=>∀E w',fQ w1 w'→Lc w1.heap.size E al w'→(∀x∈al,∃v,E x.i=some v)→ar P l.toArray Q (l.drop n) (fS E al a') w') ol a):(Code.region id l.toArray true).wp P Q a w:=by
 simp only[be,decide_eq_true_eq] at hB;obtain⟨⟨⟨⟨⟨⟨hsel,hn⟩,hs⟩,hc⟩,hf⟩,hlen⟩,hlex⟩:=hB;subst hol;have hn':n<l.toArray.size:=by simpa using hn
 have hf':=hf;simp only[Zl,be,decide_eq_true_eq,de,gn] at hf';obtain⟨⟨⟨hni,hnd⟩,hlt⟩,hcl⟩:=hf';generalize hlm:al.foldl (fun s x=>s.setIfInBounds x.i true) (f_ l.toArray.size false)=lm at hlex;have hfold:∀(r:List Al) (s:Array Bool),(r.foldl (fun s x=>s.setIfInBounds x.i true) s).size=s.size∧∀j,j<s.size→(r.foldl (fun s x=>s.setIfInBounds x.i true) s).getD j false=(s.getD j false||r.any fun x=>x.i == j):=by
  intro r
  induction r with
  | nil=>intro s;exact⟨O,fun j _=>by simp⟩
  | cons x r ih =>
   intro s;obtain⟨h1,h2⟩:=ih (s.setIfInBounds x.i true);refine⟨by rw[jx,h1];simp,fun j hj=>?_⟩;rw[jx,h2 j (by simpa using hj),List.any_cons];by_cases e:x.i=j
   · subst e
     simp[hj]
   · have e2:(x.i == j)=false:=by simpa using e
     rw[getD_set_ne false e,e2,jn]
 obtain⟨hsz,hget⟩:=hfold al (f_ l.toArray.size false);rw[hlm] at hsz hget;have hsz':lm.size=l.toArray.size:=by rw[hsz];simp
 have hlmj:∀j,lm.getD j false=al.any fun x=>x.i == j:=fun j=>by
  rcases eu j l.toArray.size with hj | hj
  · rw[hget j (by simpa using hj),getD_replicate_false,jn]
  · have h1:lm.getD j false=false:=by rw[mw,mb (by omega)];rfl
    rw[h1]
    symm
    rw[Bool.eq_false_iff];intro h2;obtain⟨x,hx1,hx2⟩:=fe.1 h2;have hx3:x.i=j:=by simpa using hx2
    have:x.i<n:=by simpa using hlt x hx1
    omega
 have inv0:HeadInv .any l.toArray n (f_ l.toArray.size false) :=
  ⟨by simp,fun j oj _ hl=>(by rw[getD_replicate_false] at hl;cases hl),fun t _ ht=>getD_in (by simpa using ht) (getD_replicate_false _ _)⟩
 have invm:HeadInv .any l.toArray n lm:=by
  refine⟨hsz',fun j oj hoj hl e he hb=>?_,fun t ht ht'=>getD_in (by rw[hsz'];exact ht') ?_⟩
  · rw[hlmj] at hl
    obtain⟨x,hx1,hx2⟩:=fe.1 hl;have hx3:x.i=j:=by simpa using hx2
    obtain⟨ty,pos,after,hop,haf,_⟩:=hal x hx1;rw[hx3,hoj] at hop;cases hop;have:=Array.all_eq_true_iff_forall_mem.1 haf e he;simp[hb] at this
  · rw[hlmj,Bool.eq_false_iff]
    intro h2;obtain⟨x,hx1,hx2⟩:=fe.1 h2;have hx3:x.i=t:=by simpa using hx2
    have:x.i<n:=by simpa using hlt x hx1
    omega
 refine wp_region_any hm ?_;obtain⟨w1,hw1⟩:∃w1,w1=({ w with drawn:=w.drawn+1 }:aj):=⟨_,rfl⟩
 rw[←hw1];have hx1:fQ w w1:=by rw[hw1];exact (fQ.refl w).drawn
 have H:=Qv (md:=.any) (g:=l.length-n) hsel hs hc hn' idx lm a invm hlex (h w1 hx1);have hcnt:cnt (fun _=>none) al=al.length:=by
  unfold cnt;simp
 have key:=sim (md:=.any) (P:=P) (ops:=l.toArray) (w0:=w1) (Q':=Q) (tl:=l.drop n) (g:=l.length-n) (al:=al) hsel hs hc hn' hal hf (fun j=>by simp[dj]) (by simp) (fun a E w' hw' hla hall hL=>hL E w' hw' hla hall)
  (idx.length+al.length) idx.length (fun _=>none) (f_ l.toArray.size false) lm a w1 (by rw[hcnt]) inv0 (by rw[hsz'];simp) (fun j=>by rw[getD_replicate_false,jn];exact hlmj j)
  (fun x _=>⟨fun _=>getD_replicate_false _ _,fun _=>rfl⟩) (fQ.refl w1) ⟨fun x _ v hv=>(by cases hv),fun x _ y _ _ g g' h1 _=>(by cases h1)⟩ H
 have hap:∀r:List Al,fS (fun _=>none) r a=a:=by
  intro r
  induction r with
  | nil=>rfl
  | cons x r ih=>exact ih
 rw[hap,←hlen] at key;have e:n+(l.length-n)=l.toArray.size:=by rw[gm];omega
 rwa [e] at key
end
section
variable {P:br} {ops:Array Oper} {w0:aj} {L:Act→Prop} {ds:List dz} {l:List ai} {rest:List Oper} {d:Nat} {op:Op} {ty:az} {pos:String} {after:Array Edge} {v:ai} {x y:bw} {T:az}
theorem aii(hr:∀w,fQ w0 w→Bb P l op ty v w)(h:Bz P ops w0 L rest (Fr (l.set d v) ds)):Bz P ops w0 L (bu (some d) op ty pos after none::rest) (Fr l ds):=by
 refine⟨v,.inl ⟨by simp[Region.wanted],fun w hw=>?_⟩,?_⟩
 · unfold ma
   rw[kJ,hr w hw _ rfl rfl];exact⟨O,O⟩
 · show Bz P ops w0 L rest ((Fr l ds).put (some d) v)
   rw[gL];exact h
theorem jY(hr:gN P l op ty v)(h:Bz P ops w0 L rest (Fr (l.set d v) ds)):Bz P ops w0 L (bu (some d) op ty pos after none::rest) (Fr l ds):=aii (fun w _=>hr w) h
theorem eP{a:Addr}(hx:ev l x=.pointer (some a))(hv:∀w',fQ w0 w'→fZ P w' T a v)(h:Bz P ops w0 L rest (Fr (l.set d v) ds)):Bz P ops w0 L (bu (some d) (.load T x) ty pos after none::rest) (Fr l ds) :=
 aii (fun _ hE=>aZ hx (hv _ hE)) h
theorem amu{f:FuncId}{fo:bw}{xs:Array bw}{args:List ai}{first cap:Array ai}{a0:Array az}(hf:ev l fo=.func (.func f) first cap)(hxs:first.toList++xs.toList.map (ev l)++cap.toList=args)(hc:∀w',fQ w0 w'→dQ P f args w' fun u _=>u=v)
 (h:Bz P ops w0 L rest (Fr (l.set d v) ds)):Bz P ops w0 L (bu (some d) (.call { callee:=.value fo,args:=xs,argTypes:=a0 }) ty pos after none::rest) (Fr l ds):=by
 refine⟨v,.inl ⟨by simp[Region.wanted],fun w hw=>?_⟩,?_⟩
 · unfold ma
   rw[kJ,pM (hc w hw).1 hf hxs _ rfl];refine⟨O,(hc w hw).2.mono ?_⟩;rintro e w'' ⟨u,rfl,hE,rfl⟩;exact⟨O,hE⟩
 · show Bz P ops w0 L rest ((Fr l ds).put (some d) v)
   rw[gL];exact h
theorem eV{f:FuncId}{fo:bw}{xs:Array bw}{args:List ai}{first cap:Array ai}{a0:Array az}(hf:ev l fo=.func (.func f) first cap)(hxs:first.toList++xs.toList.map (ev l)++cap.toList=args)(hc:dT P f args v)
 (h:Bz P ops w0 L rest (Fr (l.set d v) ds)):Bz P ops w0 L (bu (some d) (.call { callee:=.value fo,args:=xs,argTypes:=a0 }) ty pos after none::rest) (Fr l ds) :=
 amu hf hxs (fun w' _=>hc w') h
theorem Cb(h:L (Fr l ds)):Bz P ops w0 L [] (Fr l ds):=h
theorem al1{md:Region.Mode}{x:Al}(h:yK P md ops x):∀y∈[x],yK P md ops y:=fun y hy=>by
 rcases an.1 hy with rfl | hy
 · exact h
 · cases hy
theorem al2{md:Region.Mode}{x y:Al}(h:yK P md ops x)(k:yK P md ops y):∀z∈[x,y],yK P md ops z:=fun z hz=>by
 rcases an.1 hz with rfl | hz
 · exact h
 · exact al1 k z hz
variable {Q:Exit→Act→aj→Prop} {tl:List Oper}
theorem apR{i d:Nat}{T:az}{cs:List ai}(h:∀w' g,fQ w0 w'→w0.heap.size≤g→fR w' g cs T→ar P ops Q tl (Fr (l.set d (.pointer (some ⟨g,0,none⟩))) ds) w') :
 ∀E w',fQ w0 w'→Lc w0.heap.size E [⟨i,d,T,cs⟩] w'→(∀x∈[(⟨i,d,T,cs⟩:Al)],∃v,E x.i=some v)→ar P ops Q tl (fS E [⟨i,d,T,cs⟩] (Fr l ds)) w':=fun E w' hE hL hv=>by
 obtain⟨v,hv⟩:=hv ⟨i,d,T,cs⟩ (by simp);obtain⟨g,rfl,hg,hB⟩:=hL.1 ⟨i,d,T,cs⟩ (by simp) v hv;have e:fS E [⟨i,d,T,cs⟩] (Fr l ds)=Fr (l.set d (.pointer (some ⟨g,0,none⟩))) ds:=by
  simp only[fS,hv];exact gL _ _
 rw[e];exact h w' g hE hg hB
theorem apS{i d j e:Nat}{T U:az}{cs us:List ai}(hij:i≠j)(h:∀w' g k,fQ w0 w'→w0.heap.size≤g→w0.heap.size≤k→fR w' g cs T→fR w' k us U→k≠g→ar P ops Q tl (Fr ((l.set d (.pointer (some ⟨g,0,none⟩))).set e (.pointer (some ⟨k,0,none⟩))) ds) w') :
 ∀E w',fQ w0 w'→Lc w0.heap.size E [⟨i,d,T,cs⟩,⟨j,e,U,us⟩] w'→(∀x∈[(⟨i,d,T,cs⟩:Al),⟨j,e,U,us⟩],∃v,E x.i=some v)→ar P ops Q tl (fS E [⟨i,d,T,cs⟩,⟨j,e,U,us⟩] (Fr l ds)) w':=fun E w' hE hL hv=>by
 obtain⟨v,h1⟩:=hv ⟨i,d,T,cs⟩ (by simp);obtain⟨u,h2⟩:=hv ⟨j,e,U,us⟩ (by simp);obtain⟨g,rfl,hg,hB⟩:=hL.1 ⟨i,d,T,cs⟩ (by simp) v h1;obtain⟨k,rfl,hk,hK⟩:=hL.1 ⟨j,e,U,us⟩ (by simp) u h2;have e':fS E [⟨i,d,T,cs⟩,⟨j,e,U,us⟩] (Fr l ds)=Fr ((l.set d (.pointer (some ⟨g,0,none⟩))).set e (.pointer (some ⟨k,0,none⟩))) ds:=by
  simp only[fS,h1,h2];rw[gL,gL]
 rw[e'];exact h w' g k hE hg hk hB hK (Ne.symm (hL.2 ⟨i,d,T,cs⟩ (by simp) ⟨j,e,U,us⟩ (by simp) hij g k h1 h2))
end
end Go.Lith
namespace Go.Lith
section
variable {P:br} {ops:Array Oper} {w0:aj} {ds:List dz} {l:List ai} {Q:Exit→Act→aj→Prop} {tl:List Oper}
end
end Go.Lith
namespace Go.Lith
open Go.RowKit
variable{n cap c:Nat}{w:aj}{A:Option Addr}{a:Addr}{E t:az}{α:Type}
section
variable {P:br} {ds:List dz} {l:List ai} {T ty:az} {ops:Array Oper} {Q:Exit→Act→aj→Prop} {rest:List Oper} {d:Nat} {pos:String} {after:Array Edge} {w:aj}
theorem lZ{E:az}{c n:Nat}{z:ai}{parts:Array (Nat × bw)}{vs:Array (Nat × ai)}{base:Array ai}{cs:List ai}(hu:P.underlying T=some (.slice E))(hi:(P.info? E).map (fun i=>(i.size,i.zero))=some (c,some z))(h0:n*c≠0)(h24:n*c≤16777216)
 (hb:((pm (n*c)).map fun i=>z.cells[i%z.cells.size]!)=base) (hp:(parts.map fun (i,x)=>(i,ev l x))=vs) (hf:Instr.fill (fun i=>some (i*c,c)) base vs.toList=some cs.toArray)
 (h:∀w' g,fQ w w'→w.heap.size≤g→fR w' g cs E→ar P ops Q rest (Fr (l.set d (.slice (some ⟨g,0,none⟩) n n)) ds) w') :
 ar P ops Q (bu (some d) (.buildSlice T n parts) ty pos after none::rest) (Fr l ds) w:=by
 subst hb;subst hp;cases hq:P.info? E with
 | none=>rw[hq] at hi;cases hi
 | some i =>
  rw[hq] at hi;simp only[fm,gw,ft] at hi;obtain⟨e1,e2⟩:=hi;have e:(Fr l).eval=ev l:=funext cD;have h24':¬16777216<n*c:=by omega
  refine mM (w':=w.alloc (.cells cs.toArray E)) (v:=.slice (some ⟨w.heap.size,0,none⟩) n n) (fun o ho _=>?_) (h _ _ ((fQ.refl w).alloc _) (aq _) (jH w cs E));simp only[dm,ho,e];simp[Instr.buildSlice,cd hu,sizeOf,typeInfo,zeroValue,hq,e1,e2,h24',newRow,newObj,Sem.run] at hf ⊢;rw[if_neg h0];simp[hf];rfl
end
def nv(v:P3):Go.Value:=.agg #[.int .i64 v.x,.int .i64 v.y,.int .i64 v.z]
def sg(v:P3):Go.Value:=.agg #[.int .i64 (bA v.x),.int .i64 (bA v.y),.int .i64 (bA v.z)]
class S3(p:P3):Prop where
 x:p.x.natAbs<262144
 y:p.y.natAbs<262144
 z:p.z.natAbs<262144
class N3(p:P3):Prop where
 x:p.x.natAbs<524288
 y:p.y.natAbs<524288
 z:p.z.natAbs<524288
instance {p q:P3}[a:S3 p][b:S3 q]:N3 (p.sub q):=⟨by have:=a.x;have:=b.x;simp only[P3.sub];omega,by have:=a.y;have:=b.y;simp only[P3.sub];omega,by have:=a.z;have:=b.z;simp only[P3.sub];omega⟩
theorem Bc{a b:Int}(ha:a.natAbs<524288)(hb:b.natAbs<524288) : -274877906944<a*b∧a*b<274877906944:=by
 have h:(a*b).natAbs≤524287*524287:=by rw[Int.natAbs_mul];exact Nat.mul_le_mul (by omega) (by omega)
 omega
theorem apT{x y:Int}(h : -274877906944<x∧x<274877906944)(k : -274877906944<y∧y<274877906944):IntKind.i64.wrap (x-y)=x-y:=bM (by omega) (by omega)
theorem Wf{x:Int}(h : -274877906944<x∧x<274877906944):IntKind.i64.wrap x=x:=bM (by omega) (by omega)
theorem Ay{v:Int}(h:sP v):IntKind.u64.wrap (if v<IntKind.i64.wrap (0-v) then IntKind.i64.wrap (0-v) else v)=(v.natAbs:Int):=by
 obtain⟨h1,h2⟩:=h;rcases Int.lt_or_le (-9223372036854775808) v with h3 | h3
 · rw[bM (x:=0-v) (by omega) (by omega),mH]
   split <;> omega
 · obtain rfl:v = -9223372036854775808:=by omega
   decide
def amv:ByteArray:=⟨#[0,1,2,2,3,3,3,3,4,4,4,4,4,4,4,4,5,5,5,5,5,5,5,5,5,5,5,5,5,5,5,5,6,6,6,6,6,6,6,6,6,6,6,6,6,6,6,6,6,6,6,6,6,6,6,6,6,6,6,6,6,6,6,6,7,7,7,7,7,7,7,7,7,7,7,7,7,7,7,7,7,7,7,7,7,7,7,7,7,7,7,7,7,7,7,7,7,7,7,7,7,7,7,7,7,7,7,7,7,7,7,7,7,7,7,7,7,7,7,7,7,7,7,7,7,7,7,7,8,8,8,8,8,8,8,8,8,8,8,8,8,8,8,8,8,8,8,8,8,8,8,8,8,8,8,8,8,8,8,8,8,8,8,8,8,8,8,8,8,8,8,8,8,8,8,8,8,8,8,8,8,8,8,8,8,8,8,8,8,8,8,8,8,8,8,8,8,8,8,8,8,8,8,8,8,8,8,8,8,8,8,8,8,8,8,8,8,8,8,8,8,8,8,8,8,8,8,8,8,8,8,8,8,8,8,8,8,8,8,8,8,8,8,8,8,8,8,8,8,8,8,8,8,8,8,8]⟩
theorem agl:∀i,i<256→∃b:UInt8,amv[i]? = some b∧b.toNat≤8∧(b.toNat≤2→i<4):=by
 have h:(df 256).all (fun i=>match amv[i]? with
  | some b=>decide (b.toNat≤8)&&(decide (2<b.toNat)||decide (i<4))
  | none=>false)=true:=by decide +kernel
 intro i hi;have:=de.1 h i (gn.2 hi);cases hb:amv[i]? with
 | none=>rw[hb] at this;cases this
 | some b =>
  rw[hb] at this;simp only[be,Bool.or_eq_true,decide_eq_true_eq] at this;exact⟨b,O,this.1,fun h=>by omega⟩
section
variable {P:br} {ds:List dz} {l:List ai} {x y:bw} {T ty:az} {ops:Array Oper} {Q:Exit→Act→aj→Prop} {rest:List Oper} {d:Nat} {pos:String} {after:Array Edge} {w:aj} {k:IntKind}
theorem Cc{Y:Nat}(hu:P.underlying T=some .string)(hx:ev l x=.string amv)(hy:ev l y=.int k (Y:Int))(hY:Y<256)(h:∀b:Nat,b≤8→(b≤2→Y<4)→ar P ops Q rest (Fr (l.set d (.int .u8 (b:Int))) ds) w) :
 ar P ops Q (bu (some d) (.index T x y) ty pos after none::rest) (Fr l ds) w:=by
 obtain⟨b,hb,h1,h2⟩:=agl Y hY;exact aB (oQ hu hx hy (by omega) (by rw[ah];exact hb)) (h b.toNat h1 h2)
end
theorem aik{m:Nat}:(m:Int).fdiv (2^(min (16:Int).toNat IntKind.u64.bits))=((m / 65536:Nat):Int):=by
 show (m:Int).fdiv (2^16)=_
 rw[ia _ (by decide)];omega
theorem ae8{m:Nat}:(m:Int).fdiv (2^(min (8:Int).toNat IntKind.u64.bits))=((m / 256:Nat):Int):=by
 show (m:Int).fdiv (2^8)=_
 rw[ia _ (by decide)];omega
def T3.flat(t:T3):Prop:=t.normal.x=0∧t.normal.y=0∧t.normal.z=0
variable{ts:List T3}
instance (t:T3):Decidable t.flat:=inferInstanceAs (Decidable (_∧_∧_))
theorem bZ{n:Int}:bA n=0↔n=0:=by
 unfold bA;constructor
 · intro h
   split at h
   · cases h
   · split at h
     · cases h
     · omega
 · rintro rfl;rfl
theorem Hz{n:Int}:0≤bA n↔0≤n:=by
 unfold bA;split
 · constructor <;> intro h <;> omega
 · split <;> constructor <;> intro h <;> omega
theorem ail{n:Int}:0<bA n↔0<n:=by
 unfold bA;split
 · constructor <;> intro h <;> omega
 · split <;> constructor <;> intro h <;> omega
theorem Qx{n:Int}:bA n≤0↔n≤0:=by
 have:=@ail n;omega
structure bV(w:aj)(A:Option Addr)(n:Nat)(ts:List T3):Prop where
 len:ts.length=n
 it:∀t∈ts,IT t
 row:∀i t,ts[i]? = some t→∃a,A=some a∧mX w (a.add (i*9)) [.int .i64 t.a.x,.int .i64 t.a.y,.int .i64 t.a.z,.int .i64 t.b.x,.int .i64 t.b.y,.int .i64 t.b.z,.int .i64 t.c.x,.int .i64 t.c.y,.int .i64 t.c.z]
theorem bV.ext{w':aj}(h:bV w A n ts)(hE:fQ w w'):bV w' A n ts :=
 ⟨h.len,h.it,fun i t hi=>let ⟨a,e,hr⟩:=h.row i t hi;⟨a,e,hr.ext hE⟩⟩
theorem bV.nil(w:aj)(A:Option Addr):bV w A 0 []:=⟨rfl,fun t h=>(by cases h),fun i t h=>(by cases h)⟩
theorem bV.get(h:bV w A n ts){i:Nat}(hi:i<n):∃t,ts[i]? = some t∧IT t∧∃a,A=some a∧mX w (a.add (i*9)) [.int .i64 t.a.x,.int .i64 t.a.y,.int .i64 t.a.z,.int .i64 t.b.x,.int .i64 t.b.y,.int .i64 t.b.z,.int .i64 t.c.x,.int .i64 t.c.y,.int .i64 t.c.z]:=by
 have hl:i<ts.length:=by rw[h.len];exact hi
 refine⟨ts[i],am hl,h.it _ (gl hl),h.row i _ (am hl)⟩
def aN(t:T3):List Go.Value:=[.int .i64 t.a.x,.int .i64 t.a.y,.int .i64 t.a.z,.int .i64 t.b.x,.int .i64 t.b.y,.int .i64 t.b.z,.int .i64 t.c.x,.int .i64 t.c.y,.int .i64 t.c.z]
theorem mX.pre{xs ys:List Go.Value}(h:mX w a (xs++ys)):mX w a xs:=fun j u hj=>h j u (by
 have hl:j<xs.length:=(ap.1 hj).1;rw[cu hl];exact hj)
theorem dJ(t:T3):(aN t).length=9:=rfl
theorem Eb:∀(ts:List T3) (i:Nat) (t:T3),ts[i]? = some t→(ts.flatMap aN).drop (i*9)=aN t++(ts.drop (i+1)).flatMap aN
 | [],i,t,h=>by cases h
 | u::ts,0,t,h=>by
  cases h;rfl
 | u::ts,i+1,t,h=>by
  rw[di,show (i+1)*9=(aN u).length+i*9 by rw[dJ];omega,List.drop_append,gi (by omega),b_];rw[show (aN u).length+i*9-(aN u).length=i*9 by omega];exact Eb ts i t h
abbrev Ni(A:Option Addr):Option Nat:=A.map (·.block)
structure Ow(w0 w:aj)(S:List (Option Nat))(E:az)(c:Nat)(A:Option Addr)(n cap:Nat)(xs:List ai):Prop where
 own:w.ownsRow w0.heap.size E c (.slice A n cap) n xs
 sep:∀b,Ni A=some b→some b∉S
 bd:∀b,some b∈S→b<w.heap.size
structure Wr(w w':aj)(A:Option Addr):Prop where
 os:w'.os=w.os
 tape:w'.tape=w.tape
 output:w'.output=w.output
 size:w.heap.size≤w'.heap.size
 block:∀k,k<w.heap.size→Ni A≠some k→w'.heap[k]? = w.heap[k]?
theorem oG{w:aj}{base c n cap:Nat}{E:az}{A:Option Addr}{xs:List ai}(h:w.ownsRow base E c (.slice A n cap) n xs) :
 (A=none∧n=0∧cap=0∧xs=[])∨∃g cur,A=some ⟨g,0,none⟩∧base≤g∧w.heap[g]? = some (.cells cur E (0,0))∧n≤cap∧cap≤maxLen∧cur.size=cap*c∧cur.toList.take (n*c)=xs:=by
 rcases h.2 with ⟨h1,h2⟩ | ⟨g,cap',cur,h1,h2,h3,h4,h5,h6,h7⟩
 · cases h1
   exact .inl ⟨O,h2,O,et (by rw[h.1,h2,Nat.zero_mul])⟩
 · cases h1
   exact .inr ⟨g,cur,O,h2,h3,h4,h5,h6,h7⟩
section
variable {w0 w w':aj} {S:List (Option Nat)} {E:az} {c n cap:Nat} {A:Option Addr} {xs:List ai}
theorem Ow.cases(h:Ow w0 w S E c A n cap xs):(A=none∧n=0∧cap=0∧xs=[])∨∃g cur,A=some ⟨g,0,none⟩∧w0.heap.size≤g∧w.heap[g]? = some (.cells cur E (0,0))∧n≤cap∧cap≤maxLen∧cur.size=cap*c∧cur.toList.take (n*c)=xs:=oG h.own
theorem Ow.ge(h:Ow w0 w S E c A n cap xs):∀b,Ni A=some b→w0.heap.size≤b:=fun b hb=>by
 rcases h.cases with ⟨rfl,_⟩ | ⟨g,cur,rfl,hg,_⟩
 · cases hb
 · cases hb
   exact hg
theorem Ow.le(h:Ow w0 w S E c A n cap xs):n≤cap:=by
 rcases h.cases with ⟨_,rfl,rfl,_⟩ | ⟨g,cur,_,_,_,h1,_⟩
 · exact aq _
 · exact h1
theorem Ow.some(h:Ow w0 w S E c A n cap xs)(hn:0<n):∃g,A=some ⟨g,0,none⟩:=by
 rcases h.cases with ⟨_,rfl,_⟩ | ⟨g,cur,rfl,_⟩
 · omega
 · exact⟨g,O⟩
theorem Ow.row(h:Ow w0 w S E c A n cap xs):∀j u,xs[j]? = l_ u→∃a,A=l_ a∧w.cell? (a.add j)=l_ u:=fun j u hj=>by
 rcases h.cases with ⟨_,_,_,rfl⟩ | ⟨g,cur,rfl,_,hg,_,_,_,h4⟩
 · cases hj
 · refine⟨_,O,?_⟩
   rw[eD,au,cell_of_row w g j cur E (0,0) hg];rw[←h4,d_] at hj;split at hj
   · simpa using hj
   · cases hj
theorem Ow.rows{g:Nat}(h:Ow w0 w S E c (l_ ⟨g,0,none⟩) n cap xs):mX w ⟨g,0,none⟩ xs:=fun j u hj=>by
 obtain⟨a,e,h1⟩:=h.row j u hj;cases e;exact h1
theorem Ow.nil(w0 w:aj)(E:az)(c:Nat):Ow w0 w [] E c none 0 0 []:=⟨World.ownsRow_nil w _ E c,fun _ h=>(by cases h),fun _ h=>(by cases h)⟩
theorem Ow.mk' {g:Nat}{cs:List ai}(hB:fR w g cs E)(hg:w0.heap.size≤g)(hl:cs.length=n*c)(hm:n≤maxLen):Ow w0 w [] E c (l_ ⟨g,0,none⟩) n n cs :=
 ⟨⟨hl,.inr ⟨g,n,_,rfl,hg,hB,aq _,hm,by simpa using hl,by simp[←hl]⟩⟩,fun _ _ h=>(by cases h),fun _ h=>(by cases h)⟩
theorem Ow.as{ys:List ai}(h:Ow w0 w S E c A n cap xs)(e:xs=ys):Ow w0 w S E c A n cap ys:=e▸h
end
section
variable {P:br} {ds:List dz} {l:List ai} {x y:bw} {T ty:az}
variable {ops:Array Oper} {Q:Exit→Act→aj→Prop} {rest:List Oper} {d:Nat} {pos:String} {after:Array Edge} {w w0:aj} {S:List (Option Nat)} {E:az} {c n cap m mcap:Nat} {A B:Option Addr} {xs news:List ai}
theorem Wr.refl(w:aj)(A:Option Addr):Wr w w A:=⟨rfl,rfl,rfl,aq _,fun _ _ _=>rfl⟩
theorem Uy{t:az}{i:TypeInfo}{z:ai}{bytes:Nat}(ht:P.underlying t=some (.slice E))(hi:P.info? E=some i)(hz:i.zero=some z)(hsize:i.size=c)(hby:i.bytes=bytes)(hzs:z.cells.size=c)(hsz:0<c)
 (hown:Ow w0 w S E c A n cap xs) (hl:news.length=m*c) (hnews:∀j u,news[j]? = some u→∃a,B=some a∧w.cell? (a.add j)=some u) (h1:∀u∈news,u.oneCell'=true)
 (h63:n+m≤maxLen) (hbytes:(n+m)*bytes≤140737488355328) (hbase:w0.heap.size≤w.heap.size) :
 ∃A' cap' w',(Builtin.append_ #[t,t] ty #[.slice A n cap,.slice B m mcap]).run P w=.ok (.slice A' (n+m) cap') w'∧Ow w0 w' S E c A' (n+m) cap' (xs++news)∧Wr w w' A∧(A'=A∨Ni A'=some w.heap.size):=by
 subst hsize;subst hby;have hsmall:n+m≤9223372036854775807:=by simp only[maxLen] at h63;omega
 have hlen:(xs++news).length=(n+m)*i.size:=by rw[aw,hown.own.1,hl,ke]
 have grown:∀(old:Nat),old<n+m →
  Ow w0 (w.drew.alloc (.cells (xs.toArray++news.toArray++Builtin.zeroCells z.cells (grownCap w (n+m) old E-(n+m))) E)) S E i.size
   (some ⟨w.heap.size,0,none⟩) (n+m) (grownCap w (n+m) old E) (xs++news) ∧
  Wr w (w.drew.alloc (.cells (xs.toArray++news.toArray++Builtin.zeroCells z.cells (grownCap w (n+m) old E-(n+m))) E)) A:=by
  intro old ho;have hge:=grownCap_ge w (n+m) old E;have hcm:grownCap w (n+m) old E≤maxLen:=grownCap_le_maxLen w (n+m) old E h63;refine⟨⟨⟨hlen,.inr ⟨w.heap.size,_,_,O,hbase,heap_alloc_new w.drew _,hge,hcm,?_,?_⟩⟩,fun b hb hm=>?_,fun b hb=>?_⟩,⟨O,O,O,by simp,fun k hk _=>heap_alloc_old w.drew _ (h:=hk)⟩⟩
  · simp only[Array.size_append,gm,size_zeroCells,hzs,hown.own.1,hl,←ke]
    congr 1
    omega
  · simp only[Array.toList_append,cq]
    rw[←cq,←hlen];exact List.take_left
  · have hb':w.heap.size=b:=by simpa using hb
    subst hb';exact absurd (hown.bd _ hm) (Nat.lt_irrefl _)
  · have:=hown.bd _ hb
    have h2:(w.drew.alloc (.cells (xs.toArray++news.toArray++Builtin.zeroCells z.cells (grownCap w (n+m) old E-(n+m))) E)).heap.size=w.heap.size+1:=by simp
    rw[h2];omega
 have hB0:B=none→m=0∧news=[]:=fun hB=>by
  have hn:news=[]:=by
   cases news with
   | nil=>rfl
   | cons u us=>obtain⟨a,e,_⟩:=hnews 0 u rfl;rw[hB] at e;cases e
  subst hn;refine⟨?_,O⟩;rcases iz m with h0 | h0
  · exact h0
  · have:=Nat.mul_pos h0 hsz;simp at hl;omega
 rcases hown.cases with ⟨rfl,rfl,rfl,rfl⟩ | ⟨g,cur,rfl,hbg,hg,hnc,hcm,hcs,htake⟩
 · by_cases hm:m=0
   · subst hm
     have hn:news=[]:=et (by simpa using hl);subst hn;refine⟨none,0,w,?_,by simpa using hown,Wr.refl _ _,.inl O⟩;cases B <;> simp[Builtin.append_,cd ht,sizeOf,typeInfo,hi,Builtin.lenOf,Builtin.firstCells,loadCells,loadCellsFrom]
   · cases B with
     | none=>exact absurd (hB0 rfl).1 hm
     | some a =>
      have hr:=run_append_nil (P:=P) w t ty E i z ht hi hz a m mcap news hl (fun j u hj=>by obtain⟨a',e,h⟩:=hnews j u hj;cases e;exact h) (by omega) (by omega) (by have hb:=hbytes;simp only[au] at hb;omega);have hgr:=grown 0 (by omega);simp only[au,b_,Array.empty_append] at hgr ⊢;exact⟨_,_,_,hr,hgr.1,hgr.2,.inr O⟩
 · cases B with
   | none =>
    obtain⟨rfl,rfl⟩:=hB0 rfl;refine⟨some ⟨g,0,none⟩,cap,w,?_,by simpa using hown,Wr.refl _ _,.inl O⟩;simp[Builtin.append_,cd ht,sizeOf,typeInfo,hi,Builtin.lenOf,Builtin.firstCells,hnc,storeCells]
   | some a =>
    have hnews':∀j u,news[j]? = some u→w.cell? (a.add j)=some u:=fun j u hj=>by obtain⟨a',e,h⟩:=hnews j u hj;cases e;exact h
    by_cases hroom:n+m≤cap
    · have hfit:n*i.size+news.length≤cur.size:=by rw[hl,hcs,←ke];exact mz _ hroom
      have hr:=run_append_room (P:=P) w t ty E i ht hi g n cap cur hg a m mcap news hl hnews' h1 hroom hfit;refine⟨_,_,_,hr,⟨⟨hlen,.inr ⟨g,cap,_,O,hbg,setRow_heap w g cur _ E _ hg,hroom,hcm,?_,?_⟩⟩,hown.sep,fun b hb=>by simpa using hown.bd b hb⟩,⟨O,O,O,by simp,fun k _ hk=>setRow_other w g k _ (fun e=>hk (by rw[e];rfl))⟩,.inl rfl⟩
      · simp only[gm,aw,bp,fl,Array.length_toList]
        omega
      · rw[htake,←hlen]
        exact List.take_left
    · have hr:=run_append_grow (P:=P) w t ty E i z ht hi hz ⟨g,0,none⟩ n cap xs hown.own.1 hown.rows a m mcap news hl hnews' (by omega) (by omega) (growslice_fits (by omega) hbytes)
      have hgr:=grown cap (by omega);exact⟨_,_,_,hr,hgr.1,hgr.2,.inr O⟩
theorem Wg{b:Nat}{z:ai}{a0:Array az}(ha:a0 = #[T,T])(hu:P.underlying T=some (.slice E))(hi:(P.info? E).map (fun i=>(i.size,i.bytes,i.zero))=some (c,b,some z))(hz:z.cells.size=c)(hc:0<c)(hX:fQ w0 w)
 (hs:ev l x=.slice A n cap) (hown:Ow w0 w S E c A n cap xs) (hx:ev l y=.slice B m mcap) (hl:news.length=m*c) (hrow:∀j u,news[j]? = some u→∃a,B=some a∧w.cell? (a.add j)=some u) (h1:∀u∈news,u.oneCell'=true) (h63:n+m≤9223372036854775807) (hbytes:(n+m)*b≤140737488355328)
 (h:∀A' cap' w',Ow w0 w' S E c A' (n+m) cap' (xs++news)→Wr w w' A→(A'=A∨Ni A'=some w.heap.size)→ar P ops Q rest (Fr (l.set d (.slice A' (n+m) cap')) ds) w') :
 ar P ops Q (bu (some d) (.call { callee:=.builtin .append,args:=#[x,y],argTypes:=a0 }) ty pos after none::rest) (Fr l ds) w:=by
 subst ha;cases hq:P.info? E with
 | none=>rw[hq] at hi;cases hi
 | some i =>
  rw[hq] at hi;simp only[fm,gw,ft] at hi;obtain⟨e1,e2,e3⟩:=hi;obtain⟨A',cap',w',hr,h2,h3,h4⟩:=Uy (P:=P) (w:=w) (ty:=ty) (mcap:=mcap) hu hq e3 e1 e2 hz hc hown hl hrow h1 (by simpa[maxLen] using h63) hbytes hX.size;exact mM (fun o ho hty=>by simp[dm,ho,hty,resolve,invoke,builtin,cD,hs,hx,hr]) (h A' cap' w' h2 h3 h4)
theorem Uz{cur:Array ai}{xs us:List ai}{off k:Nat}(hx:cur.toList.take k=xs)(hl:xs.length=k)(hf:off+us.length≤k):(over cur.toList off us).take k=over xs off us:=by
 subst hx;have hk:k≤cur.toList.length:=by rw[bp] at hl;omega
 unfold over;apply fw;intro j;rw[d_];have e1:(cur.toList.take off).length=off:=by rw[bp];omega
 have e2:((cur.toList.take k).take off).length=off:=by rw[bp,bp];omega
 simp only[cq];by_cases h0:j<k
 · rw[if_pos h0]
   rcases eu j off with h1 | h1
   · rw[cu (by omega),cu (by omega),List.take_take,gr (by omega)]
   · rw[dt (l₁:=cur.toList.take off) (by omega),dt (l₁:=(cur.toList.take k).take off) (by omega),e1,e2]
     rcases eu (j-off) us.length with h2 | h2
     · rw[cu h2,cu h2]
     · rw[dt h2,dt h2,dj,dj,d_,if_pos (by omega)]
 · rw[if_neg h0]
   symm
   apply bz;simp only[aw,e2,fl,bp];omega
theorem aim{g off:Nat}{us:List ai}(hx:ev l x=.pointer (some ⟨g,off,none⟩))(hv:(ev l y).cells=us.toArray)(hc:dO P T us.length)(hO:Ow w0 w S E c (some ⟨g,0,none⟩) n cap xs)(hfit:off+us.length≤n*c)(h1:∀u∈us,u.oneCell'=true)
 (h:∀w',Wr w w' (some ⟨g,0,none⟩)→Ow w0 w' S E c (some ⟨g,0,none⟩) n cap (over xs off us)→ar P ops Q rest (Fr l ds) w'):ar P ops Q (bu none (.store T x y) ty pos after none::rest) (Fr l ds) w:=by
 rcases hO.cases with ⟨e,_⟩ | ⟨g',cur,e,hbg,hg,hnc,hcm,hcs,htake⟩
 · cases e
 · cases e
   have hfc:off+us.length≤cur.toList.length:=by
    have:=mz c hnc;simp;omega
   have hB:fR w g cur.toList E:=by unfold fR;simpa using hg
   refine yD (cs:=cur.toList) (t:=E) hx hv hc hB hfc h1 fun w' hC hB'=>h w' ⟨hC.os,hC.tape,hC.output,by rw[hC.size];exact aq _,fun k _ hk=>hC.block k (fun e=>hk (by rw[e];rfl))⟩ ?_;refine⟨⟨?_,.inr ⟨g,cap,_,O,hbg,hB',hnc,hcm,?_,?_⟩⟩,hO.sep,fun b hb=>by rw[hC.size];exact hO.bd b hb⟩
   · rw[Bl (by rw[hO.own.1];exact hfit)];exact hO.own.1
   · simp only[gm];rw[Bl hfc];simpa using hcs
   · show ((over cur.toList off us).toArray.toList).take (n*c)=_
     simp only[ff];exact Uz htake hO.own.1 hfit
end
theorem Ec(ts:List T3):(ts.flatMap aN).length=ts.length*9:=by
 induction ts with
 | nil=>rfl
 | cons t ts ih=>rw[di,aw,ih,dJ,av];omega
theorem Ow.tris{w0:aj}{S:List (Option Nat)}(h:Ow w0 w S E 9 A n cap (ts.flatMap aN))(hi:∀t∈ts,IT t):bV w A n ts:=by
 refine⟨?_,hi,fun i t ht=>?_⟩
 · have:=h.own.1;rw[Ec] at this;omega
 · have hr:∀j u,(aN t)[j]? = l_ u→(ts.flatMap aN)[i*9+j]? = l_ u:=fun j u hj=>by
    have hj':j<(aN t).length:=(ap.1 hj).1;rw[←dj,Eb ts i t ht,cu hj'];exact hj
   obtain⟨a,e,_⟩:=h.row _ _ (hr 0 _ rfl);refine⟨a,e,fun j u hj=>?_⟩;obtain⟨a',e',hc⟩:=h.row _ _ (hr j u hj);rw[e] at e';cases e';rw[jR];exact hc
theorem bV.cells(h:bV w A n ts):∀j u,(ts.flatMap aN)[j]? = some u→∃a,A=some a∧w.cell? (a.add j)=some u:=fun j u hj=>by
 have hl:j<ts.length*9:=by
  have:=(ap.1 hj).1;rwa [Ec] at this
 have hq:j / 9<ts.length:=by omega
 have ht:=am hq;obtain⟨a,e,hr⟩:=h.row _ _ ht;refine⟨a,e,?_⟩;have hd:=Eb ts (j / 9) _ ht;have hj':(aN ts[j / 9])[j%9]? = some u:=by
  have:((ts.flatMap aN).drop (j / 9*9))[j%9]? = some u:=by rw[dj,show j / 9*9+j%9=j by omega];exact hj
  rw[hd,cu (by rw[dJ];omega)] at this;exact this
 have:=hr _ _ hj';rwa [jR,show j / 9*9+j%9=j by omega] at this
theorem amw:∀(t:T3),∀u∈aN t,u.oneCell'=true:=fun t u hu=>by
 simp only[aN,an,List.not_mem_nil,or_false] at hu;rcases hu with rfl | rfl | rfl | rfl | rfl | rfl | rfl | rfl | rfl <;> rfl
theorem xB(ts:List T3):∀u∈ts.flatMap aN,u.oneCell'=true:=fun u hu=>by
 obtain⟨t,_,h⟩:=List.mem_flatMap.1 hu;exact amw t u h
theorem fR.rowsO{g:Nat}{cs:List ai}(h:fR w g cs t):∀j u,cs[j]? = some u→∃a,some (⟨g,0,none⟩:Addr)=some a∧w.cell? (a.add j)=some u:=fun j u hj=>⟨_,rfl,by have:=h.row 0;rw[m_] at this;exact this j u hj⟩
section
variable {w0 w w':aj} {S:List (Option Nat)} {E:az} {c n cap:Nat} {A:Option Addr} {xs:List ai}
end
/-! ### Names that are short -/
theorem zA{l:List ai}(t:Nat):ev l (.tmp t)=l.getD t undef:=rfl
theorem zB{l:List ai}(v:ai):ev l (.const v)=v:=rfl
theorem zC{l:List ai}(f:Nat):ev l (.func f)=.func (.func f) #[] #[]:=rfl
theorem zD{x:α}{xs:List α}{d:α}:(x::xs).getD (n+1) d=xs.getD n d:=rfl
theorem zE{x:α}{xs:List α}{d:α}:(x::xs).getD 0 d=x:=rfl
theorem zF{x:α}{xs:List α}{a:α}:(x::xs).set (n+1) a=x::xs.set n a:=rfl
theorem zG{x:α}{xs:List α}{a:α}:(x::xs).set 0 a=a::xs:=rfl
theorem zH{x:α}{xs:List α}  : (x::xs).take (n+1)=x::xs.take n:=rfl
theorem zI{xs:List α}:xs.take 0=[]:=kf
theorem zJ{x:α}{xs:List α}  : (x::xs).drop (n+1)=xs.drop n:=rfl
theorem zK{xs:List α}:xs.drop 0=xs:=rfl
theorem zL{x:α}{xs ys:List α}:(x::xs)++ys=x::(xs++ys):=rfl
theorem zM{ys:List α}:[]++ys=ys:=rfl
theorem zN{ys:List α}:ys++[]=ys:=fa ys
theorem zO{x:α}{xs:List α}:(x::xs).length=xs.length+1:=rfl
theorem zP  : ([]:List α).length=0:=rfl
theorem zQ{β:Type}{f:α→β}{x:α}{xs:List α}:(x::xs).map f=f x::xs.map f:=rfl
theorem zR{β:Type}{f:α→β}:([]:List α).map f=[]:=rfl
theorem zS{l:List α}{i:Nat}:l.toArray[i]? = l[i]?:=ky
theorem zT{x:α}{xs:List α}  : (x::xs)[n+1]? = xs[n]?:=rfl
theorem zU{x:α}{xs:List α}:(x::xs)[0]? = some x:=rfl
theorem zV{x d:α}:(some x).getD d=x:=rfl
theorem zz:(∀(l:List Go.Value) (t:Nat), ev l (.tmp t)=l.getD t undef)∧(∀(l:List Go.Value) (v:Go.Value), ev l (.const v)=v)∧(∀(l:List Go.Value) (f:Nat), ev l (.func f)=.func (.func f) #[] #[])∧(∀{α:Type} (x:α) (xs:List α) (n:Nat) (d:α), (x::xs).getD (n+1) d=xs.getD n d)∧(∀{α:Type} (x:α) (xs:List α) (d:α), (x::xs).getD 0 d=x)∧(∀{α:Type} (x:α) (xs:List α) (n:Nat) (a:α), (x::xs).set (n+1) a=x::xs.set n a)∧(∀{α:Type} (x:α) (xs:List α) (a:α), (x::xs).set 0 a=a::xs) := ⟨fun _ _ => rfl, fun _ _ => rfl, fun _ _ => rfl, fun _ _ _ _ => rfl, fun _ _ _ => rfl, fun _ _ _ _ => rfl, fun _ _ _ => rfl⟩
theorem zy:(∀{α:Type} (x:α) (xs:List α) (n:Nat), (x::xs).take (n+1)=x::xs.take n)∧(∀{α:Type} (xs:List α), xs.take 0=[])∧(∀{α:Type} (x:α) (xs:List α) (n:Nat), (x::xs).drop (n+1)=xs.drop n)∧(∀{α:Type} (xs:List α), xs.drop 0=xs) := ⟨fun _ _ _ => rfl, fun _ => kf, fun _ _ _ => rfl, fun _ => rfl⟩
theorem zx:(∀{α:Type} (x:α) (xs ys:List α), (x::xs)++ys=x::(xs++ys))∧(∀{α:Type} (ys:List α), []++ys=ys)∧(∀{α:Type} (ys:List α), ys++[]=ys)∧(∀{α:Type} (x:α) (xs:List α), (x::xs).length=xs.length+1)∧(∀{α:Type}, ([]:List α).length=0) := ⟨fun _ _ _ => rfl, fun _ => rfl, fun _ => fa _, fun _ _ => rfl, rfl⟩
theorem zw:(∀{α:Type} (l:List α) (i:Nat), l.toArray[i]? = l[i]?)∧(∀{α:Type} (x:α) (xs:List α) (n:Nat), (x::xs)[n+1]? = xs[n]?)∧(∀{α:Type} (x:α) (xs:List α), (x::xs)[0]? = some x)∧(∀{α:Type} (x d:α), (some x).getD d=x) := ⟨fun _ _ => ky, fun _ _ _ => rfl, fun _ _ => rfl, fun _ _ => rfl⟩
theorem zu:(∀(l:List Go.Value) (t:Nat) (ts:List Nat) (v:Go.Value) (vs:List Go.Value), fA l (t::ts) (v::vs)=fA (l.set t v) ts vs)∧(∀(l vs:List Go.Value), fA l [] vs=l)∧(∀(l:List Go.Value) (t:Nat) (ts:List Nat) (g:Nat→Go.Value), pQ l (t::ts) g=pQ (l.set t (g t)) ts g)∧(∀(l:List Go.Value) (g:Nat→Go.Value), pQ l [] g=l) := ⟨fun _ _ _ _ _ => rfl, fun _ _ => Bn, fun _ _ _ _ => rfl, fun _ _ => rfl⟩
theorem zv:(∀{α β:Type} (f:α→β) (x:α) (xs:List α), (x::xs).map f=f x::xs.map f)∧(∀{α β:Type} (f:α→β), ([]:List α).map f=[])∧(∀(l:List Go.Value) (t:Nat) (ts:List Nat) (v:Go.Value) (vs:List Go.Value), fA l (t::ts) (v::vs)=fA (l.set t v) ts vs)∧(∀(l vs:List Go.Value), fA l [] vs=l)∧(∀(l:List Go.Value) (t:Nat) (ts:List Nat) (g:Nat→Go.Value), pQ l (t::ts) g=pQ (l.set t (g t)) ts g)∧(∀(l:List Go.Value) (g:Nat→Go.Value), pQ l [] g=l) := ⟨fun _ _ _ => rfl, fun _ => rfl, fun _ _ _ _ _ => rfl, fun _ _ => Bn, fun _ _ _ _ => rfl, fun _ _ => rfl⟩
structure It where
 own:Nat→Prop
 P:aj→Prop
 lt:∀w b,P w→own b→b<w.heap.size
 st:∀w w',P w→w.heap.size≤w'.heap.size→(∀b,own b→w'.heap[b]? = w.heap[b]?)→P w'
 bk:Option (Nat × List ai × az):=none
 bkP:∀x,bk=some x→(∀b,own b↔b=x.1)∧∀w,P w→fR w x.1 x.2.1 x.2.2:=by intro _ h;cases h
def bI(g:Nat)(cs:List ai)(t:az):It where
 own b:=some g=some b
 P w:=fR w g cs t
 lt w b h e:=by cases e;exact h.lt
 st w w' h _ k:=(k g rfl).trans h
 bk:=some (g,cs,t)
 bkP x h:=by cases h;exact⟨fun b=>⟨fun e=>by cases e;rfl,fun e=>by rw[e]⟩,fun _ h=>h⟩
def oI(E:az)(c:Nat)(A:Option Addr)(n cap:Nat)(xs:List ai):It where
 own b:=Ni A=some b
 P w:=w.ownsRow 0 E c (.slice A n cap) n xs
 lt w b h e:=by
  rcases oG h with ⟨rfl,_⟩ | ⟨g,cur,rfl,_,hg,_⟩
  · cases e
  · cases e;exact (ee.1 hg).1
 st w w' h _ k:=by
  refine⟨h.1,?_⟩;rcases oG h with ⟨rfl,rfl,rfl,_⟩ | ⟨g,cur,rfl,h1,h2,h3⟩
  · exact .inl ⟨O,O⟩
  · exact .inr ⟨g,cap,cur,O,h1,(k g O).trans h2,h3⟩
def Ap(i j:It):Prop:=∀b,i.own b→j.own b→False
theorem Ap.symm{i j:It}(h:Ap i j):Ap j i:=fun b h1 h2=>h b h2 h1
structure Mem(w0 w:aj)(is:List It):Prop where
 ext:fQ w0 w
 all:∀i∈is,i.P w
 ge:∀i∈is,∀b,i.own b→w0.heap.size≤b
 nd:is.Pairwise Ap
def pW:List Bool→List It→List It
 | true::bs,i::is=>i::pW bs is
 | false::bs,_::is=>pW bs is
 | _,_=>[]
theorem Cd:∀(bs:List Bool) (is:List It),(pW bs is).Sublist is
 | true::bs,i::is=>(Cd bs is).cons_cons i
 | false::bs,i::is=>(Cd bs is).cons i
 | [],is=>pu _
 | true::bs,[]=>pu _
 | false::bs,[]=>pu _
section
variable {w0 w w':aj} {is:List It}
theorem Mem.refl(w:aj):Mem w w []:=⟨fQ.refl w,fun _ h=>(by cases h),fun _ h=>(by cases h),.nil⟩
theorem Mem.ext' (m:Mem w0 w is)(e:fQ w w'):Mem w0 w' is :=
 ⟨m.ext.trans e,fun i hi=>i.st w w' (m.all i hi) e.size fun b hb=>Below.block e b (i.lt w b (m.all i hi) hb),m.ge,m.nd⟩
theorem Mem.sel(m:Mem w0 w is)(bs:List Bool):Mem w0 w (pW bs is) :=
 ⟨m.ext,fun i hi=>m.all i ((Cd bs is).subset hi),fun i hi=>m.ge i ((Cd bs is).subset hi),m.nd.sublist (Cd bs is)⟩
theorem Mem.tl{i:It}(m:Mem w0 w (i::is)):Mem w0 w is:=⟨m.ext,fun j hj=>m.all j (bg _ hj),fun j hj=>m.ge j (bg _ hj),(bt.1 m.nd).2⟩
theorem Mem.get(m:Mem w0 w is)(k:Nat){i:It}(hk:is[k]? = some i):i.P w:=m.all i (bh hk)
theorem Mem.b(m:Mem w0 w is)(k:Nat){g:Nat}{cs:List ai}(hk:is[k]? = some (bI g cs t)):fR w g cs t:=m.get k hk
theorem Mem.o(m:Mem w0 w is)(k:Nat){xs:List ai}(hk:is[k]? = some (oI E c A n cap xs)):Ow w0 w [] E c A n cap xs:=by
 have h:w.ownsRow 0 E c (.slice A n cap) n xs:=m.get k hk;refine⟨⟨h.1,?_⟩,fun _ _ h=>(by cases h),fun _ h=>(by cases h)⟩;rcases oG h with ⟨rfl,rfl,rfl,_⟩ | ⟨g,cur,rfl,_,h2,h3⟩
 · exact .inl ⟨O,O⟩
 · exact .inr ⟨g,cap,cur,O,m.ge _ (bh hk) g O,h2,h3⟩
theorem Mem.bo(m:Mem w0 w is)(k:Nat){g:Nat}{cs:List ai}(hk:is[k]? = some (bI g cs t))(hl:cs.length=n*c)(hm:n≤maxLen):Ow w0 w [] t c (some ⟨g,0,none⟩) n n cs :=
 Ow.mk' (m.b k hk) (m.ge _ (bh hk) g rfl) hl hm
theorem Mem.toO(m:Mem w0 w is)(k:Nat){g:Nat}{cs:List ai}(hk:is[k]? = some (bI g cs t))(hl:cs.length=n*c)(hm:n≤maxLen):∃i,i=oI t c (some ⟨g,0,none⟩) n n cs∧i.P w:=⟨_,rfl,(m.bo k hk hl hm).own.1,.inr ⟨g,n,_,rfl,cv _,m.b k hk,aq _,hm,by simpa using hl,by simp[←hl]⟩⟩
theorem Mem.new{i:It}(m:Mem w0 w is)(e:fQ w w')(hi:i.P w')(hg:∀b,i.own b→w.heap.size≤b):Mem w0 w' (i::is):=by
 have m':=m.ext' e;refine⟨m'.ext,fun j hj=>?_,fun j hj=>?_,bt.2 ⟨fun j hj b h1 h2=>?_,m'.nd⟩⟩
 · rcases an.1 hj with rfl | hj
   · exact hi
   · exact m'.all j hj
 · rcases an.1 hj with rfl | hj
   · exact fun b hb=>ba m.ext.size (hg b hb)
   · exact m'.ge j hj
 · have:=j.lt w b (m.all j hj) h2
   have:=hg b h1;omega
theorem Mem.newB{g:Nat}{cs:List ai}(m:Mem w0 w is)(e:fQ w w')(hg:w.heap.size≤g)(hB:fR w' g cs t):Mem w0 w' (bI g cs t::is):=m.new e hB (fun b h=>by cases h;exact hg)
theorem Mem.newO{S:List (Option Nat)}{xs:List ai}(m:Mem w0 w is)(e:fQ w w')(h:Ow w w' S E c A n cap xs):Mem w0 w' (oI E c A n cap xs::is):=by
 refine m.new e (i:=oI E c A n cap xs) ?_ h.ge;refine⟨h.own.1,?_⟩;rcases h.cases with ⟨rfl,rfl,rfl,_⟩ | ⟨g,cur,rfl,_,h2,h3⟩
 · exact .inl ⟨O,O⟩
 · exact .inr ⟨g,cap,cur,O,cv _,h2,h3⟩
theorem Mem.nilO(m:Mem w0 w is)(E:az)(c:Nat):Mem w0 w (oI E c none 0 0 []::is):=m.newO (fQ.refl w) (Ow.nil w w E c)
theorem adc{i i':It}:∀(is:List It) (k:Nat),is.Pairwise Ap→is[k]? = some i→(∀x∈is,Ap i x→Ap i' x)→(is.set k i').Pairwise Ap
 | [],_,_,h,_=>by cases h
 | j::is,0,hp,h,hc=>by
  cases h;rw[List.set_cons_zero];have:=bt.1 hp;exact bt.2 ⟨fun x hx=>hc x (bg _ hx) (this.1 x hx),this.2⟩
 | j::is,k+1,hp,h,hc=>by
  rw[fx];have hp':=bt.1 hp;have h':is[k]? = some i:=h;refine bt.2 ⟨fun x hx=>?_,adc is k hp'.2 h' fun x hx=>hc x (bg _ hx)⟩;rcases jy hx with hx | rfl
  · exact hp'.1 x hx
  · exact (hc j (bm ..) (hp'.1 i (bh h')).symm).symm
theorem Mem.put{i i':It}(m:Mem w0 w is)(k:Nat)(hk:is[k]? = some i)(hos:w'.os=w.os)(ht:w'.tape=w.tape)(ho:w'.output=w.output)(hs:w.heap.size≤w'.heap.size)(hb:∀b,b<w.heap.size→¬i.own b→w'.heap[b]? = w.heap[b]?)
 (hi:i'.P w') (hid:(∀b,i'.own b→i.own b)∨∀b,i'.own b→w.heap.size≤b):Mem w0 w' (is.set k i'):=by
 have hmem:=bh hk;refine⟨⟨hos.trans m.ext.os,ht.trans m.ext.tape,ho.trans m.ext.output,ba m.ext.size hs,fun b hlt=>(hb b (gg hlt m.ext.size) fun e=>?_).trans (Below.block m.ext b hlt)⟩,fun j hj=>?_,fun j hj b hjb=>?_,adc is k m.nd hk fun x hx ha b h1 h2=>?_⟩
 · have:=m.ge i hmem b e
   omega
 · obtain⟨q,hq,e⟩:=List.getElem_of_mem hj
   rw[List.getElem_set] at e;split at e
   · subst e;exact hi
   · rename_i hne
     rw[List.length_set] at hq;have hj':j∈is:=e▸gl hq;have hq':is[q]? = some j:=by rw[←e];exact am hq
     refine j.st w w' (m.all j hj') hs fun b hjb=>hb b (j.lt w b (m.all j hj') hjb) fun hib=>?_;have hklt:k<is.length:=(ap.1 hk).1;have hki:is[k]=i:=(ap.1 hk).2;rcases Nat.lt_or_gt_of_ne hne with h | h
     · have:=jb.1 m.nd k q hklt hq h
       rw[hki,e] at this;exact this b hib hjb
     · have:=jb.1 m.nd q k hq hklt h
       rw[hki,e] at this;exact this b hjb hib
 · rcases jy hj with hj | rfl
   · exact m.ge j hj b hjb
   · rcases hid with hid | hid
     · exact m.ge i hmem b (hid b hjb)
     · exact ba m.ext.size (hid b hjb)
 · rcases hid with hid | hid
   · exact ha b (hid b h1) h2
   · have:=hid b h1
     have:=x.lt w b (m.all x hx) h2;omega
theorem Mem.re(m:Mem w0 w is)(k:Nat){g:Nat}{cs cs':List ai}(hk:is[k]? = some (bI g cs t))(hB:fR w g cs' t):Mem w0 w (is.set k (bI g cs' t)) :=
 m.put k hk rfl rfl rfl (aq _) (fun _ _ _=>rfl) hB (.inl fun _ h=>h)
theorem Mem.reO(m:Mem w0 w is)(k:Nat){n' cap':Nat}{xs xs':List ai}(hk:is[k]? = some (oI E c A n cap xs))(h:Ow w0 w [] E c A n' cap' xs'):Mem w0 w (is.set k (oI E c A n' cap' xs')):=by
 refine m.put k hk O O O (aq _) (fun _ _ _=>rfl) ?_ (.inl fun _ h=>h);refine⟨h.own.1,?_⟩;rcases h.cases with ⟨rfl,rfl,rfl,_⟩ | ⟨g,cur,rfl,_,h2,h3⟩
 · exact .inl ⟨O,O⟩
 · exact .inr ⟨g,cap',cur,O,cv _,h2,h3⟩
theorem Mem.own(m:Mem w0 w is)(k:Nat){g:Nat}{cs:List ai}(hk:is[k]? = some (bI g cs t))(hl:cs.length=n*c)(hm:n≤maxLen):Mem w0 w (is.set k (oI t c (some ⟨g,0,none⟩) n n cs)):=by
 obtain⟨i,rfl,h⟩:=m.toO k hk hl hm;exact m.put k hk O O O (aq _) (fun _ _ _=>rfl) h (.inl fun _ h=>h)
theorem gV{a b:Nat}(h:Nat.ble a b=true):a≤b:=Nat.le_of_ble_eq_true h
theorem gB{us:List ai}(h:(us.all (·.oneCell'))=true):∀u∈us,u.oneCell'=true:=fun u hu=>de.1 h u hu
end
section
variable {P:br} {ds:List dz} {l:List ai} {x y:bw} {T ty:az}
variable {ops:Array Oper} {Q:Exit→Act→aj→Prop} {rest:List Oper} {d:Nat} {pos:String} {after:Array Edge} {w w0:aj} {is:List It}
theorem asr{cs:List ai}(m:Mem w0 w is)(hv:(ev l x).cells=cs.toArray)(h:∀g u,Mem w0 u (bI g cs T::is)→ar P ops Q rest (Fr (l.set d (.pointer (some ⟨g,0,none⟩))) ds) u) :
 ar P ops Q (bu (some d) (.box T x) ty pos after none::rest) (Fr l ds) w:=ah0 hv fun u g e hg hB=>h g u (m.newB e hg hB)
theorem mN{cs:List ai}{z:ai}(m:Mem w0 w is)(hZ:oD P T z)(hv:z.cells=cs.toArray)(h:∀g u,Mem w0 u (bI g cs T::is)→ar P ops Q rest (Fr (l.set d (.pointer (some ⟨g,0,none⟩))) ds) u) :
 ar P ops Q (bu (some d) (.alloc T) ty pos after none::rest) (Fr l ds) w:=Dw hZ hv fun u g e hg hB=>h g u (m.newB e hg hB)
theorem ain{g off:Nat}{cs us:List ai}{t:az}(m:Mem w0 w is)(k:Nat)(hk:is[k]? = some (bI g cs t))(hx:ev l x=.pointer (some ⟨g,off,none⟩))(hv:(ev l y).cells=us.toArray)(hc:dO P T us.length)(hfit:off+us.length≤cs.length)(h1:(us.all (·.oneCell'))=true)
 (h:∀u,Mem w0 u (is.set k (bI g (over cs off us) t))→ar P ops Q rest (Fr l ds) u):ar P ops Q (bu none (.store T x y) ty pos after none::rest) (Fr l ds) w :=
 yD hx hv hc (m.b k hk) hfit (gB h1) fun u hC hB=>h u (m.put k hk hC.os hC.tape hC.output (by rw[hC.size];exact aq _) (fun b _ hne=>hC.block b fun e=>hne (by rw[e];rfl)) hB (.inl fun _ h=>h))
theorem amx{g off:Nat}{us xs:List ai}{E:az}{c n cap:Nat}(m:Mem w0 w is)(k:Nat)(hk:is[k]? = some (oI E c (some ⟨g,0,none⟩) n cap xs))(hx:ev l x=.pointer (some ⟨g,off,none⟩))(hv:(ev l y).cells=us.toArray)(hc:dO P T us.length)(hfit:off+us.length≤n*c)(h1:(us.all (·.oneCell'))=true)
 (h:∀u,Mem w0 u (is.set k (oI E c (some ⟨g,0,none⟩) n cap (over xs off us)))→ar P ops Q rest (Fr l ds) u):ar P ops Q (bu none (.store T x y) ty pos after none::rest) (Fr l ds) w :=
 aim hx hv hc (m.o k hk) hfit (gB h1) fun u hW hO=>h u (m.put k hk hW.os hW.tape hW.output hW.size (fun b hb hne=>hW.block b hb hne) (by
  refine⟨hO.own.1,?_⟩;rcases hO.cases with ⟨e,_⟩ | ⟨g,cur,e,_,h2,h3⟩
  · cases e
  · cases e;exact .inr ⟨_,cap,cur,O,cv _,h2,h3⟩) (.inl fun _ h=>h))
theorem kO{v:ai}{f:FuncId}{fo:bw}{xs:Array bw}{args:List ai}{first cap:Array ai}{a0:Array az}(m:Mem w0 w is)(hf:ev l fo=.func (.func f) first cap)(hxs:first.toList++xs.toList.map (ev l)++cap.toList=args)(hc:dT P f args v)
 (h:∀u,Mem w0 u is→ar P ops Q rest (Fr (l.set d v) ds) u):ar P ops Q (bu (some d) (.call { callee:=.value fo,args:=xs,argTypes:=a0 }) ty pos after none::rest) (Fr l ds) w :=
 Yx hf hxs hc fun u e=>h u (m.ext' e)
theorem dM{f:FuncId}{fo:bw}{xs:Array bw}{args:List ai}{first cap:Array ai}{a0:Array az}{R:ai→aj→Prop}(m:Mem w0 w is)(hf:ev l fo=.func (.func f) first cap)(hxs:first.toList++xs.toList.map (ev l)++cap.toList=args)(hc:dQ P f args w R)
 (h:∀v u,Mem w0 u is→R v u→ar P ops Q rest (Fr (l.set d v) ds) u):ar P ops Q (bu (some d) (.call { callee:=.value fo,args:=xs,argTypes:=a0 }) ty pos after none::rest) (Fr l ds) w :=
 bJ hf hxs hc fun v u e hR=>h v u (m.ext' e) hR
def OR(E:az)(c:Nat)(R:List ai→Prop)(w:aj)(v:ai)(w':aj):Prop:=∃A n cap xs,v=.slice A n cap∧Ow w w' [] E c A n cap xs∧R xs
theorem bL{E:az}{c n cap b nm mcap:Nat}{A B:Option Addr}{z:ai}{xs news:List ai}{a0:Array az}(m:Mem w0 w is)(k:Nat)(hk:is[k]? = some (oI E c A n cap xs))(ha:a0 = #[T,T])(hu:P.underlying T=some (.slice E))(hi:(P.info? E).map (fun i=>(i.size,i.bytes,i.zero))=some (c,b,some z))(hz:z.cells.size=c)(hc:0<c)
 (hs:ev l x=.slice A n cap) (hx:ev l y=.slice B nm mcap) (hl:news.length=nm*c) (hrow:∀j u,news[j]? = some u→∃a,B=some a∧w.cell? (a.add j)=some u) (h1:∀u∈news,u.oneCell'=true) (h63:n+nm≤9223372036854775807) (hbytes:(n+nm)*b≤140737488355328)
 (h:∀A' cap' u,Mem w0 u (is.set k (oI E c A' (n+nm) cap' (xs++news)))→ar P ops Q rest (Fr (l.set d (.slice A' (n+nm) cap')) ds) u) :
 ar P ops Q (bu (some d) (.call { callee:=.builtin .append,args:=#[x,y],argTypes:=a0 }) ty pos after none::rest) (Fr l ds) w :=
 Wg ha hu hi hz hc m.ext hs (m.o k hk) hx hl hrow h1 h63 hbytes fun A' cap' u hO hW hF=>h A' cap' u (m.put k hk hW.os hW.tape hW.output hW.size (fun b hb hne=>hW.block b hb hne) (by
  refine⟨hO.own.1,?_⟩;rcases hO.cases with ⟨rfl,e1,rfl,_⟩ | ⟨g,cur,rfl,_,h2,h3⟩
  · exact .inl ⟨by rw[e1],e1⟩
  · exact .inr ⟨g,cap',cur,O,cv _,h2,h3⟩) (by
  rcases hF with rfl | hF
  · exact .inl fun _ h=>h
  · exact .inr fun b hb=>by
     have e:Ni A'=some b:=hb;rw[hF] at e;cases e;exact aq _))
theorem Wh{cs:List ai}(m:Mem w0 w is)(hv:ev l x=.agg cs.toArray)(h:∀g u,Mem w0 u (bI g cs T::is)→ar P ops Q rest (Fr (l.set d (.pointer (some ⟨g,0,none⟩))) ds) u) :
 ar P ops Q (bu (some d) (.box T x) ty pos after none::rest) (Fr l ds) w:=asr m (by rw[hv];rfl) h
theorem ass{v:ai}(m:Mem w0 w is)(hv:ev l x=v)(h1:v.cells = #[v])(h:∀g u,Mem w0 u (bI g [v] T::is)→ar P ops Q rest (Fr (l.set d (.pointer (some ⟨g,0,none⟩))) ds) u) :
 ar P ops Q (bu (some d) (.box T x) ty pos after none::rest) (Fr l ds) w:=asr m (by rw[hv,h1]) h
theorem bP{g off:Nat}{cs us:List ai}{t:az}(m:Mem w0 w is)(k:Nat)(hk:is[k]? = some (bI g cs t))(hx:ev l x=.pointer (some ⟨g,off,none⟩))(hv:ev l y=.agg us.toArray)(hc:dO P T us.length)(hfit:off+us.length≤cs.length)(h1:(us.all (·.oneCell'))=true)
 (h:∀u,Mem w0 u (is.set k (bI g (over cs off us) t))→ar P ops Q rest (Fr l ds) u):ar P ops Q (bu none (.store T x y) ty pos after none::rest) (Fr l ds) w:=ain m k hk hx (by rw[hv];rfl) hc hfit h1 h
theorem cW{g off:Nat}{cs:List ai}{v:ai}{t:az}(m:Mem w0 w is)(k:Nat)(hk:is[k]? = some (bI g cs t))(hx:ev l x=.pointer (some ⟨g,off,none⟩))(hv:ev l y=v)(hc:dO P T 1)(hfit:off+1≤cs.length)(h1:v.oneCell'=true∧v.cells = #[v])
 (h:∀u,Mem w0 u (is.set k (bI g (over cs off [v]) t))→ar P ops Q rest (Fr l ds) u):ar P ops Q (bu none (.store T x y) ty pos after none::rest) (Fr l ds) w:=ain (us:=[v]) m k hk hx (by rw[hv,h1.2]) hc hfit (by simp[h1.1]) h
theorem fR.full{g:Nat}{cs:List ai}{t:az}(h:fR w g cs t)(hA:eU P T true)(hc:dO P T cs.length):fZ P w T ⟨g,0,none⟩ (.agg cs.toArray):=by
 have:=h.row 0;rw[m_] at this;exact this.lies hA hc
theorem Mem.s01{w0 w:aj}{i j:It}{is:List It}(m:Mem w0 w (i::j::is)):Mem w0 w (j::i::is):=by
 have h1:=bt.1 m.nd;have h2:=bt.1 h1.2;refine⟨m.ext,fun x hx=>m.all x ?_,fun x hx=>m.ge x ?_,bt.2 ⟨fun x hx=>?_,bt.2 ⟨fun x hx=>h1.1 x (bg _ hx),h2.2⟩⟩⟩
 · simp only[an] at hx ⊢;rcases hx with h | h | h <;> simp[h]
 · simp only[an] at hx ⊢;rcases hx with h | h | h <;> simp[h]
 · rcases an.1 hx with rfl | hx
   · exact (h1.1 _ (bm ..)).symm
   · exact h2.1 x hx
/-! ### Regions -/
theorem cL{id:Nat}{a:Act}{l:List Oper}(m:Mem w0 w is)(n:Nat)(hm:P.follows .mixedOrders=true)(hB:Region.lexTailB .any l.toArray n=true)
 (h:cw P l.toArray (fun u=>Mem w0 u is) (fun a'=>∀u,Mem w0 u is→ar P l.toArray Q (l.drop n) a' u) (l.take n) a):(Code.region id l.toArray true).wp P Q a w :=
 rP (C:=fun u=>Mem w0 u is) n hm hB (m.ext' (fQ.refl w).drawn) h
theorem mq{id:Nat}{a:Act}{l:List Oper}(m:Mem w0 w is)(hm:P.follows .mixedOrders=true)(hB:Region.lexB .any l.toArray=true)
 (h:cw P l.toArray (fun u=>Mem w0 u is) (fun a'=>∀u,Mem w0 u is→Q .normal a' u) l a):(Code.region id l.toArray true).wp P Q a w :=
 wp_region_quiet (C:=fun u=>Mem w0 u is) hm hB (m.ext' (fQ.refl w).drawn) (by simpa using h)
theorem mh{id:Nat}{a:Act}{l:List Oper}(m:Mem w0 w is)(bs:List Bool)(o:List (Nat × Bool))(hm:P.follows .mixedOrders=true)(hB:(Region.noSelect l.toArray&&decide (o.length=l.length)&&Yv .any l.toArray o (f_ l.toArray.size false))=true)
 (hQ:∀c d v a w,Q (.panic c) (Act.put a d v) w→Q (.panic c) a w) {ol:List (Oper × Bool)} (hol:(o.map fun x=>((l.toArray[x.1]?).getD default,x.2))=ol)
 (h:∀u,Mem w0 u is→bQ P l.toArray (fun u=>Mem w0 u (pW bs is)) Q ol a u):(Code.region id l.toArray true).wp P Q a w :=
 Ax o hm hB hQ hol fun u e=>⟨fun u=>Mem w0 u (pW bs is),(m.ext' e).sel bs,h u (m.ext' e)⟩
theorem mhe{id:Nat}{a:Act}{l:List Oper}(m:Mem w0 w is)(bs:List Bool)(o:List (Nat × Bool))(hm:P.follows .mixedOrders=true)(hB:(Region.noSelect l.toArray&&decide (o.length=l.length)&&Yv .any l.toArray o (f_ l.toArray.size false))=true)
 (hQ:∀c d v a w,Q (.panic c) (Act.put a d v) w→Q (.panic c) a w) {ol:List (Oper × Bool)} (hol:(o.map fun x=>((l.toArray[x.1]?).getD default,x.2))=ol)
 (h:∀u,fQ w u→Mem w0 u is→bQ P l.toArray (fun u=>Mem w0 u (pW bs is)) Q ol a u):(Code.region id l.toArray true).wp P Q a w :=
 Ax o hm hB hQ hol fun u e=>⟨fun u=>Mem w0 u (pW bs is),(m.ext' e).sel bs,h u e (m.ext' e)⟩
theorem Wi{id:Nat}{a:Act}{l:List Oper}(m:Mem w0 w is)(bs:List Bool)(t:qN)(hm:P.follows .mixedOrders=true)(hB:(Region.noSelect l.toArray&&t.ok .any l.toArray l.toArray.size (f_ l.toArray.size false))=true)
 (hQ:∀c d v a w,Q (.panic c) (Act.put a d v) w→Q (.panic c) a w)
 (h:∀u,Mem w0 u is→cO P l.toArray (fun u=>Mem w0 u (pW bs is)) Q t a u):(Code.region id l.toArray true).wp P Q a w :=
 Qt t hm hB hQ fun u e=>⟨fun u=>Mem w0 u (pW bs is),(m.ext' e).sel bs,h u (m.ext' e)⟩
theorem mf1{tl:List Oper}{i d:Nat}{T:az}{cs:List ai}(m:Mem w0 w is)(h:∀g u,Mem w0 u (bI g cs T::is)→ar P ops Q tl (Fr (l.set d (.pointer (some ⟨g,0,none⟩))) ds) u) :
 ∀E w',fQ w w'→Lc w.heap.size E [⟨i,d,T,cs⟩] w'→(∀x∈[(⟨i,d,T,cs⟩:Al)],∃v,E x.i=some v)→ar P ops Q tl (fS E [⟨i,d,T,cs⟩] (Fr l ds)) w' :=
 apR fun u g e hg hB=>h g u (m.newB e hg hB)
theorem Mem.newB2{w w':aj}{is:List It}{g g2:Nat}{cs cs2:List ai}{t t2:az}(m:Mem w0 w is)(e:fQ w w')(hg:w.heap.size≤g)(hg2:w.heap.size≤g2)(hB:fR w' g cs t)(hB2:fR w' g2 cs2 t2)(hne:g2≠g):Mem w0 w' (bI g2 cs2 t2::bI g cs t::is):=by
 have m1:=m.newB e hg hB;refine⟨m1.ext,fun j hj=>?_,fun j hj=>?_,bt.2 ⟨fun j hj b h1 h2=>?_,m1.nd⟩⟩
 · rcases an.1 hj with rfl | hj
   · exact hB2
   · exact m1.all j hj
 · rcases an.1 hj with rfl | hj
   · exact fun b hb=>by cases hb;exact ba m.ext.size hg2
   · exact m1.ge j hj
 · cases h1
   rcases an.1 hj with rfl | hj
   · cases h2;exact hne O
   · have:=j.lt w _ (m.all j hj) h2
     omega
theorem mf2{tl:List Oper}{i d j e:Nat}{T U:az}{cs us:List ai}(m:Mem w0 w is)(hij:i≠j)(h:∀g k u,Mem w0 u (bI k us U::bI g cs T::is)→ar P ops Q tl (Fr ((l.set d (.pointer (some ⟨g,0,none⟩))).set e (.pointer (some ⟨k,0,none⟩))) ds) u) :
 ∀E w',fQ w w'→Lc w.heap.size E [⟨i,d,T,cs⟩,⟨j,e,U,us⟩] w'→(∀x∈[(⟨i,d,T,cs⟩:Al),⟨j,e,U,us⟩],∃v,E x.i=some v)→ar P ops Q tl (fS E [⟨i,d,T,cs⟩,⟨j,e,U,us⟩] (Fr l ds)) w' :=
 apS hij fun u g k e hg hk hB hK hne=>h g k u (m.newB2 e hg hk hB hK hne)
theorem ast{c:Code}{a:Act}{l:Nat→Nat→List ai}{c1 c2:List ai}{T1 T2:az}(m:Mem w0 w is)(h1:c.wp P (fun e a' u=>e=.normal∧∃g k,a'=Fr (l g k) ds∧Mem w0 u (bI k c2 T2::bI g c1 T1::is)) a w)
 (h2:∀g k u,Mem w0 u (bI k c2 T2::bI g c1 T1::is)→Q .normal (Fr (l g k) ds) u):c.wp P Q a w:=by
 refine Code.wp_mono ?_ h1;rintro e a' u ⟨rfl,g,k,rfl,m'⟩;exact h2 g k u m'
end
section
variable {P:br} {w0:aj} {is:List It} {l:List ai} {x y:bw} {T ty:az}
variable {ops:Array Oper} {Q:Act→Prop} {rest:List Oper} {d:Nat} {pos:String} {after:Array Edge} {v:ai} {ds:List dz}
theorem ql(hx:ev l x=.pointer (some a))(hv:∀u,Mem w0 u is→fZ P u T a v)(h:cw P ops (fun u=>Mem w0 u is) Q rest (Fr (l.set d v) ds)):cw P ops (fun u=>Mem w0 u is) Q (bu (some d) (.load T x) ty pos after none::rest) (Fr l ds) :=
 kN (fun u m=>aZ hx (hv u m)) h
theorem qc{f:FuncId}{fo:bw}{xs:Array bw}{args:List ai}{first cap:Array ai}{a0:Array az}(hf:ev l fo=.func (.func f) first cap)(hxs:first.toList++xs.toList.map (ev l)++cap.toList=args)(hc:∀u,Mem w0 u is→dQ P f args u fun x _=>x=v)
 (h:cw P ops (fun u=>Mem w0 u is) Q rest (Fr (l.set d v) ds)):cw P ops (fun u=>Mem w0 u is) Q (bu (some d) (.call { callee:=.value fo,args:=xs,argTypes:=a0 }) ty pos after none::rest) (Fr l ds):=by
 refine wpQuiet_step fun K hK=>?_;rw[if_pos (by simp[Region.wanted])];refine⟨v,fun w' hw=>?_,?_⟩
 · unfold ma
   rw[kJ,pM (hc w' hw).1 hf hxs _ rfl];refine⟨O,(hc w' hw).2.mono ?_⟩;rintro e w'' ⟨u,rfl,hE,rfl⟩;exact⟨O,hw.ext' hE⟩
 · show K ((Fr l ds).put (some d) v)
   rw[gL];exact hK _ h
theorem eX{f:FuncId}{fo:bw}{xs:Array bw}{args:List ai}{first cap:Array ai}{a0:Array az}(hf:ev l fo=.func (.func f) first cap)(hxs:first.toList++xs.toList.map (ev l)++cap.toList=args)(hc:dT P f args v)
 (h:cw P ops (fun u=>Mem w0 u is) Q rest (Fr (l.set d v) ds)):cw P ops (fun u=>Mem w0 u is) Q (bu (some d) (.call { callee:=.value fo,args:=xs,argTypes:=a0 }) ty pos after none::rest) (Fr l ds):=qc hf hxs (fun u _=>hc u) h
end
structure GX(w w':aj):Prop where
 ext:fQ w w'
 dr:w.drawn≤w'.drawn
theorem GX.grow{w':aj}(h:GX w w'):∃q os,w'=Sort.grow (w.drewN q) os:=by
 refine⟨w'.drawn-w.drawn,w'.heap.extract w.heap.size w'.heap.size,?_⟩;have e1:w.heap++w'.heap.extract w.heap.size w'.heap.size=w'.heap:=by
  apply Array.ext_getElem?;intro i;rw[Array.getElem?_append];split
  · rename_i hi
    exact (Below.block h.ext i hi).symm
  · rename_i hi
    rw[Array.getElem?_extract];have:=h.ext.size;split
    · congr 1;omega
    · rw[mb (by omega)]
 have e2:w.drawn+(w'.drawn-w.drawn)=w'.drawn:=by have:=h.dr;omega
 have h1:=h.ext.os;have h2:=h.ext.tape;have h3:=h.ext.output;cases w;cases w';simp only[Sort.grow,World.drewN] at *
 subst h1 h2 h3;rw[e1,e2]
structure gS(w0 w:aj)(is:List It):Prop where
 ext:GX w0 w
 mem:Mem w0 w is
def sZ(P:br)(f:FuncId)(args:List ai)(v:ai):Prop:=∀w,Entr P f∧Calls P f args.toArray w fun e w'=>∃u,e=.returned u∧GX w w'∧u=v
theorem sZ.pure{P:br}{f:FuncId}{args:List ai}{v:ai}(h:sZ P f args v):dT P f args v:=fun w=>⟨(h w).1,(h w).2.mono fun _ _ ⟨u,he,hX,hv⟩=>⟨u,he,hX.ext,hv⟩⟩
section
variable {w0 w w':aj} {is:List It}
theorem gS.refl(w:aj):gS w w []:=⟨⟨fQ.refl w,aq _⟩,Mem.refl w⟩
theorem gS.go(m:gS w0 w is){js:List It}(h:Mem w0 w' js)(d:w.drawn≤w'.drawn):gS w0 w' js:=⟨⟨h.ext,ba m.ext.dr d⟩,h⟩
theorem gS.ext' (m:gS w0 w is)(e:GX w w'):gS w0 w' is:=m.go (m.mem.ext' e.ext) e.dr
theorem gS.b(m:gS w0 w is)(k:Nat){g:Nat}{cs:List ai}(hk:is[k]? = some (bI g cs t)):fR w g cs t:=m.mem.b k hk
end
section
variable {P:br} {ds:List dz} {l:List ai} {x y:bw} {T ty:az}
variable {ops:Array Oper} {Q:Exit→Act→aj→Prop} {rest:List Oper} {d:Nat} {pos:String} {after:Array Edge} {w w0:aj} {is:List It} {v:ai}
theorem asu{cs:List ai}(m:gS w0 w is)(hv:(ev l x).cells=cs.toArray)(h:∀g u,gS w0 u (bI g cs T::is)→ar P ops Q rest (Fr (l.set d (.pointer (some ⟨g,0,none⟩))) ds) u) :
 ar P ops Q (bu (some d) (.box T x) ty pos after none::rest) (Fr l ds) w :=
 mM (w':=w.alloc (.cells cs.toArray T)) (v:=.pointer (some ⟨w.heap.size,0,none⟩)) (fun o ho _=>by simp[dm,ho,cD,Instr.box,newVar,newRow,hv,newObj,Sem.run]) (h _ _ (m.go (m.mem.newB ((fQ.refl w).alloc _) (aq _) (jH w cs T)) (aq _)))
theorem oS{cs:List ai}(m:gS w0 w is)(hv:ev l x=.agg cs.toArray)(h:∀g u,gS w0 u (bI g cs T::is)→ar P ops Q rest (Fr (l.set d (.pointer (some ⟨g,0,none⟩))) ds) u) :
 ar P ops Q (bu (some d) (.box T x) ty pos after none::rest) (Fr l ds) w:=asu m (by rw[hv];rfl) h
theorem amy{cs:List ai}{z:ai}(m:gS w0 w is)(hZ:oD P T z)(hv:z.cells=cs.toArray)(h:∀g u,gS w0 u (bI g cs T::is)→ar P ops Q rest (Fr (l.set d (.pointer (some ⟨g,0,none⟩))) ds) u) :
 ar P ops Q (bu (some d) (.alloc T) ty pos after none::rest) (Fr l ds) w:=by
 obtain⟨inf,hi,hz⟩:=hZ;exact mM (w':=w.alloc (.cells cs.toArray T)) (v:=.pointer (some ⟨w.heap.size,0,none⟩)) (fun o ho _=>by simp[dm,ho,Instr.alloc,zeroValue,typeInfo,hi,hz,newVar,newRow,hv,newObj,Sem.run]) (h _ _ (m.go (m.mem.newB ((fQ.refl w).alloc _) (aq _) (jH w cs T)) (aq _)))
theorem amz{g off:Nat}{cs us:List ai}{t:az}(m:gS w0 w is)(k:Nat)(hk:is[k]? = some (bI g cs t))(hx:ev l x=.pointer (some ⟨g,off,none⟩))(hv:(ev l y).cells=us.toArray)(hc:dO P T us.length)(hfit:off+us.length≤cs.length)(h1:(us.all (·.oneCell'))=true)
 (h:∀u,gS w0 u (is.set k (bI g (over cs off us) t))→ar P ops Q rest (Fr l ds) u):ar P ops Q (bu none (.store T x y) ty pos after none::rest) (Fr l ds) w:=by
 have hB:=m.b k hk;have hC:=Qg w g (over cs off us).toArray;exact Hp (w':=w.setRow g (over cs off us).toArray) (fun o ho=>by simp[dm,ho,cD,hx,Instr.storeAt,Instr.sureAddr,Hq hc hv hB hfit (gB h1)])
  (h _ (m.go (m.mem.put k hk hC.os hC.tape hC.output (by rw[hC.size];exact aq _) (fun b _ hne=>hC.block b fun e=>hne (by rw[e];rfl)) (setRow_heap w g cs.toArray _ t _ hB) (.inl fun _ h=>h)) (aq _)))
theorem aio{g off:Nat}{cs us:List ai}{t:az}(m:gS w0 w is)(k:Nat)(hk:is[k]? = some (bI g cs t))(hx:ev l x=.pointer (some ⟨g,off,none⟩))(hv:ev l y=.agg us.toArray)(hc:dO P T us.length)(hfit:off+us.length≤cs.length)(h1:(us.all (·.oneCell'))=true)
 (h:∀u,gS w0 u (is.set k (bI g (over cs off us) t))→ar P ops Q rest (Fr l ds) u):ar P ops Q (bu none (.store T x y) ty pos after none::rest) (Fr l ds) w:=amz m k hk hx (by rw[hv];rfl) hc hfit h1 h
theorem Pb{f:FuncId}{fo:bw}{xs:Array bw}{args:List ai}{first cap:Array ai}{a0:Array az}(m:gS w0 w is)(hf:ev l fo=.func (.func f) first cap)(hxs:first.toList++xs.toList.map (ev l)++cap.toList=args)(hc:sZ P f args v)
 (h:∀u,gS w0 u is→ar P ops Q rest (Fr (l.set d v) ds) u):ar P ops Q (bu (some d) (.call { callee:=.value fo,args:=xs,argTypes:=a0 }) ty pos after none::rest) (Fr l ds) w:=by
 refine wpList_plain O fun K hK=>?_;unfold mr;rw[kJ,pM (hc w).1 hf hxs _ rfl];refine (hc w).2.mono ?_;rintro e w' ⟨u,rfl,hE,rfl⟩;show K ((Fr l ds).put (some d) u) w'
 rw[gL];exact hK _ _ (h w' (m.ext' hE))
theorem gS.drew(m:gS w0 w is):gS w0 { w with drawn:=w.drawn+1 } is:=m.ext' ⟨(fQ.refl w).drawn,Nat.le_succ _⟩
theorem Qy{id:Nat}{a:Act}{l:List Oper}(m:gS w0 w is)(n:Nat)(hm:P.follows .mixedOrders=true)(hB:Region.lexTailB .any l.toArray n=true)
 (h:cw P l.toArray (fun u=>gS w0 u is) (fun a'=>∀u,gS w0 u is→ar P l.toArray Q (l.drop n) a' u) (l.take n) a):(Code.region id l.toArray true).wp P Q a w :=
 rP (C:=fun u=>gS w0 u is) n hm hB m.drew h
theorem Gmq{id:Nat}{a:Act}{l:List Oper}(m:gS w0 w is)(hm:P.follows .mixedOrders=true)(hB:Region.lexB .any l.toArray=true)
 (h:cw P l.toArray (fun u=>gS w0 u is) (fun a'=>∀u,gS w0 u is→Q .normal a' u) l a):(Code.region id l.toArray true).wp P Q a w :=
 wp_region_quiet (C:=fun u=>gS w0 u is) hm hB m.drew (by simpa using h)
end
section
variable {P:br} {w0:aj} {is:List It} {l:List ai} {x y:bw} {T ty:az}
variable {ops:Array Oper} {Q:Act→Prop} {rest:List Oper} {d:Nat} {pos:String} {after:Array Edge} {v:ai} {ds:List dz}
theorem Ur(hx:ev l x=.pointer (some a))(hv:∀u,gS w0 u is→fZ P u T a v)(h:cw P ops (fun u=>gS w0 u is) Q rest (Fr (l.set d v) ds)):cw P ops (fun u=>gS w0 u is) Q (bu (some d) (.load T x) ty pos after none::rest) (Fr l ds) :=
 kN (fun u m=>aZ hx (hv u m)) h
theorem Ia{f:FuncId}{fo:bw}{xs:Array bw}{args:List ai}{first cap:Array ai}{a0:Array az}(hf:ev l fo=.func (.func f) first cap)(hxs:first.toList++xs.toList.map (ev l)++cap.toList=args)(hc:sZ P f args v)
 (h:cw P ops (fun u=>gS w0 u is) Q rest (Fr (l.set d v) ds)):cw P ops (fun u=>gS w0 u is) Q (bu (some d) (.call { callee:=.value fo,args:=xs,argTypes:=a0 }) ty pos after none::rest) (Fr l ds):=by
 refine wpQuiet_step fun K hK=>?_;rw[if_pos (by simp[Region.wanted])];refine⟨v,fun w' hw=>?_,?_⟩
 · unfold ma
   rw[kJ,pM (hc w').1 hf hxs _ rfl];refine⟨O,(hc w').2.mono ?_⟩;rintro e w'' ⟨u,rfl,hE,rfl⟩;exact⟨O,hw.ext' hE⟩
 · show K ((Fr l ds).put (some d) v)
   rw[gL];exact hK _ h
end
def P3.Lt(p q:P3):Prop:=p.x<q.x∨p.x=q.x∧(p.y<q.y∨p.y=q.y∧p.z<q.z)
variable{q:P3}
instance (p q:P3):Decidable (p.Lt q):=by unfold P3.Lt;infer_instance
def qO(p q:P3):Int:=if p.Lt q then -1 else if q.Lt p then 1 else 0
theorem P3.eq{p:P3}(h1:p.x=q.x)(h2:p.y=q.y)(h3:p.z=q.z):p=q:=by
 cases p;cases q;simp_all
instance:DecidableEq P3:=fun p q=>if h:p.x=q.x∧p.y=q.y∧p.z=q.z then isTrue (P3.eq h.1 h.2.1 h.2.2) else isFalse fun e=>h (by subst e;exact⟨rfl,rfl,rfl⟩)
theorem P3.lt_irrefl(p:P3):¬p.Lt p:=by unfold P3.Lt;omega
theorem P3.lt_trans{p r:P3}(h:p.Lt q)(k:q.Lt r):p.Lt r:=by unfold P3.Lt at *;omega
theorem P3.lt_tri(p q:P3):p.Lt q∨p=q∨q.Lt p:=by
 by_cases h1:p.x=q.x
 · by_cases h2:p.y=q.y
   · by_cases h3:p.z=q.z
     · exact .inr (.inl (P3.eq h1 h2 h3))
     · unfold P3.Lt;omega
   · unfold P3.Lt;omega
 · unfold P3.Lt;omega
theorem P3.lt_x{p:P3}(h:¬p.x=q.x):p.Lt q↔p.x<q.x:=by unfold P3.Lt;omega
theorem P3.lt_y{p:P3}(h:p.x=q.x)(h2:¬p.y=q.y):p.Lt q↔p.y<q.y:=by unfold P3.Lt;omega
theorem P3.lt_z{p:P3}(h:p.x=q.x)(h2:p.y=q.y):p.Lt q↔p.z<q.z:=by unfold P3.Lt;omega
end Go.Lith
