/-
 Texts of one claim, laid together: Ext, Ops, Nat, Nat2, Ops2, Nat3, Upd, Nat4, Nat5, Nat6, Held, Eq, Nat7, Nat8, Ops3, Nat9, Nat10, Nat11, Nat12, Geo, Tree, Fresh, Fresh2, Ops4, Geo2, Geo3, Geo4, Geo5, Own, Al, Mem, Grow, Pts.
-/
import Derived.WalkKit
import Derived.StillTail
import Derived.Deep.Quiet
import Derived.BigQuiet
import Derived.Laws.Rows
import Derived.Laws.IdiomCopy
import Derived.Laws.CopyRow
import Derived.OrdersHeld
import Derived.Laws.StructEq
import Derived.ChangeKeysEq
import Derived.Laws.IdiomStrings
import Derived.Laws.BytesArg
import Derived.RangeFuncBox
import Derived.RangeFuncLeaves
import Derived.LoopN
import Derived.Sort.Grow
import Derived.Deep.Draws
open Go renaming Value→ac,World→ah,TypeId→aj,wpList→ao,Operand→a_,Program→bc,run_underlying→bu,wpQuiet→bz,Deferred→cg,execOp→ck
open Int renaming toNat_natCast→ag,fdiv_eq_ediv_of_nonneg→fx,natCast_mul→lh,not_lt→ny
open List renaming mem_cons→ak,getElem?_eq_getElem→an,getElem?_eq_some_iff→ar,length_cons→au,length_append→aw,mem_of_getElem?→ba,take_of_length_le→be,pairwise_cons→bj,mem_cons_of_mem→bm,map_cons→bn,mem_cons_self→bp,length_take→br,nil_append→bv,cons_append→b_,getElem?_append_left→cn,append_assoc→cq,getElem?_drop→cu,flatMap_cons→cw,replicate→de,getElem?_take→dg,getElem?_append_right→dh,toList_toArray→dt,any_eq_true→dx,getElem?_eq_none→ee,eq_nil_of_length_eq_zero→eh,length_drop→ej,set_cons_succ→eu,all_eq_true→ew,append_nil→e_,ext_getElem?→fa,mem_map_of_mem→fe,size_toArray→fh,drop_eq_getElem_cons→fk,drop_of_length_le→fq,take_length→fy,nodup_cons→gm,filter_cons→gn,mem_or_eq_of_mem_set→gz,getElem_mem→ic,map_congr_left→ij,foldl_cons→ik,range→ip,getElem?_toArray→jd,pairwise_iff_getElem→jf,take_zero→ju,take_append_drop→kh,mem_range→kz,drop_zero→mj,nil_sublist→m_
open Nat renaming le_refl→ap,zero_add→aq,le_trans→az,zero_le→cd,lt_or_ge→eo,lt_of_lt_of_le→fi,add_sub_cancel→ft,min_eq_left→gl,eq_zero_or_pos→io,pow_le_pow_right→iu,add_mul→iv,pow_succ→jg,mul_le_mul_left→jp,mul_one→jy,mod_lt→ku,mul_le_mul_right→ky,mod_eq_of_lt→lv,mul_add→lz,lt_of_le_of_lt→mf,pow_add→mo,pow_mul→nj
open Bool renaming and_eq_true→bh,not_eq_true'→fm,false_or→jk
open Go.Oper renaming mk→bi,quietAt→j_,wp→kj,upon→lj
open Option renaming getD_some→cv,isSome_iff_exists→df,map_some→d_,some→jz
open Array renaming getElem?_eq_some_iff→da,replicate→fc,getElem?_eq_getElem→fl,getElem?_eq_none→ka,getD_eq_getD_getElem?→km,setIfInBounds_comm→lg,range→mp,ext'→nf,map→nt,ext→nu
open BitVec renaming ofInt→db,toNat_ofInt→mg
open Prod.mk renaming injEq→ff
open Option.some renaming injEq→fp
open UInt8 renaming toNat→iz,ofNat→kx,toNat_ofNat'→mi
open List.cons renaming injEq→ke
open Go.IntKind renaming signed→kn,wrap→ln,bits→lo
set_option linter.unusedSimpArgs false
set_option linter.unusedVariables false
set_option linter.unusedSectionVars false
namespace Go.Lith
open Go.RowKit
def eW(w w':ah):Prop:=Below w.heap.size w w'
theorem eW.refl(w:ah):eW w w:=Below.refl _ _
theorem eW.size{w w':ah}(h:eW w w'):w.heap.size≤w'.heap.size:=Below.size h
theorem eW.trans{a b c:ah}(h:eW a b)(k:eW b c):eW a c:=Below.trans h (Below.mono k h.size)
theorem eW.drawn{w w':ah}(h:eW w w'):eW w { w' with drawn:=w'.drawn+1 }:=Below.drew h
theorem eW.alloc{w w':ah}(h:eW w w')(o:Obj):eW w (w'.alloc o):=Below.alloc h h.size o
theorem eW.block{w w':ah}(h:eW w w'){k:Nat}{o:Obj}(hk:w.heap[k]? = some o):w'.heap[k]? = some o :=
 (Below.block h k (da.1 hk).1).trans hk
theorem eW.cell{w w':ah}(h:eW w w'){p:Addr}{v:ac}(hp:w.cell? p=some v):w'.cell? p=some v :=
 (Below.cell h (World.block_lt_of_cell? _ _ hp)).trans hp
section
variable {P:bc} {ops:Array Oper} {md:Region.Mode} {C:ah→Prop}
def Eb(P:bc)(md:Region.Mode)(ops:Array Oper)(C:ah→Prop)(n:Nat)(L:Array Bool→Act→Prop):Nat→Array Bool→Act→Prop
 | 0,listed,a=>L listed a
 | f+1,listed,a =>
  Region.ready md ops listed≠[]∧∀i∈Region.ready md ops listed,i<n∧qOp P ops C i (Eb P md ops C n L f (listed.setIfInBounds i true)) a
theorem qX{n g:Nat}{L:Array Bool→Act→Prop}{Q':Exit→Act→ah→Prop}(hL:∀listed a,L listed a→∀w,C w→wpAny P md ops Q' g listed a w) :
 ∀(f:Nat) (listed:Array Bool) (a:Act) (w:ah),C w→Eb P md ops C n L f listed a→wpAny P md ops Q' (f+g) listed a w
 | 0,listed,a,w,hw,h=>by rw[aq];exact hL _ _ h w hw
 | f+1,listed,a,w,hw,h=>by
  rw[show f+1+g=(f+g)+1 by omega];exact⟨fun h0=>absurd h0 h.1,fun i hi=>wpOp_of_qOp hw (fun a' w' hw' h'=>qX hL f _ a' w' hw' h') (h.2 i hi).2⟩
theorem Ps{n i:Nat}{oi:Oper}{v:ac}{L:Array Bool→Act→Prop}(hi:ops[i]? = some oi)(hsel:∀(j:Nat) (o:Oper) cs b,ops[j]? = some o→o.op≠.select cs b)
 (hs:Region.sinkB md ops n=true) (hc:Region.chainB md ops n=true) (hn:n<ops.size) (hin:i<n)
 (hdone:∀listed a,L listed a→∀j∈Region.ready md ops listed,n≤j) :
 ∀(f:Nat) (listed:Array Bool) (a:Act),HeadInv md ops n listed →
  (∀j oj,ops[j]? = some oj→j≠i→listed.getD j true=false→(∀e∈oj.after,Region.binds md e=true→e.on≠i)→oi.apart ops oj=true) →
  i∈Region.ready md ops listed→YieldsIn P ops C oi v a →
  Eb P md ops C n L f (listed.setIfInBounds i true) (a.put oi.dst v)→Eb P md ops C n L (f+1) listed a:=by
 intro f
 induction f with
 | zero =>
  intro listed a inv _ hr hy H;have hun:=(mem_ready.1 hr).1;refine⟨fun h=>(by rw[h] at hr;cases hr),fun j hj=>?_⟩;have hjn:j<n:=by
   rcases eo j n with h | h
   · exact h
   · exact absurd hj (tail_waits hs hc hn inv _ i rfl hin hun j h)
  refine⟨hjn,?_⟩;by_cases hji:j=i
  · subst hji;exact hy.qOp hi H
  · have:=hdone _ _ H j (ready_mono hj hji)
    omega
 | succ f ih =>
  intro listed a inv hfree hr hy H;have hun:=(mem_ready.1 hr).1;refine⟨fun h=>(by rw[h] at hr;cases hr),fun j hj=>?_⟩;have hjn:j<n:=by
   rcases eo j n with h | h
   · exact h
   · exact absurd hj (tail_waits hs hc hn inv _ i rfl hin hun j h)
  refine⟨hjn,?_⟩;by_cases hji:j=i
  · subst hji;exact hy.qOp hi H
  · have h1:=(H.2 j (ready_mono hj hji)).2
    obtain⟨hjun,oj,hoj,hall⟩:=mem_ready.1 hj;have hnot:∀e∈oj.after,Region.binds md e=true→e.on≠i:=fun e he hb heq=>by
     have h1:=hall e he hb;rw[heq,getD_both hun] at h1;cases h1
    have h2:=qOp_put hoj (hfree j oj hoj hji hjun hnot) (fun cs b=>hsel i oi cs b hi) (fun cs b=>hsel j oj cs b hoj) hy h1;have hfree':∀k ok,ops[k]? = some ok→k≠i→(listed.setIfInBounds j true).getD k true=false →
     (∀e∈ok.after,Region.binds md e=true→e.on≠i)→oi.apart ops ok=true:=fun k ok hk hki hun hno=>by
     refine hfree k ok hk hki ?_ hno;by_cases hjk:j=k
     · subst hjk;exact hjun
     · rw[getD_set_ne true hjk] at hun;exact hun
    refine qOp_mono (fun a' h3=>ih (listed.setIfInBounds j true) a' (inv.set hj hjn) hfree' (ready_mono hr (Ne.symm hji)) h3.1 ?_) h2;rw[lg _ _ hji];exact h3.2
theorem tZ{n g:Nat}{Lq:Act→Prop}(hsel:Region.noSelect ops=true)(hs:Region.sinkB md ops n=true)(hc:Region.chainB md ops n=true)(hn:n<ops.size) :
 ∀(l:List Oper) (k:Nat) (listed:Array Bool) (a:Act),(∀j,j<l.length→l[j]? = ops[k+j]?)→k+l.length=n→HeadInv md ops n listed →
 Region.lexHead md ops g l.length k listed=true→bz P ops C Lq l a →
 Eb P md ops C n (fun listed' a'=>Region.seqB md ops g n listed'=true∧Lq a') l.length listed a
 | [],k,listed,a,_,hk,_,hB,h=>by
  have:k=n:=by simpa using hk
  subst this;exact⟨by simpa[Region.lexHead] using hB,h⟩
 | o::l,k,listed,a,hl,hk,inv,hB,h=>by
  have h0:ops[k]? = some o:=by simpa using (hl 0 (by simp)).symm
  simp only[au,Region.lexHead,bh] at hB;obtain⟨⟨hr,hf⟩,hB'⟩:=hB;have hkn:k<n:=by simp only[au] at hk;omega
  have hr':k∈Region.ready md ops listed:=by simpa using hr
  have hst:qOp P ops C k (bz P ops C Lq l) a:=by unfold qOp;simp only[h0];exact h
  obtain⟨v,hy,hK⟩:=yieldsIn_of_qOp h0 hst;exact Ps h0 (Region.noSelect_spec hsel) hs hc hn hkn (fun listed' a' hL=>seqB_ready hL.1) l.length listed a inv (Region.free_spec h0 hf) hr' hy
   (tZ hsel hs hc hn l (k+1) _ _ (fun j hj=>by have:=hl (j+1) (by simp;omega);simpa[Nat.add_assoc,Nat.add_comm 1 j] using this) (by simp only[au] at hk;omega) (inv.set hr' hkn) hB' hK)
theorem oR{id:Nat}{Q:Exit→Act→ah→Prop}{a:Act}{w:ah}{l:List Oper}(n:Nat)(hm:P.follows .mixedOrders=true)(hB:Region.lexTailB .any l.toArray n=true)
 (hC:C { w with drawn:=w.drawn+1 })
 (h:bz P l.toArray C (fun a'=>∀w',C w'→ao P l.toArray Q (l.drop n) a' w') (l.take n) a):(Code.region id l.toArray true).wp P Q a w:=by
 simp only[Region.lexTailB,bh,decide_eq_true_eq] at hB;obtain⟨⟨⟨⟨hsel,hn⟩,hs⟩,hc⟩,hlex⟩:=hB;have hn':n<l.length:=by simpa using hn
 have htl:(l.take n).length=n:=by simp;omega
 have hdl:(l.drop n).length=l.toArray.size-n:=by simp
 have inv0:HeadInv .any l.toArray n (fc l.toArray.size false) :=
  ⟨by simp,fun j oj _ hl=>(by rw[getD_replicate_false] at hl;cases hl),fun t _ ht=>getD_in (by simpa using ht) (getD_replicate_false _ _)⟩
 have H:=tZ (md:=.any) (g:=l.toArray.size-n) hsel hs hc hn (l.take n) 0 _ a (fun j hj=>by
  have hj':j<n:=by rw[htl] at hj;exact hj
  simp[hj']) (by simpa using htl) inv0 (by rw[htl];exact hlex) h
 refine wp_region_any hm ?_;have:=qX (Q':=Q) (g:=l.toArray.size-n) (fun listed a' hL w' hw'=>by
  have:=wpAny_of_seq (md:=.any) (Q':=Q) (l.drop n) n listed a' w' (fun j=>by simp[cu]) (by rw[hdl];exact hL.1) (hL.2 w' hw');rwa [hdl] at this) _ _ _ _ hC H
 rw[htl,show n+(l.toArray.size-n)=l.toArray.size by omega] at this;exact this
def Pt(md:Region.Mode)(ops:Array Oper):List (Nat × Bool)→Array Bool→Bool
 | [],listed=>(Region.ready md ops listed).isEmpty
 | (i,true)::r,listed=>(ops[i]?).isSome&&Region.free md ops listed i&&(Region.ready md ops listed).contains i&&Pt md ops r (listed.setIfInBounds i true)
 | (i,false)::r,listed=>(ops[i]?).isSome&&decide (Region.ready md ops listed=[i])&&Pt md ops r (listed.setIfInBounds i true)
def eZ(P:bc)(ops:Array Oper)(Q:Exit→Act→ah→Prop):List (Oper × Bool)→Act→ah→Prop
 | [],a,w=>Q .normal a w
 | (o,true)::r,a,w=>∃v,Yields P ops o v a∧eZ P ops Q r (a.put o.dst v) w
 | (o,false)::r,a,w=>ao P ops (Exit.then (eZ P ops Q r) Q) [o] a w
end
abbrev Fr(l:List ac)(ds:List cg:=[]):Act:={ tmps:=l.toArray,defers:=ds }
def fA(w:ah)(g:Nat)(cs:List ac)(t:aj):Prop:=w.heap[g]? = some (.cells cs.toArray t (0,0))
structure Chg(w w':ah)(g:Nat):Prop where
 os:w'.os=w.os
 tape:w'.tape=w.tape
 output:w'.output=w.output
 size:w'.heap.size=w.heap.size
 block:∀k,k≠g→w'.heap[k]? = w.heap[k]?
def nV(w:ah)(a:Addr)(cs:List ac):Prop:=∀j u,cs[j]? = some u→w.cell? (a.add j)=some u
theorem fA.lt{w:ah}{g:Nat}{cs:List ac}{t:aj}(h:fA w g cs t):g<w.heap.size:=(da.1 h).1
theorem fA.ext{w w':ah}{g:Nat}{cs:List ac}{t:aj}(h:fA w g cs t)(hE:eW w w'):fA w' g cs t:=hE.block h
theorem fA.chg{w w':ah}{g g':Nat}{cs:List ac}{t:aj}(h:fA w g cs t)(hC:Chg w w' g')(hne:g≠g'):fA w' g cs t:=(hC.block g hne).trans h
theorem eW.chg{w0 w w':ah}{g:Nat}(h:eW w0 w)(hC:Chg w w' g)(hg:w0.heap.size≤g):eW w0 w' :=
 ⟨hC.os.trans h.os,hC.tape.trans h.tape,hC.output.trans h.output,by rw[hC.size];exact h.size,fun k hk=>(hC.block k (by omega)).trans (Below.block h k hk)⟩
theorem nV.ext{w w':ah}{a:Addr}{cs:List ac}(h:nV w a cs)(hE:eW w w'):nV w' a cs:=fun j u hj=>hE.cell (h j u hj)
theorem dT(g off j:Nat):(⟨g,off,none⟩:Addr).add j=⟨g,off+j,none⟩:=by unfold Addr.add;split <;> simp_all
theorem iD(a:Addr)(i j:Nat):(a.add i).add j=a.add (i+j):=by
 unfold Addr.add;by_cases hi:i=0 <;> by_cases hj:j=0 <;> simp[hi,hj,Nat.add_assoc]
theorem fA.row{w:ah}{g:Nat}{cs:List ac}{t:aj}(h:fA w g cs t)(off:Nat):nV w ⟨g,off,none⟩ (cs.drop off):=by
 intro j u hj;rw[dT,cell_of_row w g (off+j) cs.toArray t (0,0) h];simpa[cu] using hj
theorem nV.sub{w:ah}{a:Addr}{cs:List ac}(h:nV w a cs)(i:Nat):nV w (a.add i) (cs.drop i):=by
 intro j u hj;rw[iD];exact h (i+j) u (by simpa[cu] using hj)
theorem nV.take{w:ah}{a:Addr}{cs:List ac}(h:nV w a cs)(n:Nat):nV w a (cs.take n):=by
 intro j u hj;refine h j u ?_;rw[dg] at hj;split at hj
 · exact hj
 · cases hj
section
variable {P:bc} {ds:List cg} {l:List ac}
theorem ai3(t:Nat):(Fr l).eval (.tmp t)=l.getD t undef:=by
 show l.toArray.getD t undef=_
 simp[Array.getD,List.getD];split <;> simp_all
theorem iY{ds:List cg}:(Fr l ds).eval=(Fr l).eval:=rfl
theorem gE{ds:List cg}(d:Nat)(v:ac):(Fr l ds).put (some d) v=Fr (l.set d v) ds:=by simp[Act.put,Fr]
def cS(P:bc)(T:aj)(n:Nat):Prop:=∃inf,P.info? T=some inf∧inf.size=n
def mC(P:bc)(T:aj)(z:ac):Prop:=∃inf,P.info? T=some inf∧inf.zero=some z
def xV:TypeDesc→Bool
 | .struct _ | .array _ _=>true
 | _=>false
def dV(P:bc)(T:aj)(b:Bool):Prop:=∃dd,P.underlying T=some dd∧xV dd=b
theorem dD{T:aj}{n:Nat}(h:(P.info? T).map (·.size)=some n):cS P T n:=by
 cases hi:P.info? T with
 | none=>rw[hi] at h;cases h
 | some i=>rw[hi] at h;exact⟨i,hi,by simpa using h⟩
theorem jO{T:aj}{z:ac}(h:(P.info? T).bind (·.zero)=some z):mC P T z:=by
 cases hi:P.info? T with
 | none=>rw[hi] at h;cases h
 | some i=>rw[hi] at h;exact⟨i,hi,by simpa using h⟩
theorem cT{T:aj}{b:Bool}(dd:TypeDesc)(h:P.underlying T=some dd)(hb:xV dd=b):dV P T b:=⟨dd,h,hb⟩
def ev(l:List ac):a_→ac
 | .tmp t=>l.getD t undef
 | .const v=>v
 | .global g=>.pointer (some ⟨g,0,none⟩)
 | .func f=>.func (.func f) #[] #[]
theorem vT(t:Nat):ev l (.tmp t)=l.getD t undef:=rfl
theorem oS(v:ac):ev l (.const v)=v:=rfl
theorem rZ(f:Nat):ev l (.func f)=.func (.func f) #[] #[]:=rfl
theorem bS(x:a_):(Fr l).eval x=ev l x:=by
 cases x with
 | tmp t=>exact ai3 t
 | const=>rfl
 | global=>rfl
 | func=>rfl
def vL(P:bc)(l:List ac)(op:Op)(ty:aj)(v:ac)(w:ah):Prop :=
 ∀o:Oper,o.op=op→o.type=ty→(ck (Fr l).eval o).run P w=.ok (.value v) w
def gI(P:bc)(l:List ac)(op:Op)(ty:aj)(v:ac):Prop:=∀w,vL P l op ty v w
section
variable {ops:Array Oper} {Q:Exit→Act→ah→Prop} {w:ah} {rest:List Oper} {d:Nat} {op:Op} {ty:aj} {pos:String} {after:Array Edge} {v:ac}
theorem eQ(hr:vL P l op ty v w)(h:ao P ops Q rest (Fr (l.set d v) ds) w):ao P ops Q (bi (some d) op ty pos after none::rest) (Fr l ds) w:=by
 refine wpList_plain rfl fun K hK=>?_;unfold kj;rw[iY,hr _ rfl rfl];show K ((Fr l ds).put (some d) v) w
 rw[gE];exact hK _ _ h
theorem aB(hr:gI P l op ty v)(h:ao P ops Q rest (Fr (l.set d v) ds) w):ao P ops Q (bi (some d) op ty pos after none::rest) (Fr l ds) w:=eQ (hr w) h
theorem aL(h:Q .normal (Fr l ds) w):ao P ops Q [] (Fr l ds) w:=h
theorem eD{j:Nat}{b:Bool}(hw:yielded ops l.toArray j=some b)(h:ao P ops Q (bi (some d) op ty pos after none::rest) (Fr l ds) w):ao P ops Q (bi (some d) op ty pos after (some (j,b))::rest) (Fr l ds) w:=by
 unfold ao at h ⊢;rw[if_pos (by simp[Region.wanted])] at h;rw[if_pos (by simp[Region.wanted,hw])];exact h
theorem ac4{j:Nat}{b c:Bool}(hw:yielded ops l.toArray j=some c)(hbc:(c == b)=false)(h:ao P ops Q rest (Fr (l.set d undef) ds) w):ao P ops Q (bi (some d) op ty pos after (some (j,b))::rest) (Fr l ds) w:=by
 unfold ao;rw[if_neg (by simp[Region.wanted,hw];simpa using hbc)];show ao P ops Q rest ((Fr l ds).put (some d) undef) w
 rw[gE];exact h
theorem oK{j:Nat}(hw:yielded ops l.toArray j=some false)(h:ao P ops Q rest (Fr (l.set d undef) ds) w):ao P ops Q (bi (some d) op ty pos after (some (j,true))::rest) (Fr l ds) w:=ac4 hw rfl h
theorem aas{j:Nat}(hw:yielded ops l.toArray j=some true)(h:ao P ops Q rest (Fr (l.set d undef) ds) w):ao P ops Q (bi (some d) op ty pos after (some (j,false))::rest) (Fr l ds) w:=ac4 hw rfl h
end
section
variable {ops:Array Oper} {Q:Act→Prop} {C:ah→Prop} {rest:List Oper} {d:Nat} {op:Op} {ty:aj} {pos:String} {after:Array Edge} {v:ac}
theorem jC(hr:∀w,C w→vL P l op ty v w)(h:bz P ops C Q rest (Fr (l.set d v) ds)):bz P ops C Q (bi (some d) op ty pos after none::rest) (Fr l ds):=by
 refine wpQuiet_step fun K hK=>?_;rw[if_pos (by simp[Region.wanted])];refine⟨v,fun w hw=>?_,?_⟩
 · unfold j_
   rw[iY,hr w hw _ rfl rfl];exact⟨rfl,rfl⟩
 · show K ((Fr l ds).put (some d) v)
   rw[gE];exact hK _ h
theorem aH(hr:gI P l op ty v)(h:bz P ops C Q rest (Fr (l.set d v) ds)):bz P ops C Q (bi (some d) op ty pos after none::rest) (Fr l ds):=jC (fun w _=>hr w) h
theorem aY(h:Q (Fr l ds)):bz P ops C Q [] (Fr l ds):=h
theorem cH{j:Nat}{b:Bool}(hw:yielded ops l.toArray j=some b)(h:bz P ops C Q (bi (some d) op ty pos after none::rest) (Fr l ds)):bz P ops C Q (bi (some d) op ty pos after (some (j,b))::rest) (Fr l ds):=by
 unfold bz at h ⊢;rw[if_pos (by simp[Region.wanted])] at h;rw[if_pos (by simp[Region.wanted,hw])];exact h
theorem ac5{j:Nat}{b c:Bool}(hw:yielded ops l.toArray j=some c)(hbc:(c == b)=false)(h:bz P ops C Q rest (Fr (l.set d undef) ds)):bz P ops C Q (bi (some d) op ty pos after (some (j,b))::rest) (Fr l ds):=by
 unfold bz;rw[if_neg (by simp[Region.wanted,hw];simpa using hbc)];show bz P ops C Q rest ((Fr l ds).put (some d) undef)
 rw[gE];exact h
theorem mZ{j:Nat}(hw:yielded ops l.toArray j=some false)(h:bz P ops C Q rest (Fr (l.set d undef) ds)):bz P ops C Q (bi (some d) op ty pos after (some (j,true))::rest) (Fr l ds):=ac5 hw rfl h
theorem Cb{j:Nat}(hw:yielded ops l.toArray j=some true)(h:bz P ops C Q rest (Fr (l.set d undef) ds)):bz P ops C Q (bi (some d) op ty pos after (some (j,false))::rest) (Fr l ds):=ac5 hw rfl h
end
/-! ### Values -/
section
variable {x y:a_} {T T' ty:aj} {k:IntKind} {m n r:Int}
theorem aI:gI P l (.move x) ty (ev l x):=fun w o ho _=>by simp[ck,ho,bS]
theorem aM:gI P l (.assign x) ty (ev l x):=fun w o ho _=>by simp[ck,ho,bS]
theorem Pu{c:a_}{b:Bool}(hc:ev l c=.bool b):gI P l (.pick c x y) ty (if b then ev l x else ev l y):=fun w o ho _=>by
 simp[ck,ho,bS,hc,asBool]
theorem eL(hx:ev l x=.int k m)(hy:ev l y=.int k n)(hr:k.wrap (m+n)=r):gI P l (.binOp .add T x y T') ty (.int k r):=fun w o ho _=>by
 simp[ck,ho,bS,hx,hy,eqGuard,binOp,Op.intArith,hr]
theorem Cc(hx:ev l x=.int k m)(hy:ev l y=.int k n)(hr:k.wrap (m-n)=r):gI P l (.binOp .sub T x y T') ty (.int k r):=fun w o ho _=>by
 simp[ck,ho,bS,hx,hy,eqGuard,binOp,Op.intArith,hr]
theorem pN(hx:ev l x=.int k m)(hy:ev l y=.int k n)(hr:k.wrap (m*n)=r):gI P l (.binOp .mul T x y T') ty (.int k r):=fun w o ho _=>by
 simp[ck,ho,bS,hx,hy,eqGuard,binOp,Op.intArith,hr]
theorem zX(hx:ev l x=.int k m)(hy:ev l y=.int k n):gI P l (.binOp .lss T x y T') ty (.bool (decide (m<n))):=fun w o ho _=>by
 simp[ck,ho,bS,hx,hy,eqGuard,binOp,Op.intCmp]
theorem aat(hx:ev l x=.int k m)(hy:ev l y=.int k n):gI P l (.binOp .leq T x y T') ty (.bool (decide (m≤n))):=fun w o ho _=>by
 simp[ck,ho,bS,hx,hy,eqGuard,binOp,Op.intCmp]
theorem ac6(hx:ev l x=.int k m)(hy:ev l y=.int k n):gI P l (.binOp .gtr T x y T') ty (.bool (decide (n<m))):=fun w o ho _=>by
 simp[ck,ho,bS,hx,hy,eqGuard,binOp,Op.intCmp]
theorem amU(hx:ev l x=.int k m)(hy:ev l y=.int k n):gI P l (.binOp .geq T x y T') ty (.bool (decide (n≤m))):=fun w o ho _=>by
 simp[ck,ho,bS,hx,hy,eqGuard,binOp,Op.intCmp]
theorem tC(hx:ev l x=.int k m)(hy:ev l y=.int k n):gI P l (.binOp .eql T x y T') ty (.bool (decide (m=n))):=fun w o ho _=>by
 simp[ck,ho,bS,hx,hy,eqGuard,binOp,Op.intCmp];cases h:(m == n) <;> simp_all
theorem pO(hx:ev l x=.int k m)(hy:ev l y=.int k n):gI P l (.binOp .neq T x y T') ty (.bool (decide (m≠n))):=fun w o ho _=>by
 simp[ck,ho,bS,hx,hy,eqGuard,binOp,Op.intCmp];cases h:(m != n) <;> simp_all
theorem kF(hx:ev l x=.int k m)(hy:ev l y=.int k n)(h0:n≠0)(hr:k.wrap (m.tdiv n)=r):gI P l (.binOp .quo T x y T') ty (.int k r):=fun w o ho _=>by
 simp[ck,ho,bS,hx,hy,eqGuard,binOp,Op.intDiv,h0,hr]
theorem cU(hx:ev l x=.int k m)(hy:ev l y=.int k n)(h0:n≠0)(hr:m.tmod n=r):gI P l (.binOp .rem T x y T') ty (.int k r):=fun w o ho _=>by
 simp[ck,ho,bS,hx,hy,eqGuard,binOp,Op.intDiv,h0,hr]
theorem jY(hx:ev l x=.int k m)(hy:ev l y=.int k n)(hr:k.wrap ((db k.bits m &&& db k.bits n).toNat:Int)=r):gI P l (.binOp .and T x y T') ty (.int k r):=fun w o ho _=>by
 subst hr;simp[ck,ho,bS,hx,hy,eqGuard,binOp,Op.intBits]
theorem ao4(hx:ev l x=.int k m)(hy:ev l y=.int k n)(hr:k.wrap ((db k.bits m ||| db k.bits n).toNat:Int)=r):gI P l (.binOp .or T x y T') ty (.int k r):=fun w o ho _=>by
 subst hr;simp[ck,ho,bS,hx,hy,eqGuard,binOp,Op.intBits]
theorem nZ{k':IntKind}(hx:ev l x=.int k m)(hy:ev l y=.int k' n)(h0:0≤n)(hr:k.wrap (m*2^(min n.toNat k.bits))=r):gI P l (.binOp .shl T x y T') ty (.int k r):=fun w o ho _=>by
 subst hr;simp[ck,ho,bS,hx,hy,eqGuard,binOp,Op.shift,ny.2 h0]
theorem jQ{k':IntKind}(hx:ev l x=.int k m)(hy:ev l y=.int k' n)(h0:0≤n)(hr:m.fdiv (2^(min n.toNat k.bits))=r):gI P l (.binOp .shr T x y T') ty (.int k r):=fun w o ho _=>by
 subst hr;simp[ck,ho,bS,hx,hy,eqGuard,binOp,Op.shift,ny.2 h0]
theorem qY{b:Bool}(hx:ev l x=.bool b):gI P l (.unOp .not T x) ty (.bool (!b)):=fun w o ho _=>by
 simp[ck,ho,bS,hx,Op.unary]
theorem sA(hx:ev l x=.int k m)(hr:k.wrap (0-m)=r):gI P l (.unOp .neg T x) ty (.int k r):=fun w o ho _=>by
 subst hr;simp[ck,ho,bS,hx,Op.unary,Op.intArith]
theorem kS(hd:P.underlying T'=some (.int k)){k':IntKind}{dd:TypeDesc}(hs:P.underlying T=some dd)(hx:ev l x=.int k' m)(hr:k.wrap m=r):gI P l (.convert T T' x) ty (.int k r):=fun w o ho _=>by
 subst hr;simp[ck,ho,bS,hx,convert,bu hs,bu hd,Conv.intToInt]
theorem eE{vs:Array ac}{i:Nat}{v:ac}(hx:ev l x=.tuple vs)(hi:vs[i]? = some v):gI P l (.extract x i) ty v:=fun w o ho _=>by
 simp[ck,ho,bS,hx,Instr.extract,hi]
theorem eX{fn:Fn}{first captured:Array a_}:gI P l (.makeFunc fn first captured) ty (.func fn (first.map (ev l)) (captured.map (ev l))):=fun w o ho _=>by
 have e:(Fr l).eval=ev l:=funext bS;simp[ck,ho,e,Instr.makeFunc]
theorem Ec{E:aj}{A:Option Addr}{n c:Nat}{a0:Array aj}(ha:a0 = #[T])(hu:P.underlying T=some (.slice E))(hx:ev l x=.slice A n c):gI P l (.call { callee:=.builtin .len,args:=#[x],argTypes:=a0 }) ty (.int .i64 n):=fun w o ho _=>by
 subst ha;simp[ck,ho,resolve,invoke,builtin,Builtin.len_,bS,hx,bu hu,goInt]
theorem tD{s:ByteArray}{a0:Array aj}(ha:a0 = #[T])(hu:P.underlying T=some .string)(hx:ev l x=.string s):gI P l (.call { callee:=.builtin .len,args:=#[x],argTypes:=a0 }) ty (.int .i64 s.size):=fun w o ho _=>by
 subst ha;simp[ck,ho,resolve,invoke,builtin,Builtin.len_,bS,hx,bu hu,goInt]
theorem amV{a0:Array aj}(hx:ev l x=.int k m)(hy:ev l y=.int k n)(hr:(if n<m then n else m)=r):gI P l (.call { callee:=.builtin .min,args:=#[x,y],argTypes:=a0 }) ty (.int k r):=fun w o ho _=>by
 subst hr;simp[ck,ho,resolve,invoke,builtin,Builtin.min_,Builtin.min2,bS,hx,hy]
theorem tE{a0:Array aj}(hx:ev l x=.int k m)(hy:ev l y=.int k n)(hr:(if m<n then n else m)=r):gI P l (.call { callee:=.builtin .max,args:=#[x,y],argTypes:=a0 }) ty (.int k r):=fun w o ho _=>by
 subst hr;simp[ck,ho,resolve,invoke,builtin,Builtin.max_,Builtin.max2,bS,hx,hy]
end
/-! ### Addresses -/
section
variable {x y:a_} {T T' ty:aj} {k:IntKind} {m n r:Int}
theorem aZ{fs:Array Field}{i c:Nat}{f:Field}{a b:Addr}(hu:P.underlying T=some (.struct fs))(hf:fs[i]? = some f)(hc:cS P f.type (c+1))(hx:ev l x=.pointer (some a))(hb:a.add f.offset=b) :
 gI P l (.fieldAddr T x i) ty (.pointer (some b)):=fun w o ho _=>by
 subst hb;obtain⟨inf,hi,hz⟩:=hc;have hz':¬inf.size=0:=by omega
 simp[ck,ho,bS,hx,Instr.fieldAt,bu hu,hf,Instr.sureAddr,fieldPlace,sizeOf,typeInfo,hi,hz']
theorem aJ{E:aj}{len:Nat}{c:Nat}{a b:Addr}(hu:P.underlying T=some (.array len E))(hc:cS P E c)(hx:ev l x=.pointer (some a))(hy:ev l y=.int k m)(h0:0≤m)(h1:m<len)(hb:a.add (m.toNat*c)=b) :
 gI P l (.indexAddr T x y) ty (.pointer (some b)):=fun w o ho _=>by
 subst hb;obtain⟨inf,hi,rfl⟩:=hc;simp[ck,ho,bS,hx,hy,Instr.indexAt,asIntOf,bu hu,Instr.sureAddr,sizeOf,typeInfo,hi,h0,h1]
theorem aF{E:aj}{len cap:Nat}{c:Nat}{a b:Addr}(hu:P.underlying T=some (.slice E))(hc:cS P E c)(hx:ev l x=.slice (some a) len cap)(hy:ev l y=.int k m)(h0:0≤m)(h1:m<len)(hb:a.add (m.toNat*c)=b) :
 gI P l (.indexAddr T x y) ty (.pointer (some b)):=fun w o ho _=>by
 subst hb;obtain⟨inf,hi,rfl⟩:=hc;simp[ck,ho,bS,hx,hy,Instr.indexAt,asIntOf,bu hu,sizeOf,typeInfo,hi,h0,h1]
end
/-! ### Memory -/
section
variable {x y:a_} {T T' ty:aj} {w:ah}
def gM(P:bc)(w:ah)(T:aj)(a:Addr)(v:ac):Prop:=(loadVar T a).run P w=.ok v w
theorem nV.lies{a:Addr}{cs:List ac}(h:nV w a cs)(hA:dV P T true)(hc:cS P T cs.length):gM P w T a (.agg cs.toArray):=by
 obtain⟨dd,hu,hd⟩:=hA;obtain⟨inf,hi,hn⟩:=hc;have hl:=run_loadCells_list (P:=P) w a cs (fun j v hv=>h j v hv);have hagg:(isAgg T).run P w=.ok true w:=by
  unfold isAgg;rw[Sem.run_bind,bu hu w];cases dd <;> simp_all [xV]
 unfold gM;simp[loadVar,Sem.run_bind,hagg,sizeOf,typeInfo,hi,hn,hl]
theorem lies1{a:Addr}{v:ac}(h:w.cell? a=some v)(hA:dV P T false):gM P w T a v:=by
 obtain⟨dd,hu,hd⟩:=hA;have hagg:(isAgg T).run P w=.ok false w:=by
  unfold isAgg;rw[Sem.run_bind,bu hu w];cases dd <;> simp_all [xV]
 unfold gM;simp[loadVar,Sem.run_bind,hagg,load,Sem.run,h]
theorem fA.cell{g:Nat}{cs:List ac}{t:aj}(h:fA w g cs t){i:Nat}{v:ac}(hi:cs[i]? = some v):w.cell? ⟨g,i,none⟩=some v:=by
 rw[cell_of_row w g i cs.toArray t (0,0) h];simpa using hi
theorem fA.lies1{g i:Nat}{cs:List ac}{t:aj}{v:ac}(h:fA w g cs t)(hA:dV P T false)(hi:cs[i]? = some v):gM P w T ⟨g,i,none⟩ v:=Lith.lies1 (h.cell hi) hA
theorem fA.lies{g i n:Nat}{cs us:List ac}{t:aj}(h:fA w g cs t)(hA:dV P T true)(hc:cS P T n)(hu:(cs.drop i).take n=us)(hn:us.length=n):gM P w T ⟨g,i,none⟩ (.agg us.toArray):=by
 subst hu;exact ((h.row i).take n).lies hA (by rw[hn];exact hc)
theorem aW{a:Addr}{v:ac}(hx:ev l x=.pointer (some a))(hv:gM P w T a v):vL P l (.load T x) ty v w:=fun o ho _=>by
 unfold gM at hv;simp[ck,ho,bS,hx,Instr.loadAt,Instr.sureAddr,hv]
variable {ops:Array Oper} {Q:Exit→Act→ah→Prop} {rest:List Oper} {d:Nat} {op:Op} {pos:String} {after:Array Edge} {v:ac}
theorem aO{a:Addr}(hx:ev l x=.pointer (some a))(hv:gM P w T a v)(h:ao P ops Q rest (Fr (l.set d v) ds) w):ao P ops Q (bi (some d) (.load T x) ty pos after none::rest) (Fr l ds) w :=
 eQ (aW hx hv) h
theorem Cd{w':ah}(hr:∀o:Oper,o.op=op→(ck (Fr l).eval o).run P w=.ok .skip w')(h:ao P ops Q rest (Fr l ds) w'):ao P ops Q (bi none op ty pos after none::rest) (Fr l ds) w:=by
 refine wpList_plain rfl fun K hK=>?_;unfold kj;rw[iY,hr _ rfl];exact hK _ _ h
theorem kN{w':ah}(hr:∀o:Oper,o.op=op→o.type=ty→(ck (Fr l).eval o).run P w=.ok (.value v) w')(h:ao P ops Q rest (Fr (l.set d v) ds) w'):ao P ops Q (bi (some d) op ty pos after none::rest) (Fr l ds) w:=by
 refine wpList_plain rfl fun K hK=>?_;unfold kj;rw[iY,hr _ rfl rfl];show K ((Fr l ds).put (some d) v) w'
 rw[gE];exact hK _ _ h
theorem gX(w:ah)(cs:List ac)(t:aj):fA (w.alloc (.cells cs.toArray t)) w.heap.size cs t:=heap_alloc_new w _
theorem ac7{cs:List ac}(hv:(ev l x).cells=cs.toArray)(h:∀w' g,eW w w'→w.heap.size≤g→fA w' g cs T→ao P ops Q rest (Fr (l.set d (.pointer (some ⟨g,0,none⟩))) ds) w') :
 ao P ops Q (bi (some d) (.box T x) ty pos after none::rest) (Fr l ds) w :=
 kN (w':=w.alloc (.cells cs.toArray T)) (v:=.pointer (some ⟨w.heap.size,0,none⟩)) (fun o ho _=>by simp[ck,ho,bS,Instr.box,newVar,newRow,hv,newObj,Sem.run]) (h _ _ ((eW.refl w).alloc _) (ap _) (gX w cs T))
theorem xW{cs:List ac}{z:ac}(hZ:mC P T z)(hv:z.cells=cs.toArray)(h:∀w' g,eW w w'→w.heap.size≤g→fA w' g cs T→ao P ops Q rest (Fr (l.set d (.pointer (some ⟨g,0,none⟩))) ds) w') :
 ao P ops Q (bi (some d) (.alloc T) ty pos after none::rest) (Fr l ds) w:=by
 obtain⟨inf,hi,hz⟩:=hZ;exact kN (w':=w.alloc (.cells cs.toArray T)) (v:=.pointer (some ⟨w.heap.size,0,none⟩)) (fun o ho _=>by simp[ck,ho,Instr.alloc,zeroValue,typeInfo,hi,hz,newVar,newRow,hv,newObj,Sem.run]) (h _ _ ((eW.refl w).alloc _) (ap _) (gX w cs T))
def over(cs:List ac)(off:Nat)(us:List ac):List ac:=cs.take off++us++cs.drop (off+us.length)
theorem vU{cs us:List ac}{off:Nat}(h:off+us.length≤cs.length):(over cs off us).length=cs.length:=by simp[over];omega
theorem Ii(w:ah)(g:Nat)(cs:Array ac):Chg w (w.setRow g cs) g:=⟨rfl,rfl,rfl,by simp,fun k hk=>setRow_other w g k cs hk⟩
theorem Ce{g off:Nat}{cs us:List ac}{t:aj}(hc:cS P T us.length)(hv:v.cells=us.toArray)(hB:fA w g cs t)(hfit:off+us.length≤cs.length)(h1:∀u∈us,u.oneCell'=true) :
 (storeVar T ⟨g,off,none⟩ v).run P w=.ok () (w.setRow g (over cs off us).toArray):=by
 obtain⟨inf,hi,hn⟩:=hc;have hst:=run_storeCells_at P g off t us 0 cs.toArray w hB (by simpa using hfit) h1;simp only[Nat.add_zero,dt] at hst;simp[storeVar,hv,sizeOf,typeInfo,hi,hn,hst,over]
theorem uA{g off:Nat}{cs us:List ac}{t:aj}(hx:ev l x=.pointer (some ⟨g,off,none⟩))(hv:(ev l y).cells=us.toArray)(hc:cS P T us.length)(hB:fA w g cs t)(hfit:off+us.length≤cs.length)(h1:∀u∈us,u.oneCell'=true)
 (h:∀w',Chg w w' g→fA w' g (over cs off us) t→ao P ops Q rest (Fr l ds) w'):ao P ops Q (bi none (.store T x y) ty pos after none::rest) (Fr l ds) w :=
 Cd (w':=w.setRow g (over cs off us).toArray) (fun o ho=>by simp[ck,ho,bS,hx,Instr.storeAt,Instr.sureAddr,Ce hc hv hB hfit h1]) (h _ (Ii w g _) (setRow_heap w g cs.toArray _ t _ hB))
/-! ### Calls -/
def Entr(P:bc)(f:FuncId):Prop:=∃fn,P.funcs[f]? = some fn∧(fn.name == "runtime.NumGoroutine")=false∧fn.body.isNone=false
theorem bH{P:bc}{f:FuncId}{fn:Func}(h:P.funcs[f]? = some fn) (hb:(!(fn.name == "runtime.NumGoroutine") && !fn.body.isNone)=true):Entr P f:=by
 simp only[bh,fm] at hb;exact⟨fn,h,hb.1,hb.2⟩
def dF(P:bc)(f:FuncId)(args:List ac)(w:ah)(R:ac→ah→Prop):Prop :=
 Entr P f∧Calls P f args.toArray w fun e w'=>∃v,e=.returned v∧eW w w'∧R v w'
def eM(P:bc)(f:FuncId)(args:List ac)(v:ac):Prop:=∀w,dF P f args w fun u _=>u=v
theorem dF.mono{f:FuncId}{args:List ac}{R R':ac→ah→Prop}(h:dF P f args w R)(hr:∀v w',eW w w'→R v w'→R' v w'):dF P f args w R' :=
 ⟨h.1,h.2.mono fun _ _ ⟨v,he,hE,hR⟩=>⟨v,he,hE,hr _ _ hE hR⟩⟩
theorem pX{f:FuncId}{args:Array ac}(h:Entr P f):(callFunc f args).run P w=.ok (.enter f args) w:=by
 obtain⟨fn,hf,hn,hb⟩:=h;have hn':¬fn.name = "runtime.NumGoroutine" := by simpa using hn
 have hb':¬fn.body=none:=by intro h;rw[h] at hb;cases hb
 simp[callFunc,hf,hn',hb']
theorem nA{f:FuncId}{fo:a_}{xs:Array a_}{args:List ac}{first cap:Array ac}{a0:Array aj}(h:Entr P f)(hf:ev l fo=.func (.func f) first cap)(hxs:first.toList++xs.toList.map (ev l)++cap.toList=args)(o:Oper)(ho:o.op=.call { callee:=.value fo,args:=xs,argTypes:=a0 }) :
 (ck (Fr l).eval o).run P w=.ok (.enter f args.toArray) w:=by
 have e:(Fr l).eval=ev l:=funext bS;have ea:args.toArray=first++xs.map (ev l)++cap:=by
  rw[←hxs];apply nf;simp
 simp[ck,ho,resolve,e,hf,Deferred.ofValue,invoke,pX h,ea]
theorem bJ{f:FuncId}{fo:a_}{xs:Array a_}{args:List ac}{first cap:Array ac}{a0:Array aj}{R:ac→ah→Prop}(hf:ev l fo=.func (.func f) first cap)(hxs:first.toList++xs.toList.map (ev l)++cap.toList=args)(hc:dF P f args w R)
 (h:∀v w',eW w w'→R v w'→ao P ops Q rest (Fr (l.set d v) ds) w'):ao P ops Q (bi (some d) (.call { callee:=.value fo,args:=xs,argTypes:=a0 }) ty pos after none::rest) (Fr l ds) w:=by
 refine wpList_plain rfl fun K hK=>?_;unfold kj;rw[iY,nA hc.1 hf hxs _ rfl];refine hc.2.mono ?_;rintro e w' ⟨v,rfl,hE,hR⟩;show K ((Fr l ds).put (some d) v) w'
 rw[gE];exact hK _ _ (h v w' hE hR)
theorem Pv{f:FuncId}{fo:a_}{xs:Array a_}{args:List ac}{first cap:Array ac}{a0:Array aj}(hf:ev l fo=.func (.func f) first cap)(hxs:first.toList++xs.toList.map (ev l)++cap.toList=args)(hc:eM P f args v)
 (h:∀w',eW w w'→ao P ops Q rest (Fr (l.set d v) ds) w'):ao P ops Q (bi (some d) (.call { callee:=.value fo,args:=xs,argTypes:=a0 }) ty pos after none::rest) (Fr l ds) w :=
 bJ hf hxs (hc w) fun _ w' hE hR=>hR▸h w' hE
end
section
variable {x y:a_} {T T' ty:aj} {w:ah}
variable {ops:Array Oper} {Q:Act→Prop} {rest:List Oper} {d:Nat} {op:Op} {pos:String} {after:Array Edge} {v:ac}
end
/-! ### Code -/
section
variable {Q:Exit→Act→ah→Prop} {w:ah} {c c1 c2:Code}
theorem aV{a:Act}(h:∀K:Act→ah→Prop,(∀a w,c2.wp P Q a w→K a w)→c1.wp P (Exit.then K Q) a w):(Code.seq c1 c2).wp P Q a w:=wp_seq_k h
theorem gR{x:a_}{b:Bool}(hx:ev l x=.bool b)(ht:b=true→c1.wp P Q (Fr l ds) w)(hf:b=false→c2.wp P Q (Fr l ds) w):(Code.cond x c1 c2).wp P Q (Fr l ds) w :=
 wp_cond_split (by rw[iY,bS];exact hx) ht hf
theorem bC{x:a_}{p:Prop}[Decidable p](hx:ev l x=.bool (decide p))(ht:p→c1.wp P Q (Fr l ds) w)(hf:¬p→c2.wp P Q (Fr l ds) w):(Code.cond x c1 c2).wp P Q (Fr l ds) w :=
 gR hx (fun h=>ht (of_decide_eq_true h)) (fun h=>hf (of_decide_eq_false h))
theorem vV{x:a_}(hx:ev l x=.bool true)(ht:c1.wp P Q (Fr l ds) w):(Code.cond x c1 c2).wp P Q (Fr l ds) w:=gR hx (fun _=>ht) (fun h=>by cases h)
theorem abp{x:a_}(hx:ev l x=.bool false)(hf:c2.wp P Q (Fr l ds) w):(Code.cond x c1 c2).wp P Q (Fr l ds) w:=gR hx (fun h=>by cases h) (fun _=>hf)
def Res(P:bc)(l:List ac)(w:ah):ResultVar→ac→Prop
 | .tmp t,v=>l.getD t undef=v
 | .cell t T,v=>∃a,l.getD t undef=.pointer (some a)∧gM P w T a v
theorem Ed{r:ResultVar}{v:ac}(h:Res P l w r v):(∃t,r=.tmp t∧l[t]?.getD undef=v)∨(∃t T a,r=.cell t T∧l[t]?.getD undef=.pointer (some a)∧(loadVar T a).run P w=.ok v w):=by
 cases r with
 | tmp t=>exact .inl ⟨t,rfl,by simpa[Res] using h⟩
 | cell t T =>
  obtain⟨a,ha,hl⟩:=h;exact .inr ⟨t,T,a,rfl,by simpa using ha,hl⟩
theorem aQ{fn:Func}{R:Ending→ah→Prop}{r:ResultVar}{v:ac}(hr:fn.results = #[r])(h:Res P l w r v)(hR:R (.returned v) w):bodyPost P fn R .ret (Fr l) w:=by
 refine⟨rfl,v,?_,hR⟩;unfold results;rw[hr];rcases Ed h with ⟨t,rfl,h1⟩ | ⟨t,T,a,rfl,h1,h2⟩ <;> simp[*,asAddr]
theorem vW{fn:Func}{R:Ending→ah→Prop}{r r':ResultVar}{v v':ac}(hr:fn.results = #[r,r'])(h:Res P l w r v)(h':Res P l w r' v')(hR:R (.returned (.tuple #[v,v'])) w):bodyPost P fn R .ret (Fr l) w:=by
 refine⟨rfl,_,?_,hR⟩;unfold results;rw[hr];rcases Ed h with ⟨t,rfl,h1⟩ | ⟨t,T,a,rfl,h1,h2⟩ <;> rcases Ed h' with ⟨t',rfl,h1'⟩ | ⟨t',T',a',rfl,h1',h2'⟩ <;> simp[*,asAddr]
end
end
/-! ### Numbers,loops,further values -/
theorem bF{x:Int}(h0 : -9223372036854775808≤x)(h1:x<9223372036854775808):IntKind.i64.wrap x=x:=by
 simp[ln,lo,kn];split <;> omega
theorem vX{x:Int}(h0:0≤x)(h1:x<18446744073709551616):IntKind.u64.wrap x=x:=by
 simp[ln,lo,kn];omega
theorem ac8{x:Int}(h0:0≤x)(h1:x<4294967296):IntKind.u32.wrap x=x:=by
 simp[ln,lo,kn];omega
theorem ac9{x:Int}(h0 : -2147483648≤x)(h1:x<2147483648):IntKind.i32.wrap x=x:=by
 simp[ln,lo,kn];split <;> omega
theorem agx{x:Int}(h0:0≤x)(h1:x<256):IntKind.u8.wrap x=x:=by
 simp[ln,lo,kn];omega
def eG:List ac→List Nat→List ac→List ac
 | l,t::ts,v::vs=>eG (l.set t v) ts vs
 | l,_,_=>l
theorem Pw{l:List ac}{t:Nat}{ts:List Nat}{v:ac}{vs:List ac}:eG l (t::ts) (v::vs)=eG (l.set t v) ts vs:=rfl
theorem vY{l:List ac}{vs:List ac}:eG l [] vs=l:=by cases vs <;> rfl
theorem Tj{l:List ac}{t:Nat}:l.set t (l.getD t undef)=l:=by
 apply fa;intro i;rw[List.getElem?_set];split
 · rename_i h;subst h
   split
   · rename_i h;simp[h]
   · rename_i h;simp at h;simp[h]
 · rfl
theorem Cf:∀(ts:List Nat) (l:List ac),eG l ts (ts.map (l.getD · undef))=l
 | [],l=>vY
 | t::ts,l=>by
  simp only[bn,Pw,Tj];exact Cf ts l
theorem uB{p:Nat→Prop}(h:∃n,p n):∃n,p n∧∀m,p m→n≤m:=by
 obtain⟨n,hn⟩:=h
 induction n using Nat.strongRecOn with
 | _ n ih =>
  by_cases hx:∃m,m<n∧p m
  · obtain⟨m,hm,hp⟩:=hx;exact ih m hm hp
  · exact⟨n,hn,fun m hm=>Nat.le_of_not_lt fun hlt=>hx ⟨m,hlt,hm⟩⟩
noncomputable def Ij(p:Nat→Prop)(h:∃n,p n):Nat:=(uB h).choose
theorem Tk{p:Nat→Prop}(h:∃n,p n):p (Ij p h):=(uB h).choose_spec.1
theorem abq{p:Nat→Prop}(h:∃n,p n){m:Nat}(hm:p m):Ij p h≤m:=(uB h).choose_spec.2 m hm
section
variable {P:bc} {ds:List cg} {l:List ac}
end
/-! ### Parts of values,slices,new slices -/
section
variable {P:bc} {ds:List cg} {l:List ac} {x y:a_} {T T' ty:aj} {k:IntKind} {m n r:Int}
theorem nB{b:Bool}(h:dV P T b)(w:ah):(isAgg T).run P w=.ok b w:=by
 obtain⟨dd,hu,hd⟩:=h;unfold isAgg;rw[Sem.run_bind,bu hu w];cases dd <;> simp_all [xV]
theorem dH{c:Nat}(h:cS P T c)(w:ah):(sizeOf T).run P w=.ok c w:=by
 obtain⟨inf,hi,rfl⟩:=h;simp[sizeOf,typeInfo,hi]
theorem lA(cs:Array ac):(Value.agg cs).cells=cs:=rfl
theorem oL{parts:Array (Nat × a_)}{vs:Array (Nat × ac)}{v:ac}(hp:(parts.map fun (i,x)=>(i,ev l x))=vs)(h:∀w,(Instr.build T vs).run P w=.ok v w):gI P l (.build T parts) ty v:=fun w o ho _=>by
 have e:(Fr l).eval=ev l:=funext bS;subst hp;simp only[ck,ho,e];rw[Sem.run_bind,h w];rfl
theorem gJ{fs:Array Field}{places:Array (Nat × Nat)}{z:ac}{cells:Array ac}{vs:Array (Nat × ac)}(hu:P.underlying T=some (.struct fs))(hz:mC P T z)
 (hpl:∀w,(fs.mapM fun f=>do pure (f.offset,←sizeOf f.type):Sem (Array (Nat × Nat))).run P w=.ok places w) (hf:Instr.fill (places[·]?) z.cells vs.toList=some cells) (w:ah):(Instr.build T vs).run P w=.ok (.agg cells) w:=by
 obtain⟨inf,hi,h0⟩:=hz;simp only[Instr.build,zeroValue,typeInfo];simp[hi,h0,bu hu];have:=hpl w;simp at this;simp[this,hf]
theorem lZ{E:aj}{n c:Nat}{z:ac}{cells:Array ac}{vs:Array (Nat × ac)}(hu:P.underlying T=some (.array n E))(hz:mC P T z)(hc:cS P E c)
 (hf:Instr.fill (fun i=>some (i*c,c)) z.cells vs.toList=some cells) (w:ah):(Instr.build T vs).run P w=.ok (.agg cells) w:=by
 obtain⟨inf,hi,h0⟩:=hz;simp only[Instr.build,zeroValue,typeInfo];simp[hi,h0,bu hu,dH hc,hf]
theorem ada{fs:Array Field}{i:Nat}{f:Field}{cs:Array ac}{v:ac}(hu:P.underlying T=some (.struct fs))(hf:fs[i]? = some f)(hA:dV P f.type false)(hx:ev l x=.agg cs)(hv:cs[f.offset]? = some v) :
 gI P l (.field T x i) ty v:=fun w o ho _=>by
 simp[ck,ho,bS,hx,Instr.field,bu hu,hf,asAgg,part,nB hA,hv]
theorem adb{fs:Array Field}{i c:Nat}{f:Field}{cs us:Array ac}(hu:P.underlying T=some (.struct fs))(hf:fs[i]? = some f)(hA:dV P f.type true)(hc:cS P f.type c)(hx:ev l x=.agg cs)(hv:cs.extract f.offset (f.offset+c)=us) :
 gI P l (.field T x i) ty (.agg us):=fun w o ho _=>by
 subst hv;simp[ck,ho,bS,hx,Instr.field,bu hu,hf,asAgg,part,nB hA,dH hc]
theorem nC{E:aj}{len c:Nat}{cs:Array ac}{v:ac}(hu:P.underlying T=some (.array len E))(hA:dV P E false)(hc:cS P E c)(hx:ev l x=.agg cs)(hy:ev l y=.int k m)(h0:0≤m)(h1:m<len)(hv:cs[m.toNat*c]? = some v) :
 gI P l (.index T x y) ty v:=fun w o ho _=>by
 simp[ck,ho,bS,hx,hy,Instr.index,asIntOf,bu hu,h0,h1,part,nB hA,dH hc,hv]
theorem nD{E:aj}{len c:Nat}{cs us:Array ac}(hu:P.underlying T=some (.array len E))(hA:dV P E true)(hc:cS P E c)(hx:ev l x=.agg cs)(hy:ev l y=.int k m)(h0:0≤m)(h1:m<len)(hv:cs.extract (m.toNat*c) (m.toNat*c+c)=us) :
 gI P l (.index T x y) ty (.agg us):=fun w o ho _=>by
 subst hv;simp[ck,ho,bS,hx,hy,Instr.index,asIntOf,bu hu,h0,h1,part,nB hA,dH hc]
theorem qZ{s:ByteArray}{b:UInt8}(hu:P.underlying T=some .string)(hx:ev l x=.string s)(hy:ev l y=.int k m)(h0:0≤m)(hb:s[m.toNat]? = some b) :
 gI P l (.index T x y) ty (.int .u8 b.toNat):=fun w o ho _=>by
 simp[ck,ho,bS,hx,hy,Instr.index,asIntOf,bu hu,h0,hb]
theorem lB{E:aj}{A:Option Addr}{len cap c:Nat}(hu:P.underlying T=some (.slice E))(hc:cS P E c){q:Nat}(hx:ev l x=.slice A len cap)(hy:ev l y=.int k m)(hq:m.toNat=q)(h0:0≤m)(h1:m≤cap) :
 gI P l (.slice T x none (some y) none) ty (.slice A q cap):=fun w o ho _=>by
 subst hq;have e:(if cap=0 then A else Option.map (fun a=>a.add 0) A)=A:=by
  split
  · rfl
  · cases A <;> simp[Addr.add]
 have h1':¬(m.toNat:Int)>cap:=by omega
 simp[ck,ho,bS,hx,hy,Instr.sliceAt,Instr.slice,Instr.sliceBounds,Instr.sliceBound,asIntOf,bu hu,h0,h1,dH hc];intro _;cases A <;> simp[Addr.add]
theorem qO{E:aj}{A A':Option Addr}{len cap c:Nat}(hu:P.underlying T=some (.slice E))(hc:cS P E c){q:Nat}(hx:ev l x=.slice A len cap)(hy:ev l y=.int k m)(hq:m.toNat=q)(h0:0≤m)(h1:m≤len)(hA:(if cap=q then A else A.map (·.add (q*c)))=A') :
 gI P l (.slice T x (some y) none none) ty (.slice A' (len-q) (cap-q)):=fun w o ho _=>by
 subst hq;subst hA;simp[ck,ho,bS,hx,hy,Instr.sliceAt,Instr.slice,Instr.sliceBounds,Instr.sliceBound,asIntOf,bu hu,h0,h1,dH hc]
theorem adc{s:ByteArray}(hu:P.underlying T=some .string)(hx:ev l x=.string s)(hy:ev l y=.int k m)(h0:0≤m)(h1:m≤s.size) :
 gI P l (.slice T x (some y) none none) ty (.string (s.extract m.toNat s.size)):=fun w o ho _=>by
 simp[ck,ho,bS,hx,hy,Instr.sliceAt,Instr.slice,Instr.sliceBounds,Instr.sliceBound,asIntOf,bu hu,h0,h1]
variable {ops:Array Oper} {Q:Exit→Act→ah→Prop} {rest:List Oper} {d:Nat} {pos:String} {after:Array Edge} {w:ah}
theorem sB{E:aj}{b:Nat}{kc:IntKind}{z:ac}(hu:P.underlying T=some (.slice E))(hi:(P.info? E).map (fun i=>(i.size,i.bytes,i.zero))=some (1,b,some z))(hzc:z.cells = #[z]){q q':Nat}(hx:ev l x=.int k m)(hy:ev l y=.int kc n)(hq:m.toNat=q)(hq':n.toNat=q')(h0:0≤m)(h1:m≤n)(hn:n≤9223372036854775807)(hb:(b:Int)*n≤281474976710656)
 (h:∀w' g,eW w w'→w.heap.size≤g→fA w' g (de q' z) E→ao P ops Q rest (Fr (l.set d (.slice (some ⟨g,0,none⟩) q q')) ds) w') :
 ao P ops Q (bi (some d) (.makeSlice T x y) ty pos after none::rest) (Fr l ds) w:=by
 subst hq;subst hq';cases hq:P.info? E with
 | none=>rw[hq] at hi;cases hi
 | some i =>
  rw[hq] at hi;simp only[d_,fp,ff] at hi;obtain⟨e1,e2,e3⟩:=hi;subst e2;have hr:=run_make (P:=P) w T E i z hu hq e3 k kc m n h0 h1 hb hn;have hc:madeCells z.cells (n.toNat*i.size)=(de n.toNat z).toArray:=by
   rw[e1,hzc,jy];apply nf;rw[toList_madeCells_one]
  rw[hc] at hr;exact kN (fun o ho _=>by simp[ck,ho,bS,hx,hy,hr]) (h _ _ ((eW.refl w).alloc _) (ap _) (gX w _ E))
def ai4(w:ah)(base:Nat)(e:aj)(size:Nat)(v:ac)(n:Nat)(xs:List ac):Prop:=w.ownsRow base e size v n xs
theorem ai4.row{w:ah}{base:Nat}{e:aj}{size:Nat}{v:ac}{n:Nat}{xs:List ac}(h:ai4 w base e size v n xs):(v=.slice none 0 0∧n=0∧xs=[])∨∃g cap,v=.slice (some ⟨g,0,none⟩) n cap∧base≤g∧n≤cap∧cap≤maxLen∧g<w.heap.size∧nV w ⟨g,0,none⟩ xs:=by
 rcases h.2 with ⟨rfl,rfl⟩ | ⟨g,cap,cur,rfl,hbg,hg,h1,h2,h3,h4⟩
 · exact .inl ⟨rfl,rfl,eh (by simpa using h.1)⟩
 · refine .inr ⟨g,cap,rfl,hbg,h1,h2,(da.1 hg).1,fun j u hj=>?_⟩
   rw[dT,aq,cell_of_row w g j cur e (0,0) hg];rw[←h4,dg] at hj;split at hj
   · simpa using hj
   · cases hj
end
section
variable {P:bc} {ds:List cg} {l:List ac} {x y:a_} {T T' ty:aj} {k:IntKind} {m n r:Int}
theorem oB(hx:ev l x=.int k m)(hy:ev l y=.int k n)(h:m<n):gI P l (.binOp .lss T x y T') ty (.bool true):=by
 have:=zX (P:=P) (T:=T) (T':=T') (ty:=ty) hx hy;rwa [decide_eq_true h] at this
theorem Aw(hx:ev l x=.int k m)(hy:ev l y=.int k n)(h:¬m<n):gI P l (.binOp .lss T x y T') ty (.bool false):=by
 have:=zX (P:=P) (T:=T) (T':=T') (ty:=ty) hx hy;rwa [decide_eq_false h] at this
theorem vZ(hx:ev l x=.int k m)(hy:ev l y=.int k n)(h:m=n):gI P l (.binOp .eql T x y T') ty (.bool true):=by
 have:=tC (P:=P) (T:=T) (T':=T') (ty:=ty) hx hy;rwa [decide_eq_true h] at this
theorem Px(hx:ev l x=.int k m)(hy:ev l y=.int k n)(h:¬m=n):gI P l (.binOp .eql T x y T') ty (.bool false):=by
 have:=tC (P:=P) (T:=T) (T':=T') (ty:=ty) hx hy;rwa [decide_eq_false h] at this
theorem pY{c:a_}(hc:ev l c=.bool true):gI P l (.pick c x y) ty (ev l x):=Pu hc
theorem xX{c:a_}(hc:ev l c=.bool false):gI P l (.pick c x y) ty (ev l y):=Pu hc
theorem ai5{op:Op}{v u:ac}(h:gI P l op ty v)(e:v=u):gI P l op ty u:=e▸h
end
def nE:List ac→List Nat→(Nat→ac)→List ac
 | l,t::ts,g=>nE (l.set t (g t)) ts g
 | l,[],_=>l
theorem abr{l:List ac}{t:Nat}{ts:List Nat}{g:Nat→ac}:nE l (t::ts) g=nE (l.set t (g t)) ts g:=rfl
theorem amX{l:List ac}{g:Nat→ac}:nE l [] g=l:=rfl
theorem abt:∀(ts:List Nat) (l:List ac),nE l ts (l.getD · undef)=l:=by
 intro ts;have key:∀(ts:List Nat) (l:List ac) (g:Nat→ac),(∀t,l.set t (g t)=l)→nE l ts g=l:=by
  intro ts
  induction ts with
  | nil=>intro l g _;rfl
  | cons t ts ih=>intro l g h;rw[abr,h t];exact ih l g h
 exact fun l=>key ts l _ fun t=>Tj
section
variable {P:bc} {ds:List cg} {l:List ac}
theorem aau{c:Code}{Q:Exit→Act→ah→Prop}{w:ah}(ts ss:List Nat)(I:Nat→List ac→ah→Prop)(h0:∃n,I n (ts.map (l.getD · undef)) w)
 (hr:∀n vs w,I n vs w→∀g:Nat→ac,c.wp P (Exit.then (fun a' w'=>∃n' l',n'<n∧a'=Fr l'∧nE (eG l ts (ts.map (l'.getD · undef))) ss (l'.getD · undef)=l'∧I n' (ts.map (l'.getD · undef)) w') Q) (Fr (nE (eG l ts vs) ss g)) w):(Code.loop c).wp P Q (Fr l) w:=by
 obtain⟨n0,h0⟩:=h0
 let J:Nat→Act→ah→Prop:=fun n a w=>∃vs g,a=Fr (nE (eG l ts vs) ss g)∧I n vs w
 have hJ0:∃n,J n (Fr l) w:=⟨n0,_,(l.getD · undef),by rw[Cf,abt],h0⟩
 let μ:Act→ah→Nat:=fun a w=>@dite _ (∃n,J n a w) (Classical.propDecidable _) (fun h=>Ij (fun n=>J n a w) h) (fun _=>0)
 refine wp_loop (fun a w=>∃n,J n a w) μ hJ0 ?_;intro a w hI;obtain⟨vs,g,rfl,hIv⟩:=Tk hI;refine Code.wp_mono ?_ (hr _ vs w hIv g);intro e a' w' hq;cases e with
 | normal =>
  obtain⟨n',l',hlt,rfl,he,hI'⟩:=hq;have hJ:J n' (Fr l') w':=⟨_,(l'.getD · undef),by rw[he],hI'⟩
  refine⟨⟨n',hJ⟩,?_⟩;have e1:μ (Fr l') w'=Ij (fun n=>J n (Fr l') w') ⟨n',hJ⟩:=by simp only[μ];rw[dif_pos ⟨n',hJ⟩]
  have e2:μ (Fr (nE (eG l ts vs) ss g)) w=Ij (fun n=>J n (Fr (nE (eG l ts vs) ss g)) w) hI:=by simp only[μ];rw[dif_pos hI]
  rw[e1,e2];exact mf (abq _ hJ) hlt
 | exit id=>exact hq
 | goto id=>exact hq
 | ret=>exact hq
 | panic ch=>exact hq
 | outgrown=>exact hq
end
section
variable {P:bc} {ds:List cg} {l:List ac} {ops:Array Oper} {Q:Exit→Act→ah→Prop} {w:ah} {rest:List (Oper × Bool)} {d:Nat} {op:Op} {ty:aj} {pos:String} {after:Array Edge} {v:ac}
theorem bQ{Q:Exit→Act→ah→Prop}(h:∀c (t:Array ac) ds (t':Array ac) w,Q (.panic c) { tmps:=t,defers:=ds } w→Q (.panic c) { tmps:=t',defers:=ds } w):∀c d v a w,Q (.panic c) (Act.put a d v) w→Q (.panic c) a w:=by
 intro c d v a w hq;cases d with
 | none=>exact hq
 | some d=>exact h c _ _ _ w hq
end
end Go.Lith
namespace Go.Lith
/-! ### Digits -/
def val(B:Nat):List Nat→Nat
 | []=>0
 | x::xs=>x+B*val B xs
def trim:List Nat→List Nat
 | []=>[]
 | x::xs=>if trim xs=[]∧x=0 then [] else x::trim xs
def gS(B:Nat)(xs:List Nat):Prop:=∀x∈xs,x<B
theorem rA(B:Nat):∀xs ys:List Nat,val B (xs++ys)=val B xs+B^xs.length*val B ys
 | [],ys=>by simp[val]
 | x::xs,ys=>by simp only[b_,val,rA B xs ys,au,jg];grind
theorem Ik{B:Nat}:∀{xs:List Nat},gS B xs→val B xs<B^xs.length
 | [],_=>by simp[val]
 | x::xs,h=>by
  have h1:x<B:=h x (by simp);have h2:=Ik (xs:=xs) fun y hy=>h y (by simp[hy]);simp only[val,au,jg];have h3:val B xs+1≤B^xs.length:=h2;have:=jp B h3
  grind
theorem Il(B:Nat):∀xs:List Nat,val B (trim xs)=val B xs
 | []=>rfl
 | x::xs=>by
  have ih:=Il B xs;simp only[trim];split
  · rename_i h;rw[h.1] at ih;simp only[val] at ih ⊢;rw[←ih,h.2];simp
  · simp only[val,ih]
theorem lC:∀xs:List Nat,trim xs=xs.take (trim xs).length
 | []=>rfl
 | x::xs=>by
  simp only[trim];split
  · rfl
  · simp only[au,List.take_succ_cons];rw[←lC xs]
theorem gS.take{B:Nat}{xs:List Nat}(h:gS B xs)(n:Nat):gS B (xs.take n):=fun x hx=>h x (List.mem_of_mem_take hx)
theorem gS.trim{B:Nat}{xs:List Nat}(h:gS B xs):gS B (trim xs):=by rw[lC];exact h.take _
theorem gS.append{B:Nat}{xs ys:List Nat}(h:gS B xs)(k:gS B ys):gS B (xs++ys):=fun x hx=>by
 rcases List.mem_append.1 hx with h' | h'
 · exact h x h'
 · exact k x h'
theorem Tl(B:Nat):gS B []:=fun _ h=>by cases h
theorem abu{B x:Nat}{xs:List Nat}(hx:x<B)(h:gS B xs):gS B (x::xs):=fun y hy=>by
 rcases ak.1 hy with rfl | h'
 · exact hx
 · exact h y h'
theorem gS.set{B:Nat}{xs:List Nat}(h:gS B xs){i x:Nat}(hx:x<B):gS B (xs.set i x):=fun y hy=>by
 rcases gz hy with h' | rfl
 · exact h y h'
 · exact hx
theorem gS.get{B:Nat}{xs:List Nat}(h:gS B xs){i x:Nat}(hi:xs[i]? = some x):x<B:=h x (ba hi)
def jF(xs:List Nat):Prop:=trim xs=xs
theorem Ni:∀xs:List Nat,trim (trim xs)=trim xs
 | []=>rfl
 | x::xs=>by
  have ih:=Ni xs;simp only[trim];split
  · rfl
  · rename_i h;simp only[trim,ih];rw[if_neg h]
theorem Py(xs:List Nat):jF (trim xs):=Ni xs
theorem jF.tail{x:Nat}{xs:List Nat}(h:jF (x::xs)):jF xs:=by
 unfold jF at *
 simp only[trim] at h;split at h
 · cases h
 · simpa using h
theorem Ho{B:Nat}(hB:0<B):∀{xs:List Nat},jF xs→xs≠[]→0<val B xs
 | [],_,h=>absurd rfl h
 | x::xs,ht,_=>by
  simp only[val];by_cases hx:xs=[]
  · subst hx
    have:x≠0:=by
     rintro rfl;simp[jF,trim] at ht
    omega
  · have:=Nat.mul_pos hB (Ho hB ht.tail hx)
    omega
theorem wA{B:Nat}(hB:1<B):∀{xs ys:List Nat},gS B xs→gS B ys→jF xs→jF ys→val B xs=val B ys→xs=ys
 | [],[],_,_,_,_,_=>rfl
 | [],y::ys,_,_,_,hy,h=>by have:=Ho (B:=B) (by omega) hy (by simp);rw[←h] at this;simp[val] at this
 | x::xs,[],_,_,hx,_,h=>by have:=Ho (B:=B) (by omega) hx (by simp);rw[h] at this;simp[val] at this
 | x::xs,y::ys,hx,hy,tx,ty,h=>by
  simp only[val] at h;have h1:x<B:=hx x (by simp);have h2:y<B:=hy y (by simp);have e1:x=y:=by
   have:=congrArg (· % B) h;simpa[Nat.add_mul_mod_self_left,lv h1,lv h2] using this
  subst e1;have e2:val B xs=val B ys:=by
   have:B*val B xs=B*val B ys:=by omega
   exact Nat.eq_of_mul_eq_mul_left (by omega) this
  rw[wA hB (fun z hz=>hx z (by simp[hz])) (fun z hz=>hy z (by simp[hz])) tx.tail ty.tail e2]
def Nj(B:Nat):Nat→Nat→List Nat
 | 0,_=>[]
 | f+1,n=>if n=0 then [] else (n%B)::Nj B f (n / B)
def digs(B n:Nat):List Nat:=Nj B n n
theorem uC{B:Nat}(hB:1<B):∀(f n:Nat),n≤f→val B (Nj B f n)=n∧gS B (Nj B f n)∧jF (Nj B f n)
 | 0, n, h => by
  obtain rfl:n=0 := by omega
  exact⟨rfl,Tl B,rfl⟩
 | f+1,n,h=>by
  simp only[Nj];split
  · rename_i h0;exact⟨by simp[val,h0],Tl B,rfl⟩
  · rename_i h0
    have hlt:n / B≤f:=by
     have:=Nat.div_lt_self (Nat.pos_of_ne_zero h0) hB;omega
    obtain⟨h1,h2,h3⟩:=uC hB f (n / B) hlt;refine⟨by simp only[val,h1];exact Nat.mod_add_div n B,abu (ku _ (by omega)) h2,?_⟩;unfold jF at *
    simp only[trim,h3];rw[if_neg];rintro⟨h4,h5⟩;rw[h4] at h1;simp only[val] at h1;have:=Nat.mod_add_div n B;rw[h5,←h1] at this;omega
theorem rB{B:Nat}(hB:1<B)(n:Nat):val B (digs B n)=n:=(uC hB n n (ap _)).1
theorem tF{B:Nat}(hB:1<B)(n:Nat):gS B (digs B n):=(uC hB n n (ap _)).2.1
theorem pZ{B:Nat}(hB:1<B)(n:Nat):jF (digs B n):=(uC hB n n (ap _)).2.2
theorem Cg{B:Nat}(hB:1<B){xs:List Nat}(h:gS B xs){n:Nat}(hv:val B xs=n):trim xs=digs B n :=
 wA hB h.trim (tF hB n) (Py xs) (pZ hB n) (by rw[Il,rB hB,hv])
theorem wB{B n:Nat}(hB:1<B):digs B n=[]↔n=0:=by
 constructor
 · intro h;rw[←rB hB n,h];rfl
 · rintro rfl;rfl
theorem nF{B n k:Nat}(hB:1<B)(h:n<B^k):(digs B n).length≤k:=by
 rcases eo k (digs B n).length with hlt | hge
 · exfalso
   have hne:(digs B n)≠[]:=by intro h';rw[h'] at hlt;simp at hlt
   -- the greatest digit is not 0
   have key:∀xs:List Nat,jF xs→xs≠[]→B^(xs.length-1)≤val B xs:=by
    intro xs
    induction xs with
    | nil=>intro _ h;exact absurd rfl h
    | cons x xs ih =>
     intro ht _;by_cases hx:xs=[]
     · subst hx
       have:=Ho (B:=B) (by omega) ht (by simp);simp[val] at this ⊢;omega
     · have:=ih ht.tail hx
       have h2:xs.length≠0:=by simpa using hx
       simp only[au,val,ft];have e:xs.length=(xs.length-1)+1:=by omega
       rw[e,jg];have:=jp B this
       grind
   have:=key _ (pZ hB n) hne;rw[rB hB] at this;have h3:B^k≤B^((digs B n).length-1):=iu (by omega) (by omega);omega
 · exact hge
/-! ### Numbers as values -/
def fC(n:Int):Bool:=decide (n<0)
def lD(n:Nat):List UInt8:=(digs 256 n).reverse.map kx
def jL(n:Int):ByteArray:=⟨(lD n.natAbs).toArray⟩
def W(n:Int):ac:=.agg #[.bool (fC n),.string (jL n)]
def Bd(k:Nat)(n:Int):Prop:=n.natAbs<2^k
theorem Bd.mono{a b:Nat}{n:Int}(h:Bd a n)(hab:a≤b):Bd b n:=fi h (iu (by omega) hab)
theorem Bd.neg{a:Nat}{n:Int}(h:Bd a n):Bd a (-n):=by unfold Bd at *;rwa [Int.natAbs_neg]
theorem Bd.add{a b:Nat}{m n:Int}(h:Bd a m)(k:Bd b n):Bd (max a b+1) (m+n):=by
 unfold Bd at *
 have h1:(m+n).natAbs≤m.natAbs+n.natAbs:=Int.natAbs_add_le m n;have h2:2^a≤2^max a b:=iu (by omega) (Nat.le_max_left a b);have h3:2^b≤2^max a b:=iu (by omega) (Nat.le_max_right a b);rw[jg];omega
theorem Bd.sub{a b:Nat}{m n:Int}(h:Bd a m)(k:Bd b n):Bd (max a b+1) (m-n):=by rw[Int.sub_eq_add_neg];exact h.add k.neg
theorem Bd.mul{a b:Nat}{m n:Int}(h:Bd a m)(k:Bd b n):Bd (a+b) (m*n):=by
 unfold Bd at *
 rw[Int.natAbs_mul,mo];exact Nat.mul_lt_mul_of_lt_of_lt h k
theorem Bd.of_i64{n:Int}(h0 : -9223372036854775808≤n)(h1:n≤9223372036854775807):Bd 64 n:=by
 unfold Bd;omega
theorem Hp(k:Nat):Bd k 0:=by unfold Bd;exact Nat.two_pow_pos k
theorem Nk(n:Int):(jL n).size=(digs 256 n.natAbs).length:=by simp[jL,ByteArray.size,lD]
theorem Pz{k:Nat}{n:Int}(h:Bd k n):(jL n).size≤k:=by
 rw[Nk];refine nF (by omega) (fi h ?_);rw[show 256=2^8 from rfl,←nj];exact iu (by omega) (by omega)
theorem Tm{m n:Nat}(h:lD m=lD n):m=n:=by
 have key:∀k,val 256 (((lD k).map iz).reverse)=k:=by
  intro k;have e:((lD k).map iz).reverse=digs 256 k:=by
   unfold lD;rw[List.map_map,←List.map_reverse,List.reverse_reverse];have:∀x∈digs 256 k,(iz∘kx) x=x:=by
    intro x hx;have:=tF (B:=256) (by omega) k x hx;simp;omega
   exact (ij this).trans (List.map_id' _)
  rw[e,rB (by omega)]
 rw[←key m,←key n,h]
theorem amY{m n:Int}(h:W m=W n):m=n:=by
 simp only[W,Value.agg.injEq,Array.mk.injEq,ke,Value.bool.injEq,Value.string.injEq,and_true] at h;obtain⟨h1,h2⟩:=h;have h3:m.natAbs=n.natAbs:=by
  have:lD m.natAbs=lD n.natAbs:=by simpa[jL] using h2
  exact Tm this
 unfold fC at h1;have:(m<0)↔(n<0):=by simpa using h1
 omega
structure jR(w:ah)(A:Option Addr)(n cap:Nat)(xs:List Nat):Prop where
 eq:n=xs.length
 row:∀(i x:Nat),xs[i]? = some x→∃a,A=some a∧w.cell? (a.add i)=some (.int .u64 (x:Int))
 le:xs.length≤cap
 cap:cap≤9223372036854775807
 len:xs.length≤17592186044416
 digs:gS 4294967296 xs
section
variable {w:ah} {A:Option Addr} {n cap:Nat} {xs:List Nat}
theorem jR.ext{w':ah}(h:jR w A n cap xs)(hE:eW w w'):jR w' A n cap xs :=
 ⟨h.eq,fun i x hi=>let ⟨a,e,hc⟩:=h.row i x hi;⟨a,e,hE.cell hc⟩,h.le,h.cap,h.len,h.digs⟩
theorem jR.take(h:jR w A n cap xs)(k:Nat):jR w A (xs.take k).length cap (xs.take k) :=
 ⟨rfl,fun i x hi=>h.row i x (by rw[dg] at hi;split at hi;exact hi;cases hi),az (by simp;omega) h.le,h.cap,az (by simp;omega) h.len,h.digs.take k⟩
theorem jR.get(h:jR w A n cap xs){i:Nat}(hi:i<xs.length):∃a,A=some a∧w.cell? (a.add i)=some (.int .u64 ((xs[i]:Nat):Int))∧xs[i]<4294967296 :=
 let ⟨a,e,hc⟩:=h.row i xs[i] (an hi);⟨a,e,hc,h.digs _ (ic hi)⟩
theorem jR.as(h:jR w A n cap xs){ys:List Nat}(e:xs=ys):jR w A n cap ys:=e▸h
end
theorem rC:∀ys:List Nat,trim (ys++[0])=trim ys
 | []=>by simp[trim]
 | y::ys=>by simp only[b_,trim,rC ys]
theorem sP{x:Nat}(hx:x≠0):∀ys:List Nat,trim (ys++[x])=ys++[x]
 | []=>by simp[trim,hx]
 | y::ys=>by simp only[b_,trim,sP hx ys];rw[if_neg (by simp)]
theorem Nl{xs:List Nat}{k:Nat}(hk:0<k)(h:k-1<xs.length):xs.take k=xs.take (k-1)++[xs[k-1]]:=by
 have e:k=(k-1)+1:=by omega
 conv=>lhs;rw[e]
 rw[List.take_succ_eq_append_getElem h]
theorem abv{xs:List Nat}{k:Nat}(hk:0<k)(h:k-1<xs.length)(h0:((xs[k-1]:Nat):Int)=0)(ht:trim (xs.take k)=trim xs):trim (xs.take (k-1))=trim xs:=by
 rw[←ht,Nl hk h,show xs[k-1]=0 by omega,rC]
theorem ade{xs:List Nat}{k:Nat}(hk:0<k)(h:k-1<xs.length)(h0:¬((xs[k-1]:Nat):Int)=0)(ht:trim (xs.take k)=trim xs):k=(trim xs).length:=by
 rw[←ht,Nl hk h,sP (by omega)];simp;omega
theorem adf{xs:List Nat}(ht:trim (xs.take 0)=trim xs):0=(trim xs).length:=by rw[←ht];rfl
/-! ### Words in a block -/
abbrev Ee(x:Nat):ac:=.int .u64 (x:Int)
theorem kU{os:List Nat}{i d:Nat}(hi:i<os.length):over (os.map Ee) i [Ee d]=(os.set i d).map Ee:=by
 unfold over;rw[List.set_eq_take_append_cons_drop,if_pos hi];simp[List.map_take,List.map_drop]
theorem lS(n:Nat):de n (Value.int .u64 0)=(de n 0).map Ee:=by simp[Ee]
theorem fA.word{w:ah}{g:Nat}{os:List Nat}{t:aj}(h:fA w g (os.map Ee) t){i:Nat}(hi:i<os.length):w.cell? ⟨g,i,none⟩=some (.int .u64 ((os[i]:Nat):Int)) :=
 h.cell (by simp[hi])
theorem fA.nat{w:ah}{g:Nat}{os:List Nat}{t:aj}(h:fA w g (os.map Ee) t)(hd:gS 4294967296 os){n:Nat}(hn:n=os.length)(hl:n≤17592186044416):jR w (some ⟨g,0,none⟩) n n os :=
 ⟨hn,fun i x hi=>⟨_,rfl,by rw[dT,aq];exact h.cell (by simp[hi])⟩,by omega,by omega,by omega,hd⟩
def oC(n:Nat)(v:ac)(w:ah):Prop:=∃A cap,v=.slice A (digs 4294967296 n).length cap∧jR w A (digs 4294967296 n).length cap (digs 4294967296 n)
theorem oC.of_trim{w:ah}{A:Option Addr}{xs:List Nat}{k cap n:Nat}(h:jR w A k cap xs)(hv:val 4294967296 xs=n):oC n (.slice A (trim xs).length cap) w:=by
 have e:trim xs=digs 4294967296 n:=Cg (by omega) h.digs hv;refine⟨A,cap,by rw[e],?_⟩;have h':=h.take (trim xs).length;rw[←lC,e] at h';exact h'
def Ch(w:ah)(v:ac):Prop:=∀a n c,v=.slice (some a) n c→w.heap.size≤a.block
theorem Ch.of_blk{w:ah}{g off n c:Nat}(h:w.heap.size≤g):Ch w (.slice (some ⟨g,off,none⟩) n c):=fun a n' c' e=>by cases e;exact h
theorem Ef(a:Addr)(i:Nat):(a.add i).block=a.block:=by unfold Addr.add;split <;> rfl
/-! ### Sums of digits -/
theorem xY{B:Nat}:∀{os:List Nat} {j d:Nat} (hj:j<os.length),val B (os.set j d)+B^j*os[j]=val B os+B^j*d
 | x::xs,0,d,_=>by simp[val];omega
 | x::xs,j+1,d,h=>by
  have ih:=xY (B:=B) (os:=xs) (j:=j) (d:=d) (by simpa using h);simp only[eu,val,List.getElem_cons_succ,jg];have:=congrArg (B * ·) ih;simp only[lz] at this
  grind
theorem lT(B n:Nat):val B (de n 0)=0:=by
 induction n with
 | zero=>rfl
 | succ n ih=>simp[List.replicate_succ,val,ih]
theorem iO{B:Nat}{xs:List Nat}{i:Nat}(hi:i<xs.length):val B (xs.take (i+1))=val B (xs.take i)+B^i*xs[i]:=by
 rw[List.take_succ_eq_append_getElem hi,rA,br,gl (by omega)];simp[val]
theorem mL{B:Nat}{xs:List Nat}{i:Nat}(hi:xs.length≤i):val B (xs.take i)=val B xs:=by rw[be hi]
theorem sQ{os:List Nat}{i d:Nat}:(os.set i d).drop (i+1)=os.drop (i+1):=by
 apply fa;intro j;simp only[cu];rw[List.getElem?_set_ne (by omega)]
theorem oM{os:List Nat}{i n:Nat}(h:os.drop i=de n 0)(hi:i<os.length):os[i]=0∧os.drop (i+1)=de (n-1) 0:=by
 rw[fk hi] at h;cases n with
 | zero=>cases h
 | succ n=>simp only[List.replicate_succ,ke] at h;exact⟨h.1,by simpa using h.2⟩
theorem Tn{B:Nat}{os:List Nat}{i d c c' s t T:Nat}(hi:i<os.length)(hs:os[i]+s+c=d+B*c')(hT:val B os+B^i*c=T)(ht:T+B^i*s=t) :
 val B (os.set i d)+B^(i+1)*c'=t:=by
 have h1:=xY (B:=B) (d:=d) hi;have h2:=congrArg (B^i * ·) hs;simp only[lz] at h2;rw[jg]
 grind
/-! ### Order -/
def ord(a b:Nat):Int:=if a<b then -1 else if b<a then 1 else 0
theorem Mi{B:Nat}(hB:1<B){xs ys:List Nat}{k:Nat}(hx:gS B xs)(hlx:k<xs.length)(hly:k<ys.length)(hd:xs.drop (k+1)=ys.drop (k+1))(h:xs[k]<ys[k]):val B xs<val B ys:=by
 have e1:val B xs=val B (xs.take (k+1))+B^(k+1)*val B (xs.drop (k+1)):=by
  conv=>lhs;rw[←kh (k+1) xs]
  rw[rA,br,gl (by omega)]
 have e2:val B ys=val B (ys.take (k+1))+B^(k+1)*val B (ys.drop (k+1)):=by
  conv=>lhs;rw[←kh (k+1) ys]
  rw[rA,br,gl (by omega)]
 rw[e1,e2,hd,iO hlx,iO hly];have h1:=Ik (hx.take k);rw[br,gl (by omega)] at h1;have h2:B^k*(xs[k]+1)≤B^k*ys[k]:=jp _ h;rw[lz] at h2;omega
theorem tG{B:Nat}(hB:1<B){xs ys:List Nat}(hx:gS B xs)(hy:gS B ys)(ty:jF ys)(h:xs.length<ys.length):val B xs<val B ys:=by
 rcases eo (val B xs) (val B ys) with hlt | hge
 · exact hlt
 · exfalso
   have e:ys=digs B (val B ys):=wA hB hy (tF hB _) ty (pZ hB _) (by rw[rB hB]);have h1:val B ys<B^xs.length:=mf hge (Ik hx);have h2:=nF hB h1;rw[←e] at h2;omega
/-! ### The machine's numbers -/
theorem kK(x:Int):IntKind.u64.wrap x=x%18446744073709551616:=by simp[ln,lo,kn]
theorem oT{s:Int}(h0:0≤s)(h1:s<18446744073709551616):IntKind.u64.wrap ((db IntKind.u64.bits s &&& db IntKind.u64.bits 4294967295).toNat:Int)=s%4294967296:=by
 obtain⟨n,rfl⟩:=Int.eq_ofNat_of_zero_le h0;have hn:n<18446744073709551616:=by omega
 have e:(db 64 (n:Int) &&& db 64 4294967295).toNat=n%4294967296:=by
  rw[BitVec.toNat_and];have e1:(db 64 (n:Int)).toNat=n:=by simp[mg];omega
  have e2:(db 64 4294967295).toNat=2^32-1:=by decide
  rw[e1,e2,Nat.and_two_pow_sub_one_eq_mod]
 show IntKind.u64.wrap ((db 64 (n:Int) &&& db 64 4294967295).toNat:Int)=_
 rw[e,vX (by omega) (by omega)];omega
theorem Nm{s:Int}(h0:0≤s):s.fdiv (2^(min (32:Int).toNat IntKind.u64.bits))=s / 4294967296:=by
 show s.fdiv (2^32)=_
 rw[fx _ (by decide)];rfl
theorem ain{s:Int}(h0:0≤s):s.fdiv (2^(min (63:Int).toNat IntKind.u64.bits))=s / 9223372036854775808:=by
 show s.fdiv (2^63)=_
 rw[fx _ (by decide)];rfl
/-! ### Addresses of words -/
theorem pP{a:Addr}{m:Int}{q:Nat}(h:m.toNat=q):a.add (m.toNat*1)=a.add q:=by rw[h,jy]
theorem cI{a:Addr}{m:Int}{c q:Nat}(h:m.toNat=q):a.add (m.toNat*c)=a.add (q*c):=by rw[h]
theorem eT{g:Nat}{m:Int}{q:Nat}(h:m.toNat=q):(⟨g,0,none⟩:Addr).add (m.toNat*1)=⟨g,q,none⟩:=by rw[h,jy,dT,aq]
theorem nG{g:Nat}{m:Int}{c q:Nat}(h:m.toNat=q):(⟨g,0,none⟩:Addr).add (m.toNat*c)=⟨g,q*c,none⟩:=by rw[h,dT,aq]
theorem jR.at{w:ah}{a:Addr}{xs:List Nat}{n cap:Nat}(h:jR w (some a) n cap xs){i:Nat}(hi:i<xs.length):w.cell? (a.add i)=some (.int .u64 ((xs[i]:Nat):Int)):=by
 obtain⟨a',e,hc⟩:=h.row i xs[i] (an hi);cases e;exact hc
/-! ### Rounds -/
theorem adg{xs ys:List Nat}{k:Nat}(hx:gS 4294967296 xs)(hk:0<k)(hlx:k-1<xs.length)(hly:k-1<ys.length)(hd:xs.drop k=ys.drop k)(h:((xs[k-1]:Nat):Int)<((ys[k-1]:Nat):Int)):val 4294967296 xs<val 4294967296 ys :=
 Mi (by omega) hx hlx hly (by rw[show k-1+1=k by omega];exact hd) (by omega)
theorem abw{xs ys:List Nat}{k:Nat}(hk:0<k)(hlx:k-1<xs.length)(hly:k-1<ys.length)(hd:xs.drop k=ys.drop k)(h1:¬((xs[k-1]:Nat):Int)<((ys[k-1]:Nat):Int))(h2:¬((ys[k-1]:Nat):Int)<((xs[k-1]:Nat):Int)):xs.drop (k-1)=ys.drop (k-1):=by
 rw[fk hlx,fk hly,show k-1+1=k by omega,hd,show xs[k-1]=ys[k-1] by omega]
theorem xZ{os xs ys:List Nat}{i c s:Nat}(hi:i<xs.length)(hlo:os.length=xs.length+1)(hv:val 4294967296 os+4294967296^i*c=val 4294967296 (xs.take i)+val 4294967296 (ys.take i))(hz:os.drop i=de (xs.length+1-i) 0)(hd:gS 4294967296 os)(hc:c≤1)
 (hs:s=xs[i]+c+ys[i]?.getD 0) (hx:xs[i]<4294967296) (hy:ys[i]?.getD 0<4294967296) :
 val 4294967296 (os.set i (s%4294967296))+4294967296^(i+1)*(s / 4294967296)=val 4294967296 (xs.take (i+1))+val 4294967296 (ys.take (i+1))∧(os.set i (s%4294967296)).drop (i+1)=de (xs.length+1-(i+1)) 0∧gS 4294967296 (os.set i (s%4294967296))∧s / 4294967296≤1:=by
 obtain⟨z1,z2⟩:=oM hz (by omega);refine⟨?_,?_,hd.set (ku _ (by omega)),by omega⟩
 · refine Tn (s:=xs[i]+ys[i]?.getD 0) (by omega) (by rw[z1];omega) hv ?_
   rw[iO hi];by_cases hy':i<ys.length
   · rw[iO hy',an hy']
     simp only[cv,lz];omega
   · rw[ee (by omega),mL (xs:=ys) (i:=i+1) (by omega),mL (xs:=ys) (i:=i) (by omega)]
     simp;omega
 · rw[sQ,z2]
   congr 1
theorem Hq{os xs ys:List Nat}{c:Nat}(hle:ys.length≤xs.length)(hlo:os.length=xs.length+1)(hv:val 4294967296 os+4294967296^xs.length*c=val 4294967296 (xs.take xs.length)+val 4294967296 (ys.take xs.length))(hz:os.drop xs.length=de (xs.length+1-xs.length) 0) :
 val 4294967296 (os.set xs.length c)=val 4294967296 xs+val 4294967296 ys:=by
 obtain⟨z1,_⟩:=oM hz (by omega);have h:=xY (B:=4294967296) (d:=c) (show xs.length<os.length by omega);rw[z1] at h;rw[fy,mL hle] at hv;omega
theorem Nn{os xs ys:List Nat}{i c s:Nat}(hi:i<xs.length)(hlo:os.length=xs.length)(hv:val 4294967296 os+val 4294967296 (ys.take i)=val 4294967296 (xs.take i)+4294967296^i*c)(hz:os.drop i=de (xs.length-i) 0)(hd:gS 4294967296 os)(hc:c≤1)
 (hs:(s:Int)=((xs[i]:Nat)-(c:Nat)-(ys[i]?.getD 0:Nat):Int)%18446744073709551616) (hx:xs[i]<4294967296) (hy:ys[i]?.getD 0<4294967296) :
 val 4294967296 (os.set i (s%4294967296))+val 4294967296 (ys.take (i+1))=val 4294967296 (xs.take (i+1))+4294967296^(i+1)*(s / 9223372036854775808)∧(os.set i (s%4294967296)).drop (i+1)=de (xs.length-(i+1)) 0∧gS 4294967296 (os.set i (s%4294967296))∧s / 9223372036854775808≤1:=by
 obtain⟨z1,z2⟩:=oM hz (by omega);have key:xs[i]+4294967296*(s / 9223372036854775808)=s%4294967296+c+ys[i]?.getD 0:=by omega
 refine⟨?_,?_,hd.set (ku _ (by omega)),by omega⟩
 · have h1:=xY (B:=4294967296) (d:=s%4294967296) (show i<os.length by omega)
   rw[z1] at h1;have h2:=congrArg (4294967296^i * ·) key;simp only[lz] at h2;rw[iO hi,jg];have h3:val 4294967296 (ys.take (i+1))=val 4294967296 (ys.take i)+4294967296^i*ys[i]?.getD 0:=by
    by_cases hy':i<ys.length
    · rw[iO hy',an hy'];rfl
    · rw[ee (by omega),mL (xs:=ys) (i:=i+1) (by omega),mL (xs:=ys) (i:=i) (by omega)];rfl
   rw[h3]
   grind
 · rw[sQ,z2]
   congr 1
theorem agz{os xs ys:List Nat}{c:Nat}(hle:ys.length≤xs.length)(hlo:os.length=xs.length)(hd:gS 4294967296 os)(hv:val 4294967296 os+val 4294967296 (ys.take xs.length)=val 4294967296 (xs.take xs.length)+4294967296^xs.length*c)(hge:val 4294967296 ys≤val 4294967296 xs) :
 val 4294967296 os=val 4294967296 xs-val 4294967296 ys:=by
 rw[fy,mL hle] at hv;have h:=Ik hd;rw[hlo] at h;have hc:c=0:=by
  rcases io c with h0 | h0
  · exact h0
  · have:=jp (4294967296^xs.length) h0
    omega
 subst hc;omega
theorem abx{os xs ys:List Nat}{i k c s:Nat}(hi:i<xs.length)(hk:k<ys.length)(hlo:os.length=xs.length+ys.length)(hv:val 4294967296 os+4294967296^(i+k)*c=val 4294967296 (xs.take i)*val 4294967296 ys+4294967296^i*(xs[i]*val 4294967296 (ys.take k)))
 (hs:s=os[i+k]+xs[i]*ys[k]+c):val 4294967296 (os.set (i+k) (s%4294967296))+4294967296^(i+(k+1))*(s / 4294967296)=val 4294967296 (xs.take i)*val 4294967296 ys+4294967296^i*(xs[i]*val 4294967296 (ys.take (k+1))):=by
 refine Tn (s:=xs[i]*ys[k]) (i:=i+k) (by omega) (by omega) hv ?_;rw[iO hk,mo]
 grind
theorem To{os:List Nat}{i j d:Nat}(h:i<j):(os.set i d).drop j=os.drop j:=by
 apply fa;intro m;simp only[cu];rw[List.getElem?_set_ne (by omega)]
theorem agA{os xs ys:List Nat}{i c:Nat}(hi:i<xs.length)(hlo:os.length=xs.length+ys.length)(hv:val 4294967296 os+4294967296^(i+ys.length)*c=val 4294967296 (xs.take i)*val 4294967296 ys+4294967296^i*(xs[i]*val 4294967296 (ys.take ys.length)))(hz:os.drop (i+ys.length)=de (xs.length-i) 0) :
 val 4294967296 (os.set (i+ys.length) c)=val 4294967296 (xs.take (i+1))*val 4294967296 ys∧(os.set (i+ys.length) c).drop (i+1+ys.length)=de (xs.length-(i+1)) 0:=by
 obtain⟨z1,z2⟩:=oM hz (by omega);have h:=xY (B:=4294967296) (d:=c) (show i+ys.length<os.length by omega);rw[z1] at h;rw[fy] at hv;refine⟨?_,?_⟩
 · rw[iO hi]
   grind
 · rw[show i+1+ys.length=i+ys.length+1 by omega,sQ,z2]
   congr 1
theorem ai6{x y:Nat}(hx:x<4294967296)(hy:y<4294967296):x*y≤18446744065119617025:=by
 have:=Nat.mul_le_mul (Nat.le_sub_one_of_lt hx) (Nat.le_sub_one_of_lt hy);omega
theorem agB{x y:Nat}(hx:x<4294967296)(hy:y<4294967296):(0:Int)≤(x:Int)*(y:Int)∧(x:Int)*(y:Int)≤18446744065119617025:=by
 have h:=ai6 hx hy;have e:((x*y:Nat):Int)=(x:Int)*(y:Int):=lh x y;rw[←e];omega
/-! ### Shifts,divisions by a word -/
theorem agC{m n:Nat}(hn:n<64)(h:m*2^n<18446744073709551616):IntKind.u64.wrap ((m:Int)*2^(min (n:Int).toNat IntKind.u64.bits))=((m*2^n:Nat):Int):=by
 have e:min (n:Int).toNat IntKind.u64.bits=n:=by
  show min (n:Int).toNat 64=n
  rw[ag];omega
 rw[e];have e2:((m:Int)*2^n)=((m*2^n:Nat):Int):=by simp
 rw[e2];exact vX (by omega) (by omega)
theorem ai7{a b s c:Nat}(ha:a<2^s)(hb:b=2^s*c)(h:a+b<18446744073709551616):IntKind.u64.wrap ((db IntKind.u64.bits (a:Int) ||| db IntKind.u64.bits (b:Int)).toNat:Int)=((a+b:Nat):Int):=by
 have e:(db 64 (a:Int) ||| db 64 (b:Int)).toNat=a+b:=by
  rw[BitVec.toNat_or];have e1:(db 64 (a:Int)).toNat=a:=by simp[mg];omega
  have e2:(db 64 (b:Int)).toNat=b:=by simp[mg];omega
  rw[e1,e2,Nat.or_comm,hb,←Nat.two_pow_add_eq_or_of_lt ha];omega
 show IntKind.u64.wrap ((db 64 (a:Int) ||| db 64 (b:Int)).toNat:Int)=_
 rw[e];exact vX (by omega) (by omega)
theorem agD{a b s c:Nat}(ha:a<2^s)(hb:b=2^s*c)(h:a+b<18446744073709551616):IntKind.u64.wrap ((db IntKind.u64.bits (b:Int) ||| db IntKind.u64.bits (a:Int)).toNat:Int)=((a+b:Nat):Int):=by
 have:=ai7 ha hb h;rwa [BitVec.or_comm] at this
theorem aav{s:Nat}(h:s<18446744073709551616):IntKind.u64.wrap ((db IntKind.u64.bits (s:Int) &&& db IntKind.u64.bits 4294967295).toNat:Int)=((s%4294967296:Nat):Int):=by
 rw[oT (by omega) (by omega)];omega
theorem agE{m n:Nat}:(m:Int).tmod (n:Int)=((m%n:Nat):Int):=(Int.ofNat_tmod m n).symm
theorem Mj{B:Nat}{xs:List Nat}{k:Nat}(hk:0<k)(h:k-1<xs.length):val B (xs.drop (k-1))=xs[k-1]+B*val B (xs.drop k):=by
 rw[fk h,show k-1+1=k by omega];rfl
end Go.Lith
namespace Go.Lith
open Go.RowKit
section
variable {P:bc} {ds:List cg} {l:List ac} {x y z0:a_} {T T' ty:aj}
theorem Tp{A:Option Addr}{n c:Nat}{E:aj}(hu:P.underlying T=some (.slice E))(hx:ev l x=.slice A n c)(hy:ev l y=.slice none 0 0):gI P l (.binOp .eql T x y T') ty (.bool A.isNone):=fun w o ho _=>by
 obtain⟨D,hD⟩:∃D,Op.maxDepth=D+1:=⟨9999,rfl⟩
 cases A <;> simp[ck,ho,bS,hx,hy,eqGuard,binOp,Op.equal,hD,Op.equalIn,bu hu]
variable {ops:Array Oper} {Q:Exit→Act→ah→Prop} {rest:List Oper} {d:Nat} {pos:String} {after:Array Edge} {w:ah}
theorem Qd:nt (fun (_:Nat)=>(default:ac)) (mp 0) = #[]:=Array.eq_empty_of_size_eq_zero (by simp)
theorem Qe(z v:ac):(nt (fun x=>[z][x%1]?.getD default) (mp 1)).setIfInBounds 0 v = #[v]:=by
 apply nu (by simp);intro i h1 h2;obtain rfl:i=0:=by simpa using h2
 simp
theorem Ci(z v v2:ac):((nt (fun x=>[z][x%1]?.getD default) (mp 2)).setIfInBounds 0 v).setIfInBounds 1 v2 = #[v,v2]:=by
 apply nu (by simp);intro i h1 h2;have h3:i<2:=by simpa using h2
 rcases eo i 1 with h | h
 · obtain rfl:i=0:=by omega
   simp
 · obtain rfl:i=1:=by omega
   simp
theorem Tq{E:aj}{c:Nat}(hu:P.underlying T=some (.slice E))(hi:(P.info? E).map (fun i=>i.size)=some c)
 (h:∀w' g,eW w w'→w.heap.size≤g→fA w' g [] E→ao P ops Q rest (Fr (l.set d (.slice (some ⟨g,0,none⟩) 0 0)) ds) w') :
 ao P ops Q (bi (some d) (.buildSlice T 0 #[]) ty pos after none::rest) (Fr l ds) w:=by
 cases hq:P.info? E with
 | none=>rw[hq] at hi;cases hi
 | some i =>
  exact kN (w':=w.alloc (.cells #[] E)) (v:=.slice (some ⟨w.heap.size,0,none⟩) 0 0) (fun o ho _=>by simp[ck,ho,Instr.buildSlice,bu hu,sizeOf,typeInfo,hq,Instr.fill,newRow,newObj,Sem.run,Qd]) (h _ _ ((eW.refl w).alloc _) (ap _) (gX w [] E))
theorem Im{E:aj}{z:ac}(hu:P.underlying T=some (.slice E))(hi:(P.info? E).map (fun i=>(i.size,i.zero))=some (1,some z))(hz:z.cells = #[z]){v:ac}(hx:ev l x=v)(hv:v.cells = #[v])
 (h:∀w' g,eW w w'→w.heap.size≤g→fA w' g [v] E→ao P ops Q rest (Fr (l.set d (.slice (some ⟨g,0,none⟩) 1 1)) ds) w') :
 ao P ops Q (bi (some d) (.buildSlice T 1 #[(0,x)]) ty pos after none::rest) (Fr l ds) w:=by
 cases hq:P.info? E with
 | none=>rw[hq] at hi;cases hi
 | some i =>
  rw[hq] at hi;simp only[d_,fp,ff] at hi;obtain⟨e1,e2⟩:=hi;exact kN (w':=w.alloc (.cells #[v] E)) (v:=.slice (some ⟨w.heap.size,0,none⟩) 1 1) (fun o ho _=>by simp[ck,ho,Instr.buildSlice,bu hu,sizeOf,typeInfo,zeroValue,hq,e1,e2,hz,bS,hx,hv,Instr.fill,newRow,newObj,Sem.run,Qe]) (h _ _ ((eW.refl w).alloc _) (ap _) (gX w [v] E))
theorem Tr{E:aj}{z:ac}(hu:P.underlying T=some (.slice E))(hi:(P.info? E).map (fun i=>(i.size,i.zero))=some (1,some z))(hz:z.cells = #[z]){v v2:ac}(hx:ev l x=v)(hv:v.cells = #[v])(hy:ev l y=v2)(hv2:v2.cells = #[v2])
 (h:∀w' g,eW w w'→w.heap.size≤g→fA w' g [v,v2] E→ao P ops Q rest (Fr (l.set d (.slice (some ⟨g,0,none⟩) 2 2)) ds) w') :
 ao P ops Q (bi (some d) (.buildSlice T 2 #[(0,x),(1,y)]) ty pos after none::rest) (Fr l ds) w:=by
 cases hq:P.info? E with
 | none=>rw[hq] at hi;cases hi
 | some i =>
  rw[hq] at hi;simp only[d_,fp,ff] at hi;obtain⟨e1,e2⟩:=hi;exact kN (w':=w.alloc (.cells #[v,v2] E)) (v:=.slice (some ⟨w.heap.size,0,none⟩) 2 2) (fun o ho _=>by simp[ck,ho,Instr.buildSlice,bu hu,sizeOf,typeInfo,zeroValue,hq,e1,e2,hz,bS,hx,hv,hy,hv2,Instr.fill,newRow,newObj,Sem.run,Ci]) (h _ _ ((eW.refl w).alloc _) (ap _) (gX w [v,v2] E))
end
end Go.Lith
namespace Go.Lith
theorem Xc{m:Nat}:(m:Int).fdiv (2^(min (32:Int).toNat IntKind.u64.bits))=((m / 4294967296:Nat):Int):=by
 rw[Nm (by omega)];omega
/-! ### Slices of words -/
end Go.Lith
namespace Go.Lith
open Go.RowKit
theorem amZ{P:bc}{l:List ac}{w:ah}{fn:Func}{R:Ending→ah→Prop}(hr:fn.results = #[])(hR:R (.returned (.tuple #[])) w):bodyPost P fn R .ret (Fr l) w:=by
 refine⟨rfl,_,?_,hR⟩;unfold results;rw[hr];simp
theorem zY{P:bc}{l:List ac}{w:ah}{fn:Func}{R:Ending→ah→Prop}(hr:fn.results = #[])(hR:R (.returned (.tuple #[])) w):bodyPost P fn R .normal (Fr l) w:=amZ hr hR
section
variable {P:bc} {ds:List cg} {l:List ac} {x y:a_} {ty:aj} {w:ah}
variable {ops:Array Oper} {Q:Exit→Act→ah→Prop} {rest:List Oper} {d:Nat} {pos:String} {after:Array Edge}
end
end Go.Lith
namespace Go.Lith
theorem ai8{a b:Nat}:decide (ord a b<0)=decide (a<b):=by
 unfold ord;split
 · simp[*]
 · split <;> simp[*]
theorem gK(n:Nat):val 4294967296 (digs 4294967296 n)=n:=rB (by omega) n
theorem wD(n:Nat):jF (digs 4294967296 n):=pZ (by omega) n
theorem Ts(n:Nat):gS 4294967296 (digs 4294967296 n):=tF (by omega) n
theorem Io(xs:List Nat):(trim xs).length≤xs.length:=by rw[lC];simp;omega
theorem Ip{a b:Nat}:ord a b<0↔a<b:=by
 have:=@ai8 a b;simpa using this
theorem Qf{r:Nat}(h:r≤4):(4294967296:Nat)=256^r*256^(4-r):=by rw[←mo,show r+(4-r)=4 by omega]
theorem Iq(r:Nat):(256:Nat)^r=2^(8*r):=by rw[show 256=2^8 from rfl,←nj]
theorem adh{x b r:Nat}(hr:r<4)(hx:x<4294967296)(hd:256^(r+1)∣x)(hb:b<256):x+b*256^r<4294967296:=by
 obtain⟨c,rfl⟩:=hd;have e:=Qf (r:=r+1) (by omega);rw[e] at hx ⊢;have h1:=Nat.lt_of_mul_lt_mul_left hx;have h2:256^(r+1)*(c+1)≤256^(r+1)*256^(4-(r+1)):=jp _ h1;rw[lz,jy] at h2;have h3:(b+1)*256^r≤256*256^r:=ky _ hb;have h4:(256:Nat)^(r+1)=256*256^r:=Nat.pow_succ';have h5:0<(256:Nat)^r:=Nat.pow_pos (by omega);rw[iv,Nat.one_mul] at h3;generalize 256^(r+1)*256^(4-(r+1))=Z at *
 generalize 256^(r+1)*c=Y at *
 omega
theorem aby{os bs:List Nat}{p j r:Nat}(hp:p<bs.length)(hpj:p=4*j+r)(hr:r<4)(hj:j<os.length)(hd:gS 4294967296 os)(hb:gS 256 bs)(hdv:∀(i:Nat) (h:i<os.length),256^(p+1-4*i)∣os[i])(hv:val 4294967296 os=256^(p+1)*val 256 (bs.drop (p+1))) :
 os[j]+bs[p]*256^r<4294967296∧256^(r+1)∣os[j]∧(∀(i:Nat) (h:i<(os.set j (os[j]+bs[p]*256^r)).length),256^(p-4*i)∣(os.set j (os[j]+bs[p]*256^r))[i])∧val 4294967296 (os.set j (os[j]+bs[p]*256^r))=256^p*val 256 (bs.drop p):=by
 have h1:=hdv j hj;rw[show p+1-4*j=r+1 by omega] at h1;have hx:=hd _ (ic hj);have hby:=hb _ (ic hp);refine⟨adh hr hx h1 hby,h1,?_,?_⟩
 · intro i h
   by_cases e:i=j
   · subst e
     rw[List.getElem_set_self,show p-4*i=r by omega];exact Nat.dvd_add (Nat.dvd_trans (Nat.pow_dvd_pow 256 (by omega)) h1) (Nat.dvd_mul_left _ _)
   · rw[List.getElem_set_ne (by omega)]
     exact Nat.dvd_trans (Nat.pow_dvd_pow 256 (by omega)) (hdv i (by simpa using h))
 · have e1:=xY (B:=4294967296) (os:=os) (j:=j) (d:=os[j]+bs[p]*256^r) hj
   have e2:=Mj (B:=256) (xs:=bs) (k:=p+1) (by omega) (by simpa using hp);simp only[ft] at e2;have e3:(4294967296:Nat)^j*256^r=256^p:=by
    rw[show (4294967296:Nat)=256^4 from rfl,←nj,←mo,hpj]
   rw[e2,←e3];rw[jg,←e3] at hv;generalize (4294967296:Nat)^j=Q at *
   generalize (256:Nat)^r=R at *
   generalize val 256 (bs.drop (p+1))=D at *
   generalize val 4294967296 (os.set j (os[j]+bs[p]*R))=L at *
   generalize val 4294967296 os=M at *
   subst hv
   grind
end Go.Lith
namespace Go.Lith
open Go.RowKit
def am0(w:ah)(S:ah→Prop):Prop:=S w
section
variable {P:bc} {ops:Array Oper} {md:Region.Mode} {S:ah→Prop}
def bE(P:bc)(ops:Array Oper)(S:ah→Prop)(Q:Exit→Act→ah→Prop):List (Oper × Bool)→Act→ah→Prop
 | [],a,w=>Q .normal a w
 | (o,true)::r,a,w=>∃v,YieldsIf P ops S o v a∧bE P ops S Q r (a.put o.dst v) w
 | (o,false)::r,a,w=>ao P ops (Exit.then (fun a w=>S w∧bE P ops S Q r a w) Q) [o] a w
theorem sR{Q:Exit→Act→ah→Prop}(hs:Region.noSelect ops=true)(hQ:∀c d v a w,Q (.panic c) (Act.put a d v) w→Q (.panic c) a w):∀(l:List (Nat × Bool)) (listed:Array Bool) (a:Act) (w:ah),
 Pt md ops l listed=true→S w→bE P ops S Q (l.map fun x=>((ops[x.1]?).getD default,x.2)) a w→wpAnyH P md ops Q S l.length listed a w
 | [],listed,a,w,hB,_,h=>⟨by simpa[Pt] using hB,h⟩
 | (i,true)::r,listed,a,w,hB,hS,h=>by
  simp only[Pt,bh] at hB;obtain⟨⟨⟨h1,h2⟩,h3⟩,h4⟩:=hB;obtain⟨o,ho⟩:=df.1 h1;simp only[bn,bE,ho,cv] at h;obtain⟨v,hy,hr⟩:=h;exact wpAnyH_take ho hs h2 h3 (fun c a w=>hQ c _ v a w) hy hS (sR hs hQ r _ _ _ h4 hS hr)
 | (i,false)::r,listed,a,w,hB,hS,h=>by
  simp only[Pt,bh,decide_eq_true_eq] at hB;obtain⟨⟨h1,h2⟩,h4⟩:=hB;obtain⟨o,ho⟩:=df.1 h1;refine wpAnyH_all h2 (by simp) fun j hj=>?_;obtain rfl:j=i:=by simpa using hj
  simp only[bn,bE,ho,cv] at h;have key:∀a' w',Exit.then (fun a w=>S w∧bE P ops S Q (r.map fun x=>((ops[x.1]?).getD default,x.2)) a w) Q .normal a' w'→S w'∧wpAnyH P md ops Q S r.length (listed.setIfInBounds j true) a' w':=fun a' w' hh=>⟨hh.1,sR hs hQ r _ a' w' h4 hh.1 hh.2⟩
  unfold wpOp;simp only[ho];simp only[ao] at h;split
  · rename_i hw
    rw[if_pos hw] at h;rcases h with h | ⟨ha,x,y,hl⟩
    · refine .inl ?_
      unfold kj at h ⊢;generalize (ck a.eval o).run P w=res at *
      cases res with
      | ok n w' =>
       cases n <;> simp only[lj] at h ⊢ <;>
        first
         | exact key _ _ h
         | exact Calls.mono h (fun e w'' he=>by cases e <;> first | exact key _ _ he | exact he)
         | exact Rows.mono h (fun _ _ he=>key _ _ he)
      | halt x w'=>cases x <;> simp only[lj] at h ⊢ <;> exact h
    · exact .inr ⟨ha,x,y,hl⟩
  · rename_i hw
    rw[if_neg hw] at h;exact key _ _ h
theorem vE{id:Nat}{Q:Exit→Act→ah→Prop}{a:Act}{w:ah}{l:List Oper}(o:List (Nat × Bool))(hm:P.follows .mixedOrders=true)(hB:(Region.noSelect l.toArray&&decide (o.length=l.length)&&Pt .any l.toArray o (fc l.toArray.size false))=true)
 (hQ:∀c d v a w,Q (.panic c) (Act.put a d v) w→Q (.panic c) a w) {ol:List (Oper × Bool)} (hol:(o.map fun x=>((l.toArray[x.1]?).getD default,x.2))=ol)
 (h:∀w',eW w w'→∃S,am0 w' S∧bE P l.toArray S Q ol a w'):(Code.region id l.toArray true).wp P Q a w:=by
 simp only[bh,decide_eq_true_eq] at hB;subst hol;obtain⟨S,hS,h⟩:=h _ (eW.refl w).drawn;refine wp_region_held (S:=S) hm ?_;have:=sR (md:=.any) hB.1.1 hQ o _ a { w with drawn:=w.drawn+1 } hB.2 hS h;rwa [hB.1.2] at this
variable {ds:List cg} {l:List ac} {Q:Exit→Act→ah→Prop} {w:ah} {rest:List (Oper × Bool)} {d:Nat} {op:Op} {ty:aj} {pos:String} {after:Array Edge} {v:ac}
theorem Qg(hr:∀w,S w→vL P l op ty v w)(h:bE P ops S Q rest (Fr (l.set d v) ds) w):bE P ops S Q ((bi (some d) op ty pos after none,true)::rest) (Fr l ds) w:=by
 refine⟨v,.inl ⟨by simp[Region.wanted],fun w hw=>hr w hw _ rfl rfl⟩,?_⟩;show bE P ops S Q rest ((Fr l ds).put (some d) v) w
 rw[gE];exact h
theorem aU(hr:gI P l op ty v)(h:bE P ops S Q rest (Fr (l.set d v) ds) w):bE P ops S Q ((bi (some d) op ty pos after none,true)::rest) (Fr l ds) w:=Qg (fun w _=>hr w) h
theorem eN{T:aj}{x:a_}{a:Addr}(hx:ev l x=.pointer (some a))(hv:∀w',S w'→gM P w' T a v)(h:bE P ops S Q rest (Fr (l.set d v) ds) w):bE P ops S Q ((bi (some d) (.load T x) ty pos after none,true)::rest) (Fr l ds) w :=
 Qg (fun _ hS=>aW hx (hv _ hS)) h
theorem iR{j:Nat}{b:Bool}(hw:yielded ops l.toArray j=some b)(h:bE P ops S Q ((bi (some d) op ty pos after none,true)::rest) (Fr l ds) w):bE P ops S Q ((bi (some d) op ty pos after (some (j,b)),true)::rest) (Fr l ds) w:=by
 obtain⟨v,hy,h⟩:=h;refine⟨v,?_,h⟩;rcases hy with ⟨_,hy⟩ | ⟨hn,_⟩
 · exact .inl ⟨by simp[Region.wanted,hw],hy⟩
 · simp[Region.wanted] at hn
theorem ai9{j:Nat}{b c:Bool}(hw:yielded ops l.toArray j=some c)(hbc:(c == b)=false)(h:bE P ops S Q rest (Fr (l.set d undef) ds) w):bE P ops S Q ((bi (some d) op ty pos after (some (j,b)),true)::rest) (Fr l ds) w:=by
 refine⟨undef,.inr ⟨by simp[Region.wanted,hw];simpa using hbc,rfl⟩,?_⟩;show bE P ops S Q rest ((Fr l ds).put (some d) undef) w
 rw[gE];exact h
theorem qA{j:Nat}(hw:yielded ops l.toArray j=some false)(h:bE P ops S Q rest (Fr (l.set d undef) ds) w):bE P ops S Q ((bi (some d) op ty pos after (some (j,true)),true)::rest) (Fr l ds) w:=ai9 hw rfl h
theorem bM(h:Q .normal (Fr l ds) w):bE P ops S Q [] (Fr l ds) w:=h
theorem bV{o:Oper}(h:ao P ops (Exit.then (fun a w=>S w∧bE P ops S Q rest a w) Q) [o] (Fr l ds) w):bE P ops S Q ((o,false)::rest) (Fr l ds) w:=h
end
def qB(P:bc)(d:Nat)(T:aj)(x y:ac)(p:Prop):Prop:=∀w,∃b:Bool,(Op.equalIn d T x y).run P w=.ok b w∧(b=true↔p)
section
variable {P:bc} {d:Nat} {T:aj}
theorem qB.int{k k':IntKind}{m n:Int}(hu:P.underlying T=some (.int k')):qB P (d+1) T (.int k m) (.int k n) (m=n):=fun w=>⟨m == n,by unfold Op.equalIn;simp[bu hu],by simp⟩
theorem qB.bool{a b:Bool}(hu:P.underlying T=some .bool):qB P (d+1) T (.bool a) (.bool b) (a=b):=fun w=>⟨a == b,by unfold Op.equalIn;simp[bu hu],by simp⟩
theorem Is{a b:ByteArray}(h:a.toList=b.toList):a=b:=by
 rw[ByteArray.toList_eq,ByteArray.toList_eq] at h;cases a;cases b;simp at h;rw[h]
theorem Qh(a b:ByteArray):(a.toList == b.toList)=decide (a=b):=by
 by_cases h:a=b
 · subst h;simp
 · rw[decide_eq_false h];exact beq_eq_false_iff_ne.2 fun e=>h (Is e)
theorem qB.str{a b:ByteArray}(hu:P.underlying T=some .string):qB P (d+1) T (.string a) (.string b) (a=b):=fun w=>⟨a == b,by unfold Op.equalIn;simp[bu hu],by rw[beq_toListBytes,Qh];simp⟩
def uD(P:bc)(d:Nat)(xs ys:Array ac)(fs:List Field)(p:Prop):Prop:=∀w,∃b:Bool,(Op.eqFields d xs ys fs).run P w=.ok b w∧(b=true↔p)
theorem uD.nil{xs ys:Array ac}:uD P d xs ys [] True:=fun w=>⟨true,by simp[Op.eqFields],by simp⟩
theorem uD.cons{xs ys:Array ac}{f:Field}{fs:List Field}{x y:ac}{p q:Prop} (hn:f.name ≠ "_") (hx:∀w,(part f.type xs f.offset).run P w=.ok x w) (hy:∀w,(part f.type ys f.offset).run P w=.ok y w)
 (h:qB P d f.type x y p) (k:uD P d xs ys fs q):uD P d xs ys (f::fs) (p∧q):=fun w=>by
 obtain⟨b,hb,hp⟩:=h w;obtain⟨c,hc,hq⟩:=k w;cases b
 · exact⟨false,by simp[Op.eqFields,hn,hx,hy,hb],by simp at hp ⊢;intro h;exact absurd h hp⟩
 · exact⟨c,by simp[Op.eqFields,hn,hx,hy,hb,hc],by simp at hp;simp[hp,hq]⟩
def oU(P:bc)(d:Nat)(E:aj)(n:Nat)(xs ys:Array ac)(is:List Nat)(p:Prop):Prop:=∀w,∃b:Bool,(Op.eqItems d E n xs ys is).run P w=.ok b w∧(b=true↔p)
theorem oU.nil{E:aj}{n:Nat}{xs ys:Array ac}:oU P d E n xs ys [] True:=fun w=>⟨true,by simp[Op.eqItems],by simp⟩
theorem oU.cons{E:aj}{n i:Nat}{is:List Nat}{xs ys:Array ac}{x y:ac}{p q:Prop}(hx:∀w,(part E xs (i*n)).run P w=.ok x w)(hy:∀w,(part E ys (i*n)).run P w=.ok y w)
 (h:qB P d E x y p) (k:oU P d E n xs ys is q):oU P d E n xs ys (i::is) (p∧q):=fun w=>by
 obtain⟨b,hb,hp⟩:=h w;obtain⟨c,hc,hq⟩:=k w;cases b
 · exact⟨false,by simp[Op.eqItems,hx,hy,hb],by simp at hp ⊢;intro h;exact absurd h hp⟩
 · exact⟨c,by simp[Op.eqItems,hx,hy,hb,hc],by simp at hp;simp[hp,hq]⟩
theorem qB.struct{fs:Array Field}{xs ys:Array ac}{p:Prop}(hu:P.underlying T=some (.struct fs))(hs:P.stoodInHeld T=false)(h:uD P d xs ys fs.toList p):qB P (d+1) T (.agg xs) (.agg ys) p:=fun w=>by
 have hf:P.fieldsOf T=fs:=by simp[Program.fieldsOf,hu]
 rw[run_equalIn_struct w d T xs ys (by rw[hf];exact hu) hs,hf];exact h w
theorem qB.array{n c:Nat}{E:aj}{xs ys:Array ac}{p:Prop}(hu:P.underlying T=some (.array n E))(hc:cS P E c)(h:oU P d E c xs ys (ip n) p):qB P (d+1) T (.agg xs) (.agg ys) p:=fun w=>by
 obtain⟨i,hi,rfl⟩:=hc;have hE:P.cellsOf E=i.size:=by simp[Program.cellsOf,hi]
 rw[run_equalIn_array w d xs ys hu hi,hE];exact h w
theorem qB.iff{x y:ac}{p q:Prop}(h:qB P d T x y p)(hpq:p↔q):qB P d T x y q:=fun w=>let ⟨b,hb,hp⟩:=h w;⟨b,hb,hp.trans hpq⟩
theorem cB{xs:Array ac}{off:Nat}{v:ac}(hA:dV P T false)(hv:xs[off]? = some v)(w:ah):(part T xs off).run P w=.ok v w:=by simp[part,nB hA,hv]
theorem bZ{xs us:Array ac}{off c:Nat}(hA:dV P T true)(hc:cS P T c)(hv:xs.extract off (off+c)=us)(w:ah):(part T xs off).run P w=.ok (.agg us) w:=by
 subst hv;simp[part,nB hA,dH hc]
variable {l:List ac} {x y:a_} {T' ty:aj}
theorem uE{u v:ac}{p:Prop}[Decidable p](h:qB P 10000 T u v p)(w:ah):(Op.equal T u v).run P w=.ok (decide p) w:=by
 obtain⟨b,hb,hp⟩:=h w;rw[Op.equal,show Op.maxDepth=10000 from rfl,hb]
 congr 1
 cases b
 · exact (decide_eq_false (by simpa using hp)).symm
 · exact (decide_eq_true (by simpa using hp)).symm
theorem Iu{xs ys:Array ac}{p:Prop}[Decidable p](hg:P.eqGuardType P.depth T=false)(hx:ev l x=.agg xs)(hy:ev l y=.agg ys)(h:qB P 10000 T (.agg xs) (.agg ys) p):gI P l (.binOp .eql T x y T') ty (.bool (decide p)):=fun w o ho _=>by
 simp[ck,ho,bS,hx,hy,eqGuard,binOp,hg,uE h]
theorem adi{xs ys:Array ac}{p:Prop}[Decidable p](hg:P.eqGuardType P.depth T=false)(hx:ev l x=.agg xs)(hy:ev l y=.agg ys)(h:qB P 10000 T (.agg xs) (.agg ys) p):gI P l (.binOp .neq T x y T') ty (.bool (decide (¬p))):=fun w o ho _=>by
 simp[ck,ho,bS,hx,hy,eqGuard,binOp,hg,uE h]
theorem aja{a b:Bool}(hu:P.underlying T=some .bool)(hx:ev l x=.bool a)(hy:ev l y=.bool b):gI P l (.binOp .eql T x y T') ty (.bool (decide (a=b))):=fun w o ho _=>by
 have h:=uE (qB.bool (d:=9999) (a:=a) (b:=b) hu) w;simp[ck,ho,bS,hx,hy,eqGuard,binOp,h]
theorem Qi{a b:Bool}(hu:P.underlying T=some .bool)(hx:ev l x=.bool a)(hy:ev l y=.bool b):gI P l (.binOp .neq T x y T') ty (.bool (decide (¬a=b))):=fun w o ho _=>by
 have h:=uE (qB.bool (d:=9999) (a:=a) (b:=b) hu) w;simp[ck,ho,bS,hx,hy,eqGuard,binOp,h]
theorem Xd{a b:ByteArray}(hu:P.underlying T=some .string)(hx:ev l x=.string a)(hy:ev l y=.string b):gI P l (.binOp .eql T x y T') ty (.bool (decide (a=b))):=fun w o ho _=>by
 have h:=uE (qB.str (d:=9999) (a:=a) (b:=b) hu) w;simp[ck,ho,bS,hx,hy,eqGuard,binOp,h,Op.stringOp,Qh]
theorem ajb{a b:ByteArray}(hu:P.underlying T=some .string)(hx:ev l x=.string a)(hy:ev l y=.string b):gI P l (.binOp .neq T x y T') ty (.bool (decide (¬a=b))):=fun w o ho _=>by
 have h:=uE (qB.str (d:=9999) (a:=a) (b:=b) hu) w;simp[ck,ho,bS,hx,hy,eqGuard,binOp,h,Op.stringOp,Qh]
end
end Go.Lith
namespace Go.Lith
def sS(s:ByteArray):List Nat:=s.data.toList.reverse.map iz
def ajc(s:ByteArray):Nat:=val 256 (sS s)
theorem wE(s:ByteArray):s.data.toList.length=s.size:=Array.length_toList
theorem zZ(s:ByteArray):(sS s).length=s.size:=by simp only[sS,List.length_map,List.length_reverse,wE]
theorem Tt(s:ByteArray):gS 256 (sS s):=fun x hx=>by
 obtain⟨b,_,rfl⟩:=List.mem_map.1 hx;exact b.toNat_lt
theorem Aa(s:ByteArray)(i:Nat):s[i]? = s.data.toList[i]?:=by
 by_cases h:i<s.size
 · rw[getElem?_pos s i h,an (by rw[wE];omega)]
   rfl
 · rw[getElem?_neg s i h,ee (by rw[wE];omega)]
theorem Xe{s:ByteArray}{i p:Nat}(h:p+1+i=s.size):∃b,s[i]? = some b∧∃hp:p<(sS s).length,(sS s)[p]=b.toNat:=by
 have hs:=wE s;have hi:i<s.data.toList.length:=by omega
 refine⟨s.data.toList[i],by rw[Aa];exact an hi,by rw[zZ];omega,?_⟩;simp only[sS,List.getElem_map,List.getElem_reverse]
 congr 2
 omega
theorem qQ(n:Int):ajc (jL n)=n.natAbs:=by
 have e:sS (jL n)=digs 256 n.natAbs:=by
  simp only[sS,jL,lD,List.reverse_reverse,←List.map_reverse,List.map_map];have hd:gS 256 (digs 256 n.natAbs):=tF (by omega) _;have:∀l:List Nat,gS 256 l→l.map (iz∘kx)=l:=by
   intro l hl;refine (ij fun x hx=>?_).trans (List.map_id l);simp only[Function.comp_apply,id_eq,mi];exact lv (hl x hx)
  exact this _ hd
 rw[ajc,e,rB (by omega)]
theorem aaw{m n:Nat}(h:m<9223372036854775808):IntKind.i64.wrap ((m:Int).tdiv (n:Int))=((m / n:Nat):Int):=by
 rw[←Int.ofNat_tdiv];have:m / n≤m:=Nat.div_le_self m n;exact bF (by have:=Int.natCast_nonneg (m / n);omega) (by omega)
theorem adj{xs:List Nat}{n:Nat}(h:xs.length≤n):val 256 (xs.drop n)=0:=by rw[fq h];rfl
def mM(l:List UInt8):ByteArray:=⟨l.toArray⟩
theorem nH(l:List UInt8):(mM l).data.toList=l:=by simp[mM]
theorem abz{l k:List UInt8}(h:mM l=mM k):l=k:=by rw[←nH l,h,nH]
theorem Ax(l:List UInt8):(mM l).size=l.length:=by rw[←wE,nH]
theorem abA(l:List UInt8)(i:Nat):(mM l)[i]? = l[i]?:=by rw[Aa,nH]
theorem Xf(l:List UInt8)(n:Nat):(mM l).extract n (mM l).size=mM (l.drop n):=by
 apply ByteArray.ext;rw[ByteArray.data_extract];apply nf;rw[Array.toList_extract,nH,Ax];simp only[mM,List.extract_eq_take_drop,dt];exact be (by simp)
theorem Tu(l:List UInt8):(mM l=⟨#[]⟩)=(l=[]):=by
 apply propext;constructor
 · intro h
   exact abz (k:=[]) h
 · rintro rfl;rfl
def rD(l:List UInt8):List UInt8:=l.dropWhile (· == 0)
theorem Xg{l:List UInt8}{b:UInt8}(h:l[0]? = some b)(hb:b.toNat=0):rD (l.drop 1)=rD l:=by
 cases l with
 | nil=>cases h
 | cons c l =>
  simp at h;subst h;have:c=0:=UInt8.toNat_inj.1 hb;subst this;simp[rD]
theorem Xh{l:List UInt8}{b:UInt8}(h:l[0]? = some b)(hb:¬b.toNat=0):rD l=l:=by
 cases l with
 | nil=>rfl
 | cons c l =>
  simp at h;subst h;have:¬c=0:=fun e=>hb (by rw[e];rfl);simp[rD,this]
theorem abB:rD []=[]:=rfl
end Go.Lith
namespace Go.Lith
open Go.RowKit
section
variable {P:bc} {ds:List cg} {l:List ac} {x y z0:a_} {T T' ty:aj}
abbrev u8v(b:UInt8):ac:=.int .u8 (b.toNat:Int)
theorem Xi{w:ah}{base n:Nat}{E:aj}{v:ac}{bs:List UInt8}(hs:P.underlying T=some (.slice E))(he:P.underlying E=some (.int .u8))(hd:P.underlying T'=some .string)(hx:ev l x=v)(hown:ai4 w base E 1 v n (bs.map u8v)) :
 vL P l (.convert T T' x) ty (.string (mM bs)) w:=fun o ho _=>by
 have hn:bs.length=n:=by have:=hown.1;simpa using this
 rcases hown.row with ⟨rfl,rfl,h⟩ | ⟨g,cap,rfl,_,_,_,_,hr⟩
 · obtain rfl:bs=[]:=by simpa using h
   simp only[ck,ho,bS,hx];rw[Sem.run_bind,run_convert_bytes_nil w T E hs he 0 0 T' hd];rfl
 · subst hn
   have:=run_convert_bytes_back (P:=P) w T T' E ⟨g,0,none⟩ cap bs hs he hd (fun j hj=>hr j _ (by simp[hj]));simp only[ck,ho,bS,hx];rw[Sem.run_bind,this];rfl
end
structure Wy(w:ah)(D:Nat):Prop where
 h:w.heap[D]? = some (.deferred (some []))
theorem Wy.ext{w w':ah}{D:Nat}(h:Wy w D)(hE:eW w w'):Wy w' D:=⟨hE.block h.h⟩
theorem Wy.ne{w:ah}{D g:Nat}{cs:List ac}{t:aj}(h:Wy w D)(hB:fA w g cs t):D≠g:=fun e=>by
 subst e;have:=h.h;rw[hB] at this;cases this
theorem Wy.chg{w w':ah}{D g:Nat}(h:Wy w D)(hC:Chg w w' g)(hne:D≠g):Wy w' D:=⟨(hC.block D hne).trans h.h⟩
theorem fA.putD{w:ah}{D g:Nat}{cs:List ac}{t:aj}(hB:fA w g cs t)(h:Wy w D){o:Obj}:fA (w.putObj D o) g cs t:=(World.putObj_heap_other (Ne.symm (h.ne hB))).trans hB
theorem eW.putD{w0 w:ah}{D:Nat}(hX:eW w0 w)(hD:w0.heap.size≤D){o:Obj}:eW w0 (w.putObj D o) :=
 ⟨hX.os,hX.tape,hX.output,by rw[World.putObj_size];exact hX.size,fun k hk=>(World.putObj_heap_other (by omega)).trans (Below.block hX k hk)⟩
theorem Xj{P:bc}{l:List ac}{n:Nat}{fn:Func}{R:Ending→ah→Prop}{D:Nat}{w:ah}(hK:Wy w D)(h:bodyPost P fn R .ret (Fr l) (w.putObj D (.deferred none))) :
 bodyPostM Fence.wide n P fn R .ret (Fr l [{ target:=.collected D,args:=#[] }]) w:=by
 refine⟨by simp,.inl ⟨D,_,rfl,run_takeDeferred hK.h,?_⟩⟩;obtain⟨_,v,hv,hR⟩:=h;exact⟨v,hv,hR⟩
end Go.Lith
namespace Go.Lith
def wb(x:Nat):List UInt8:=[kx (x / 16777216),kx (x / 65536),kx (x / 256),kx x]
def Tv(l:List (Nat × Nat)):List UInt8:=l.flatMap fun x=>wb x.2
theorem adk(l:List (Nat × Nat))(x:Nat × Nat):Tv (l++[x])=Tv l++wb x.2:=by simp[Tv]
theorem Iv(l:List (Nat × Nat)):(Tv l).length=4*l.length:=by
 induction l with
 | nil=>rfl
 | cons x l ih=>rw[Tv,cw,aw];rw[Tv] at ih;rw[ih];simp[wb];omega
def Ti(neg:Bool)(n:Nat):Int:=if neg then -(n:Int) else n
theorem Iy(neg:Bool)(n:Nat):(Ti neg n).natAbs=n:=by cases neg <;> simp[Ti]
theorem aax(neg:Bool)(n:Nat):fC (Ti neg n)=(neg&&decide (n≠0)):=by
 cases neg
 · simp[Ti,fC]
 · rcases io n with h | h
   · subst h;rfl
   · have h2:n≠0:=by omega
     simp[Ti,fC,h,h2]
theorem Mk(ys:List Nat)(h:gS 4294967296 ys):val 256 (((ys.reverse.flatMap wb).reverse).map iz)=val 4294967296 ys∧gS 256 (((ys.reverse.flatMap wb).reverse).map iz):=by
 induction ys with
 | nil=>exact⟨rfl,fun _ h=>by cases h⟩
 | cons y ys ih =>
  have hy:=h y (by simp);obtain⟨i1,i2⟩:=ih (fun x hx=>h x (by simp[hx]));have e:(((y::ys).reverse.flatMap wb).reverse).map iz=[y%256,y / 256%256,y / 65536%256,y / 16777216%256]++(((ys.reverse.flatMap wb).reverse).map iz):=by
   simp[List.flatMap_append,wb,mi]
  rw[e];refine⟨?_,?_⟩
  · rw[rA,i1]
    simp only[val,au,List.length_nil];omega
  · refine gS.append ?_ i2
    intro x hx;simp at hx;omega
theorem Tw{l:List UInt8}:rD l=((trim ((l.reverse).map iz)).reverse).map kx:=by
 induction l with
 | nil=>rfl
 | cons b l ih =>
  have hk:∀k:List Nat,∀x:Nat,trim (k++[x])=if x=0 then trim k else k++[x]:=fun k x=>by
   split
   · rename_i h;subst h;exact rC k
   · rename_i h;exact sP h k
  rw[List.reverse_cons,List.map_append,bn,List.map_nil,hk];by_cases hb:b=0
  · subst hb
    rw[if_pos (show iz 0=0 from rfl),←ih];simp[rD]
  · have hb':¬b.toNat=0:=fun e=>hb (UInt8.toNat_inj.1 e)
    rw[if_neg hb'];simp[rD,hb,Function.comp_def]
theorem Xk{ys:List Nat}(h:gS 4294967296 ys)(neg:Bool):mM (rD (ys.reverse.flatMap wb))=jL (Ti neg (val 4294967296 ys)):=by
 obtain⟨h1,h2⟩:=Mk ys h;rw[Tw,Cg (by omega) h2 h1,jL,Iy,lD];rfl
theorem Iz{neg:Bool}{n:Nat}:(jL (Ti neg n)=⟨#[]⟩)↔n=0:=by
 constructor
 · intro h
   have:=Nk (Ti neg n);rw[h,Iy] at this;have h0:digs 256 n=[]:=eh this.symm;exact (wB (by omega)).1 h0
 · rintro rfl
   cases neg <;> rfl
class Bw(k:outParam Nat)(n:Int):Prop where
 h:Bd k n
instance {a b:Nat}{m n:Int}[x:Bw a m][y:Bw b n]:Bw (max a b+1) (m+n):=⟨x.h.add y.h⟩
instance {a b:Nat}{m n:Int}[x:Bw a m][y:Bw b n]:Bw (max a b+1) (m-n):=⟨x.h.sub y.h⟩
instance {a b:Nat}{m n:Int}[x:Bw a m][y:Bw b n]:Bw (a+b) (m*n):=⟨x.h.mul y.h⟩
instance:Bw 1 0:=⟨Hp 1⟩
theorem No{n:Int}(h:fC n=true):n<0:=of_decide_eq_true h
theorem Ja{n:Int}(h:fC n=false):0≤n:=ny.1 (of_decide_eq_false h)
theorem natAbs_neg{n:Int}(h:fC n=true):(n.natAbs:Int) = -n:=by have:=No h;omega
theorem jD{n:Int}(h:fC n=false):(n.natAbs:Int)=n:=by have:=Ja h;omega
theorem wF(n:Nat):Ti true n = -(n:Int):=rfl
theorem tH(n:Nat):Ti false n=(n:Int):=rfl
theorem Tx(a:Int):Ti (fC a) a.natAbs=a:=by
 cases h:fC a
 · rw[tH,jD h]
 · rw[wF,natAbs_neg h];omega
theorem agF(a:Int):Ti (!fC a) a.natAbs = -a:=by
 cases h:fC a
 · rw[Bool.not_false,wF,jD h]
 · rw[Bool.not_true,tH,natAbs_neg h]
theorem agG{a b:Int}(h:fC a=fC b):Ti (fC a) (a.natAbs+b.natAbs)=a+b:=by
 cases ha:fC a <;> rw[ha] at h
 · have h1:=jD ha;have h2:=jD h.symm;rw[tH];omega
 · have h1:=natAbs_neg ha;have h2:=natAbs_neg h.symm;rw[wF];omega
theorem ajd{a b:Int}(h:¬fC a=fC b)(hl:a.natAbs<b.natAbs):Ti (fC b) (b.natAbs-a.natAbs)=a+b:=by
 cases ha:fC a <;> cases hb:fC b <;> rw[ha,hb] at h
 · exact absurd rfl h
 · have h1:=jD ha;have h2:=natAbs_neg hb;rw[wF];omega
 · have h1:=natAbs_neg ha;have h2:=jD hb;rw[tH];omega
 · exact absurd rfl h
theorem aje{a b:Int}(h:¬fC a=fC b)(hl:b.natAbs≤a.natAbs):Ti (fC a) (a.natAbs-b.natAbs)=a+b:=by
 cases ha:fC a <;> cases hb:fC b <;> rw[ha,hb] at h
 · exact absurd rfl h
 · have h1:=jD ha;have h2:=natAbs_neg hb;rw[tH];omega
 · have h1:=natAbs_neg ha;have h2:=jD hb;rw[wF];omega
 · exact absurd rfl h
theorem agH{a b:Int}:Ti (decide (¬fC a=fC b)) (a.natAbs*b.natAbs)=a*b:=by
 cases ha:fC a <;> cases hb:fC b
 · have h1:=jD ha;have h2:=jD hb
   show ((a.natAbs*b.natAbs:Nat):Int)=_
   rw[lh,h1,h2]
 · have h1:=jD ha;have h2:=natAbs_neg hb
   show -((a.natAbs*b.natAbs:Nat):Int)=_
   rw[lh,h1,h2,Int.mul_neg,Int.neg_neg]
 · have h1:=natAbs_neg ha;have h2:=jD hb
   show -((a.natAbs*b.natAbs:Nat):Int)=_
   rw[lh,h1,h2,Int.neg_mul,Int.neg_neg]
 · have h1:=natAbs_neg ha;have h2:=natAbs_neg hb
   show ((a.natAbs*b.natAbs:Nat):Int)=_
   rw[lh,h1,h2,Int.neg_mul_neg]
def bG(n:Int):Int:=if n<0 then -1 else if 0<n then 1 else 0
theorem Np{n:Int}(h:n<0):bG n = -1:=by rw[bG,if_pos h]
theorem Nq{n:Int}(h:0<n):bG n=1:=by rw[bG,if_neg (by omega),if_pos h]
theorem wG{k V:Nat}(h:V<2^k):(digs 4294967296 V).length≤k:=by
 refine nF (by omega) (fi h ?_);rw[show (4294967296:Nat)=2^32 from rfl,←nj];exact iu (by omega) (by omega)
theorem qR{n:Int}(h:Bd 1000000 n):(jL n).size≤1000000000000:=az (Pz h) (by decide)
theorem abC{k:Nat}{a b:Int}(ha:Bd k a)(hb:Bd k b):(digs 4294967296 (a.natAbs+b.natAbs)).length≤k+1:=wG (by unfold Bd at ha hb;rw[jg];omega)
theorem Ay{k:Nat}{n:Int}(h:Bd k n):(digs 4294967296 n.natAbs).length≤k:=wG h
theorem Qj{m n:Nat}(h:m≤n):(digs 4294967296 m).length≤(digs 4294967296 n).length:=by
 refine nF (by omega) (mf h ?_);have:=Ik (Ts n);rwa [gK] at this
theorem aay{a:Int}:(((digs 4294967296 a.natAbs).length:Int)=0)↔a=0:=by
 constructor
 · intro h
   have h0:digs 4294967296 a.natAbs=[]:=eh (by omega);have:=(wB (by omega)).1 h0;omega
 · rintro rfl;rfl
def oV(n:Int):Prop:=-9223372036854775808≤n∧n<9223372036854775808
theorem oV.bd{n:Int}(h:oV n):Bd 64 n:=Bd.of_i64 h.1 (by have:=h.2;omega)
theorem ajf{n:Int}(h:oV n)(h0:0≤n):IntKind.u64.wrap n=(n.natAbs:Int):=by
 rw[kK];have:=h.2;omega
theorem agI{n:Int}(h:oV n)(h0:n<0):IntKind.u64.wrap n=((18446744073709551616-n.natAbs:Nat):Int):=by
 rw[kK];have:=h.1;omega
theorem abD{m:Nat}(h:m≤9223372036854775808)(h0:0<m):IntKind.u64.wrap (0-((18446744073709551616-m:Nat):Int))=(m:Int):=by
 rw[kK];omega
theorem Nr{m:Nat}:val 4294967296 [m%4294967296,m / 4294967296]=m:=by simp[val];omega
theorem Jb{m:Nat}(h:m<18446744073709551616):gS 4294967296 [m%4294967296,m / 4294967296]:=fun x hx=>by simp at hx;omega
theorem oV.natAbs{n:Int}(h:oV n):n.natAbs≤9223372036854775808:=by have:=h.1;have:=h.2;omega
def Qc(n d:Int):Go.Value:=.agg #[.bool (fC n),.string (jL n),.bool (fC d),.string (jL d)]
def Q(q:Rat):Go.Value:=Qc q.num q.den
end Go.Lith
namespace Go.Lith
open Go.RowKit
structure P3 where
 x:Int
 y:Int
 z:Int
structure T3 where
 a:P3
 b:P3
 c:P3
namespace P3
def sub(p q:P3):P3:=⟨p.x-q.x,p.y-q.y,p.z-q.z⟩
def dot(p q:P3):Int:=p.x*q.x+p.y*q.y+p.z*q.z
def cross(u v:P3):P3:=⟨u.y*v.z-u.z*v.y,u.z*v.x-u.x*v.z,u.x*v.y-u.y*v.x⟩
end P3
def T3.normal(t:T3):P3:=(t.b.sub t.a).cross (t.c.sub t.a)
def pt(p:P3):Go.Value:=.agg #[.int .i64 p.x,.int .i64 p.y,.int .i64 p.z]
def tr(t:T3):Go.Value:=.agg #[.int .i64 t.a.x,.int .i64 t.a.y,.int .i64 t.a.z,.int .i64 t.b.x,.int .i64 t.b.y,.int .i64 t.b.z,.int .i64 t.c.x,.int .i64 t.c.y,.int .i64 t.c.z]
def wv(v:P3):Go.Value:=.agg #[.bool (fC v.x),.string (jL v.x),.bool (fC v.y),.string (jL v.y),.bool (fC v.z),.string (jL v.z)]
theorem Bw.up{k m:Nat}{n:Int}[x:Bw k n](h:k≤m:=by decide):Bd m n:=x.h.mono h
theorem Eg:jL 0=⟨#[]⟩:=by
 have:lD 0=[]:=by
  unfold lD;rw[(wB (B:=256) (by omega)).2 rfl];rfl
 simp only[jL,Int.natAbs_zero,this]
theorem Qk:W 0=.agg #[.bool false,.string ⟨#[]⟩]:=by simp only[W,Eg];rfl
class Iw(n:Int):Prop where
 h:oV n
class I3(p:P3):Prop where
 x:oV p.x
 y:oV p.y
 z:oV p.z
class IT(t:T3):Prop where
 a:I3 t.a
 b:I3 t.b
 c:I3 t.c
instance {p:P3}[h:I3 p]:Iw p.x:=⟨h.x⟩
instance {p:P3}[h:I3 p]:Iw p.y:=⟨h.y⟩
instance {p:P3}[h:I3 p]:Iw p.z:=⟨h.z⟩
instance {t:T3}[h:IT t]:I3 t.a:=h.a
instance {t:T3}[h:IT t]:I3 t.b:=h.b
instance {t:T3}[h:IT t]:I3 t.c:=h.c
instance {n:Int}[h:Iw n]:Bw 64 n:=⟨h.h.bd⟩
class Bv(k:outParam Nat)(v:P3):Prop where
 x:Bd k v.x
 y:Bd k v.y
 z:Bd k v.z
instance {k:Nat}{v:P3}[h:Bv k v]:Bw k v.x:=⟨h.x⟩
instance {k:Nat}{v:P3}[h:Bv k v]:Bw k v.y:=⟨h.y⟩
instance {k:Nat}{v:P3}[h:Bv k v]:Bw k v.z:=⟨h.z⟩
theorem Bv.mono{k m:Nat}{v:P3}(h:Bv k v)(hk:k≤m):Bv m v:=⟨h.x.mono hk,h.y.mono hk,h.z.mono hk⟩
theorem Bv.of{k m:Nat}{v:P3}[h:Bv k v](hk:k≤m:=by decide):Bv m v:=h.mono hk
instance {p q:P3}[a:I3 p][b:I3 q]:Bv 65 (p.sub q):=⟨a.x.bd.sub b.x.bd,a.y.bd.sub b.y.bd,a.z.bd.sub b.z.bd⟩
theorem Ql{k l:Nat}{a b c d:Int}(ha:Bd k a)(hb:Bd l b)(hc:Bd k c)(hd:Bd l d):Bd (k+l+1) (a*b-c*d):=by
 have:=(ha.mul hb).sub (hc.mul hd);exact this.mono (by omega)
theorem adl{k l:Nat}{a b c d:Int}(ha:Bd k a)(hb:Bd l b)(hc:Bd k c)(hd:Bd l d):Bd (k+l+1) (a*b+c*d):=by
 have:=(ha.mul hb).add (hc.mul hd);exact this.mono (by omega)
instance {k l:Nat}{u v:P3}[a:Bv k u][b:Bv l v]:Bv (k+l+1) (u.cross v):=⟨Ql a.y b.z a.z b.y,Ql a.z b.x a.x b.z,Ql a.x b.y a.y b.x⟩
instance {k l:Nat}{u v:P3}[a:Bv k u][b:Bv l v]:Bw (k+l+2) (u.dot v):=⟨((adl a.x b.x a.y b.y).add (a.z.mul b.z)).mono (by omega)⟩
instance {t:T3}[h:IT t]:Bv 131 t.normal:=inferInstanceAs (Bv 131 ((t.b.sub t.a).cross (t.c.sub t.a)))
theorem P3.dot0{u v:P3}:0+u.x*v.x+u.y*v.y+u.z*v.z=u.dot v:=by simp only[P3.dot,Int.zero_add]
section
variable {P:bc} {Q:Exit→Act→ah→Prop} {a:Act} {w:ah} {c:Code} {n:Nat}
theorem wH(h:c.wp P (Exit.then (Code.rounds P c Q n) Q) a w):Code.rounds P c Q (n+1) a w:=h
theorem jZ(h:c.wp P (Exit.then (Code.rounds P c Q n) Q) a w):Exit.then (Code.rounds P c Q (n+1)) Q .normal a w:=h
end
inductive nW where
 | nil:nW
 | take:Nat→nW→nW
 | one:Nat→nW→nW
 | two:Nat→nW→Nat→nW→nW
 | three:Nat→nW→Nat→nW→Nat→nW→nW
section
variable {P:bc} {ops:Array Oper} {md:Region.Mode} {S:ah→Prop}
def nW.ok(md:Region.Mode)(ops:Array Oper):nW→Nat→Array Bool→Bool
 | .nil,f,listed=>f == 0&&(Region.ready md ops listed).isEmpty
 | .take i t,f,listed=>decide (0<f)&&(ops[i]?).isSome&&Region.free md ops listed i&&(Region.ready md ops listed).contains i&&t.ok md ops (f-1) (listed.setIfInBounds i true)
 | .one i t,f,listed=>decide (0<f)&&(ops[i]?).isSome&&decide (Region.ready md ops listed=[i])&&t.ok md ops (f-1) (listed.setIfInBounds i true)
 | .two i t j u,f,listed=>decide (0<f)&&(ops[i]?).isSome&&(ops[j]?).isSome&&decide (Region.ready md ops listed=[i,j])&&t.ok md ops (f-1) (listed.setIfInBounds i true)&&u.ok md ops (f-1) (listed.setIfInBounds j true)
 | .three i t j u k v,f,listed=>decide (0<f)&&(ops[i]?).isSome&&(ops[j]?).isSome&&(ops[k]?).isSome&&decide (Region.ready md ops listed=[i,j,k])&&t.ok md ops (f-1) (listed.setIfInBounds i true)&&u.ok md ops (f-1) (listed.setIfInBounds j true)&&v.ok md ops (f-1) (listed.setIfInBounds k true)
def bX(P:bc)(ops:Array Oper)(S:ah→Prop)(Q:Exit→Act→ah→Prop):nW→Act→ah→Prop
 | .nil,a,w=>Q .normal a w
 | .take i t,a,w=>bE P ops S (fun _ a w=>bX P ops S Q t a w) [((ops[i]?).getD default,true)] a w
 | .one i t,a,w=>ao P ops (Exit.then (fun a w=>S w∧bX P ops S Q t a w) Q) [(ops[i]?).getD default] a w
 | .two i t j u,a,w=>ao P ops (Exit.then (fun a w=>S w∧bX P ops S Q t a w) Q) [(ops[i]?).getD default] a w∧ao P ops (Exit.then (fun a w=>S w∧bX P ops S Q u a w) Q) [(ops[j]?).getD default] a w
 | .three i t j u k v,a,w=>ao P ops (Exit.then (fun a w=>S w∧bX P ops S Q t a w) Q) [(ops[i]?).getD default] a w∧ao P ops (Exit.then (fun a w=>S w∧bX P ops S Q u a w) Q) [(ops[j]?).getD default] a w∧ao P ops (Exit.then (fun a w=>S w∧bX P ops S Q v a w) Q) [(ops[k]?).getD default] a w
theorem iE{Q:Exit→Act→ah→Prop}{K:Act→ah→Prop}{i:Nat}{o:Oper}(ho:ops[i]? = some o){a:Act}{w:ah}(h:ao P ops (Exit.then K Q) [o] a w):wpOp P ops Q i K a w:=by
 unfold wpOp;simp only[ho];simp only[ao] at h;split
 · rename_i hw
   rw[if_pos hw] at h;rcases h with h | ⟨ha,x,y,hl⟩
   · refine .inl ?_
     unfold kj at h ⊢;generalize (ck a.eval o).run P w=res at *
     cases res with
     | ok n w' =>
      cases n <;> simp only[lj] at h ⊢ <;>
       first
        | exact h
        | exact Calls.mono h (fun e w'' he=>by cases e <;> exact he)
        | exact Rows.mono h (fun _ _ he=>he)
     | halt x w'=>cases x <;> simp only[lj] at h ⊢ <;> exact h
   · exact .inr ⟨ha,x,y,hl⟩
 · rename_i hw
   rw[if_neg hw] at h;exact h
theorem gT{Q:Exit→Act→ah→Prop}(hs:Region.noSelect ops=true)(hQ:∀c d v a w,Q (.panic c) (Act.put a d v) w→Q (.panic c) a w):∀(t:nW) (f:Nat) (listed:Array Bool) (a:Act) (w:ah),
 t.ok md ops f listed=true→S w→bX P ops S Q t a w→wpAnyH P md ops Q S f listed a w
 | .nil,f,listed,a,w,hB,_,h=>by
  simp only[nW.ok,bh,beq_iff_eq] at hB;obtain⟨rfl,h2⟩:=hB;exact⟨by simpa using h2,h⟩
 | .take i t,f,listed,a,w,hB,hS,h=>by
  simp only[nW.ok,bh,decide_eq_true_eq] at hB;obtain⟨⟨⟨⟨h0,h1⟩,h2⟩,h3⟩,h4⟩:=hB;obtain⟨o,ho⟩:=df.1 h1;simp only[bX,bE,ho,cv] at h;obtain⟨v,hy,hr⟩:=h;obtain⟨f,rfl⟩:∃g,f=g+1:=⟨f-1,by omega⟩
  exact wpAnyH_take ho hs h2 h3 (fun c a w=>hQ c _ v a w) hy hS (gT hs hQ t f _ _ _ h4 hS hr)
 | .one i t,f,listed,a,w,hB,hS,h=>by
  simp only[nW.ok,bh,decide_eq_true_eq] at hB;obtain⟨⟨⟨h0,h1⟩,h2⟩,h4⟩:=hB;obtain⟨o,ho⟩:=df.1 h1;obtain⟨f,rfl⟩:∃g,f=g+1:=⟨f-1,by omega⟩
  refine wpAnyH_all h2 (by simp) fun j hj=>?_;obtain rfl:j=i:=by simpa using hj
  simp only[bX,ho,cv] at h;exact wpOp_mono (fun a' w' hh=>⟨hh.1,gT hs hQ t f _ a' w' h4 hh.1 hh.2⟩) (iE ho h)
 | .two i t j u,f,listed,a,w,hB,hS,h=>by
  simp only[nW.ok,bh,decide_eq_true_eq] at hB;obtain⟨⟨⟨⟨⟨h0,h1⟩,h1'⟩,h2⟩,h4⟩,h5⟩:=hB;obtain⟨o,ho⟩:=df.1 h1;obtain⟨o',ho'⟩:=df.1 h1';obtain⟨f,rfl⟩:∃g,f=g+1:=⟨f-1,by omega⟩
  simp only[bX,ho,ho',cv] at h;refine wpAnyH_all h2 (by simp) fun k hk=>?_;have hk':k=i∨k=j:=by simpa using hk
  rcases hk' with rfl | rfl
  · exact wpOp_mono (fun a' w' hh=>⟨hh.1,gT hs hQ t f _ a' w' h4 hh.1 hh.2⟩) (iE ho h.1)
  · exact wpOp_mono (fun a' w' hh=>⟨hh.1,gT hs hQ u f _ a' w' h5 hh.1 hh.2⟩) (iE ho' h.2)
 | .three i t j u k v,f,listed,a,w,hB,hS,h=>by
  simp only[nW.ok,bh,decide_eq_true_eq] at hB;obtain⟨⟨⟨⟨⟨⟨⟨h0,h1⟩,h1'⟩,h1''⟩,h2⟩,h4⟩,h5⟩,h6⟩:=hB;obtain⟨o,ho⟩:=df.1 h1;obtain⟨o',ho'⟩:=df.1 h1';obtain⟨o'',ho''⟩:=df.1 h1'';obtain⟨f,rfl⟩:∃g,f=g+1:=⟨f-1,by omega⟩
  simp only[bX,ho,ho',ho'',cv] at h;refine wpAnyH_all h2 (by simp) fun m hm=>?_;have hm':m=i∨m=j∨m=k:=by simpa using hm
  rcases hm' with rfl | rfl | rfl
  · exact wpOp_mono (fun a' w' hh=>⟨hh.1,gT hs hQ t f _ a' w' h4 hh.1 hh.2⟩) (iE ho h.1)
  · exact wpOp_mono (fun a' w' hh=>⟨hh.1,gT hs hQ u f _ a' w' h5 hh.1 hh.2⟩) (iE ho' h.2.1)
  · exact wpOp_mono (fun a' w' hh=>⟨hh.1,gT hs hQ v f _ a' w' h6 hh.1 hh.2⟩) (iE ho'' h.2.2)
theorem Jc{id:Nat}{Q:Exit→Act→ah→Prop}{a:Act}{w:ah}{l:List Oper}(t:nW)(hm:P.follows .mixedOrders=true)(hB:(Region.noSelect l.toArray&&t.ok .any l.toArray l.toArray.size (fc l.toArray.size false))=true)
 (hQ:∀c d v a w,Q (.panic c) (Act.put a d v) w→Q (.panic c) a w)
 (h:∀w',eW w w'→∃S,am0 w' S∧bX P l.toArray S Q t a w'):(Code.region id l.toArray true).wp P Q a w:=by
 simp only[bh] at hB;obtain⟨S,hS,h⟩:=h _ (eW.refl w).drawn;exact wp_region_held (S:=S) hm (gT (md:=.any) hB.1 hQ t _ _ a _ hB.2 hS h)
variable {Q:Exit→Act→ah→Prop} {a:Act} {w:ah} {o o':Oper} {i j:Nat} {t u:nW}
theorem Ab(h:Q .normal a w):bX P ops S Q .nil a w:=h
theorem dO(ho:(ops[i]?).getD default=o)(h:bE P ops S (fun _ a w=>bX P ops S Q t a w) [(o,true)] a w):bX P ops S Q (.take i t) a w:=by subst ho;exact h
theorem lJ(ho:(ops[i]?).getD default=o)(h:ao P ops (Exit.then (fun a w=>S w∧bX P ops S Q t a w) Q) [o] a w):bX P ops S Q (.one i t) a w:=by subst ho;exact h
theorem Ty(ho:(ops[i]?).getD default=o)(ho':(ops[j]?).getD default=o')(h:ao P ops (Exit.then (fun a w=>S w∧bX P ops S Q t a w) Q) [o] a w)(h':ao P ops (Exit.then (fun a w=>S w∧bX P ops S Q u a w) Q) [o'] a w):bX P ops S Q (.two i t j u) a w:=by
 subst ho;subst ho';exact⟨h,h'⟩
end
section
variable {P:bc} {ops:Array Oper} {md:Region.Mode} {w0:ah}
def YE(P:bc)(ops:Array Oper)(w0:ah)(o:Oper)(v:ac)(a:Act):Prop :=
 (Region.wanted o (yielded ops a.tmps)=true∧∀w,eW w0 w→o.quietAt P a (eW w) w v)∨(Region.wanted o (yielded ops a.tmps)=false∧v=undef)
theorem YE.of_same{o:Oper}{v:ac}{a a':Act}(hy:YE P ops w0 o v a)(he:ck a'.eval o=ck a.eval o)
 (hw:Region.wanted o (yielded ops a'.tmps)=Region.wanted o (yielded ops a.tmps)):YE P ops w0 o v a':=by
 unfold YE j_ at *
 rw[he,hw];exact hy
def qE(P:bc)(ops:Array Oper)(w0:ah)(i:Nat)(K:Act→Prop)(a:Act):Prop:=∃o v,ops[i]? = some o∧YE P ops w0 o v a∧K (a.put o.dst v)
theorem agJ{i:Nat}{a:Act}{K K':Act→Prop}(h:∀a,K a→K' a)(hh:qE P ops w0 i K a):qE P ops w0 i K' a :=
 let ⟨o,v,h1,h2,h3⟩:=hh;⟨o,v,h1,h2,h _ h3⟩
theorem ajg{j:Nat}{oi oj:Oper}{v:ac}(hj:ops[j]? = some oj)(hap:oi.apart ops oj=true)(hsi:∀cs b,oi.op≠.select cs b)(hsj:∀cs b,oj.op≠.select cs b){K:Act→Prop}{a:Act}
 (hy:YE P ops w0 oi v a) (h:qE P ops w0 j K (a.put oi.dst v)):qE P ops w0 j (fun a'=>YE P ops w0 oi v a'∧K (a'.put oi.dst v)) a:=by
 obtain⟨h1,h2,h3⟩:=Oper.apart_spec hap;obtain⟨o,u,ho,hu,hk⟩:=h;rw[hj] at ho;cases ho;refine⟨oj,u,hj,hu.of_same (execOp_put oj hsj a oi.dst v h1).symm (wanted_put oj a oi.dst v h1).symm,hy.of_same (execOp_put oi hsi a oj.dst u h3) (wanted_put oi a oj.dst u h3),?_⟩;rw[←Act.put_comm a v u h2];exact hk
def Jd(P:bc)(md:Region.Mode)(ops:Array Oper)(w0:ah)(n:Nat)(L:Array Bool→Act→Prop):Nat→Array Bool→Act→Prop
 | 0,listed,a=>L listed a
 | f+1,listed,a=>Region.ready md ops listed≠[]∧∀i∈Region.ready md ops listed,i<n∧qE P ops w0 i (Jd P md ops w0 n L f (listed.setIfInBounds i true)) a
theorem Qm{n i:Nat}{oi:Oper}{v:ac}{L:Array Bool→Act→Prop}(hi:ops[i]? = some oi)(hsel:∀(j:Nat) (o:Oper) cs b,ops[j]? = some o→o.op≠.select cs b)
 (hs:Region.sinkB md ops n=true) (hc:Region.chainB md ops n=true) (hn:n<ops.size) (hin:i<n)
 (hdone:∀listed a,L listed a→∀j∈Region.ready md ops listed,n≤j) :
 ∀(f:Nat) (listed:Array Bool) (a:Act),HeadInv md ops n listed →
  (∀j oj,ops[j]? = some oj→j≠i→listed.getD j true=false→(∀e∈oj.after,Region.binds md e=true→e.on≠i)→oi.apart ops oj=true) →
  i∈Region.ready md ops listed→YE P ops w0 oi v a →
  Jd P md ops w0 n L f (listed.setIfInBounds i true) (a.put oi.dst v)→Jd P md ops w0 n L (f+1) listed a:=by
 intro f
 induction f with
 | zero =>
  intro listed a inv _ hr hy H;have hun:=(mem_ready.1 hr).1;refine⟨fun h=>(by rw[h] at hr;cases hr),fun j hj=>?_⟩;have hjn:j<n:=by
   rcases eo j n with h | h
   · exact h
   · exact absurd hj (tail_waits hs hc hn inv _ i rfl hin hun j h)
  refine⟨hjn,?_⟩;by_cases hji:j=i
  · subst hji;exact⟨oi,v,hi,hy,H⟩
  · have:=hdone _ _ H j (ready_mono hj hji)
    omega
 | succ f ih =>
  intro listed a inv hfree hr hy H;have hun:=(mem_ready.1 hr).1;refine⟨fun h=>(by rw[h] at hr;cases hr),fun j hj=>?_⟩;have hjn:j<n:=by
   rcases eo j n with h | h
   · exact h
   · exact absurd hj (tail_waits hs hc hn inv _ i rfl hin hun j h)
  refine⟨hjn,?_⟩;by_cases hji:j=i
  · subst hji;exact⟨oi,v,hi,hy,H⟩
  · have h1:=(H.2 j (ready_mono hj hji)).2
    obtain⟨hjun,oj,hoj,hall⟩:=mem_ready.1 hj;have hnot:∀e∈oj.after,Region.binds md e=true→e.on≠i:=fun e he hb heq=>by
     have h1:=hall e he hb;rw[heq,getD_both hun] at h1;cases h1
    have h2:=ajg hoj (hfree j oj hoj hji hjun hnot) (fun cs b=>hsel i oi cs b hi) (fun cs b=>hsel j oj cs b hoj) hy h1;have hfree':∀k ok,ops[k]? = some ok→k≠i→(listed.setIfInBounds j true).getD k true=false →
     (∀e∈ok.after,Region.binds md e=true→e.on≠i)→oi.apart ops ok=true:=fun k ok hk hki hun hno=>by
     refine hfree k ok hk hki ?_ hno;by_cases hjk:j=k
     · subst hjk;exact hjun
     · rw[getD_set_ne true hjk] at hun;exact hun
    refine agJ (fun a' h3=>ih (listed.setIfInBounds j true) a' (inv.set hj hjn) hfree' (ready_mono hr (Ne.symm hji)) h3.1 ?_) h2;rw[lg _ _ hji];exact h3.2
def wI(P:bc)(ops:Array Oper)(w0:ah)(L:Act→Prop):List Oper→Act→Prop
 | [],a=>L a
 | o::r,a=>∃v,YE P ops w0 o v a∧wI P ops w0 L r (a.put o.dst v)
def adm(md:Region.Mode)(ops:Array Oper)(g n:Nat):List Nat→Array Bool→Bool
 | [],listed=>Region.seqB md ops g n listed
 | i::r,listed=>(ops[i]?).isSome&&decide (i<n)&&(Region.ready md ops listed).contains i&&Region.free md ops listed i&&adm md ops g n r (listed.setIfInBounds i true)
theorem Je{n g:Nat}{L:Act→Prop}(hsel:Region.noSelect ops=true)(hs:Region.sinkB md ops n=true)(hc:Region.chainB md ops n=true)(hn:n<ops.size) :
 ∀(l:List Nat) (listed:Array Bool) (a:Act),HeadInv md ops n listed→adm md ops g n l listed=true→wI P ops w0 L (l.map fun i=>(ops[i]?).getD default) a →
 Jd P md ops w0 n (fun listed' a'=>Region.seqB md ops g n listed'=true∧L a') l.length listed a
 | [],listed,a,_,hB,h=>⟨by simpa[adm] using hB,h⟩
 | i::l,listed,a,inv,hB,h=>by
  simp only[adm,bh,decide_eq_true_eq] at hB;obtain⟨⟨⟨⟨h1,h2⟩,h3⟩,h4⟩,h5⟩:=hB;obtain⟨o,ho⟩:=df.1 h1;simp only[bn,wI,ho,cv] at h;obtain⟨v,hy,hr⟩:=h;have hi':i∈Region.ready md ops listed:=by simpa using h3
  exact Qm ho (Region.noSelect_spec hsel) hs hc hn h2 (fun listed' a' hL=>seqB_ready hL.1) l.length listed a inv (Region.free_spec ho h4) hi' hy (Je hsel hs hc hn l _ _ (inv.set hi' h2) h5 hr)
structure Al where
 i:Nat
 d:Nat
 T:aj
 cs:List ac
def uF(P:bc)(md:Region.Mode)(ops:Array Oper)(x:Al):Prop :=
 ∃ty pos after,ops[x.i]? = some (bi (some x.d) (.alloc x.T) ty pos after none)∧(after.all fun e=>!Region.binds md e)=true∧∃z,mC P x.T z∧z.cells=x.cs.toArray
def eR(E:Nat→Option ac):List Al→Act→Act
 | [],a=>a
 | x::r,a=>match E x.i with
  | some v=>eR E r (a.put (some x.d) v)
  | none=>eR E r a
def uG(ops:Array Oper)(o:Oper)(al:List Al):Bool:=al.all fun x=>!(o.looksAt ops).contains x.d&&o.dst != some x.d
theorem wJ{E:Nat→Option ac}{o:Oper}(hs:∀cs b,o.op≠.select cs b):∀{al:List Al},uG ops o al=true→∀a,ck (eR E al a).eval o=ck a.eval o∧Region.wanted o (yielded ops (eR E al a).tmps)=Region.wanted o (yielded ops a.tmps)
 | [],_,a=>⟨rfl,rfl⟩
 | x::r,hc,a=>by
  simp only[uG,List.all_cons,bh,fm] at hc;have hr:uG ops o r=true:=by simp only[uG,bh,fm] ;simpa using hc.2
  have hd:x.d∉o.looksAt ops:=by simpa using hc.1.1
  unfold eR;split
  · obtain⟨h1,h2⟩:=wJ (E:=E) hs hr (a.put (some x.d) _)
    rename_i v _;exact⟨h1.trans (execOp_put o hs a (some x.d) v (fun d e=>by cases e;exact hd)),h2.trans (wanted_put o a (some x.d) v (fun d e=>by cases e;exact hd))⟩
  · exact wJ hs hr a
theorem Az{E:Nat→Option ac}{o:Oper}{v:ac}:∀{al:List Al},uG ops o al=true→∀a,(eR E al a).put o.dst v=eR E al (a.put o.dst v)
 | [],_,a=>rfl
 | x::r,hc,a=>by
  simp only[uG,List.all_cons,bh,fm,bne_iff_ne,ne_eq] at hc;have hr:uG ops o r=true:=by simp only[uG,bh,fm] ;simpa using hc.2
  unfold eR;split
  · rename_i u _
    rw[Az hr,Act.put_comm a u v (fun d e=>by cases e;exact hc.1.2)]
  · exact Az hr a
theorem Jf{E:Nat→Option ac}{x:Al}{v:ac}:∀{al:List Al},(al.map (·.i)).Nodup→(al.map (·.d)).Nodup→x∈al→E x.i=none→∀a,(eR E al a).put (some x.d) v=eR (fun j=>if j=x.i then some v else E j) al a
 | [],_,_,hx,_,_=>by cases hx
 | y::r,hi,hd,hx,he,a=>by
  simp only[bn,gm] at hi hd;have same:∀(l:List Al),x.i∉l.map (·.i)→∀a,eR (fun j=>if j=x.i then some v else E j) l a=eR E l a:=by
   intro l
   induction l with
   | nil=>intro _ a;rfl
   | cons z l ih =>
    intro hn a;simp only[bn,ak,not_or] at hn;unfold eR;simp only[Ne.symm hn.1,if_false];split <;> exact ih hn.2 _
  have push:∀(l:List Al),x.d∉l.map (·.d)→∀a,(eR E l a).put (some x.d) v=eR E l (a.put (some x.d) v):=by
   intro l
   induction l with
   | nil=>intro _ a;rfl
   | cons z l ih =>
    intro hn a;simp only[bn,ak,not_or] at hn;unfold eR;split
    · rename_i u _
      rw[ih hn.2,Act.put_comm a u v (fun d e=>by cases e;simp;exact hn.1)]
    · exact ih hn.2 _
  rcases ak.1 hx with rfl | hx
  · unfold eR
    simp only[he,if_true];rw[push r hd.1,same r hi.1]
  · have hne:y.i≠x.i:=fun e=>hi.1 (by rw[e];exact fe hx)
    unfold eR;simp only[hne,if_false];split <;> exact Jf hi.2 hd.2 hx he _
def Wz(E:Nat→Option ac)(al:List Al):Nat:=(al.filter fun x=>(E x.i).isNone).length
theorem Cj{E:Nat→Option ac}{x:Al}{v:ac}:∀{al:List Al},(al.map (·.i)).Nodup→x∈al→E x.i=none→Wz E al=Wz (fun j=>if j=x.i then some v else E j) al+1
 | [],_,hx,_=>by cases hx
 | y::r,hi,hx,he=>by
  simp only[bn,gm] at hi;have same:∀(l:List Al),x.i∉l.map (·.i)→Wz (fun j=>if j=x.i then some v else E j) l=Wz E l:=by
   intro l
   induction l with
   | nil=>intro _;rfl
   | cons z l ih =>
    intro hn;simp only[bn,ak,not_or] at hn;have:=ih hn.2;unfold Wz at *
    rw[gn,gn];simp only[Ne.symm hn.1,if_false];split <;> simp[this]
  rcases ak.1 hx with rfl | hx
  · have:=same r hi.1
    unfold Wz at *
    rw[gn,gn];simp[he,this]
  · have hne:y.i≠x.i:=fun e=>hi.1 (by rw[e];exact fe hx)
    have:=Cj (v:=v) hi.2 hx he;unfold Wz at *
    rw[gn,gn];simp only[hne,if_false];split <;> simp[this]
theorem Tz{E:Nat→Option ac}{al:List Al}(h:Wz E al=0):∀x∈al,∃v,E x.i=some v:=fun x hx=>by
 unfold Wz at h;have:=List.filter_eq_nil_iff.1 (eh h) x hx;cases he:E x.i with
 | none=>simp[he] at this
 | some v=>exact⟨v,rfl⟩
theorem agK{E:Nat→Option ac}{al:List Al}(h:0<Wz E al):∃x∈al,E x.i=none:=by
 unfold Wz at h;obtain⟨x,hx⟩:=List.length_pos_iff_exists_mem.1 h;obtain⟨h1,h2⟩:=List.mem_filter.1 hx;exact⟨x,h1,by simpa using h2⟩
def Eh(base:Nat)(E:Nat→Option ac)(al:List Al)(w:ah):Prop :=
 (∀x∈al,∀v,E x.i=some v→∃g,v=.pointer (some ⟨g,0,none⟩)∧base≤g∧fA w g x.cs x.T) ∧
 (∀x∈al,∀y∈al,x.i≠y.i→∀g g',E x.i=some (.pointer (some ⟨g,0,none⟩))→E y.i=some (.pointer (some ⟨g',0,none⟩))→g≠g')
theorem Eh.ext{base:Nat}{E:Nat→Option ac}{al:List Al}{w w':ah}(h:Eh base E al w)(hE:eW w w'):Eh base E al w' :=
 ⟨fun x hx v hv=>let ⟨g,e,hb,hB⟩:=h.1 x hx v hv;⟨g,e,hb,hB.ext hE⟩,h.2⟩
theorem Eh.new{base:Nat}{E:Nat→Option ac}{al:List Al}{w:ah}(h:Eh base E al w){x:Al}(hx:x∈al)(hi:(al.map (·.i)).Nodup)(he:E x.i=none)(hb:base≤w.heap.size) :
 Eh base (fun j=>if j=x.i then some (.pointer (some ⟨w.heap.size,0,none⟩)) else E j) al (w.alloc (.cells x.cs.toArray x.T)):=by
 have huniq:∀y∈al,y.i=x.i→y=x:=by
  intro y hy e;clear h
  induction al with
  | nil=>cases hx
  | cons z r ih =>
   simp only[bn,gm] at hi;rcases ak.1 hx with rfl | hx'
   · rcases ak.1 hy with rfl | hy'
     · rfl
     · exact absurd (by rw[←e];exact fe hy') hi.1
   · rcases ak.1 hy with rfl | hy'
     · exact absurd (by rw[e];exact fe hx') hi.1
     · exact ih hx' hi.2 hy'
 refine⟨fun y hy v hv=>?_,fun y hy z hz hne g g' h1 h2=>?_⟩
 · by_cases e:y.i=x.i
   · obtain rfl:=huniq y hy e
     simp only[if_true] at hv;cases hv;exact⟨_,rfl,hb,gX w _ _⟩
   · simp only[e,if_false] at hv
     obtain⟨g,e1,e2,e3⟩:=h.1 y hy v hv;exact⟨g,e1,e2,e3.ext ((eW.refl w).alloc _)⟩
 · by_cases e:y.i=x.i
   · have e':z.i≠x.i:=fun e2=>hne (e.trans e2.symm)
     simp only[e,if_true] at h1;simp only[e',if_false] at h2;cases h1;obtain⟨g2,e1,_,e3⟩:=h.1 z hz _ h2;cases e1;exact Nat.ne_of_gt e3.lt
   · by_cases e':z.i=x.i
     · simp only[e,if_false] at h1
       simp only[e',if_true] at h2;cases h2;obtain⟨g2,e1,_,e3⟩:=h.1 y hy _ h1;cases e1;exact Nat.ne_of_lt e3.lt
     · simp only[e,if_false] at h1
       simp only[e',if_false] at h2;exact h.2 y hy z hz hne g g' h1 h2
def Qn(md:Region.Mode)(ops:Array Oper)(n:Nat)(al:List Al):Bool :=
 decide ((al.map (·.i)).Nodup)&&decide ((al.map (·.d)).Nodup)&&(al.all fun x=>decide (x.i<n)) &&
 ((ip n).all fun j=>(al.any fun x=>x.i == j)||match ops[j]? with
  | some o=>uG ops o al&&o.after.all fun e=>!Region.binds md e || !(al.any fun x=>x.i == e.on)
  | none=>true)
theorem sim{n g:Nat}{al:List Al}{L:Act→Prop}{Q':Exit→Act→ah→Prop}{tl:List Oper}(hsel:Region.noSelect ops=true)(hs:Region.sinkB md ops n=true)(hc:Region.chainB md ops n=true)(hn:n<ops.size)
 (hal:∀x∈al,uF P md ops x) (hB:Qn md ops n al=true) (htl:∀j,tl[j]? = ops[n+j]?) (hgl:tl.length=g)
 (hL:∀a E w,eW w0 w→Eh w0.heap.size E al w→(∀x∈al,∃v,E x.i=some v)→L a→ao P ops Q' tl (eR E al a) w) :
 ∀(k f:Nat) (E:Nat→Option ac) (lr lm:Array Bool) (a:Act) (w:ah),k=f+Wz E al→HeadInv md ops n lr→lm.size=lr.size→(∀j,lm.getD j false=(lr.getD j false||al.any fun x=>x.i == j)) →
  (∀x∈al,(E x.i=none↔lr.getD x.i false=false))→eW w0 w→Eh w0.heap.size E al w →
  Jd P md ops w0 n (fun listed' a'=>Region.seqB md ops g n listed'=true∧L a') f lm a→wpAny P md ops Q' (k+g) lr (eR E al a) w:=by
 simp only[Qn,bh,decide_eq_true_eq,ew,kz] at hB;obtain⟨⟨⟨hni,hnd⟩,hlt⟩,hcl⟩:=hB;intro k
 induction k with
 | zero =>
  intro f E lr lm a w hk inv hsz hlm hE hx hla H;obtain rfl:f=0:=by omega
  have h0:Wz E al=0:=by omega
  have hall:=Tz h0;have heq:lm=lr:=by
   apply nu hsz;intro j h1 h2;have h3:=hlm j;simp only[km,fl h1,fl h2,cv] at h3;rw[h3];cases hlr:lr[j] with
   | true=>rfl
   | false =>
    rw[jk];cases hany:al.any fun x=>x.i == j with
    | false=>rfl
    | true =>
     obtain⟨x,hx1,hx2⟩:=dx.1 hany;have hx3:x.i=j:=by simpa using hx2
     obtain⟨v,hv⟩:=hall x hx1;have:lr.getD x.i false=false:=by
      rw[hx3,km,fl h2];simpa using hlr
     rw[(hE x hx1).2 this] at hv;cases hv
  subst heq;obtain⟨H1,H2⟩:=H;rw[aq,←hgl];exact wpAny_of_seq (md:=md) tl n lm _ w htl (by rw[hgl];exact H1) (hL a E w hx hla hall H2)
 | succ k ih =>
  intro f E lr lm a w hk inv hsz hlm hE hx hla H;have getT:∀j,j<ops.size→lr.getD j false=false→lr.getD j true=false:=fun j hj h=>getD_in (by rw[inv.size];exact hj) h
  -- some head operation is not listed
  have hsome:∃j,j∈Region.ready md ops lr∧j<n:=by
   rcases io (Wz E al) with h0 | h0
   · obtain⟨f,rfl⟩:∃q,f=q+1:=⟨f-1,by omega⟩
     obtain⟨hne,hr⟩:=H;obtain⟨j,hj⟩:=List.exists_mem_of_ne_nil _ hne;have hjn:=(hr j hj).1;refine⟨j,?_,hjn⟩;have hall:=Tz h0;obtain⟨hju,oj,hoj,hpre⟩:=mem_ready.1 hj;refine mem_ready.2 ⟨?_,oj,hoj,fun e he hb=>?_⟩
     · have h1:=hlm j
       rw[getD_both hju] at h1;have h2:lr.getD j false=false:=by
        cases h:lr.getD j false with
        | false=>rfl
        | true=>rw[h] at h1;simp at h1
       exact getT j (by omega) h2
     · have h1:=hlm e.on
       rw[hpre e he hb] at h1;cases h:lr.getD e.on false with
       | true=>rfl
       | false =>
        rw[h,jk] at h1;obtain⟨x,hx1,hx2⟩:=dx.1 h1.symm;have hx3:x.i=e.on:=by simpa using hx2
        obtain⟨v,hv⟩:=hall x hx1;rw[(hE x hx1).2 (by rw[hx3];exact h)] at hv;cases hv
   · obtain⟨x,hx1,hx2⟩:=agK h0
     obtain⟨ty,pos,after,hop,haf,_⟩:=hal x hx1;have hxn:x.i<n:=by simpa using hlt x hx1
     refine⟨x.i,mem_ready.2 ⟨getT _ (by omega) ((hE x hx1).1 hx2),_,hop,fun e he hb=>?_⟩,hxn⟩;have:=Array.all_eq_true_iff_forall_mem.1 haf e he;simp[hb] at this
  obtain⟨j0,hj0,hj0n⟩:=hsome;have hj0u:=(mem_ready.1 hj0).1;rw[show k+1+g=(k+g)+1 by omega];refine⟨fun h=>(by rw[h] at hj0;cases hj0),fun i hi=>?_⟩;have hin:i<n:=by
   rcases eo i n with h | h
   · exact h
   · exact absurd hi (tail_waits hs hc hn inv _ j0 rfl hj0n hj0u i h)
  obtain⟨hiu,oi,hoi,hpre⟩:=mem_ready.1 hi;by_cases hia:al.any (fun x=>x.i == i)=true
  · -- an allocation
    obtain⟨x,hx1,hx2⟩:=dx.1 hia;obtain rfl:x.i=i:=by simpa using hx2
    obtain⟨ty,pos,after,hop,haf,z,hz,hzc⟩:=hal x hx1;have hex:E x.i=none:=(hE x hx1).2 (getD_both hiu);obtain⟨inf,hinf,hinz⟩:=hz;unfold wpOp;simp only[hop];rw[if_pos (by simp[Region.wanted])];refine .inl ?_;have hrun:∀ρ:a_→ac,(ck ρ (bi (some x.d) (.alloc x.T) ty pos after none)).run P w=.ok (.value (.pointer (some ⟨w.heap.size,0,none⟩))) (w.alloc (.cells x.cs.toArray x.T)):=fun ρ=>by
     simp[ck,Instr.alloc,zeroValue,typeInfo,hinf,hinz,newVar,newRow,hzc,newObj,Sem.run]
    unfold kj;rw[hrun];show wpAny P md ops Q' (k+g) (lr.setIfInBounds x.i true) ((eR E al a).put (some x.d) (.pointer (some ⟨w.heap.size,0,none⟩))) _
    rw[Jf hni hnd hx1 hex];have hc1:=Cj (v:=.pointer (some ⟨w.heap.size,0,none⟩)) hni hx1 hex;have hxs:x.i<lr.size:=by rw[inv.size];omega
    refine ih f _ _ lm a _ (by omega) (inv.set hi hin) (by simp[hsz]) (fun j=>?_) (fun y hy=>?_) (hx.alloc _) (hla.new hx1 hni hex hx.size) H
    · rw[hlm j]
      by_cases e:x.i=j
      · subst e
        rw[hia];simp
      · rw[getD_set_ne false e]
    · by_cases e:x.i=y.i
      · rw[←e]
        simp[hxs]
      · rw[getD_set_ne false e]
        simp only[Ne.symm e,if_false];exact hE y hy
  · -- an operation that computes
    have hia':al.any (fun x=>x.i == i)=false:=by simpa using hia
    have hci:=hcl i hin;rw[hia',jk,hoi] at hci;simp only[bh] at hci;have hready:i∈Region.ready md ops lm:=by
     refine mem_ready.2 ⟨?_,oi,hoi,fun e he hb=>by rw[hlm,hpre e he hb];rfl⟩;have h1:=hlm i;rw[getD_both hiu,hia'] at h1;exact getD_in (by rw[hsz,inv.size];omega) (by simpa using h1)
    cases f with
    | zero =>
     obtain⟨H1,H2⟩:=H;have:=seqB_ready H1 i hready;omega
    | succ f =>
     obtain⟨_,o,v,ho,hy,hK⟩:=H.2 i hready;rw[hoi] at ho;cases ho;have hse:∀cs b,oi.op≠.select cs b:=fun cs b=>Region.noSelect_spec hsel i oi cs b hoi;obtain⟨e1,e2⟩:=wJ (E:=E) hse hci.1 a;have hy':=hy.of_same e1 e2;have key:∀w',eW w w'→wpAny P md ops Q' (k+g) (lr.setIfInBounds i true) ((eR E al a).put oi.dst v) w':=fun w' hw'=>by
      rw[Az hci.1];refine ih f E _ _ _ w' (by omega) (inv.set hi hin) (by simp[hsz]) (fun j=>?_) (fun y hy=>?_) (hx.trans hw') (hla.ext hw') hK
      · by_cases e:i=j
        · subst e
          have h1:i<lr.size:=by rw[inv.size];omega
          simp[h1,hsz]
        · rw[getD_set_ne false e,getD_set_ne false e,hlm j]
      · have e:i≠y.i:=fun e=>by
         have:al.any (fun x=>x.i == i)=true:=dx.2 ⟨y,hy,by simp[e]⟩;rw[hia'] at this;cases this
        rw[getD_set_ne false e];exact hE y hy
     unfold wpOp;simp only[hoi];rcases hy' with ⟨hw,hv⟩ | ⟨hw,rfl⟩
     · rw[if_pos hw]
       refine .inl ?_;have h3:=hv w hx;unfold j_ at h3;unfold kj;generalize (ck (eR E al a).eval oi).run P w=r at *
       cases r with
       | ok nx w' =>
        cases nx <;> simp only[Oper.quietUpon] at h3 <;> simp only[lj]
        case value u =>
         obtain⟨e1,e2⟩:=h3;rw[e1,e2];exact key w (eW.refl w)
        case skip =>
         obtain⟨e1,e2⟩:=h3;rw[e1,←e2];exact key w (eW.refl w)
        case enter f' args =>
         obtain⟨e1,hcl⟩:=h3;rw[e1];exact hcl.mono fun e w'' ⟨he,hw''⟩=>by subst he;exact key w'' hw''
       | halt x w'=>simp only[Oper.quietUpon] at h3
     · rw[if_neg (by rw[hw];simp)]
       exact key w (eW.refl w)
theorem vF{id:Nat}{Q:Exit→Act→ah→Prop}{a:Act}{w:ah}{l:List Oper}(n:Nat)(idx:List Nat)(al:List Al)(hm:P.follows .mixedOrders=true)
 (hB:(Region.noSelect l.toArray&&decide (n<l.length)&&Region.sinkB .any l.toArray n&&Region.chainB .any l.toArray n&&Qn .any l.toArray n al&&decide (n=idx.length+al.length) &&
  adm .any l.toArray (l.length-n) n idx (al.foldl (fun s x=>s.setIfInBounds x.i true) (fc l.toArray.size false)))=true)
 (hal:∀x∈al,uF P .any l.toArray x) {ol:List Oper} (hol:(idx.map fun i=>(l.toArray[i]?).getD default)=ol)
 (h:∀w1,eW w w1→wI P l.toArray w1 (fun a'=>∀E w',eW w1 w'→Eh w1.heap.size E al w'→(∀x∈al,∃v,E x.i=some v)→ao P l.toArray Q (l.drop n) (eR E al a') w') ol a):(Code.region id l.toArray true).wp P Q a w:=by
 simp only[bh,decide_eq_true_eq] at hB;obtain⟨⟨⟨⟨⟨⟨hsel,hn⟩,hs⟩,hc⟩,hf⟩,hlen⟩,hlex⟩:=hB;subst hol;have hn':n<l.toArray.size:=by simpa using hn
 have hf':=hf;simp only[Qn,bh,decide_eq_true_eq,ew,kz] at hf';obtain⟨⟨⟨hni,hnd⟩,hlt⟩,hcl⟩:=hf';generalize hlm:al.foldl (fun s x=>s.setIfInBounds x.i true) (fc l.toArray.size false)=lm at hlex;have hfold:∀(r:List Al) (s:Array Bool),(r.foldl (fun s x=>s.setIfInBounds x.i true) s).size=s.size∧∀j,j<s.size→(r.foldl (fun s x=>s.setIfInBounds x.i true) s).getD j false=(s.getD j false||r.any fun x=>x.i == j):=by
  intro r
  induction r with
  | nil=>intro s;exact⟨rfl,fun j _=>by simp⟩
  | cons x r ih =>
   intro s;obtain⟨h1,h2⟩:=ih (s.setIfInBounds x.i true);refine⟨by rw[ik,h1];simp,fun j hj=>?_⟩;rw[ik,h2 j (by simpa using hj),List.any_cons];by_cases e:x.i=j
   · subst e
     simp[hj]
   · have e2:(x.i == j)=false:=by simpa using e
     rw[getD_set_ne false e,e2,jk]
 obtain⟨hsz,hget⟩:=hfold al (fc l.toArray.size false);rw[hlm] at hsz hget;have hsz':lm.size=l.toArray.size:=by rw[hsz];simp
 have hlmj:∀j,lm.getD j false=al.any fun x=>x.i == j:=fun j=>by
  rcases eo j l.toArray.size with hj | hj
  · rw[hget j (by simpa using hj),getD_replicate_false,jk]
  · have h1:lm.getD j false=false:=by rw[km,ka (by omega)];rfl
    rw[h1]
    symm
    rw[Bool.eq_false_iff];intro h2;obtain⟨x,hx1,hx2⟩:=dx.1 h2;have hx3:x.i=j:=by simpa using hx2
    have:x.i<n:=by simpa using hlt x hx1
    omega
 have inv0:HeadInv .any l.toArray n (fc l.toArray.size false) :=
  ⟨by simp,fun j oj _ hl=>(by rw[getD_replicate_false] at hl;cases hl),fun t _ ht=>getD_in (by simpa using ht) (getD_replicate_false _ _)⟩
 have invm:HeadInv .any l.toArray n lm:=by
  refine⟨hsz',fun j oj hoj hl e he hb=>?_,fun t ht ht'=>getD_in (by rw[hsz'];exact ht') ?_⟩
  · rw[hlmj] at hl
    obtain⟨x,hx1,hx2⟩:=dx.1 hl;have hx3:x.i=j:=by simpa using hx2
    obtain⟨ty,pos,after,hop,haf,_⟩:=hal x hx1;rw[hx3,hoj] at hop;cases hop;have:=Array.all_eq_true_iff_forall_mem.1 haf e he;simp[hb] at this
  · rw[hlmj,Bool.eq_false_iff]
    intro h2;obtain⟨x,hx1,hx2⟩:=dx.1 h2;have hx3:x.i=t:=by simpa using hx2
    have:x.i<n:=by simpa using hlt x hx1
    omega
 refine wp_region_any hm ?_;obtain⟨w1,hw1⟩:∃w1,w1=({ w with drawn:=w.drawn+1 }:ah):=⟨_,rfl⟩
 rw[←hw1];have hx1:eW w w1:=by rw[hw1];exact (eW.refl w).drawn
 have H:=Je (md:=.any) (g:=l.length-n) hsel hs hc hn' idx lm a invm hlex (h w1 hx1);have hcnt:Wz (fun _=>none) al=al.length:=by
  unfold Wz;simp
 have key:=sim (md:=.any) (P:=P) (ops:=l.toArray) (w0:=w1) (Q':=Q) (tl:=l.drop n) (g:=l.length-n) (al:=al) hsel hs hc hn' hal hf (fun j=>by simp[cu]) (by simp) (fun a E w' hw' hla hall hL=>hL E w' hw' hla hall)
  (idx.length+al.length) idx.length (fun _=>none) (fc l.toArray.size false) lm a w1 (by rw[hcnt]) inv0 (by rw[hsz'];simp) (fun j=>by rw[getD_replicate_false,jk];exact hlmj j)
  (fun x _=>⟨fun _=>getD_replicate_false _ _,fun _=>rfl⟩) (eW.refl w1) ⟨fun x _ v hv=>(by cases hv),fun x _ y _ _ g g' h1 _=>(by cases h1)⟩ H
 have hap:∀r:List Al,eR (fun _=>none) r a=a:=by
  intro r
  induction r with
  | nil=>rfl
  | cons x r ih=>exact ih
 rw[hap,←hlen] at key;have e:n+(l.length-n)=l.toArray.size:=by rw[fh];omega
 rwa [e] at key
end
section
variable {P:bc} {ops:Array Oper} {w0:ah} {L:Act→Prop} {ds:List cg} {l:List ac} {rest:List Oper} {d:Nat} {op:Op} {ty:aj} {pos:String} {after:Array Edge} {v:ac} {x y:a_} {T:aj}
theorem adn(hr:∀w,eW w0 w→vL P l op ty v w)(h:wI P ops w0 L rest (Fr (l.set d v) ds)):wI P ops w0 L (bi (some d) op ty pos after none::rest) (Fr l ds):=by
 refine⟨v,.inl ⟨by simp[Region.wanted],fun w hw=>?_⟩,?_⟩
 · unfold j_
   rw[iY,hr w hw _ rfl rfl];exact⟨rfl,rfl⟩
 · show wI P ops w0 L rest ((Fr l ds).put (some d) v)
   rw[gE];exact h
theorem Ac(hr:gI P l op ty v)(h:wI P ops w0 L rest (Fr (l.set d v) ds)):wI P ops w0 L (bi (some d) op ty pos after none::rest) (Fr l ds):=adn (fun w _=>hr w) h
theorem rF{a:Addr}(hx:ev l x=.pointer (some a))(hv:∀w',eW w0 w'→gM P w' T a v)(h:wI P ops w0 L rest (Fr (l.set d v) ds)):wI P ops w0 L (bi (some d) (.load T x) ty pos after none::rest) (Fr l ds) :=
 adn (fun _ hE=>aW hx (hv _ hE)) h
theorem agL{f:FuncId}{fo:a_}{xs:Array a_}{args:List ac}{first cap:Array ac}{a0:Array aj}(hf:ev l fo=.func (.func f) first cap)(hxs:first.toList++xs.toList.map (ev l)++cap.toList=args)(hc:∀w',eW w0 w'→dF P f args w' fun u _=>u=v)
 (h:wI P ops w0 L rest (Fr (l.set d v) ds)):wI P ops w0 L (bi (some d) (.call { callee:=.value fo,args:=xs,argTypes:=a0 }) ty pos after none::rest) (Fr l ds):=by
 refine⟨v,.inl ⟨by simp[Region.wanted],fun w hw=>?_⟩,?_⟩
 · unfold j_
   rw[iY,nA (hc w hw).1 hf hxs _ rfl];refine⟨rfl,(hc w hw).2.mono ?_⟩;rintro e w'' ⟨u,rfl,hE,rfl⟩;exact⟨rfl,hE⟩
 · show wI P ops w0 L rest ((Fr l ds).put (some d) v)
   rw[gE];exact h
theorem yA{f:FuncId}{fo:a_}{xs:Array a_}{args:List ac}{first cap:Array ac}{a0:Array aj}(hf:ev l fo=.func (.func f) first cap)(hxs:first.toList++xs.toList.map (ev l)++cap.toList=args)(hc:eM P f args v)
 (h:wI P ops w0 L rest (Fr (l.set d v) ds)):wI P ops w0 L (bi (some d) (.call { callee:=.value fo,args:=xs,argTypes:=a0 }) ty pos after none::rest) (Fr l ds) :=
 agL hf hxs (fun w' _=>hc w') h
theorem aio(h:L (Fr l ds)):wI P ops w0 L [] (Fr l ds):=h
theorem al1{md:Region.Mode}{x:Al}(h:uF P md ops x):∀y∈[x],uF P md ops y:=fun y hy=>by
 rcases ak.1 hy with rfl | hy
 · exact h
 · cases hy
theorem al2{md:Region.Mode}{x y:Al}(h:uF P md ops x)(k:uF P md ops y):∀z∈[x,y],uF P md ops z:=fun z hz=>by
 rcases ak.1 hz with rfl | hz
 · exact h
 · exact al1 k z hz
variable {Q:Exit→Act→ah→Prop} {tl:List Oper}
theorem ajh{i d:Nat}{T:aj}{cs:List ac}(h:∀w' g,eW w0 w'→w0.heap.size≤g→fA w' g cs T→ao P ops Q tl (Fr (l.set d (.pointer (some ⟨g,0,none⟩))) ds) w') :
 ∀E w',eW w0 w'→Eh w0.heap.size E [⟨i,d,T,cs⟩] w'→(∀x∈[(⟨i,d,T,cs⟩:Al)],∃v,E x.i=some v)→ao P ops Q tl (eR E [⟨i,d,T,cs⟩] (Fr l ds)) w':=fun E w' hE hL hv=>by
 obtain⟨v,hv⟩:=hv ⟨i,d,T,cs⟩ (by simp);obtain⟨g,rfl,hg,hB⟩:=hL.1 ⟨i,d,T,cs⟩ (by simp) v hv;have e:eR E [⟨i,d,T,cs⟩] (Fr l ds)=Fr (l.set d (.pointer (some ⟨g,0,none⟩))) ds:=by
  simp only[eR,hv];exact gE _ _
 rw[e];exact h w' g hE hg hB
theorem aji{i d j e:Nat}{T U:aj}{cs us:List ac}(hij:i≠j)(h:∀w' g k,eW w0 w'→w0.heap.size≤g→w0.heap.size≤k→fA w' g cs T→fA w' k us U→k≠g→ao P ops Q tl (Fr ((l.set d (.pointer (some ⟨g,0,none⟩))).set e (.pointer (some ⟨k,0,none⟩))) ds) w') :
 ∀E w',eW w0 w'→Eh w0.heap.size E [⟨i,d,T,cs⟩,⟨j,e,U,us⟩] w'→(∀x∈[(⟨i,d,T,cs⟩:Al),⟨j,e,U,us⟩],∃v,E x.i=some v)→ao P ops Q tl (eR E [⟨i,d,T,cs⟩,⟨j,e,U,us⟩] (Fr l ds)) w':=fun E w' hE hL hv=>by
 obtain⟨v,h1⟩:=hv ⟨i,d,T,cs⟩ (by simp);obtain⟨u,h2⟩:=hv ⟨j,e,U,us⟩ (by simp);obtain⟨g,rfl,hg,hB⟩:=hL.1 ⟨i,d,T,cs⟩ (by simp) v h1;obtain⟨k,rfl,hk,hK⟩:=hL.1 ⟨j,e,U,us⟩ (by simp) u h2;have e':eR E [⟨i,d,T,cs⟩,⟨j,e,U,us⟩] (Fr l ds)=Fr ((l.set d (.pointer (some ⟨g,0,none⟩))).set e (.pointer (some ⟨k,0,none⟩))) ds:=by
  simp only[eR,h1,h2];rw[gE,gE]
 rw[e'];exact h w' g k hE hg hk hB hK (Ne.symm (hL.2 ⟨i,d,T,cs⟩ (by simp) ⟨j,e,U,us⟩ (by simp) hij g k h1 h2))
end
end Go.Lith
namespace Go.Lith
section
variable {P:bc} {ops:Array Oper} {w0:ah} {ds:List cg} {l:List ac} {Q:Exit→Act→ah→Prop} {tl:List Oper}
end
end Go.Lith
namespace Go.Lith
open Go.RowKit
section
variable {P:bc} {ds:List cg} {l:List ac} {T ty:aj} {ops:Array Oper} {Q:Exit→Act→ah→Prop} {rest:List Oper} {d:Nat} {pos:String} {after:Array Edge} {w:ah}
theorem lU{E:aj}{c n:Nat}{z:ac}{parts:Array (Nat × a_)}{vs:Array (Nat × ac)}{base:Array ac}{cs:List ac}(hu:P.underlying T=some (.slice E))(hi:(P.info? E).map (fun i=>(i.size,i.zero))=some (c,some z))(h0:n*c≠0)(h24:n*c≤16777216)
 (hb:((mp (n*c)).map fun i=>z.cells[i%z.cells.size]!)=base) (hp:(parts.map fun (i,x)=>(i,ev l x))=vs) (hf:Instr.fill (fun i=>some (i*c,c)) base vs.toList=some cs.toArray)
 (h:∀w' g,eW w w'→w.heap.size≤g→fA w' g cs E→ao P ops Q rest (Fr (l.set d (.slice (some ⟨g,0,none⟩) n n)) ds) w') :
 ao P ops Q (bi (some d) (.buildSlice T n parts) ty pos after none::rest) (Fr l ds) w:=by
 subst hb;subst hp;cases hq:P.info? E with
 | none=>rw[hq] at hi;cases hi
 | some i =>
  rw[hq] at hi;simp only[d_,fp,ff] at hi;obtain⟨e1,e2⟩:=hi;have e:(Fr l).eval=ev l:=funext bS;have h24':¬16777216<n*c:=by omega
  refine kN (w':=w.alloc (.cells cs.toArray E)) (v:=.slice (some ⟨w.heap.size,0,none⟩) n n) (fun o ho _=>?_) (h _ _ ((eW.refl w).alloc _) (ap _) (gX w cs E));simp only[ck,ho,e];simp[Instr.buildSlice,bu hu,sizeOf,typeInfo,zeroValue,hq,e1,e2,h24',newRow,newObj,Sem.run] at hf ⊢;rw[if_neg h0];simp[hf];rfl
end
def nv(v:P3):Go.Value:=.agg #[.int .i64 v.x,.int .i64 v.y,.int .i64 v.z]
def sg(v:P3):Go.Value:=.agg #[.int .i64 (bG v.x),.int .i64 (bG v.y),.int .i64 (bG v.z)]
class S3(p:P3):Prop where
 x:p.x.natAbs<262144
 y:p.y.natAbs<262144
 z:p.z.natAbs<262144
class N3(p:P3):Prop where
 x:p.x.natAbs<524288
 y:p.y.natAbs<524288
 z:p.z.natAbs<524288
instance {p q:P3}[a:S3 p][b:S3 q]:N3 (p.sub q):=⟨by have:=a.x;have:=b.x;simp only[P3.sub];omega,by have:=a.y;have:=b.y;simp only[P3.sub];omega,by have:=a.z;have:=b.z;simp only[P3.sub];omega⟩
theorem vM{a b:Int}(ha:a.natAbs<524288)(hb:b.natAbs<524288) : -274877906944<a*b∧a*b<274877906944:=by
 have h:(a*b).natAbs≤524287*524287:=by rw[Int.natAbs_mul];exact Nat.mul_le_mul (by omega) (by omega)
 omega
theorem ajj{x y:Int}(h : -274877906944<x∧x<274877906944)(k : -274877906944<y∧y<274877906944):IntKind.i64.wrap (x-y)=x-y:=bF (by omega) (by omega)
theorem Ns{x:Int}(h : -274877906944<x∧x<274877906944):IntKind.i64.wrap x=x:=bF (by omega) (by omega)
theorem vG{v:Int}(h:oV v):IntKind.u64.wrap (if v<IntKind.i64.wrap (0-v) then IntKind.i64.wrap (0-v) else v)=(v.natAbs:Int):=by
 obtain⟨h1,h2⟩:=h;rcases Int.lt_or_le (-9223372036854775808) v with h3 | h3
 · rw[bF (x:=0-v) (by omega) (by omega),kK]
   split <;> omega
 · obtain rfl:v = -9223372036854775808:=by omega
   decide
def agM:ByteArray:=⟨#[0,1,2,2,3,3,3,3,4,4,4,4,4,4,4,4,5,5,5,5,5,5,5,5,5,5,5,5,5,5,5,5,6,6,6,6,6,6,6,6,6,6,6,6,6,6,6,6,6,6,6,6,6,6,6,6,6,6,6,6,6,6,6,6,7,7,7,7,7,7,7,7,7,7,7,7,7,7,7,7,7,7,7,7,7,7,7,7,7,7,7,7,7,7,7,7,7,7,7,7,7,7,7,7,7,7,7,7,7,7,7,7,7,7,7,7,7,7,7,7,7,7,7,7,7,7,7,7,8,8,8,8,8,8,8,8,8,8,8,8,8,8,8,8,8,8,8,8,8,8,8,8,8,8,8,8,8,8,8,8,8,8,8,8,8,8,8,8,8,8,8,8,8,8,8,8,8,8,8,8,8,8,8,8,8,8,8,8,8,8,8,8,8,8,8,8,8,8,8,8,8,8,8,8,8,8,8,8,8,8,8,8,8,8,8,8,8,8,8,8,8,8,8,8,8,8,8,8,8,8,8,8,8,8,8,8,8,8,8,8,8,8,8,8,8,8,8,8,8,8,8,8,8,8,8,8]⟩
theorem abE:∀i,i<256→∃b:UInt8,agM[i]? = some b∧b.toNat≤8∧(b.toNat≤2→i<4):=by
 have h:(ip 256).all (fun i=>match agM[i]? with
  | some b=>decide (b.toNat≤8)&&(decide (2<b.toNat)||decide (i<4))
  | none=>false)=true:=by decide +kernel
 intro i hi;have:=ew.1 h i (kz.2 hi);cases hb:agM[i]? with
 | none=>rw[hb] at this;cases this
 | some b =>
  rw[hb] at this;simp only[bh,Bool.or_eq_true,decide_eq_true_eq] at this;exact⟨b,rfl,this.1,fun h=>by omega⟩
section
variable {P:bc} {ds:List cg} {l:List ac} {x y:a_} {T ty:aj} {ops:Array Oper} {Q:Exit→Act→ah→Prop} {rest:List Oper} {d:Nat} {pos:String} {after:Array Edge} {w:ah} {k:IntKind}
theorem wK{Y:Nat}(hu:P.underlying T=some .string)(hx:ev l x=.string agM)(hy:ev l y=.int k (Y:Int))(hY:Y<256)(h:∀b:Nat,b≤8→(b≤2→Y<4)→ao P ops Q rest (Fr (l.set d (.int .u8 (b:Int))) ds) w) :
 ao P ops Q (bi (some d) (.index T x y) ty pos after none::rest) (Fr l ds) w:=by
 obtain⟨b,hb,h1,h2⟩:=abE Y hY;exact aB (qZ hu hx hy (by omega) (by rw[ag];exact hb)) (h b.toNat h1 h2)
end
theorem ado{m:Nat}:(m:Int).fdiv (2^(min (16:Int).toNat IntKind.u64.bits))=((m / 65536:Nat):Int):=by
 show (m:Int).fdiv (2^16)=_
 rw[fx _ (by decide)];omega
theorem aaz{m:Nat}:(m:Int).fdiv (2^(min (8:Int).toNat IntKind.u64.bits))=((m / 256:Nat):Int):=by
 show (m:Int).fdiv (2^8)=_
 rw[fx _ (by decide)];omega
def T3.flat(t:T3):Prop:=t.normal.x=0∧t.normal.y=0∧t.normal.z=0
instance (t:T3):Decidable t.flat:=inferInstanceAs (Decidable (_∧_∧_))
theorem fD{n:Int}:bG n=0↔n=0:=by
 unfold bG;constructor
 · intro h
   split at h
   · cases h
   · split at h
     · cases h
     · omega
 · rintro rfl;rfl
theorem Ua{n:Int}:0≤bG n↔0≤n:=by
 unfold bG;split
 · constructor <;> intro h <;> omega
 · split <;> constructor <;> intro h <;> omega
theorem adp{n:Int}:0<bG n↔0<n:=by
 unfold bG;split
 · constructor <;> intro h <;> omega
 · split <;> constructor <;> intro h <;> omega
theorem adq{n:Int}:bG n≤0↔n≤0:=by
 have:=@adp n;omega
structure bK(w:ah)(A:Option Addr)(n:Nat)(ts:List T3):Prop where
 len:ts.length=n
 it:∀t∈ts,IT t
 row:∀i t,ts[i]? = some t→∃a,A=some a∧nV w (a.add (i*9)) [.int .i64 t.a.x,.int .i64 t.a.y,.int .i64 t.a.z,.int .i64 t.b.x,.int .i64 t.b.y,.int .i64 t.b.z,.int .i64 t.c.x,.int .i64 t.c.y,.int .i64 t.c.z]
theorem bK.ext{w w':ah}{A:Option Addr}{n:Nat}{ts:List T3}(h:bK w A n ts)(hE:eW w w'):bK w' A n ts :=
 ⟨h.len,h.it,fun i t hi=>let ⟨a,e,hr⟩:=h.row i t hi;⟨a,e,hr.ext hE⟩⟩
theorem bK.nil(w:ah)(A:Option Addr):bK w A 0 []:=⟨rfl,fun t h=>(by cases h),fun i t h=>(by cases h)⟩
theorem bK.get{w:ah}{A:Option Addr}{n:Nat}{ts:List T3}(h:bK w A n ts){i:Nat}(hi:i<n):∃t,ts[i]? = some t∧IT t∧∃a,A=some a∧nV w (a.add (i*9)) [.int .i64 t.a.x,.int .i64 t.a.y,.int .i64 t.a.z,.int .i64 t.b.x,.int .i64 t.b.y,.int .i64 t.b.z,.int .i64 t.c.x,.int .i64 t.c.y,.int .i64 t.c.z]:=by
 have hl:i<ts.length:=by rw[h.len];exact hi
 refine⟨ts[i],an hl,h.it _ (ic hl),h.row i _ (an hl)⟩
def aK(t:T3):List Go.Value:=[.int .i64 t.a.x,.int .i64 t.a.y,.int .i64 t.a.z,.int .i64 t.b.x,.int .i64 t.b.y,.int .i64 t.b.z,.int .i64 t.c.x,.int .i64 t.c.y,.int .i64 t.c.z]
theorem cQ(t:T3):(aK t).length=9:=rfl
theorem yB:∀(ts:List T3) (i:Nat) (t:T3),ts[i]? = some t→(ts.flatMap aK).drop (i*9)=aK t++(ts.drop (i+1)).flatMap aK
 | [],i,t,h=>by cases h
 | u::ts,0,t,h=>by
  cases h;rfl
 | u::ts,i+1,t,h=>by
  rw[cw,show (i+1)*9=(aK u).length+i*9 by rw[cQ];omega,List.drop_append,fq (by omega),bv];rw[show (aK u).length+i*9-(aK u).length=i*9 by omega];exact yB ts i t h
abbrev Fy(A:Option Addr):Option Nat:=A.map (·.block)
structure Ow(w0 w:ah)(S:List (Option Nat))(E:aj)(c:Nat)(A:Option Addr)(n cap:Nat)(xs:List ac):Prop where
 own:w.ownsRow w0.heap.size E c (.slice A n cap) n xs
 sep:∀b,Fy A=some b→some b∉S
 bd:∀b,some b∈S→b<w.heap.size
structure Wr(w w':ah)(A:Option Addr):Prop where
 os:w'.os=w.os
 tape:w'.tape=w.tape
 output:w'.output=w.output
 size:w.heap.size≤w'.heap.size
 block:∀k,k<w.heap.size→Fy A≠some k→w'.heap[k]? = w.heap[k]?
theorem lV{w:ah}{base c n cap:Nat}{E:aj}{A:Option Addr}{xs:List ac}(h:w.ownsRow base E c (.slice A n cap) n xs) :
 (A=none∧n=0∧cap=0∧xs=[])∨∃g cur,A=some ⟨g,0,none⟩∧base≤g∧w.heap[g]? = some (.cells cur E (0,0))∧n≤cap∧cap≤maxLen∧cur.size=cap*c∧cur.toList.take (n*c)=xs:=by
 rcases h.2 with ⟨h1,h2⟩ | ⟨g,cap',cur,h1,h2,h3,h4,h5,h6,h7⟩
 · cases h1
   exact .inl ⟨rfl,h2,rfl,eh (by rw[h.1,h2,Nat.zero_mul])⟩
 · cases h1
   exact .inr ⟨g,cur,rfl,h2,h3,h4,h5,h6,h7⟩
section
variable {w0 w w':ah} {S:List (Option Nat)} {E:aj} {c n cap:Nat} {A:Option Addr} {xs:List ac}
theorem Ow.cases(h:Ow w0 w S E c A n cap xs):(A=none∧n=0∧cap=0∧xs=[])∨∃g cur,A=some ⟨g,0,none⟩∧w0.heap.size≤g∧w.heap[g]? = some (.cells cur E (0,0))∧n≤cap∧cap≤maxLen∧cur.size=cap*c∧cur.toList.take (n*c)=xs:=lV h.own
theorem Ow.ge(h:Ow w0 w S E c A n cap xs):∀b,Fy A=some b→w0.heap.size≤b:=fun b hb=>by
 rcases h.cases with ⟨rfl,_⟩ | ⟨g,cur,rfl,hg,_⟩
 · cases hb
 · cases hb
   exact hg
theorem Ow.le(h:Ow w0 w S E c A n cap xs):n≤cap:=by
 rcases h.cases with ⟨_,rfl,rfl,_⟩ | ⟨g,cur,_,_,_,h1,_⟩
 · exact ap _
 · exact h1
theorem Ow.some(h:Ow w0 w S E c A n cap xs)(hn:0<n):∃g,A=some ⟨g,0,none⟩:=by
 rcases h.cases with ⟨_,rfl,_⟩ | ⟨g,cur,rfl,_⟩
 · omega
 · exact⟨g,rfl⟩
theorem Ow.row(h:Ow w0 w S E c A n cap xs):∀j u,xs[j]? = jz u→∃a,A=jz a∧w.cell? (a.add j)=jz u:=fun j u hj=>by
 rcases h.cases with ⟨_,_,_,rfl⟩ | ⟨g,cur,rfl,_,hg,_,_,_,h4⟩
 · cases hj
 · refine⟨_,rfl,?_⟩
   rw[dT,aq,cell_of_row w g j cur E (0,0) hg];rw[←h4,dg] at hj;split at hj
   · simpa using hj
   · cases hj
theorem Ow.rows{g:Nat}(h:Ow w0 w S E c (jz ⟨g,0,none⟩) n cap xs):nV w ⟨g,0,none⟩ xs:=fun j u hj=>by
 obtain⟨a,e,h1⟩:=h.row j u hj;cases e;exact h1
theorem Ow.nil(w0 w:ah)(E:aj)(c:Nat):Ow w0 w [] E c none 0 0 []:=⟨World.ownsRow_nil w _ E c,fun _ h=>(by cases h),fun _ h=>(by cases h)⟩
theorem Ow.mk' {g:Nat}{cs:List ac}(hB:fA w g cs E)(hg:w0.heap.size≤g)(hl:cs.length=n*c)(hm:n≤maxLen):Ow w0 w [] E c (jz ⟨g,0,none⟩) n n cs :=
 ⟨⟨hl,.inr ⟨g,n,_,rfl,hg,hB,ap _,hm,by simpa using hl,by simp[←hl]⟩⟩,fun _ _ h=>(by cases h),fun _ h=>(by cases h)⟩
theorem Ow.as{ys:List ac}(h:Ow w0 w S E c A n cap xs)(e:xs=ys):Ow w0 w S E c A n cap ys:=e▸h
end
section
variable {P:bc} {ds:List cg} {l:List ac} {x y:a_} {T ty:aj}
variable {ops:Array Oper} {Q:Exit→Act→ah→Prop} {rest:List Oper} {d:Nat} {pos:String} {after:Array Edge} {w w0:ah} {S:List (Option Nat)} {E:aj} {c n cap m mcap:Nat} {A B:Option Addr} {xs news:List ac}
theorem Wr.refl(w:ah)(A:Option Addr):Wr w w A:=⟨rfl,rfl,rfl,ap _,fun _ _ _=>rfl⟩
theorem Ml{t:aj}{i:TypeInfo}{z:ac}{bytes:Nat}(ht:P.underlying t=some (.slice E))(hi:P.info? E=some i)(hz:i.zero=some z)(hsize:i.size=c)(hby:i.bytes=bytes)(hzs:z.cells.size=c)(hsz:0<c)
 (hown:Ow w0 w S E c A n cap xs) (hl:news.length=m*c) (hnews:∀j u,news[j]? = some u→∃a,B=some a∧w.cell? (a.add j)=some u) (h1:∀u∈news,u.oneCell'=true)
 (h63:n+m≤maxLen) (hbytes:(n+m)*bytes≤140737488355328) (hbase:w0.heap.size≤w.heap.size) :
 ∃A' cap' w',(Builtin.append_ #[t,t] ty #[.slice A n cap,.slice B m mcap]).run P w=.ok (.slice A' (n+m) cap') w'∧Ow w0 w' S E c A' (n+m) cap' (xs++news)∧Wr w w' A∧(A'=A∨Fy A'=some w.heap.size):=by
 subst hsize;subst hby;have hsmall:n+m≤9223372036854775807:=by simp only[maxLen] at h63;omega
 have hlen:(xs++news).length=(n+m)*i.size:=by rw[aw,hown.own.1,hl,iv]
 have grown:∀(old:Nat),old<n+m →
  Ow w0 (w.drew.alloc (.cells (xs.toArray++news.toArray++Builtin.zeroCells z.cells (grownCap w (n+m) old E-(n+m))) E)) S E i.size
   (some ⟨w.heap.size,0,none⟩) (n+m) (grownCap w (n+m) old E) (xs++news) ∧
  Wr w (w.drew.alloc (.cells (xs.toArray++news.toArray++Builtin.zeroCells z.cells (grownCap w (n+m) old E-(n+m))) E)) A:=by
  intro old ho;have hge:=grownCap_ge w (n+m) old E;have hcm:grownCap w (n+m) old E≤maxLen:=grownCap_le_maxLen w (n+m) old E h63;refine⟨⟨⟨hlen,.inr ⟨w.heap.size,_,_,rfl,hbase,heap_alloc_new w.drew _,hge,hcm,?_,?_⟩⟩,fun b hb hm=>?_,fun b hb=>?_⟩,⟨rfl,rfl,rfl,by simp,fun k hk _=>heap_alloc_old w.drew _ (h:=hk)⟩⟩
  · simp only[Array.size_append,fh,size_zeroCells,hzs,hown.own.1,hl,←iv]
    congr 1
    omega
  · simp only[Array.toList_append,cq]
    rw[←cq,←hlen];exact List.take_left
  · have hb':w.heap.size=b:=by simpa using hb
    subst hb';exact absurd (hown.bd _ hm) (Nat.lt_irrefl _)
  · have:=hown.bd _ hb
    have h2:(w.drew.alloc (.cells (xs.toArray++news.toArray++Builtin.zeroCells z.cells (grownCap w (n+m) old E-(n+m))) E)).heap.size=w.heap.size+1:=by simp
    rw[h2];omega
 have hB0:B=none→m=0∧news=[]:=fun hB=>by
  have hn:news=[]:=by
   cases news with
   | nil=>rfl
   | cons u us=>obtain⟨a,e,_⟩:=hnews 0 u rfl;rw[hB] at e;cases e
  subst hn;refine⟨?_,rfl⟩;rcases io m with h0 | h0
  · exact h0
  · have:=Nat.mul_pos h0 hsz;simp at hl;omega
 rcases hown.cases with ⟨rfl,rfl,rfl,rfl⟩ | ⟨g,cur,rfl,hbg,hg,hnc,hcm,hcs,htake⟩
 · by_cases hm:m=0
   · subst hm
     have hn:news=[]:=eh (by simpa using hl);subst hn;refine⟨none,0,w,?_,by simpa using hown,Wr.refl _ _,.inl rfl⟩;cases B <;> simp[Builtin.append_,bu ht,sizeOf,typeInfo,hi,Builtin.lenOf,Builtin.firstCells,loadCells,loadCellsFrom]
   · cases B with
     | none=>exact absurd (hB0 rfl).1 hm
     | some a =>
      have hr:=run_append_nil (P:=P) w t ty E i z ht hi hz a m mcap news hl (fun j u hj=>by obtain⟨a',e,h⟩:=hnews j u hj;cases e;exact h) (by omega) (by omega) (by have hb:=hbytes;simp only[aq] at hb;omega);have hgr:=grown 0 (by omega);simp only[aq,bv,Array.empty_append] at hgr ⊢;exact⟨_,_,_,hr,hgr.1,hgr.2,.inr rfl⟩
 · cases B with
   | none =>
    obtain⟨rfl,rfl⟩:=hB0 rfl;refine⟨some ⟨g,0,none⟩,cap,w,?_,by simpa using hown,Wr.refl _ _,.inl rfl⟩;simp[Builtin.append_,bu ht,sizeOf,typeInfo,hi,Builtin.lenOf,Builtin.firstCells,hnc,storeCells]
   | some a =>
    have hnews':∀j u,news[j]? = some u→w.cell? (a.add j)=some u:=fun j u hj=>by obtain⟨a',e,h⟩:=hnews j u hj;cases e;exact h
    by_cases hroom:n+m≤cap
    · have hfit:n*i.size+news.length≤cur.size:=by rw[hl,hcs,←iv];exact ky _ hroom
      have hr:=run_append_room (P:=P) w t ty E i ht hi g n cap cur hg a m mcap news hl hnews' h1 hroom hfit;refine⟨_,_,_,hr,⟨⟨hlen,.inr ⟨g,cap,_,rfl,hbg,setRow_heap w g cur _ E _ hg,hroom,hcm,?_,?_⟩⟩,hown.sep,fun b hb=>by simpa using hown.bd b hb⟩,⟨rfl,rfl,rfl,by simp,fun k _ hk=>setRow_other w g k _ (fun e=>hk (by rw[e];rfl))⟩,.inl rfl⟩
      · simp only[fh,aw,br,ej,Array.length_toList]
        omega
      · rw[htake,←hlen]
        exact List.take_left
    · have hr:=run_append_grow (P:=P) w t ty E i z ht hi hz ⟨g,0,none⟩ n cap xs hown.own.1 hown.rows a m mcap news hl hnews' (by omega) (by omega) (growslice_fits (by omega) hbytes)
      have hgr:=grown cap (by omega);exact⟨_,_,_,hr,hgr.1,hgr.2,.inr rfl⟩
theorem Nt{b:Nat}{z:ac}{a0:Array aj}(ha:a0 = #[T,T])(hu:P.underlying T=some (.slice E))(hi:(P.info? E).map (fun i=>(i.size,i.bytes,i.zero))=some (c,b,some z))(hz:z.cells.size=c)(hc:0<c)(hX:eW w0 w)
 (hs:ev l x=.slice A n cap) (hown:Ow w0 w S E c A n cap xs) (hx:ev l y=.slice B m mcap) (hl:news.length=m*c) (hrow:∀j u,news[j]? = some u→∃a,B=some a∧w.cell? (a.add j)=some u) (h1:∀u∈news,u.oneCell'=true) (h63:n+m≤9223372036854775807) (hbytes:(n+m)*b≤140737488355328)
 (h:∀A' cap' w',Ow w0 w' S E c A' (n+m) cap' (xs++news)→Wr w w' A→(A'=A∨Fy A'=some w.heap.size)→ao P ops Q rest (Fr (l.set d (.slice A' (n+m) cap')) ds) w') :
 ao P ops Q (bi (some d) (.call { callee:=.builtin .append,args:=#[x,y],argTypes:=a0 }) ty pos after none::rest) (Fr l ds) w:=by
 subst ha;cases hq:P.info? E with
 | none=>rw[hq] at hi;cases hi
 | some i =>
  rw[hq] at hi;simp only[d_,fp,ff] at hi;obtain⟨e1,e2,e3⟩:=hi;obtain⟨A',cap',w',hr,h2,h3,h4⟩:=Ml (P:=P) (w:=w) (ty:=ty) (mcap:=mcap) hu hq e3 e1 e2 hz hc hown hl hrow h1 (by simpa[maxLen] using h63) hbytes hX.size;exact kN (fun o ho hty=>by simp[ck,ho,hty,resolve,invoke,builtin,bS,hs,hx,hr]) (h A' cap' w' h2 h3 h4)
theorem Mm{cur:Array ac}{xs us:List ac}{off k:Nat}(hx:cur.toList.take k=xs)(hl:xs.length=k)(hf:off+us.length≤k):(over cur.toList off us).take k=over xs off us:=by
 subst hx;have hk:k≤cur.toList.length:=by rw[br] at hl;omega
 unfold over;apply fa;intro j;rw[dg];have e1:(cur.toList.take off).length=off:=by rw[br];omega
 have e2:((cur.toList.take k).take off).length=off:=by rw[br,br];omega
 simp only[cq];by_cases h0:j<k
 · rw[if_pos h0]
   rcases eo j off with h1 | h1
   · rw[cn (by omega),cn (by omega),List.take_take,gl (by omega)]
   · rw[dh (l₁:=cur.toList.take off) (by omega),dh (l₁:=(cur.toList.take k).take off) (by omega),e1,e2]
     rcases eo (j-off) us.length with h2 | h2
     · rw[cn h2,cn h2]
     · rw[dh h2,dh h2,cu,cu,dg,if_pos (by omega)]
 · rw[if_neg h0]
   symm
   apply ee;simp only[aw,e2,ej,br];omega
theorem adr{g off:Nat}{us:List ac}(hx:ev l x=.pointer (some ⟨g,off,none⟩))(hv:(ev l y).cells=us.toArray)(hc:cS P T us.length)(hO:Ow w0 w S E c (some ⟨g,0,none⟩) n cap xs)(hfit:off+us.length≤n*c)(h1:∀u∈us,u.oneCell'=true)
 (h:∀w',Wr w w' (some ⟨g,0,none⟩)→Ow w0 w' S E c (some ⟨g,0,none⟩) n cap (over xs off us)→ao P ops Q rest (Fr l ds) w'):ao P ops Q (bi none (.store T x y) ty pos after none::rest) (Fr l ds) w:=by
 rcases hO.cases with ⟨e,_⟩ | ⟨g',cur,e,hbg,hg,hnc,hcm,hcs,htake⟩
 · cases e
 · cases e
   have hfc:off+us.length≤cur.toList.length:=by
    have:=ky c hnc;simp;omega
   have hB:fA w g cur.toList E:=by unfold fA;simpa using hg
   refine uA (cs:=cur.toList) (t:=E) hx hv hc hB hfc h1 fun w' hC hB'=>h w' ⟨hC.os,hC.tape,hC.output,by rw[hC.size];exact ap _,fun k _ hk=>hC.block k (fun e=>hk (by rw[e];rfl))⟩ ?_;refine⟨⟨?_,.inr ⟨g,cap,_,rfl,hbg,hB',hnc,hcm,?_,?_⟩⟩,hO.sep,fun b hb=>by rw[hC.size];exact hO.bd b hb⟩
   · rw[vU (by rw[hO.own.1];exact hfit)];exact hO.own.1
   · simp only[fh];rw[vU hfc];simpa using hcs
   · show ((over cur.toList off us).toArray.toList).take (n*c)=_
     simp only[dt];exact Mm htake hO.own.1 hfit
end
theorem yC(ts:List T3):(ts.flatMap aK).length=ts.length*9:=by
 induction ts with
 | nil=>rfl
 | cons t ts ih=>rw[cw,aw,ih,cQ,au];omega
theorem Ow.tris{w0 w:ah}{S:List (Option Nat)}{E:aj}{A:Option Addr}{n cap:Nat}{ts:List T3}(h:Ow w0 w S E 9 A n cap (ts.flatMap aK))(hi:∀t∈ts,IT t):bK w A n ts:=by
 refine⟨?_,hi,fun i t ht=>?_⟩
 · have:=h.own.1;rw[yC] at this;omega
 · have hr:∀j u,(aK t)[j]? = jz u→(ts.flatMap aK)[i*9+j]? = jz u:=fun j u hj=>by
    have hj':j<(aK t).length:=(ar.1 hj).1;rw[←cu,yB ts i t ht,cn hj'];exact hj
   obtain⟨a,e,_⟩:=h.row _ _ (hr 0 _ rfl);refine⟨a,e,fun j u hj=>?_⟩;obtain⟨a',e',hc⟩:=h.row _ _ (hr j u hj);rw[e] at e';cases e';rw[iD];exact hc
theorem bK.cells{w:ah}{A:Option Addr}{n:Nat}{ts:List T3}(h:bK w A n ts):∀j u,(ts.flatMap aK)[j]? = some u→∃a,A=some a∧w.cell? (a.add j)=some u:=fun j u hj=>by
 have hl:j<ts.length*9:=by
  have:=(ar.1 hj).1;rwa [yC] at this
 have hq:j / 9<ts.length:=by omega
 have ht:=an hq;obtain⟨a,e,hr⟩:=h.row _ _ ht;refine⟨a,e,?_⟩;have hd:=yB ts (j / 9) _ ht;have hj':(aK ts[j / 9])[j%9]? = some u:=by
  have:((ts.flatMap aK).drop (j / 9*9))[j%9]? = some u:=by rw[cu,show j / 9*9+j%9=j by omega];exact hj
  rw[hd,cn (by rw[cQ];omega)] at this;exact this
 have:=hr _ _ hj';rwa [iD,show j / 9*9+j%9=j by omega] at this
theorem agN:∀(t:T3),∀u∈aK t,u.oneCell'=true:=fun t u hu=>by
 simp only[aK,ak,List.not_mem_nil,or_false] at hu;rcases hu with rfl | rfl | rfl | rfl | rfl | rfl | rfl | rfl | rfl <;> rfl
theorem tI(ts:List T3):∀u∈ts.flatMap aK,u.oneCell'=true:=fun u hu=>by
 obtain⟨t,_,h⟩:=List.mem_flatMap.1 hu;exact agN t u h
theorem fA.rowsO{w:ah}{g:Nat}{cs:List ac}{t:aj}(h:fA w g cs t):∀j u,cs[j]? = some u→∃a,some (⟨g,0,none⟩:Addr)=some a∧w.cell? (a.add j)=some u:=fun j u hj=>⟨_,rfl,by have:=h.row 0;rw[mj] at this;exact this j u hj⟩
section
variable {w0 w w':ah} {S:List (Option Nat)} {E:aj} {c n cap:Nat} {A:Option Addr} {xs:List ac}
end
/-! ### Names that are short -/
theorem zA{l:List ac}(t:Nat):ev l (.tmp t)=l.getD t undef:=rfl
theorem zB{l:List ac}(v:ac):ev l (.const v)=v:=rfl
theorem zC{l:List ac}(f:Nat):ev l (.func f)=.func (.func f) #[] #[]:=rfl
theorem zD{α:Type}{x:α}{xs:List α}{n:Nat}{d:α}:(x::xs).getD (n+1) d=xs.getD n d:=rfl
theorem zE{α:Type}{x:α}{xs:List α}{d:α}:(x::xs).getD 0 d=x:=rfl
theorem zF{α:Type}{x:α}{xs:List α}{n:Nat}{a:α}:(x::xs).set (n+1) a=x::xs.set n a:=rfl
theorem zG{α:Type}{x:α}{xs:List α}{a:α}:(x::xs).set 0 a=a::xs:=rfl
theorem zH{α:Type}{x:α}{xs:List α}{n:Nat}:(x::xs).take (n+1)=x::xs.take n:=rfl
theorem zI{α:Type}{xs:List α}:xs.take 0=[]:=ju
theorem zJ{α:Type}{x:α}{xs:List α}{n:Nat}:(x::xs).drop (n+1)=xs.drop n:=rfl
theorem zK{α:Type}{xs:List α}:xs.drop 0=xs:=rfl
theorem zL{α:Type}{x:α}{xs ys:List α}:(x::xs)++ys=x::(xs++ys):=rfl
theorem zM{α:Type}{ys:List α}:[]++ys=ys:=rfl
theorem zN{α:Type}{ys:List α}:ys++[]=ys:=e_ ys
theorem zO{α:Type}{x:α}{xs:List α}:(x::xs).length=xs.length+1:=rfl
theorem zP{α:Type}:([]:List α).length=0:=rfl
theorem zQ{α β:Type}{f:α→β}{x:α}{xs:List α}:(x::xs).map f=f x::xs.map f:=rfl
theorem zR{α β:Type}{f:α→β}:([]:List α).map f=[]:=rfl
theorem zS{α:Type}{l:List α}{i:Nat}:l.toArray[i]? = l[i]?:=jd
theorem zT{α:Type}{x:α}{xs:List α}{n:Nat}:(x::xs)[n+1]? = xs[n]?:=rfl
theorem zU{α:Type}{x:α}{xs:List α}:(x::xs)[0]? = some x:=rfl
theorem zV{α:Type}{x d:α}:(some x).getD d=x:=rfl
theorem zz:(∀(l:List Go.Value) (t:Nat), ev l (.tmp t)=l.getD t undef)∧(∀(l:List Go.Value) (v:Go.Value), ev l (.const v)=v)∧(∀(l:List Go.Value) (f:Nat), ev l (.func f)=.func (.func f) #[] #[])∧(∀{α:Type} (x:α) (xs:List α) (n:Nat) (d:α), (x::xs).getD (n+1) d=xs.getD n d)∧(∀{α:Type} (x:α) (xs:List α) (d:α), (x::xs).getD 0 d=x)∧(∀{α:Type} (x:α) (xs:List α) (n:Nat) (a:α), (x::xs).set (n+1) a=x::xs.set n a)∧(∀{α:Type} (x:α) (xs:List α) (a:α), (x::xs).set 0 a=a::xs) := ⟨fun _ _ => rfl, fun _ _ => rfl, fun _ _ => rfl, fun _ _ _ _ => rfl, fun _ _ _ => rfl, fun _ _ _ _ => rfl, fun _ _ _ => rfl⟩
theorem zy:(∀{α:Type} (x:α) (xs:List α) (n:Nat), (x::xs).take (n+1)=x::xs.take n)∧(∀{α:Type} (xs:List α), xs.take 0=[])∧(∀{α:Type} (x:α) (xs:List α) (n:Nat), (x::xs).drop (n+1)=xs.drop n)∧(∀{α:Type} (xs:List α), xs.drop 0=xs) := ⟨fun _ _ _ => rfl, fun _ => ju, fun _ _ _ => rfl, fun _ => rfl⟩
theorem zx:(∀{α:Type} (x:α) (xs ys:List α), (x::xs)++ys=x::(xs++ys))∧(∀{α:Type} (ys:List α), []++ys=ys)∧(∀{α:Type} (ys:List α), ys++[]=ys)∧(∀{α:Type} (x:α) (xs:List α), (x::xs).length=xs.length+1)∧(∀{α:Type}, ([]:List α).length=0) := ⟨fun _ _ _ => rfl, fun _ => rfl, fun _ => e_ _, fun _ _ => rfl, rfl⟩
theorem zw:(∀{α:Type} (l:List α) (i:Nat), l.toArray[i]? = l[i]?)∧(∀{α:Type} (x:α) (xs:List α) (n:Nat), (x::xs)[n+1]? = xs[n]?)∧(∀{α:Type} (x:α) (xs:List α), (x::xs)[0]? = some x)∧(∀{α:Type} (x d:α), (some x).getD d=x) := ⟨fun _ _ => jd, fun _ _ _ => rfl, fun _ _ => rfl, fun _ _ => rfl⟩
theorem zu:(∀(l:List Go.Value) (t:Nat) (ts:List Nat) (v:Go.Value) (vs:List Go.Value), eG l (t::ts) (v::vs)=eG (l.set t v) ts vs)∧(∀(l vs:List Go.Value), eG l [] vs=l)∧(∀(l:List Go.Value) (t:Nat) (ts:List Nat) (g:Nat→Go.Value), nE l (t::ts) g=nE (l.set t (g t)) ts g)∧(∀(l:List Go.Value) (g:Nat→Go.Value), nE l [] g=l) := ⟨fun _ _ _ _ _ => rfl, fun _ _ => vY, fun _ _ _ _ => rfl, fun _ _ => rfl⟩
theorem zv:(∀{α β:Type} (f:α→β) (x:α) (xs:List α), (x::xs).map f=f x::xs.map f)∧(∀{α β:Type} (f:α→β), ([]:List α).map f=[])∧(∀(l:List Go.Value) (t:Nat) (ts:List Nat) (v:Go.Value) (vs:List Go.Value), eG l (t::ts) (v::vs)=eG (l.set t v) ts vs)∧(∀(l vs:List Go.Value), eG l [] vs=l)∧(∀(l:List Go.Value) (t:Nat) (ts:List Nat) (g:Nat→Go.Value), nE l (t::ts) g=nE (l.set t (g t)) ts g)∧(∀(l:List Go.Value) (g:Nat→Go.Value), nE l [] g=l) := ⟨fun _ _ _ => rfl, fun _ => rfl, fun _ _ _ _ _ => rfl, fun _ _ => vY, fun _ _ _ _ => rfl, fun _ _ => rfl⟩
structure It where
 own:Nat→Prop
 P:ah→Prop
 lt:∀w b,P w→own b→b<w.heap.size
 st:∀w w',P w→w.heap.size≤w'.heap.size→(∀b,own b→w'.heap[b]? = w.heap[b]?)→P w'
 bk:Option (Nat × List ac × aj):=none
 bkP:∀x,bk=some x→(∀b,own b↔b=x.1)∧∀w,P w→fA w x.1 x.2.1 x.2.2:=by intro _ h;cases h
def bI(g:Nat)(cs:List ac)(t:aj):It where
 own b:=some g=some b
 P w:=fA w g cs t
 lt w b h e:=by cases e;exact h.lt
 st w w' h _ k:=(k g rfl).trans h
 bk:=some (g,cs,t)
 bkP x h:=by cases h;exact⟨fun b=>⟨fun e=>by cases e;rfl,fun e=>by rw[e]⟩,fun _ h=>h⟩
def oI(E:aj)(c:Nat)(A:Option Addr)(n cap:Nat)(xs:List ac):It where
 own b:=Fy A=some b
 P w:=w.ownsRow 0 E c (.slice A n cap) n xs
 lt w b h e:=by
  rcases lV h with ⟨rfl,_⟩ | ⟨g,cur,rfl,_,hg,_⟩
  · cases e
  · cases e;exact (da.1 hg).1
 st w w' h _ k:=by
  refine⟨h.1,?_⟩;rcases lV h with ⟨rfl,rfl,rfl,_⟩ | ⟨g,cur,rfl,h1,h2,h3⟩
  · exact .inl ⟨rfl,rfl⟩
  · exact .inr ⟨g,cap,cur,rfl,h1,(k g rfl).trans h2,h3⟩
def Ap(i j:It):Prop:=∀b,i.own b→j.own b→False
theorem Ap.symm{i j:It}(h:Ap i j):Ap j i:=fun b h1 h2=>h b h2 h1
structure Mem(w0 w:ah)(is:List It):Prop where
 ext:eW w0 w
 all:∀i∈is,i.P w
 ge:∀i∈is,∀b,i.own b→w0.heap.size≤b
 nd:is.Pairwise Ap
def nI:List Bool→List It→List It
 | true::bs,i::is=>i::nI bs is
 | false::bs,_::is=>nI bs is
 | _,_=>[]
theorem wL:∀(bs:List Bool) (is:List It),(nI bs is).Sublist is
 | true::bs,i::is=>(wL bs is).cons_cons i
 | false::bs,i::is=>(wL bs is).cons i
 | [],is=>m_ _
 | true::bs,[]=>m_ _
 | false::bs,[]=>m_ _
section
variable {w0 w w':ah} {is:List It}
theorem Mem.refl(w:ah):Mem w w []:=⟨eW.refl w,fun _ h=>(by cases h),fun _ h=>(by cases h),.nil⟩
theorem Mem.ext' (m:Mem w0 w is)(e:eW w w'):Mem w0 w' is :=
 ⟨m.ext.trans e,fun i hi=>i.st w w' (m.all i hi) e.size fun b hb=>Below.block e b (i.lt w b (m.all i hi) hb),m.ge,m.nd⟩
theorem Mem.sel(m:Mem w0 w is)(bs:List Bool):Mem w0 w (nI bs is) :=
 ⟨m.ext,fun i hi=>m.all i ((wL bs is).subset hi),fun i hi=>m.ge i ((wL bs is).subset hi),m.nd.sublist (wL bs is)⟩
theorem Mem.tl{i:It}(m:Mem w0 w (i::is)):Mem w0 w is:=⟨m.ext,fun j hj=>m.all j (bm _ hj),fun j hj=>m.ge j (bm _ hj),(bj.1 m.nd).2⟩
theorem Mem.get(m:Mem w0 w is)(k:Nat){i:It}(hk:is[k]? = some i):i.P w:=m.all i (ba hk)
theorem Mem.b(m:Mem w0 w is)(k:Nat){g:Nat}{cs:List ac}{t:aj}(hk:is[k]? = some (bI g cs t)):fA w g cs t:=m.get k hk
theorem Mem.o(m:Mem w0 w is)(k:Nat){E:aj}{c n cap:Nat}{A:Option Addr}{xs:List ac}(hk:is[k]? = some (oI E c A n cap xs)):Ow w0 w [] E c A n cap xs:=by
 have h:w.ownsRow 0 E c (.slice A n cap) n xs:=m.get k hk;refine⟨⟨h.1,?_⟩,fun _ _ h=>(by cases h),fun _ h=>(by cases h)⟩;rcases lV h with ⟨rfl,rfl,rfl,_⟩ | ⟨g,cur,rfl,_,h2,h3⟩
 · exact .inl ⟨rfl,rfl⟩
 · exact .inr ⟨g,cap,cur,rfl,m.ge _ (ba hk) g rfl,h2,h3⟩
theorem Mem.bo(m:Mem w0 w is)(k:Nat){g:Nat}{cs:List ac}{t:aj}(hk:is[k]? = some (bI g cs t)){n c:Nat}(hl:cs.length=n*c)(hm:n≤maxLen):Ow w0 w [] t c (some ⟨g,0,none⟩) n n cs :=
 Ow.mk' (m.b k hk) (m.ge _ (ba hk) g rfl) hl hm
theorem Mem.toO(m:Mem w0 w is)(k:Nat){g:Nat}{cs:List ac}{t:aj}(hk:is[k]? = some (bI g cs t)){n c:Nat}(hl:cs.length=n*c)(hm:n≤maxLen):∃i,i=oI t c (some ⟨g,0,none⟩) n n cs∧i.P w:=⟨_,rfl,(m.bo k hk hl hm).own.1,.inr ⟨g,n,_,rfl,cd _,m.b k hk,ap _,hm,by simpa using hl,by simp[←hl]⟩⟩
theorem Mem.new{i:It}(m:Mem w0 w is)(e:eW w w')(hi:i.P w')(hg:∀b,i.own b→w.heap.size≤b):Mem w0 w' (i::is):=by
 have m':=m.ext' e;refine⟨m'.ext,fun j hj=>?_,fun j hj=>?_,bj.2 ⟨fun j hj b h1 h2=>?_,m'.nd⟩⟩
 · rcases ak.1 hj with rfl | hj
   · exact hi
   · exact m'.all j hj
 · rcases ak.1 hj with rfl | hj
   · exact fun b hb=>az m.ext.size (hg b hb)
   · exact m'.ge j hj
 · have:=j.lt w b (m.all j hj) h2
   have:=hg b h1;omega
theorem Mem.newB{g:Nat}{cs:List ac}{t:aj}(m:Mem w0 w is)(e:eW w w')(hg:w.heap.size≤g)(hB:fA w' g cs t):Mem w0 w' (bI g cs t::is):=m.new e hB (fun b h=>by cases h;exact hg)
theorem Mem.newO{S:List (Option Nat)}{E:aj}{c n cap:Nat}{A:Option Addr}{xs:List ac}(m:Mem w0 w is)(e:eW w w')(h:Ow w w' S E c A n cap xs):Mem w0 w' (oI E c A n cap xs::is):=by
 refine m.new e (i:=oI E c A n cap xs) ?_ h.ge;refine⟨h.own.1,?_⟩;rcases h.cases with ⟨rfl,rfl,rfl,_⟩ | ⟨g,cur,rfl,_,h2,h3⟩
 · exact .inl ⟨rfl,rfl⟩
 · exact .inr ⟨g,cap,cur,rfl,cd _,h2,h3⟩
theorem Mem.nilO(m:Mem w0 w is)(E:aj)(c:Nat):Mem w0 w (oI E c none 0 0 []::is):=m.newO (eW.refl w) (Ow.nil w w E c)
theorem Xl{i i':It}:∀(is:List It) (k:Nat),is.Pairwise Ap→is[k]? = some i→(∀x∈is,Ap i x→Ap i' x)→(is.set k i').Pairwise Ap
 | [],_,_,h,_=>by cases h
 | j::is,0,hp,h,hc=>by
  cases h;rw[List.set_cons_zero];have:=bj.1 hp;exact bj.2 ⟨fun x hx=>hc x (bm _ hx) (this.1 x hx),this.2⟩
 | j::is,k+1,hp,h,hc=>by
  rw[eu];have hp':=bj.1 hp;have h':is[k]? = some i:=h;refine bj.2 ⟨fun x hx=>?_,Xl is k hp'.2 h' fun x hx=>hc x (bm _ hx)⟩;rcases gz hx with hx | rfl
  · exact hp'.1 x hx
  · exact (hc j (bp ..) (hp'.1 i (ba h')).symm).symm
theorem Mem.put{i i':It}(m:Mem w0 w is)(k:Nat)(hk:is[k]? = some i)(hos:w'.os=w.os)(ht:w'.tape=w.tape)(ho:w'.output=w.output)(hs:w.heap.size≤w'.heap.size)(hb:∀b,b<w.heap.size→¬i.own b→w'.heap[b]? = w.heap[b]?)
 (hi:i'.P w') (hid:(∀b,i'.own b→i.own b)∨∀b,i'.own b→w.heap.size≤b):Mem w0 w' (is.set k i'):=by
 have hmem:=ba hk;refine⟨⟨hos.trans m.ext.os,ht.trans m.ext.tape,ho.trans m.ext.output,az m.ext.size hs,fun b hlt=>(hb b (fi hlt m.ext.size) fun e=>?_).trans (Below.block m.ext b hlt)⟩,fun j hj=>?_,fun j hj b hjb=>?_,Xl is k m.nd hk fun x hx ha b h1 h2=>?_⟩
 · have:=m.ge i hmem b e
   omega
 · obtain⟨q,hq,e⟩:=List.getElem_of_mem hj
   rw[List.getElem_set] at e;split at e
   · subst e;exact hi
   · rename_i hne
     rw[List.length_set] at hq;have hj':j∈is:=e▸ic hq;have hq':is[q]? = some j:=by rw[←e];exact an hq
     refine j.st w w' (m.all j hj') hs fun b hjb=>hb b (j.lt w b (m.all j hj') hjb) fun hib=>?_;have hklt:k<is.length:=(ar.1 hk).1;have hki:is[k]=i:=(ar.1 hk).2;rcases Nat.lt_or_gt_of_ne hne with h | h
     · have:=jf.1 m.nd k q hklt hq h
       rw[hki,e] at this;exact this b hib hjb
     · have:=jf.1 m.nd q k hq hklt h
       rw[hki,e] at this;exact this b hjb hib
 · rcases gz hj with hj | rfl
   · exact m.ge j hj b hjb
   · rcases hid with hid | hid
     · exact m.ge i hmem b (hid b hjb)
     · exact az m.ext.size (hid b hjb)
 · rcases hid with hid | hid
   · exact ha b (hid b h1) h2
   · have:=hid b h1
     have:=x.lt w b (m.all x hx) h2;omega
theorem Mem.reO(m:Mem w0 w is)(k:Nat){E:aj}{c n cap n' cap':Nat}{A:Option Addr}{xs xs':List ac}(hk:is[k]? = some (oI E c A n cap xs))(h:Ow w0 w [] E c A n' cap' xs'):Mem w0 w (is.set k (oI E c A n' cap' xs')):=by
 refine m.put k hk rfl rfl rfl (ap _) (fun _ _ _=>rfl) ?_ (.inl fun _ h=>h);refine⟨h.own.1,?_⟩;rcases h.cases with ⟨rfl,rfl,rfl,_⟩ | ⟨g,cur,rfl,_,h2,h3⟩
 · exact .inl ⟨rfl,rfl⟩
 · exact .inr ⟨g,cap',cur,rfl,cd _,h2,h3⟩
theorem Mem.own(m:Mem w0 w is)(k:Nat){g:Nat}{cs:List ac}{t:aj}(hk:is[k]? = some (bI g cs t)){n c:Nat}(hl:cs.length=n*c)(hm:n≤maxLen):Mem w0 w (is.set k (oI t c (some ⟨g,0,none⟩) n n cs)):=by
 obtain⟨i,rfl,h⟩:=m.toO k hk hl hm;exact m.put k hk rfl rfl rfl (ap _) (fun _ _ _=>rfl) h (.inl fun _ h=>h)
theorem jE{a b:Nat}(h:Nat.ble a b=true):a≤b:=Nat.le_of_ble_eq_true h
theorem jM{us:List ac}(h:(us.all (·.oneCell'))=true):∀u∈us,u.oneCell'=true:=fun u hu=>ew.1 h u hu
end
section
variable {P:bc} {ds:List cg} {l:List ac} {x y:a_} {T ty:aj}
variable {ops:Array Oper} {Q:Exit→Act→ah→Prop} {rest:List Oper} {d:Nat} {pos:String} {after:Array Edge} {w w0:ah} {is:List It}
theorem am1{cs:List ac}(m:Mem w0 w is)(hv:(ev l x).cells=cs.toArray)(h:∀g u,Mem w0 u (bI g cs T::is)→ao P ops Q rest (Fr (l.set d (.pointer (some ⟨g,0,none⟩))) ds) u) :
 ao P ops Q (bi (some d) (.box T x) ty pos after none::rest) (Fr l ds) w:=ac7 hv fun u g e hg hB=>h g u (m.newB e hg hB)
theorem kO{cs:List ac}{z:ac}(m:Mem w0 w is)(hZ:mC P T z)(hv:z.cells=cs.toArray)(h:∀g u,Mem w0 u (bI g cs T::is)→ao P ops Q rest (Fr (l.set d (.pointer (some ⟨g,0,none⟩))) ds) u) :
 ao P ops Q (bi (some d) (.alloc T) ty pos after none::rest) (Fr l ds) w:=xW hZ hv fun u g e hg hB=>h g u (m.newB e hg hB)
theorem ads{g off:Nat}{cs us:List ac}{t:aj}(m:Mem w0 w is)(k:Nat)(hk:is[k]? = some (bI g cs t))(hx:ev l x=.pointer (some ⟨g,off,none⟩))(hv:(ev l y).cells=us.toArray)(hc:cS P T us.length)(hfit:off+us.length≤cs.length)(h1:(us.all (·.oneCell'))=true)
 (h:∀u,Mem w0 u (is.set k (bI g (over cs off us) t))→ao P ops Q rest (Fr l ds) u):ao P ops Q (bi none (.store T x y) ty pos after none::rest) (Fr l ds) w :=
 uA hx hv hc (m.b k hk) hfit (jM h1) fun u hC hB=>h u (m.put k hk hC.os hC.tape hC.output (by rw[hC.size];exact ap _) (fun b _ hne=>hC.block b fun e=>hne (by rw[e];rfl)) hB (.inl fun _ h=>h))
theorem agO{g off:Nat}{us xs:List ac}{E:aj}{c n cap:Nat}(m:Mem w0 w is)(k:Nat)(hk:is[k]? = some (oI E c (some ⟨g,0,none⟩) n cap xs))(hx:ev l x=.pointer (some ⟨g,off,none⟩))(hv:(ev l y).cells=us.toArray)(hc:cS P T us.length)(hfit:off+us.length≤n*c)(h1:(us.all (·.oneCell'))=true)
 (h:∀u,Mem w0 u (is.set k (oI E c (some ⟨g,0,none⟩) n cap (over xs off us)))→ao P ops Q rest (Fr l ds) u):ao P ops Q (bi none (.store T x y) ty pos after none::rest) (Fr l ds) w :=
 adr hx hv hc (m.o k hk) hfit (jM h1) fun u hW hO=>h u (m.put k hk hW.os hW.tape hW.output hW.size (fun b hb hne=>hW.block b hb hne) (by
  refine⟨hO.own.1,?_⟩;rcases hO.cases with ⟨e,_⟩ | ⟨g,cur,e,_,h2,h3⟩
  · cases e
  · cases e;exact .inr ⟨_,cap,cur,rfl,cd _,h2,h3⟩) (.inl fun _ h=>h))
theorem kA{v:ac}{f:FuncId}{fo:a_}{xs:Array a_}{args:List ac}{first cap:Array ac}{a0:Array aj}(m:Mem w0 w is)(hf:ev l fo=.func (.func f) first cap)(hxs:first.toList++xs.toList.map (ev l)++cap.toList=args)(hc:eM P f args v)
 (h:∀u,Mem w0 u is→ao P ops Q rest (Fr (l.set d v) ds) u):ao P ops Q (bi (some d) (.call { callee:=.value fo,args:=xs,argTypes:=a0 }) ty pos after none::rest) (Fr l ds) w :=
 Pv hf hxs hc fun u e=>h u (m.ext' e)
theorem cW{f:FuncId}{fo:a_}{xs:Array a_}{args:List ac}{first cap:Array ac}{a0:Array aj}{R:ac→ah→Prop}(m:Mem w0 w is)(hf:ev l fo=.func (.func f) first cap)(hxs:first.toList++xs.toList.map (ev l)++cap.toList=args)(hc:dF P f args w R)
 (h:∀v u,Mem w0 u is→R v u→ao P ops Q rest (Fr (l.set d v) ds) u):ao P ops Q (bi (some d) (.call { callee:=.value fo,args:=xs,argTypes:=a0 }) ty pos after none::rest) (Fr l ds) w :=
 bJ hf hxs hc fun v u e hR=>h v u (m.ext' e) hR
def OR(E:aj)(c:Nat)(R:List ac→Prop)(w:ah)(v:ac)(w':ah):Prop:=∃A n cap xs,v=.slice A n cap∧Ow w w' [] E c A n cap xs∧R xs
theorem bR{E:aj}{c n cap b nm mcap:Nat}{A B:Option Addr}{z:ac}{xs news:List ac}{a0:Array aj}(m:Mem w0 w is)(k:Nat)(hk:is[k]? = some (oI E c A n cap xs))(ha:a0 = #[T,T])(hu:P.underlying T=some (.slice E))(hi:(P.info? E).map (fun i=>(i.size,i.bytes,i.zero))=some (c,b,some z))(hz:z.cells.size=c)(hc:0<c)
 (hs:ev l x=.slice A n cap) (hx:ev l y=.slice B nm mcap) (hl:news.length=nm*c) (hrow:∀j u,news[j]? = some u→∃a,B=some a∧w.cell? (a.add j)=some u) (h1:∀u∈news,u.oneCell'=true) (h63:n+nm≤9223372036854775807) (hbytes:(n+nm)*b≤140737488355328)
 (h:∀A' cap' u,Mem w0 u (is.set k (oI E c A' (n+nm) cap' (xs++news)))→ao P ops Q rest (Fr (l.set d (.slice A' (n+nm) cap')) ds) u) :
 ao P ops Q (bi (some d) (.call { callee:=.builtin .append,args:=#[x,y],argTypes:=a0 }) ty pos after none::rest) (Fr l ds) w :=
 Nt ha hu hi hz hc m.ext hs (m.o k hk) hx hl hrow h1 h63 hbytes fun A' cap' u hO hW hF=>h A' cap' u (m.put k hk hW.os hW.tape hW.output hW.size (fun b hb hne=>hW.block b hb hne) (by
  refine⟨hO.own.1,?_⟩;rcases hO.cases with ⟨rfl,e1,rfl,_⟩ | ⟨g,cur,rfl,_,h2,h3⟩
  · exact .inl ⟨by rw[e1],e1⟩
  · exact .inr ⟨g,cap',cur,rfl,cd _,h2,h3⟩) (by
  rcases hF with rfl | hF
  · exact .inl fun _ h=>h
  · exact .inr fun b hb=>by
     have e:Fy A'=some b:=hb;rw[hF] at e;cases e;exact ap _))
theorem Nu{cs:List ac}(m:Mem w0 w is)(hv:ev l x=.agg cs.toArray)(h:∀g u,Mem w0 u (bI g cs T::is)→ao P ops Q rest (Fr (l.set d (.pointer (some ⟨g,0,none⟩))) ds) u) :
 ao P ops Q (bi (some d) (.box T x) ty pos after none::rest) (Fr l ds) w:=am1 m (by rw[hv];rfl) h
theorem am2{v:ac}(m:Mem w0 w is)(hv:ev l x=v)(h1:v.cells = #[v])(h:∀g u,Mem w0 u (bI g [v] T::is)→ao P ops Q rest (Fr (l.set d (.pointer (some ⟨g,0,none⟩))) ds) u) :
 ao P ops Q (bi (some d) (.box T x) ty pos after none::rest) (Fr l ds) w:=am1 m (by rw[hv,h1]) h
theorem cD{g off:Nat}{cs us:List ac}{t:aj}(m:Mem w0 w is)(k:Nat)(hk:is[k]? = some (bI g cs t))(hx:ev l x=.pointer (some ⟨g,off,none⟩))(hv:ev l y=.agg us.toArray)(hc:cS P T us.length)(hfit:off+us.length≤cs.length)(h1:(us.all (·.oneCell'))=true)
 (h:∀u,Mem w0 u (is.set k (bI g (over cs off us) t))→ao P ops Q rest (Fr l ds) u):ao P ops Q (bi none (.store T x y) ty pos after none::rest) (Fr l ds) w:=ads m k hk hx (by rw[hv];rfl) hc hfit h1 h
theorem cK{g off:Nat}{cs:List ac}{v:ac}{t:aj}(m:Mem w0 w is)(k:Nat)(hk:is[k]? = some (bI g cs t))(hx:ev l x=.pointer (some ⟨g,off,none⟩))(hv:ev l y=v)(hc:cS P T 1)(hfit:off+1≤cs.length)(h1:v.oneCell'=true∧v.cells = #[v])
 (h:∀u,Mem w0 u (is.set k (bI g (over cs off [v]) t))→ao P ops Q rest (Fr l ds) u):ao P ops Q (bi none (.store T x y) ty pos after none::rest) (Fr l ds) w:=ads (us:=[v]) m k hk hx (by rw[hv,h1.2]) hc hfit (by simp[h1.1]) h
theorem fA.full{g:Nat}{cs:List ac}{t:aj}(h:fA w g cs t)(hA:dV P T true)(hc:cS P T cs.length):gM P w T ⟨g,0,none⟩ (.agg cs.toArray):=by
 have:=h.row 0;rw[mj] at this;exact this.lies hA hc
theorem Mem.s01{w0 w:ah}{i j:It}{is:List It}(m:Mem w0 w (i::j::is)):Mem w0 w (j::i::is):=by
 have h1:=bj.1 m.nd;have h2:=bj.1 h1.2;refine⟨m.ext,fun x hx=>m.all x ?_,fun x hx=>m.ge x ?_,bj.2 ⟨fun x hx=>?_,bj.2 ⟨fun x hx=>h1.1 x (bm _ hx),h2.2⟩⟩⟩
 · simp only[ak] at hx ⊢;rcases hx with h | h | h <;> simp[h]
 · simp only[ak] at hx ⊢;rcases hx with h | h | h <;> simp[h]
 · rcases ak.1 hx with rfl | hx
   · exact (h1.1 _ (bp ..)).symm
   · exact h2.1 x hx
/-! ### Regions -/
theorem cL{id:Nat}{a:Act}{l:List Oper}(m:Mem w0 w is)(n:Nat)(hm:P.follows .mixedOrders=true)(hB:Region.lexTailB .any l.toArray n=true)
 (h:bz P l.toArray (fun u=>Mem w0 u is) (fun a'=>∀u,Mem w0 u is→ao P l.toArray Q (l.drop n) a' u) (l.take n) a):(Code.region id l.toArray true).wp P Q a w :=
 oR (C:=fun u=>Mem w0 u is) n hm hB (m.ext' (eW.refl w).drawn) h
theorem mq{id:Nat}{a:Act}{l:List Oper}(m:Mem w0 w is)(hm:P.follows .mixedOrders=true)(hB:Region.lexB .any l.toArray=true)
 (h:bz P l.toArray (fun u=>Mem w0 u is) (fun a'=>∀u,Mem w0 u is→Q .normal a' u) l a):(Code.region id l.toArray true).wp P Q a w :=
 wp_region_quiet (C:=fun u=>Mem w0 u is) hm hB (m.ext' (eW.refl w).drawn) (by simpa using h)
theorem mh{id:Nat}{a:Act}{l:List Oper}(m:Mem w0 w is)(bs:List Bool)(o:List (Nat × Bool))(hm:P.follows .mixedOrders=true)(hB:(Region.noSelect l.toArray&&decide (o.length=l.length)&&Pt .any l.toArray o (fc l.toArray.size false))=true)
 (hQ:∀c d v a w,Q (.panic c) (Act.put a d v) w→Q (.panic c) a w) {ol:List (Oper × Bool)} (hol:(o.map fun x=>((l.toArray[x.1]?).getD default,x.2))=ol)
 (h:∀u,Mem w0 u is→bE P l.toArray (fun u=>Mem w0 u (nI bs is)) Q ol a u):(Code.region id l.toArray true).wp P Q a w :=
 vE o hm hB hQ hol fun u e=>⟨fun u=>Mem w0 u (nI bs is),(m.ext' e).sel bs,h u (m.ext' e)⟩
theorem mhe{id:Nat}{a:Act}{l:List Oper}(m:Mem w0 w is)(bs:List Bool)(o:List (Nat × Bool))(hm:P.follows .mixedOrders=true)(hB:(Region.noSelect l.toArray&&decide (o.length=l.length)&&Pt .any l.toArray o (fc l.toArray.size false))=true)
 (hQ:∀c d v a w,Q (.panic c) (Act.put a d v) w→Q (.panic c) a w) {ol:List (Oper × Bool)} (hol:(o.map fun x=>((l.toArray[x.1]?).getD default,x.2))=ol)
 (h:∀u,eW w u→Mem w0 u is→bE P l.toArray (fun u=>Mem w0 u (nI bs is)) Q ol a u):(Code.region id l.toArray true).wp P Q a w :=
 vE o hm hB hQ hol fun u e=>⟨fun u=>Mem w0 u (nI bs is),(m.ext' e).sel bs,h u e (m.ext' e)⟩
theorem Nv{id:Nat}{a:Act}{l:List Oper}(m:Mem w0 w is)(bs:List Bool)(t:nW)(hm:P.follows .mixedOrders=true)(hB:(Region.noSelect l.toArray&&t.ok .any l.toArray l.toArray.size (fc l.toArray.size false))=true)
 (hQ:∀c d v a w,Q (.panic c) (Act.put a d v) w→Q (.panic c) a w)
 (h:∀u,Mem w0 u is→bX P l.toArray (fun u=>Mem w0 u (nI bs is)) Q t a u):(Code.region id l.toArray true).wp P Q a w :=
 Jc t hm hB hQ fun u e=>⟨fun u=>Mem w0 u (nI bs is),(m.ext' e).sel bs,h u (m.ext' e)⟩
theorem mf1{tl:List Oper}{i d:Nat}{T:aj}{cs:List ac}(m:Mem w0 w is)(h:∀g u,Mem w0 u (bI g cs T::is)→ao P ops Q tl (Fr (l.set d (.pointer (some ⟨g,0,none⟩))) ds) u) :
 ∀E w',eW w w'→Eh w.heap.size E [⟨i,d,T,cs⟩] w'→(∀x∈[(⟨i,d,T,cs⟩:Al)],∃v,E x.i=some v)→ao P ops Q tl (eR E [⟨i,d,T,cs⟩] (Fr l ds)) w' :=
 ajh fun u g e hg hB=>h g u (m.newB e hg hB)
theorem Mem.newB2{w w':ah}{is:List It}{g g2:Nat}{cs cs2:List ac}{t t2:aj}(m:Mem w0 w is)(e:eW w w')(hg:w.heap.size≤g)(hg2:w.heap.size≤g2)(hB:fA w' g cs t)(hB2:fA w' g2 cs2 t2)(hne:g2≠g):Mem w0 w' (bI g2 cs2 t2::bI g cs t::is):=by
 have m1:=m.newB e hg hB;refine⟨m1.ext,fun j hj=>?_,fun j hj=>?_,bj.2 ⟨fun j hj b h1 h2=>?_,m1.nd⟩⟩
 · rcases ak.1 hj with rfl | hj
   · exact hB2
   · exact m1.all j hj
 · rcases ak.1 hj with rfl | hj
   · exact fun b hb=>by cases hb;exact az m.ext.size hg2
   · exact m1.ge j hj
 · cases h1
   rcases ak.1 hj with rfl | hj
   · cases h2;exact hne rfl
   · have:=j.lt w _ (m.all j hj) h2
     omega
theorem mf2{tl:List Oper}{i d j e:Nat}{T U:aj}{cs us:List ac}(m:Mem w0 w is)(hij:i≠j)(h:∀g k u,Mem w0 u (bI k us U::bI g cs T::is)→ao P ops Q tl (Fr ((l.set d (.pointer (some ⟨g,0,none⟩))).set e (.pointer (some ⟨k,0,none⟩))) ds) u) :
 ∀E w',eW w w'→Eh w.heap.size E [⟨i,d,T,cs⟩,⟨j,e,U,us⟩] w'→(∀x∈[(⟨i,d,T,cs⟩:Al),⟨j,e,U,us⟩],∃v,E x.i=some v)→ao P ops Q tl (eR E [⟨i,d,T,cs⟩,⟨j,e,U,us⟩] (Fr l ds)) w' :=
 aji hij fun u g k e hg hk hB hK hne=>h g k u (m.newB2 e hg hk hB hK hne)
theorem am3{c:Code}{a:Act}{l:Nat→Nat→List ac}{c1 c2:List ac}{T1 T2:aj}(m:Mem w0 w is)(h1:c.wp P (fun e a' u=>e=.normal∧∃g k,a'=Fr (l g k) ds∧Mem w0 u (bI k c2 T2::bI g c1 T1::is)) a w)
 (h2:∀g k u,Mem w0 u (bI k c2 T2::bI g c1 T1::is)→Q .normal (Fr (l g k) ds) u):c.wp P Q a w:=by
 refine Code.wp_mono ?_ h1;rintro e a' u ⟨rfl,g,k,rfl,m'⟩;exact h2 g k u m'
end
section
variable {P:bc} {w0:ah} {is:List It} {l:List ac} {x y:a_} {T ty:aj}
variable {ops:Array Oper} {Q:Act→Prop} {rest:List Oper} {d:Nat} {pos:String} {after:Array Edge} {v:ac} {ds:List cg}
theorem ql{a:Addr}(hx:ev l x=.pointer (some a))(hv:∀u,Mem w0 u is→gM P u T a v)(h:bz P ops (fun u=>Mem w0 u is) Q rest (Fr (l.set d v) ds)):bz P ops (fun u=>Mem w0 u is) Q (bi (some d) (.load T x) ty pos after none::rest) (Fr l ds) :=
 jC (fun u m=>aW hx (hv u m)) h
theorem qc{f:FuncId}{fo:a_}{xs:Array a_}{args:List ac}{first cap:Array ac}{a0:Array aj}(hf:ev l fo=.func (.func f) first cap)(hxs:first.toList++xs.toList.map (ev l)++cap.toList=args)(hc:∀u,Mem w0 u is→dF P f args u fun x _=>x=v)
 (h:bz P ops (fun u=>Mem w0 u is) Q rest (Fr (l.set d v) ds)):bz P ops (fun u=>Mem w0 u is) Q (bi (some d) (.call { callee:=.value fo,args:=xs,argTypes:=a0 }) ty pos after none::rest) (Fr l ds):=by
 refine wpQuiet_step fun K hK=>?_;rw[if_pos (by simp[Region.wanted])];refine⟨v,fun w' hw=>?_,?_⟩
 · unfold j_
   rw[iY,nA (hc w' hw).1 hf hxs _ rfl];refine⟨rfl,(hc w' hw).2.mono ?_⟩;rintro e w'' ⟨u,rfl,hE,rfl⟩;exact⟨rfl,hw.ext' hE⟩
 · show K ((Fr l ds).put (some d) v)
   rw[gE];exact hK _ h
theorem iF{f:FuncId}{fo:a_}{xs:Array a_}{args:List ac}{first cap:Array ac}{a0:Array aj}(hf:ev l fo=.func (.func f) first cap)(hxs:first.toList++xs.toList.map (ev l)++cap.toList=args)(hc:eM P f args v)
 (h:bz P ops (fun u=>Mem w0 u is) Q rest (Fr (l.set d v) ds)):bz P ops (fun u=>Mem w0 u is) Q (bi (some d) (.call { callee:=.value fo,args:=xs,argTypes:=a0 }) ty pos after none::rest) (Fr l ds):=qc hf hxs (fun u _=>hc u) h
end
structure GX(w w':ah):Prop where
 ext:eW w w'
 dr:w.drawn≤w'.drawn
theorem GX.grow{w w':ah}(h:GX w w'):∃q os,w'=Sort.grow (w.drewN q) os:=by
 refine⟨w'.drawn-w.drawn,w'.heap.extract w.heap.size w'.heap.size,?_⟩;have e1:w.heap++w'.heap.extract w.heap.size w'.heap.size=w'.heap:=by
  apply Array.ext_getElem?;intro i;rw[Array.getElem?_append];split
  · rename_i hi
    exact (Below.block h.ext i hi).symm
  · rename_i hi
    rw[Array.getElem?_extract];have:=h.ext.size;split
    · congr 1;omega
    · rw[ka (by omega)]
 have e2:w.drawn+(w'.drawn-w.drawn)=w'.drawn:=by have:=h.dr;omega
 have h1:=h.ext.os;have h2:=h.ext.tape;have h3:=h.ext.output;cases w;cases w';simp only[Sort.grow,World.drewN] at *
 subst h1 h2 h3;rw[e1,e2]
structure gH(w0 w:ah)(is:List It):Prop where
 ext:GX w0 w
 mem:Mem w0 w is
def pQ(P:bc)(f:FuncId)(args:List ac)(v:ac):Prop:=∀w,Entr P f∧Calls P f args.toArray w fun e w'=>∃u,e=.returned u∧GX w w'∧u=v
theorem pQ.pure{P:bc}{f:FuncId}{args:List ac}{v:ac}(h:pQ P f args v):eM P f args v:=fun w=>⟨(h w).1,(h w).2.mono fun _ _ ⟨u,he,hX,hv⟩=>⟨u,he,hX.ext,hv⟩⟩
section
variable {w0 w w':ah} {is:List It}
theorem gH.refl(w:ah):gH w w []:=⟨⟨eW.refl w,ap _⟩,Mem.refl w⟩
theorem gH.go(m:gH w0 w is){js:List It}(h:Mem w0 w' js)(d:w.drawn≤w'.drawn):gH w0 w' js:=⟨⟨h.ext,az m.ext.dr d⟩,h⟩
theorem gH.ext' (m:gH w0 w is)(e:GX w w'):gH w0 w' is:=m.go (m.mem.ext' e.ext) e.dr
theorem gH.b(m:gH w0 w is)(k:Nat){g:Nat}{cs:List ac}{t:aj}(hk:is[k]? = some (bI g cs t)):fA w g cs t:=m.mem.b k hk
end
section
variable {P:bc} {ds:List cg} {l:List ac} {x y:a_} {T ty:aj}
variable {ops:Array Oper} {Q:Exit→Act→ah→Prop} {rest:List Oper} {d:Nat} {pos:String} {after:Array Edge} {w w0:ah} {is:List It} {v:ac}
theorem am4{cs:List ac}(m:gH w0 w is)(hv:(ev l x).cells=cs.toArray)(h:∀g u,gH w0 u (bI g cs T::is)→ao P ops Q rest (Fr (l.set d (.pointer (some ⟨g,0,none⟩))) ds) u) :
 ao P ops Q (bi (some d) (.box T x) ty pos after none::rest) (Fr l ds) w :=
 kN (w':=w.alloc (.cells cs.toArray T)) (v:=.pointer (some ⟨w.heap.size,0,none⟩)) (fun o ho _=>by simp[ck,ho,bS,Instr.box,newVar,newRow,hv,newObj,Sem.run]) (h _ _ (m.go (m.mem.newB ((eW.refl w).alloc _) (ap _) (gX w cs T)) (ap _)))
theorem mD{cs:List ac}(m:gH w0 w is)(hv:ev l x=.agg cs.toArray)(h:∀g u,gH w0 u (bI g cs T::is)→ao P ops Q rest (Fr (l.set d (.pointer (some ⟨g,0,none⟩))) ds) u) :
 ao P ops Q (bi (some d) (.box T x) ty pos after none::rest) (Fr l ds) w:=am4 m (by rw[hv];rfl) h
theorem agP{cs:List ac}{z:ac}(m:gH w0 w is)(hZ:mC P T z)(hv:z.cells=cs.toArray)(h:∀g u,gH w0 u (bI g cs T::is)→ao P ops Q rest (Fr (l.set d (.pointer (some ⟨g,0,none⟩))) ds) u) :
 ao P ops Q (bi (some d) (.alloc T) ty pos after none::rest) (Fr l ds) w:=by
 obtain⟨inf,hi,hz⟩:=hZ;exact kN (w':=w.alloc (.cells cs.toArray T)) (v:=.pointer (some ⟨w.heap.size,0,none⟩)) (fun o ho _=>by simp[ck,ho,Instr.alloc,zeroValue,typeInfo,hi,hz,newVar,newRow,hv,newObj,Sem.run]) (h _ _ (m.go (m.mem.newB ((eW.refl w).alloc _) (ap _) (gX w cs T)) (ap _)))
theorem agQ{g off:Nat}{cs us:List ac}{t:aj}(m:gH w0 w is)(k:Nat)(hk:is[k]? = some (bI g cs t))(hx:ev l x=.pointer (some ⟨g,off,none⟩))(hv:(ev l y).cells=us.toArray)(hc:cS P T us.length)(hfit:off+us.length≤cs.length)(h1:(us.all (·.oneCell'))=true)
 (h:∀u,gH w0 u (is.set k (bI g (over cs off us) t))→ao P ops Q rest (Fr l ds) u):ao P ops Q (bi none (.store T x y) ty pos after none::rest) (Fr l ds) w:=by
 have hB:=m.b k hk;have hC:=Ii w g (over cs off us).toArray;exact Cd (w':=w.setRow g (over cs off us).toArray) (fun o ho=>by simp[ck,ho,bS,hx,Instr.storeAt,Instr.sureAddr,Ce hc hv hB hfit (jM h1)])
  (h _ (m.go (m.mem.put k hk hC.os hC.tape hC.output (by rw[hC.size];exact ap _) (fun b _ hne=>hC.block b fun e=>hne (by rw[e];rfl)) (setRow_heap w g cs.toArray _ t _ hB) (.inl fun _ h=>h)) (ap _)))
theorem adt{g off:Nat}{cs us:List ac}{t:aj}(m:gH w0 w is)(k:Nat)(hk:is[k]? = some (bI g cs t))(hx:ev l x=.pointer (some ⟨g,off,none⟩))(hv:ev l y=.agg us.toArray)(hc:cS P T us.length)(hfit:off+us.length≤cs.length)(h1:(us.all (·.oneCell'))=true)
 (h:∀u,gH w0 u (is.set k (bI g (over cs off us) t))→ao P ops Q rest (Fr l ds) u):ao P ops Q (bi none (.store T x y) ty pos after none::rest) (Fr l ds) w:=agQ m k hk hx (by rw[hv];rfl) hc hfit h1 h
theorem Hr{f:FuncId}{fo:a_}{xs:Array a_}{args:List ac}{first cap:Array ac}{a0:Array aj}(m:gH w0 w is)(hf:ev l fo=.func (.func f) first cap)(hxs:first.toList++xs.toList.map (ev l)++cap.toList=args)(hc:pQ P f args v)
 (h:∀u,gH w0 u is→ao P ops Q rest (Fr (l.set d v) ds) u):ao P ops Q (bi (some d) (.call { callee:=.value fo,args:=xs,argTypes:=a0 }) ty pos after none::rest) (Fr l ds) w:=by
 refine wpList_plain rfl fun K hK=>?_;unfold kj;rw[iY,nA (hc w).1 hf hxs _ rfl];refine (hc w).2.mono ?_;rintro e w' ⟨u,rfl,hE,rfl⟩;show K ((Fr l ds).put (some d) u) w'
 rw[gE];exact hK _ _ (h w' (m.ext' hE))
theorem gH.drew(m:gH w0 w is):gH w0 { w with drawn:=w.drawn+1 } is:=m.ext' ⟨(eW.refl w).drawn,Nat.le_succ _⟩
theorem Jg{id:Nat}{a:Act}{l:List Oper}(m:gH w0 w is)(n:Nat)(hm:P.follows .mixedOrders=true)(hB:Region.lexTailB .any l.toArray n=true)
 (h:bz P l.toArray (fun u=>gH w0 u is) (fun a'=>∀u,gH w0 u is→ao P l.toArray Q (l.drop n) a' u) (l.take n) a):(Code.region id l.toArray true).wp P Q a w :=
 oR (C:=fun u=>gH w0 u is) n hm hB m.drew h
theorem Gmq{id:Nat}{a:Act}{l:List Oper}(m:gH w0 w is)(hm:P.follows .mixedOrders=true)(hB:Region.lexB .any l.toArray=true)
 (h:bz P l.toArray (fun u=>gH w0 u is) (fun a'=>∀u,gH w0 u is→Q .normal a' u) l a):(Code.region id l.toArray true).wp P Q a w :=
 wp_region_quiet (C:=fun u=>gH w0 u is) hm hB m.drew (by simpa using h)
end
section
variable {P:bc} {w0:ah} {is:List It} {l:List ac} {x y:a_} {T ty:aj}
variable {ops:Array Oper} {Q:Act→Prop} {rest:List Oper} {d:Nat} {pos:String} {after:Array Edge} {v:ac} {ds:List cg}
theorem Me{a:Addr}(hx:ev l x=.pointer (some a))(hv:∀u,gH w0 u is→gM P u T a v)(h:bz P ops (fun u=>gH w0 u is) Q rest (Fr (l.set d v) ds)):bz P ops (fun u=>gH w0 u is) Q (bi (some d) (.load T x) ty pos after none::rest) (Fr l ds) :=
 jC (fun u m=>aW hx (hv u m)) h
theorem Ck{f:FuncId}{fo:a_}{xs:Array a_}{args:List ac}{first cap:Array ac}{a0:Array aj}(hf:ev l fo=.func (.func f) first cap)(hxs:first.toList++xs.toList.map (ev l)++cap.toList=args)(hc:pQ P f args v)
 (h:bz P ops (fun u=>gH w0 u is) Q rest (Fr (l.set d v) ds)):bz P ops (fun u=>gH w0 u is) Q (bi (some d) (.call { callee:=.value fo,args:=xs,argTypes:=a0 }) ty pos after none::rest) (Fr l ds):=by
 refine wpQuiet_step fun K hK=>?_;rw[if_pos (by simp[Region.wanted])];refine⟨v,fun w' hw=>?_,?_⟩
 · unfold j_
   rw[iY,nA (hc w').1 hf hxs _ rfl];refine⟨rfl,(hc w').2.mono ?_⟩;rintro e w'' ⟨u,rfl,hE,rfl⟩;exact⟨rfl,hw.ext' hE⟩
 · show K ((Fr l ds).put (some d) v)
   rw[gE];exact hK _ h
end
def P3.Lt(p q:P3):Prop:=p.x<q.x∨p.x=q.x∧(p.y<q.y∨p.y=q.y∧p.z<q.z)
instance (p q:P3):Decidable (p.Lt q):=by unfold P3.Lt;infer_instance
def nX(p q:P3):Int:=if p.Lt q then -1 else if q.Lt p then 1 else 0
theorem P3.eq{p q:P3}(h1:p.x=q.x)(h2:p.y=q.y)(h3:p.z=q.z):p=q:=by
 cases p;cases q;simp_all
instance:DecidableEq P3:=fun p q=>if h:p.x=q.x∧p.y=q.y∧p.z=q.z then isTrue (P3.eq h.1 h.2.1 h.2.2) else isFalse fun e=>h (by subst e;exact⟨rfl,rfl,rfl⟩)
theorem P3.lt_irrefl(p:P3):¬p.Lt p:=by unfold P3.Lt;omega
theorem P3.lt_trans{p q r:P3}(h:p.Lt q)(k:q.Lt r):p.Lt r:=by unfold P3.Lt at *;omega
theorem P3.lt_tri(p q:P3):p.Lt q∨p=q∨q.Lt p:=by
 by_cases h1:p.x=q.x
 · by_cases h2:p.y=q.y
   · by_cases h3:p.z=q.z
     · exact .inr (.inl (P3.eq h1 h2 h3))
     · unfold P3.Lt;omega
   · unfold P3.Lt;omega
 · unfold P3.Lt;omega
theorem P3.lt_x{p q:P3}(h:¬p.x=q.x):p.Lt q↔p.x<q.x:=by unfold P3.Lt;omega
theorem P3.lt_y{p q:P3}(h:p.x=q.x)(h2:¬p.y=q.y):p.Lt q↔p.y<q.y:=by unfold P3.Lt;omega
theorem P3.lt_z{p q:P3}(h:p.x=q.x)(h2:p.y=q.y):p.Lt q↔p.z<q.z:=by unfold P3.Lt;omega
end Go.Lith
