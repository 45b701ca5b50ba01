/-
 Texts of one claim, laid together: Ext, Ops, Al, Ops2, Upd, Held, Eq, Facts, Nat, Nat2, Nat3, Nat4, Nat5, Nat6, Nat7, Nat8, Ops3, Nat9, Nat10, Nat11, Nat12, Dig, Tree, Fresh, Fresh2, Ops4, Geo.
-/
import Derived.WalkKit
import Derived.StillTail
import Derived.Deep.Quiet
import Derived.BigQuiet
import Derived.Laws.Rows
import Derived.Laws.IdiomCopy
import Derived.Laws.CopyRow
import Derived.OrdersHeld
import Derived.Laws.StructEq
import Derived.ChangeKeysEq
import Derived.Test.YtfekpcimgncioaaGreatDoorProg
import Derived.Laws.IdiomStrings
import Derived.Laws.BytesArg
import Derived.RangeFuncBox
import Derived.RangeFuncLeaves
import Derived.LoopN
open Go renaming Value→ah,World→aj,TypeId→an,wpList→au,Operand→bg,Program→bh,run_underlying→bx,wpQuiet→cg,Deferred→cn,execOp→cw
open List renaming getElem?_eq_getElem→am,mem_cons→ao,length_append→aw,length_cons→ay,take_of_length_le→a_,map_cons→bi,getElem?_eq_none→bv,cons_append→ci,length_take→cj,toList_toArray→cz,replicate→c_,any_eq_true→dt,all_eq_true→dw,length_map→dz,getElem?_drop→d_,drop_eq_getElem_cons→ee,getElem?_take→eh,eq_nil_of_length_eq_zero→ej,mem_map_of_mem→eu,take_length→ew,append_nil→fb,getElem?_append_left→fe,getElem_mem→fh,ext_getElem?→fq,nodup_cons→gd,filter_cons→gg,map_congr_left→il,length_singleton→ip,foldl_cons→iv,getElem?_append_right→ja,mem_range→jb,getElem?_toArray→jw,take_zero→kj,take_append_drop→li,getElem?_set_ne→lo
open Nat renaming zero_add→ar,le_refl→av,le_trans→az,lt_or_ge→dl,lt_of_lt_of_le→fm,add_sub_cancel→f_,eq_zero_or_pos→ib,pow_succ→ii,min_eq_left→iu,pow_le_pow_right→iy,mul_le_mul_left→jp,mod_eq_of_lt→jt,mod_lt→kd,add_zero→la,le_sub_one_of_lt→lp,lt_of_le_of_lt→mg,pow_add→nh,pow_mul→ni,mul_add→nj,mul_one→o_
open Bool renaming and_eq_true→be,not_eq_true'→ei,false_or→jh
open Go.Oper renaming mk→bn,quietAt→k_,wp→lk,upon→mj
open Option renaming getD_some→cu,isSome_iff_exists→di,map_some→fa
open Array renaming getElem?_eq_some_iff→de,replicate→fl,getElem?_eq_getElem→fw,mapM_eq_mapM_toList→ik,getD_eq_getD_getElem?→ll,setIfInBounds_comm→ma,range→oa,ext'→oh,map→pf,ext→pg
open UInt8 renaming ofNat→dj,toNat→im,toNat_ofNat'→ix,toNat_inj→mc
open BitVec renaming ofInt→eo,toNat_ofInt→nw
open Prod.mk renaming injEq→fp
open Option.some renaming injEq→fx
open Int renaming fdiv_eq_ediv_of_nonneg→ia,natCast_mul→lg,not_lt→pi
open List.cons renaming injEq→lf
open Go.IntKind renaming signed→ln,wrap→mo,bits→mr
set_option linter.unusedSimpArgs false
set_option linter.unusedVariables false
set_option linter.unusedSectionVars false
namespace Go.Lith
open Go.RowKit
def fN(w w':aj):Prop:=Below w.heap.size w w'
theorem fN.refl(w:aj):fN w w:=Below.refl _ _
theorem fN.size{w w':aj}(h:fN w w'):w.heap.size≤w'.heap.size:=Below.size h
theorem fN.trans{a b c:aj}(h:fN a b)(k:fN b c):fN a c:=Below.trans h (Below.mono k h.size)
theorem fN.drawn{w w':aj}(h:fN w w'):fN w { w' with drawn:=w'.drawn+1 }:=Below.drew h
theorem fN.alloc{w w':aj}(h:fN w w')(o:Obj):fN w (w'.alloc o):=Below.alloc h h.size o
theorem fN.block{w w':aj}(h:fN w w'){k:Nat}{o:Obj}(hk:w.heap[k]? = some o):w'.heap[k]? = some o :=
 (Below.block h k (de.1 hk).1).trans hk
theorem fN.cell{w w':aj}(h:fN w w'){p:Addr}{v:ah}(hp:w.cell? p=some v):w'.cell? p=some v :=
 (Below.cell h (World.block_lt_of_cell? _ _ hp)).trans hp
section
variable {P:bh} {ops:Array Oper} {md:Region.Mode} {C:aj→Prop}
def Io(P:bh)(md:Region.Mode)(ops:Array Oper)(C:aj→Prop)(n:Nat)(L:Array Bool→Act→Prop):Nat→Array Bool→Act→Prop
 | 0,listed,a=>L listed a
 | f+1,listed,a =>
  Region.ready md ops listed≠[]∧∀i∈Region.ready md ops listed,i<n∧qOp P ops C i (Io P md ops C n L f (listed.setIfInBounds i true)) a
theorem tH{n g:Nat}{L:Array Bool→Act→Prop}{Q':Exit→Act→aj→Prop}(hL:∀listed a,L listed a→∀w,C w→wpAny P md ops Q' g listed a w) :
 ∀(f:Nat) (listed:Array Bool) (a:Act) (w:aj),C w→Io P md ops C n L f listed a→wpAny P md ops Q' (f+g) listed a w
 | 0,listed,a,w,hw,h=>by rw[ar];exact hL _ _ h w hw
 | f+1,listed,a,w,hw,h=>by
  rw[show f+1+g=(f+g)+1 by omega];exact⟨fun h0=>absurd h0 h.1,fun i hi=>wpOp_of_qOp hw (fun a' w' hw' h'=>tH hL f _ a' w' hw' h') (h.2 i hi).2⟩
theorem Vo{n i:Nat}{oi:Oper}{v:ah}{L:Array Bool→Act→Prop}(hi:ops[i]? = some oi)(hsel:∀(j:Nat) (o:Oper) cs b,ops[j]? = some o→o.op≠.select cs b)
 (hs:Region.sinkB md ops n=true) (hc:Region.chainB md ops n=true) (hn:n<ops.size) (hin:i<n)
 (hdone:∀listed a,L listed a→∀j∈Region.ready md ops listed,n≤j) :
 ∀(f:Nat) (listed:Array Bool) (a:Act),HeadInv md ops n listed →
  (∀j oj,ops[j]? = some oj→j≠i→listed.getD j true=false→(∀e∈oj.after,Region.binds md e=true→e.on≠i)→oi.apart ops oj=true) →
  i∈Region.ready md ops listed→YieldsIn P ops C oi v a →
  Io P md ops C n L f (listed.setIfInBounds i true) (a.put oi.dst v)→Io P md ops C n L (f+1) listed a:=by
 intro f
 induction f with
 | zero =>
  intro listed a inv _ hr hy H;have hun:=(mem_ready.1 hr).1;refine⟨fun h=>(by rw[h] at hr;cases hr),fun j hj=>?_⟩;have hjn:j<n:=by
   rcases dl j n with h | h
   · exact h
   · exact absurd hj (tail_waits hs hc hn inv _ i rfl hin hun j h)
  refine⟨hjn,?_⟩;by_cases hji:j=i
  · subst hji;exact hy.qOp hi H
  · have:=hdone _ _ H j (ready_mono hj hji)
    omega
 | succ f ih =>
  intro listed a inv hfree hr hy H;have hun:=(mem_ready.1 hr).1;refine⟨fun h=>(by rw[h] at hr;cases hr),fun j hj=>?_⟩;have hjn:j<n:=by
   rcases dl j n with h | h
   · exact h
   · exact absurd hj (tail_waits hs hc hn inv _ i rfl hin hun j h)
  refine⟨hjn,?_⟩;by_cases hji:j=i
  · subst hji;exact hy.qOp hi H
  · have h1:=(H.2 j (ready_mono hj hji)).2
    obtain⟨hjun,oj,hoj,hall⟩:=mem_ready.1 hj;have hnot:∀e∈oj.after,Region.binds md e=true→e.on≠i:=fun e he hb heq=>by
     have h1:=hall e he hb;rw[heq,getD_both hun] at h1;cases h1
    have h2:=qOp_put hoj (hfree j oj hoj hji hjun hnot) (fun cs b=>hsel i oi cs b hi) (fun cs b=>hsel j oj cs b hoj) hy h1;have hfree':∀k ok,ops[k]? = some ok→k≠i→(listed.setIfInBounds j true).getD k true=false →
     (∀e∈ok.after,Region.binds md e=true→e.on≠i)→oi.apart ops ok=true:=fun k ok hk hki hun hno=>by
     refine hfree k ok hk hki ?_ hno;by_cases hjk:j=k
     · subst hjk;exact hjun
     · rw[getD_set_ne true hjk] at hun;exact hun
    refine qOp_mono (fun a' h3=>ih (listed.setIfInBounds j true) a' (inv.set hj hjn) hfree' (ready_mono hr (Ne.symm hji)) h3.1 ?_) h2;rw[ma _ _ hji];exact h3.2
theorem wT{n g:Nat}{Lq:Act→Prop}(hsel:Region.noSelect ops=true)(hs:Region.sinkB md ops n=true)(hc:Region.chainB md ops n=true)(hn:n<ops.size) :
 ∀(l:List Oper) (k:Nat) (listed:Array Bool) (a:Act),(∀j,j<l.length→l[j]? = ops[k+j]?)→k+l.length=n→HeadInv md ops n listed →
 Region.lexHead md ops g l.length k listed=true→cg P ops C Lq l a →
 Io P md ops C n (fun listed' a'=>Region.seqB md ops g n listed'=true∧Lq a') l.length listed a
 | [],k,listed,a,_,hk,_,hB,h=>by
  have:k=n:=by simpa using hk
  subst this;exact⟨by simpa[Region.lexHead] using hB,h⟩
 | o::l,k,listed,a,hl,hk,inv,hB,h=>by
  have h0:ops[k]? = some o:=by simpa using (hl 0 (by simp)).symm
  simp only[ay,Region.lexHead,be] at hB;obtain⟨⟨hr,hf⟩,hB'⟩:=hB;have hkn:k<n:=by simp only[ay] at hk;omega
  have hr':k∈Region.ready md ops listed:=by simpa using hr
  have hst:qOp P ops C k (cg P ops C Lq l) a:=by unfold qOp;simp only[h0];exact h
  obtain⟨v,hy,hK⟩:=yieldsIn_of_qOp h0 hst;exact Vo h0 (Region.noSelect_spec hsel) hs hc hn hkn (fun listed' a' hL=>seqB_ready hL.1) l.length listed a inv (Region.free_spec h0 hf) hr' hy
   (wT hsel hs hc hn l (k+1) _ _ (fun j hj=>by have:=hl (j+1) (by simp;omega);simpa[Nat.add_assoc,Nat.add_comm 1 j] using this) (by simp only[ay] at hk;omega) (inv.set hr' hkn) hB' hK)
theorem qY{id:Nat}{Q:Exit→Act→aj→Prop}{a:Act}{w:aj}{l:List Oper}(n:Nat)(hm:P.follows .mixedOrders=true)(hB:Region.lexTailB .any l.toArray n=true)
 (hC:C { w with drawn:=w.drawn+1 })
 (h:cg P l.toArray C (fun a'=>∀w',C w'→au P l.toArray Q (l.drop n) a' w') (l.take n) a):(Code.region id l.toArray true).wp P Q a w:=by
 simp only[Region.lexTailB,be,decide_eq_true_eq] at hB;obtain⟨⟨⟨⟨hsel,hn⟩,hs⟩,hc⟩,hlex⟩:=hB;have hn':n<l.length:=by simpa using hn
 have htl:(l.take n).length=n:=by simp;omega
 have hdl:(l.drop n).length=l.toArray.size-n:=by simp
 have inv0:HeadInv .any l.toArray n (fl l.toArray.size false) :=
  ⟨by simp,fun j oj _ hl=>(by rw[getD_replicate_false] at hl;cases hl),fun t _ ht=>getD_in (by simpa using ht) (getD_replicate_false _ _)⟩
 have H:=wT (md:=.any) (g:=l.toArray.size-n) hsel hs hc hn (l.take n) 0 _ a (fun j hj=>by
  have hj':j<n:=by rw[htl] at hj;exact hj
  simp[hj']) (by simpa using htl) inv0 (by rw[htl];exact hlex) h
 refine wp_region_any hm ?_;have:=tH (Q':=Q) (g:=l.toArray.size-n) (fun listed a' hL w' hw'=>by
  have:=wpAny_of_seq (md:=.any) (Q':=Q) (l.drop n) n listed a' w' (fun j=>by simp[d_]) (by rw[hdl];exact hL.1) (hL.2 w' hw');rwa [hdl] at this) _ _ _ _ hC H
 rw[htl,show n+(l.toArray.size-n)=l.toArray.size by omega] at this;exact this
def Vp(md:Region.Mode)(ops:Array Oper):List (Nat × Bool)→Array Bool→Bool
 | [],listed=>(Region.ready md ops listed).isEmpty
 | (i,true)::r,listed=>(ops[i]?).isSome&&Region.free md ops listed i&&(Region.ready md ops listed).contains i&&Vp md ops r (listed.setIfInBounds i true)
 | (i,false)::r,listed=>(ops[i]?).isSome&&decide (Region.ready md ops listed=[i])&&Vp md ops r (listed.setIfInBounds i true)
def fR(P:bh)(ops:Array Oper)(Q:Exit→Act→aj→Prop):List (Oper × Bool)→Act→aj→Prop
 | [],a,w=>Q .normal a w
 | (o,true)::r,a,w=>∃v,Yields P ops o v a∧fR P ops Q r (a.put o.dst v) w
 | (o,false)::r,a,w=>au P ops (Exit.then (fR P ops Q r) Q) [o] a w
end
abbrev Fr(l:List ah)(ds:List cn:=[]):Act:={ tmps:=l.toArray,defers:=ds }
def fK(w:aj)(g:Nat)(cs:List ah)(t:an):Prop:=w.heap[g]? = some (.cells cs.toArray t (0,0))
structure Chg(w w':aj)(g:Nat):Prop where
 os:w'.os=w.os
 tape:w'.tape=w.tape
 output:w'.output=w.output
 size:w'.heap.size=w.heap.size
 block:∀k,k≠g→w'.heap[k]? = w.heap[k]?
def mB(w:aj)(a:Addr)(cs:List ah):Prop:=∀j u,cs[j]? = some u→w.cell? (a.add j)=some u
theorem fK.lt{w:aj}{g:Nat}{cs:List ah}{t:an}(h:fK w g cs t):g<w.heap.size:=(de.1 h).1
theorem fK.ext{w w':aj}{g:Nat}{cs:List ah}{t:an}(h:fK w g cs t)(hE:fN w w'):fK w' g cs t:=hE.block h
theorem fK.chg{w w':aj}{g g':Nat}{cs:List ah}{t:an}(h:fK w g cs t)(hC:Chg w w' g')(hne:g≠g'):fK w' g cs t:=(hC.block g hne).trans h
theorem fN.chg{w0 w w':aj}{g:Nat}(h:fN w0 w)(hC:Chg w w' g)(hg:w0.heap.size≤g):fN w0 w' :=
 ⟨hC.os.trans h.os,hC.tape.trans h.tape,hC.output.trans h.output,by rw[hC.size];exact h.size,fun k hk=>(hC.block k (by omega)).trans (Below.block h k hk)⟩
theorem mB.ext{w w':aj}{a:Addr}{cs:List ah}(h:mB w a cs)(hE:fN w w'):mB w' a cs:=fun j u hj=>hE.cell (h j u hj)
theorem gZ(g off j:Nat):(⟨g,off,none⟩:Addr).add j=⟨g,off+j,none⟩:=by unfold Addr.add;split <;> simp_all
theorem lG(a:Addr)(i j:Nat):(a.add i).add j=a.add (i+j):=by
 unfold Addr.add;by_cases hi:i=0 <;> by_cases hj:j=0 <;> simp[hi,hj,Nat.add_assoc]
theorem fK.row{w:aj}{g:Nat}{cs:List ah}{t:an}(h:fK w g cs t)(off:Nat):mB w ⟨g,off,none⟩ (cs.drop off):=by
 intro j u hj;rw[gZ,cell_of_row w g (off+j) cs.toArray t (0,0) h];simpa[d_] using hj
theorem mB.sub{w:aj}{a:Addr}{cs:List ah}(h:mB w a cs)(i:Nat):mB w (a.add i) (cs.drop i):=by
 intro j u hj;rw[lG];exact h (i+j) u (by simpa[d_] using hj)
theorem mB.take{w:aj}{a:Addr}{cs:List ah}(h:mB w a cs)(n:Nat):mB w a (cs.take n):=by
 intro j u hj;refine h j u ?_;rw[eh] at hj;split at hj
 · exact hj
 · cases hj
section
variable {P:bh} {ds:List cn} {l:List ah}
theorem amv(t:Nat):(Fr l).eval (.tmp t)=l.getD t undef:=by
 show l.toArray.getD t undef=_
 simp[Array.getD,List.getD];split <;> simp_all
theorem jV{ds:List cn}:(Fr l ds).eval=(Fr l).eval:=rfl
theorem iB{ds:List cn}(d:Nat)(v:ah):(Fr l ds).put (some d) v=Fr (l.set d v) ds:=by simp[Act.put,Fr]
def dP(P:bh)(T:an)(n:Nat):Prop:=∃inf,P.info? T=some inf∧inf.size=n
def nY(P:bh)(T:an)(z:ah):Prop:=∃inf,P.info? T=some inf∧inf.zero=some z
def By:TypeDesc→Bool
 | .struct _ | .array _ _=>true
 | _=>false
def eP(P:bh)(T:an)(b:Bool):Prop:=∃dd,P.underlying T=some dd∧By dd=b
theorem dR{T:an}{n:Nat}(h:(P.info? T).map (·.size)=some n):dP P T n:=by
 cases hi:P.info? T with
 | none=>rw[hi] at h;cases h
 | some i=>rw[hi] at h;exact⟨i,hi,by simpa using h⟩
theorem kP{T:an}{z:ah}(h:(P.info? T).bind (·.zero)=some z):nY P T z:=by
 cases hi:P.info? T with
 | none=>rw[hi] at h;cases h
 | some i=>rw[hi] at h;exact⟨i,hi,by simpa using h⟩
theorem dH{T:an}{b:Bool}(dd:TypeDesc)(h:P.underlying T=some dd)(hb:By dd=b):eP P T b:=⟨dd,h,hb⟩
def ev(l:List ah):bg→ah
 | .tmp t=>l.getD t undef
 | .const v=>v
 | .global g=>.pointer (some ⟨g,0,none⟩)
 | .func f=>.func (.func f) #[] #[]
theorem yY(t:Nat):ev l (.tmp t)=l.getD t undef:=rfl
theorem qZ(v:ah):ev l (.const v)=v:=rfl
theorem uM(f:Nat):ev l (.func f)=.func (.func f) #[] #[]:=rfl
theorem cJ(x:bg):(Fr l).eval x=ev l x:=by
 cases x with
 | tmp t=>exact amv t
 | const=>rfl
 | global=>rfl
 | func=>rfl
def yR(P:bh)(l:List ah)(op:Op)(ty:an)(v:ah)(w:aj):Prop :=
 ∀o:Oper,o.op=op→o.type=ty→(cw (Fr l).eval o).run P w=.ok (.value v) w
def iG(P:bh)(l:List ah)(op:Op)(ty:an)(v:ah):Prop:=∀w,yR P l op ty v w
section
variable {ops:Array Oper} {Q:Exit→Act→aj→Prop} {w:aj} {rest:List Oper} {d:Nat} {op:Op} {ty:an} {pos:String} {after:Array Edge} {v:ah}
theorem fF(hr:yR P l op ty v w)(h:au P ops Q rest (Fr (l.set d v) ds) w):au P ops Q (bn (some d) op ty pos after none::rest) (Fr l ds) w:=by
 refine wpList_plain rfl fun K hK=>?_;unfold lk;rw[jV,hr _ rfl rfl];show K ((Fr l ds).put (some d) v) w
 rw[iB];exact hK _ _ h
theorem aC(hr:iG P l op ty v)(h:au P ops Q rest (Fr (l.set d v) ds) w):au P ops Q (bn (some d) op ty pos after none::rest) (Fr l ds) w:=fF (hr w) h
theorem aK(h:Q .normal (Fr l ds) w):au P ops Q [] (Fr l ds) w:=h
theorem dN{j:Nat}{b:Bool}(hw:yielded ops l.toArray j=some b)(h:au P ops Q (bn (some d) op ty pos after none::rest) (Fr l ds) w):au P ops Q (bn (some d) op ty pos after (some (j,b))::rest) (Fr l ds) w:=by
 unfold au at h ⊢;rw[if_pos (by simp[Region.wanted])] at h;rw[if_pos (by simp[Region.wanted,hw])];exact h
theorem afZ{j:Nat}{b c:Bool}(hw:yielded ops l.toArray j=some c)(hbc:(c == b)=false)(h:au P ops Q rest (Fr (l.set d undef) ds) w):au P ops Q (bn (some d) op ty pos after (some (j,b))::rest) (Fr l ds) w:=by
 unfold au;rw[if_neg (by simp[Region.wanted,hw];simpa using hbc)];show au P ops Q rest ((Fr l ds).put (some d) undef) w
 rw[iB];exact h
theorem oX{j:Nat}(hw:yielded ops l.toArray j=some false)(h:au P ops Q rest (Fr (l.set d undef) ds) w):au P ops Q (bn (some d) op ty pos after (some (j,true))::rest) (Fr l ds) w:=afZ hw rfl h
theorem Mk{j:Nat}(hw:yielded ops l.toArray j=some true)(h:au P ops Q rest (Fr (l.set d undef) ds) w):au P ops Q (bn (some d) op ty pos after (some (j,false))::rest) (Fr l ds) w:=afZ hw rfl h
end
section
variable {ops:Array Oper} {Q:Act→Prop} {C:aj→Prop} {rest:List Oper} {d:Nat} {op:Op} {ty:an} {pos:String} {after:Array Edge} {v:ah}
theorem jY(hr:∀w,C w→yR P l op ty v w)(h:cg P ops C Q rest (Fr (l.set d v) ds)):cg P ops C Q (bn (some d) op ty pos after none::rest) (Fr l ds):=by
 refine wpQuiet_step fun K hK=>?_;rw[if_pos (by simp[Region.wanted])];refine⟨v,fun w hw=>?_,?_⟩
 · unfold k_
   rw[jV,hr w hw _ rfl rfl];exact⟨rfl,rfl⟩
 · show K ((Fr l ds).put (some d) v)
   rw[iB];exact hK _ h
theorem aJ(hr:iG P l op ty v)(h:cg P ops C Q rest (Fr (l.set d v) ds)):cg P ops C Q (bn (some d) op ty pos after none::rest) (Fr l ds):=jY (fun w _=>hr w) h
theorem bD(h:Q (Fr l ds)):cg P ops C Q [] (Fr l ds):=h
theorem tI{j:Nat}{b:Bool}(hw:yielded ops l.toArray j=some b)(h:cg P ops C Q (bn (some d) op ty pos after none::rest) (Fr l ds)):cg P ops C Q (bn (some d) op ty pos after (some (j,b))::rest) (Fr l ds):=by
 unfold cg at h ⊢;rw[if_pos (by simp[Region.wanted])] at h;rw[if_pos (by simp[Region.wanted,hw])];exact h
theorem af0{j:Nat}{b c:Bool}(hw:yielded ops l.toArray j=some c)(hbc:(c == b)=false)(h:cg P ops C Q rest (Fr (l.set d undef) ds)):cg P ops C Q (bn (some d) op ty pos after (some (j,b))::rest) (Fr l ds):=by
 unfold cg;rw[if_neg (by simp[Region.wanted,hw];simpa using hbc)];show cg P ops C Q rest ((Fr l ds).put (some d) undef)
 rw[iB];exact h
theorem ac6{j:Nat}(hw:yielded ops l.toArray j=some false)(h:cg P ops C Q rest (Fr (l.set d undef) ds)):cg P ops C Q (bn (some d) op ty pos after (some (j,true))::rest) (Fr l ds):=af0 hw rfl h
theorem Fq{j:Nat}(hw:yielded ops l.toArray j=some true)(h:cg P ops C Q rest (Fr (l.set d undef) ds)):cg P ops C Q (bn (some d) op ty pos after (some (j,false))::rest) (Fr l ds):=af0 hw rfl h
end
/-! ### Values -/
section
variable {x y:bg} {T T' ty:an} {k:IntKind} {m n r:Int}
theorem aH:iG P l (.move x) ty (ev l x):=fun w o ho _=>by simp[cw,ho,cJ]
theorem aM:iG P l (.assign x) ty (ev l x):=fun w o ho _=>by simp[cw,ho,cJ]
theorem Vq{c:bg}{b:Bool}(hc:ev l c=.bool b):iG P l (.pick c x y) ty (if b then ev l x else ev l y):=fun w o ho _=>by
 simp[cw,ho,cJ,hc,asBool]
theorem jL(hx:ev l x=.int k m)(hy:ev l y=.int k n)(hr:k.wrap (m+n)=r):iG P l (.binOp .add T x y T') ty (.int k r):=fun w o ho _=>by
 simp[cw,ho,cJ,hx,hy,eqGuard,binOp,Op.intArith,hr]
theorem Fs(hx:ev l x=.int k m)(hy:ev l y=.int k n)(hr:k.wrap (m-n)=r):iG P l (.binOp .sub T x y T') ty (.int k r):=fun w o ho _=>by
 simp[cw,ho,cJ,hx,hy,eqGuard,binOp,Op.intArith,hr]
theorem lB(hx:ev l x=.int k m)(hy:ev l y=.int k n)(hr:k.wrap (m*n)=r):iG P l (.binOp .mul T x y T') ty (.int k r):=fun w o ho _=>by
 simp[cw,ho,cJ,hx,hy,eqGuard,binOp,Op.intArith,hr]
theorem rA(hx:ev l x=.int k m)(hy:ev l y=.int k n):iG P l (.binOp .lss T x y T') ty (.bool (decide (m<n))):=fun w o ho _=>by
 simp[cw,ho,cJ,hx,hy,eqGuard,binOp,Op.intCmp]
theorem Do(hx:ev l x=.int k m)(hy:ev l y=.int k n):iG P l (.binOp .leq T x y T') ty (.bool (decide (m≤n))):=fun w o ho _=>by
 simp[cw,ho,cJ,hx,hy,eqGuard,binOp,Op.intCmp]
theorem Yr(hx:ev l x=.int k m)(hy:ev l y=.int k n):iG P l (.binOp .gtr T x y T') ty (.bool (decide (n<m))):=fun w o ho _=>by
 simp[cw,ho,cJ,hx,hy,eqGuard,binOp,Op.intCmp]
theorem Ft(hx:ev l x=.int k m)(hy:ev l y=.int k n):iG P l (.binOp .geq T x y T') ty (.bool (decide (n≤m))):=fun w o ho _=>by
 simp[cw,ho,cJ,hx,hy,eqGuard,binOp,Op.intCmp]
theorem Sw(hx:ev l x=.int k m)(hy:ev l y=.int k n):iG P l (.binOp .eql T x y T') ty (.bool (decide (m=n))):=fun w o ho _=>by
 simp[cw,ho,cJ,hx,hy,eqGuard,binOp,Op.intCmp];cases h:(m == n) <;> simp_all
theorem qA(hx:ev l x=.int k m)(hy:ev l y=.int k n):iG P l (.binOp .neq T x y T') ty (.bool (decide (m≠n))):=fun w o ho _=>by
 simp[cw,ho,cJ,hx,hy,eqGuard,binOp,Op.intCmp];cases h:(m != n) <;> simp_all
theorem yJ(hx:ev l x=.int k m)(hy:ev l y=.int k n)(h0:n≠0)(hr:k.wrap (m.tdiv n)=r):iG P l (.binOp .quo T x y T') ty (.int k r):=fun w o ho _=>by
 simp[cw,ho,cJ,hx,hy,eqGuard,binOp,Op.intDiv,h0,hr]
theorem eG(hx:ev l x=.int k m)(hy:ev l y=.int k n)(h0:n≠0)(hr:m.tmod n=r):iG P l (.binOp .rem T x y T') ty (.int k r):=fun w o ho _=>by
 simp[cw,ho,cJ,hx,hy,eqGuard,binOp,Op.intDiv,h0,hr]
theorem vS(hx:ev l x=.int k m)(hy:ev l y=.int k n)(hr:k.wrap ((eo k.bits m &&& eo k.bits n).toNat:Int)=r):iG P l (.binOp .and T x y T') ty (.int k r):=fun w o ho _=>by
 subst hr;simp[cw,ho,cJ,hx,hy,eqGuard,binOp,Op.intBits]
theorem as2(hx:ev l x=.int k m)(hy:ev l y=.int k n)(hr:k.wrap ((eo k.bits m ||| eo k.bits n).toNat:Int)=r):iG P l (.binOp .or T x y T') ty (.int k r):=fun w o ho _=>by
 subst hr;simp[cw,ho,cJ,hx,hy,eqGuard,binOp,Op.intBits]
theorem aqK{k':IntKind}(hx:ev l x=.int k m)(hy:ev l y=.int k' n)(h0:0≤n)(hr:k.wrap (m*2^(min n.toNat k.bits))=r):iG P l (.binOp .shl T x y T') ty (.int k r):=fun w o ho _=>by
 subst hr;simp[cw,ho,cJ,hx,hy,eqGuard,binOp,Op.shift,pi.2 h0]
theorem oK{k':IntKind}(hx:ev l x=.int k m)(hy:ev l y=.int k' n)(h0:0≤n)(hr:m.fdiv (2^(min n.toNat k.bits))=r):iG P l (.binOp .shr T x y T') ty (.int k r):=fun w o ho _=>by
 subst hr;simp[cw,ho,cJ,hx,hy,eqGuard,binOp,Op.shift,pi.2 h0]
theorem nM{b:Bool}(hx:ev l x=.bool b):iG P l (.unOp .not T x) ty (.bool (!b)):=fun w o ho _=>by
 simp[cw,ho,cJ,hx,Op.unary]
theorem tJ(hx:ev l x=.int k m)(hr:k.wrap (0-m)=r):iG P l (.unOp .neg T x) ty (.int k r):=fun w o ho _=>by
 subst hr;simp[cw,ho,cJ,hx,Op.unary,Op.intArith]
theorem jB(hd:P.underlying T'=some (.int k)){k':IntKind}{dd:TypeDesc}(hs:P.underlying T=some dd)(hx:ev l x=.int k' m)(hr:k.wrap m=r):iG P l (.convert T T' x) ty (.int k r):=fun w o ho _=>by
 subst hr;simp[cw,ho,cJ,hx,convert,bx hs,bx hd,Conv.intToInt]
theorem eZ{vs:Array ah}{i:Nat}{v:ah}(hx:ev l x=.tuple vs)(hi:vs[i]? = some v):iG P l (.extract x i) ty v:=fun w o ho _=>by
 simp[cw,ho,cJ,hx,Instr.extract,hi]
theorem fO{fn:Fn}{first captured:Array bg}:iG P l (.makeFunc fn first captured) ty (.func fn (first.map (ev l)) (captured.map (ev l))):=fun w o ho _=>by
 have e:(Fr l).eval=ev l:=funext cJ;simp[cw,ho,e,Instr.makeFunc]
theorem Ip{E:an}{A:Option Addr}{n c:Nat}{a0:Array an}(ha:a0 = #[T])(hu:P.underlying T=some (.slice E))(hx:ev l x=.slice A n c):iG P l (.call { callee:=.builtin .len,args:=#[x],argTypes:=a0 }) ty (.int .i64 n):=fun w o ho _=>by
 subst ha;simp[cw,ho,resolve,invoke,builtin,Builtin.len_,cJ,hx,bx hu,goInt]
theorem tK{s:ByteArray}{a0:Array an}(ha:a0 = #[T])(hu:P.underlying T=some .string)(hx:ev l x=.string s):iG P l (.call { callee:=.builtin .len,args:=#[x],argTypes:=a0 }) ty (.int .i64 s.size):=fun w o ho _=>by
 subst ha;simp[cw,ho,resolve,invoke,builtin,Builtin.len_,cJ,hx,bx hu,goInt]
theorem aqL{a0:Array an}(hx:ev l x=.int k m)(hy:ev l y=.int k n)(hr:(if n<m then n else m)=r):iG P l (.call { callee:=.builtin .min,args:=#[x,y],argTypes:=a0 }) ty (.int k r):=fun w o ho _=>by
 subst hr;simp[cw,ho,resolve,invoke,builtin,Builtin.min_,Builtin.min2,cJ,hx,hy]
theorem vT{a0:Array an}(hx:ev l x=.int k m)(hy:ev l y=.int k n)(hr:(if m<n then n else m)=r):iG P l (.call { callee:=.builtin .max,args:=#[x,y],argTypes:=a0 }) ty (.int k r):=fun w o ho _=>by
 subst hr;simp[cw,ho,resolve,invoke,builtin,Builtin.max_,Builtin.max2,cJ,hx,hy]
end
/-! ### Addresses -/
section
variable {x y:bg} {T T' ty:an} {k:IntKind} {m n r:Int}
theorem aT{fs:Array Field}{i c:Nat}{f:Field}{a b:Addr}(hu:P.underlying T=some (.struct fs))(hf:fs[i]? = some f)(hc:dP P f.type (c+1))(hx:ev l x=.pointer (some a))(hb:a.add f.offset=b) :
 iG P l (.fieldAddr T x i) ty (.pointer (some b)):=fun w o ho _=>by
 subst hb;obtain⟨inf,hi,hz⟩:=hc;have hz':¬inf.size=0:=by omega
 simp[cw,ho,cJ,hx,Instr.fieldAt,bx hu,hf,Instr.sureAddr,fieldPlace,sizeOf,typeInfo,hi,hz']
theorem aI{E:an}{len:Nat}{c:Nat}{a b:Addr}(hu:P.underlying T=some (.array len E))(hc:dP P E c)(hx:ev l x=.pointer (some a))(hy:ev l y=.int k m)(h0:0≤m)(h1:m<len)(hb:a.add (m.toNat*c)=b) :
 iG P l (.indexAddr T x y) ty (.pointer (some b)):=fun w o ho _=>by
 subst hb;obtain⟨inf,hi,rfl⟩:=hc;simp[cw,ho,cJ,hx,hy,Instr.indexAt,asIntOf,bx hu,Instr.sureAddr,sizeOf,typeInfo,hi,h0,h1]
theorem aF{E:an}{len cap:Nat}{c:Nat}{a b:Addr}(hu:P.underlying T=some (.slice E))(hc:dP P E c)(hx:ev l x=.slice (some a) len cap)(hy:ev l y=.int k m)(h0:0≤m)(h1:m<len)(hb:a.add (m.toNat*c)=b) :
 iG P l (.indexAddr T x y) ty (.pointer (some b)):=fun w o ho _=>by
 subst hb;obtain⟨inf,hi,rfl⟩:=hc;simp[cw,ho,cJ,hx,hy,Instr.indexAt,asIntOf,bx hu,sizeOf,typeInfo,hi,h0,h1]
end
/-! ### Memory -/
section
variable {x y:bg} {T T' ty:an} {w:aj}
def fL(P:bh)(w:aj)(T:an)(a:Addr)(v:ah):Prop:=(loadVar T a).run P w=.ok v w
theorem mB.lies{a:Addr}{cs:List ah}(h:mB w a cs)(hA:eP P T true)(hc:dP P T cs.length):fL P w T a (.agg cs.toArray):=by
 obtain⟨dd,hu,hd⟩:=hA;obtain⟨inf,hi,hn⟩:=hc;have hl:=run_loadCells_list (P:=P) w a cs (fun j v hv=>h j v hv);have hagg:(isAgg T).run P w=.ok true w:=by
  unfold isAgg;rw[Sem.run_bind,bx hu w];cases dd <;> simp_all [By]
 unfold fL;simp[loadVar,Sem.run_bind,hagg,sizeOf,typeInfo,hi,hn,hl]
theorem lies1{a:Addr}{v:ah}(h:w.cell? a=some v)(hA:eP P T false):fL P w T a v:=by
 obtain⟨dd,hu,hd⟩:=hA;have hagg:(isAgg T).run P w=.ok false w:=by
  unfold isAgg;rw[Sem.run_bind,bx hu w];cases dd <;> simp_all [By]
 unfold fL;simp[loadVar,Sem.run_bind,hagg,load,Sem.run,h]
theorem fK.cell{g:Nat}{cs:List ah}{t:an}(h:fK w g cs t){i:Nat}{v:ah}(hi:cs[i]? = some v):w.cell? ⟨g,i,none⟩=some v:=by
 rw[cell_of_row w g i cs.toArray t (0,0) h];simpa using hi
theorem fK.lies1{g i:Nat}{cs:List ah}{t:an}{v:ah}(h:fK w g cs t)(hA:eP P T false)(hi:cs[i]? = some v):fL P w T ⟨g,i,none⟩ v:=Lith.lies1 (h.cell hi) hA
theorem fK.lies{g i n:Nat}{cs us:List ah}{t:an}(h:fK w g cs t)(hA:eP P T true)(hc:dP P T n)(hu:(cs.drop i).take n=us)(hn:us.length=n):fL P w T ⟨g,i,none⟩ (.agg us.toArray):=by
 subst hu;exact ((h.row i).take n).lies hA (by rw[hn];exact hc)
theorem aU{a:Addr}{v:ah}(hx:ev l x=.pointer (some a))(hv:fL P w T a v):yR P l (.load T x) ty v w:=fun o ho _=>by
 unfold fL at hv;simp[cw,ho,cJ,hx,Instr.loadAt,Instr.sureAddr,hv]
variable {ops:Array Oper} {Q:Exit→Act→aj→Prop} {rest:List Oper} {d:Nat} {op:Op} {pos:String} {after:Array Edge} {v:ah}
theorem aQ{a:Addr}(hx:ev l x=.pointer (some a))(hv:fL P w T a v)(h:au P ops Q rest (Fr (l.set d v) ds) w):au P ops Q (bn (some d) (.load T x) ty pos after none::rest) (Fr l ds) w :=
 fF (aU hx hv) h
theorem Fu{w':aj}(hr:∀o:Oper,o.op=op→(cw (Fr l).eval o).run P w=.ok .skip w')(h:au P ops Q rest (Fr l ds) w'):au P ops Q (bn none op ty pos after none::rest) (Fr l ds) w:=by
 refine wpList_plain rfl fun K hK=>?_;unfold lk;rw[jV,hr _ rfl];exact hK _ _ h
theorem lY{w':aj}(hr:∀o:Oper,o.op=op→o.type=ty→(cw (Fr l).eval o).run P w=.ok (.value v) w')(h:au P ops Q rest (Fr (l.set d v) ds) w'):au P ops Q (bn (some d) op ty pos after none::rest) (Fr l ds) w:=by
 refine wpList_plain rfl fun K hK=>?_;unfold lk;rw[jV,hr _ rfl rfl];show K ((Fr l ds).put (some d) v) w'
 rw[iB];exact hK _ _ h
theorem iZ(w:aj)(cs:List ah)(t:an):fK (w.alloc (.cells cs.toArray t)) w.heap.size cs t:=heap_alloc_new w _
theorem af1{cs:List ah}(hv:(ev l x).cells=cs.toArray)(h:∀w' g,fN w w'→w.heap.size≤g→fK w' g cs T→au P ops Q rest (Fr (l.set d (.pointer (some ⟨g,0,none⟩))) ds) w') :
 au P ops Q (bn (some d) (.box T x) ty pos after none::rest) (Fr l ds) w :=
 lY (w':=w.alloc (.cells cs.toArray T)) (v:=.pointer (some ⟨w.heap.size,0,none⟩)) (fun o ho _=>by simp[cw,ho,cJ,Instr.box,newVar,newRow,hv,newObj,Sem.run]) (h _ _ ((fN.refl w).alloc _) (av _) (iZ w cs T))
theorem Bz{cs:List ah}{z:ah}(hZ:nY P T z)(hv:z.cells=cs.toArray)(h:∀w' g,fN w w'→w.heap.size≤g→fK w' g cs T→au P ops Q rest (Fr (l.set d (.pointer (some ⟨g,0,none⟩))) ds) w') :
 au P ops Q (bn (some d) (.alloc T) ty pos after none::rest) (Fr l ds) w:=by
 obtain⟨inf,hi,hz⟩:=hZ;exact lY (w':=w.alloc (.cells cs.toArray T)) (v:=.pointer (some ⟨w.heap.size,0,none⟩)) (fun o ho _=>by simp[cw,ho,Instr.alloc,zeroValue,typeInfo,hi,hz,newVar,newRow,hv,newObj,Sem.run]) (h _ _ ((fN.refl w).alloc _) (av _) (iZ w cs T))
def cA(cs:List ah)(off:Nat)(us:List ah):List ah:=cs.take off++us++cs.drop (off+us.length)
theorem Nk(w:aj)(g:Nat)(cs:Array ah):Chg w (w.setRow g cs) g:=⟨rfl,rfl,rfl,by simp,fun k hk=>setRow_other w g k cs hk⟩
theorem Fv{g off:Nat}{cs us:List ah}{t:an}(hc:dP P T us.length)(hv:v.cells=us.toArray)(hB:fK w g cs t)(hfit:off+us.length≤cs.length)(h1:∀u∈us,u.oneCell'=true) :
 (storeVar T ⟨g,off,none⟩ v).run P w=.ok () (w.setRow g (cA cs off us).toArray):=by
 obtain⟨inf,hi,hn⟩:=hc;have hst:=run_storeCells_at P g off t us 0 cs.toArray w hB (by simpa using hfit) h1;simp only[la,cz] at hst;simp[storeVar,hv,sizeOf,typeInfo,hi,hn,hst,cA]
theorem Ca{g off:Nat}{cs us:List ah}{t:an}(hx:ev l x=.pointer (some ⟨g,off,none⟩))(hv:(ev l y).cells=us.toArray)(hc:dP P T us.length)(hB:fK w g cs t)(hfit:off+us.length≤cs.length)(h1:∀u∈us,u.oneCell'=true)
 (h:∀w',Chg w w' g→fK w' g (cA cs off us) t→au P ops Q rest (Fr l ds) w'):au P ops Q (bn none (.store T x y) ty pos after none::rest) (Fr l ds) w :=
 Fu (w':=w.setRow g (cA cs off us).toArray) (fun o ho=>by simp[cw,ho,cJ,hx,Instr.storeAt,Instr.sureAddr,Fv hc hv hB hfit h1]) (h _ (Nk w g _) (setRow_heap w g cs.toArray _ t _ hB))
/-! ### Calls -/
def Entr(P:bh)(f:FuncId):Prop:=∃fn,P.funcs[f]? = some fn∧(fn.name == "runtime.NumGoroutine")=false∧fn.body.isNone=false
theorem bH{P:bh}{f:FuncId}{fn:Func}(h:P.funcs[f]? = some fn) (hb:(!(fn.name == "runtime.NumGoroutine") && !fn.body.isNone)=true):Entr P f:=by
 simp only[be,ei] at hb;exact⟨fn,h,hb.1,hb.2⟩
def dJ(P:bh)(f:FuncId)(args:List ah)(w:aj)(R:ah→aj→Prop):Prop :=
 Entr P f∧Calls P f args.toArray w fun e w'=>∃v,e=.returned v∧fN w w'∧R v w'
def dL(P:bh)(f:FuncId)(args:List ah)(v:ah):Prop:=∀w,dJ P f args w fun u _=>u=v
theorem sL{f:FuncId}{args:Array ah}(h:Entr P f):(callFunc f args).run P w=.ok (.enter f args) w:=by
 obtain⟨fn,hf,hn,hb⟩:=h;have hn':¬fn.name = "runtime.NumGoroutine" := by simpa using hn
 have hb':¬fn.body=none:=by intro h;rw[h] at hb;cases hb
 simp[callFunc,hf,hn',hb']
theorem oY{f:FuncId}{fo:bg}{xs:Array bg}{args:List ah}{first cap:Array ah}{a0:Array an}(h:Entr P f)(hf:ev l fo=.func (.func f) first cap)(hxs:first.toList++xs.toList.map (ev l)++cap.toList=args)(o:Oper)(ho:o.op=.call { callee:=.value fo,args:=xs,argTypes:=a0 }) :
 (cw (Fr l).eval o).run P w=.ok (.enter f args.toArray) w:=by
 have e:(Fr l).eval=ev l:=funext cJ;have ea:args.toArray=first++xs.map (ev l)++cap:=by
  rw[←hxs];apply oh;simp
 simp[cw,ho,resolve,e,hf,Deferred.ofValue,invoke,sL h,ea]
theorem bJ{f:FuncId}{fo:bg}{xs:Array bg}{args:List ah}{first cap:Array ah}{a0:Array an}{R:ah→aj→Prop}(hf:ev l fo=.func (.func f) first cap)(hxs:first.toList++xs.toList.map (ev l)++cap.toList=args)(hc:dJ P f args w R)
 (h:∀v w',fN w w'→R v w'→au P ops Q rest (Fr (l.set d v) ds) w'):au P ops Q (bn (some d) (.call { callee:=.value fo,args:=xs,argTypes:=a0 }) ty pos after none::rest) (Fr l ds) w:=by
 refine wpList_plain rfl fun K hK=>?_;unfold lk;rw[jV,oY hc.1 hf hxs _ rfl];refine hc.2.mono ?_;rintro e w' ⟨v,rfl,hE,hR⟩;show K ((Fr l ds).put (some d) v) w'
 rw[iB];exact hK _ _ (h v w' hE hR)
theorem Vr{f:FuncId}{fo:bg}{xs:Array bg}{args:List ah}{first cap:Array ah}{a0:Array an}(hf:ev l fo=.func (.func f) first cap)(hxs:first.toList++xs.toList.map (ev l)++cap.toList=args)(hc:dL P f args v)
 (h:∀w',fN w w'→au P ops Q rest (Fr (l.set d v) ds) w'):au P ops Q (bn (some d) (.call { callee:=.value fo,args:=xs,argTypes:=a0 }) ty pos after none::rest) (Fr l ds) w :=
 bJ hf hxs (hc w) fun _ w' hE hR=>hR▸h w' hE
end
section
variable {x y:bg} {T T' ty:an} {w:aj}
variable {ops:Array Oper} {Q:Act→Prop} {rest:List Oper} {d:Nat} {op:Op} {pos:String} {after:Array Edge} {v:ah}
end
/-! ### Code -/
section
variable {Q:Exit→Act→aj→Prop} {w:aj} {c c1 c2:Code}
theorem bA{a:Act}(h:∀K:Act→aj→Prop,(∀a w,c2.wp P Q a w→K a w)→c1.wp P (Exit.then K Q) a w):(Code.seq c1 c2).wp P Q a w:=wp_seq_k h
theorem jZ{x:bg}{b:Bool}(hx:ev l x=.bool b)(ht:b=true→c1.wp P Q (Fr l ds) w)(hf:b=false→c2.wp P Q (Fr l ds) w):(Code.cond x c1 c2).wp P Q (Fr l ds) w :=
 wp_cond_split (by rw[jV,cJ];exact hx) ht hf
theorem bG{x:bg}{p:Prop}[Decidable p](hx:ev l x=.bool (decide p))(ht:p→c1.wp P Q (Fr l ds) w)(hf:¬p→c2.wp P Q (Fr l ds) w):(Code.cond x c1 c2).wp P Q (Fr l ds) w :=
 jZ hx (fun h=>ht (of_decide_eq_true h)) (fun h=>hf (of_decide_eq_false h))
theorem yZ{x:bg}(hx:ev l x=.bool true)(ht:c1.wp P Q (Fr l ds) w):(Code.cond x c1 c2).wp P Q (Fr l ds) w:=jZ hx (fun _=>ht) (fun h=>by cases h)
theorem aej{x:bg}(hx:ev l x=.bool false)(hf:c2.wp P Q (Fr l ds) w):(Code.cond x c1 c2).wp P Q (Fr l ds) w:=jZ hx (fun h=>by cases h) (fun _=>hf)
def Res(P:bh)(l:List ah)(w:aj):ResultVar→ah→Prop
 | .tmp t,v=>l.getD t undef=v
 | .cell t T,v=>∃a,l.getD t undef=.pointer (some a)∧fL P w T a v
theorem Iq{r:ResultVar}{v:ah}(h:Res P l w r v):(∃t,r=.tmp t∧l[t]?.getD undef=v)∨(∃t T a,r=.cell t T∧l[t]?.getD undef=.pointer (some a)∧(loadVar T a).run P w=.ok v w):=by
 cases r with
 | tmp t=>exact .inl ⟨t,rfl,by simpa[Res] using h⟩
 | cell t T =>
  obtain⟨a,ha,hl⟩:=h;exact .inr ⟨t,T,a,rfl,by simpa using ha,hl⟩
theorem aR{fn:Func}{R:Ending→aj→Prop}{r:ResultVar}{v:ah}(hr:fn.results = #[r])(h:Res P l w r v)(hR:R (.returned v) w):bodyPost P fn R .ret (Fr l) w:=by
 refine⟨rfl,v,?_,hR⟩;unfold results;rw[hr];rcases Iq h with ⟨t,rfl,h1⟩ | ⟨t,T,a,rfl,h1,h2⟩ <;> simp[*,asAddr]
theorem wU{fn:Func}{R:Ending→aj→Prop}{r r':ResultVar}{v v':ah}(hr:fn.results = #[r,r'])(h:Res P l w r v)(h':Res P l w r' v')(hR:R (.returned (.tuple #[v,v'])) w):bodyPost P fn R .ret (Fr l) w:=by
 refine⟨rfl,_,?_,hR⟩;unfold results;rw[hr];rcases Iq h with ⟨t,rfl,h1⟩ | ⟨t,T,a,rfl,h1,h2⟩ <;> rcases Iq h' with ⟨t',rfl,h1'⟩ | ⟨t',T',a',rfl,h1',h2'⟩ <;> simp[*,asAddr]
end
end
/-! ### Numbers,loops,further values -/
theorem dY{x:Int}(h0 : -9223372036854775808≤x)(h1:x<9223372036854775808):IntKind.i64.wrap x=x:=by
 simp[mo,mr,ln];split <;> omega
theorem vU{x:Int}(h0:0≤x)(h1:x<18446744073709551616):IntKind.u64.wrap x=x:=by
 simp[mo,mr,ln];omega
theorem af2{x:Int}(h0:0≤x)(h1:x<4294967296):IntKind.u32.wrap x=x:=by
 simp[mo,mr,ln];omega
theorem af3{x:Int}(h0 : -2147483648≤x)(h1:x<2147483648):IntKind.i32.wrap x=x:=by
 simp[mo,mr,ln];split <;> omega
theorem ac7{x:Int}(h0:0≤x)(h1:x<256):IntKind.u8.wrap x=x:=by
 simp[mo,mr,ln];omega
def fB:List ah→List Nat→List ah→List ah
 | l,t::ts,v::vs=>fB (l.set t v) ts vs
 | l,_,_=>l
theorem Vs{l:List ah}{t:Nat}{ts:List Nat}{v:ah}{vs:List ah}:fB l (t::ts) (v::vs)=fB (l.set t v) ts vs:=rfl
theorem zW{l:List ah}{vs:List ah}:fB l [] vs=l:=by cases vs <;> rfl
theorem Ys{l:List ah}{t:Nat}:l.set t (l.getD t undef)=l:=by
 apply fq;intro i;rw[List.getElem?_set];split
 · rename_i h;subst h
   split
   · rename_i h;simp[h]
   · rename_i h;simp at h;simp[h]
 · rfl
theorem Fw:∀(ts:List Nat) (l:List ah),fB l ts (ts.map (l.getD · undef))=l
 | [],l=>zW
 | t::ts,l=>by
  simp only[bi,Vs,Ys];exact Fw ts l
theorem wV{p:Nat→Prop}(h:∃n,p n):∃n,p n∧∀m,p m→n≤m:=by
 obtain⟨n,hn⟩:=h
 induction n using Nat.strongRecOn with
 | _ n ih =>
  by_cases hx:∃m,m<n∧p m
  · obtain⟨m,hm,hp⟩:=hx;exact ih m hm hp
  · exact⟨n,hn,fun m hm=>Nat.le_of_not_lt fun hlt=>hx ⟨m,hlt,hm⟩⟩
noncomputable def Nl(p:Nat→Prop)(h:∃n,p n):Nat:=(wV h).choose
theorem Yt{p:Nat→Prop}(h:∃n,p n):p (Nl p h):=(wV h).choose_spec.1
theorem aek{p:Nat→Prop}(h:∃n,p n){m:Nat}(hm:p m):Nl p h≤m:=(wV h).choose_spec.2 m hm
section
variable {P:bh} {ds:List cn} {l:List ah}
end
/-! ### Parts of values,slices,new slices -/
section
variable {P:bh} {ds:List cn} {l:List ah} {x y:bg} {T T' ty:an} {k:IntKind} {m n r:Int}
theorem oZ{b:Bool}(h:eP P T b)(w:aj):(isAgg T).run P w=.ok b w:=by
 obtain⟨dd,hu,hd⟩:=h;unfold isAgg;rw[Sem.run_bind,bx hu w];cases dd <;> simp_all [By]
theorem eH{c:Nat}(h:dP P T c)(w:aj):(sizeOf T).run P w=.ok c w:=by
 obtain⟨inf,hi,rfl⟩:=h;simp[sizeOf,typeInfo,hi]
theorem lT(cs:Array ah):(Value.agg cs).cells=cs:=rfl
theorem pA{parts:Array (Nat × bg)}{vs:Array (Nat × ah)}{v:ah}(hp:(parts.map fun (i,x)=>(i,ev l x))=vs)(h:∀w,(Instr.build T vs).run P w=.ok v w):iG P l (.build T parts) ty v:=fun w o ho _=>by
 have e:(Fr l).eval=ev l:=funext cJ;subst hp;simp only[cw,ho,e];rw[Sem.run_bind,h w];rfl
theorem jN{fs:Array Field}{places:Array (Nat × Nat)}{z:ah}{cells:Array ah}{vs:Array (Nat × ah)}(hu:P.underlying T=some (.struct fs))(hz:nY P T z)
 (hpl:∀w,(fs.mapM fun f=>do pure (f.offset,←sizeOf f.type):Sem (Array (Nat × Nat))).run P w=.ok places w) (hf:Instr.fill (places[·]?) z.cells vs.toList=some cells) (w:aj):(Instr.build T vs).run P w=.ok (.agg cells) w:=by
 obtain⟨inf,hi,h0⟩:=hz;simp only[Instr.build,zeroValue,typeInfo];simp[hi,h0,bx hu];have:=hpl w;simp at this;simp[this,hf]
theorem kC{E:an}{n c:Nat}{z:ah}{cells:Array ah}{vs:Array (Nat × ah)}(hu:P.underlying T=some (.array n E))(hz:nY P T z)(hc:dP P E c)
 (hf:Instr.fill (fun i=>some (i*c,c)) z.cells vs.toList=some cells) (w:aj):(Instr.build T vs).run P w=.ok (.agg cells) w:=by
 obtain⟨inf,hi,h0⟩:=hz;simp only[Instr.build,zeroValue,typeInfo];simp[hi,h0,bx hu,eH hc,hf]
theorem af4{fs:Array Field}{i:Nat}{f:Field}{cs:Array ah}{v:ah}(hu:P.underlying T=some (.struct fs))(hf:fs[i]? = some f)(hA:eP P f.type false)(hx:ev l x=.agg cs)(hv:cs[f.offset]? = some v) :
 iG P l (.field T x i) ty v:=fun w o ho _=>by
 simp[cw,ho,cJ,hx,Instr.field,bx hu,hf,asAgg,part,oZ hA,hv]
theorem af5{fs:Array Field}{i c:Nat}{f:Field}{cs us:Array ah}(hu:P.underlying T=some (.struct fs))(hf:fs[i]? = some f)(hA:eP P f.type true)(hc:dP P f.type c)(hx:ev l x=.agg cs)(hv:cs.extract f.offset (f.offset+c)=us) :
 iG P l (.field T x i) ty (.agg us):=fun w o ho _=>by
 subst hv;simp[cw,ho,cJ,hx,Instr.field,bx hu,hf,asAgg,part,oZ hA,eH hc]
theorem pB{E:an}{len c:Nat}{cs:Array ah}{v:ah}(hu:P.underlying T=some (.array len E))(hA:eP P E false)(hc:dP P E c)(hx:ev l x=.agg cs)(hy:ev l y=.int k m)(h0:0≤m)(h1:m<len)(hv:cs[m.toNat*c]? = some v) :
 iG P l (.index T x y) ty v:=fun w o ho _=>by
 simp[cw,ho,cJ,hx,hy,Instr.index,asIntOf,bx hu,h0,h1,part,oZ hA,eH hc,hv]
theorem pC{E:an}{len c:Nat}{cs us:Array ah}(hu:P.underlying T=some (.array len E))(hA:eP P E true)(hc:dP P E c)(hx:ev l x=.agg cs)(hy:ev l y=.int k m)(h0:0≤m)(h1:m<len)(hv:cs.extract (m.toNat*c) (m.toNat*c+c)=us) :
 iG P l (.index T x y) ty (.agg us):=fun w o ho _=>by
 subst hv;simp[cw,ho,cJ,hx,hy,Instr.index,asIntOf,bx hu,h0,h1,part,oZ hA,eH hc]
theorem nZ{s:ByteArray}{b:UInt8}(hu:P.underlying T=some .string)(hx:ev l x=.string s)(hy:ev l y=.int k m)(h0:0≤m)(hb:s[m.toNat]? = some b) :
 iG P l (.index T x y) ty (.int .u8 b.toNat):=fun w o ho _=>by
 simp[cw,ho,cJ,hx,hy,Instr.index,asIntOf,bx hu,h0,hb]
theorem oL{E:an}{A:Option Addr}{len cap c:Nat}(hu:P.underlying T=some (.slice E))(hc:dP P E c){q:Nat}(hx:ev l x=.slice A len cap)(hy:ev l y=.int k m)(hq:m.toNat=q)(h0:0≤m)(h1:m≤cap) :
 iG P l (.slice T x none (some y) none) ty (.slice A q cap):=fun w o ho _=>by
 subst hq;have e:(if cap=0 then A else Option.map (fun a=>a.add 0) A)=A:=by
  split
  · rfl
  · cases A <;> simp[Addr.add]
 have h1':¬(m.toNat:Int)>cap:=by omega
 simp[cw,ho,cJ,hx,hy,Instr.sliceAt,Instr.slice,Instr.sliceBounds,Instr.sliceBound,asIntOf,bx hu,h0,h1,eH hc];intro _;cases A <;> simp[Addr.add]
theorem tC{E:an}{A A':Option Addr}{len cap c:Nat}(hu:P.underlying T=some (.slice E))(hc:dP P E c){q:Nat}(hx:ev l x=.slice A len cap)(hy:ev l y=.int k m)(hq:m.toNat=q)(h0:0≤m)(h1:m≤len)(hA:(if cap=q then A else A.map (·.add (q*c)))=A') :
 iG P l (.slice T x (some y) none none) ty (.slice A' (len-q) (cap-q)):=fun w o ho _=>by
 subst hq;subst hA;simp[cw,ho,cJ,hx,hy,Instr.sliceAt,Instr.slice,Instr.sliceBounds,Instr.sliceBound,asIntOf,bx hu,h0,h1,eH hc]
theorem af6{s:ByteArray}(hu:P.underlying T=some .string)(hx:ev l x=.string s)(hy:ev l y=.int k m)(h0:0≤m)(h1:m≤s.size) :
 iG P l (.slice T x (some y) none none) ty (.string (s.extract m.toNat s.size)):=fun w o ho _=>by
 simp[cw,ho,cJ,hx,hy,Instr.sliceAt,Instr.slice,Instr.sliceBounds,Instr.sliceBound,asIntOf,bx hu,h0,h1]
variable {ops:Array Oper} {Q:Exit→Act→aj→Prop} {rest:List Oper} {d:Nat} {pos:String} {after:Array Edge} {w:aj}
theorem wW{E:an}{b:Nat}{kc:IntKind}{z:ah}(hu:P.underlying T=some (.slice E))(hi:(P.info? E).map (fun i=>(i.size,i.bytes,i.zero))=some (1,b,some z))(hzc:z.cells = #[z]){q q':Nat}(hx:ev l x=.int k m)(hy:ev l y=.int kc n)(hq:m.toNat=q)(hq':n.toNat=q')(h0:0≤m)(h1:m≤n)(hn:n≤9223372036854775807)(hb:(b:Int)*n≤281474976710656)
 (h:∀w' g,fN w w'→w.heap.size≤g→fK w' g (c_ q' z) E→au P ops Q rest (Fr (l.set d (.slice (some ⟨g,0,none⟩) q q')) ds) w') :
 au P ops Q (bn (some d) (.makeSlice T x y) ty pos after none::rest) (Fr l ds) w:=by
 subst hq;subst hq';cases hq:P.info? E with
 | none=>rw[hq] at hi;cases hi
 | some i =>
  rw[hq] at hi;simp only[fa,fx,fp] at hi;obtain⟨e1,e2,e3⟩:=hi;subst e2;have hr:=run_make (P:=P) w T E i z hu hq e3 k kc m n h0 h1 hb hn;have hc:madeCells z.cells (n.toNat*i.size)=(c_ n.toNat z).toArray:=by
   rw[e1,hzc,o_];apply oh;rw[toList_madeCells_one]
  rw[hc] at hr;exact lY (fun o ho _=>by simp[cw,ho,cJ,hx,hy,hr]) (h _ _ ((fN.refl w).alloc _) (av _) (iZ w _ E))
def af7(w:aj)(base:Nat)(e:an)(size:Nat)(v:ah)(n:Nat)(xs:List ah):Prop:=w.ownsRow base e size v n xs
theorem af7.row{w:aj}{base:Nat}{e:an}{size:Nat}{v:ah}{n:Nat}{xs:List ah}(h:af7 w base e size v n xs):(v=.slice none 0 0∧n=0∧xs=[])∨∃g cap,v=.slice (some ⟨g,0,none⟩) n cap∧base≤g∧n≤cap∧cap≤maxLen∧g<w.heap.size∧mB w ⟨g,0,none⟩ xs:=by
 rcases h.2 with ⟨rfl,rfl⟩ | ⟨g,cap,cur,rfl,hbg,hg,h1,h2,h3,h4⟩
 · exact .inl ⟨rfl,rfl,ej (by simpa using h.1)⟩
 · refine .inr ⟨g,cap,rfl,hbg,h1,h2,(de.1 hg).1,fun j u hj=>?_⟩
   rw[gZ,ar,cell_of_row w g j cur e (0,0) hg];rw[←h4,eh] at hj;split at hj
   · simpa using hj
   · cases hj
end
section
variable {P:bh} {ds:List cn} {l:List ah} {x y:bg} {T T' ty:an} {k:IntKind} {m n r:Int}
theorem qH(hx:ev l x=.int k m)(hy:ev l y=.int k n)(h:m<n):iG P l (.binOp .lss T x y T') ty (.bool true):=by
 have:=rA (P:=P) (T:=T) (T':=T') (ty:=ty) hx hy;rwa [decide_eq_true h] at this
theorem Ei(hx:ev l x=.int k m)(hy:ev l y=.int k n)(h:¬m<n):iG P l (.binOp .lss T x y T') ty (.bool false):=by
 have:=rA (P:=P) (T:=T) (T':=T') (ty:=ty) hx hy;rwa [decide_eq_false h] at this
theorem Is(hx:ev l x=.int k m)(hy:ev l y=.int k n)(h:m=n):iG P l (.binOp .eql T x y T') ty (.bool true):=by
 have:=Sw (P:=P) (T:=T) (T':=T') (ty:=ty) hx hy;rwa [decide_eq_true h] at this
theorem amw(hx:ev l x=.int k m)(hy:ev l y=.int k n)(h:¬m=n):iG P l (.binOp .eql T x y T') ty (.bool false):=by
 have:=Sw (P:=P) (T:=T) (T':=T') (ty:=ty) hx hy;rwa [decide_eq_false h] at this
theorem sM{c:bg}(hc:ev l c=.bool true):iG P l (.pick c x y) ty (ev l x):=Vq hc
theorem Cb{c:bg}(hc:ev l c=.bool false):iG P l (.pick c x y) ty (ev l y):=Vq hc
theorem amx{op:Op}{v u:ah}(h:iG P l op ty v)(e:v=u):iG P l op ty u:=e▸h
end
def pD:List ah→List Nat→(Nat→ah)→List ah
 | l,t::ts,g=>pD (l.set t (g t)) ts g
 | l,[],_=>l
theorem ael{l:List ah}{t:Nat}{ts:List Nat}{g:Nat→ah}:pD l (t::ts) g=pD (l.set t (g t)) ts g:=rfl
theorem aqN{l:List ah}{g:Nat→ah}:pD l [] g=l:=rfl
theorem aem:∀(ts:List Nat) (l:List ah),pD l ts (l.getD · undef)=l:=by
 intro ts;have key:∀(ts:List Nat) (l:List ah) (g:Nat→ah),(∀t,l.set t (g t)=l)→pD l ts g=l:=by
  intro ts
  induction ts with
  | nil=>intro l g _;rfl
  | cons t ts ih=>intro l g h;rw[ael,h t];exact ih l g h
 exact fun l=>key ts l _ fun t=>Ys
section
variable {P:bh} {ds:List cn} {l:List ah}
theorem ac8{c:Code}{Q:Exit→Act→aj→Prop}{w:aj}(ts ss:List Nat)(I:Nat→List ah→aj→Prop)(h0:∃n,I n (ts.map (l.getD · undef)) w)
 (hr:∀n vs w,I n vs w→∀g:Nat→ah,c.wp P (Exit.then (fun a' w'=>∃n' l',n'<n∧a'=Fr l'∧pD (fB l ts (ts.map (l'.getD · undef))) ss (l'.getD · undef)=l'∧I n' (ts.map (l'.getD · undef)) w') Q) (Fr (pD (fB l ts vs) ss g)) w):(Code.loop c).wp P Q (Fr l) w:=by
 obtain⟨n0,h0⟩:=h0
 let J:Nat→Act→aj→Prop:=fun n a w=>∃vs g,a=Fr (pD (fB l ts vs) ss g)∧I n vs w
 have hJ0:∃n,J n (Fr l) w:=⟨n0,_,(l.getD · undef),by rw[Fw,aem],h0⟩
 let μ:Act→aj→Nat:=fun a w=>@dite _ (∃n,J n a w) (Classical.propDecidable _) (fun h=>Nl (fun n=>J n a w) h) (fun _=>0)
 refine wp_loop (fun a w=>∃n,J n a w) μ hJ0 ?_;intro a w hI;obtain⟨vs,g,rfl,hIv⟩:=Yt hI;refine Code.wp_mono ?_ (hr _ vs w hIv g);intro e a' w' hq;cases e with
 | normal =>
  obtain⟨n',l',hlt,rfl,he,hI'⟩:=hq;have hJ:J n' (Fr l') w':=⟨_,(l'.getD · undef),by rw[he],hI'⟩
  refine⟨⟨n',hJ⟩,?_⟩;have e1:μ (Fr l') w'=Nl (fun n=>J n (Fr l') w') ⟨n',hJ⟩:=by simp only[μ];rw[dif_pos ⟨n',hJ⟩]
  have e2:μ (Fr (pD (fB l ts vs) ss g)) w=Nl (fun n=>J n (Fr (pD (fB l ts vs) ss g)) w) hI:=by simp only[μ];rw[dif_pos hI]
  rw[e1,e2];exact mg (aek _ hJ) hlt
 | exit id=>exact hq
 | goto id=>exact hq
 | ret=>exact hq
 | panic ch=>exact hq
 | outgrown=>exact hq
end
section
variable {P:bh} {ds:List cn} {l:List ah} {ops:Array Oper} {Q:Exit→Act→aj→Prop} {w:aj} {rest:List (Oper × Bool)} {d:Nat} {op:Op} {ty:an} {pos:String} {after:Array Edge} {v:ah}
theorem bT{Q:Exit→Act→aj→Prop}(h:∀c (t:Array ah) ds (t':Array ah) w,Q (.panic c) { tmps:=t,defers:=ds } w→Q (.panic c) { tmps:=t',defers:=ds } w):∀c d v a w,Q (.panic c) (Act.put a d v) w→Q (.panic c) a w:=by
 intro c d v a w hq;cases d with
 | none=>exact hq
 | some d=>exact h c _ _ _ w hq
end
/-! ### Names that are short -/
theorem zA{l:List ah}(t:Nat):ev l (.tmp t)=l.getD t undef:=rfl
theorem zB{l:List ah}(v:ah):ev l (.const v)=v:=rfl
theorem zC{l:List ah}(f:Nat):ev l (.func f)=.func (.func f) #[] #[]:=rfl
theorem zD{α:Type}{x:α}{xs:List α}{n:Nat}{d:α}:(x::xs).getD (n+1) d=xs.getD n d:=rfl
theorem zE{α:Type}{x:α}{xs:List α}{d:α}:(x::xs).getD 0 d=x:=rfl
theorem zF{α:Type}{x:α}{xs:List α}{n:Nat}{a:α}:(x::xs).set (n+1) a=x::xs.set n a:=rfl
theorem zG{α:Type}{x:α}{xs:List α}{a:α}:(x::xs).set 0 a=a::xs:=rfl
theorem zH{α:Type}{x:α}{xs:List α}{n:Nat}:(x::xs).take (n+1)=x::xs.take n:=rfl
theorem zI{α:Type}{xs:List α}:xs.take 0=[]:=kj
theorem zJ{α:Type}{x:α}{xs:List α}{n:Nat}:(x::xs).drop (n+1)=xs.drop n:=rfl
theorem zK{α:Type}{xs:List α}:xs.drop 0=xs:=rfl
theorem zL{α:Type}{x:α}{xs ys:List α}:(x::xs)++ys=x::(xs++ys):=rfl
theorem zM{α:Type}{ys:List α}:[]++ys=ys:=rfl
theorem zN{α:Type}{ys:List α}:ys++[]=ys:=fb ys
theorem zO{α:Type}{x:α}{xs:List α}:(x::xs).length=xs.length+1:=rfl
theorem zP{α:Type}:([]:List α).length=0:=rfl
theorem zQ{α β:Type}{f:α→β}{x:α}{xs:List α}:(x::xs).map f=f x::xs.map f:=rfl
theorem zR{α β:Type}{f:α→β}:([]:List α).map f=[]:=rfl
theorem zS{α:Type}{l:List α}{i:Nat}:l.toArray[i]? = l[i]?:=jw
theorem zT{α:Type}{x:α}{xs:List α}{n:Nat}:(x::xs)[n+1]? = xs[n]?:=rfl
theorem zU{α:Type}{x:α}{xs:List α}:(x::xs)[0]? = some x:=rfl
theorem zV{α:Type}{x d:α}:(some x).getD d=x:=rfl
theorem zz:(∀(l:List Go.Value) (t:Nat), ev l (.tmp t)=l.getD t undef)∧(∀(l:List Go.Value) (v:Go.Value), ev l (.const v)=v)∧(∀(l:List Go.Value) (f:Nat), ev l (.func f)=.func (.func f) #[] #[])∧(∀{α:Type} (x:α) (xs:List α) (n:Nat) (d:α), (x::xs).getD (n+1) d=xs.getD n d)∧(∀{α:Type} (x:α) (xs:List α) (d:α), (x::xs).getD 0 d=x)∧(∀{α:Type} (x:α) (xs:List α) (n:Nat) (a:α), (x::xs).set (n+1) a=x::xs.set n a)∧(∀{α:Type} (x:α) (xs:List α) (a:α), (x::xs).set 0 a=a::xs) := ⟨fun _ _ => rfl, fun _ _ => rfl, fun _ _ => rfl, fun _ _ _ _ => rfl, fun _ _ _ => rfl, fun _ _ _ _ => rfl, fun _ _ _ => rfl⟩
theorem zy:(∀{α:Type} (x:α) (xs:List α) (n:Nat), (x::xs).take (n+1)=x::xs.take n)∧(∀{α:Type} (xs:List α), xs.take 0=[])∧(∀{α:Type} (x:α) (xs:List α) (n:Nat), (x::xs).drop (n+1)=xs.drop n)∧(∀{α:Type} (xs:List α), xs.drop 0=xs) := ⟨fun _ _ _ => rfl, fun _ => kj, fun _ _ _ => rfl, fun _ => rfl⟩
theorem zx:(∀{α:Type} (x:α) (xs ys:List α), (x::xs)++ys=x::(xs++ys))∧(∀{α:Type} (ys:List α), []++ys=ys)∧(∀{α:Type} (ys:List α), ys++[]=ys)∧(∀{α:Type} (x:α) (xs:List α), (x::xs).length=xs.length+1)∧(∀{α:Type}, ([]:List α).length=0) := ⟨fun _ _ _ => rfl, fun _ => rfl, fun _ => fb _, fun _ _ => rfl, rfl⟩
theorem zw:(∀{α:Type} (l:List α) (i:Nat), l.toArray[i]? = l[i]?)∧(∀{α:Type} (x:α) (xs:List α) (n:Nat), (x::xs)[n+1]? = xs[n]?)∧(∀{α:Type} (x:α) (xs:List α), (x::xs)[0]? = some x)∧(∀{α:Type} (x d:α), (some x).getD d=x) := ⟨fun _ _ => jw, fun _ _ _ => rfl, fun _ _ => rfl, fun _ _ => rfl⟩
theorem zu:(∀(l:List Go.Value) (t:Nat) (ts:List Nat) (v:Go.Value) (vs:List Go.Value), fB l (t::ts) (v::vs)=fB (l.set t v) ts vs)∧(∀(l vs:List Go.Value), fB l [] vs=l)∧(∀(l:List Go.Value) (t:Nat) (ts:List Nat) (g:Nat→Go.Value), pD l (t::ts) g=pD (l.set t (g t)) ts g)∧(∀(l:List Go.Value) (g:Nat→Go.Value), pD l [] g=l) := ⟨fun _ _ _ _ _ => rfl, fun _ _ => zW, fun _ _ _ _ => rfl, fun _ _ => rfl⟩
theorem zv:(∀{α β:Type} (f:α→β) (x:α) (xs:List α), (x::xs).map f=f x::xs.map f)∧(∀{α β:Type} (f:α→β), ([]:List α).map f=[])∧(∀(l:List Go.Value) (t:Nat) (ts:List Nat) (v:Go.Value) (vs:List Go.Value), fB l (t::ts) (v::vs)=fB (l.set t v) ts vs)∧(∀(l vs:List Go.Value), fB l [] vs=l)∧(∀(l:List Go.Value) (t:Nat) (ts:List Nat) (g:Nat→Go.Value), pD l (t::ts) g=pD (l.set t (g t)) ts g)∧(∀(l:List Go.Value) (g:Nat→Go.Value), pD l [] g=l) := ⟨fun _ _ _ => rfl, fun _ => rfl, fun _ _ _ _ _ => rfl, fun _ _ => zW, fun _ _ _ _ => rfl, fun _ _ => rfl⟩
section
variable {P:bh} {ds:List cn} {l:List ah} {x y z0:bg} {T T' ty:an}
theorem Yu{A:Option Addr}{n c:Nat}{E:an}(hu:P.underlying T=some (.slice E))(hx:ev l x=.slice A n c)(hy:ev l y=.slice none 0 0):iG P l (.binOp .eql T x y T') ty (.bool A.isNone):=fun w o ho _=>by
 obtain⟨D,hD⟩:∃D,Op.maxDepth=D+1:=⟨9999,rfl⟩
 cases A <;> simp[cw,ho,cJ,hx,hy,eqGuard,binOp,Op.equal,hD,Op.equalIn,bx hu]
variable {ops:Array Oper} {Q:Exit→Act→aj→Prop} {rest:List Oper} {d:Nat} {pos:String} {after:Array Edge} {w:aj}
theorem Vt:pf (fun (_:Nat)=>(default:ah)) (oa 0) = #[]:=Array.eq_empty_of_size_eq_zero (by simp)
theorem Vu(z v:ah):(pf (fun x=>[z][x%1]?.getD default) (oa 1)).setIfInBounds 0 v = #[v]:=by
 apply pg (by simp);intro i h1 h2;obtain rfl:i=0:=by simpa using h2
 simp
theorem Fx(z v v2:ah):((pf (fun x=>[z][x%1]?.getD default) (oa 2)).setIfInBounds 0 v).setIfInBounds 1 v2 = #[v,v2]:=by
 apply pg (by simp);intro i h1 h2;have h3:i<2:=by simpa using h2
 rcases dl i 1 with h | h
 · obtain rfl:i=0:=by omega
   simp
 · obtain rfl:i=1:=by omega
   simp
theorem Yv{E:an}{c:Nat}(hu:P.underlying T=some (.slice E))(hi:(P.info? E).map (fun i=>i.size)=some c)
 (h:∀w' g,fN w w'→w.heap.size≤g→fK w' g [] E→au P ops Q rest (Fr (l.set d (.slice (some ⟨g,0,none⟩) 0 0)) ds) w') :
 au P ops Q (bn (some d) (.buildSlice T 0 #[]) ty pos after none::rest) (Fr l ds) w:=by
 cases hq:P.info? E with
 | none=>rw[hq] at hi;cases hi
 | some i =>
  exact lY (w':=w.alloc (.cells #[] E)) (v:=.slice (some ⟨w.heap.size,0,none⟩) 0 0) (fun o ho _=>by simp[cw,ho,Instr.buildSlice,bx hu,sizeOf,typeInfo,hq,Instr.fill,newRow,newObj,Sem.run,Vt]) (h _ _ ((fN.refl w).alloc _) (av _) (iZ w [] E))
theorem iO{E:an}{z:ah}(hu:P.underlying T=some (.slice E))(hi:(P.info? E).map (fun i=>(i.size,i.zero))=some (1,some z))(hz:z.cells = #[z]){v:ah}(hx:ev l x=v)(hv:v.cells = #[v])
 (h:∀w' g,fN w w'→w.heap.size≤g→fK w' g [v] E→au P ops Q rest (Fr (l.set d (.slice (some ⟨g,0,none⟩) 1 1)) ds) w') :
 au P ops Q (bn (some d) (.buildSlice T 1 #[(0,x)]) ty pos after none::rest) (Fr l ds) w:=by
 cases hq:P.info? E with
 | none=>rw[hq] at hi;cases hi
 | some i =>
  rw[hq] at hi;simp only[fa,fx,fp] at hi;obtain⟨e1,e2⟩:=hi;exact lY (w':=w.alloc (.cells #[v] E)) (v:=.slice (some ⟨w.heap.size,0,none⟩) 1 1) (fun o ho _=>by simp[cw,ho,Instr.buildSlice,bx hu,sizeOf,typeInfo,zeroValue,hq,e1,e2,hz,cJ,hx,hv,Instr.fill,newRow,newObj,Sem.run,Vu]) (h _ _ ((fN.refl w).alloc _) (av _) (iZ w [v] E))
theorem Yw{E:an}{z:ah}(hu:P.underlying T=some (.slice E))(hi:(P.info? E).map (fun i=>(i.size,i.zero))=some (1,some z))(hz:z.cells = #[z]){v v2:ah}(hx:ev l x=v)(hv:v.cells = #[v])(hy:ev l y=v2)(hv2:v2.cells = #[v2])
 (h:∀w' g,fN w w'→w.heap.size≤g→fK w' g [v,v2] E→au P ops Q rest (Fr (l.set d (.slice (some ⟨g,0,none⟩) 2 2)) ds) w') :
 au P ops Q (bn (some d) (.buildSlice T 2 #[(0,x),(1,y)]) ty pos after none::rest) (Fr l ds) w:=by
 cases hq:P.info? E with
 | none=>rw[hq] at hi;cases hi
 | some i =>
  rw[hq] at hi;simp only[fa,fx,fp] at hi;obtain⟨e1,e2⟩:=hi;exact lY (w':=w.alloc (.cells #[v,v2] E)) (v:=.slice (some ⟨w.heap.size,0,none⟩) 2 2) (fun o ho _=>by simp[cw,ho,Instr.buildSlice,bx hu,sizeOf,typeInfo,zeroValue,hq,e1,e2,hz,cJ,hx,hv,hy,hv2,Instr.fill,newRow,newObj,Sem.run,Fx]) (h _ _ ((fN.refl w).alloc _) (av _) (iZ w [v,v2] E))
end
theorem aqO{P:bh}{l:List ah}{w:aj}{fn:Func}{R:Ending→aj→Prop}(hr:fn.results = #[])(hR:R (.returned (.tuple #[])) w):bodyPost P fn R .ret (Fr l) w:=by
 refine⟨rfl,_,?_,hR⟩;unfold results;rw[hr];simp
theorem Sx{P:bh}{l:List ah}{w:aj}{fn:Func}{R:Ending→aj→Prop}(hr:fn.results = #[])(hR:R (.returned (.tuple #[])) w):bodyPost P fn R .normal (Fr l) w:=aqO hr hR
section
variable {P:bh} {ds:List cn} {l:List ah} {x y:bg} {ty:an} {w:aj}
variable {ops:Array Oper} {Q:Exit→Act→aj→Prop} {rest:List Oper} {d:Nat} {pos:String} {after:Array Edge}
end
def aqP(w:aj)(S:aj→Prop):Prop:=S w
section
variable {P:bh} {ops:Array Oper} {md:Region.Mode} {S:aj→Prop}
def bO(P:bh)(ops:Array Oper)(S:aj→Prop)(Q:Exit→Act→aj→Prop):List (Oper × Bool)→Act→aj→Prop
 | [],a,w=>Q .normal a w
 | (o,true)::r,a,w=>∃v,YieldsIf P ops S o v a∧bO P ops S Q r (a.put o.dst v) w
 | (o,false)::r,a,w=>au P ops (Exit.then (fun a w=>S w∧bO P ops S Q r a w) Q) [o] a w
theorem vE{Q:Exit→Act→aj→Prop}(hs:Region.noSelect ops=true)(hQ:∀c d v a w,Q (.panic c) (Act.put a d v) w→Q (.panic c) a w):∀(l:List (Nat × Bool)) (listed:Array Bool) (a:Act) (w:aj),
 Vp md ops l listed=true→S w→bO P ops S Q (l.map fun x=>((ops[x.1]?).getD default,x.2)) a w→wpAnyH P md ops Q S l.length listed a w
 | [],listed,a,w,hB,_,h=>⟨by simpa[Vp] using hB,h⟩
 | (i,true)::r,listed,a,w,hB,hS,h=>by
  simp only[Vp,be] at hB;obtain⟨⟨⟨h1,h2⟩,h3⟩,h4⟩:=hB;obtain⟨o,ho⟩:=di.1 h1;simp only[bi,bO,ho,cu] at h;obtain⟨v,hy,hr⟩:=h;exact wpAnyH_take ho hs h2 h3 (fun c a w=>hQ c _ v a w) hy hS (vE hs hQ r _ _ _ h4 hS hr)
 | (i,false)::r,listed,a,w,hB,hS,h=>by
  simp only[Vp,be,decide_eq_true_eq] at hB;obtain⟨⟨h1,h2⟩,h4⟩:=hB;obtain⟨o,ho⟩:=di.1 h1;refine wpAnyH_all h2 (by simp) fun j hj=>?_;obtain rfl:j=i:=by simpa using hj
  simp only[bi,bO,ho,cu] at h;have key:∀a' w',Exit.then (fun a w=>S w∧bO P ops S Q (r.map fun x=>((ops[x.1]?).getD default,x.2)) a w) Q .normal a' w'→S w'∧wpAnyH P md ops Q S r.length (listed.setIfInBounds j true) a' w':=fun a' w' hh=>⟨hh.1,vE hs hQ r _ a' w' h4 hh.1 hh.2⟩
  unfold wpOp;simp only[ho];simp only[au] at h;split
  · rename_i hw
    rw[if_pos hw] at h;rcases h with h | ⟨ha,x,y,hl⟩
    · refine .inl ?_
      unfold lk at h ⊢;generalize (cw a.eval o).run P w=res at *
      cases res with
      | ok n w' =>
       cases n <;> simp only[mj] at h ⊢ <;>
        first
         | exact key _ _ h
         | exact Calls.mono h (fun e w'' he=>by cases e <;> first | exact key _ _ he | exact he)
         | exact Rows.mono h (fun _ _ he=>key _ _ he)
      | halt x w'=>cases x <;> simp only[mj] at h ⊢ <;> exact h
    · exact .inr ⟨ha,x,y,hl⟩
  · rename_i hw
    rw[if_neg hw] at h;exact key _ _ h
theorem yK{id:Nat}{Q:Exit→Act→aj→Prop}{a:Act}{w:aj}{l:List Oper}(o:List (Nat × Bool))(hm:P.follows .mixedOrders=true)(hB:(Region.noSelect l.toArray&&decide (o.length=l.length)&&Vp .any l.toArray o (fl l.toArray.size false))=true)
 (hQ:∀c d v a w,Q (.panic c) (Act.put a d v) w→Q (.panic c) a w) {ol:List (Oper × Bool)} (hol:(o.map fun x=>((l.toArray[x.1]?).getD default,x.2))=ol)
 (h:∀w',fN w w'→∃S,aqP w' S∧bO P l.toArray S Q ol a w'):(Code.region id l.toArray true).wp P Q a w:=by
 simp only[be,decide_eq_true_eq] at hB;subst hol;obtain⟨S,hS,h⟩:=h _ (fN.refl w).drawn;refine wp_region_held (S:=S) hm ?_;have:=vE (md:=.any) hB.1.1 hQ o _ a { w with drawn:=w.drawn+1 } hB.2 hS h;rwa [hB.1.2] at this
variable {ds:List cn} {l:List ah} {Q:Exit→Act→aj→Prop} {w:aj} {rest:List (Oper × Bool)} {d:Nat} {op:Op} {ty:an} {pos:String} {after:Array Edge} {v:ah}
theorem Vv(hr:∀w,S w→yR P l op ty v w)(h:bO P ops S Q rest (Fr (l.set d v) ds) w):bO P ops S Q ((bn (some d) op ty pos after none,true)::rest) (Fr l ds) w:=by
 refine⟨v,.inl ⟨by simp[Region.wanted],fun w hw=>hr w hw _ rfl rfl⟩,?_⟩;show bO P ops S Q rest ((Fr l ds).put (some d) v) w
 rw[iB];exact h
theorem bB(hr:iG P l op ty v)(h:bO P ops S Q rest (Fr (l.set d v) ds) w):bO P ops S Q ((bn (some d) op ty pos after none,true)::rest) (Fr l ds) w:=Vv (fun w _=>hr w) h
theorem eN{T:an}{x:bg}{a:Addr}(hx:ev l x=.pointer (some a))(hv:∀w',S w'→fL P w' T a v)(h:bO P ops S Q rest (Fr (l.set d v) ds) w):bO P ops S Q ((bn (some d) (.load T x) ty pos after none,true)::rest) (Fr l ds) w :=
 Vv (fun _ hS=>aU hx (hv _ hS)) h
theorem jP{j:Nat}{b:Bool}(hw:yielded ops l.toArray j=some b)(h:bO P ops S Q ((bn (some d) op ty pos after none,true)::rest) (Fr l ds) w):bO P ops S Q ((bn (some d) op ty pos after (some (j,b)),true)::rest) (Fr l ds) w:=by
 obtain⟨v,hy,h⟩:=h;refine⟨v,?_,h⟩;rcases hy with ⟨_,hy⟩ | ⟨hn,_⟩
 · exact .inl ⟨by simp[Region.wanted,hw],hy⟩
 · simp[Region.wanted] at hn
theorem af8{j:Nat}{b c:Bool}(hw:yielded ops l.toArray j=some c)(hbc:(c == b)=false)(h:bO P ops S Q rest (Fr (l.set d undef) ds) w):bO P ops S Q ((bn (some d) op ty pos after (some (j,b)),true)::rest) (Fr l ds) w:=by
 refine⟨undef,.inr ⟨by simp[Region.wanted,hw];simpa using hbc,rfl⟩,?_⟩;show bO P ops S Q rest ((Fr l ds).put (some d) undef) w
 rw[iB];exact h
theorem sN{j:Nat}(hw:yielded ops l.toArray j=some false)(h:bO P ops S Q rest (Fr (l.set d undef) ds) w):bO P ops S Q ((bn (some d) op ty pos after (some (j,true)),true)::rest) (Fr l ds) w:=af8 hw rfl h
theorem ac9{j:Nat}(hw:yielded ops l.toArray j=some true)(h:bO P ops S Q rest (Fr (l.set d undef) ds) w):bO P ops S Q ((bn (some d) op ty pos after (some (j,false)),true)::rest) (Fr l ds) w:=af8 hw rfl h
theorem cK(h:Q .normal (Fr l ds) w):bO P ops S Q [] (Fr l ds) w:=h
theorem bK{o:Oper}(h:au P ops (Exit.then (fun a w=>S w∧bO P ops S Q rest a w) Q) [o] (Fr l ds) w):bO P ops S Q ((o,false)::rest) (Fr l ds) w:=h
end
def sO(P:bh)(d:Nat)(T:an)(x y:ah)(p:Prop):Prop:=∀w,∃b:Bool,(Op.equalIn d T x y).run P w=.ok b w∧(b=true↔p)
section
variable {P:bh} {d:Nat} {T:an}
theorem sO.int{k k':IntKind}{m n:Int}(hu:P.underlying T=some (.int k')):sO P (d+1) T (.int k m) (.int k n) (m=n):=fun w=>⟨m == n,by unfold Op.equalIn;simp[bx hu],by simp⟩
theorem sO.bool{a b:Bool}(hu:P.underlying T=some .bool):sO P (d+1) T (.bool a) (.bool b) (a=b):=fun w=>⟨a == b,by unfold Op.equalIn;simp[bx hu],by simp⟩
theorem Nm{a b:ByteArray}(h:a.toList=b.toList):a=b:=by
 rw[ByteArray.toList_eq,ByteArray.toList_eq] at h;cases a;cases b;simp at h;rw[h]
theorem Vw(a b:ByteArray):(a.toList == b.toList)=decide (a=b):=by
 by_cases h:a=b
 · subst h;simp
 · rw[decide_eq_false h];exact beq_eq_false_iff_ne.2 fun e=>h (Nm e)
theorem sO.str{a b:ByteArray}(hu:P.underlying T=some .string):sO P (d+1) T (.string a) (.string b) (a=b):=fun w=>⟨a == b,by unfold Op.equalIn;simp[bx hu],by rw[beq_toListBytes,Vw];simp⟩
def wX(P:bh)(d:Nat)(xs ys:Array ah)(fs:List Field)(p:Prop):Prop:=∀w,∃b:Bool,(Op.eqFields d xs ys fs).run P w=.ok b w∧(b=true↔p)
theorem wX.nil{xs ys:Array ah}:wX P d xs ys [] True:=fun w=>⟨true,by simp[Op.eqFields],by simp⟩
theorem wX.cons{xs ys:Array ah}{f:Field}{fs:List Field}{x y:ah}{p q:Prop} (hn:f.name ≠ "_") (hx:∀w,(part f.type xs f.offset).run P w=.ok x w) (hy:∀w,(part f.type ys f.offset).run P w=.ok y w)
 (h:sO P d f.type x y p) (k:wX P d xs ys fs q):wX P d xs ys (f::fs) (p∧q):=fun w=>by
 obtain⟨b,hb,hp⟩:=h w;obtain⟨c,hc,hq⟩:=k w;cases b
 · exact⟨false,by simp[Op.eqFields,hn,hx,hy,hb],by simp at hp ⊢;intro h;exact absurd h hp⟩
 · exact⟨c,by simp[Op.eqFields,hn,hx,hy,hb,hc],by simp at hp;simp[hp,hq]⟩
def rB(P:bh)(d:Nat)(E:an)(n:Nat)(xs ys:Array ah)(is:List Nat)(p:Prop):Prop:=∀w,∃b:Bool,(Op.eqItems d E n xs ys is).run P w=.ok b w∧(b=true↔p)
theorem rB.nil{E:an}{n:Nat}{xs ys:Array ah}:rB P d E n xs ys [] True:=fun w=>⟨true,by simp[Op.eqItems],by simp⟩
theorem rB.cons{E:an}{n i:Nat}{is:List Nat}{xs ys:Array ah}{x y:ah}{p q:Prop}(hx:∀w,(part E xs (i*n)).run P w=.ok x w)(hy:∀w,(part E ys (i*n)).run P w=.ok y w)
 (h:sO P d E x y p) (k:rB P d E n xs ys is q):rB P d E n xs ys (i::is) (p∧q):=fun w=>by
 obtain⟨b,hb,hp⟩:=h w;obtain⟨c,hc,hq⟩:=k w;cases b
 · exact⟨false,by simp[Op.eqItems,hx,hy,hb],by simp at hp ⊢;intro h;exact absurd h hp⟩
 · exact⟨c,by simp[Op.eqItems,hx,hy,hb,hc],by simp at hp;simp[hp,hq]⟩
theorem sO.struct{fs:Array Field}{xs ys:Array ah}{p:Prop}(hu:P.underlying T=some (.struct fs))(hs:P.stoodInHeld T=false)(h:wX P d xs ys fs.toList p):sO P (d+1) T (.agg xs) (.agg ys) p:=fun w=>by
 have hf:P.fieldsOf T=fs:=by simp[Program.fieldsOf,hu]
 rw[run_equalIn_struct w d T xs ys (by rw[hf];exact hu) hs,hf];exact h w
theorem sO.array{n c:Nat}{E:an}{xs ys:Array ah}{p:Prop}(hu:P.underlying T=some (.array n E))(hc:dP P E c)(h:rB P d E c xs ys (List.range n) p):sO P (d+1) T (.agg xs) (.agg ys) p:=fun w=>by
 obtain⟨i,hi,rfl⟩:=hc;have hE:P.cellsOf E=i.size:=by simp[Program.cellsOf,hi]
 rw[run_equalIn_array w d xs ys hu hi,hE];exact h w
theorem sO.iff{x y:ah}{p q:Prop}(h:sO P d T x y p)(hpq:p↔q):sO P d T x y q:=fun w=>let ⟨b,hb,hp⟩:=h w;⟨b,hb,hp.trans hpq⟩
theorem cW{xs:Array ah}{off:Nat}{v:ah}(hA:eP P T false)(hv:xs[off]? = some v)(w:aj):(part T xs off).run P w=.ok v w:=by simp[part,oZ hA,hv]
theorem cQ{xs us:Array ah}{off c:Nat}(hA:eP P T true)(hc:dP P T c)(hv:xs.extract off (off+c)=us)(w:aj):(part T xs off).run P w=.ok (.agg us) w:=by
 subst hv;simp[part,oZ hA,eH hc]
variable {l:List ah} {x y:bg} {T' ty:an}
theorem wY{u v:ah}{p:Prop}[Decidable p](h:sO P 10000 T u v p)(w:aj):(Op.equal T u v).run P w=.ok (decide p) w:=by
 obtain⟨b,hb,hp⟩:=h w;rw[Op.equal,show Op.maxDepth=10000 from rfl,hb]
 congr 1
 cases b
 · exact (decide_eq_false (by simpa using hp)).symm
 · exact (decide_eq_true (by simpa using hp)).symm
theorem Nn{xs ys:Array ah}{p:Prop}[Decidable p](hg:P.eqGuardType P.depth T=false)(hx:ev l x=.agg xs)(hy:ev l y=.agg ys)(h:sO P 10000 T (.agg xs) (.agg ys) p):iG P l (.binOp .eql T x y T') ty (.bool (decide p)):=fun w o ho _=>by
 simp[cw,ho,cJ,hx,hy,eqGuard,binOp,hg,wY h]
theorem abq{xs ys:Array ah}{p:Prop}[Decidable p](hg:P.eqGuardType P.depth T=false)(hx:ev l x=.agg xs)(hy:ev l y=.agg ys)(h:sO P 10000 T (.agg xs) (.agg ys) p):iG P l (.binOp .neq T x y T') ty (.bool (decide (¬p))):=fun w o ho _=>by
 simp[cw,ho,cJ,hx,hy,eqGuard,binOp,hg,wY h]
theorem abr{a b:Bool}(hu:P.underlying T=some .bool)(hx:ev l x=.bool a)(hy:ev l y=.bool b):iG P l (.binOp .eql T x y T') ty (.bool (decide (a=b))):=fun w o ho _=>by
 have h:=wY (sO.bool (d:=9999) (a:=a) (b:=b) hu) w;simp[cw,ho,cJ,hx,hy,eqGuard,binOp,h]
theorem af9{a b:Bool}(hu:P.underlying T=some .bool)(hx:ev l x=.bool a)(hy:ev l y=.bool b):iG P l (.binOp .neq T x y T') ty (.bool (decide (¬a=b))):=fun w o ho _=>by
 have h:=wY (sO.bool (d:=9999) (a:=a) (b:=b) hu) w;simp[cw,ho,cJ,hx,hy,eqGuard,binOp,h]
theorem abt{a b:ByteArray}(hu:P.underlying T=some .string)(hx:ev l x=.string a)(hy:ev l y=.string b):iG P l (.binOp .eql T x y T') ty (.bool (decide (a=b))):=fun w o ho _=>by
 have h:=wY (sO.str (d:=9999) (a:=a) (b:=b) hu) w;simp[cw,ho,cJ,hx,hy,eqGuard,binOp,h,Op.stringOp,Vw]
theorem amy{a b:ByteArray}(hu:P.underlying T=some .string)(hx:ev l x=.string a)(hy:ev l y=.string b):iG P l (.binOp .neq T x y T') ty (.bool (decide (¬a=b))):=fun w o ho _=>by
 have h:=wY (sO.str (d:=9999) (a:=a) (b:=b) hu) w;simp[cw,ho,cJ,hx,hy,eqGuard,binOp,h,Op.stringOp,Vw]
end
end Go.Lith
namespace Go.Proofs.YtfekpcimgncioaaGreatDoor
open Go.Proofs.Tryz
open Go.RowKit Go.Lith
abbrev nE:=@underlying107
abbrev wZ:=@underlying112
abbrev tL:=@underlying215
abbrev nF:=@underlying218
abbrev kQ:=@underlying231
abbrev Iu:=@underlying257
abbrev cC:=@underlying27
abbrev iW:=@underlying3
abbrev fJ:=@underlying30
abbrev oA:=@underlying300
abbrev tM:=@underlying36
abbrev cH:=@underlying39
abbrev Yx:=@underlying4
abbrev Dp:=@underlying56
abbrev cX:=@underlying65
abbrev oT:=@underlying9
abbrev No:=@underlying93
abbrev Kv:=@underlying97
abbrev Np:=@underlying99
set_option maxRecDepth 100000
theorem aB:prog.follows .mixedOrders=true:=by kernel_rfl
theorem as3:Entr prog 4:=bH func4 (by kernel_rfl)
theorem aqQ:Entr prog 14:=bH func14 (by kernel_rfl)
theorem aqR:Entr prog 17:=bH func17 (by kernel_rfl)
theorem aqS:Entr prog 18:=bH func18 (by kernel_rfl)
theorem aqT:Entr prog 19:=bH func19 (by kernel_rfl)
theorem aqU:Entr prog 20:=bH func20 (by kernel_rfl)
theorem aqV:Entr prog 21:=bH func21 (by kernel_rfl)
theorem aqW:Entr prog 22:=bH func22 (by kernel_rfl)
theorem aqX:Entr prog 23:=bH func23 (by kernel_rfl)
theorem aqY:Entr prog 24:=bH func24 (by kernel_rfl)
theorem aqZ:Entr prog 26:=bH func26 (by kernel_rfl)
theorem aq0:Entr prog 28:=bH func28 (by kernel_rfl)
theorem aq1:Entr prog 30:=bH func30 (by kernel_rfl)
theorem aq2:Entr prog 33:=bH func33 (by kernel_rfl)
theorem aq3:Entr prog 35:=bH func35 (by kernel_rfl)
theorem aq4:Entr prog 36:=bH func36 (by kernel_rfl)
theorem aq5:Entr prog 38:=bH func38 (by kernel_rfl)
theorem aq6:Entr prog 40:=bH func40 (by kernel_rfl)
theorem aq7:Entr prog 47:=bH func47 (by kernel_rfl)
theorem aq8:Entr prog 49:=bH func49 (by kernel_rfl)
theorem aq9:Entr prog 50:=bH func50 (by kernel_rfl)
theorem ara:Entr prog 51:=bH func51 (by kernel_rfl)
theorem arb:Entr prog 52:=bH func52 (by kernel_rfl)
theorem arc:Entr prog 53:=bH func53 (by kernel_rfl)
theorem ard:Entr prog 54:=bH func54 (by kernel_rfl)
theorem are:Entr prog 55:=bH func55 (by kernel_rfl)
theorem arf:Entr prog 56:=bH func56 (by kernel_rfl)
theorem arh:Entr prog 57:=bH func57 (by kernel_rfl)
theorem ari:Entr prog 58:=bH func58 (by kernel_rfl)
theorem arj:Entr prog 59:=bH func59 (by kernel_rfl)
theorem ark:Entr prog 60:=bH func60 (by kernel_rfl)
theorem arl:Entr prog 61:=bH func61 (by kernel_rfl)
theorem arm:Entr prog 62:=bH func62 (by kernel_rfl)
theorem arn:Entr prog 63:=bH func63 (by kernel_rfl)
theorem aro:Entr prog 64:=bH func64 (by kernel_rfl)
theorem arp:Entr prog 65:=bH func65 (by kernel_rfl)
theorem arq:Entr prog 66:=bH func66 (by kernel_rfl)
theorem ars:Entr prog 67:=bH func67 (by kernel_rfl)
theorem art:Entr prog 68:=bH func68 (by kernel_rfl)
theorem aru:Entr prog 69:=bH func69 (by kernel_rfl)
theorem arv:Entr prog 70:=bH func70 (by kernel_rfl)
theorem arw:Entr prog 72:=bH func72 (by kernel_rfl)
theorem arx:Entr prog 76:=bH func76 (by kernel_rfl)
theorem ary:Entr prog 77:=bH func77 (by kernel_rfl)
theorem arz:Entr prog 78:=bH func78 (by kernel_rfl)
theorem arA:Entr prog 79:=bH func79 (by kernel_rfl)
theorem arB:Entr prog 80:=bH func80 (by kernel_rfl)
theorem arC:Entr prog 81:=bH func81 (by kernel_rfl)
theorem ada:Entr prog 82:=bH func82 (by kernel_rfl)
theorem arD:Entr prog 85:=bH func85 (by kernel_rfl)
theorem arE:Entr prog 97:=bH func97 (by kernel_rfl)
theorem arF:Entr prog 98:=bH func98 (by kernel_rfl)
theorem arG:Entr prog 99:=bH func99 (by kernel_rfl)
theorem amz:Entr prog 100:=bH func100 (by kernel_rfl)
theorem amA:Entr prog 101:=bH func101 (by kernel_rfl)
theorem amB:Entr prog 102:=bH func102 (by kernel_rfl)
theorem amC:Entr prog 103:=bH func103 (by kernel_rfl)
theorem amD:Entr prog 104:=bH func104 (by kernel_rfl)
theorem amE:Entr prog 105:=bH func105 (by kernel_rfl)
theorem amF:Entr prog 106:=bH func106 (by kernel_rfl)
theorem amG:Entr prog 107:=bH func107 (by kernel_rfl)
theorem amH:Entr prog 108:=bH func108 (by kernel_rfl)
theorem amI:Entr prog 109:=bH func109 (by kernel_rfl)
theorem amJ:Entr prog 110:=bH func110 (by kernel_rfl)
theorem amK:Entr prog 111:=bH func111 (by kernel_rfl)
theorem amL:Entr prog 112:=bH func112 (by kernel_rfl)
theorem amM:Entr prog 113:=bH func113 (by kernel_rfl)
theorem abu:Entr prog 114:=bH func114 (by kernel_rfl)
theorem amN:Entr prog 115:=bH func115 (by kernel_rfl)
theorem amO:Entr prog 116:=bH func116 (by kernel_rfl)
theorem amP:Entr prog 117:=bH func117 (by kernel_rfl)
theorem amQ:Entr prog 118:=bH func118 (by kernel_rfl)
theorem aga:Entr prog 119:=bH func119 (by kernel_rfl)
theorem amR:Entr prog 120:=bH func120 (by kernel_rfl)
theorem amS:Entr prog 121:=bH func121 (by kernel_rfl)
theorem amT:Entr prog 122:=bH func122 (by kernel_rfl)
theorem amU:Entr prog 123:=bH func123 (by kernel_rfl)
theorem amV:Entr prog 124:=bH func124 (by kernel_rfl)
theorem agb:Entr prog 125:=bH func125 (by kernel_rfl)
theorem amW:Entr prog 126:=bH func126 (by kernel_rfl)
theorem amX:Entr prog 127:=bH func127 (by kernel_rfl)
theorem abv:Entr prog 128:=bH func128 (by kernel_rfl)
theorem agc:Entr prog 129:=bH func129 (by kernel_rfl)
theorem amY:Entr prog 130:=bH func130 (by kernel_rfl)
theorem amZ:Entr prog 135:=bH func135 (by kernel_rfl)
theorem am0:Entr prog 136:=bH func136 (by kernel_rfl)
theorem am1:Entr prog 137:=bH func137 (by kernel_rfl)
theorem am2:Entr prog 138:=bH func138 (by kernel_rfl)
theorem am3:Entr prog 139:=bH func139 (by kernel_rfl)
theorem am4:Entr prog 140:=bH func140 (by kernel_rfl)
theorem am5:Entr prog 141:=bH func141 (by kernel_rfl)
theorem am6:Entr prog 145:=bH func145 (by kernel_rfl)
theorem am7:Entr prog 164:=bH func164 (by kernel_rfl)
theorem am8:Entr prog 165:=bH func165 (by kernel_rfl)
theorem am9:Entr prog 166:=bH func166 (by kernel_rfl)
theorem ana:Entr prog 167:=bH func167 (by kernel_rfl)
theorem anb:Entr prog 168:=bH func168 (by kernel_rfl)
theorem anc:Entr prog 169:=bH func169 (by kernel_rfl)
theorem ane:Entr prog 170:=bH func170 (by kernel_rfl)
theorem anf:Entr prog 171:=bH func171 (by kernel_rfl)
theorem ang:Entr prog 172:=bH func172 (by kernel_rfl)
theorem anh:Entr prog 173:=bH func173 (by kernel_rfl)
theorem ani:Entr prog 174:=bH func174 (by kernel_rfl)
theorem anj:Entr prog 175:=bH func175 (by kernel_rfl)
theorem ank:Entr prog 176:=bH func176 (by kernel_rfl)
theorem anl:Entr prog 177:=bH func177 (by kernel_rfl)
theorem anm:Entr prog 178:=bH func178 (by kernel_rfl)
theorem ann:Entr prog 179:=bH func179 (by kernel_rfl)
theorem ano:Entr prog 182:=bH func182 (by kernel_rfl)
theorem anp:Entr prog 183:=bH func183 (by kernel_rfl)
theorem anq:Entr prog 184:=bH func184 (by kernel_rfl)
theorem anr:Entr prog 185:=bH func185 (by kernel_rfl)
theorem ans:Entr prog 186:=bH func186 (by kernel_rfl)
theorem ant:Entr prog 187:=bH func187 (by kernel_rfl)
theorem anu:Entr prog 188:=bH func188 (by kernel_rfl)
theorem anv:Entr prog 189:=bH func189 (by kernel_rfl)
theorem anw:Entr prog 191:=bH func191 (by kernel_rfl)
theorem anx:Entr prog 192:=bH func192 (by kernel_rfl)
theorem anz:Entr prog 193:=bH func193 (by kernel_rfl)
theorem agd:Entr prog 195:=bH func195 (by kernel_rfl)
theorem anA:Entr prog 200:=bH func200 (by kernel_rfl)
theorem anB:Entr prog 201:=bH func201 (by kernel_rfl)
theorem anC:Entr prog 202:=bH func202 (by kernel_rfl)
theorem anD:Entr prog 203:=bH func203 (by kernel_rfl)
theorem anE:Entr prog 204:=bH func204 (by kernel_rfl)
theorem anF:Entr prog 205:=bH func205 (by kernel_rfl)
theorem anG:Entr prog 206:=bH func206 (by kernel_rfl)
theorem anH:Entr prog 207:=bH func207 (by kernel_rfl)
theorem anI:Entr prog 208:=bH func208 (by kernel_rfl)
theorem anJ:Entr prog 209:=bH func209 (by kernel_rfl)
theorem anK:Entr prog 210:=bH func210 (by kernel_rfl)
theorem anL:Entr prog 211:=bH func211 (by kernel_rfl)
theorem anM:Entr prog 212:=bH func212 (by kernel_rfl)
theorem anN:Entr prog 213:=bH func213 (by kernel_rfl)
theorem anO:Entr prog 214:=bH func214 (by kernel_rfl)
theorem anP:Entr prog 218:=bH func218 (by kernel_rfl)
theorem anQ:Entr prog 223:=bH func223 (by kernel_rfl)
theorem anR:Entr prog 224:=bH func224 (by kernel_rfl)
theorem anS:Entr prog 231:=bH func231 (by kernel_rfl)
theorem anT:Entr prog 232:=bH func232 (by kernel_rfl)
theorem anU:Entr prog 234:=bH func234 (by kernel_rfl)
theorem Vx:Entr prog 235:=bH func235 (by kernel_rfl)
theorem anV:Entr prog 236:=bH func236 (by kernel_rfl)
theorem anW:Entr prog 237:=bH func237 (by kernel_rfl)
theorem anX:Entr prog 238:=bH func238 (by kernel_rfl)
theorem anY:Entr prog 239:=bH func239 (by kernel_rfl)
theorem anZ:Entr prog 240:=bH func240 (by kernel_rfl)
theorem an0:Entr prog 241:=bH func241 (by kernel_rfl)
theorem an1:Entr prog 242:=bH func242 (by kernel_rfl)
theorem an2:Entr prog 243:=bH func243 (by kernel_rfl)
theorem an3:Entr prog 244:=bH func244 (by kernel_rfl)
theorem an4:Entr prog 245:=bH func245 (by kernel_rfl)
theorem an5:Entr prog 255:=bH func255 (by kernel_rfl)
theorem an6:Entr prog 256:=bH func256 (by kernel_rfl)
theorem an7:Entr prog 257:=bH func257 (by kernel_rfl)
theorem an8:Entr prog 258:=bH func258 (by kernel_rfl)
theorem an9:Entr prog 267:=bH func267 (by kernel_rfl)
theorem age:Entr prog 276:=bH func276 (by kernel_rfl)
theorem agf:Entr prog 277:=bH func277 (by kernel_rfl)
theorem agh:Entr prog 278:=bH func278 (by kernel_rfl)
theorem aoa:Entr prog 279:=bH func279 (by kernel_rfl)
theorem aob:Entr prog 280:=bH func280 (by kernel_rfl)
theorem aoc:Entr prog 281:=bH func281 (by kernel_rfl)
theorem aod:Entr prog 282:=bH func282 (by kernel_rfl)
theorem aoe:Entr prog 283:=bH func283 (by kernel_rfl)
theorem aof:Entr prog 284:=bH func284 (by kernel_rfl)
theorem aog:Entr prog 285:=bH func285 (by kernel_rfl)
theorem aoh:Entr prog 286:=bH func286 (by kernel_rfl)
theorem aoi:Entr prog 295:=bH func295 (by kernel_rfl)
theorem aoj:Entr prog 296:=bH func296 (by kernel_rfl)
theorem aok:Entr prog 298:=bH func298 (by kernel_rfl)
theorem aol:Entr prog 299:=bH func299 (by kernel_rfl)
theorem aom:Entr prog 300:=bH func300 (by kernel_rfl)
theorem aon:Entr prog 301:=bH func301 (by kernel_rfl)
theorem aoo:Entr prog 302:=bH func302 (by kernel_rfl)
theorem aop:Entr prog 303:=bH func303 (by kernel_rfl)
theorem aoq:Entr prog 304:=bH func304 (by kernel_rfl)
theorem aor:Entr prog 305:=bH func305 (by kernel_rfl)
theorem aos:Entr prog 306:=bH func306 (by kernel_rfl)
theorem aot:Entr prog 307:=bH func307 (by kernel_rfl)
theorem aou:Entr prog 308:=bH func308 (by kernel_rfl)
theorem aov:Entr prog 315:=bH func315 (by kernel_rfl)
theorem aow:Entr prog 325:=bH func325 (by kernel_rfl)
theorem abw:Entr prog 336:=bH func336 (by kernel_rfl)
theorem agi:Entr prog 337:=bH func337 (by kernel_rfl)
theorem aox:Entr prog 338:=bH func338 (by kernel_rfl)
theorem aX:dP prog 3 1:=dR (by kernel_rfl)
theorem bE:eP prog 3 false:=dH _ iW rfl
theorem lH:nY prog 3 (.int .i64 0):=kP (by kernel_rfl)
theorem vV:(prog.info? 3).map (fun i=>(i.size,i.bytes,i.zero))=some (1,8,some (.int .i64 0)):=by kernel_rfl
theorem sP:dP prog 4 1:=dR (by kernel_rfl)
theorem Kx:eP prog 4 false:=dH _ Yx rfl
theorem oB:nY prog 4 (.bool false):=kP (by kernel_rfl)
theorem Sy:(prog.info? 5).map (fun i=>(i.size,i.bytes,i.zero))=some (1,1,some (.int .u8 0)):=by kernel_rfl
theorem ajU:dP prog 9 1:=dR (by kernel_rfl)
theorem alN:eP prog 9 false:=dH _ oT rfl
theorem fV:dP prog 27 1:=dR (by kernel_rfl)
theorem rV:eP prog 27 false:=dH _ cC rfl
theorem adb:nY prog 27 (.slice none 0 0):=kP (by kernel_rfl)
theorem aA:dP prog 30 3:=dR (by kernel_rfl)
theorem aG:eP prog 30 true:=dH _ fJ rfl
theorem iL:nY prog 30 (.agg #[.int .i64 0,.int .i64 0,.int .i64 0]):=kP (by kernel_rfl)
theorem nG:(prog.info? 30).map (fun i=>(i.size,i.bytes,i.zero))=some (3,24,some (.agg #[.int .i64 0,.int .i64 0,.int .i64 0])):=by kernel_rfl
theorem jE:dP prog 36 3:=dR (by kernel_rfl)
theorem vF:eP prog 36 true:=dH _ tM rfl
theorem Cc:nY prog 36 (.agg #[.int .i64 0,.int .i64 0,.int .i64 0]):=kP (by kernel_rfl)
theorem aoy:eP prog 37 true:=dH _ underlying37 rfl
theorem agj:dP prog 38 9:=dR (by kernel_rfl)
theorem aoz:eP prog 38 true:=dH _ underlying38 rfl
theorem aL:dP prog 39 9:=dR (by kernel_rfl)
theorem bV:eP prog 39 true:=dH _ cH rfl
theorem adc:nY prog 39 (.agg #[.int .i64 0,.int .i64 0,.int .i64 0,.int .i64 0,.int .i64 0,.int .i64 0,.int .i64 0,.int .i64 0,.int .i64 0]):=kP (by kernel_rfl)
theorem kA:(prog.info? 39).map (fun i=>(i.size,i.bytes,i.zero))=some (9,72,some (.agg #[.int .i64 0,.int .i64 0,.int .i64 0,.int .i64 0,.int .i64 0,.int .i64 0,.int .i64 0,.int .i64 0,.int .i64 0])):=by kernel_rfl
theorem Yy:dP prog 41 9:=dR (by kernel_rfl)
theorem aoA:eP prog 41 true:=dH _ underlying41 rfl
theorem Fy:dP prog 55 6:=dR (by kernel_rfl)
theorem agk:eP prog 55 true:=dH _ underlying55 rfl
theorem ajV:nY prog 55 (.agg #[.int .i64 0,.int .i64 0,.int .i64 0,.int .i64 0,.int .i64 0,.int .i64 0]):=kP (by kernel_rfl)
theorem agl:(prog.info? 55).map (fun i=>(i.size,i.bytes,i.zero))=some (6,48,some (.agg #[.int .i64 0,.int .i64 0,.int .i64 0,.int .i64 0,.int .i64 0,.int .i64 0])):=by kernel_rfl
theorem iH:dP prog 56 6:=dR (by kernel_rfl)
theorem Ej:eP prog 56 true:=dH _ Dp rfl
theorem zX:(prog.info? 56).map (fun i=>(i.size,i.bytes,i.zero))=some (6,48,some (.agg #[.int .i64 0,.int .i64 0,.int .i64 0,.int .i64 0,.int .i64 0,.int .i64 0])):=by kernel_rfl
theorem agm:dP prog 65 1:=dR (by kernel_rfl)
theorem agn:eP prog 65 false:=dH _ cX rfl
theorem Nq:dP prog 88 1:=dR (by kernel_rfl)
theorem Vy:eP prog 88 false:=dH _ underlying88 rfl
theorem ago:eP prog 93 false:=dH _ No rfl
theorem aP:dP prog 95 2:=dR (by kernel_rfl)
theorem cL:eP prog 95 true:=dH _ underlying95 rfl
theorem xA:nY prog 95 (.agg #[.bool false,.string ⟨#[]⟩]):=kP (by kernel_rfl)
theorem kG:dP prog 97 20:=dR (by kernel_rfl)
theorem xB:eP prog 97 true:=dH _ Kv rfl
theorem ajW:nY prog 97 (.agg #[.bool false,.string ⟨#[]⟩,.bool false,.string ⟨#[]⟩,.bool false,.string ⟨#[]⟩,.bool false,.string ⟨#[]⟩,.bool false,.string ⟨#[]⟩,.bool false,.string ⟨#[]⟩,.bool false,.string ⟨#[]⟩,.bool false,.string ⟨#[]⟩,.bool false,.string ⟨#[]⟩,.bool false,.string ⟨#[]⟩]):=kP (by kernel_rfl)
theorem aoB:eP prog 99 false:=dH _ Np rfl
theorem ade:eP prog 106 false:=dH _ underlying106 rfl
theorem Cd:dP prog 107 1:=dR (by kernel_rfl)
theorem sQ:eP prog 107 false:=dH _ nE rfl
theorem qI:dP prog 112 8:=dR (by kernel_rfl)
theorem Ga:eP prog 112 true:=dH _ wZ rfl
theorem agp:nY prog 112 (.agg #[.int .i64 0,.int .i64 0,.int .i64 0,.int .i64 0,.int .i64 0,.int .i64 0,.bool false,.string ⟨#[]⟩]):=kP (by kernel_rfl)
theorem ajX:(prog.info? 112).map (fun i=>(i.size,i.bytes,i.zero))=some (8,72,some (.agg #[.int .i64 0,.int .i64 0,.int .i64 0,.int .i64 0,.int .i64 0,.int .i64 0,.bool false,.string ⟨#[]⟩])):=by kernel_rfl
theorem aen:dP prog 168 8:=dR (by kernel_rfl)
theorem Yz:nY prog 168 (.agg #[.bool false,.string ⟨#[]⟩,.bool false,.string ⟨#[]⟩,.bool false,.string ⟨#[]⟩,.bool false,.string ⟨#[]⟩]):=kP (by kernel_rfl)
theorem qJ:dP prog 215 6:=dR (by kernel_rfl)
theorem Ce:eP prog 215 true:=dH _ tL rfl
theorem ajY:(prog.info? 215).map (fun i=>(i.size,i.bytes,i.zero))=some (6,48,some (.agg #[.int .i64 0,.int .i64 0,.int .i64 0,.int .i64 0,.int .i64 0,.int .i64 0])):=by kernel_rfl
theorem agq:nY prog 218 (.agg #[.pointer none,.int .i64 0,.int .i64 0,.int .i64 0,.int .i64 0,.int .i64 0,.int .i64 0,.map none,.map none,.slice none 0 0,.slice none 0 0,.slice none 0 0]):=kP (by kernel_rfl)
theorem Sz:dP prog 222 6:=dR (by kernel_rfl)
theorem adf:eP prog 222 true:=dH _ underlying222 rfl
theorem Iv:dP prog 229 8:=dR (by kernel_rfl)
theorem adg:eP prog 229 true:=dH _ underlying229 rfl
theorem cG:dP prog 231 1:=dR (by kernel_rfl)
theorem lI:eP prog 231 false:=dH _ kQ rfl
theorem Gb:(prog.info? 231).map (fun i=>(i.size,i.bytes,i.zero))=some (1,8,some (.int .u64 0)):=by kernel_rfl
theorem Cf:dP prog 242 1:=dR (by kernel_rfl)
theorem Vz:eP prog 242 false:=dH _ underlying242 rfl
theorem Iy:dP prog 243 3:=dR (by kernel_rfl)
theorem adh:eP prog 243 true:=dH _ underlying243 rfl
theorem Za:nY prog 243 (.agg #[.nilFunc,.nilFunc,.nilFunc]):=kP (by kernel_rfl)
theorem oM:dP prog 257 6:=dR (by kernel_rfl)
theorem Ml:eP prog 257 true:=dH _ Iu rfl
theorem Zb:nY prog 257 (.agg #[.bool false,.string ⟨#[]⟩,.bool false,.string ⟨#[]⟩,.bool false,.string ⟨#[]⟩]):=kP (by kernel_rfl)
theorem Ta:dP prog 273 6:=dR (by kernel_rfl)
theorem adi:eP prog 273 true:=dH _ underlying273 rfl
theorem aeo:dP prog 280 18:=dR (by kernel_rfl)
theorem ajZ:eP prog 280 true:=dH _ underlying280 rfl
theorem aep:dP prog 300 1:=dR (by kernel_rfl)
theorem aj0:eP prog 300 false:=dH _ oA rfl
theorem agr:nY prog 300 (.slice none 0 0):=kP (by kernel_rfl)
theorem Tb:dP prog 333 3:=dR (by kernel_rfl)
theorem adj:eP prog 333 true:=dH _ underlying333 rfl
theorem aeq(w:aj):((#[{ name := "X", type:=3,offset:=0,embedded:=false,tag := "", pkgPath := "", byteOffset:=0 },{ name := "Y", type:=3,offset:=1,embedded:=false,tag := "", pkgPath := "", byteOffset:=8 },{ name := "Z", type:=3,offset:=2,embedded:=false,tag := "", pkgPath := "", byteOffset:=16 }]:Array Field).mapM fun f=>do pure (f.offset,←sizeOf f.type):Sem (Array (Nat × Nat))).run prog w=.ok #[(0,1),(1,1),(2,1)] w:=by
 simp[ik,eH aX]
theorem abx{v0 v1 v2:ah}{c0_0:ah}(h0:v0.cells = #[c0_0]){c1_0:ah}(h1:v1.cells = #[c1_0]){c2_0:ah}(h2:v2.cells = #[c2_0])(w:aj):(Instr.build 30 #[(0,v0),(1,v1),(2,v2)]).run prog w=.ok (.agg #[c0_0,c1_0,c2_0]) w:=jN fJ iL aeq (by simp[Instr.fill,lT,h0,h1,h2]) w
theorem Iz{l:List ah}{ty:an}{x0 x1 x2:bg}{c0_0:ah}(h0:(ev l x0).cells = #[c0_0]){c1_0:ah}(h1:(ev l x1).cells = #[c1_0]){c2_0:ah}(h2:(ev l x2).cells = #[c2_0]):iG prog l (.build 30 #[(0,x0),(1,x1),(2,x2)]) ty (.agg #[c0_0,c1_0,c2_0]):=pA (vs:=#[(0,ev l x0),(1,ev l x1),(2,ev l x2)]) (by simp) fun w=>abx h0 h1 h2 w
theorem aby{v0 v1 v2:ah}{c0_0:ah}(h0:v0.cells = #[c0_0]){c1_0:ah}(h1:v1.cells = #[c1_0]){c2_0:ah}(h2:v2.cells = #[c2_0])(w:aj):(Instr.build 36 #[(0,v0),(1,v1),(2,v2)]).run prog w=.ok (.agg #[c0_0,c1_0,c2_0]) w:=kC tM Cc aX (by simp[Instr.fill,lT,h0,h1,h2]) w
theorem vW{l:List ah}{ty:an}{x0 x1 x2:bg}{c0_0:ah}(h0:(ev l x0).cells = #[c0_0]){c1_0:ah}(h1:(ev l x1).cells = #[c1_0]){c2_0:ah}(h2:(ev l x2).cells = #[c2_0]):iG prog l (.build 36 #[(0,x0),(1,x1),(2,x2)]) ty (.agg #[c0_0,c1_0,c2_0]):=pA (vs:=#[(0,ev l x0),(1,ev l x1),(2,ev l x2)]) (by simp) fun w=>aby h0 h1 h2 w
theorem abz{v0 v1 v2:ah}{c0_0 c0_1 c0_2:ah}(h0:v0.cells = #[c0_0,c0_1,c0_2]){c1_0 c1_1 c1_2:ah}(h1:v1.cells = #[c1_0,c1_1,c1_2]){c2_0 c2_1 c2_2:ah}(h2:v2.cells = #[c2_0,c2_1,c2_2])(w:aj):(Instr.build 39 #[(0,v0),(1,v1),(2,v2)]).run prog w=.ok (.agg #[c0_0,c0_1,c0_2,c1_0,c1_1,c1_2,c2_0,c2_1,c2_2]) w:=kC cH adc aA (by simp[Instr.fill,lT,h0,h1,h2]) w
theorem Ja{l:List ah}{ty:an}{x0 x1 x2:bg}{c0_0 c0_1 c0_2:ah}(h0:(ev l x0).cells = #[c0_0,c0_1,c0_2]){c1_0 c1_1 c1_2:ah}(h1:(ev l x1).cells = #[c1_0,c1_1,c1_2]){c2_0 c2_1 c2_2:ah}(h2:(ev l x2).cells = #[c2_0,c2_1,c2_2]):iG prog l (.build 39 #[(0,x0),(1,x1),(2,x2)]) ty (.agg #[c0_0,c0_1,c0_2,c1_0,c1_1,c1_2,c2_0,c2_1,c2_2]):=pA (vs:=#[(0,ev l x0),(1,ev l x1),(2,ev l x2)]) (by simp) fun w=>abz h0 h1 h2 w
theorem aer(w:aj):((#[{ name := "From", type:=30,offset:=0,embedded:=false,tag := "", pkgPath := "", byteOffset:=0 },{ name := "To", type:=30,offset:=3,embedded:=false,tag := "", pkgPath := "", byteOffset:=24 }]:Array Field).mapM fun f=>do pure (f.offset,←sizeOf f.type):Sem (Array (Nat × Nat))).run prog w=.ok #[(0,3),(3,3)] w:=by
 simp[ik,eH aA]
theorem ags{v0 v1:ah}{c0_0 c0_1 c0_2:ah}(h0:v0.cells = #[c0_0,c0_1,c0_2]){c1_0 c1_1 c1_2:ah}(h1:v1.cells = #[c1_0,c1_1,c1_2])(w:aj):(Instr.build 55 #[(0,v0),(1,v1)]).run prog w=.ok (.agg #[c0_0,c0_1,c0_2,c1_0,c1_1,c1_2]) w:=jN underlying55 ajV aer (by simp[Instr.fill,lT,h0,h1]) w
theorem zY{l:List ah}{ty:an}{x0 x1:bg}{c0_0 c0_1 c0_2:ah}(h0:(ev l x0).cells = #[c0_0,c0_1,c0_2]){c1_0 c1_1 c1_2:ah}(h1:(ev l x1).cells = #[c1_0,c1_1,c1_2]):iG prog l (.build 55 #[(0,x0),(1,x1)]) ty (.agg #[c0_0,c0_1,c0_2,c1_0,c1_1,c1_2]):=pA (vs:=#[(0,ev l x0),(1,ev l x1)]) (by simp) fun w=>ags h0 h1 w
theorem aes(w:aj):((#[{ name := "Neg", type:=4,offset:=0,embedded:=false,tag := "", pkgPath := "", byteOffset:=0 },{ name := "Mag", type:=9,offset:=1,embedded:=false,tag := "", pkgPath := "", byteOffset:=8 }]:Array Field).mapM fun f=>do pure (f.offset,←sizeOf f.type):Sem (Array (Nat × Nat))).run prog w=.ok #[(0,1),(1,1)] w:=by
 simp[ik,eH sP,eH ajU]
theorem agt{v0 v1:ah}{c0_0:ah}(h0:v0.cells = #[c0_0]){c1_0:ah}(h1:v1.cells = #[c1_0])(w:aj):(Instr.build 95 #[(0,v0),(1,v1)]).run prog w=.ok (.agg #[c0_0,c1_0]) w:=jN underlying95 xA aes (by simp[Instr.fill,lT,h0,h1]) w
theorem zZ{l:List ah}{ty:an}{x0 x1:bg}{c0_0:ah}(h0:(ev l x0).cells = #[c0_0]){c1_0:ah}(h1:(ev l x1).cells = #[c1_0]):iG prog l (.build 95 #[(0,x0),(1,x1)]) ty (.agg #[c0_0,c1_0]):=pA (vs:=#[(0,ev l x0),(1,ev l x1)]) (by simp) fun w=>agt h0 h1 w
theorem abA(w:aj):((#[{ name := "u", type:=30,offset:=0,embedded:=false,tag := "", pkgPath := "lithophane/collapse", byteOffset:=0 },{ name := "v", type:=30,offset:=3,embedded:=false,tag := "", pkgPath := "lithophane/collapse", byteOffset:=24 },{ name := "cost", type:=95,offset:=6,embedded:=false,tag := "", pkgPath := "lithophane/collapse", byteOffset:=48 }]:Array Field).mapM fun f=>do pure (f.offset,←sizeOf f.type):Sem (Array (Nat × Nat))).run prog w=.ok #[(0,3),(3,3),(6,2)] w:=by
 simp[ik,eH aA,eH aP]
theorem Zc{v0 v1 v2:ah}{c0_0 c0_1 c0_2:ah}(h0:v0.cells = #[c0_0,c0_1,c0_2]){c1_0 c1_1 c1_2:ah}(h1:v1.cells = #[c1_0,c1_1,c1_2]){c2_0 c2_1:ah}(h2:v2.cells = #[c2_0,c2_1])(w:aj):(Instr.build 112 #[(0,v0),(1,v1),(2,v2)]).run prog w=.ok (.agg #[c0_0,c0_1,c0_2,c1_0,c1_1,c1_2,c2_0,c2_1]) w:=jN wZ agp abA (by simp[Instr.fill,lT,h0,h1,h2]) w
theorem Gc{l:List ah}{ty:an}{x0 x1 x2:bg}{c0_0 c0_1 c0_2:ah}(h0:(ev l x0).cells = #[c0_0,c0_1,c0_2]){c1_0 c1_1 c1_2:ah}(h1:(ev l x1).cells = #[c1_0,c1_1,c1_2]){c2_0 c2_1:ah}(h2:(ev l x2).cells = #[c2_0,c2_1]):iG prog l (.build 112 #[(0,x0),(1,x1),(2,x2)]) ty (.agg #[c0_0,c0_1,c0_2,c1_0,c1_1,c1_2,c2_0,c2_1]):=pA (vs:=#[(0,ev l x0),(1,ev l x1),(2,ev l x2)]) (by simp) fun w=>Zc h0 h1 h2 w
theorem Rv{v0 v1 v2 v3:ah}{c0_0 c0_1:ah}(h0:v0.cells = #[c0_0,c0_1]){c1_0 c1_1:ah}(h1:v1.cells = #[c1_0,c1_1]){c2_0 c2_1:ah}(h2:v2.cells = #[c2_0,c2_1]){c3_0 c3_1:ah}(h3:v3.cells = #[c3_0,c3_1])(w:aj):(Instr.build 168 #[(0,v0),(1,v1),(2,v2),(3,v3)]).run prog w=.ok (.agg #[c0_0,c0_1,c1_0,c1_1,c2_0,c2_1,c3_0,c3_1]) w:=kC underlying168 Yz aP (by simp[Instr.fill,lT,h0,h1,h2,h3]) w
theorem De{l:List ah}{ty:an}{x0 x1 x2 x3:bg}{c0_0 c0_1:ah}(h0:(ev l x0).cells = #[c0_0,c0_1]){c1_0 c1_1:ah}(h1:(ev l x1).cells = #[c1_0,c1_1]){c2_0 c2_1:ah}(h2:(ev l x2).cells = #[c2_0,c2_1]){c3_0 c3_1:ah}(h3:(ev l x3).cells = #[c3_0,c3_1]):iG prog l (.build 168 #[(0,x0),(1,x1),(2,x2),(3,x3)]) ty (.agg #[c0_0,c0_1,c1_0,c1_1,c2_0,c2_1,c3_0,c3_1]):=pA (vs:=#[(0,ev l x0),(1,ev l x1),(2,ev l x2),(3,ev l x3)]) (by simp) fun w=>Rv h0 h1 h2 h3 w
theorem abB(w:aj):((#[{ name := "surface", type:=88,offset:=0,embedded:=true,tag := "", pkgPath := "lithophane/collapse", byteOffset:=0 },{ name := "u", type:=30,offset:=1,embedded:=false,tag := "", pkgPath := "lithophane/collapse", byteOffset:=8 },{ name := "v", type:=30,offset:=4,embedded:=false,tag := "", pkgPath := "lithophane/collapse", byteOffset:=32 },{ name := "x", type:=107,offset:=7,embedded:=false,tag := "", pkgPath := "lithophane/collapse", byteOffset:=56 },{ name := "y", type:=107,offset:=8,embedded:=false,tag := "", pkgPath := "lithophane/collapse", byteOffset:=64 },{ name := "moved", type:=27,offset:=9,embedded:=false,tag := "", pkgPath := "lithophane/collapse", byteOffset:=72 },{ name := "old", type:=27,offset:=10,embedded:=false,tag := "", pkgPath := "lithophane/collapse", byteOffset:=96 },{ name := "rest", type:=27,offset:=11,embedded:=false,tag := "", pkgPath := "lithophane/collapse", byteOffset:=120 }]:Array Field).mapM fun f=>do pure (f.offset,←sizeOf f.type):Sem (Array (Nat × Nat))).run prog w=.ok #[(0,1),(1,3),(4,3),(7,1),(8,1),(9,1),(10,1),(11,1)] w:=by
 simp[ik,eH Cd,eH fV,eH aA,eH Nq]
theorem Md{v0 v1 v2 v3 v4:ah}{c0_0:ah}(h0:v0.cells = #[c0_0]){c1_0 c1_1 c1_2:ah}(h1:v1.cells = #[c1_0,c1_1,c1_2]){c2_0 c2_1 c2_2:ah}(h2:v2.cells = #[c2_0,c2_1,c2_2]){c3_0:ah}(h3:v3.cells = #[c3_0]){c4_0:ah}(h4:v4.cells = #[c4_0])(w:aj):(Instr.build 218 #[(0,v0),(1,v1),(2,v2),(3,v3),(4,v4)]).run prog w=.ok (.agg #[c0_0,c1_0,c1_1,c1_2,c2_0,c2_1,c2_2,c3_0,c4_0,(.slice none 0 0),(.slice none 0 0),(.slice none 0 0)]) w:=jN nF agq abB (by simp[Instr.fill,lT,h0,h1,h2,h3,h4]) w
theorem yS{l:List ah}{ty:an}{x0 x1 x2 x3 x4:bg}{c0_0:ah}(h0:(ev l x0).cells = #[c0_0]){c1_0 c1_1 c1_2:ah}(h1:(ev l x1).cells = #[c1_0,c1_1,c1_2]){c2_0 c2_1 c2_2:ah}(h2:(ev l x2).cells = #[c2_0,c2_1,c2_2]){c3_0:ah}(h3:(ev l x3).cells = #[c3_0]){c4_0:ah}(h4:(ev l x4).cells = #[c4_0]):iG prog l (.build 218 #[(0,x0),(1,x1),(2,x2),(3,x3),(4,x4)]) ty (.agg #[c0_0,c1_0,c1_1,c1_2,c2_0,c2_1,c2_2,c3_0,c4_0,(.slice none 0 0),(.slice none 0 0),(.slice none 0 0)]):=pA (vs:=#[(0,ev l x0),(1,ev l x1),(2,ev l x2),(3,ev l x3),(4,ev l x4)]) (by simp) fun w=>Md h0 h1 h2 h3 h4 w
theorem Zd{v0 v1 v2:ah}{c0_0:ah}(h0:v0.cells = #[c0_0]){c1_0:ah}(h1:v1.cells = #[c1_0]){c2_0:ah}(h2:v2.cells = #[c2_0])(w:aj):(Instr.build 243 #[(0,v0),(1,v1),(2,v2)]).run prog w=.ok (.agg #[c0_0,c1_0,c2_0]) w:=kC underlying243 Za Cf (by simp[Instr.fill,lT,h0,h1,h2]) w
theorem Gd{l:List ah}{ty:an}{x0 x1 x2:bg}{c0_0:ah}(h0:(ev l x0).cells = #[c0_0]){c1_0:ah}(h1:(ev l x1).cells = #[c1_0]){c2_0:ah}(h2:(ev l x2).cells = #[c2_0]):iG prog l (.build 243 #[(0,x0),(1,x1),(2,x2)]) ty (.agg #[c0_0,c1_0,c2_0]):=pA (vs:=#[(0,ev l x0),(1,ev l x1),(2,ev l x2)]) (by simp) fun w=>Zd h0 h1 h2 w
theorem Ze{v0 v1 v2:ah}{c0_0 c0_1:ah}(h0:v0.cells = #[c0_0,c0_1]){c1_0 c1_1:ah}(h1:v1.cells = #[c1_0,c1_1]){c2_0 c2_1:ah}(h2:v2.cells = #[c2_0,c2_1])(w:aj):(Instr.build 257 #[(0,v0),(1,v1),(2,v2)]).run prog w=.ok (.agg #[c0_0,c0_1,c1_0,c1_1,c2_0,c2_1]) w:=kC Iu Zb aP (by simp[Instr.fill,lT,h0,h1,h2]) w
theorem Ge{l:List ah}{ty:an}{x0 x1 x2:bg}{c0_0 c0_1:ah}(h0:(ev l x0).cells = #[c0_0,c0_1]){c1_0 c1_1:ah}(h1:(ev l x1).cells = #[c1_0,c1_1]){c2_0 c2_1:ah}(h2:(ev l x2).cells = #[c2_0,c2_1]):iG prog l (.build 257 #[(0,x0),(1,x1),(2,x2)]) ty (.agg #[c0_0,c0_1,c1_0,c1_1,c2_0,c2_1]):=pA (vs:=#[(0,ev l x0),(1,ev l x1),(2,ev l x2)]) (by simp) fun w=>Ze h0 h1 h2 w
theorem oC(d:Nat){x0 y0:Int}{x1 y1:Int}{x2 y2:Int}:sO prog (d+2) 30 (.agg #[.int .i64 x0,.int .i64 x1,.int .i64 x2]) (.agg #[.int .i64 y0,.int .i64 y1,.int .i64 y2]) (x0=y0∧x1=y1∧x2=y2):=(sO.struct fJ (by kernel_rfl) (wX.cons (by decide) (cW bE rfl) (cW bE rfl) (sO.int (d:=d+0) iW) (wX.cons (by decide) (cW bE rfl) (cW bE rfl) (sO.int (d:=d+0) iW) (wX.cons (by decide) (cW bE rfl) (cW bE rfl) (sO.int (d:=d+0) iW) wX.nil)))).iff (by simp only[and_assoc,and_true])
theorem bW{l:List ah}{ty T':an}{x y:bg}{x0 y0:Int}{x1 y1:Int}{x2 y2:Int}(hx:ev l x=(.agg #[.int .i64 x0,.int .i64 x1,.int .i64 x2]))(hy:ev l y=(.agg #[.int .i64 y0,.int .i64 y1,.int .i64 y2])):iG prog l (.binOp .eql 30 x y T') ty (.bool (decide (x0=y0∧x1=y1∧x2=y2))):=Nn (by kernel_rfl) hx hy (oC 9998)
theorem fA{l:List ah}{ty T':an}{x y:bg}{x0 y0:Int}{x1 y1:Int}{x2 y2:Int}(hx:ev l x=(.agg #[.int .i64 x0,.int .i64 x1,.int .i64 x2]))(hy:ev l y=(.agg #[.int .i64 y0,.int .i64 y1,.int .i64 y2])):iG prog l (.binOp .neq 30 x y T') ty (.bool (decide (¬(x0=y0∧x1=y1∧x2=y2)))):=abq (by kernel_rfl) hx hy (oC 9998)
theorem aoC(d:Nat){x0 y0:Int}{x1 y1:Int}{x2 y2:Int}:sO prog (d+2) 36 (.agg #[.int .i64 x0,.int .i64 x1,.int .i64 x2]) (.agg #[.int .i64 y0,.int .i64 y1,.int .i64 y2]) (x0=y0∧x1=y1∧x2=y2):=(sO.array tM aX (rB.cons (cW bE rfl) (cW bE rfl) (sO.int (d:=d+0) iW) (rB.cons (cW bE rfl) (cW bE rfl) (sO.int (d:=d+0) iW) (rB.cons (cW bE rfl) (cW bE rfl) (sO.int (d:=d+0) iW) rB.nil)))).iff (by simp only[and_assoc,and_true])
theorem Cg{l:List ah}{ty T':an}{x y:bg}{x0 y0:Int}{x1 y1:Int}{x2 y2:Int}(hx:ev l x=(.agg #[.int .i64 x0,.int .i64 x1,.int .i64 x2]))(hy:ev l y=(.agg #[.int .i64 y0,.int .i64 y1,.int .i64 y2])):iG prog l (.binOp .eql 36 x y T') ty (.bool (decide (x0=y0∧x1=y1∧x2=y2))):=Nn (by kernel_rfl) hx hy (aoC 9998)
theorem aoD(d:Nat){x0 y0:Int}{x1 y1:Int}{x2 y2:Int}{x3 y3:Int}{x4 y4:Int}{x5 y5:Int}{x6 y6:Int}{x7 y7:Int}{x8 y8:Int}:sO prog (d+3) 38 (.agg #[.int .i64 x0,.int .i64 x1,.int .i64 x2,.int .i64 x3,.int .i64 x4,.int .i64 x5,.int .i64 x6,.int .i64 x7,.int .i64 x8]) (.agg #[.int .i64 y0,.int .i64 y1,.int .i64 y2,.int .i64 y3,.int .i64 y4,.int .i64 y5,.int .i64 y6,.int .i64 y7,.int .i64 y8]) (x0=y0∧x1=y1∧x2=y2∧x3=y3∧x4=y4∧x5=y5∧x6=y6∧x7=y7∧x8=y8):=(sO.array underlying38 aA (rB.cons (cQ aG aA rfl) (cQ aG aA rfl) (oC (d+0)) (rB.cons (cQ aG aA rfl) (cQ aG aA rfl) (oC (d+0)) (rB.cons (cQ aG aA rfl) (cQ aG aA rfl) (oC (d+0)) rB.nil)))).iff (by simp only[and_assoc,and_true])
theorem agu(d:Nat){x0 y0:Int}{x1 y1:Int}{x2 y2:Int}{x3 y3:Int}{x4 y4:Int}{x5 y5:Int}{x6 y6:Int}{x7 y7:Int}{x8 y8:Int}:sO prog (d+3) 39 (.agg #[.int .i64 x0,.int .i64 x1,.int .i64 x2,.int .i64 x3,.int .i64 x4,.int .i64 x5,.int .i64 x6,.int .i64 x7,.int .i64 x8]) (.agg #[.int .i64 y0,.int .i64 y1,.int .i64 y2,.int .i64 y3,.int .i64 y4,.int .i64 y5,.int .i64 y6,.int .i64 y7,.int .i64 y8]) (x0=y0∧x1=y1∧x2=y2∧x3=y3∧x4=y4∧x5=y5∧x6=y6∧x7=y7∧x8=y8):=(sO.array cH aA (rB.cons (cQ aG aA rfl) (cQ aG aA rfl) (oC (d+0)) (rB.cons (cQ aG aA rfl) (cQ aG aA rfl) (oC (d+0)) (rB.cons (cQ aG aA rfl) (cQ aG aA rfl) (oC (d+0)) rB.nil)))).iff (by simp only[and_assoc,and_true])
theorem Tc{l:List ah}{ty T':an}{x y:bg}{x0 y0:Int}{x1 y1:Int}{x2 y2:Int}{x3 y3:Int}{x4 y4:Int}{x5 y5:Int}{x6 y6:Int}{x7 y7:Int}{x8 y8:Int}(hx:ev l x=(.agg #[.int .i64 x0,.int .i64 x1,.int .i64 x2,.int .i64 x3,.int .i64 x4,.int .i64 x5,.int .i64 x6,.int .i64 x7,.int .i64 x8]))(hy:ev l y=(.agg #[.int .i64 y0,.int .i64 y1,.int .i64 y2,.int .i64 y3,.int .i64 y4,.int .i64 y5,.int .i64 y6,.int .i64 y7,.int .i64 y8])):iG prog l (.binOp .eql 39 x y T') ty (.bool (decide (x0=y0∧x1=y1∧x2=y2∧x3=y3∧x4=y4∧x5=y5∧x6=y6∧x7=y7∧x8=y8))):=Nn (by kernel_rfl) hx hy (agu 9997)
theorem aet{l:List ah}{ty T':an}{x y:bg}{x0 y0:Int}{x1 y1:Int}{x2 y2:Int}{x3 y3:Int}{x4 y4:Int}{x5 y5:Int}{x6 y6:Int}{x7 y7:Int}{x8 y8:Int}(hx:ev l x=(.agg #[.int .i64 x0,.int .i64 x1,.int .i64 x2,.int .i64 x3,.int .i64 x4,.int .i64 x5,.int .i64 x6,.int .i64 x7,.int .i64 x8]))(hy:ev l y=(.agg #[.int .i64 y0,.int .i64 y1,.int .i64 y2,.int .i64 y3,.int .i64 y4,.int .i64 y5,.int .i64 y6,.int .i64 y7,.int .i64 y8])):iG prog l (.binOp .neq 39 x y T') ty (.bool (decide (¬(x0=y0∧x1=y1∧x2=y2∧x3=y3∧x4=y4∧x5=y5∧x6=y6∧x7=y7∧x8=y8)))):=abq (by kernel_rfl) hx hy (agu 9997)
theorem aoE(d:Nat){x0 y0:Int}{x1 y1:Int}{x2 y2:Int}{x3 y3:Int}{x4 y4:Int}{x5 y5:Int}:sO prog (d+3) 55 (.agg #[.int .i64 x0,.int .i64 x1,.int .i64 x2,.int .i64 x3,.int .i64 x4,.int .i64 x5]) (.agg #[.int .i64 y0,.int .i64 y1,.int .i64 y2,.int .i64 y3,.int .i64 y4,.int .i64 y5]) (x0=y0∧x1=y1∧x2=y2∧x3=y3∧x4=y4∧x5=y5):=(sO.struct underlying55 (by kernel_rfl) (wX.cons (by decide) (cQ aG aA rfl) (cQ aG aA rfl) (oC (d+0)) (wX.cons (by decide) (cQ aG aA rfl) (cQ aG aA rfl) (oC (d+0)) wX.nil))).iff (by simp only[and_assoc,and_true])
theorem aeu{l:List ah}{ty T':an}{x y:bg}{x0 y0:Int}{x1 y1:Int}{x2 y2:Int}{x3 y3:Int}{x4 y4:Int}{x5 y5:Int}(hx:ev l x=(.agg #[.int .i64 x0,.int .i64 x1,.int .i64 x2,.int .i64 x3,.int .i64 x4,.int .i64 x5]))(hy:ev l y=(.agg #[.int .i64 y0,.int .i64 y1,.int .i64 y2,.int .i64 y3,.int .i64 y4,.int .i64 y5])):iG prog l (.binOp .neq 55 x y T') ty (.bool (decide (¬(x0=y0∧x1=y1∧x2=y2∧x3=y3∧x4=y4∧x5=y5)))):=abq (by kernel_rfl) hx hy (aoE 9997)
theorem agv(d:Nat){x0 y0:Int}{x1 y1:Int}{x2 y2:Int}{x3 y3:Int}{x4 y4:Int}{x5 y5:Int}:sO prog (d+3) 56 (.agg #[.int .i64 x0,.int .i64 x1,.int .i64 x2,.int .i64 x3,.int .i64 x4,.int .i64 x5]) (.agg #[.int .i64 y0,.int .i64 y1,.int .i64 y2,.int .i64 y3,.int .i64 y4,.int .i64 y5]) (x0=y0∧x1=y1∧x2=y2∧x3=y3∧x4=y4∧x5=y5):=(sO.array Dp aA (rB.cons (cQ aG aA rfl) (cQ aG aA rfl) (oC (d+0)) (rB.cons (cQ aG aA rfl) (cQ aG aA rfl) (oC (d+0)) rB.nil))).iff (by simp only[and_assoc,and_true])
theorem aev{l:List ah}{ty T':an}{x y:bg}{x0 y0:Int}{x1 y1:Int}{x2 y2:Int}{x3 y3:Int}{x4 y4:Int}{x5 y5:Int}(hx:ev l x=(.agg #[.int .i64 x0,.int .i64 x1,.int .i64 x2,.int .i64 x3,.int .i64 x4,.int .i64 x5]))(hy:ev l y=(.agg #[.int .i64 y0,.int .i64 y1,.int .i64 y2,.int .i64 y3,.int .i64 y4,.int .i64 y5])):iG prog l (.binOp .eql 56 x y T') ty (.bool (decide (x0=y0∧x1=y1∧x2=y2∧x3=y3∧x4=y4∧x5=y5))):=Nn (by kernel_rfl) hx hy (agv 9997)
theorem Wa(d:Nat){x0 y0:Bool}{x1 y1:ByteArray}:sO prog (d+2) 95 (.agg #[.bool x0,.string x1]) (.agg #[.bool y0,.string y1]) (x0=y0∧x1=y1):=(sO.struct underlying95 (by kernel_rfl) (wX.cons (by decide) (cW Kx rfl) (cW Kx rfl) (sO.bool (d:=d+0) Yx) (wX.cons (by decide) (cW alN rfl) (cW alN rfl) (sO.str (d:=d+0) oT) wX.nil))).iff (by simp only[and_assoc,and_true])
theorem aj1(d:Nat){x0 y0:Int}{x1 y1:Int}{x2 y2:Int}{x3 y3:Int}{x4 y4:Int}{x5 y5:Int}:sO prog (d+3) 215 (.agg #[.int .i64 x0,.int .i64 x1,.int .i64 x2,.int .i64 x3,.int .i64 x4,.int .i64 x5]) (.agg #[.int .i64 y0,.int .i64 y1,.int .i64 y2,.int .i64 y3,.int .i64 y4,.int .i64 y5]) (x0=y0∧x1=y1∧x2=y2∧x3=y3∧x4=y4∧x5=y5):=(sO.struct tL (by kernel_rfl) (wX.cons (by decide) (cQ aG aA rfl) (cQ aG aA rfl) (oC (d+0)) (wX.cons (by decide) (cQ aG aA rfl) (cQ aG aA rfl) (oC (d+0)) wX.nil))).iff (by simp only[and_assoc,and_true])
theorem aj2(d:Nat){x0 y0:Bool}{x1 y1:ByteArray}{x2 y2:Bool}{x3 y3:ByteArray}{x4 y4:Bool}{x5 y5:ByteArray}{x6 y6:Bool}{x7 y7:ByteArray}:sO prog (d+3) 229 (.agg #[.bool x0,.string x1,.bool x2,.string x3,.bool x4,.string x5,.bool x6,.string x7]) (.agg #[.bool y0,.string y1,.bool y2,.string y3,.bool y4,.string y5,.bool y6,.string y7]) (x0=y0∧x1=y1∧x2=y2∧x3=y3∧x4=y4∧x5=y5∧x6=y6∧x7=y7):=(sO.array underlying229 aP (rB.cons (cQ cL aP rfl) (cQ cL aP rfl) (Wa (d+0)) (rB.cons (cQ cL aP rfl) (cQ cL aP rfl) (Wa (d+0)) (rB.cons (cQ cL aP rfl) (cQ cL aP rfl) (Wa (d+0)) (rB.cons (cQ cL aP rfl) (cQ cL aP rfl) (Wa (d+0)) rB.nil))))).iff (by simp only[and_assoc,and_true])
theorem abC{l:List ah}{ty T':an}{x y:bg}{x0 y0:Bool}{x1 y1:ByteArray}{x2 y2:Bool}{x3 y3:ByteArray}{x4 y4:Bool}{x5 y5:ByteArray}{x6 y6:Bool}{x7 y7:ByteArray}(hx:ev l x=(.agg #[.bool x0,.string x1,.bool x2,.string x3,.bool x4,.string x5,.bool x6,.string x7]))(hy:ev l y=(.agg #[.bool y0,.string y1,.bool y2,.string y3,.bool y4,.string y5,.bool y6,.string y7])):iG prog l (.binOp .eql 229 x y T') ty (.bool (decide (x0=y0∧x1=y1∧x2=y2∧x3=y3∧x4=y4∧x5=y5∧x6=y6∧x7=y7))):=Nn (by kernel_rfl) hx hy (aj2 9997)
end Go.Proofs.YtfekpcimgncioaaGreatDoor
namespace Go.Lith
/-! ### Digits -/
def val(B:Nat):List Nat→Nat
 | []=>0
 | x::xs=>x+B*val B xs
def trim:List Nat→List Nat
 | []=>[]
 | x::xs=>if trim xs=[]∧x=0 then [] else x::trim xs
def eE(B:Nat)(xs:List Nat):Prop:=∀x∈xs,x<B
theorem kO(B:Nat):∀xs ys:List Nat,val B (xs++ys)=val B xs+B^xs.length*val B ys
 | [],ys=>by simp[val]
 | x::xs,ys=>by simp only[ci,val,kO B xs ys,ay,ii];grind
theorem Ek{B:Nat}:∀{xs:List Nat},eE B xs→val B xs<B^xs.length
 | [],_=>by simp[val]
 | x::xs,h=>by
  have h1:x<B:=h x (by simp);have h2:=Ek (xs:=xs) fun y hy=>h y (by simp[hy]);simp only[val,ay,ii];have h3:val B xs+1≤B^xs.length:=h2;have:=jp B h3
  grind
theorem Gf(B:Nat):∀xs:List Nat,val B (trim xs)=val B xs
 | []=>rfl
 | x::xs=>by
  have ih:=Gf B xs;simp only[trim];split
  · rename_i h;rw[h.1] at ih;simp only[val] at ih ⊢;rw[←ih,h.2];simp
  · simp only[val,ih]
theorem kH:∀xs:List Nat,trim xs=xs.take (trim xs).length
 | []=>rfl
 | x::xs=>by
  simp only[trim];split
  · rfl
  · simp only[ay,List.take_succ_cons];rw[←kH xs]
theorem eE.take{B:Nat}{xs:List Nat}(h:eE B xs)(n:Nat):eE B (xs.take n):=fun x hx=>h x (List.mem_of_mem_take hx)
theorem eE.trim{B:Nat}{xs:List Nat}(h:eE B xs):eE B (trim xs):=by rw[kH];exact h.take _
theorem eE.append{B:Nat}{xs ys:List Nat}(h:eE B xs)(k:eE B ys):eE B (xs++ys):=fun x hx=>by
 rcases List.mem_append.1 hx with h' | h'
 · exact h x h'
 · exact k x h'
theorem mL(B:Nat):eE B []:=fun _ h=>by cases h
theorem vX{B x:Nat}{xs:List Nat}(hx:x<B)(h:eE B xs):eE B (x::xs):=fun y hy=>by
 rcases ao.1 hy with rfl | h'
 · exact hx
 · exact h y h'
theorem eE.set{B:Nat}{xs:List Nat}(h:eE B xs){i x:Nat}(hx:x<B):eE B (xs.set i x):=fun y hy=>by
 rcases List.mem_or_eq_of_mem_set hy with h' | rfl
 · exact h y h'
 · exact hx
theorem eE.get{B:Nat}{xs:List Nat}(h:eE B xs){i x:Nat}(hi:xs[i]? = some x):x<B:=h x (List.mem_of_getElem? hi)
def iE(xs:List Nat):Prop:=trim xs=xs
theorem Td:∀xs:List Nat,trim (trim xs)=trim xs
 | []=>rfl
 | x::xs=>by
  have ih:=Td xs;simp only[trim];split
  · rfl
  · rename_i h;simp only[trim,ih];rw[if_neg h]
theorem Gg(xs:List Nat):iE (trim xs):=Td xs
theorem iE.tail{x:Nat}{xs:List Nat}(h:iE (x::xs)):iE xs:=by
 unfold iE at *
 simp only[trim] at h;split at h
 · cases h
 · simpa using h
theorem Gh{B:Nat}(hB:0<B):∀{xs:List Nat},iE xs→xs≠[]→0<val B xs
 | [],_,h=>absurd rfl h
 | x::xs,ht,_=>by
  simp only[val];by_cases hx:xs=[]
  · subst hx
    have:x≠0:=by
     rintro rfl;simp[iE,trim] at ht
    omega
  · have:=Nat.mul_pos hB (Gh hB ht.tail hx)
    omega
theorem Aa{B:Nat}(hB:1<B):∀{xs ys:List Nat},eE B xs→eE B ys→iE xs→iE ys→val B xs=val B ys→xs=ys
 | [],[],_,_,_,_,_=>rfl
 | [],y::ys,_,_,_,hy,h=>by have:=Gh (B:=B) (by omega) hy (by simp);rw[←h] at this;simp[val] at this
 | x::xs,[],_,_,hx,_,h=>by have:=Gh (B:=B) (by omega) hx (by simp);rw[h] at this;simp[val] at this
 | x::xs,y::ys,hx,hy,tx,ty,h=>by
  simp only[val] at h;have h1:x<B:=hx x (by simp);have h2:y<B:=hy y (by simp);have e1:x=y:=by
   have:=congrArg (· % B) h;simpa[Nat.add_mul_mod_self_left,jt h1,jt h2] using this
  subst e1;have e2:val B xs=val B ys:=by
   have:B*val B xs=B*val B ys:=by omega
   exact Nat.eq_of_mul_eq_mul_left (by omega) this
  rw[Aa hB (fun z hz=>hx z (by simp[hz])) (fun z hz=>hy z (by simp[hz])) tx.tail ty.tail e2]
def Te(B:Nat):Nat→Nat→List Nat
 | 0,_=>[]
 | f+1,n=>if n=0 then [] else (n%B)::Te B f (n / B)
def digs(B n:Nat):List Nat:=Te B n n
theorem xC{B:Nat}(hB:1<B):∀(f n:Nat),n≤f→val B (Te B f n)=n∧eE B (Te B f n)∧iE (Te B f n)
 | 0, n, h => by
  obtain rfl:n=0 := by omega
  exact⟨rfl,mL B,rfl⟩
 | f+1,n,h=>by
  simp only[Te];split
  · rename_i h0;exact⟨by simp[val,h0],mL B,rfl⟩
  · rename_i h0
    have hlt:n / B≤f:=by
     have:=Nat.div_lt_self (Nat.pos_of_ne_zero h0) hB;omega
    obtain⟨h1,h2,h3⟩:=xC hB f (n / B) hlt;refine⟨by simp only[val,h1];exact Nat.mod_add_div n B,vX (kd _ (by omega)) h2,?_⟩;unfold iE at *
    simp only[trim,h3];rw[if_neg];rintro⟨h4,h5⟩;rw[h4] at h1;simp only[val] at h1;have:=Nat.mod_add_div n B;rw[h5,←h1] at this;omega
theorem rC{B:Nat}(hB:1<B)(n:Nat):val B (digs B n)=n:=(xC hB n n (av _)).1
theorem tD{B:Nat}(hB:1<B)(n:Nat):eE B (digs B n):=(xC hB n n (av _)).2.1
theorem pE{B:Nat}(hB:1<B)(n:Nat):iE (digs B n):=(xC hB n n (av _)).2.2
theorem pF{B:Nat}(hB:1<B){xs:List Nat}(h:eE B xs){n:Nat}(hv:val B xs=n):trim xs=digs B n :=
 Aa hB h.trim (tD hB n) (Gg xs) (pE hB n) (by rw[Gf,rC hB,hv])
theorem uN{B n:Nat}(hB:1<B):digs B n=[]↔n=0:=by
 constructor
 · intro h;rw[←rC hB n,h];rfl
 · rintro rfl;rfl
theorem kR{B n k:Nat}(hB:1<B)(h:n<B^k):(digs B n).length≤k:=by
 rcases dl k (digs B n).length with hlt | hge
 · exfalso
   have hne:(digs B n)≠[]:=by intro h';rw[h'] at hlt;simp at hlt
   -- the greatest digit is not 0
   have key:∀xs:List Nat,iE xs→xs≠[]→B^(xs.length-1)≤val B xs:=by
    intro xs
    induction xs with
    | nil=>intro _ h;exact absurd rfl h
    | cons x xs ih =>
     intro ht _;by_cases hx:xs=[]
     · subst hx
       have:=Gh (B:=B) (by omega) ht (by simp);simp[val] at this ⊢;omega
     · have:=ih ht.tail hx
       have h2:xs.length≠0:=by simpa using hx
       simp only[ay,val,f_];have e:xs.length=(xs.length-1)+1:=by omega
       rw[e,ii];have:=jp B this
       grind
   have:=key _ (pE hB n) hne;rw[rC hB] at this;have h3:B^k≤B^((digs B n).length-1):=iy (by omega) (by omega);omega
 · exact hge
/-! ### Numbers as values -/
def fP(n:Int):Bool:=decide (n<0)
def mC(n:Nat):List UInt8:=(digs 256 n).reverse.map dj
def jX(n:Int):ByteArray:=⟨(mC n.natAbs).toArray⟩
def W(n:Int):ah:=.agg #[.bool (fP n),.string (jX n)]
def Bd(k:Nat)(n:Int):Prop:=n.natAbs<2^k
theorem Bd.mono{a b:Nat}{n:Int}(h:Bd a n)(hab:a≤b):Bd b n:=fm h (iy (by omega) hab)
theorem Bd.neg{a:Nat}{n:Int}(h:Bd a n):Bd a (-n):=by unfold Bd at *;rwa [Int.natAbs_neg]
theorem Bd.add{a b:Nat}{m n:Int}(h:Bd a m)(k:Bd b n):Bd (max a b+1) (m+n):=by
 unfold Bd at *
 have h1:(m+n).natAbs≤m.natAbs+n.natAbs:=Int.natAbs_add_le m n;have h2:2^a≤2^max a b:=iy (by omega) (Nat.le_max_left a b);have h3:2^b≤2^max a b:=iy (by omega) (Nat.le_max_right a b);rw[ii];omega
theorem Bd.sub{a b:Nat}{m n:Int}(h:Bd a m)(k:Bd b n):Bd (max a b+1) (m-n):=by rw[Int.sub_eq_add_neg];exact h.add k.neg
theorem Bd.mul{a b:Nat}{m n:Int}(h:Bd a m)(k:Bd b n):Bd (a+b) (m*n):=by
 unfold Bd at *
 rw[Int.natAbs_mul,nh];exact Nat.mul_lt_mul_of_lt_of_lt h k
theorem Bd.of_i64{n:Int}(h0 : -9223372036854775808≤n)(h1:n≤9223372036854775807):Bd 64 n:=by
 unfold Bd;omega
theorem Mm(k:Nat):Bd k 0:=by unfold Bd;exact Nat.two_pow_pos k
theorem Tf(n:Int):(jX n).size=(digs 256 n.natAbs).length:=by simp[jX,ByteArray.size,mC]
theorem Wb{k:Nat}{n:Int}(h:Bd k n):(jX n).size≤k:=by
 rw[Tf];refine kR (by omega) (fm h ?_);rw[show 256=2^8 from rfl,←ni];exact iy (by omega) (by omega)
theorem Zf{m n:Nat}(h:mC m=mC n):m=n:=by
 have key:∀k,val 256 (((mC k).map im).reverse)=k:=by
  intro k;have e:((mC k).map im).reverse=digs 256 k:=by
   unfold mC;rw[List.map_map,←List.map_reverse,List.reverse_reverse];have:∀x∈digs 256 k,(im∘dj) x=x:=by
    intro x hx;have:=tD (B:=256) (by omega) k x hx;simp;omega
   exact (il this).trans (List.map_id' _)
  rw[e,rC (by omega)]
 rw[←key m,←key n,h]
theorem arH{m n:Int}(h:W m=W n):m=n:=by
 simp only[W,Value.agg.injEq,Array.mk.injEq,lf,Value.bool.injEq,Value.string.injEq,and_true] at h;obtain⟨h1,h2⟩:=h;have h3:m.natAbs=n.natAbs:=by
  have:mC m.natAbs=mC n.natAbs:=by simpa[jX] using h2
  exact Zf this
 unfold fP at h1;have:(m<0)↔(n<0):=by simpa using h1
 omega
structure kS(w:aj)(A:Option Addr)(n cap:Nat)(xs:List Nat):Prop where
 eq:n=xs.length
 row:∀(i x:Nat),xs[i]? = some x→∃a,A=some a∧w.cell? (a.add i)=some (.int .u64 (x:Int))
 le:xs.length≤cap
 cap:cap≤9223372036854775807
 len:xs.length≤17592186044416
 digs:eE 4294967296 xs
section
variable {w:aj} {A:Option Addr} {n cap:Nat} {xs:List Nat}
theorem kS.ext{w':aj}(h:kS w A n cap xs)(hE:fN w w'):kS w' A n cap xs :=
 ⟨h.eq,fun i x hi=>let ⟨a,e,hc⟩:=h.row i x hi;⟨a,e,hE.cell hc⟩,h.le,h.cap,h.len,h.digs⟩
theorem kS.take(h:kS w A n cap xs)(k:Nat):kS w A (xs.take k).length cap (xs.take k) :=
 ⟨rfl,fun i x hi=>h.row i x (by rw[eh] at hi;split at hi;exact hi;cases hi),az (by simp;omega) h.le,h.cap,az (by simp;omega) h.len,h.digs.take k⟩
theorem kS.get(h:kS w A n cap xs){i:Nat}(hi:i<xs.length):∃a,A=some a∧w.cell? (a.add i)=some (.int .u64 ((xs[i]:Nat):Int))∧xs[i]<4294967296 :=
 let ⟨a,e,hc⟩:=h.row i xs[i] (am hi);⟨a,e,hc,h.digs _ (fh hi)⟩
theorem kS.as(h:kS w A n cap xs){ys:List Nat}(e:xs=ys):kS w A n cap ys:=e▸h
end
theorem pG:∀ys:List Nat,trim (ys++[0])=trim ys
 | []=>by simp[trim]
 | y::ys=>by simp only[ci,trim,pG ys]
theorem vG{x:Nat}(hx:x≠0):∀ys:List Nat,trim (ys++[x])=ys++[x]
 | []=>by simp[trim,hx]
 | y::ys=>by simp only[ci,trim,vG hx ys];rw[if_neg (by simp)]
theorem Jb{xs:List Nat}{k:Nat}(hk:0<k)(h:k-1<xs.length):xs.take k=xs.take (k-1)++[xs[k-1]]:=by
 have e:k=(k-1)+1:=by omega
 conv=>lhs;rw[e]
 rw[List.take_succ_eq_append_getElem h]
theorem Tg{xs:List Nat}{k:Nat}(hk:0<k)(h:k-1<xs.length)(h0:((xs[k-1]:Nat):Int)=0)(ht:trim (xs.take k)=trim xs):trim (xs.take (k-1))=trim xs:=by
 rw[←ht,Jb hk h,show xs[k-1]=0 by omega,pG]
theorem Zg{xs:List Nat}{k:Nat}(hk:0<k)(h:k-1<xs.length)(h0:¬((xs[k-1]:Nat):Int)=0)(ht:trim (xs.take k)=trim xs):k=(trim xs).length:=by
 rw[←ht,Jb hk h,vG (by omega)];simp;omega
theorem Zh{xs:List Nat}(ht:trim (xs.take 0)=trim xs):0=(trim xs).length:=by rw[←ht];rfl
/-! ### Words in a block -/
abbrev Jc(x:Nat):ah:=.int .u64 (x:Int)
theorem mM{os:List Nat}{i d:Nat}(hi:i<os.length):cA (os.map Jc) i [Jc d]=(os.set i d).map Jc:=by
 unfold cA;rw[List.set_eq_take_append_cons_drop,if_pos hi];simp[List.map_take,List.map_drop]
theorem nN(n:Nat):c_ n (Value.int .u64 0)=(c_ n 0).map Jc:=by simp[Jc]
theorem fK.word{w:aj}{g:Nat}{os:List Nat}{t:an}(h:fK w g (os.map Jc) t){i:Nat}(hi:i<os.length):w.cell? ⟨g,i,none⟩=some (.int .u64 ((os[i]:Nat):Int)) :=
 h.cell (by simp[hi])
theorem fK.nat{w:aj}{g:Nat}{os:List Nat}{t:an}(h:fK w g (os.map Jc) t)(hd:eE 4294967296 os){n:Nat}(hn:n=os.length)(hl:n≤17592186044416):kS w (some ⟨g,0,none⟩) n n os :=
 ⟨hn,fun i x hi=>⟨_,rfl,by rw[gZ,ar];exact h.cell (by simp[hi])⟩,by omega,by omega,by omega,hd⟩
def qK(n:Nat)(v:ah)(w:aj):Prop:=∃A cap,v=.slice A (digs 4294967296 n).length cap∧kS w A (digs 4294967296 n).length cap (digs 4294967296 n)
theorem qK.of_trim{w:aj}{A:Option Addr}{xs:List Nat}{k cap n:Nat}(h:kS w A k cap xs)(hv:val 4294967296 xs=n):qK n (.slice A (trim xs).length cap) w:=by
 have e:trim xs=digs 4294967296 n:=pF (by omega) h.digs hv;refine⟨A,cap,by rw[e],?_⟩;have h':=h.take (trim xs).length;rw[←kH,e] at h';exact h'
def vY(w:aj)(v:ah):Prop:=∀a n c,v=.slice (some a) n c→w.heap.size≤a.block
theorem vY.of_blk{w:aj}{g off n c:Nat}(h:w.heap.size≤g):vY w (.slice (some ⟨g,off,none⟩) n c):=fun a n' c' e=>by cases e;exact h
theorem Ch(a:Addr)(i:Nat):(a.add i).block=a.block:=by unfold Addr.add;split <;> rfl
/-! ### Sums of digits -/
theorem uO{B:Nat}:∀{os:List Nat} {j d:Nat} (hj:j<os.length),val B (os.set j d)+B^j*os[j]=val B os+B^j*d
 | x::xs,0,d,_=>by simp[val];omega
 | x::xs,j+1,d,h=>by
  have ih:=uO (B:=B) (os:=xs) (j:=j) (d:=d) (by simpa using h);simp only[List.set_cons_succ,val,List.getElem_cons_succ,ii];have:=congrArg (B * ·) ih;simp only[nj] at this
  grind
theorem lU(B n:Nat):val B (c_ n 0)=0:=by
 induction n with
 | zero=>rfl
 | succ n ih=>simp[List.replicate_succ,val,ih]
theorem dV{B:Nat}{xs:List Nat}{i:Nat}(hi:i<xs.length):val B (xs.take (i+1))=val B (xs.take i)+B^i*xs[i]:=by
 rw[List.take_succ_eq_append_getElem hi,kO,cj,iu (by omega)];simp[val]
theorem oN{B:Nat}{xs:List Nat}{i:Nat}(hi:xs.length≤i):val B (xs.take i)=val B xs:=by rw[a_ hi]
theorem qS{os:List Nat}{i d:Nat}:(os.set i d).drop (i+1)=os.drop (i+1):=by
 apply fq;intro j;simp only[d_];rw[lo (by omega)]
theorem nO{os:List Nat}{i n:Nat}(h:os.drop i=c_ n 0)(hi:i<os.length):os[i]=0∧os.drop (i+1)=c_ (n-1) 0:=by
 rw[ee hi] at h;cases n with
 | zero=>cases h
 | succ n=>simp only[List.replicate_succ,lf] at h;exact⟨h.1,by simpa using h.2⟩
theorem Zi{B:Nat}{os:List Nat}{i d c c' s t T:Nat}(hi:i<os.length)(hs:os[i]+s+c=d+B*c')(hT:val B os+B^i*c=T)(ht:T+B^i*s=t) :
 val B (os.set i d)+B^(i+1)*c'=t:=by
 have h1:=uO (B:=B) (d:=d) hi;have h2:=congrArg (B^i * ·) hs;simp only[nj] at h2;rw[ii]
 grind
/-! ### Order -/
def Zj(a b:Nat):Int:=if a<b then -1 else if b<a then 1 else 0
theorem Dr{B:Nat}(hB:1<B){xs ys:List Nat}{k:Nat}(hx:eE B xs)(hlx:k<xs.length)(hly:k<ys.length)(hd:xs.drop (k+1)=ys.drop (k+1))(h:xs[k]<ys[k]):val B xs<val B ys:=by
 have e1:val B xs=val B (xs.take (k+1))+B^(k+1)*val B (xs.drop (k+1)):=by
  conv=>lhs;rw[←li (k+1) xs]
  rw[kO,cj,iu (by omega)]
 have e2:val B ys=val B (ys.take (k+1))+B^(k+1)*val B (ys.drop (k+1)):=by
  conv=>lhs;rw[←li (k+1) ys]
  rw[kO,cj,iu (by omega)]
 rw[e1,e2,hd,dV hlx,dV hly];have h1:=Ek (hx.take k);rw[cj,iu (by omega)] at h1;have h2:B^k*(xs[k]+1)≤B^k*ys[k]:=jp _ h;rw[nj] at h2;omega
theorem mX{B:Nat}(hB:1<B){xs ys:List Nat}(hx:eE B xs)(hy:eE B ys)(ty:iE ys)(h:xs.length<ys.length):val B xs<val B ys:=by
 rcases dl (val B xs) (val B ys) with hlt | hge
 · exact hlt
 · exfalso
   have e:ys=digs B (val B ys):=Aa hB hy (tD hB _) ty (pE hB _) (by rw[rC hB]);have h1:val B ys<B^xs.length:=mg hge (Ek hx);have h2:=kR hB h1;rw[←e] at h2;omega
/-! ### The machine's numbers -/
theorem lV(x:Int):IntKind.u64.wrap x=x%18446744073709551616:=by simp[mo,mr,ln]
theorem rD{s:Int}(h0:0≤s)(h1:s<18446744073709551616):IntKind.u64.wrap ((eo IntKind.u64.bits s &&& eo IntKind.u64.bits 4294967295).toNat:Int)=s%4294967296:=by
 obtain⟨n,rfl⟩:=Int.eq_ofNat_of_zero_le h0;have hn:n<18446744073709551616:=by omega
 have e:(eo 64 (n:Int) &&& eo 64 4294967295).toNat=n%4294967296:=by
  rw[BitVec.toNat_and];have e1:(eo 64 (n:Int)).toNat=n:=by simp[nw];omega
  have e2:(eo 64 4294967295).toNat=2^32-1:=by decide
  rw[e1,e2,Nat.and_two_pow_sub_one_eq_mod]
 show IntKind.u64.wrap ((eo 64 (n:Int) &&& eo 64 4294967295).toNat:Int)=_
 rw[e,vU (by omega) (by omega)];omega
theorem Th{s:Int}(h0:0≤s):s.fdiv (2^(min (32:Int).toNat IntKind.u64.bits))=s / 4294967296:=by
 show s.fdiv (2^32)=_
 rw[ia _ (by decide)];rfl
theorem alO{s:Int}(h0:0≤s):s.fdiv (2^(min (63:Int).toNat IntKind.u64.bits))=s / 9223372036854775808:=by
 show s.fdiv (2^63)=_
 rw[ia _ (by decide)];rfl
/-! ### Addresses of words -/
theorem jQ{a:Addr}{m:Int}{q:Nat}(h:m.toNat=q):a.add (m.toNat*1)=a.add q:=by rw[h,o_]
theorem bZ{a:Addr}{m:Int}{c q:Nat}(h:m.toNat=q):a.add (m.toNat*c)=a.add (q*c):=by rw[h]
theorem nH{g:Nat}{m:Int}{q:Nat}(h:m.toNat=q):(⟨g,0,none⟩:Addr).add (m.toNat*1)=⟨g,q,none⟩:=by rw[h,o_,gZ,ar]
theorem mN{g:Nat}{m:Int}{c q:Nat}(h:m.toNat=q):(⟨g,0,none⟩:Addr).add (m.toNat*c)=⟨g,q*c,none⟩:=by rw[h,gZ,ar]
theorem kS.at{w:aj}{a:Addr}{xs:List Nat}{n cap:Nat}(h:kS w (some a) n cap xs){i:Nat}(hi:i<xs.length):w.cell? (a.add i)=some (.int .u64 ((xs[i]:Nat):Int)):=by
 obtain⟨a',e,hc⟩:=h.row i xs[i] (am hi);cases e;exact hc
/-! ### Rounds -/
theorem agw{xs ys:List Nat}{k:Nat}(hx:eE 4294967296 xs)(hk:0<k)(hlx:k-1<xs.length)(hly:k-1<ys.length)(hd:xs.drop k=ys.drop k)(h:((xs[k-1]:Nat):Int)<((ys[k-1]:Nat):Int)):val 4294967296 xs<val 4294967296 ys :=
 Dr (by omega) hx hlx hly (by rw[show k-1+1=k by omega];exact hd) (by omega)
theorem aew{xs ys:List Nat}{k:Nat}(hk:0<k)(hlx:k-1<xs.length)(hly:k-1<ys.length)(hd:xs.drop k=ys.drop k)(h1:¬((xs[k-1]:Nat):Int)<((ys[k-1]:Nat):Int))(h2:¬((ys[k-1]:Nat):Int)<((xs[k-1]:Nat):Int)):xs.drop (k-1)=ys.drop (k-1):=by
 rw[ee hlx,ee hly,show k-1+1=k by omega,hd,show xs[k-1]=ys[k-1] by omega]
theorem Ci{os xs ys:List Nat}{i c s:Nat}(hi:i<xs.length)(hlo:os.length=xs.length+1)(hv:val 4294967296 os+4294967296^i*c=val 4294967296 (xs.take i)+val 4294967296 (ys.take i))(hz:os.drop i=c_ (xs.length+1-i) 0)(hd:eE 4294967296 os)(hc:c≤1)
 (hs:s=xs[i]+c+ys[i]?.getD 0) (hx:xs[i]<4294967296) (hy:ys[i]?.getD 0<4294967296) :
 val 4294967296 (os.set i (s%4294967296))+4294967296^(i+1)*(s / 4294967296)=val 4294967296 (xs.take (i+1))+val 4294967296 (ys.take (i+1))∧(os.set i (s%4294967296)).drop (i+1)=c_ (xs.length+1-(i+1)) 0∧eE 4294967296 (os.set i (s%4294967296))∧s / 4294967296≤1:=by
 obtain⟨z1,z2⟩:=nO hz (by omega);refine⟨?_,?_,hd.set (kd _ (by omega)),by omega⟩
 · refine Zi (s:=xs[i]+ys[i]?.getD 0) (by omega) (by rw[z1];omega) hv ?_
   rw[dV hi];by_cases hy':i<ys.length
   · rw[dV hy',am hy']
     simp only[cu,nj];omega
   · rw[bv (by omega),oN (xs:=ys) (i:=i+1) (by omega),oN (xs:=ys) (i:=i) (by omega)]
     simp;omega
 · rw[qS,z2]
   congr 1
theorem Mn{os xs ys:List Nat}{c:Nat}(hle:ys.length≤xs.length)(hlo:os.length=xs.length+1)(hv:val 4294967296 os+4294967296^xs.length*c=val 4294967296 (xs.take xs.length)+val 4294967296 (ys.take xs.length))(hz:os.drop xs.length=c_ (xs.length+1-xs.length) 0) :
 val 4294967296 (os.set xs.length c)=val 4294967296 xs+val 4294967296 ys:=by
 obtain⟨z1,_⟩:=nO hz (by omega);have h:=uO (B:=4294967296) (d:=c) (show xs.length<os.length by omega);rw[z1] at h;rw[ew,oN hle] at hv;omega
theorem Ti{os xs ys:List Nat}{i c s:Nat}(hi:i<xs.length)(hlo:os.length=xs.length)(hv:val 4294967296 os+val 4294967296 (ys.take i)=val 4294967296 (xs.take i)+4294967296^i*c)(hz:os.drop i=c_ (xs.length-i) 0)(hd:eE 4294967296 os)(hc:c≤1)
 (hs:(s:Int)=((xs[i]:Nat)-(c:Nat)-(ys[i]?.getD 0:Nat):Int)%18446744073709551616) (hx:xs[i]<4294967296) (hy:ys[i]?.getD 0<4294967296) :
 val 4294967296 (os.set i (s%4294967296))+val 4294967296 (ys.take (i+1))=val 4294967296 (xs.take (i+1))+4294967296^(i+1)*(s / 9223372036854775808)∧(os.set i (s%4294967296)).drop (i+1)=c_ (xs.length-(i+1)) 0∧eE 4294967296 (os.set i (s%4294967296))∧s / 9223372036854775808≤1:=by
 obtain⟨z1,z2⟩:=nO hz (by omega);have key:xs[i]+4294967296*(s / 9223372036854775808)=s%4294967296+c+ys[i]?.getD 0:=by omega
 refine⟨?_,?_,hd.set (kd _ (by omega)),by omega⟩
 · have h1:=uO (B:=4294967296) (d:=s%4294967296) (show i<os.length by omega)
   rw[z1] at h1;have h2:=congrArg (4294967296^i * ·) key;simp only[nj] at h2;rw[dV hi,ii];have h3:val 4294967296 (ys.take (i+1))=val 4294967296 (ys.take i)+4294967296^i*ys[i]?.getD 0:=by
    by_cases hy':i<ys.length
    · rw[dV hy',am hy'];rfl
    · rw[bv (by omega),oN (xs:=ys) (i:=i+1) (by omega),oN (xs:=ys) (i:=i) (by omega)];rfl
   rw[h3]
   grind
 · rw[qS,z2]
   congr 1
theorem aj3{os xs ys:List Nat}{c:Nat}(hle:ys.length≤xs.length)(hlo:os.length=xs.length)(hd:eE 4294967296 os)(hv:val 4294967296 os+val 4294967296 (ys.take xs.length)=val 4294967296 (xs.take xs.length)+4294967296^xs.length*c)(hge:val 4294967296 ys≤val 4294967296 xs) :
 val 4294967296 os=val 4294967296 xs-val 4294967296 ys:=by
 rw[ew,oN hle] at hv;have h:=Ek hd;rw[hlo] at h;have hc:c=0:=by
  rcases ib c with h0 | h0
  · exact h0
  · have:=jp (4294967296^xs.length) h0
    omega
 subst hc;omega
theorem aex{os xs ys:List Nat}{i k c s:Nat}(hi:i<xs.length)(hk:k<ys.length)(hlo:os.length=xs.length+ys.length)(hv:val 4294967296 os+4294967296^(i+k)*c=val 4294967296 (xs.take i)*val 4294967296 ys+4294967296^i*(xs[i]*val 4294967296 (ys.take k)))
 (hs:s=os[i+k]+xs[i]*ys[k]+c):val 4294967296 (os.set (i+k) (s%4294967296))+4294967296^(i+(k+1))*(s / 4294967296)=val 4294967296 (xs.take i)*val 4294967296 ys+4294967296^i*(xs[i]*val 4294967296 (ys.take (k+1))):=by
 refine Zi (s:=xs[i]*ys[k]) (i:=i+k) (by omega) (by omega) hv ?_;rw[dV hk,nh]
 grind
theorem Ky{os:List Nat}{i j d:Nat}(h:i<j):(os.set i d).drop j=os.drop j:=by
 apply fq;intro m;simp only[d_];rw[lo (by omega)]
theorem aj4{os xs ys:List Nat}{i c:Nat}(hi:i<xs.length)(hlo:os.length=xs.length+ys.length)(hv:val 4294967296 os+4294967296^(i+ys.length)*c=val 4294967296 (xs.take i)*val 4294967296 ys+4294967296^i*(xs[i]*val 4294967296 (ys.take ys.length)))(hz:os.drop (i+ys.length)=c_ (xs.length-i) 0) :
 val 4294967296 (os.set (i+ys.length) c)=val 4294967296 (xs.take (i+1))*val 4294967296 ys∧(os.set (i+ys.length) c).drop (i+1+ys.length)=c_ (xs.length-(i+1)) 0:=by
 obtain⟨z1,z2⟩:=nO hz (by omega);have h:=uO (B:=4294967296) (d:=c) (show i+ys.length<os.length by omega);rw[z1] at h;rw[ew] at hv;refine⟨?_,?_⟩
 · rw[dV hi]
   grind
 · rw[show i+1+ys.length=i+ys.length+1 by omega,qS,z2]
   congr 1
theorem aoF{x y:Nat}(hx:x<4294967296)(hy:y<4294967296):x*y≤18446744065119617025:=by
 have:=Nat.mul_le_mul (lp hx) (lp hy);omega
theorem aj5{x y:Nat}(hx:x<4294967296)(hy:y<4294967296):(0:Int)≤(x:Int)*(y:Int)∧(x:Int)*(y:Int)≤18446744065119617025:=by
 have h:=aoF hx hy;have e:((x*y:Nat):Int)=(x:Int)*(y:Int):=lg x y;rw[←e];omega
/-! ### Shifts,divisions by a word -/
theorem aj6{m n:Nat}(hn:n<64)(h:m*2^n<18446744073709551616):IntKind.u64.wrap ((m:Int)*2^(min (n:Int).toNat IntKind.u64.bits))=((m*2^n:Nat):Int):=by
 have e:min (n:Int).toNat IntKind.u64.bits=n:=by
  show min (n:Int).toNat 64=n
  rw[Int.toNat_natCast];omega
 rw[e];have e2:((m:Int)*2^n)=((m*2^n:Nat):Int):=by simp
 rw[e2];exact vU (by omega) (by omega)
theorem aoG{a b s c:Nat}(ha:a<2^s)(hb:b=2^s*c)(h:a+b<18446744073709551616):IntKind.u64.wrap ((eo IntKind.u64.bits (a:Int) ||| eo IntKind.u64.bits (b:Int)).toNat:Int)=((a+b:Nat):Int):=by
 have e:(eo 64 (a:Int) ||| eo 64 (b:Int)).toNat=a+b:=by
  rw[BitVec.toNat_or];have e1:(eo 64 (a:Int)).toNat=a:=by simp[nw];omega
  have e2:(eo 64 (b:Int)).toNat=b:=by simp[nw];omega
  rw[e1,e2,Nat.or_comm,hb,←Nat.two_pow_add_eq_or_of_lt ha];omega
 show IntKind.u64.wrap ((eo 64 (a:Int) ||| eo 64 (b:Int)).toNat:Int)=_
 rw[e];exact vU (by omega) (by omega)
theorem aj7{a b s c:Nat}(ha:a<2^s)(hb:b=2^s*c)(h:a+b<18446744073709551616):IntKind.u64.wrap ((eo IntKind.u64.bits (b:Int) ||| eo IntKind.u64.bits (a:Int)).toNat:Int)=((a+b:Nat):Int):=by
 have:=aoG ha hb h;rwa [BitVec.or_comm] at this
theorem adk{s:Nat}(h:s<18446744073709551616):IntKind.u64.wrap ((eo IntKind.u64.bits (s:Int) &&& eo IntKind.u64.bits 4294967295).toNat:Int)=((s%4294967296:Nat):Int):=by
 rw[rD (by omega) (by omega)];omega
theorem adl{m n:Nat}(h:m<18446744073709551616):IntKind.u64.wrap ((m:Int).tdiv (n:Int))=((m / n:Nat):Int):=by
 rw[←Int.ofNat_tdiv];have:m / n≤m:=Nat.div_le_self m n;generalize m / n=q at *
 exact vU (by omega) (by omega)
theorem pH{m n:Nat}:(m:Int).tmod (n:Int)=((m%n:Nat):Int):=(Int.ofNat_tmod m n).symm
theorem Rw{B:Nat}{xs:List Nat}{k:Nat}(hk:0<k)(h:k-1<xs.length):val B (xs.drop (k-1))=xs[k-1]+B*val B (xs.drop k):=by
 rw[ee h,show k-1+1=k by omega];rfl
theorem abD{m:Nat}:(m:Int).fdiv (2^(min (32:Int).toNat IntKind.u64.bits))=((m / 4294967296:Nat):Int):=by
 rw[Th (by omega)];omega
/-! ### Slices of words -/
theorem aoH{a b:Nat}:decide (Zj a b<0)=decide (a<b):=by
 unfold Zj;split
 · simp[*]
 · split <;> simp[*]
theorem iK(n:Nat):val 4294967296 (digs 4294967296 n)=n:=rC (by omega) n
theorem Ab(n:Nat):iE (digs 4294967296 n):=pE (by omega) n
theorem Zk(n:Nat):eE 4294967296 (digs 4294967296 n):=tD (by omega) n
theorem tN(xs:List Nat):(trim xs).length≤xs.length:=by rw[kH];simp;omega
theorem Nr{a b:Nat}:Zj a b<0↔a<b:=by
 have:=@aoH a b;simpa using this
theorem Zl{xs:List Nat}(t:iE xs)(h:0<xs.length):0<xs[xs.length-1]:=by
 rcases ib (xs[xs.length-1]) with h0 | h0
 · exfalso
   have e:=Jb (xs:=xs) (k:=xs.length) h (by omega);rw[ew,h0] at e;have t2:trim xs=trim (xs.take (xs.length-1)):=by conv=>lhs;rw[e,pG]
   have t3:(trim xs).length=xs.length:=by rw[t]
   have t4:=tN (xs.take (xs.length-1));rw[←t2,t3] at t4;simp at t4;omega
 · exact h0
theorem Wc{r:Nat}(h:r≤4):(4294967296:Nat)=256^r*256^(4-r):=by rw[←nh,show r+(4-r)=4 by omega]
theorem Ns(r:Nat):(256:Nat)^r=2^(8*r):=by rw[show 256=2^8 from rfl,←ni]
theorem agx{x b r:Nat}(hr:r<4)(hx:x<4294967296)(hd:256^(r+1)∣x)(hb:b<256):x+b*256^r<4294967296:=by
 obtain⟨c,rfl⟩:=hd;have e:=Wc (r:=r+1) (by omega);rw[e] at hx ⊢;have h1:=Nat.lt_of_mul_lt_mul_left hx;have h2:256^(r+1)*(c+1)≤256^(r+1)*256^(4-(r+1)):=jp _ h1;rw[nj,o_] at h2;have h3:(b+1)*256^r≤256*256^r:=Nat.mul_le_mul_right _ hb;have h4:(256:Nat)^(r+1)=256*256^r:=Nat.pow_succ';have h5:0<(256:Nat)^r:=Nat.pow_pos (by omega);rw[Nat.add_mul,Nat.one_mul] at h3;generalize 256^(r+1)*256^(4-(r+1))=Z at *
 generalize 256^(r+1)*c=Y at *
 omega
theorem aey{os bs:List Nat}{p j r:Nat}(hp:p<bs.length)(hpj:p=4*j+r)(hr:r<4)(hj:j<os.length)(hd:eE 4294967296 os)(hb:eE 256 bs)(hdv:∀(i:Nat) (h:i<os.length),256^(p+1-4*i)∣os[i])(hv:val 4294967296 os=256^(p+1)*val 256 (bs.drop (p+1))) :
 os[j]+bs[p]*256^r<4294967296∧256^(r+1)∣os[j]∧(∀(i:Nat) (h:i<(os.set j (os[j]+bs[p]*256^r)).length),256^(p-4*i)∣(os.set j (os[j]+bs[p]*256^r))[i])∧val 4294967296 (os.set j (os[j]+bs[p]*256^r))=256^p*val 256 (bs.drop p):=by
 have h1:=hdv j hj;rw[show p+1-4*j=r+1 by omega] at h1;have hx:=hd _ (fh hj);have hby:=hb _ (fh hp);refine⟨agx hr hx h1 hby,h1,?_,?_⟩
 · intro i h
   by_cases e:i=j
   · subst e
     rw[List.getElem_set_self,show p-4*i=r by omega];exact Nat.dvd_add (Nat.dvd_trans (Nat.pow_dvd_pow 256 (by omega)) h1) (Nat.dvd_mul_left _ _)
   · rw[List.getElem_set_ne (by omega)]
     exact Nat.dvd_trans (Nat.pow_dvd_pow 256 (by omega)) (hdv i (by simpa using h))
 · have e1:=uO (B:=4294967296) (os:=os) (j:=j) (d:=os[j]+bs[p]*256^r) hj
   have e2:=Rw (B:=256) (xs:=bs) (k:=p+1) (by omega) (by simpa using hp);simp only[f_] at e2;have e3:(4294967296:Nat)^j*256^r=256^p:=by
    rw[show (4294967296:Nat)=256^4 from rfl,←ni,←nh,hpj]
   rw[e2,←e3];rw[ii,←e3] at hv;generalize (4294967296:Nat)^j=Q at *
   generalize (256:Nat)^r=R at *
   generalize val 256 (bs.drop (p+1))=D at *
   generalize val 4294967296 (os.set j (os[j]+bs[p]*R))=L at *
   generalize val 4294967296 os=M at *
   subst hv
   grind
def oD(s:ByteArray):List Nat:=s.data.toList.reverse.map im
def aj8(s:ByteArray):Nat:=val 256 (oD s)
theorem Ac(s:ByteArray):s.data.toList.length=s.size:=Array.length_toList
theorem vH(s:ByteArray):(oD s).length=s.size:=by simp only[oD,dz,List.length_reverse,Ac]
theorem Kz(s:ByteArray):eE 256 (oD s):=fun x hx=>by
 obtain⟨b,_,rfl⟩:=List.mem_map.1 hx;exact b.toNat_lt
theorem Ds(s:ByteArray)(i:Nat):s[i]? = s.data.toList[i]?:=by
 by_cases h:i<s.size
 · rw[getElem?_pos s i h,am (by rw[Ac];omega)]
   rfl
 · rw[getElem?_neg s i h,bv (by rw[Ac];omega)]
theorem El{s:ByteArray}{i p:Nat}(h:p+1+i=s.size):∃b,s[i]? = some b∧∃hp:p<(oD s).length,(oD s)[p]=b.toNat:=by
 have hs:=Ac s;have hi:i<s.data.toList.length:=by omega
 refine⟨s.data.toList[i],by rw[Ds];exact am hi,by rw[vH];omega,?_⟩;simp only[oD,List.getElem_map,List.getElem_reverse]
 congr 2
 omega
theorem kD(n:Int):aj8 (jX n)=n.natAbs:=by
 have e:oD (jX n)=digs 256 n.natAbs:=by
  simp only[oD,jX,mC,List.reverse_reverse,←List.map_reverse,List.map_map];have hd:eE 256 (digs 256 n.natAbs):=tD (by omega) _;have:∀l:List Nat,eE 256 l→l.map (im∘dj)=l:=by
   intro l hl;refine (il fun x hx=>?_).trans (List.map_id l);simp only[Function.comp_apply,id_eq,ix];exact jt (hl x hx)
  exact this _ hd
 rw[aj8,e,rC (by omega)]
theorem sR{m n:Nat}(h:m<9223372036854775808):IntKind.i64.wrap ((m:Int).tdiv (n:Int))=((m / n:Nat):Int):=by
 rw[←Int.ofNat_tdiv];have:m / n≤m:=Nat.div_le_self m n;exact dY (by have:=Int.natCast_nonneg (m / n);omega) (by omega)
theorem agy{xs:List Nat}{n:Nat}(h:xs.length≤n):val 256 (xs.drop n)=0:=by rw[List.drop_of_length_le h];rfl
def nC(l:List UInt8):ByteArray:=⟨l.toArray⟩
theorem pI(l:List UInt8):(nC l).data.toList=l:=by simp[nC]
theorem aez{l k:List UInt8}(h:nC l=nC k):l=k:=by rw[←pI l,h,pI]
theorem Em(l:List UInt8):(nC l).size=l.length:=by rw[←Ac,pI]
theorem aeA(l:List UInt8)(i:Nat):(nC l)[i]? = l[i]?:=by rw[Ds,pI]
theorem abE(l:List UInt8)(n:Nat):(nC l).extract n (nC l).size=nC (l.drop n):=by
 apply ByteArray.ext;rw[ByteArray.data_extract];apply oh;rw[Array.toList_extract,pI,Em];simp only[nC,List.extract_eq_take_drop,cz];exact a_ (by simp)
theorem Zm(l:List UInt8):(nC l=⟨#[]⟩)=(l=[]):=by
 apply propext;constructor
 · intro h
   exact aez (k:=[]) h
 · rintro rfl;rfl
def jA(l:List UInt8):List UInt8:=l.dropWhile (· == 0)
theorem abF{l:List UInt8}{b:UInt8}(h:l[0]? = some b)(hb:b.toNat=0):jA (l.drop 1)=jA l:=by
 cases l with
 | nil=>cases h
 | cons c l =>
  simp at h;subst h;have:c=0:=mc.1 hb;subst this;simp[jA]
theorem abG{l:List UInt8}{b:UInt8}(h:l[0]? = some b)(hb:¬b.toNat=0):jA l=l:=by
 cases l with
 | nil=>rfl
 | cons c l =>
  simp at h;subst h;have:¬c=0:=fun e=>hb (by rw[e];rfl);simp[jA,this]
theorem aeB:jA []=[]:=rfl
end Go.Lith
namespace Go.Lith
open Go.RowKit
section
variable {P:bh} {ds:List cn} {l:List ah} {x y z0:bg} {T T' ty:an}
abbrev u8v(b:UInt8):ah:=.int .u8 (b.toNat:Int)
theorem Nt{w:aj}{base n:Nat}{E:an}{v:ah}{bs:List UInt8}(hs:P.underlying T=some (.slice E))(he:P.underlying E=some (.int .u8))(hd:P.underlying T'=some .string)(hx:ev l x=v)(hown:af7 w base E 1 v n (bs.map u8v)) :
 yR P l (.convert T T' x) ty (.string (nC bs)) w:=fun o ho _=>by
 have hn:bs.length=n:=by have:=hown.1;simpa using this
 rcases hown.row with ⟨rfl,rfl,h⟩ | ⟨g,cap,rfl,_,_,_,_,hr⟩
 · obtain rfl:bs=[]:=by simpa using h
   simp only[cw,ho,cJ,hx];rw[Sem.run_bind,run_convert_bytes_nil w T E hs he 0 0 T' hd];rfl
 · subst hn
   have:=run_convert_bytes_back (P:=P) w T T' E ⟨g,0,none⟩ cap bs hs he hd (fun j hj=>hr j _ (by simp[hj]));simp only[cw,ho,cJ,hx];rw[Sem.run_bind,this];rfl
end
structure Def(w:aj)(D:Nat):Prop where
 h:w.heap[D]? = some (.deferred (some []))
theorem Def.ext{w w':aj}{D:Nat}(h:Def w D)(hE:fN w w'):Def w' D:=⟨hE.block h.h⟩
theorem Def.ne{w:aj}{D g:Nat}{cs:List ah}{t:an}(h:Def w D)(hB:fK w g cs t):D≠g:=fun e=>by
 subst e;have:=h.h;rw[hB] at this;cases this
theorem Def.chg{w w':aj}{D g:Nat}(h:Def w D)(hC:Chg w w' g)(hne:D≠g):Def w' D:=⟨(hC.block D hne).trans h.h⟩
theorem fK.putD{w:aj}{D g:Nat}{cs:List ah}{t:an}(hB:fK w g cs t)(h:Def w D){o:Obj}:fK (w.putObj D o) g cs t:=(World.putObj_heap_other (Ne.symm (h.ne hB))).trans hB
theorem fN.putD{w0 w:aj}{D:Nat}(hX:fN w0 w)(hD:w0.heap.size≤D){o:Obj}:fN w0 (w.putObj D o) :=
 ⟨hX.os,hX.tape,hX.output,by rw[World.putObj_size];exact hX.size,fun k hk=>(World.putObj_heap_other (by omega)).trans (Below.block hX k hk)⟩
theorem abH{P:bh}{l:List ah}{n:Nat}{fn:Func}{R:Ending→aj→Prop}{D:Nat}{w:aj}(hK:Def w D)(h:bodyPost P fn R .ret (Fr l) (w.putObj D (.deferred none))) :
 bodyPostM Fence.wide n P fn R .ret (Fr l [{ target:=.collected D,args:=#[] }]) w:=by
 refine⟨by simp,.inl ⟨D,_,rfl,run_takeDeferred hK.h,?_⟩⟩;obtain⟨_,v,hv,hR⟩:=h;exact⟨v,hv,hR⟩
end Go.Lith
namespace Go.Lith
def wb(x:Nat):List UInt8:=[dj (x / 16777216),dj (x / 65536),dj (x / 256),dj x]
def Zn(l:List (Nat × Nat)):List UInt8:=l.flatMap fun x=>wb x.2
theorem agz(l:List (Nat × Nat))(x:Nat × Nat):Zn (l++[x])=Zn l++wb x.2:=by simp[Zn]
theorem Nu(l:List (Nat × Nat)):(Zn l).length=4*l.length:=by
 induction l with
 | nil=>rfl
 | cons x l ih=>rw[Zn,List.flatMap_cons,aw];rw[Zn] at ih;rw[ih];simp[wb];omega
def Rx(neg:Bool)(n:Nat):Int:=if neg then -(n:Int) else n
theorem En(neg:Bool)(n:Nat):(Rx neg n).natAbs=n:=by cases neg <;> simp[Rx]
theorem Wd(neg:Bool)(n:Nat):fP (Rx neg n)=(neg&&decide (n≠0)):=by
 cases neg
 · simp[Rx,fP]
 · rcases ib n with h | h
   · subst h;rfl
   · have h2:n≠0:=by omega
     simp[Rx,fP,h,h2]
theorem Ry(ys:List Nat)(h:eE 4294967296 ys):val 256 (((ys.reverse.flatMap wb).reverse).map im)=val 4294967296 ys∧eE 256 (((ys.reverse.flatMap wb).reverse).map im):=by
 induction ys with
 | nil=>exact⟨rfl,fun _ h=>by cases h⟩
 | cons y ys ih =>
  have hy:=h y (by simp);obtain⟨i1,i2⟩:=ih (fun x hx=>h x (by simp[hx]));have e:(((y::ys).reverse.flatMap wb).reverse).map im=[y%256,y / 256%256,y / 65536%256,y / 16777216%256]++(((ys.reverse.flatMap wb).reverse).map im):=by
   simp[List.flatMap_append,wb,ix]
  rw[e];refine⟨?_,?_⟩
  · rw[kO,i1]
    simp only[val,ay,List.length_nil];omega
  · refine eE.append ?_ i2
    intro x hx;simp at hx;omega
theorem La{l:List UInt8}:jA l=((trim ((l.reverse).map im)).reverse).map dj:=by
 induction l with
 | nil=>rfl
 | cons b l ih =>
  have hk:∀k:List Nat,∀x:Nat,trim (k++[x])=if x=0 then trim k else k++[x]:=fun k x=>by
   split
   · rename_i h;subst h;exact pG k
   · rename_i h;exact vG h k
  rw[List.reverse_cons,List.map_append,bi,List.map_nil,hk];by_cases hb:b=0
  · subst hb
    rw[if_pos (show im 0=0 from rfl),←ih];simp[jA]
  · have hb':¬b.toNat=0:=fun e=>hb (mc.1 e)
    rw[if_neg hb'];simp[jA,hb,Function.comp_def]
theorem abI{ys:List Nat}(h:eE 4294967296 ys)(neg:Bool):nC (jA (ys.reverse.flatMap wb))=jX (Rx neg (val 4294967296 ys)):=by
 obtain⟨h1,h2⟩:=Ry ys h;rw[La,pF (by omega) h2 h1,jX,En,mC];rfl
theorem Nv{neg:Bool}{n:Nat}:(jX (Rx neg n)=⟨#[]⟩)↔n=0:=by
 constructor
 · intro h
   have:=Tf (Rx neg n);rw[h,En] at this;have h0:digs 256 n=[]:=ej this.symm;exact (uN (by omega)).1 h0
 · rintro rfl
   cases neg <;> rfl
class Bw(k:outParam Nat)(n:Int):Prop where
 h:Bd k n
instance {a b:Nat}{m n:Int}[x:Bw a m][y:Bw b n]:Bw (max a b+1) (m+n):=⟨x.h.add y.h⟩
instance {a b:Nat}{m n:Int}[x:Bw a m][y:Bw b n]:Bw (max a b+1) (m-n):=⟨x.h.sub y.h⟩
instance {a b:Nat}{m n:Int}[x:Bw a m][y:Bw b n]:Bw (a+b) (m*n):=⟨x.h.mul y.h⟩
instance:Bw 1 0:=⟨Mm 1⟩
theorem Jd{n:Int}(h:fP n=true):n<0:=of_decide_eq_true h
theorem Eo{n:Int}(h:fP n=false):0≤n:=pi.1 (of_decide_eq_false h)
theorem natAbs_neg{n:Int}(h:fP n=true):(n.natAbs:Int) = -n:=by have:=Jd h;omega
theorem kE{n:Int}(h:fP n=false):(n.natAbs:Int)=n:=by have:=Eo h;omega
theorem Ad(n:Nat):Rx true n = -(n:Int):=rfl
theorem vZ(n:Nat):Rx false n=(n:Int):=rfl
theorem Gi(a:Int):Rx (fP a) a.natAbs=a:=by
 cases h:fP a
 · rw[vZ,kE h]
 · rw[Ad,natAbs_neg h];omega
theorem adm(a:Int):Rx (!fP a) a.natAbs = -a:=by
 cases h:fP a
 · rw[Bool.not_false,Ad,kE h]
 · rw[Bool.not_true,vZ,natAbs_neg h]
theorem adn{a b:Int}(h:fP a=fP b):Rx (fP a) (a.natAbs+b.natAbs)=a+b:=by
 cases ha:fP a <;> rw[ha] at h
 · have h1:=kE ha;have h2:=kE h.symm;rw[vZ];omega
 · have h1:=natAbs_neg ha;have h2:=natAbs_neg h.symm;rw[Ad];omega
theorem agA{a b:Int}(h:¬fP a=fP b)(hl:a.natAbs<b.natAbs):Rx (fP b) (b.natAbs-a.natAbs)=a+b:=by
 cases ha:fP a <;> cases hb:fP b <;> rw[ha,hb] at h
 · exact absurd rfl h
 · have h1:=kE ha;have h2:=natAbs_neg hb;rw[Ad];omega
 · have h1:=natAbs_neg ha;have h2:=kE hb;rw[vZ];omega
 · exact absurd rfl h
theorem agB{a b:Int}(h:¬fP a=fP b)(hl:b.natAbs≤a.natAbs):Rx (fP a) (a.natAbs-b.natAbs)=a+b:=by
 cases ha:fP a <;> cases hb:fP b <;> rw[ha,hb] at h
 · exact absurd rfl h
 · have h1:=kE ha;have h2:=natAbs_neg hb;rw[vZ];omega
 · have h1:=natAbs_neg ha;have h2:=kE hb;rw[Ad];omega
 · exact absurd rfl h
theorem ado{a b:Int}:Rx (decide (¬fP a=fP b)) (a.natAbs*b.natAbs)=a*b:=by
 cases ha:fP a <;> cases hb:fP b
 · have h1:=kE ha;have h2:=kE hb
   show ((a.natAbs*b.natAbs:Nat):Int)=_
   rw[lg,h1,h2]
 · have h1:=kE ha;have h2:=natAbs_neg hb
   show -((a.natAbs*b.natAbs:Nat):Int)=_
   rw[lg,h1,h2,Int.mul_neg,Int.neg_neg]
 · have h1:=natAbs_neg ha;have h2:=kE hb
   show -((a.natAbs*b.natAbs:Nat):Int)=_
   rw[lg,h1,h2,Int.neg_mul,Int.neg_neg]
 · have h1:=natAbs_neg ha;have h2:=natAbs_neg hb
   show ((a.natAbs*b.natAbs:Nat):Int)=_
   rw[lg,h1,h2,Int.neg_mul_neg]
def aY(n:Int):Int:=if n<0 then -1 else if 0<n then 1 else 0
theorem Cj{n:Int}(h:n<0):aY n = -1:=by rw[aY,if_pos h]
theorem Ck{n:Int}(h:0<n):aY n=1:=by rw[aY,if_neg (by omega),if_pos h]
theorem Ae{k V:Nat}(h:V<2^k):(digs 4294967296 V).length≤k:=by
 refine kR (by omega) (fm h ?_);rw[show (4294967296:Nat)=2^32 from rfl,←ni];exact iy (by omega) (by omega)
theorem kF{n:Int}(h:Bd 1000000 n):(jX n).size≤1000000000000:=az (Wb h) (by decide)
theorem aeC{k:Nat}{a b:Int}(ha:Bd k a)(hb:Bd k b):(digs 4294967296 (a.natAbs+b.natAbs)).length≤k+1:=Ae (by unfold Bd at ha hb;rw[ii];omega)
theorem Ep{k:Nat}{n:Int}(h:Bd k n):(digs 4294967296 n.natAbs).length≤k:=Ae h
theorem We{m n:Nat}(h:m≤n):(digs 4294967296 m).length≤(digs 4294967296 n).length:=by
 refine kR (by omega) (mg h ?_);have:=Ek (Zk n);rwa [iK] at this
theorem adp{a:Int}:(((digs 4294967296 a.natAbs).length:Int)=0)↔a=0:=by
 constructor
 · intro h
   have h0:digs 4294967296 a.natAbs=[]:=ej (by omega);have:=(uN (by omega)).1 h0;omega
 · rintro rfl;rfl
def yL(n:Int):Prop:=-9223372036854775808≤n∧n<9223372036854775808
theorem yL.bd{n:Int}(h:yL n):Bd 64 n:=Bd.of_i64 h.1 (by have:=h.2;omega)
theorem agC{n:Int}(h:yL n)(h0:0≤n):IntKind.u64.wrap n=(n.natAbs:Int):=by
 rw[lV];have:=h.2;omega
theorem adq{n:Int}(h:yL n)(h0:n<0):IntKind.u64.wrap n=((18446744073709551616-n.natAbs:Nat):Int):=by
 rw[lV];have:=h.1;omega
theorem Tj{m:Nat}(h:m≤9223372036854775808)(h0:0<m):IntKind.u64.wrap (0-((18446744073709551616-m:Nat):Int))=(m:Int):=by
 rw[lV];omega
theorem Tk{m:Nat}:val 4294967296 [m%4294967296,m / 4294967296]=m:=by simp[val];omega
theorem Nw{m:Nat}(h:m<18446744073709551616):eE 4294967296 [m%4294967296,m / 4294967296]:=fun x hx=>by simp at hx;omega
theorem yL.natAbs{n:Int}(h:yL n):n.natAbs≤9223372036854775808:=by have:=h.1;have:=h.2;omega
def Qc(n d:Int):Go.Value:=.agg #[.bool (fP n),.string (jX n),.bool (fP d),.string (jX d)]
def Q(q:Rat):Go.Value:=Qc q.num q.den
end Go.Lith
namespace Go.Lith
open Go.RowKit
theorem Ny{a b:Nat}:0≤Zj a b↔b≤a:=by
 unfold Zj;split
 · omega
 · split <;> omega
abbrev xD(x:Nat):ah:=.int .i64 (x:Int)
structure fS(w:aj)(b:Nat)(A:Option Addr)(n cap:Nat)(xs:List Nat):Prop where
 eq:n=xs.length
 row:∀(i x:Nat),xs[i]? = some x→∃a,A=some a∧a.block<b∧w.cell? (a.add i)=some (.int .i64 (x:Int))
 le:xs.length≤cap
 cap:cap≤9223372036854775807
 len:xs.length≤17592186044416
 digs:eE 65536 xs
section
variable {w w':aj} {b:Nat} {A:Option Addr} {n cap:Nat} {xs:List Nat}
theorem fS.ext(h:fS w b A n cap xs)(hE:fN w w'):fS w' b A n cap xs :=
 ⟨h.eq,fun i x hi=>let ⟨a,e,hb,hc⟩:=h.row i x hi;⟨a,e,hb,hE.cell hc⟩,h.le,h.cap,h.len,h.digs⟩
theorem fS.here(h:fS w b A n cap xs):fS w w.heap.size A n cap xs :=
 ⟨h.eq,fun i x hi=>by
  obtain⟨a,e,_,hc⟩:=h.row i x hi;have:=World.block_lt_of_cell? _ _ hc;rw[Ch] at this;exact⟨a,e,this,hc⟩,h.le,h.cap,h.len,h.digs⟩
theorem fS.take(h:fS w b A n cap xs)(k:Nat):fS w b A (xs.take k).length cap (xs.take k) :=
 ⟨rfl,fun i x hi=>h.row i x (by rw[eh] at hi;split at hi;exact hi;cases hi),az (by simp;omega) h.le,h.cap,az (by simp;omega) h.len,h.digs.take k⟩
theorem fS.get(h:fS w b A n cap xs){i:Nat}(hi:i<xs.length):∃a,A=some a∧w.cell? (a.add i)=some (.int .i64 ((xs[i]:Nat):Int))∧xs[i]<65536:=by
 obtain⟨a,e,_,hc⟩:=h.row i xs[i] (am hi);exact⟨a,e,hc,h.digs _ (fh hi)⟩
theorem fS.at{a:Addr}(h:fS w b (some a) n cap xs){i:Nat}(hi:i<xs.length):w.cell? (a.add i)=some (.int .i64 ((xs[i]:Nat):Int)):=by
 obtain⟨a',e,hc,_⟩:=h.get hi;cases e;exact hc
theorem fS.lt(h:fS w b A n cap xs){i:Nat}(hi:i<xs.length):xs[i]<65536:=h.digs _ (fh hi)
theorem fS.nil(w:aj)(b:Nat):fS w b none 0 0 []:=⟨rfl,fun i x hi=>by simp at hi,av _,by omega,by simp,fun x hx=>by cases hx⟩
theorem fS.of_blk{g:Nat}{os:List Nat}{t:an}(h:fK w g (os.map xD) t)(hd:eE 65536 os)(hn:n=os.length)(hl:n≤17592186044416):fS w w.heap.size (some ⟨g,0,none⟩) n n os :=
 ⟨hn,fun i x hi=>⟨_,rfl,h.lt,by rw[gZ,ar];exact h.cell (by simp[hi])⟩,by omega,by omega,by omega,hd⟩
theorem fS.of_owns{base:Nat}{v:ah}{E:an}(h:af7 w base E 1 v n (xs.map xD))(hn:n=xs.length)(hd:eE 65536 xs)(hl:n≤17592186044416):∃A c,v=.slice A n c∧fS w w.heap.size A n c xs∧∀a,A=some a→base≤a.block:=by
 rcases h.row with ⟨rfl,rfl,hx⟩ | ⟨g,cap,rfl,hb,h1,h2,hg,hr⟩
 · obtain rfl:xs=[]:=by simpa using hx
   exact⟨none,0,rfl,fS.nil _ _,fun _ e=>by cases e⟩
 · exact⟨_,cap,rfl,⟨hn,fun i x hi=>⟨_,rfl,hg,hr i _ (by simp[hi])⟩,by omega,h2,by omega,hd⟩,fun a e=>by cases e;exact hb⟩
end
def vI(n:Nat)(v:ah)(w:aj):Prop:=∃A cap,v=.slice A (digs 65536 n).length cap∧fS w w.heap.size A (digs 65536 n).length cap (digs 65536 n)
def aoI(n k:Nat)(v:ah)(w:aj):Prop:=∃A cap os,v=.slice A os.length cap∧fS w w.heap.size A os.length cap os∧val 65536 os=n∧os.length≤k
theorem vI.of_trim{w:aj}{b:Nat}{A:Option Addr}{xs:List Nat}{k cap n:Nat}(h:fS w b A k cap xs)(hv:val 65536 xs=n):vI n (.slice A (trim xs).length cap) w:=by
 have e:trim xs=digs 65536 n:=pF (by omega) h.digs hv;refine⟨A,cap,by rw[e],?_⟩;rw[←e];have:=(h.take (trim xs).length).here;rwa [←kH] at this
theorem vI.self{w:aj}{b:Nat}{A:Option Addr}{xs:List Nat}{k cap:Nat}(h:fS w b A k cap xs)(t:iE xs):vI (val 65536 xs) (.slice A k cap) w:=by
 have e:xs=digs 65536 (val 65536 xs):=by rw[←pF (by omega) h.digs rfl,t]
 refine⟨A,cap,by rw[h.eq,←e],?_⟩;rw[←e,←h.eq];exact h.here
theorem Rz(n:Nat):c_ n (Value.int .i64 0)=(c_ n 0).map xD:=by simp[xD]
theorem Gj{os:List Nat}{i d:Nat}(hi:i<os.length):cA (os.map xD) i [xD d]=(os.set i d).map xD:=by
 simp only[cA,ip];apply fq;intro j;rcases Nat.lt_trichotomy j i with h | h | h
 · rw[fe (by simp;omega),fe (by simp;omega)]
   simp[h,lo (Nat.ne_of_gt h)]
 · subst h
   rw[fe (by simp;omega),ja (by simp;omega)];have e:j-min j os.length=0:=by omega
   simp[hi,e]
 · rw[ja (by simp;omega)]
   simp only[aw,cj,dz,ip,d_,List.getElem?_map];rw[lo (by omega)]
   congr 2
   omega
theorem fK.digit{w:aj}{g:Nat}{os:List Nat}{t:an}(h:fK w g (os.map xD) t){i:Nat}(hi:i<os.length):w.cell? ⟨g,i,none⟩=some (.int .i64 ((os[i]:Nat):Int)) :=
 h.cell (by simp[hi])
theorem jC(n:Nat):val 65536 (digs 65536 n)=n:=rC (by omega) n
theorem Af(n:Nat):iE (digs 65536 n):=pE (by omega) n
theorem Zo(n:Nat):eE 65536 (digs 65536 n):=tD (by omega) n
theorem Gk{m n:Nat}(h:m≤n):(digs 65536 m).length≤(digs 65536 n).length:=by
 refine kR (by omega) (mg h ?_);have:=Ek (Zo n);rwa [jC] at this
theorem wA{k:Nat}{V:Nat}(h:V<2^k):(digs 65536 V).length≤k:=by
 refine kR (by omega) (fm h ?_);rw[show (65536:Nat)=2^16 from rfl,←ni];exact iy (by omega) (by omega)
section
variable {P:bh} {ds:List cn} {l:List ah} {T ty:an}
variable {ops:Array Oper} {Q:Exit→Act→aj→Prop} {rest:List Oper} {d:Nat} {pos:String} {after:Array Edge} {w:aj}
end
theorem xE{os xs ys:List Nat}{i c s:Nat}(hl:os.length=i)(hv:val 65536 os+65536^i*c=val 65536 (xs.take i)+val 65536 (ys.take i))(hd:eE 65536 os)
 (hs:s=c+xs[i]?.getD 0+ys[i]?.getD 0) :
 val 65536 (os++[s%65536])+65536^(i+1)*(s / 65536)=val 65536 (xs.take (i+1))+val 65536 (ys.take (i+1))∧eE 65536 (os++[s%65536]):=by
 refine⟨?_,hd.append (vX (kd _ (by omega)) (mL _))⟩;have ht:∀l:List Nat,val 65536 (l.take (i+1))=val 65536 (l.take i)+65536^i*l[i]?.getD 0:=fun l=>by
  rcases dl i l.length with h | h
  · rw[dV h,am h];rfl
  · rw[a_ (by omega),a_ h,bv h];simp
 rw[ht xs,ht ys,kO,hl];simp only[val,Nat.mul_zero,la];have e:s=s%65536+65536*(s / 65536):=by omega
 rw[ii];generalize s / 65536=q at *
 generalize s%65536=r at *
 generalize 65536^i=p at *
 generalize xs[i]?.getD 0=x at *
 generalize ys[i]?.getD 0=y at *
 subst hs;have e2:p*(c+x+y)=p*r+p*65536*q:=by rw[e];grind
 grind
theorem uP{os xs ys:List Nat}{i c s b:Nat}(hi:i<xs.length)(hl:os.length=i)(hv:val 65536 os+val 65536 (ys.take i)=val 65536 (xs.take i)+65536^i*c)(hd:eE 65536 os)
 (hs:s+ys[i]?.getD 0+c=xs[i]+65536*b) (h16:s<65536) :
 val 65536 (os++[s])+val 65536 (ys.take (i+1))=val 65536 (xs.take (i+1))+65536^(i+1)*b∧eE 65536 (os++[s]):=by
 refine⟨?_,hd.append (vX h16 (mL _))⟩;have ht:val 65536 (ys.take (i+1))=val 65536 (ys.take i)+65536^i*ys[i]?.getD 0:=by
  rcases dl i ys.length with h | h
  · rw[dV h,am h];rfl
  · rw[a_ (by omega),a_ h,bv h];simp
 rw[ht,dV hi,kO,hl];simp only[val,Nat.mul_zero,la];rw[ii];generalize 65536^i=p at *
 generalize ys[i]?.getD 0=y at *
 generalize xs[i]=x at *
 have e2:p*(s+y+c)=p*x+p*65536*b:=by rw[hs];grind
 grind
theorem aeD{os xs ys:List Nat}{c:Nat}(hle:ys.length≤xs.length)(hl:os.length=xs.length)(hd:eE 65536 os)(hv:val 65536 os+val 65536 (ys.take xs.length)=val 65536 (xs.take xs.length)+65536^xs.length*c)(hge:val 65536 ys≤val 65536 xs):val 65536 os=val 65536 xs-val 65536 ys:=by
 rw[ew,a_ hle] at hv;have h1:=Ek hd;rw[hl] at h1;rcases ib c with h | h
 · subst h;omega
 · have:65536^xs.length*1≤65536^xs.length*c:=jp _ h
   omega
theorem abJ{os:List Nat}{i d c c' s t T:Nat}(hi:i<os.length)(hs:os[i]+s+c=d+65536*c')(hT:val 65536 os+65536^i*c=T)(ht:T+65536^i*s=t) :
 val 65536 (os.set i d)+65536^(i+1)*c'=t:=by
 have h:=uO (B:=65536) (d:=d) hi;rw[ii];generalize 65536^i=p at *
 have e:p*(os[i]+s+c)=p*d+p*65536*c':=by rw[hs];grind
 grind
theorem Zp{os xs ys:List Nat}{i k c s:Nat}(hi:i<xs.length)(hk:k<ys.length)(hlo:os.length=xs.length+ys.length)(hv:val 65536 os+65536^(i+k)*c=val 65536 (xs.take i)*val 65536 ys+65536^i*(xs[i]*val 65536 (ys.take k)))
 (hs:s=os[i+k]+xs[i]*ys[k]+c):val 65536 (os.set (i+k) (s%65536))+65536^(i+(k+1))*(s / 65536)=val 65536 (xs.take i)*val 65536 ys+65536^i*(xs[i]*val 65536 (ys.take (k+1))):=by
 refine abJ (s:=xs[i]*ys[k]) (i:=i+k) (by omega) (by omega) hv ?_;rw[dV hk,nh]
 grind
theorem aeE{os xs ys:List Nat}{i c:Nat}(hi:i<xs.length)(hlo:os.length=xs.length+ys.length)(hv:val 65536 os+65536^(i+ys.length)*c=val 65536 (xs.take i)*val 65536 ys+65536^i*(xs[i]*val 65536 (ys.take ys.length)))(hz:os.drop (i+ys.length)=c_ (xs.length-i) 0) :
 val 65536 (os.set (i+ys.length) c)=val 65536 (xs.take (i+1))*val 65536 ys∧(os.set (i+ys.length) c).drop (i+1+ys.length)=c_ (xs.length-(i+1)) 0:=by
 obtain⟨z1,z2⟩:=nO hz (by omega);have h:=uO (B:=65536) (d:=c) (show i+ys.length<os.length by omega);rw[z1] at h;rw[ew] at hv;refine⟨?_,?_⟩
 · rw[dV hi]
   grind
 · rw[show i+1+ys.length=i+ys.length+1 by omega,qS,z2]
   congr 1
theorem Zq{x y:Nat}(hx:x<65536)(hy:y<65536):x*y≤4294836225:=by
 have:=Nat.mul_le_mul (lp hx) (lp hy);omega
theorem aeF{x y:Nat}(hx:x<65536)(hy:y<65536):(0:Int)≤(x:Int)*(y:Int)∧(x:Int)*(y:Int)≤4294836225:=by
 have:=Zq hx hy;rw[←lg];omega
theorem Zr{xs ys:List Nat}{k:Nat}(hx:eE 65536 xs)(hk:0<k)(hlx:k-1<xs.length)(hly:k-1<ys.length)(hd:xs.drop k=ys.drop k)(h:((xs[k-1]:Nat):Int)<((ys[k-1]:Nat):Int)):val 65536 xs<val 65536 ys :=
 Dr (by omega) hx hlx hly (by rw[show k-1+1=k by omega];exact hd) (by omega)
theorem agD{xs ys:List Nat}{k:Nat}(hk:0<k)(hlx:k-1<xs.length)(hly:k-1<ys.length)(hd:xs.drop k=ys.drop k)(h1:((xs[k-1]:Nat):Int)=((ys[k-1]:Nat):Int)):xs.drop (k-1)=ys.drop (k-1):=by
 rw[ee hlx,ee hly,show k-1+1=k by omega,hd,show xs[k-1]=ys[k-1] by omega]
inductive pY where
 | nil:pY
 | take:Nat→pY→pY
 | one:Nat→pY→pY
 | two:Nat→pY→Nat→pY→pY
 | three:Nat→pY→Nat→pY→Nat→pY→pY
section
variable {P:bh} {ops:Array Oper} {md:Region.Mode} {S:aj→Prop}
def pY.ok(md:Region.Mode)(ops:Array Oper):pY→Nat→Array Bool→Bool
 | .nil,f,listed=>f == 0&&(Region.ready md ops listed).isEmpty
 | .take i t,f,listed=>decide (0<f)&&(ops[i]?).isSome&&Region.free md ops listed i&&(Region.ready md ops listed).contains i&&t.ok md ops (f-1) (listed.setIfInBounds i true)
 | .one i t,f,listed=>decide (0<f)&&(ops[i]?).isSome&&decide (Region.ready md ops listed=[i])&&t.ok md ops (f-1) (listed.setIfInBounds i true)
 | .two i t j u,f,listed=>decide (0<f)&&(ops[i]?).isSome&&(ops[j]?).isSome&&decide (Region.ready md ops listed=[i,j])&&t.ok md ops (f-1) (listed.setIfInBounds i true)&&u.ok md ops (f-1) (listed.setIfInBounds j true)
 | .three i t j u k v,f,listed=>decide (0<f)&&(ops[i]?).isSome&&(ops[j]?).isSome&&(ops[k]?).isSome&&decide (Region.ready md ops listed=[i,j,k])&&t.ok md ops (f-1) (listed.setIfInBounds i true)&&u.ok md ops (f-1) (listed.setIfInBounds j true)&&v.ok md ops (f-1) (listed.setIfInBounds k true)
def cO(P:bh)(ops:Array Oper)(S:aj→Prop)(Q:Exit→Act→aj→Prop):pY→Act→aj→Prop
 | .nil,a,w=>Q .normal a w
 | .take i t,a,w=>bO P ops S (fun _ a w=>cO P ops S Q t a w) [((ops[i]?).getD default,true)] a w
 | .one i t,a,w=>au P ops (Exit.then (fun a w=>S w∧cO P ops S Q t a w) Q) [(ops[i]?).getD default] a w
 | .two i t j u,a,w=>au P ops (Exit.then (fun a w=>S w∧cO P ops S Q t a w) Q) [(ops[i]?).getD default] a w∧au P ops (Exit.then (fun a w=>S w∧cO P ops S Q u a w) Q) [(ops[j]?).getD default] a w
 | .three i t j u k v,a,w=>au P ops (Exit.then (fun a w=>S w∧cO P ops S Q t a w) Q) [(ops[i]?).getD default] a w∧au P ops (Exit.then (fun a w=>S w∧cO P ops S Q u a w) Q) [(ops[j]?).getD default] a w∧au P ops (Exit.then (fun a w=>S w∧cO P ops S Q v a w) Q) [(ops[k]?).getD default] a w
theorem jH{Q:Exit→Act→aj→Prop}{K:Act→aj→Prop}{i:Nat}{o:Oper}(ho:ops[i]? = some o){a:Act}{w:aj}(h:au P ops (Exit.then K Q) [o] a w):wpOp P ops Q i K a w:=by
 unfold wpOp;simp only[ho];simp only[au] at h;split
 · rename_i hw
   rw[if_pos hw] at h;rcases h with h | ⟨ha,x,y,hl⟩
   · refine .inl ?_
     unfold lk at h ⊢;generalize (cw a.eval o).run P w=res at *
     cases res with
     | ok n w' =>
      cases n <;> simp only[mj] at h ⊢ <;>
       first
        | exact h
        | exact Calls.mono h (fun e w'' he=>by cases e <;> exact he)
        | exact Rows.mono h (fun _ _ he=>he)
     | halt x w'=>cases x <;> simp only[mj] at h ⊢ <;> exact h
   · exact .inr ⟨ha,x,y,hl⟩
 · rename_i hw
   rw[if_neg hw] at h;exact h
theorem iP{Q:Exit→Act→aj→Prop}(hs:Region.noSelect ops=true)(hQ:∀c d v a w,Q (.panic c) (Act.put a d v) w→Q (.panic c) a w):∀(t:pY) (f:Nat) (listed:Array Bool) (a:Act) (w:aj),
 t.ok md ops f listed=true→S w→cO P ops S Q t a w→wpAnyH P md ops Q S f listed a w
 | .nil,f,listed,a,w,hB,_,h=>by
  simp only[pY.ok,be,beq_iff_eq] at hB;obtain⟨rfl,h2⟩:=hB;exact⟨by simpa using h2,h⟩
 | .take i t,f,listed,a,w,hB,hS,h=>by
  simp only[pY.ok,be,decide_eq_true_eq] at hB;obtain⟨⟨⟨⟨h0,h1⟩,h2⟩,h3⟩,h4⟩:=hB;obtain⟨o,ho⟩:=di.1 h1;simp only[cO,bO,ho,cu] at h;obtain⟨v,hy,hr⟩:=h;obtain⟨f,rfl⟩:∃g,f=g+1:=⟨f-1,by omega⟩
  exact wpAnyH_take ho hs h2 h3 (fun c a w=>hQ c _ v a w) hy hS (iP hs hQ t f _ _ _ h4 hS hr)
 | .one i t,f,listed,a,w,hB,hS,h=>by
  simp only[pY.ok,be,decide_eq_true_eq] at hB;obtain⟨⟨⟨h0,h1⟩,h2⟩,h4⟩:=hB;obtain⟨o,ho⟩:=di.1 h1;obtain⟨f,rfl⟩:∃g,f=g+1:=⟨f-1,by omega⟩
  refine wpAnyH_all h2 (by simp) fun j hj=>?_;obtain rfl:j=i:=by simpa using hj
  simp only[cO,ho,cu] at h;exact wpOp_mono (fun a' w' hh=>⟨hh.1,iP hs hQ t f _ a' w' h4 hh.1 hh.2⟩) (jH ho h)
 | .two i t j u,f,listed,a,w,hB,hS,h=>by
  simp only[pY.ok,be,decide_eq_true_eq] at hB;obtain⟨⟨⟨⟨⟨h0,h1⟩,h1'⟩,h2⟩,h4⟩,h5⟩:=hB;obtain⟨o,ho⟩:=di.1 h1;obtain⟨o',ho'⟩:=di.1 h1';obtain⟨f,rfl⟩:∃g,f=g+1:=⟨f-1,by omega⟩
  simp only[cO,ho,ho',cu] at h;refine wpAnyH_all h2 (by simp) fun k hk=>?_;have hk':k=i∨k=j:=by simpa using hk
  rcases hk' with rfl | rfl
  · exact wpOp_mono (fun a' w' hh=>⟨hh.1,iP hs hQ t f _ a' w' h4 hh.1 hh.2⟩) (jH ho h.1)
  · exact wpOp_mono (fun a' w' hh=>⟨hh.1,iP hs hQ u f _ a' w' h5 hh.1 hh.2⟩) (jH ho' h.2)
 | .three i t j u k v,f,listed,a,w,hB,hS,h=>by
  simp only[pY.ok,be,decide_eq_true_eq] at hB;obtain⟨⟨⟨⟨⟨⟨⟨h0,h1⟩,h1'⟩,h1''⟩,h2⟩,h4⟩,h5⟩,h6⟩:=hB;obtain⟨o,ho⟩:=di.1 h1;obtain⟨o',ho'⟩:=di.1 h1';obtain⟨o'',ho''⟩:=di.1 h1'';obtain⟨f,rfl⟩:∃g,f=g+1:=⟨f-1,by omega⟩
  simp only[cO,ho,ho',ho'',cu] at h;refine wpAnyH_all h2 (by simp) fun m hm=>?_;have hm':m=i∨m=j∨m=k:=by simpa using hm
  rcases hm' with rfl | rfl | rfl
  · exact wpOp_mono (fun a' w' hh=>⟨hh.1,iP hs hQ t f _ a' w' h4 hh.1 hh.2⟩) (jH ho h.1)
  · exact wpOp_mono (fun a' w' hh=>⟨hh.1,iP hs hQ u f _ a' w' h5 hh.1 hh.2⟩) (jH ho' h.2.1)
  · exact wpOp_mono (fun a' w' hh=>⟨hh.1,iP hs hQ v f _ a' w' h6 hh.1 hh.2⟩) (jH ho'' h.2.2)
theorem Nz{id:Nat}{Q:Exit→Act→aj→Prop}{a:Act}{w:aj}{l:List Oper}(t:pY)(hm:P.follows .mixedOrders=true)(hB:(Region.noSelect l.toArray&&t.ok .any l.toArray l.toArray.size (fl l.toArray.size false))=true)
 (hQ:∀c d v a w,Q (.panic c) (Act.put a d v) w→Q (.panic c) a w)
 (h:∀w',fN w w'→∃S,aqP w' S∧cO P l.toArray S Q t a w'):(Code.region id l.toArray true).wp P Q a w:=by
 simp only[be] at hB;obtain⟨S,hS,h⟩:=h _ (fN.refl w).drawn;exact wp_region_held (S:=S) hm (iP (md:=.any) hB.1 hQ t _ _ a _ hB.2 hS h)
variable {Q:Exit→Act→aj→Prop} {a:Act} {w:aj} {o o':Oper} {i j:Nat} {t u:pY}
theorem Lb(h:Q .normal a w):cO P ops S Q .nil a w:=h
theorem iQ(ho:(ops[i]?).getD default=o)(h:bO P ops S (fun _ a w=>cO P ops S Q t a w) [(o,true)] a w):cO P ops S Q (.take i t) a w:=by subst ho;exact h
theorem qB(ho:(ops[i]?).getD default=o)(h:au P ops (Exit.then (fun a w=>S w∧cO P ops S Q t a w) Q) [o] a w):cO P ops S Q (.one i t) a w:=by subst ho;exact h
theorem adr(ho:(ops[i]?).getD default=o)(ho':(ops[j]?).getD default=o')(h:au P ops (Exit.then (fun a w=>S w∧cO P ops S Q t a w) Q) [o] a w)(h':au P ops (Exit.then (fun a w=>S w∧cO P ops S Q u a w) Q) [o'] a w):cO P ops S Q (.two i t j u) a w:=by
 subst ho;subst ho';exact⟨h,h'⟩
end
section
variable {P:bh} {ops:Array Oper} {md:Region.Mode} {w0:aj}
def YE(P:bh)(ops:Array Oper)(w0:aj)(o:Oper)(v:ah)(a:Act):Prop :=
 (Region.wanted o (yielded ops a.tmps)=true∧∀w,fN w0 w→o.quietAt P a (fN w) w v)∨(Region.wanted o (yielded ops a.tmps)=false∧v=undef)
theorem YE.of_same{o:Oper}{v:ah}{a a':Act}(hy:YE P ops w0 o v a)(he:cw a'.eval o=cw a.eval o)
 (hw:Region.wanted o (yielded ops a'.tmps)=Region.wanted o (yielded ops a.tmps)):YE P ops w0 o v a':=by
 unfold YE k_ at *
 rw[he,hw];exact hy
def qE(P:bh)(ops:Array Oper)(w0:aj)(i:Nat)(K:Act→Prop)(a:Act):Prop:=∃o v,ops[i]? = some o∧YE P ops w0 o v a∧K (a.put o.dst v)
theorem aka{i:Nat}{a:Act}{K K':Act→Prop}(h:∀a,K a→K' a)(hh:qE P ops w0 i K a):qE P ops w0 i K' a :=
 let ⟨o,v,h1,h2,h3⟩:=hh;⟨o,v,h1,h2,h _ h3⟩
theorem aoJ{j:Nat}{oi oj:Oper}{v:ah}(hj:ops[j]? = some oj)(hap:oi.apart ops oj=true)(hsi:∀cs b,oi.op≠.select cs b)(hsj:∀cs b,oj.op≠.select cs b){K:Act→Prop}{a:Act}
 (hy:YE P ops w0 oi v a) (h:qE P ops w0 j K (a.put oi.dst v)):qE P ops w0 j (fun a'=>YE P ops w0 oi v a'∧K (a'.put oi.dst v)) a:=by
 obtain⟨h1,h2,h3⟩:=Oper.apart_spec hap;obtain⟨o,u,ho,hu,hk⟩:=h;rw[hj] at ho;cases ho;refine⟨oj,u,hj,hu.of_same (execOp_put oj hsj a oi.dst v h1).symm (wanted_put oj a oi.dst v h1).symm,hy.of_same (execOp_put oi hsi a oj.dst u h3) (wanted_put oi a oj.dst u h3),?_⟩;rw[←Act.put_comm a v u h2];exact hk
def Oa(P:bh)(md:Region.Mode)(ops:Array Oper)(w0:aj)(n:Nat)(L:Array Bool→Act→Prop):Nat→Array Bool→Act→Prop
 | 0,listed,a=>L listed a
 | f+1,listed,a=>Region.ready md ops listed≠[]∧∀i∈Region.ready md ops listed,i<n∧qE P ops w0 i (Oa P md ops w0 n L f (listed.setIfInBounds i true)) a
theorem Wf{n i:Nat}{oi:Oper}{v:ah}{L:Array Bool→Act→Prop}(hi:ops[i]? = some oi)(hsel:∀(j:Nat) (o:Oper) cs b,ops[j]? = some o→o.op≠.select cs b)
 (hs:Region.sinkB md ops n=true) (hc:Region.chainB md ops n=true) (hn:n<ops.size) (hin:i<n)
 (hdone:∀listed a,L listed a→∀j∈Region.ready md ops listed,n≤j) :
 ∀(f:Nat) (listed:Array Bool) (a:Act),HeadInv md ops n listed →
  (∀j oj,ops[j]? = some oj→j≠i→listed.getD j true=false→(∀e∈oj.after,Region.binds md e=true→e.on≠i)→oi.apart ops oj=true) →
  i∈Region.ready md ops listed→YE P ops w0 oi v a →
  Oa P md ops w0 n L f (listed.setIfInBounds i true) (a.put oi.dst v)→Oa P md ops w0 n L (f+1) listed a:=by
 intro f
 induction f with
 | zero =>
  intro listed a inv _ hr hy H;have hun:=(mem_ready.1 hr).1;refine⟨fun h=>(by rw[h] at hr;cases hr),fun j hj=>?_⟩;have hjn:j<n:=by
   rcases dl j n with h | h
   · exact h
   · exact absurd hj (tail_waits hs hc hn inv _ i rfl hin hun j h)
  refine⟨hjn,?_⟩;by_cases hji:j=i
  · subst hji;exact⟨oi,v,hi,hy,H⟩
  · have:=hdone _ _ H j (ready_mono hj hji)
    omega
 | succ f ih =>
  intro listed a inv hfree hr hy H;have hun:=(mem_ready.1 hr).1;refine⟨fun h=>(by rw[h] at hr;cases hr),fun j hj=>?_⟩;have hjn:j<n:=by
   rcases dl j n with h | h
   · exact h
   · exact absurd hj (tail_waits hs hc hn inv _ i rfl hin hun j h)
  refine⟨hjn,?_⟩;by_cases hji:j=i
  · subst hji;exact⟨oi,v,hi,hy,H⟩
  · have h1:=(H.2 j (ready_mono hj hji)).2
    obtain⟨hjun,oj,hoj,hall⟩:=mem_ready.1 hj;have hnot:∀e∈oj.after,Region.binds md e=true→e.on≠i:=fun e he hb heq=>by
     have h1:=hall e he hb;rw[heq,getD_both hun] at h1;cases h1
    have h2:=aoJ hoj (hfree j oj hoj hji hjun hnot) (fun cs b=>hsel i oi cs b hi) (fun cs b=>hsel j oj cs b hoj) hy h1;have hfree':∀k ok,ops[k]? = some ok→k≠i→(listed.setIfInBounds j true).getD k true=false →
     (∀e∈ok.after,Region.binds md e=true→e.on≠i)→oi.apart ops ok=true:=fun k ok hk hki hun hno=>by
     refine hfree k ok hk hki ?_ hno;by_cases hjk:j=k
     · subst hjk;exact hjun
     · rw[getD_set_ne true hjk] at hun;exact hun
    refine aka (fun a' h3=>ih (listed.setIfInBounds j true) a' (inv.set hj hjn) hfree' (ready_mono hr (Ne.symm hji)) h3.1 ?_) h2;rw[ma _ _ hji];exact h3.2
def Ag(P:bh)(ops:Array Oper)(w0:aj)(L:Act→Prop):List Oper→Act→Prop
 | [],a=>L a
 | o::r,a=>∃v,YE P ops w0 o v a∧Ag P ops w0 L r (a.put o.dst v)
def agE(md:Region.Mode)(ops:Array Oper)(g n:Nat):List Nat→Array Bool→Bool
 | [],listed=>Region.seqB md ops g n listed
 | i::r,listed=>(ops[i]?).isSome&&decide (i<n)&&(Region.ready md ops listed).contains i&&Region.free md ops listed i&&agE md ops g n r (listed.setIfInBounds i true)
theorem Oc{n g:Nat}{L:Act→Prop}(hsel:Region.noSelect ops=true)(hs:Region.sinkB md ops n=true)(hc:Region.chainB md ops n=true)(hn:n<ops.size) :
 ∀(l:List Nat) (listed:Array Bool) (a:Act),HeadInv md ops n listed→agE md ops g n l listed=true→Ag P ops w0 L (l.map fun i=>(ops[i]?).getD default) a →
 Oa P md ops w0 n (fun listed' a'=>Region.seqB md ops g n listed'=true∧L a') l.length listed a
 | [],listed,a,_,hB,h=>⟨by simpa[agE] using hB,h⟩
 | i::l,listed,a,inv,hB,h=>by
  simp only[agE,be,decide_eq_true_eq] at hB;obtain⟨⟨⟨⟨h1,h2⟩,h3⟩,h4⟩,h5⟩:=hB;obtain⟨o,ho⟩:=di.1 h1;simp only[bi,Ag,ho,cu] at h;obtain⟨v,hy,hr⟩:=h;have hi':i∈Region.ready md ops listed:=by simpa using h3
  exact Wf ho (Region.noSelect_spec hsel) hs hc hn h2 (fun listed' a' hL=>seqB_ready hL.1) l.length listed a inv (Region.free_spec ho h4) hi' hy (Oc hsel hs hc hn l _ _ (inv.set hi' h2) h5 hr)
structure Al where
 i:Nat
 d:Nat
 T:an
 cs:List ah
def xF(P:bh)(md:Region.Mode)(ops:Array Oper)(x:Al):Prop :=
 ∃ty pos after,ops[x.i]? = some (bn (some x.d) (.alloc x.T) ty pos after none)∧(after.all fun e=>!Region.binds md e)=true∧∃z,nY P x.T z∧z.cells=x.cs.toArray
def fI(E:Nat→Option ah):List Al→Act→Act
 | [],a=>a
 | x::r,a=>match E x.i with
  | some v=>fI E r (a.put (some x.d) v)
  | none=>fI E r a
def xG(ops:Array Oper)(o:Oper)(al:List Al):Bool:=al.all fun x=>!(o.looksAt ops).contains x.d&&o.dst != some x.d
theorem Ah{E:Nat→Option ah}{o:Oper}(hs:∀cs b,o.op≠.select cs b):∀{al:List Al},xG ops o al=true→∀a,cw (fI E al a).eval o=cw a.eval o∧Region.wanted o (yielded ops (fI E al a).tmps)=Region.wanted o (yielded ops a.tmps)
 | [],_,a=>⟨rfl,rfl⟩
 | x::r,hc,a=>by
  simp only[xG,List.all_cons,be,ei] at hc;have hr:xG ops o r=true:=by simp only[xG,be,ei] ;simpa using hc.2
  have hd:x.d∉o.looksAt ops:=by simpa using hc.1.1
  unfold fI;split
  · obtain⟨h1,h2⟩:=Ah (E:=E) hs hr (a.put (some x.d) _)
    rename_i v _;exact⟨h1.trans (execOp_put o hs a (some x.d) v (fun d e=>by cases e;exact hd)),h2.trans (wanted_put o a (some x.d) v (fun d e=>by cases e;exact hd))⟩
  · exact Ah hs hr a
theorem Er{E:Nat→Option ah}{o:Oper}{v:ah}:∀{al:List Al},xG ops o al=true→∀a,(fI E al a).put o.dst v=fI E al (a.put o.dst v)
 | [],_,a=>rfl
 | x::r,hc,a=>by
  simp only[xG,List.all_cons,be,ei,bne_iff_ne,ne_eq] at hc;have hr:xG ops o r=true:=by simp only[xG,be,ei] ;simpa using hc.2
  unfold fI;split
  · rename_i u _
    rw[Er hr,Act.put_comm a u v (fun d e=>by cases e;exact hc.1.2)]
  · exact Er hr a
theorem Od{E:Nat→Option ah}{x:Al}{v:ah}:∀{al:List Al},(al.map (·.i)).Nodup→(al.map (·.d)).Nodup→x∈al→E x.i=none→∀a,(fI E al a).put (some x.d) v=fI (fun j=>if j=x.i then some v else E j) al a
 | [],_,_,hx,_,_=>by cases hx
 | y::r,hi,hd,hx,he,a=>by
  simp only[bi,gd] at hi hd;have same:∀(l:List Al),x.i∉l.map (·.i)→∀a,fI (fun j=>if j=x.i then some v else E j) l a=fI E l a:=by
   intro l
   induction l with
   | nil=>intro _ a;rfl
   | cons z l ih =>
    intro hn a;simp only[bi,ao,not_or] at hn;unfold fI;simp only[Ne.symm hn.1,if_false];split <;> exact ih hn.2 _
  have push:∀(l:List Al),x.d∉l.map (·.d)→∀a,(fI E l a).put (some x.d) v=fI E l (a.put (some x.d) v):=by
   intro l
   induction l with
   | nil=>intro _ a;rfl
   | cons z l ih =>
    intro hn a;simp only[bi,ao,not_or] at hn;unfold fI;split
    · rename_i u _
      rw[ih hn.2,Act.put_comm a u v (fun d e=>by cases e;simp;exact hn.1)]
    · exact ih hn.2 _
  rcases ao.1 hx with rfl | hx
  · unfold fI
    simp only[he,if_true];rw[push r hd.1,same r hi.1]
  · have hne:y.i≠x.i:=fun e=>hi.1 (by rw[e];exact eu hx)
    unfold fI;simp only[hne,if_false];split <;> exact Od hi.2 hd.2 hx he _
def cnt(E:Nat→Option ah)(al:List Al):Nat:=(al.filter fun x=>(E x.i).isNone).length
theorem ads{E:Nat→Option ah}{x:Al}{v:ah}:∀{al:List Al},(al.map (·.i)).Nodup→x∈al→E x.i=none→cnt E al=cnt (fun j=>if j=x.i then some v else E j) al+1
 | [],_,hx,_=>by cases hx
 | y::r,hi,hx,he=>by
  simp only[bi,gd] at hi;have same:∀(l:List Al),x.i∉l.map (·.i)→cnt (fun j=>if j=x.i then some v else E j) l=cnt E l:=by
   intro l
   induction l with
   | nil=>intro _;rfl
   | cons z l ih =>
    intro hn;simp only[bi,ao,not_or] at hn;have:=ih hn.2;unfold cnt at *
    rw[gg,gg];simp only[Ne.symm hn.1,if_false];split <;> simp[this]
  rcases ao.1 hx with rfl | hx
  · have:=same r hi.1
    unfold cnt at *
    rw[gg,gg];simp[he,this]
  · have hne:y.i≠x.i:=fun e=>hi.1 (by rw[e];exact eu hx)
    have:=ads (v:=v) hi.2 hx he;unfold cnt at *
    rw[gg,gg];simp only[hne,if_false];split <;> simp[this]
theorem Zs{E:Nat→Option ah}{al:List Al}(h:cnt E al=0):∀x∈al,∃v,E x.i=some v:=fun x hx=>by
 unfold cnt at h;have:=List.filter_eq_nil_iff.1 (ej h) x hx;cases he:E x.i with
 | none=>simp[he] at this
 | some v=>exact⟨v,rfl⟩
theorem akb{E:Nat→Option ah}{al:List Al}(h:0<cnt E al):∃x∈al,E x.i=none:=by
 unfold cnt at h;obtain⟨x,hx⟩:=List.length_pos_iff_exists_mem.1 h;obtain⟨h1,h2⟩:=List.mem_filter.1 hx;exact⟨x,h1,by simpa using h2⟩
def Je(base:Nat)(E:Nat→Option ah)(al:List Al)(w:aj):Prop :=
 (∀x∈al,∀v,E x.i=some v→∃g,v=.pointer (some ⟨g,0,none⟩)∧base≤g∧fK w g x.cs x.T) ∧
 (∀x∈al,∀y∈al,x.i≠y.i→∀g g',E x.i=some (.pointer (some ⟨g,0,none⟩))→E y.i=some (.pointer (some ⟨g',0,none⟩))→g≠g')
theorem Je.ext{base:Nat}{E:Nat→Option ah}{al:List Al}{w w':aj}(h:Je base E al w)(hE:fN w w'):Je base E al w' :=
 ⟨fun x hx v hv=>let ⟨g,e,hb,hB⟩:=h.1 x hx v hv;⟨g,e,hb,hB.ext hE⟩,h.2⟩
theorem Je.new{base:Nat}{E:Nat→Option ah}{al:List Al}{w:aj}(h:Je base E al w){x:Al}(hx:x∈al)(hi:(al.map (·.i)).Nodup)(he:E x.i=none)(hb:base≤w.heap.size) :
 Je base (fun j=>if j=x.i then some (.pointer (some ⟨w.heap.size,0,none⟩)) else E j) al (w.alloc (.cells x.cs.toArray x.T)):=by
 have huniq:∀y∈al,y.i=x.i→y=x:=by
  intro y hy e;clear h
  induction al with
  | nil=>cases hx
  | cons z r ih =>
   simp only[bi,gd] at hi;rcases ao.1 hx with rfl | hx'
   · rcases ao.1 hy with rfl | hy'
     · rfl
     · exact absurd (by rw[←e];exact eu hy') hi.1
   · rcases ao.1 hy with rfl | hy'
     · exact absurd (by rw[e];exact eu hx') hi.1
     · exact ih hx' hi.2 hy'
 refine⟨fun y hy v hv=>?_,fun y hy z hz hne g g' h1 h2=>?_⟩
 · by_cases e:y.i=x.i
   · obtain rfl:=huniq y hy e
     simp only[if_true] at hv;cases hv;exact⟨_,rfl,hb,iZ w _ _⟩
   · simp only[e,if_false] at hv
     obtain⟨g,e1,e2,e3⟩:=h.1 y hy v hv;exact⟨g,e1,e2,e3.ext ((fN.refl w).alloc _)⟩
 · by_cases e:y.i=x.i
   · have e':z.i≠x.i:=fun e2=>hne (e.trans e2.symm)
     simp only[e,if_true] at h1;simp only[e',if_false] at h2;cases h1;obtain⟨g2,e1,_,e3⟩:=h.1 z hz _ h2;cases e1;exact Nat.ne_of_gt e3.lt
   · by_cases e':z.i=x.i
     · simp only[e,if_false] at h1
       simp only[e',if_true] at h2;cases h2;obtain⟨g2,e1,_,e3⟩:=h.1 y hy _ h1;cases e1;exact Nat.ne_of_lt e3.lt
     · simp only[e,if_false] at h1
       simp only[e',if_false] at h2;exact h.2 y hy z hz hne g g' h1 h2
def Wg(md:Region.Mode)(ops:Array Oper)(n:Nat)(al:List Al):Bool :=
 decide ((al.map (·.i)).Nodup)&&decide ((al.map (·.d)).Nodup)&&(al.all fun x=>decide (x.i<n)) &&
 ((List.range n).all fun j=>(al.any fun x=>x.i == j)||match ops[j]? with
  | some o=>xG ops o al&&o.after.all fun e=>!Region.binds md e || !(al.any fun x=>x.i == e.on)
  | none=>true)
theorem sim{n g:Nat}{al:List Al}{L:Act→Prop}{Q':Exit→Act→aj→Prop}{tl:List Oper}(hsel:Region.noSelect ops=true)(hs:Region.sinkB md ops n=true)(hc:Region.chainB md ops n=true)(hn:n<ops.size)
 (hal:∀x∈al,xF P md ops x) (hB:Wg md ops n al=true) (htl:∀j,tl[j]? = ops[n+j]?) (hgl:tl.length=g)
 (hL:∀a E w,fN w0 w→Je w0.heap.size E al w→(∀x∈al,∃v,E x.i=some v)→L a→au P ops Q' tl (fI E al a) w) :
 ∀(k f:Nat) (E:Nat→Option ah) (lr lm:Array Bool) (a:Act) (w:aj),k=f+cnt E al→HeadInv md ops n lr→lm.size=lr.size→(∀j,lm.getD j false=(lr.getD j false||al.any fun x=>x.i == j)) →
  (∀x∈al,(E x.i=none↔lr.getD x.i false=false))→fN w0 w→Je w0.heap.size E al w →
  Oa P md ops w0 n (fun listed' a'=>Region.seqB md ops g n listed'=true∧L a') f lm a→wpAny P md ops Q' (k+g) lr (fI E al a) w:=by
 simp only[Wg,be,decide_eq_true_eq,dw,jb] at hB;obtain⟨⟨⟨hni,hnd⟩,hlt⟩,hcl⟩:=hB;intro k
 induction k with
 | zero =>
  intro f E lr lm a w hk inv hsz hlm hE hx hla H;obtain rfl:f=0:=by omega
  have h0:cnt E al=0:=by omega
  have hall:=Zs h0;have heq:lm=lr:=by
   apply pg hsz;intro j h1 h2;have h3:=hlm j;simp only[ll,fw h1,fw h2,cu] at h3;rw[h3];cases hlr:lr[j] with
   | true=>rfl
   | false =>
    rw[jh];cases hany:al.any fun x=>x.i == j with
    | false=>rfl
    | true =>
     obtain⟨x,hx1,hx2⟩:=dt.1 hany;have hx3:x.i=j:=by simpa using hx2
     obtain⟨v,hv⟩:=hall x hx1;have:lr.getD x.i false=false:=by
      rw[hx3,ll,fw h2];simpa using hlr
     rw[(hE x hx1).2 this] at hv;cases hv
  subst heq;obtain⟨H1,H2⟩:=H;rw[ar,←hgl];exact wpAny_of_seq (md:=md) tl n lm _ w htl (by rw[hgl];exact H1) (hL a E w hx hla hall H2)
 | succ k ih =>
  intro f E lr lm a w hk inv hsz hlm hE hx hla H;have getT:∀j,j<ops.size→lr.getD j false=false→lr.getD j true=false:=fun j hj h=>getD_in (by rw[inv.size];exact hj) h
  -- some head operation is not listed
  have hsome:∃j,j∈Region.ready md ops lr∧j<n:=by
   rcases ib (cnt E al) with h0 | h0
   · obtain⟨f,rfl⟩:∃q,f=q+1:=⟨f-1,by omega⟩
     obtain⟨hne,hr⟩:=H;obtain⟨j,hj⟩:=List.exists_mem_of_ne_nil _ hne;have hjn:=(hr j hj).1;refine⟨j,?_,hjn⟩;have hall:=Zs h0;obtain⟨hju,oj,hoj,hpre⟩:=mem_ready.1 hj;refine mem_ready.2 ⟨?_,oj,hoj,fun e he hb=>?_⟩
     · have h1:=hlm j
       rw[getD_both hju] at h1;have h2:lr.getD j false=false:=by
        cases h:lr.getD j false with
        | false=>rfl
        | true=>rw[h] at h1;simp at h1
       exact getT j (by omega) h2
     · have h1:=hlm e.on
       rw[hpre e he hb] at h1;cases h:lr.getD e.on false with
       | true=>rfl
       | false =>
        rw[h,jh] at h1;obtain⟨x,hx1,hx2⟩:=dt.1 h1.symm;have hx3:x.i=e.on:=by simpa using hx2
        obtain⟨v,hv⟩:=hall x hx1;rw[(hE x hx1).2 (by rw[hx3];exact h)] at hv;cases hv
   · obtain⟨x,hx1,hx2⟩:=akb h0
     obtain⟨ty,pos,after,hop,haf,_⟩:=hal x hx1;have hxn:x.i<n:=by simpa using hlt x hx1
     refine⟨x.i,mem_ready.2 ⟨getT _ (by omega) ((hE x hx1).1 hx2),_,hop,fun e he hb=>?_⟩,hxn⟩;have:=Array.all_eq_true_iff_forall_mem.1 haf e he;simp[hb] at this
  obtain⟨j0,hj0,hj0n⟩:=hsome;have hj0u:=(mem_ready.1 hj0).1;rw[show k+1+g=(k+g)+1 by omega];refine⟨fun h=>(by rw[h] at hj0;cases hj0),fun i hi=>?_⟩;have hin:i<n:=by
   rcases dl i n with h | h
   · exact h
   · exact absurd hi (tail_waits hs hc hn inv _ j0 rfl hj0n hj0u i h)
  obtain⟨hiu,oi,hoi,hpre⟩:=mem_ready.1 hi;by_cases hia:al.any (fun x=>x.i == i)=true
  · -- an allocation
    obtain⟨x,hx1,hx2⟩:=dt.1 hia;obtain rfl:x.i=i:=by simpa using hx2
    obtain⟨ty,pos,after,hop,haf,z,hz,hzc⟩:=hal x hx1;have hex:E x.i=none:=(hE x hx1).2 (getD_both hiu);obtain⟨inf,hinf,hinz⟩:=hz;unfold wpOp;simp only[hop];rw[if_pos (by simp[Region.wanted])];refine .inl ?_;have hrun:∀ρ:bg→ah,(cw ρ (bn (some x.d) (.alloc x.T) ty pos after none)).run P w=.ok (.value (.pointer (some ⟨w.heap.size,0,none⟩))) (w.alloc (.cells x.cs.toArray x.T)):=fun ρ=>by
     simp[cw,Instr.alloc,zeroValue,typeInfo,hinf,hinz,newVar,newRow,hzc,newObj,Sem.run]
    unfold lk;rw[hrun];show wpAny P md ops Q' (k+g) (lr.setIfInBounds x.i true) ((fI E al a).put (some x.d) (.pointer (some ⟨w.heap.size,0,none⟩))) _
    rw[Od hni hnd hx1 hex];have hc1:=ads (v:=.pointer (some ⟨w.heap.size,0,none⟩)) hni hx1 hex;have hxs:x.i<lr.size:=by rw[inv.size];omega
    refine ih f _ _ lm a _ (by omega) (inv.set hi hin) (by simp[hsz]) (fun j=>?_) (fun y hy=>?_) (hx.alloc _) (hla.new hx1 hni hex hx.size) H
    · rw[hlm j]
      by_cases e:x.i=j
      · subst e
        rw[hia];simp
      · rw[getD_set_ne false e]
    · by_cases e:x.i=y.i
      · rw[←e]
        simp[hxs]
      · rw[getD_set_ne false e]
        simp only[Ne.symm e,if_false];exact hE y hy
  · -- an operation that computes
    have hia':al.any (fun x=>x.i == i)=false:=by simpa using hia
    have hci:=hcl i hin;rw[hia',jh,hoi] at hci;simp only[be] at hci;have hready:i∈Region.ready md ops lm:=by
     refine mem_ready.2 ⟨?_,oi,hoi,fun e he hb=>by rw[hlm,hpre e he hb];rfl⟩;have h1:=hlm i;rw[getD_both hiu,hia'] at h1;exact getD_in (by rw[hsz,inv.size];omega) (by simpa using h1)
    cases f with
    | zero =>
     obtain⟨H1,H2⟩:=H;have:=seqB_ready H1 i hready;omega
    | succ f =>
     obtain⟨_,o,v,ho,hy,hK⟩:=H.2 i hready;rw[hoi] at ho;cases ho;have hse:∀cs b,oi.op≠.select cs b:=fun cs b=>Region.noSelect_spec hsel i oi cs b hoi;obtain⟨e1,e2⟩:=Ah (E:=E) hse hci.1 a;have hy':=hy.of_same e1 e2;have key:∀w',fN w w'→wpAny P md ops Q' (k+g) (lr.setIfInBounds i true) ((fI E al a).put oi.dst v) w':=fun w' hw'=>by
      rw[Er hci.1];refine ih f E _ _ _ w' (by omega) (inv.set hi hin) (by simp[hsz]) (fun j=>?_) (fun y hy=>?_) (hx.trans hw') (hla.ext hw') hK
      · by_cases e:i=j
        · subst e
          have h1:i<lr.size:=by rw[inv.size];omega
          simp[h1,hsz]
        · rw[getD_set_ne false e,getD_set_ne false e,hlm j]
      · have e:i≠y.i:=fun e=>by
         have:al.any (fun x=>x.i == i)=true:=dt.2 ⟨y,hy,by simp[e]⟩;rw[hia'] at this;cases this
        rw[getD_set_ne false e];exact hE y hy
     unfold wpOp;simp only[hoi];rcases hy' with ⟨hw,hv⟩ | ⟨hw,rfl⟩
     · rw[if_pos hw]
       refine .inl ?_;have h3:=hv w hx;unfold k_ at h3;unfold lk;generalize (cw (fI E al a).eval oi).run P w=r at *
       cases r with
       | ok nx w' =>
        cases nx <;> simp only[Oper.quietUpon] at h3 <;> simp only[mj]
        case value u =>
         obtain⟨e1,e2⟩:=h3;rw[e1,e2];exact key w (fN.refl w)
        case skip =>
         obtain⟨e1,e2⟩:=h3;rw[e1,←e2];exact key w (fN.refl w)
        case enter f' args =>
         obtain⟨e1,hcl⟩:=h3;rw[e1];exact hcl.mono fun e w'' ⟨he,hw''⟩=>by subst he;exact key w'' hw''
       | halt x w'=>simp only[Oper.quietUpon] at h3
     · rw[if_neg (by rw[hw];simp)]
       exact key w (fN.refl w)
theorem eD{id:Nat}{Q:Exit→Act→aj→Prop}{a:Act}{w:aj}{l:List Oper}(n:Nat)(idx:List Nat)(al:List Al)(hm:P.follows .mixedOrders=true)
 (hB:(Region.noSelect l.toArray&&decide (n<l.length)&&Region.sinkB .any l.toArray n&&Region.chainB .any l.toArray n&&Wg .any l.toArray n al&&decide (n=idx.length+al.length) &&
  agE .any l.toArray (l.length-n) n idx (al.foldl (fun s x=>s.setIfInBounds x.i true) (fl l.toArray.size false)))=true)
 (hal:∀x∈al,xF P .any l.toArray x) {ol:List Oper} (hol:(idx.map fun i=>(l.toArray[i]?).getD default)=ol)
 (h:∀w1,fN w w1→Ag P l.toArray w1 (fun a'=>∀E w',fN w1 w'→Je w1.heap.size E al w'→(∀x∈al,∃v,E x.i=some v)→au P l.toArray Q (l.drop n) (fI E al a') w') ol a):(Code.region id l.toArray true).wp P Q a w:=by
 simp only[be,decide_eq_true_eq] at hB;obtain⟨⟨⟨⟨⟨⟨hsel,hn⟩,hs⟩,hc⟩,hf⟩,hlen⟩,hlex⟩:=hB;subst hol;have hn':n<l.toArray.size:=by simpa using hn
 have hf':=hf;simp only[Wg,be,decide_eq_true_eq,dw,jb] at hf';obtain⟨⟨⟨hni,hnd⟩,hlt⟩,hcl⟩:=hf';generalize hlm:al.foldl (fun s x=>s.setIfInBounds x.i true) (fl l.toArray.size false)=lm at hlex;have hfold:∀(r:List Al) (s:Array Bool),(r.foldl (fun s x=>s.setIfInBounds x.i true) s).size=s.size∧∀j,j<s.size→(r.foldl (fun s x=>s.setIfInBounds x.i true) s).getD j false=(s.getD j false||r.any fun x=>x.i == j):=by
  intro r
  induction r with
  | nil=>intro s;exact⟨rfl,fun j _=>by simp⟩
  | cons x r ih =>
   intro s;obtain⟨h1,h2⟩:=ih (s.setIfInBounds x.i true);refine⟨by rw[iv,h1];simp,fun j hj=>?_⟩;rw[iv,h2 j (by simpa using hj),List.any_cons];by_cases e:x.i=j
   · subst e
     simp[hj]
   · have e2:(x.i == j)=false:=by simpa using e
     rw[getD_set_ne false e,e2,jh]
 obtain⟨hsz,hget⟩:=hfold al (fl l.toArray.size false);rw[hlm] at hsz hget;have hsz':lm.size=l.toArray.size:=by rw[hsz];simp
 have hlmj:∀j,lm.getD j false=al.any fun x=>x.i == j:=fun j=>by
  rcases dl j l.toArray.size with hj | hj
  · rw[hget j (by simpa using hj),getD_replicate_false,jh]
  · have h1:lm.getD j false=false:=by rw[ll,Array.getElem?_eq_none (by omega)];rfl
    rw[h1]
    symm
    rw[Bool.eq_false_iff];intro h2;obtain⟨x,hx1,hx2⟩:=dt.1 h2;have hx3:x.i=j:=by simpa using hx2
    have:x.i<n:=by simpa using hlt x hx1
    omega
 have inv0:HeadInv .any l.toArray n (fl l.toArray.size false) :=
  ⟨by simp,fun j oj _ hl=>(by rw[getD_replicate_false] at hl;cases hl),fun t _ ht=>getD_in (by simpa using ht) (getD_replicate_false _ _)⟩
 have invm:HeadInv .any l.toArray n lm:=by
  refine⟨hsz',fun j oj hoj hl e he hb=>?_,fun t ht ht'=>getD_in (by rw[hsz'];exact ht') ?_⟩
  · rw[hlmj] at hl
    obtain⟨x,hx1,hx2⟩:=dt.1 hl;have hx3:x.i=j:=by simpa using hx2
    obtain⟨ty,pos,after,hop,haf,_⟩:=hal x hx1;rw[hx3,hoj] at hop;cases hop;have:=Array.all_eq_true_iff_forall_mem.1 haf e he;simp[hb] at this
  · rw[hlmj,Bool.eq_false_iff]
    intro h2;obtain⟨x,hx1,hx2⟩:=dt.1 h2;have hx3:x.i=t:=by simpa using hx2
    have:x.i<n:=by simpa using hlt x hx1
    omega
 refine wp_region_any hm ?_;obtain⟨w1,hw1⟩:∃w1,w1=({ w with drawn:=w.drawn+1 }:aj):=⟨_,rfl⟩
 rw[←hw1];have hx1:fN w w1:=by rw[hw1];exact (fN.refl w).drawn
 have H:=Oc (md:=.any) (g:=l.length-n) hsel hs hc hn' idx lm a invm hlex (h w1 hx1);have hcnt:cnt (fun _=>none) al=al.length:=by
  unfold cnt;simp
 have key:=sim (md:=.any) (P:=P) (ops:=l.toArray) (w0:=w1) (Q':=Q) (tl:=l.drop n) (g:=l.length-n) (al:=al) hsel hs hc hn' hal hf (fun j=>by simp[d_]) (by simp) (fun a E w' hw' hla hall hL=>hL E w' hw' hla hall)
  (idx.length+al.length) idx.length (fun _=>none) (fl l.toArray.size false) lm a w1 (by rw[hcnt]) inv0 (by rw[hsz'];simp) (fun j=>by rw[getD_replicate_false,jh];exact hlmj j)
  (fun x _=>⟨fun _=>getD_replicate_false _ _,fun _=>rfl⟩) (fN.refl w1) ⟨fun x _ v hv=>(by cases hv),fun x _ y _ _ g g' h1 _=>(by cases h1)⟩ H
 have hap:∀r:List Al,fI (fun _=>none) r a=a:=by
  intro r
  induction r with
  | nil=>rfl
  | cons x r ih=>exact ih
 rw[hap,←hlen] at key;have e:n+(l.length-n)=l.toArray.size:=by rw[List.size_toArray];omega
 rwa [e] at key
end
section
variable {P:bh} {ops:Array Oper} {w0:aj} {L:Act→Prop} {ds:List cn} {l:List ah} {rest:List Oper} {d:Nat} {op:Op} {ty:an} {pos:String} {after:Array Edge} {v:ah} {x y:bg} {T:an}
theorem agF(hr:∀w,fN w0 w→yR P l op ty v w)(h:Ag P ops w0 L rest (Fr (l.set d v) ds)):Ag P ops w0 L (bn (some d) op ty pos after none::rest) (Fr l ds):=by
 refine⟨v,.inl ⟨by simp[Region.wanted],fun w hw=>?_⟩,?_⟩
 · unfold k_
   rw[jV,hr w hw _ rfl rfl];exact⟨rfl,rfl⟩
 · show Ag P ops w0 L rest ((Fr l ds).put (some d) v)
   rw[iB];exact h
theorem iR(hr:iG P l op ty v)(h:Ag P ops w0 L rest (Fr (l.set d v) ds)):Ag P ops w0 L (bn (some d) op ty pos after none::rest) (Fr l ds):=agF (fun w _=>hr w) h
theorem eB{a:Addr}(hx:ev l x=.pointer (some a))(hv:∀w',fN w0 w'→fL P w' T a v)(h:Ag P ops w0 L rest (Fr (l.set d v) ds)):Ag P ops w0 L (bn (some d) (.load T x) ty pos after none::rest) (Fr l ds) :=
 agF (fun _ hE=>aU hx (hv _ hE)) h
theorem akc{f:FuncId}{fo:bg}{xs:Array bg}{args:List ah}{first cap:Array ah}{a0:Array an}(hf:ev l fo=.func (.func f) first cap)(hxs:first.toList++xs.toList.map (ev l)++cap.toList=args)(hc:∀w',fN w0 w'→dJ P f args w' fun u _=>u=v)
 (h:Ag P ops w0 L rest (Fr (l.set d v) ds)):Ag P ops w0 L (bn (some d) (.call { callee:=.value fo,args:=xs,argTypes:=a0 }) ty pos after none::rest) (Fr l ds):=by
 refine⟨v,.inl ⟨by simp[Region.wanted],fun w hw=>?_⟩,?_⟩
 · unfold k_
   rw[jV,oY (hc w hw).1 hf hxs _ rfl];refine⟨rfl,(hc w hw).2.mono ?_⟩;rintro e w'' ⟨u,rfl,hE,rfl⟩;exact⟨rfl,hE⟩
 · show Ag P ops w0 L rest ((Fr l ds).put (some d) v)
   rw[iB];exact h
theorem eO{f:FuncId}{fo:bg}{xs:Array bg}{args:List ah}{first cap:Array ah}{a0:Array an}(hf:ev l fo=.func (.func f) first cap)(hxs:first.toList++xs.toList.map (ev l)++cap.toList=args)(hc:dL P f args v)
 (h:Ag P ops w0 L rest (Fr (l.set d v) ds)):Ag P ops w0 L (bn (some d) (.call { callee:=.value fo,args:=xs,argTypes:=a0 }) ty pos after none::rest) (Fr l ds) :=
 akc hf hxs (fun w' _=>hc w') h
theorem yM(h:L (Fr l ds)):Ag P ops w0 L [] (Fr l ds):=h
theorem al1{md:Region.Mode}{x:Al}(h:xF P md ops x):∀y∈[x],xF P md ops y:=fun y hy=>by
 rcases ao.1 hy with rfl | hy
 · exact h
 · cases hy
theorem al2{md:Region.Mode}{x y:Al}(h:xF P md ops x)(k:xF P md ops y):∀z∈[x,y],xF P md ops z:=fun z hz=>by
 rcases ao.1 hz with rfl | hz
 · exact h
 · exact al1 k z hz
variable {Q:Exit→Act→aj→Prop} {tl:List Oper}
theorem aoK{i d:Nat}{T:an}{cs:List ah}(h:∀w' g,fN w0 w'→w0.heap.size≤g→fK w' g cs T→au P ops Q tl (Fr (l.set d (.pointer (some ⟨g,0,none⟩))) ds) w') :
 ∀E w',fN w0 w'→Je w0.heap.size E [⟨i,d,T,cs⟩] w'→(∀x∈[(⟨i,d,T,cs⟩:Al)],∃v,E x.i=some v)→au P ops Q tl (fI E [⟨i,d,T,cs⟩] (Fr l ds)) w':=fun E w' hE hL hv=>by
 obtain⟨v,hv⟩:=hv ⟨i,d,T,cs⟩ (by simp);obtain⟨g,rfl,hg,hB⟩:=hL.1 ⟨i,d,T,cs⟩ (by simp) v hv;have e:fI E [⟨i,d,T,cs⟩] (Fr l ds)=Fr (l.set d (.pointer (some ⟨g,0,none⟩))) ds:=by
  simp only[fI,hv];exact iB _ _
 rw[e];exact h w' g hE hg hB
theorem aoL{i d j e:Nat}{T U:an}{cs us:List ah}(hij:i≠j)(h:∀w' g k,fN w0 w'→w0.heap.size≤g→w0.heap.size≤k→fK w' g cs T→fK w' k us U→k≠g→au P ops Q tl (Fr ((l.set d (.pointer (some ⟨g,0,none⟩))).set e (.pointer (some ⟨k,0,none⟩))) ds) w') :
 ∀E w',fN w0 w'→Je w0.heap.size E [⟨i,d,T,cs⟩,⟨j,e,U,us⟩] w'→(∀x∈[(⟨i,d,T,cs⟩:Al),⟨j,e,U,us⟩],∃v,E x.i=some v)→au P ops Q tl (fI E [⟨i,d,T,cs⟩,⟨j,e,U,us⟩] (Fr l ds)) w':=fun E w' hE hL hv=>by
 obtain⟨v,h1⟩:=hv ⟨i,d,T,cs⟩ (by simp);obtain⟨u,h2⟩:=hv ⟨j,e,U,us⟩ (by simp);obtain⟨g,rfl,hg,hB⟩:=hL.1 ⟨i,d,T,cs⟩ (by simp) v h1;obtain⟨k,rfl,hk,hK⟩:=hL.1 ⟨j,e,U,us⟩ (by simp) u h2;have e':fI E [⟨i,d,T,cs⟩,⟨j,e,U,us⟩] (Fr l ds)=Fr ((l.set d (.pointer (some ⟨g,0,none⟩))).set e (.pointer (some ⟨k,0,none⟩))) ds:=by
  simp only[fI,h1,h2];rw[iB,iB]
 rw[e'];exact h w' g k hE hg hk hB hK (Ne.symm (hL.2 ⟨i,d,T,cs⟩ (by simp) ⟨j,e,U,us⟩ (by simp) hij g k h1 h2))
end
end Go.Lith
namespace Go.Lith
section
variable {P:bh} {ops:Array Oper} {w0:aj} {ds:List cn} {l:List ah} {Q:Exit→Act→aj→Prop} {tl:List Oper}
end
end Go.Lith
namespace Go.Lith
open Go.RowKit
section
variable {P:bh} {ds:List cn} {l:List ah} {T ty:an} {ops:Array Oper} {Q:Exit→Act→aj→Prop} {rest:List Oper} {d:Nat} {pos:String} {after:Array Edge} {w:aj}
theorem lN{E:an}{c n:Nat}{z:ah}{parts:Array (Nat × bg)}{vs:Array (Nat × ah)}{base:Array ah}{cs:List ah}(hu:P.underlying T=some (.slice E))(hi:(P.info? E).map (fun i=>(i.size,i.zero))=some (c,some z))(h0:n*c≠0)(h24:n*c≤16777216)
 (hb:((oa (n*c)).map fun i=>z.cells[i%z.cells.size]!)=base) (hp:(parts.map fun (i,x)=>(i,ev l x))=vs) (hf:Instr.fill (fun i=>some (i*c,c)) base vs.toList=some cs.toArray)
 (h:∀w' g,fN w w'→w.heap.size≤g→fK w' g cs E→au P ops Q rest (Fr (l.set d (.slice (some ⟨g,0,none⟩) n n)) ds) w') :
 au P ops Q (bn (some d) (.buildSlice T n parts) ty pos after none::rest) (Fr l ds) w:=by
 subst hb;subst hp;cases hq:P.info? E with
 | none=>rw[hq] at hi;cases hi
 | some i =>
  rw[hq] at hi;simp only[fa,fx,fp] at hi;obtain⟨e1,e2⟩:=hi;have e:(Fr l).eval=ev l:=funext cJ;have h24':¬16777216<n*c:=by omega
  refine lY (w':=w.alloc (.cells cs.toArray E)) (v:=.slice (some ⟨w.heap.size,0,none⟩) n n) (fun o ho _=>?_) (h _ _ ((fN.refl w).alloc _) (av _) (iZ w cs E));simp only[cw,ho,e];simp[Instr.buildSlice,bx hu,sizeOf,typeInfo,zeroValue,hq,e1,e2,h24',newRow,newObj,Sem.run] at hf ⊢;rw[if_neg h0];simp[hf];rfl
end
structure P3 where
 x:Int
 y:Int
 z:Int
structure T3 where
 a:P3
 b:P3
 c:P3
namespace P3
def sub(p q:P3):P3:=⟨p.x-q.x,p.y-q.y,p.z-q.z⟩
def dot(p q:P3):Int:=p.x*q.x+p.y*q.y+p.z*q.z
def cross(u v:P3):P3:=⟨u.y*v.z-u.z*v.y,u.z*v.x-u.x*v.z,u.x*v.y-u.y*v.x⟩
end P3
def T3.normal(t:T3):P3:=(t.b.sub t.a).cross (t.c.sub t.a)
def pt(p:P3):Go.Value:=.agg #[.int .i64 p.x,.int .i64 p.y,.int .i64 p.z]
def tr(t:T3):Go.Value:=.agg #[.int .i64 t.a.x,.int .i64 t.a.y,.int .i64 t.a.z,.int .i64 t.b.x,.int .i64 t.b.y,.int .i64 t.b.z,.int .i64 t.c.x,.int .i64 t.c.y,.int .i64 t.c.z]
def wv(v:P3):Go.Value:=.agg #[.bool (fP v.x),.string (jX v.x),.bool (fP v.y),.string (jX v.y),.bool (fP v.z),.string (jX v.z)]
theorem Bw.up{k m:Nat}{n:Int}[x:Bw k n](h:k≤m:=by decide):Bd m n:=x.h.mono h
theorem Jf:jX 0=⟨#[]⟩:=by
 have:mC 0=[]:=by
  unfold mC;rw[(uN (B:=256) (by omega)).2 rfl];rfl
 simp only[jX,Int.natAbs_zero,this]
theorem Wh:W 0=.agg #[.bool false,.string ⟨#[]⟩]:=by simp only[W,Jf];rfl
class Iw(n:Int):Prop where
 h:yL n
class I3(p:P3):Prop where
 x:yL p.x
 y:yL p.y
 z:yL p.z
class IT(t:T3):Prop where
 a:I3 t.a
 b:I3 t.b
 c:I3 t.c
instance {p:P3}[h:I3 p]:Iw p.x:=⟨h.x⟩
instance {p:P3}[h:I3 p]:Iw p.y:=⟨h.y⟩
instance {p:P3}[h:I3 p]:Iw p.z:=⟨h.z⟩
instance {t:T3}[h:IT t]:I3 t.a:=h.a
instance {t:T3}[h:IT t]:I3 t.b:=h.b
instance {t:T3}[h:IT t]:I3 t.c:=h.c
instance {n:Int}[h:Iw n]:Bw 64 n:=⟨h.h.bd⟩
class Bv(k:outParam Nat)(v:P3):Prop where
 x:Bd k v.x
 y:Bd k v.y
 z:Bd k v.z
instance {k:Nat}{v:P3}[h:Bv k v]:Bw k v.x:=⟨h.x⟩
instance {k:Nat}{v:P3}[h:Bv k v]:Bw k v.y:=⟨h.y⟩
instance {k:Nat}{v:P3}[h:Bv k v]:Bw k v.z:=⟨h.z⟩
theorem Bv.mono{k m:Nat}{v:P3}(h:Bv k v)(hk:k≤m):Bv m v:=⟨h.x.mono hk,h.y.mono hk,h.z.mono hk⟩
theorem Bv.of{k m:Nat}{v:P3}[h:Bv k v](hk:k≤m:=by decide):Bv m v:=h.mono hk
instance {p q:P3}[a:I3 p][b:I3 q]:Bv 65 (p.sub q):=⟨a.x.bd.sub b.x.bd,a.y.bd.sub b.y.bd,a.z.bd.sub b.z.bd⟩
theorem Wi{k l:Nat}{a b c d:Int}(ha:Bd k a)(hb:Bd l b)(hc:Bd k c)(hd:Bd l d):Bd (k+l+1) (a*b-c*d):=by
 have:=(ha.mul hb).sub (hc.mul hd);exact this.mono (by omega)
theorem agG{k l:Nat}{a b c d:Int}(ha:Bd k a)(hb:Bd l b)(hc:Bd k c)(hd:Bd l d):Bd (k+l+1) (a*b+c*d):=by
 have:=(ha.mul hb).add (hc.mul hd);exact this.mono (by omega)
instance {k l:Nat}{u v:P3}[a:Bv k u][b:Bv l v]:Bv (k+l+1) (u.cross v):=⟨Wi a.y b.z a.z b.y,Wi a.z b.x a.x b.z,Wi a.x b.y a.y b.x⟩
instance {k l:Nat}{u v:P3}[a:Bv k u][b:Bv l v]:Bw (k+l+2) (u.dot v):=⟨((agG a.x b.x a.y b.y).add (a.z.mul b.z)).mono (by omega)⟩
instance {t:T3}[h:IT t]:Bv 131 t.normal:=inferInstanceAs (Bv 131 ((t.b.sub t.a).cross (t.c.sub t.a)))
theorem P3.dot0{u v:P3}:0+u.x*v.x+u.y*v.y+u.z*v.z=u.dot v:=by simp only[P3.dot,Int.zero_add]
section
variable {P:bh} {Q:Exit→Act→aj→Prop} {a:Act} {w:aj} {c:Code} {n:Nat}
theorem Ai(h:c.wp P (Exit.then (Code.rounds P c Q n) Q) a w):Code.rounds P c Q (n+1) a w:=h
theorem lC(h:c.wp P (Exit.then (Code.rounds P c Q n) Q) a w):Exit.then (Code.rounds P c Q (n+1)) Q .normal a w:=h
end
end Go.Lith
