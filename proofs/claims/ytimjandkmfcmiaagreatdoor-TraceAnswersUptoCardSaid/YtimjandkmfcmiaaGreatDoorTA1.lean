/-
 Texts of one claim, laid together: Ext, Ops, Al, Ops2, Upd, Held, Eq, Facts, Nat, Nat2, Nat3, Nat4, Nat5, Nat6, Nat7, Nat8, Ops3, Nat9, Nat10, Nat11, Nat12.
-/
import Derived.WalkKit
import Derived.StillTail
import Derived.Deep.Quiet
import Derived.BigQuiet
import Derived.Laws.Rows
import Derived.Laws.IdiomCopy
import Derived.Laws.CopyRow
import Derived.OrdersHeld
import Derived.Laws.StructEq
import Derived.ChangeKeysEq
import Derived.Test.YtimjandkmfcmiaaGreatDoorProg
import Derived.Laws.IdiomStrings
import Derived.Laws.BytesArg
import Derived.RangeFuncBox
import Derived.RangeFuncLeaves
open Go.Exit renaming «then»→af
open Nat renaming zero_add→ah,lt_of_lt_of_le→ai,le_trans→ak,le_refl→bi,lt_or_ge→cn,min_eq_left→co,mul_le_mul_left→df,mul_comm→dw,lt_of_le_of_lt→d_,eq_zero_or_pos→eg,pow_le_pow_right→eh,mul_le_mul_right→ei,pow_succ→el,add_mul→e_,add_sub_cancel→fe,mul_zero→fk,mod_lt→ft,add_zero→fx,div_le_self→fy,mul_add→gk,one_mul→gl,div_lt_iff_lt_mul→gv,mod_eq_of_lt→gy,mul_le_mul→iq,pow_pos→iv,mul_one→jg,pow_add→jh,le_sub_one_of_lt→ju,lt_of_mul_lt_mul_right→jw,lt_of_mul_lt_mul_left→kf,div_add_mod→kl,pow_succ'→ky,pow_mul→kz,add_assoc→ly,mul_assoc→lz
open Go renaming Value→aj,World→aw,TypeId→be,wpList→bh,Operand→bm,run_underlying→bt,Program→cj,wpQuiet→ck,execOp→cm,Deferred→dp
open Rat renaming divInt→am
open Int renaming toNat_natCast→an,fdiv_eq_ediv_of_nonneg→fc,tdiv_eq_ediv_of_nonneg→fm,gcd→gb,natCast_mul→ii,natAbs_tdiv→jp,ofNat_tdiv→jv,neg_neg→jx,tdiv_neg→me,neg_tdiv→mf,ofNat_tmod→mp,not_lt→mw
open List renaming getElem?_eq_getElem→ao,length_append→bg,getElem?_eq_none→bj,replicate→bk,length_take→bl,take_of_length_le→bp,eq_nil_of_length_eq_zero→bz,length_cons→ci,getElem?_drop→cx,take_length→c_,getElem?_map→db,drop_eq_getElem_cons→dc,map_cons→dh,eq_of_mem_replicate→di,getElem_mem→dl,append_nil→du,getElem?_take→dz,cons_append→ep,ext_getElem?→er,append_assoc→et,getElem?_set_ne→fl,take_append_drop→fv,getElem_set_self→gu,take_zero→h_,mem_of_mem_drop→ia,toList_toArray→ik,getElem_set_ne→i_,drop_append→jc,drop_eq_nil_of_le→ku,drop_drop→mr
open Bool renaming and_eq_true→bu
open Go.Oper renaming mk→bx,wp→ke,upon→ll
open UInt8 renaming ofNat→cv,toNat_ofNat'→fz,toNat→ib,toNat_inj→km
open Array renaming getElem?_eq_some_iff→cy,mapM_eq_mapM_toList→eo,replicate→ff,range→mo,ext'→mx,map→my
open BitVec renaming ofInt→da,toNat_ofInt→jj
open Option renaming isSome_iff_exists→dg,getD_some→dt,map_some→fb
open Prod.mk renaming injEq→fp
open Option.some renaming injEq→fu
open Go.Value renaming int→gi
open Go.IntKind renaming signed→ks,wrap→lj,bits→lk
set_option linter.unusedSimpArgs false
set_option linter.unusedVariables false
set_option linter.unusedSectionVars false
namespace Go.Lith
open Go.RowKit
def dU(w w':aw):Prop:=Below w.heap.size w w'
theorem dU.refl(w:aw):dU w w:=Below.refl _ _
theorem dU.size{w w':aw}(h:dU w w'):w.heap.size≤w'.heap.size:=Below.size h
theorem dU.trans{a b c:aw}(h:dU a b)(k:dU b c):dU a c:=Below.trans h (Below.mono k h.size)
theorem dU.drawn{w w':aw}(h:dU w w'):dU w { w' with drawn:=w'.drawn+1 }:=Below.drew h
theorem dU.alloc{w w':aw}(h:dU w w')(o:Obj):dU w (w'.alloc o):=Below.alloc h h.size o
theorem dU.block{w w':aw}(h:dU w w'){k:Nat}{o:Obj}(hk:w.heap[k]? = some o):w'.heap[k]? = some o :=
 (Below.block h k (cy.1 hk).1).trans hk
theorem dU.cell{w w':aw}(h:dU w w'){p:Addr}{v:aj}(hp:w.cell? p=some v):w'.cell? p=some v :=
 (Below.cell h (World.block_lt_of_cell? _ _ hp)).trans hp
section
variable {P:cj} {ops:Array Oper} {md:Region.Mode} {C:aw→Prop}
def Da(P:cj)(md:Region.Mode)(ops:Array Oper)(C:aw→Prop)(n:Nat)(L:Array Bool→Act→Prop):Nat→Array Bool→Act→Prop
 | 0,listed,a=>L listed a
 | f+1,listed,a =>
  Region.ready md ops listed≠[]∧∀i∈Region.ready md ops listed,i<n∧qOp P ops C i (Da P md ops C n L f (listed.setIfInBounds i true)) a
theorem uS{n g:Nat}{L:Array Bool→Act→Prop}{Q':Exit→Act→aw→Prop}(hL:∀listed a,L listed a→∀w,C w→wpAny P md ops Q' g listed a w) :
 ∀(f:Nat) (listed:Array Bool) (a:Act) (w:aw),C w→Da P md ops C n L f listed a→wpAny P md ops Q' (f+g) listed a w
 | 0,listed,a,w,hw,h=>by rw[ah];exact hL _ _ h w hw
 | f+1,listed,a,w,hw,h=>by
  rw[show f+1+g=(f+g)+1 by omega];exact⟨fun h0=>absurd h0 h.1,fun i hi=>wpOp_of_qOp hw (fun a' w' hw' h'=>uS hL f _ a' w' hw' h') (h.2 i hi).2⟩
theorem Im{n i:Nat}{oi:Oper}{v:aj}{L:Array Bool→Act→Prop}(hi:ops[i]? = some oi)(hsel:∀(j:Nat) (o:Oper) cs b,ops[j]? = some o→o.op≠.select cs b)
 (hs:Region.sinkB md ops n=true) (hc:Region.chainB md ops n=true) (hn:n<ops.size) (hin:i<n)
 (hdone:∀listed a,L listed a→∀j∈Region.ready md ops listed,n≤j) :
 ∀(f:Nat) (listed:Array Bool) (a:Act),HeadInv md ops n listed →
  (∀j oj,ops[j]? = some oj→j≠i→listed.getD j true=false→(∀e∈oj.after,Region.binds md e=true→e.on≠i)→oi.apart ops oj=true) →
  i∈Region.ready md ops listed→YieldsIn P ops C oi v a →
  Da P md ops C n L f (listed.setIfInBounds i true) (a.put oi.dst v)→Da P md ops C n L (f+1) listed a:=by
 intro f
 induction f with
 | zero =>
  intro listed a inv _ hr hy H;have hun:=(mem_ready.1 hr).1;refine⟨fun h=>(by rw[h] at hr;cases hr),fun j hj=>?_⟩;have hjn:j<n:=by
   rcases cn j n with h | h
   · exact h
   · exact absurd hj (tail_waits hs hc hn inv _ i rfl hin hun j h)
  refine⟨hjn,?_⟩;by_cases hji:j=i
  · subst hji;exact hy.qOp hi H
  · have:=hdone _ _ H j (ready_mono hj hji)
    omega
 | succ f ih =>
  intro listed a inv hfree hr hy H;have hun:=(mem_ready.1 hr).1;refine⟨fun h=>(by rw[h] at hr;cases hr),fun j hj=>?_⟩;have hjn:j<n:=by
   rcases cn j n with h | h
   · exact h
   · exact absurd hj (tail_waits hs hc hn inv _ i rfl hin hun j h)
  refine⟨hjn,?_⟩;by_cases hji:j=i
  · subst hji;exact hy.qOp hi H
  · have h1:=(H.2 j (ready_mono hj hji)).2
    obtain⟨hjun,oj,hoj,hall⟩:=mem_ready.1 hj;have hnot:∀e∈oj.after,Region.binds md e=true→e.on≠i:=fun e he hb heq=>by
     have h1:=hall e he hb;rw[heq,getD_both hun] at h1;cases h1
    have h2:=qOp_put hoj (hfree j oj hoj hji hjun hnot) (fun cs b=>hsel i oi cs b hi) (fun cs b=>hsel j oj cs b hoj) hy h1;have hfree':∀k ok,ops[k]? = some ok→k≠i→(listed.setIfInBounds j true).getD k true=false →
     (∀e∈ok.after,Region.binds md e=true→e.on≠i)→oi.apart ops ok=true:=fun k ok hk hki hun hno=>by
     refine hfree k ok hk hki ?_ hno;by_cases hjk:j=k
     · subst hjk;exact hjun
     · rw[getD_set_ne true hjk] at hun;exact hun
    refine qOp_mono (fun a' h3=>ih (listed.setIfInBounds j true) a' (inv.set hj hjn) hfree' (ready_mono hr (Ne.symm hji)) h3.1 ?_) h2;rw[Array.setIfInBounds_comm _ _ hji];exact h3.2
theorem Db{n g:Nat}{Lq:Act→Prop}(hsel:Region.noSelect ops=true)(hs:Region.sinkB md ops n=true)(hc:Region.chainB md ops n=true)(hn:n<ops.size) :
 ∀(l:List Oper) (k:Nat) (listed:Array Bool) (a:Act),(∀j,j<l.length→l[j]? = ops[k+j]?)→k+l.length=n→HeadInv md ops n listed →
 Region.lexHead md ops g l.length k listed=true→ck P ops C Lq l a →
 Da P md ops C n (fun listed' a'=>Region.seqB md ops g n listed'=true∧Lq a') l.length listed a
 | [],k,listed,a,_,hk,_,hB,h=>by
  have:k=n:=by simpa using hk
  subst this;exact⟨by simpa[Region.lexHead] using hB,h⟩
 | o::l,k,listed,a,hl,hk,inv,hB,h=>by
  have h0:ops[k]? = some o:=by simpa using (hl 0 (by simp)).symm
  simp only[ci,Region.lexHead,bu] at hB;obtain⟨⟨hr,hf⟩,hB'⟩:=hB;have hkn:k<n:=by simp only[ci] at hk;omega
  have hr':k∈Region.ready md ops listed:=by simpa using hr
  have hst:qOp P ops C k (ck P ops C Lq l) a:=by unfold qOp;simp only[h0];exact h
  obtain⟨v,hy,hK⟩:=yieldsIn_of_qOp h0 hst;exact Im h0 (Region.noSelect_spec hsel) hs hc hn hkn (fun listed' a' hL=>seqB_ready hL.1) l.length listed a inv (Region.free_spec h0 hf) hr' hy
   (Db hsel hs hc hn l (k+1) _ _ (fun j hj=>by have:=hl (j+1) (by simp;omega);simpa[ly,Nat.add_comm 1 j] using this) (by simp only[ci] at hk;omega) (inv.set hr' hkn) hB' hK)
theorem oS{id:Nat}{Q:Exit→Act→aw→Prop}{a:Act}{w:aw}{l:List Oper}(n:Nat)(hm:P.follows .mixedOrders=true)(hB:Region.lexTailB .any l.toArray n=true)
 (hC:C { w with drawn:=w.drawn+1 })
 (h:ck P l.toArray C (fun a'=>∀w',C w'→bh P l.toArray Q (l.drop n) a' w') (l.take n) a):(Code.region id l.toArray true).wp P Q a w:=by
 simp only[Region.lexTailB,bu,decide_eq_true_eq] at hB;obtain⟨⟨⟨⟨hsel,hn⟩,hs⟩,hc⟩,hlex⟩:=hB;have hn':n<l.length:=by simpa using hn
 have htl:(l.take n).length=n:=by simp;omega
 have hdl:(l.drop n).length=l.toArray.size-n:=by simp
 have inv0:HeadInv .any l.toArray n (ff l.toArray.size false) :=
  ⟨by simp,fun j oj _ hl=>(by rw[getD_replicate_false] at hl;cases hl),fun t _ ht=>getD_in (by simpa using ht) (getD_replicate_false _ _)⟩
 have H:=Db (md:=.any) (g:=l.toArray.size-n) hsel hs hc hn (l.take n) 0 _ a (fun j hj=>by
  have hj':j<n:=by rw[htl] at hj;exact hj
  simp[hj']) (by simpa using htl) inv0 (by rw[htl];exact hlex) h
 refine wp_region_any hm ?_;have:=uS (Q':=Q) (g:=l.toArray.size-n) (fun listed a' hL w' hw'=>by
  have:=wpAny_of_seq (md:=.any) (Q':=Q) (l.drop n) n listed a' w' (fun j=>by simp[cx]) (by rw[hdl];exact hL.1) (hL.2 w' hw');rwa [hdl] at this) _ _ _ _ hC H
 rw[htl,show n+(l.toArray.size-n)=l.toArray.size by omega] at this;exact this
theorem jQ{id:Nat}{Q:Exit→Act→aw→Prop}{a:Act}{w:aw}{l:List Oper}(n:Nat)(hm:P.follows .mixedOrders=true)(hB:Region.lexTailB .any l.toArray n=true)
 (h:ck P l.toArray (dU w) (fun a'=>∀w',dU w w'→bh P l.toArray Q (l.drop n) a' w') (l.take n) a):(Code.region id l.toArray true).wp P Q a w :=
 oS (C:=dU w) n hm hB (dU.refl w).drawn h
theorem iH{id:Nat}{Q:Exit→Act→aw→Prop}{a:Act}{w:aw}{l:List Oper}(hm:P.follows .mixedOrders=true)(hB:Region.lexB .any l.toArray=true)
 (h:ck P l.toArray (dU w) (fun a'=>∀w',dU w w'→Q .normal a' w') l a):(Code.region id l.toArray true).wp P Q a w :=
 wp_region_quiet (C:=dU w) hm hB (dU.refl w).drawn (by simpa using h)
def Af(md:Region.Mode)(ops:Array Oper):List (Nat × Bool)→Array Bool→Bool
 | [],listed=>(Region.ready md ops listed).isEmpty
 | (i,true)::r,listed=>(ops[i]?).isSome&&Region.free md ops listed i&&(Region.ready md ops listed).contains i&&Af md ops r (listed.setIfInBounds i true)
 | (i,false)::r,listed=>(ops[i]?).isSome&&decide (Region.ready md ops listed=[i])&&Af md ops r (listed.setIfInBounds i true)
def eY(P:cj)(ops:Array Oper)(Q:Exit→Act→aw→Prop):List (Oper × Bool)→Act→aw→Prop
 | [],a,w=>Q .normal a w
 | (o,true)::r,a,w=>∃v,Yields P ops o v a∧eY P ops Q r (a.put o.dst v) w
 | (o,false)::r,a,w=>bh P ops (af (eY P ops Q r) Q) [o] a w
theorem tK{Q:Exit→Act→aw→Prop}(hs:Region.noSelect ops=true)(hQ:∀c d v a w,Q (.panic c) (Act.put a d v) w→Q (.panic c) a w):∀(l:List (Nat × Bool)) (listed:Array Bool) (a:Act) (w:aw),
 Af md ops l listed=true→eY P ops Q (l.map fun x=>((ops[x.1]?).getD default,x.2)) a w→wpAny P md ops Q l.length listed a w
 | [],listed,a,w,hB,h=>⟨by simpa[Af] using hB,h⟩
 | (i,true)::r,listed,a,w,hB,h=>by
  simp only[Af,bu] at hB;obtain⟨⟨⟨h1,h2⟩,h3⟩,h4⟩:=hB;obtain⟨o,ho⟩:=dg.1 h1;simp only[dh,eY,ho,dt] at h;obtain⟨v,hy,hr⟩:=h;exact wpAny_take ho hs h2 h3 (fun c a w=>hQ c _ v a w) hy (tK hs hQ r _ _ _ h4 hr)
 | (i,false)::r,listed,a,w,hB,h=>by
  simp only[Af,bu,decide_eq_true_eq] at hB;obtain⟨⟨h1,h2⟩,h4⟩:=hB;obtain⟨o,ho⟩:=dg.1 h1;refine wpAny_all h2 (by simp) fun j hj=>?_;obtain rfl:j=i:=by simpa using hj
  simp only[dh,eY,ho,dt] at h;have key:∀a' w',af (eY P ops Q (r.map fun x=>((ops[x.1]?).getD default,x.2))) Q .normal a' w'→wpAny P md ops Q r.length (listed.setIfInBounds j true) a' w':=fun a' w' hh=>tK hs hQ r _ a' w' h4 hh
  unfold wpOp;simp only[ho];simp only[bh] at h;split
  · rename_i hw
    rw[if_pos hw] at h;rcases h with h | ⟨ha,x,y,hl⟩
    · refine .inl ?_
      unfold ke at h ⊢;generalize (cm a.eval o).run P w=res at *
      cases res with
      | ok n w' =>
       cases n <;> simp only[ll] at h ⊢ <;>
        first
         | exact key _ _ h
         | exact Calls.mono h (fun e w'' he=>by cases e <;> first | exact key _ _ he | exact he)
         | exact Rows.mono h (fun _ _ he=>key _ _ he)
      | halt x w'=>cases x <;> simp only[ll] at h ⊢ <;> exact h
    · exact .inr ⟨ha,x,y,hl⟩
  · rename_i hw
    rw[if_neg hw] at h;exact key _ _ h
theorem Fu{id:Nat}{Q:Exit→Act→aw→Prop}{a:Act}{w:aw}{l:List Oper}(o:List (Nat × Bool))(hm:P.follows .mixedOrders=true)(hB:(Region.noSelect l.toArray&&decide (o.length=l.length)&&Af .any l.toArray o (ff l.toArray.size false))=true)
 (hQ:∀c d v a w,Q (.panic c) (Act.put a d v) w→Q (.panic c) a w) {ol:List (Oper × Bool)} (hol:(o.map fun x=>((l.toArray[x.1]?).getD default,x.2))=ol)
 (h:∀w',dU w w'→eY P l.toArray Q ol a w'):(Code.region id l.toArray true).wp P Q a w:=by
 simp only[bu,decide_eq_true_eq] at hB;subst hol;refine wp_region_any hm ?_;have:=tK (md:=.any) hB.1.1 hQ o _ a { w with drawn:=w.drawn+1 } hB.2 (h _ (dU.refl w).drawn);rwa [hB.1.2] at this
end
end Go.Lith
namespace Go.Lith
open Go.RowKit
abbrev Fr(l:List aj)(ds:List dp:=[]):Act:={ tmps:=l.toArray,defers:=ds }
def gG(w:aw)(g:Nat)(cs:List aj)(t:be):Prop:=w.heap[g]? = some (.cells cs.toArray t (0,0))
structure Qz(w w':aw)(g:Nat):Prop where
 os:w'.os=w.os
 tape:w'.tape=w.tape
 output:w'.output=w.output
 size:w'.heap.size=w.heap.size
 block:∀k,k≠g→w'.heap[k]? = w.heap[k]?
def qN(w:aw)(a:Addr)(cs:List aj):Prop:=∀j u,cs[j]? = some u→w.cell? (a.add j)=some u
theorem gG.lt{w:aw}{g:Nat}{cs:List aj}{t:be}(h:gG w g cs t):g<w.heap.size:=(cy.1 h).1
theorem gG.ext{w w':aw}{g:Nat}{cs:List aj}{t:be}(h:gG w g cs t)(hE:dU w w'):gG w' g cs t:=hE.block h
theorem gG.chg{w w':aw}{g g':Nat}{cs:List aj}{t:be}(h:gG w g cs t)(hC:Qz w w' g')(hne:g≠g'):gG w' g cs t:=(hC.block g hne).trans h
theorem dU.chg{w0 w w':aw}{g:Nat}(h:dU w0 w)(hC:Qz w w' g)(hg:w0.heap.size≤g):dU w0 w' :=
 ⟨hC.os.trans h.os,hC.tape.trans h.tape,hC.output.trans h.output,by rw[hC.size];exact h.size,fun k hk=>(hC.block k (by omega)).trans (Below.block h k hk)⟩
theorem qN.ext{w w':aw}{a:Addr}{cs:List aj}(h:qN w a cs)(hE:dU w w'):qN w' a cs:=fun j u hj=>hE.cell (h j u hj)
theorem gA(g off j:Nat):(⟨g,off,none⟩:Addr).add j=⟨g,off+j,none⟩:=by unfold Addr.add;split <;> simp_all
theorem jL(a:Addr)(i j:Nat):(a.add i).add j=a.add (i+j):=by
 unfold Addr.add;by_cases hi:i=0 <;> by_cases hj:j=0 <;> simp[hi,hj,ly]
theorem gG.row{w:aw}{g:Nat}{cs:List aj}{t:be}(h:gG w g cs t)(off:Nat):qN w ⟨g,off,none⟩ (cs.drop off):=by
 intro j u hj;rw[gA,cell_of_row w g (off+j) cs.toArray t (0,0) h];simpa[cx] using hj
theorem qN.sub{w:aw}{a:Addr}{cs:List aj}(h:qN w a cs)(i:Nat):qN w (a.add i) (cs.drop i):=by
 intro j u hj;rw[jL];exact h (i+j) u (by simpa[cx] using hj)
theorem qN.take{w:aw}{a:Addr}{cs:List aj}(h:qN w a cs)(n:Nat):qN w a (cs.take n):=by
 intro j u hj;refine h j u ?_;rw[dz] at hj;split at hj
 · exact hj
 · cases hj
section
variable {P:cj} {ds:List dp} {l:List aj}
theorem acf(t:Nat):(Fr l).eval (.tmp t)=l.getD t undef:=by
 show l.toArray.getD t undef=_
 simp[Array.getD,List.getD];split <;> simp_all
theorem jS{ds:List dp}:(Fr l ds).eval=(Fr l).eval:=rfl
theorem jM{ds:List dp}(d:Nat)(v:aj):(Fr l ds).put (some d) v=Fr (l.set d v) ds:=by simp[Act.put,Fr]
def fI(P:cj)(T:be)(n:Nat):Prop:=∃inf,P.info? T=some inf∧inf.size=n
def mB(P:cj)(T:be)(z:aj):Prop:=∃inf,P.info? T=some inf∧inf.zero=some z
def xM:TypeDesc→Bool
 | .struct _ | .array _ _=>true
 | _=>false
def iS(P:cj)(T:be)(b:Bool):Prop:=∃dd,P.underlying T=some dd∧xM dd=b
theorem eS{T:be}{n:Nat}(h:(P.info? T).map (·.size)=some n):fI P T n:=by
 cases hi:P.info? T with
 | none=>rw[hi] at h;cases h
 | some i=>rw[hi] at h;exact⟨i,hi,by simpa using h⟩
theorem iR{T:be}{z:aj}(h:(P.info? T).bind (·.zero)=some z):mB P T z:=by
 cases hi:P.info? T with
 | none=>rw[hi] at h;cases h
 | some i=>rw[hi] at h;exact⟨i,hi,by simpa using h⟩
theorem fP{T:be}{b:Bool}(dd:TypeDesc)(h:P.underlying T=some dd)(hb:xM dd=b):iS P T b:=⟨dd,h,hb⟩
def ev(l:List aj):bm→aj
 | .tmp t=>l.getD t undef
 | .const v=>v
 | .global g=>.pointer (some ⟨g,0,none⟩)
 | .func f=>.func (.func f) #[] #[]
theorem cU(t:Nat):ev l (.tmp t)=l.getD t undef:=rfl
theorem bS(v:aj):ev l (.const v)=v:=rfl
theorem cA(f:Nat):ev l (.func f)=.func (.func f) #[] #[]:=rfl
theorem dV(x:bm):(Fr l).eval x=ev l x:=by
 cases x with
 | tmp t=>exact acf t
 | const=>rfl
 | global=>rfl
 | func=>rfl
def Dc(P:cj)(l:List aj)(op:Op)(ty:be)(v:aj)(w:aw):Prop :=
 ∀o:Oper,o.op=op→o.type=ty→(cm (Fr l).eval o).run P w=.ok (.value v) w
def iG(P:cj)(l:List aj)(op:Op)(ty:be)(v:aj):Prop:=∀w,Dc P l op ty v w
section
variable {ops:Array Oper} {Q:Exit→Act→aw→Prop} {w:aw} {rest:List Oper} {d:Nat} {op:Op} {ty:be} {pos:String} {after:Array Edge} {v:aj}
theorem uT(hr:Dc P l op ty v w)(h:bh P ops Q rest (Fr (l.set d v) ds) w):bh P ops Q (bx (some d) op ty pos after none::rest) (Fr l ds) w:=by
 refine wpList_plain rfl fun K hK=>?_;unfold ke;rw[jS,hr _ rfl rfl];show K ((Fr l ds).put (some d) v) w
 rw[jM];exact hK _ _ h
theorem aA(hr:iG P l op ty v)(h:bh P ops Q rest (Fr (l.set d v) ds) w):bh P ops Q (bx (some d) op ty pos after none::rest) (Fr l ds) w:=uT (hr w) h
theorem aC(h:Q .normal (Fr l ds) w):bh P ops Q [] (Fr l ds) w:=h
theorem aR{j:Nat}{b:Bool}(hw:yielded ops l.toArray j=some b)(h:bh P ops Q (bx (some d) op ty pos after none::rest) (Fr l ds) w):bh P ops Q (bx (some d) op ty pos after (some (j,b))::rest) (Fr l ds) w:=by
 unfold bh at h ⊢;rw[if_pos (by simp[Region.wanted])] at h;rw[if_pos (by simp[Region.wanted,hw])];exact h
theorem Vp{j:Nat}{b c:Bool}(hw:yielded ops l.toArray j=some c)(hbc:(c == b)=false)(h:bh P ops Q rest (Fr (l.set d undef) ds) w):bh P ops Q (bx (some d) op ty pos after (some (j,b))::rest) (Fr l ds) w:=by
 unfold bh;rw[if_neg (by simp[Region.wanted,hw];simpa using hbc)];show bh P ops Q rest ((Fr l ds).put (some d) undef) w
 rw[jM];exact h
theorem bO{j:Nat}(hw:yielded ops l.toArray j=some false)(h:bh P ops Q rest (Fr (l.set d undef) ds) w):bh P ops Q (bx (some d) op ty pos after (some (j,true))::rest) (Fr l ds) w:=Vp hw rfl h
theorem bK{j:Nat}(hw:yielded ops l.toArray j=some true)(h:bh P ops Q rest (Fr (l.set d undef) ds) w):bh P ops Q (bx (some d) op ty pos after (some (j,false))::rest) (Fr l ds) w:=Vp hw rfl h
theorem dY{j:Nat}{b:Bool}(hw:yielded ops l.toArray j=none)(h:bh P ops Q rest (Fr (l.set d undef) ds) w):bh P ops Q (bx (some d) op ty pos after (some (j,b))::rest) (Fr l ds) w:=by
 unfold bh;rw[if_neg (by simp[Region.wanted,hw])];show bh P ops Q rest ((Fr l ds).put (some d) undef) w
 rw[jM];exact h
end
section
variable {ops:Array Oper} {Q:Act→Prop} {C:aw→Prop} {rest:List Oper} {d:Nat} {op:Op} {ty:be} {pos:String} {after:Array Edge} {v:aj}
theorem Io(hr:∀w,C w→Dc P l op ty v w)(h:ck P ops C Q rest (Fr (l.set d v) ds)):ck P ops C Q (bx (some d) op ty pos after none::rest) (Fr l ds):=by
 refine wpQuiet_step fun K hK=>?_;rw[if_pos (by simp[Region.wanted])];refine⟨v,fun w hw=>?_,?_⟩
 · unfold Oper.quietAt
   rw[jS,hr w hw _ rfl rfl];exact⟨rfl,rfl⟩
 · show K ((Fr l ds).put (some d) v)
   rw[jM];exact hK _ h
theorem aQ(hr:iG P l op ty v)(h:ck P ops C Q rest (Fr (l.set d v) ds)):ck P ops C Q (bx (some d) op ty pos after none::rest) (Fr l ds):=Io (fun w _=>hr w) h
theorem eD(h:Q (Fr l ds)):ck P ops C Q [] (Fr l ds):=h
end
/-! ### Values -/
section
variable {x y:bm} {T T' ty:be} {k:IntKind} {m n r:Int}
theorem aB:iG P l (.move x) ty (ev l x):=fun w o ho _=>by simp[cm,ho,dV]
theorem aD:iG P l (.assign x) ty (ev l x):=fun w o ho _=>by simp[cm,ho,dV]
theorem Ip{c:bm}{b:Bool}(hc:ev l c=.bool b):iG P l (.pick c x y) ty (if b then ev l x else ev l y):=fun w o ho _=>by
 simp[cm,ho,dV,hc,asBool]
theorem aZ(hx:ev l x=.int k m)(hy:ev l y=.int k n)(hr:k.wrap (m+n)=r):iG P l (.binOp .add T x y T') ty (.int k r):=fun w o ho _=>by
 simp[cm,ho,dV,hx,hy,eqGuard,binOp,Op.intArith,hr]
theorem eH(hx:ev l x=.int k m)(hy:ev l y=.int k n)(hr:k.wrap (m-n)=r):iG P l (.binOp .sub T x y T') ty (.int k r):=fun w o ho _=>by
 simp[cm,ho,dV,hx,hy,eqGuard,binOp,Op.intArith,hr]
theorem fC(hx:ev l x=.int k m)(hy:ev l y=.int k n)(hr:k.wrap (m*n)=r):iG P l (.binOp .mul T x y T') ty (.int k r):=fun w o ho _=>by
 simp[cm,ho,dV,hx,hy,eqGuard,binOp,Op.intArith,hr]
theorem dZ(hx:ev l x=.int k m)(hy:ev l y=.int k n):iG P l (.binOp .lss T x y T') ty (.bool (decide (m<n))):=fun w o ho _=>by
 simp[cm,ho,dV,hx,hy,eqGuard,binOp,Op.intCmp]
theorem Bm(hx:ev l x=.int k m)(hy:ev l y=.int k n):iG P l (.binOp .leq T x y T') ty (.bool (decide (m≤n))):=fun w o ho _=>by
 simp[cm,ho,dV,hx,hy,eqGuard,binOp,Op.intCmp]
theorem gW(hx:ev l x=.int k m)(hy:ev l y=.int k n):iG P l (.binOp .gtr T x y T') ty (.bool (decide (n<m))):=fun w o ho _=>by
 simp[cm,ho,dV,hx,hy,eqGuard,binOp,Op.intCmp]
theorem lD(hx:ev l x=.int k m)(hy:ev l y=.int k n):iG P l (.binOp .geq T x y T') ty (.bool (decide (n≤m))):=fun w o ho _=>by
 simp[cm,ho,dV,hx,hy,eqGuard,binOp,Op.intCmp]
theorem mF(hx:ev l x=.int k m)(hy:ev l y=.int k n):iG P l (.binOp .eql T x y T') ty (.bool (decide (m=n))):=fun w o ho _=>by
 simp[cm,ho,dV,hx,hy,eqGuard,binOp,Op.intCmp];cases h:(m == n) <;> simp_all
theorem nZ(hx:ev l x=.int k m)(hy:ev l y=.int k n):iG P l (.binOp .neq T x y T') ty (.bool (decide (m≠n))):=fun w o ho _=>by
 simp[cm,ho,dV,hx,hy,eqGuard,binOp,Op.intCmp];cases h:(m != n) <;> simp_all
theorem jA(hx:ev l x=.int k m)(hy:ev l y=.int k n)(h0:n≠0)(hr:k.wrap (m.tdiv n)=r):iG P l (.binOp .quo T x y T') ty (.int k r):=fun w o ho _=>by
 simp[cm,ho,dV,hx,hy,eqGuard,binOp,Op.intDiv,h0,hr]
theorem fL(hx:ev l x=.int k m)(hy:ev l y=.int k n)(h0:n≠0)(hr:m.tmod n=r):iG P l (.binOp .rem T x y T') ty (.int k r):=fun w o ho _=>by
 simp[cm,ho,dV,hx,hy,eqGuard,binOp,Op.intDiv,h0,hr]
theorem sI(hx:ev l x=.int k m)(hy:ev l y=.int k n)(hr:k.wrap ((da k.bits m &&& da k.bits n).toNat:Int)=r):iG P l (.binOp .and T x y T') ty (.int k r):=fun w o ho _=>by
 subst hr;simp[cm,ho,dV,hx,hy,eqGuard,binOp,Op.intBits]
theorem Oh(hx:ev l x=.int k m)(hy:ev l y=.int k n)(hr:k.wrap ((da k.bits m ||| da k.bits n).toNat:Int)=r):iG P l (.binOp .or T x y T') ty (.int k r):=fun w o ho _=>by
 subst hr;simp[cm,ho,dV,hx,hy,eqGuard,binOp,Op.intBits]
theorem Dd{k':IntKind}(hx:ev l x=.int k m)(hy:ev l y=.int k' n)(h0:0≤n)(hr:k.wrap (m*2^(min n.toNat k.bits))=r):iG P l (.binOp .shl T x y T') ty (.int k r):=fun w o ho _=>by
 subst hr;simp[cm,ho,dV,hx,hy,eqGuard,binOp,Op.shift,mw.2 h0]
theorem mG{k':IntKind}(hx:ev l x=.int k m)(hy:ev l y=.int k' n)(h0:0≤n)(hr:m.fdiv (2^(min n.toNat k.bits))=r):iG P l (.binOp .shr T x y T') ty (.int k r):=fun w o ho _=>by
 subst hr;simp[cm,ho,dV,hx,hy,eqGuard,binOp,Op.shift,mw.2 h0]
theorem fM{b:Bool}(hx:ev l x=.bool b):iG P l (.unOp .not T x) ty (.bool (!b)):=fun w o ho _=>by
 simp[cm,ho,dV,hx,Op.unary]
theorem qO(hx:ev l x=.int k m)(hr:k.wrap (0-m)=r):iG P l (.unOp .neg T x) ty (.int k r):=fun w o ho _=>by
 subst hr;simp[cm,ho,dV,hx,Op.unary,Op.intArith]
theorem eT(hd:P.underlying T'=some (.int k)){k':IntKind}{dd:TypeDesc}(hs:P.underlying T=some dd)(hx:ev l x=.int k' m)(hr:k.wrap m=r):iG P l (.convert T T' x) ty (.int k r):=fun w o ho _=>by
 subst hr;simp[cm,ho,dV,hx,convert,bt hs,bt hd,Conv.intToInt]
theorem aU{vs:Array aj}{i:Nat}{v:aj}(hx:ev l x=.tuple vs)(hi:vs[i]? = some v):iG P l (.extract x i) ty v:=fun w o ho _=>by
 simp[cm,ho,dV,hx,Instr.extract,hi]
theorem De{fn:Fn}{first captured:Array bm}:iG P l (.makeFunc fn first captured) ty (.func fn (first.map (ev l)) (captured.map (ev l))):=fun w o ho _=>by
 have e:(Fr l).eval=ev l:=funext dV;simp[cm,ho,e,Instr.makeFunc]
theorem bR{E:be}{A:Option Addr}{n c:Nat}{a0:Array be}(ha:a0 = #[T])(hu:P.underlying T=some (.slice E))(hx:ev l x=.slice A n c):iG P l (.call { callee:=.builtin .len,args:=#[x],argTypes:=a0 }) ty (.int .i64 n):=fun w o ho _=>by
 subst ha;simp[cm,ho,resolve,invoke,builtin,Builtin.len_,dV,hx,bt hu,goInt]
theorem qP{s:ByteArray}{a0:Array be}(ha:a0 = #[T])(hu:P.underlying T=some .string)(hx:ev l x=.string s):iG P l (.call { callee:=.builtin .len,args:=#[x],argTypes:=a0 }) ty (.int .i64 s.size):=fun w o ho _=>by
 subst ha;simp[cm,ho,resolve,invoke,builtin,Builtin.len_,dV,hx,bt hu,goInt]
theorem oT{a0:Array be}(hx:ev l x=.int k m)(hy:ev l y=.int k n)(hr:(if n<m then n else m)=r):iG P l (.call { callee:=.builtin .min,args:=#[x,y],argTypes:=a0 }) ty (.int k r):=fun w o ho _=>by
 subst hr;simp[cm,ho,resolve,invoke,builtin,Builtin.min_,Builtin.min2,dV,hx,hy]
theorem kL{a0:Array be}(hx:ev l x=.int k m)(hy:ev l y=.int k n)(hr:(if m<n then n else m)=r):iG P l (.call { callee:=.builtin .max,args:=#[x,y],argTypes:=a0 }) ty (.int k r):=fun w o ho _=>by
 subst hr;simp[cm,ho,resolve,invoke,builtin,Builtin.max_,Builtin.max2,dV,hx,hy]
end
/-! ### Addresses -/
section
variable {x y:bm} {T T' ty:be} {k:IntKind} {m n r:Int}
theorem aG{fs:Array Field}{i c:Nat}{f:Field}{a b:Addr}(hu:P.underlying T=some (.struct fs))(hf:fs[i]? = some f)(hc:fI P f.type (c+1))(hx:ev l x=.pointer (some a))(hb:a.add f.offset=b) :
 iG P l (.fieldAddr T x i) ty (.pointer (some b)):=fun w o ho _=>by
 subst hb;obtain⟨inf,hi,hz⟩:=hc;have hz':¬inf.size=0:=by omega
 simp[cm,ho,dV,hx,Instr.fieldAt,bt hu,hf,Instr.sureAddr,fieldPlace,sizeOf,typeInfo,hi,hz']
theorem aJ{E:be}{len:Nat}{c:Nat}{a b:Addr}(hu:P.underlying T=some (.array len E))(hc:fI P E c)(hx:ev l x=.pointer (some a))(hy:ev l y=.int k m)(h0:0≤m)(h1:m<len)(hb:a.add (m.toNat*c)=b) :
 iG P l (.indexAddr T x y) ty (.pointer (some b)):=fun w o ho _=>by
 subst hb;obtain⟨inf,hi,rfl⟩:=hc;simp[cm,ho,dV,hx,hy,Instr.indexAt,asIntOf,bt hu,Instr.sureAddr,sizeOf,typeInfo,hi,h0,h1]
theorem aS{E:be}{len cap:Nat}{c:Nat}{a b:Addr}(hu:P.underlying T=some (.slice E))(hc:fI P E c)(hx:ev l x=.slice (some a) len cap)(hy:ev l y=.int k m)(h0:0≤m)(h1:m<len)(hb:a.add (m.toNat*c)=b) :
 iG P l (.indexAddr T x y) ty (.pointer (some b)):=fun w o ho _=>by
 subst hb;obtain⟨inf,hi,rfl⟩:=hc;simp[cm,ho,dV,hx,hy,Instr.indexAt,asIntOf,bt hu,sizeOf,typeInfo,hi,h0,h1]
end
/-! ### Memory -/
section
variable {x y:bm} {T T' ty:be} {w:aw}
def sJ(P:cj)(w:aw)(T:be)(a:Addr)(v:aj):Prop:=(loadVar T a).run P w=.ok v w
theorem qN.lies{a:Addr}{cs:List aj}(h:qN w a cs)(hA:iS P T true)(hc:fI P T cs.length):sJ P w T a (.agg cs.toArray):=by
 obtain⟨dd,hu,hd⟩:=hA;obtain⟨inf,hi,hn⟩:=hc;have hl:=run_loadCells_list (P:=P) w a cs (fun j v hv=>h j v hv);have hagg:(isAgg T).run P w=.ok true w:=by
  unfold isAgg;rw[Sem.run_bind,bt hu w];cases dd <;> simp_all [xM]
 unfold sJ;simp[loadVar,Sem.run_bind,hagg,sizeOf,typeInfo,hi,hn,hl]
theorem lies1{a:Addr}{v:aj}(h:w.cell? a=some v)(hA:iS P T false):sJ P w T a v:=by
 obtain⟨dd,hu,hd⟩:=hA;have hagg:(isAgg T).run P w=.ok false w:=by
  unfold isAgg;rw[Sem.run_bind,bt hu w];cases dd <;> simp_all [xM]
 unfold sJ;simp[loadVar,Sem.run_bind,hagg,load,Sem.run,h]
theorem gG.cell{g:Nat}{cs:List aj}{t:be}(h:gG w g cs t){i:Nat}{v:aj}(hi:cs[i]? = some v):w.cell? ⟨g,i,none⟩=some v:=by
 rw[cell_of_row w g i cs.toArray t (0,0) h];simpa using hi
theorem gG.lies1{g i:Nat}{cs:List aj}{t:be}{v:aj}(h:gG w g cs t)(hA:iS P T false)(hi:cs[i]? = some v):sJ P w T ⟨g,i,none⟩ v:=Lith.lies1 (h.cell hi) hA
theorem gG.lies{g i n:Nat}{cs us:List aj}{t:be}(h:gG w g cs t)(hA:iS P T true)(hc:fI P T n)(hu:(cs.drop i).take n=us)(hn:us.length=n):sJ P w T ⟨g,i,none⟩ (.agg us.toArray):=by
 subst hu;exact ((h.row i).take n).lies hA (by rw[hn];exact hc)
theorem lM{a:Addr}{v:aj}(hx:ev l x=.pointer (some a))(hv:sJ P w T a v):Dc P l (.load T x) ty v w:=fun o ho _=>by
 unfold sJ at hv;simp[cm,ho,dV,hx,Instr.loadAt,Instr.sureAddr,hv]
variable {ops:Array Oper} {Q:Exit→Act→aw→Prop} {rest:List Oper} {d:Nat} {op:Op} {pos:String} {after:Array Edge} {v:aj}
theorem aI{a:Addr}(hx:ev l x=.pointer (some a))(hv:sJ P w T a v)(h:bh P ops Q rest (Fr (l.set d v) ds) w):bh P ops Q (bx (some d) (.load T x) ty pos after none::rest) (Fr l ds) w :=
 uT (lM hx hv) h
theorem Iq{w':aw}(hr:∀o:Oper,o.op=op→(cm (Fr l).eval o).run P w=.ok .skip w')(h:bh P ops Q rest (Fr l ds) w'):bh P ops Q (bx none op ty pos after none::rest) (Fr l ds) w:=by
 refine wpList_plain rfl fun K hK=>?_;unfold ke;rw[jS,hr _ rfl];exact hK _ _ h
theorem mC{w':aw}(hr:∀o:Oper,o.op=op→o.type=ty→(cm (Fr l).eval o).run P w=.ok (.value v) w')(h:bh P ops Q rest (Fr (l.set d v) ds) w'):bh P ops Q (bx (some d) op ty pos after none::rest) (Fr l ds) w:=by
 refine wpList_plain rfl fun K hK=>?_;unfold ke;rw[jS,hr _ rfl rfl];show K ((Fr l ds).put (some d) v) w'
 rw[jM];exact hK _ _ h
theorem jZ(w:aw)(cs:List aj)(t:be):gG (w.alloc (.cells cs.toArray t)) w.heap.size cs t:=heap_alloc_new w _
theorem gX{cs:List aj}(hv:(ev l x).cells=cs.toArray)(h:∀w' g,dU w w'→w.heap.size≤g→gG w' g cs T→bh P ops Q rest (Fr (l.set d (.pointer (some ⟨g,0,none⟩))) ds) w') :
 bh P ops Q (bx (some d) (.box T x) ty pos after none::rest) (Fr l ds) w :=
 mC (w':=w.alloc (.cells cs.toArray T)) (v:=.pointer (some ⟨w.heap.size,0,none⟩)) (fun o ho _=>by simp[cm,ho,dV,Instr.box,newVar,newRow,hv,newObj,Sem.run]) (h _ _ ((dU.refl w).alloc _) (bi _) (jZ w cs T))
theorem eK{cs:List aj}{z:aj}(hZ:mB P T z)(hv:z.cells=cs.toArray)(h:∀w' g,dU w w'→w.heap.size≤g→gG w' g cs T→bh P ops Q rest (Fr (l.set d (.pointer (some ⟨g,0,none⟩))) ds) w') :
 bh P ops Q (bx (some d) (.alloc T) ty pos after none::rest) (Fr l ds) w:=by
 obtain⟨inf,hi,hz⟩:=hZ;exact mC (w':=w.alloc (.cells cs.toArray T)) (v:=.pointer (some ⟨w.heap.size,0,none⟩)) (fun o ho _=>by simp[cm,ho,Instr.alloc,zeroValue,typeInfo,hi,hz,newVar,newRow,hv,newObj,Sem.run]) (h _ _ ((dU.refl w).alloc _) (bi _) (jZ w cs T))
def aW(cs:List aj)(off:Nat)(us:List aj):List aj:=cs.take off++us++cs.drop (off+us.length)
theorem uU{cs us:List aj}{off:Nat}(h:off+us.length≤cs.length):(aW cs off us).length=cs.length:=by simp[aW];omega
theorem tL(w:aw)(g:Nat)(cs:Array aj):Qz w (w.setRow g cs) g:=⟨rfl,rfl,rfl,by simp,fun k hk=>setRow_other w g k cs hk⟩
theorem xN{g off:Nat}{cs us:List aj}{t:be}(hc:fI P T us.length)(hv:v.cells=us.toArray)(hB:gG w g cs t)(hfit:off+us.length≤cs.length)(h1:∀u∈us,u.oneCell'=true) :
 (storeVar T ⟨g,off,none⟩ v).run P w=.ok () (w.setRow g (aW cs off us).toArray):=by
 obtain⟨inf,hi,hn⟩:=hc;have hst:=run_storeCells_at P g off t us 0 cs.toArray w hB (by simpa using hfit) h1;simp only[fx,ik] at hst;simp[storeVar,hv,sizeOf,typeInfo,hi,hn,hst,aW]
theorem cE{g off:Nat}{cs us:List aj}{t:be}(hx:ev l x=.pointer (some ⟨g,off,none⟩))(hv:(ev l y).cells=us.toArray)(hc:fI P T us.length)(hB:gG w g cs t)(hfit:off+us.length≤cs.length)(h1:∀u∈us,u.oneCell'=true)
 (h:∀w',Qz w w' g→gG w' g (aW cs off us) t→bh P ops Q rest (Fr l ds) w'):bh P ops Q (bx none (.store T x y) ty pos after none::rest) (Fr l ds) w :=
 Iq (w':=w.setRow g (aW cs off us).toArray) (fun o ho=>by simp[cm,ho,dV,hx,Instr.storeAt,Instr.sureAddr,xN hc hv hB hfit h1]) (h _ (tL w g _) (setRow_heap w g cs.toArray _ t _ hB))
/-! ### Calls -/
def bL(P:cj)(f:FuncId):Prop:=∃fn,P.funcs[f]? = some fn∧(fn.name == "runtime.NumGoroutine")=false∧fn.body.isNone=false
def gZ(P:cj)(f:FuncId)(args:List aj)(w:aw)(R:aj→aw→Prop):Prop :=
 bL P f∧Calls P f args.toArray w fun e w'=>∃v,e=.returned v∧dU w w'∧R v w'
def eB(P:cj)(f:FuncId)(args:List aj)(v:aj):Prop:=∀w,gZ P f args w fun u _=>u=v
theorem gZ.mono{f:FuncId}{args:List aj}{R R':aj→aw→Prop}(h:gZ P f args w R)(hr:∀v w',dU w w'→R v w'→R' v w'):gZ P f args w R' :=
 ⟨h.1,h.2.mono fun _ _ ⟨v,he,hE,hR⟩=>⟨v,he,hE,hr _ _ hE hR⟩⟩
theorem xO{f:FuncId}{args:Array aj}(h:bL P f):(callFunc f args).run P w=.ok (.enter f args) w:=by
 obtain⟨fn,hf,hn,hb⟩:=h;have hn':¬fn.name = "runtime.NumGoroutine" := by simpa using hn
 have hb':¬fn.body=none:=by intro h;rw[h] at hb;cases hb
 simp[callFunc,hf,hn',hb']
theorem oU{f:FuncId}{fo:bm}{xs:Array bm}{args:List aj}{first cap:Array aj}{a0:Array be}(h:bL P f)(hf:ev l fo=.func (.func f) first cap)(hxs:first.toList++xs.toList.map (ev l)++cap.toList=args)(o:Oper)(ho:o.op=.call { callee:=.value fo,args:=xs,argTypes:=a0 }) :
 (cm (Fr l).eval o).run P w=.ok (.enter f args.toArray) w:=by
 have e:(Fr l).eval=ev l:=funext dV;have ea:args.toArray=first++xs.map (ev l)++cap:=by
  rw[←hxs];apply mx;simp
 simp[cm,ho,resolve,e,hf,Deferred.ofValue,invoke,xO h,ea]
theorem bT{f:FuncId}{fo:bm}{xs:Array bm}{args:List aj}{first cap:Array aj}{a0:Array be}{R:aj→aw→Prop}(hf:ev l fo=.func (.func f) first cap)(hxs:first.toList++xs.toList.map (ev l)++cap.toList=args)(hc:gZ P f args w R)
 (h:∀v w',dU w w'→R v w'→bh P ops Q rest (Fr (l.set d v) ds) w'):bh P ops Q (bx (some d) (.call { callee:=.value fo,args:=xs,argTypes:=a0 }) ty pos after none::rest) (Fr l ds) w:=by
 refine wpList_plain rfl fun K hK=>?_;unfold ke;rw[jS,oU hc.1 hf hxs _ rfl];refine hc.2.mono ?_;rintro e w' ⟨v,rfl,hE,hR⟩;show K ((Fr l ds).put (some d) v) w'
 rw[jM];exact hK _ _ (h v w' hE hR)
theorem gK{f:FuncId}{fo:bm}{xs:Array bm}{args:List aj}{first cap:Array aj}{a0:Array be}(hf:ev l fo=.func (.func f) first cap)(hxs:first.toList++xs.toList.map (ev l)++cap.toList=args)(hc:eB P f args v)
 (h:∀w',dU w w'→bh P ops Q rest (Fr (l.set d v) ds) w'):bh P ops Q (bx (some d) (.call { callee:=.value fo,args:=xs,argTypes:=a0 }) ty pos after none::rest) (Fr l ds) w :=
 bT hf hxs (hc w) fun _ w' hE hR=>hR▸h w' hE
end
section
variable {x y:bm} {T T' ty:be} {w:aw}
variable {ops:Array Oper} {Q:Act→Prop} {rest:List Oper} {d:Nat} {op:Op} {pos:String} {after:Array Edge} {v:aj}
theorem iA{a:Addr}(hx:ev l x=.pointer (some a))(hv:∀w',dU w w'→sJ P w' T a v)(h:ck P ops (dU w) Q rest (Fr (l.set d v) ds)):ck P ops (dU w) Q (bx (some d) (.load T x) ty pos after none::rest) (Fr l ds) :=
 Io (fun _ hE=>lM hx (hv _ hE)) h
theorem aas{f:FuncId}{fo:bm}{xs:Array bm}{args:List aj}{first cap:Array aj}{a0:Array be}(hf:ev l fo=.func (.func f) first cap)(hxs:first.toList++xs.toList.map (ev l)++cap.toList=args)(hc:∀w',dU w w'→gZ P f args w' fun u _=>u=v)
 (h:ck P ops (dU w) Q rest (Fr (l.set d v) ds)):ck P ops (dU w) Q (bx (some d) (.call { callee:=.value fo,args:=xs,argTypes:=a0 }) ty pos after none::rest) (Fr l ds):=by
 refine wpQuiet_step fun K hK=>?_;rw[if_pos (by simp[Region.wanted])];refine⟨v,fun w' hw=>?_,?_⟩
 · unfold Oper.quietAt
   rw[jS,oU (hc w' hw).1 hf hxs _ rfl];refine⟨rfl,(hc w' hw).2.mono ?_⟩;rintro e w'' ⟨u,rfl,hE,rfl⟩;exact⟨rfl,hw.trans hE⟩
 · show K ((Fr l ds).put (some d) v)
   rw[jM];exact hK _ h
theorem oO{f:FuncId}{fo:bm}{xs:Array bm}{args:List aj}{first cap:Array aj}{a0:Array be}(hf:ev l fo=.func (.func f) first cap)(hxs:first.toList++xs.toList.map (ev l)++cap.toList=args)(hc:eB P f args v)
 (h:ck P ops (dU w) Q rest (Fr (l.set d v) ds)):ck P ops (dU w) Q (bx (some d) (.call { callee:=.value fo,args:=xs,argTypes:=a0 }) ty pos after none::rest) (Fr l ds) :=
 aas hf hxs (fun w' _=>hc w') h
end
/-! ### Code -/
section
variable {Q:Exit→Act→aw→Prop} {w:aw} {c c1 c2:Code}
theorem aF{a:Act}(h:∀K:Act→aw→Prop,(∀a w,c2.wp P Q a w→K a w)→c1.wp P (af K Q) a w):(Code.seq c1 c2).wp P Q a w:=wp_seq_k h
theorem pK{x:bm}{b:Bool}(hx:ev l x=.bool b)(ht:b=true→c1.wp P Q (Fr l ds) w)(hf:b=false→c2.wp P Q (Fr l ds) w):(Code.cond x c1 c2).wp P Q (Fr l ds) w :=
 wp_cond_split (by rw[jS,dV];exact hx) ht hf
theorem cW{x:bm}{p:Prop}[Decidable p](hx:ev l x=.bool (decide p))(ht:p→c1.wp P Q (Fr l ds) w)(hf:¬p→c2.wp P Q (Fr l ds) w):(Code.cond x c1 c2).wp P Q (Fr l ds) w :=
 pK hx (fun h=>ht (of_decide_eq_true h)) (fun h=>hf (of_decide_eq_false h))
theorem bX{x:bm}(hx:ev l x=.bool true)(ht:c1.wp P Q (Fr l ds) w):(Code.cond x c1 c2).wp P Q (Fr l ds) w:=pK hx (fun _=>ht) (fun h=>by cases h)
theorem eZ{x:bm}(hx:ev l x=.bool false)(hf:c2.wp P Q (Fr l ds) w):(Code.cond x c1 c2).wp P Q (Fr l ds) w:=pK hx (fun h=>by cases h) (fun _=>hf)
def Res(P:cj)(l:List aj)(w:aw):ResultVar→aj→Prop
 | .tmp t,v=>l.getD t undef=v
 | .cell t T,v=>∃a,l.getD t undef=.pointer (some a)∧sJ P w T a v
theorem qI{r:ResultVar}{v:aj}(h:Res P l w r v):(∃t,r=.tmp t∧l[t]?.getD undef=v)∨(∃t T a,r=.cell t T∧l[t]?.getD undef=.pointer (some a)∧(loadVar T a).run P w=.ok v w):=by
 cases r with
 | tmp t=>exact .inl ⟨t,rfl,by simpa[Res] using h⟩
 | cell t T =>
  obtain⟨a,ha,hl⟩:=h;exact .inr ⟨t,T,a,rfl,by simpa using ha,hl⟩
theorem bY{fn:Func}{R:Ending→aw→Prop}{r:ResultVar}{v:aj}(hr:fn.results = #[r])(h:Res P l w r v)(hR:R (.returned v) w):bodyPost P fn R .ret (Fr l) w:=by
 refine⟨rfl,v,?_,hR⟩;unfold results;rw[hr];rcases qI h with ⟨t,rfl,h1⟩ | ⟨t,T,a,rfl,h1,h2⟩ <;> simp[*,asAddr]
theorem kD{fn:Func}{R:Ending→aw→Prop}{r r':ResultVar}{v v':aj}(hr:fn.results = #[r,r'])(h:Res P l w r v)(h':Res P l w r' v')(hR:R (.returned (.tuple #[v,v'])) w):bodyPost P fn R .ret (Fr l) w:=by
 refine⟨rfl,_,?_,hR⟩;unfold results;rw[hr];rcases qI h with ⟨t,rfl,h1⟩ | ⟨t,T,a,rfl,h1,h2⟩ <;> rcases qI h' with ⟨t',rfl,h1'⟩ | ⟨t',T',a',rfl,h1',h2'⟩ <;> simp[*,asAddr]
theorem pX{fn:Func}{R:Ending→aw→Prop}{r r' r'':ResultVar}{v v' v'':aj}(hr:fn.results = #[r,r',r''])(h:Res P l w r v)(h':Res P l w r' v')(h'':Res P l w r'' v'')(hR:R (.returned (.tuple #[v,v',v''])) w):bodyPost P fn R .ret (Fr l) w:=by
 refine⟨rfl,_,?_,hR⟩;unfold results;rw[hr];rcases qI h with ⟨t,rfl,h1⟩ | ⟨t,T,a,rfl,h1,h2⟩ <;> rcases qI h' with ⟨t',rfl,h1'⟩ | ⟨t',T',a',rfl,h1',h2'⟩ <;> rcases qI h'' with ⟨t'',rfl,h1''⟩ | ⟨t'',T'',a'',rfl,h1'',h2''⟩ <;> simp[*,asAddr]
end
end
/-! ### Numbers,loops,further values -/
theorem aO{x:Int}(h0 : -9223372036854775808≤x)(h1:x<9223372036854775808):IntKind.i64.wrap x=x:=by
 simp[lj,lk,ks];split <;> omega
theorem fX{x:Int}(h0:0≤x)(h1:x<18446744073709551616):IntKind.u64.wrap x=x:=by
 simp[lj,lk,ks];omega
theorem pY{x:Int}(h0:0≤x)(h1:x<256):IntKind.u8.wrap x=x:=by
 simp[lj,lk,ks];omega
def kP:List aj→List Nat→List aj→List aj
 | l,t::ts,v::vs=>kP (l.set t v) ts vs
 | l,_,_=>l
theorem Ir{l:List aj}{t:Nat}{ts:List Nat}{v:aj}{vs:List aj}:kP l (t::ts) (v::vs)=kP (l.set t v) ts vs:=rfl
theorem uV{l:List aj}{vs:List aj}:kP l [] vs=l:=by cases vs <;> rfl
theorem Lj{l:List aj}{t:Nat}:l.set t (l.getD t undef)=l:=by
 apply er;intro i;rw[List.getElem?_set];split
 · rename_i h;subst h
   split
   · rename_i h;simp[h]
   · rename_i h;simp at h;simp[h]
 · rfl
theorem xP:∀(ts:List Nat) (l:List aj),kP l ts (ts.map (l.getD · undef))=l
 | [],l=>uV
 | t::ts,l=>by
  simp only[dh,Ir,Lj];exact xP ts l
theorem tM{p:Nat→Prop}(h:∃n,p n):∃n,p n∧∀m,p m→n≤m:=by
 obtain⟨n,hn⟩:=h
 induction n using Nat.strongRecOn with
 | _ n ih =>
  by_cases hx:∃m,m<n∧p m
  · obtain⟨m,hm,hp⟩:=hx;exact ih m hm hp
  · exact⟨n,hn,fun m hm=>Nat.le_of_not_lt fun hlt=>hx ⟨m,hlt,hm⟩⟩
noncomputable def Df(p:Nat→Prop)(h:∃n,p n):Nat:=(tM h).choose
theorem Lk{p:Nat→Prop}(h:∃n,p n):p (Df p h):=(tM h).choose_spec.1
theorem St{p:Nat→Prop}(h:∃n,p n){m:Nat}(hm:p m):Df p h≤m:=(tM h).choose_spec.2 m hm
section
variable {P:cj} {ds:List dp} {l:List aj}
end
/-! ### Parts of values,slices,new slices -/
section
variable {P:cj} {ds:List dp} {l:List aj} {x y:bm} {T T' ty:be} {k:IntKind} {m n r:Int}
theorem xQ{b:Bool}(h:iS P T b)(w:aw):(isAgg T).run P w=.ok b w:=by
 obtain⟨dd,hu,hd⟩:=h;unfold isAgg;rw[Sem.run_bind,bt hu w];cases dd <;> simp_all [xM]
theorem gB{c:Nat}(h:fI P T c)(w:aw):(sizeOf T).run P w=.ok c w:=by
 obtain⟨inf,hi,rfl⟩:=h;simp[sizeOf,typeInfo,hi]
theorem eX(cs:Array aj):(Value.agg cs).cells=cs:=rfl
theorem gL{parts:Array (Nat × bm)}{vs:Array (Nat × aj)}{v:aj}(hp:(parts.map fun (i,x)=>(i,ev l x))=vs)(h:∀w,(Instr.build T vs).run P w=.ok v w):iG P l (.build T parts) ty v:=fun w o ho _=>by
 have e:(Fr l).eval=ev l:=funext dV;subst hp;simp only[cm,ho,e];rw[Sem.run_bind,h w];rfl
theorem dW{fs:Array Field}{places:Array (Nat × Nat)}{z:aj}{cells:Array aj}{vs:Array (Nat × aj)}(hu:P.underlying T=some (.struct fs))(hz:mB P T z)
 (hpl:∀w,(fs.mapM fun f=>do pure (f.offset,←sizeOf f.type):Sem (Array (Nat × Nat))).run P w=.ok places w) (hf:Instr.fill (places[·]?) z.cells vs.toList=some cells) (w:aw):(Instr.build T vs).run P w=.ok (.agg cells) w:=by
 obtain⟨inf,hi,h0⟩:=hz;simp only[Instr.build,zeroValue,typeInfo];simp[hi,h0,bt hu];have:=hpl w;simp at this;simp[this,hf]
theorem gD{E:be}{n c:Nat}{z:aj}{cells:Array aj}{vs:Array (Nat × aj)}(hu:P.underlying T=some (.array n E))(hz:mB P T z)(hc:fI P E c)
 (hf:Instr.fill (fun i=>some (i*c,c)) z.cells vs.toList=some cells) (w:aw):(Instr.build T vs).run P w=.ok (.agg cells) w:=by
 obtain⟨inf,hi,h0⟩:=hz;simp only[Instr.build,zeroValue,typeInfo];simp[hi,h0,bt hu,gB hc,hf]
theorem mH{E:be}{len c:Nat}{cs:Array aj}{v:aj}(hu:P.underlying T=some (.array len E))(hA:iS P E false)(hc:fI P E c)(hx:ev l x=.agg cs)(hy:ev l y=.int k m)(h0:0≤m)(h1:m<len)(hv:cs[m.toNat*c]? = some v) :
 iG P l (.index T x y) ty v:=fun w o ho _=>by
 simp[cm,ho,dV,hx,hy,Instr.index,asIntOf,bt hu,h0,h1,part,xQ hA,gB hc,hv]
theorem sK{E:be}{len c:Nat}{cs us:Array aj}(hu:P.underlying T=some (.array len E))(hA:iS P E true)(hc:fI P E c)(hx:ev l x=.agg cs)(hy:ev l y=.int k m)(h0:0≤m)(h1:m<len)(hv:cs.extract (m.toNat*c) (m.toNat*c+c)=us) :
 iG P l (.index T x y) ty (.agg us):=fun w o ho _=>by
 subst hv;simp[cm,ho,dV,hx,hy,Instr.index,asIntOf,bt hu,h0,h1,part,xQ hA,gB hc]
theorem mT{s:ByteArray}{b:UInt8}(hu:P.underlying T=some .string)(hx:ev l x=.string s)(hy:ev l y=.int k m)(h0:0≤m)(hb:s[m.toNat]? = some b) :
 iG P l (.index T x y) ty (.int .u8 b.toNat):=fun w o ho _=>by
 simp[cm,ho,dV,hx,hy,Instr.index,asIntOf,bt hu,h0,hb]
theorem oB{E:be}{A:Option Addr}{len cap c:Nat}(hu:P.underlying T=some (.slice E))(hc:fI P E c){q:Nat}(hx:ev l x=.slice A len cap)(hy:ev l y=.int k m)(hq:m.toNat=q)(h0:0≤m)(h1:m≤cap) :
 iG P l (.slice T x none (some y) none) ty (.slice A q cap):=fun w o ho _=>by
 subst hq;have e:(if cap=0 then A else Option.map (fun a=>a.add 0) A)=A:=by
  split
  · rfl
  · cases A <;> simp[Addr.add]
 have h1':¬(m.toNat:Int)>cap:=by omega
 simp[cm,ho,dV,hx,hy,Instr.sliceAt,Instr.slice,Instr.sliceBounds,Instr.sliceBound,asIntOf,bt hu,h0,h1,gB hc];intro _;cases A <;> simp[Addr.add]
theorem oC{E:be}{A A':Option Addr}{len cap c:Nat}(hu:P.underlying T=some (.slice E))(hc:fI P E c){q:Nat}(hx:ev l x=.slice A len cap)(hy:ev l y=.int k m)(hq:m.toNat=q)(h0:0≤m)(h1:m≤len)(hA:(if cap=q then A else A.map (·.add (q*c)))=A') :
 iG P l (.slice T x (some y) none none) ty (.slice A' (len-q) (cap-q)):=fun w o ho _=>by
 subst hq;subst hA;simp[cm,ho,dV,hx,hy,Instr.sliceAt,Instr.slice,Instr.sliceBounds,Instr.sliceBound,asIntOf,bt hu,h0,h1,gB hc]
theorem Vq{s:ByteArray}(hu:P.underlying T=some .string)(hx:ev l x=.string s)(hy:ev l y=.int k m)(h0:0≤m)(h1:m≤s.size) :
 iG P l (.slice T x (some y) none none) ty (.string (s.extract m.toNat s.size)):=fun w o ho _=>by
 simp[cm,ho,dV,hx,hy,Instr.sliceAt,Instr.slice,Instr.sliceBounds,Instr.sliceBound,asIntOf,bt hu,h0,h1]
variable {ops:Array Oper} {Q:Exit→Act→aw→Prop} {rest:List Oper} {d:Nat} {pos:String} {after:Array Edge} {w:aw}
theorem lU{E:be}{b:Nat}{kc:IntKind}{z:aj}(hu:P.underlying T=some (.slice E))(hi:(P.info? E).map (fun i=>(i.size,i.bytes,i.zero))=some (1,b,some z))(hzc:z.cells = #[z]){q q':Nat}(hx:ev l x=.int k m)(hy:ev l y=.int kc n)(hq:m.toNat=q)(hq':n.toNat=q')(h0:0≤m)(h1:m≤n)(hn:n≤9223372036854775807)(hb:(b:Int)*n≤281474976710656)
 (h:∀w' g,dU w w'→w.heap.size≤g→gG w' g (bk q' z) E→bh P ops Q rest (Fr (l.set d (.slice (some ⟨g,0,none⟩) q q')) ds) w') :
 bh P ops Q (bx (some d) (.makeSlice T x y) ty pos after none::rest) (Fr l ds) w:=by
 subst hq;subst hq';cases hq:P.info? E with
 | none=>rw[hq] at hi;cases hi
 | some i =>
  rw[hq] at hi;simp only[fb,fu,fp] at hi;obtain⟨e1,e2,e3⟩:=hi;subst e2;have hr:=run_make (P:=P) w T E i z hu hq e3 k kc m n h0 h1 hb hn;have hc:madeCells z.cells (n.toNat*i.size)=(bk n.toNat z).toArray:=by
   rw[e1,hzc,jg];apply mx;rw[toList_madeCells_one]
  rw[hc] at hr;exact mC (fun o ho _=>by simp[cm,ho,dV,hx,hy,hr]) (h _ _ ((dU.refl w).alloc _) (bi _) (jZ w _ E))
def kR(w:aw)(base:Nat)(e:be)(size:Nat)(v:aj)(n:Nat)(xs:List aj):Prop:=w.ownsRow base e size v n xs
structure Dg(w w':aw)(base:Nat):Prop where
 os:w'.os=w.os
 tape:w'.tape=w.tape
 output:w'.output=w.output
 size:w.heap.size≤w'.heap.size
 block:∀k,k<base→w'.heap[k]? = w.heap[k]?
theorem kR.nil(w:aw)(base:Nat)(e:be)(size:Nat):kR w base e size (.slice none 0 0) 0 []:=World.ownsRow_nil w base e size
theorem Dg.refl(w:aw)(base:Nat):Dg w w base:=⟨rfl,rfl,rfl,bi _,fun _ _=>rfl⟩
theorem dU.grew{w w':aw}(h:dU w w'){base:Nat}(hb:base≤w.heap.size):Dg w w' base:=⟨h.os,h.tape,h.output,h.size,fun k hk=>Below.block h k (by omega)⟩
theorem gG.grew{w w':aw}{g base:Nat}{cs:List aj}{t:be}(h:gG w g cs t)(hG:Dg w w' base)(hg:g<base):gG w' g cs t:=(hG.block g hg).trans h
theorem dU.grown{w0 w w':aw}{base:Nat}(h:dU w0 w)(hG:Dg w w' base)(hb:w0.heap.size≤base):dU w0 w' :=
 ⟨hG.os.trans h.os,hG.tape.trans h.tape,hG.output.trans h.output,ak h.size hG.size,fun k hk=>(hG.block k (by omega)).trans (Below.block h k hk)⟩
theorem Oi{w:aw}{base:Nat}{e:be}{size:Nat}{v:aj}{n:Nat}{xs:List aj}(h:w.ownsRow base e size v n xs){w':aw}(hg:w.grownBy w' v.ownBlock)(hb:base≤w.heap.size):Dg w w' base:=by
 refine⟨hg.os,hg.tape,hg.output,hg.size,fun k hk=>hg.block k (by omega) fun hc=>?_⟩;rcases h.2 with ⟨rfl,_⟩ | ⟨g,cap,cur,rfl,hbg,_⟩
 · cases hc
 · simp[Value.ownBlock] at hc
   omega
theorem kR.ext{w w':aw}{base:Nat}{e:be}{size:Nat}{v:aj}{n:Nat}{xs:List aj}(h:kR w base e size v n xs)(hE:dU w w'):kR w' base e size v n xs:=by
 refine⟨h.1,?_⟩;rcases h.2 with h | ⟨g,cap,cur,rfl,hbg,hg,h1,h2,h3,h4⟩
 · exact .inl h
 · exact .inr ⟨g,cap,cur,rfl,hbg,hE.block hg,h1,h2,h3,h4⟩
theorem kR.row{w:aw}{base:Nat}{e:be}{size:Nat}{v:aj}{n:Nat}{xs:List aj}(h:kR w base e size v n xs):(v=.slice none 0 0∧n=0∧xs=[])∨∃g cap,v=.slice (some ⟨g,0,none⟩) n cap∧base≤g∧n≤cap∧cap≤maxLen∧g<w.heap.size∧qN w ⟨g,0,none⟩ xs:=by
 rcases h.2 with ⟨rfl,rfl⟩ | ⟨g,cap,cur,rfl,hbg,hg,h1,h2,h3,h4⟩
 · exact .inl ⟨rfl,rfl,bz (by simpa using h.1)⟩
 · refine .inr ⟨g,cap,rfl,hbg,h1,h2,(cy.1 hg).1,fun j u hj=>?_⟩
   rw[gA,ah,cell_of_row w g j cur e (0,0) hg];rw[←h4,dz] at hj;split at hj
   · simpa using hj
   · cases hj
theorem iJ{s0 x0:bm}{base c b nn mm cap:Nat}{E:be}{z v:aj}{xs news:List aj}{ad:Addr}{a0:Array be}(ha:a0 = #[T,T])(hu:P.underlying T=some (.slice E))(hi:(P.info? E).map (fun i=>(i.size,i.bytes,i.zero))=some (c,b,some z))(hz:z.cells.size=c)(hc:0<c)
 (hs:ev l s0=v) (hown:kR w base E c v nn xs) (hx:ev l x0=.slice (some ad) mm cap) (hl:news.length=mm*c) (hrow:qN w ad news) (h1:∀u∈news,u.oneCell'=true) (h63:nn+mm≤9223372036854775807) (hbytes:(nn+mm)*b≤140737488355328) (hbase:base≤w.heap.size)
 (h:∀v' w',kR w' base E c v' (nn+mm) (xs++news)→Dg w w' base→(v'=.slice none 0 0↔v=.slice none 0 0∧mm=0)→bh P ops Q rest (Fr (l.set d v') ds) w') :
 bh P ops Q (bx (some d) (.call { callee:=.builtin .append,args:=#[s0,x0],argTypes:=a0 }) ty pos after none::rest) (Fr l ds) w:=by
 subst ha;cases hq:P.info? E with
 | none=>rw[hq] at hi;cases hi
 | some i =>
  rw[hq] at hi;simp only[fb,fu,fp] at hi;obtain⟨e1,e2,e3⟩:=hi;refine wpList_append_own w rfl s0 x0 T rfl base E i z c b hu hq e3 e1 e2 hz hc v nn xs (by rw[jS,dV];exact hs) hown ad mm cap news (by rw[jS,dV];exact hx) hl hrow h1 (by simpa[maxLen] using h63) hbytes hbase ?_;intro v' w' ho hg hn;show bh P ops Q rest ((Fr l ds).put (some d) v') w'
  rw[jM];exact h v' w' ho (Oi hown hg hbase) hn
theorem Su{s0 x0:bm}{base c b nn cap:Nat}{E:be}{z v:aj}{xs:List aj}{a0:Array be}(ha:a0 = #[T,T])(hu:P.underlying T=some (.slice E))(hi:(P.info? E).map (fun i=>(i.size,i.bytes,i.zero))=some (c,b,some z))
 (hs:ev l s0=v) (hown:kR w base E c v nn xs) (hx:ev l x0=.slice none 0 cap)
 (h:bh P ops Q rest (Fr (l.set d v) ds) w) :
 bh P ops Q (bx (some d) (.call { callee:=.builtin .append,args:=#[s0,x0],argTypes:=a0 }) ty pos after none::rest) (Fr l ds) w:=by
 subst ha;cases hq:P.info? E with
 | none=>rw[hq] at hi;cases hi
 | some i =>
  refine mC (w':=w) (fun o ho _=>?_) h;rcases hown.2 with ⟨rfl,rfl⟩ | ⟨g,cp,cur,rfl,hbg,hg,h1,h2,h3,h4⟩
  · simp[cm,ho,resolve,invoke,builtin,dV,hs,hx,Builtin.append_,bt hu,sizeOf,typeInfo,hq,Builtin.lenOf,Builtin.firstCells]
  · simp[cm,ho,resolve,invoke,builtin,dV,hs,hx,Builtin.append_,bt hu,sizeOf,typeInfo,hq,Builtin.lenOf,Builtin.firstCells,h1,storeCells]
end
section
variable {P:cj} {ds:List dp} {l:List aj} {x y:bm} {T T' ty:be} {k:IntKind} {m n r:Int}
theorem cD(hx:ev l x=.int k m)(hy:ev l y=.int k n)(h:m<n):iG P l (.binOp .lss T x y T') ty (.bool true):=by
 have:=dZ (P:=P) (T:=T) (T':=T') (ty:=ty) hx hy;rwa [decide_eq_true h] at this
theorem fD(hx:ev l x=.int k m)(hy:ev l y=.int k n)(h:¬m<n):iG P l (.binOp .lss T x y T') ty (.bool false):=by
 have:=dZ (P:=P) (T:=T) (T':=T') (ty:=ty) hx hy;rwa [decide_eq_false h] at this
theorem Oj(hx:ev l x=.int k m)(hy:ev l y=.int k n)(h:m≤n):iG P l (.binOp .leq T x y T') ty (.bool true):=by
 have:=Bm (P:=P) (T:=T) (T':=T') (ty:=ty) hx hy;rwa [decide_eq_true h] at this
theorem Dh(hx:ev l x=.int k m)(hy:ev l y=.int k n)(h:¬m≤n):iG P l (.binOp .leq T x y T') ty (.bool false):=by
 have:=Bm (P:=P) (T:=T) (T':=T') (ty:=ty) hx hy;rwa [decide_eq_false h] at this
theorem lN(hx:ev l x=.int k m)(hy:ev l y=.int k n)(h:n<m):iG P l (.binOp .gtr T x y T') ty (.bool true):=by
 have:=gW (P:=P) (T:=T) (T':=T') (ty:=ty) hx hy;rwa [decide_eq_true h] at this
theorem kE(hx:ev l x=.int k m)(hy:ev l y=.int k n)(h:¬n<m):iG P l (.binOp .gtr T x y T') ty (.bool false):=by
 have:=gW (P:=P) (T:=T) (T':=T') (ty:=ty) hx hy;rwa [decide_eq_false h] at this
theorem Vr(hx:ev l x=.int k m)(hy:ev l y=.int k n)(h:n≤m):iG P l (.binOp .geq T x y T') ty (.bool true):=by
 have:=lD (P:=P) (T:=T) (T':=T') (ty:=ty) hx hy;rwa [decide_eq_true h] at this
theorem acg(hx:ev l x=.int k m)(hy:ev l y=.int k n)(h:¬n≤m):iG P l (.binOp .geq T x y T') ty (.bool false):=by
 have:=lD (P:=P) (T:=T) (T':=T') (ty:=ty) hx hy;rwa [decide_eq_false h] at this
theorem pL(hx:ev l x=.int k m)(hy:ev l y=.int k n)(h:m=n):iG P l (.binOp .eql T x y T') ty (.bool true):=by
 have:=mF (P:=P) (T:=T) (T':=T') (ty:=ty) hx hy;rwa [decide_eq_true h] at this
theorem mU(hx:ev l x=.int k m)(hy:ev l y=.int k n)(h:¬m=n):iG P l (.binOp .eql T x y T') ty (.bool false):=by
 have:=mF (P:=P) (T:=T) (T':=T') (ty:=ty) hx hy;rwa [decide_eq_false h] at this
theorem wU(hx:ev l x=.int k m)(hy:ev l y=.int k n)(h:m≠n):iG P l (.binOp .neq T x y T') ty (.bool true):=by
 have:=nZ (P:=P) (T:=T) (T':=T') (ty:=ty) hx hy;rwa [decide_eq_true h] at this
theorem rV(hx:ev l x=.int k m)(hy:ev l y=.int k n)(h:¬m≠n):iG P l (.binOp .neq T x y T') ty (.bool false):=by
 have:=nZ (P:=P) (T:=T) (T':=T') (ty:=ty) hx hy;rwa [decide_eq_false h] at this
theorem cT{c:bm}(hc:ev l c=.bool true):iG P l (.pick c x y) ty (ev l x):=Ip hc
theorem cV{c:bm}(hc:ev l c=.bool false):iG P l (.pick c x y) ty (ev l y):=Ip hc
theorem xR{op:Op}{v u:aj}(h:iG P l op ty v)(e:v=u):iG P l op ty u:=e▸h
theorem kZ{b c:Bool}(h:b=c):Value.bool b=Value.bool c:=by rw[h]
theorem Vs{k:IntKind}{a b:Int}(h:a=b):gi k a=gi k b:=by rw[h]
end
def nY:List aj→List Nat→(Nat→aj)→List aj
 | l,t::ts,g=>nY (l.set t (g t)) ts g
 | l,[],_=>l
theorem bC{l:List aj}{t:Nat}{ts:List Nat}{g:Nat→aj}:nY l (t::ts) g=nY (l.set t (g t)) ts g:=rfl
theorem bJ{l:List aj}{g:Nat→aj}:nY l [] g=l:=rfl
theorem Gq:∀(ts:List Nat) (l:List aj),nY l ts (l.getD · undef)=l:=by
 intro ts;have key:∀(ts:List Nat) (l:List aj) (g:Nat→aj),(∀t,l.set t (g t)=l)→nY l ts g=l:=by
  intro ts
  induction ts with
  | nil=>intro l g _;rfl
  | cons t ts ih=>intro l g h;rw[bC,h t];exact ih l g h
 exact fun l=>key ts l _ fun t=>Lj
section
variable {P:cj} {ds:List dp} {l:List aj}
theorem dI{c:Code}{Q:Exit→Act→aw→Prop}{w:aw}(ts ss:List Nat)(I:Nat→List aj→aw→Prop)(h0:∃n,I n (ts.map (l.getD · undef)) w)
 (hr:∀n vs w,I n vs w→∀g:Nat→aj,c.wp P (af (fun a' w'=>∃n' l',n'<n∧a'=Fr l'∧nY (kP l ts (ts.map (l'.getD · undef))) ss (l'.getD · undef)=l'∧I n' (ts.map (l'.getD · undef)) w') Q) (Fr (nY (kP l ts vs) ss g)) w):(Code.loop c).wp P Q (Fr l) w:=by
 obtain⟨n0,h0⟩:=h0
 let J:Nat→Act→aw→Prop:=fun n a w=>∃vs g,a=Fr (nY (kP l ts vs) ss g)∧I n vs w
 have hJ0:∃n,J n (Fr l) w:=⟨n0,_,(l.getD · undef),by rw[xP,Gq],h0⟩
 let μ:Act→aw→Nat:=fun a w=>@dite _ (∃n,J n a w) (Classical.propDecidable _) (fun h=>Df (fun n=>J n a w) h) (fun _=>0)
 refine wp_loop (fun a w=>∃n,J n a w) μ hJ0 ?_;intro a w hI;obtain⟨vs,g,rfl,hIv⟩:=Lk hI;refine Code.wp_mono ?_ (hr _ vs w hIv g);intro e a' w' hq;cases e with
 | normal =>
  obtain⟨n',l',hlt,rfl,he,hI'⟩:=hq;have hJ:J n' (Fr l') w':=⟨_,(l'.getD · undef),by rw[he],hI'⟩
  refine⟨⟨n',hJ⟩,?_⟩;have e1:μ (Fr l') w'=Df (fun n=>J n (Fr l') w') ⟨n',hJ⟩:=by simp only[μ];rw[dif_pos ⟨n',hJ⟩]
  have e2:μ (Fr (nY (kP l ts vs) ss g)) w=Df (fun n=>J n (Fr (nY (kP l ts vs) ss g)) w) hI:=by simp only[μ];rw[dif_pos hI]
  rw[e1,e2];exact d_ (St _ hJ) hlt
 | exit id=>exact hq
 | goto id=>exact hq
 | ret=>exact hq
 | panic ch=>exact hq
 | outgrown=>exact hq
end
section
variable {P:cj} {ds:List dp} {l:List aj} {ops:Array Oper} {Q:Exit→Act→aw→Prop} {w:aw} {rest:List (Oper × Bool)} {d:Nat} {op:Op} {ty:be} {pos:String} {after:Array Edge} {v:aj}
theorem wJ(hr:iG P l op ty v)(h:eY P ops Q rest (Fr (l.set d v) ds) w):eY P ops Q ((bx (some d) op ty pos after none,true)::rest) (Fr l ds) w:=by
 refine⟨v,.inl ⟨by simp[Region.wanted],fun w=>hr w _ rfl rfl⟩,?_⟩;show eY P ops Q rest ((Fr l ds).put (some d) v) w
 rw[jM];exact h
theorem aeb(h:Q .normal (Fr l ds) w):eY P ops Q [] (Fr l ds) w:=h
theorem ach{o:Oper}(h:bh P ops (af (eY P ops Q rest) Q) [o] (Fr l ds) w):eY P ops Q ((o,false)::rest) (Fr l ds) w:=h
theorem dJ{Q:Exit→Act→aw→Prop}(h:∀c (t:Array aj) ds (t':Array aj) w,Q (.panic c) { tmps:=t,defers:=ds } w→Q (.panic c) { tmps:=t',defers:=ds } w):∀c d v a w,Q (.panic c) (Act.put a d v) w→Q (.panic c) a w:=by
 intro c d v a w hq;cases d with
 | none=>exact hq
 | some d=>exact h c _ _ _ w hq
end
end Go.Lith
namespace Go.Lith
open Go.RowKit
/-! ### Names that are short -/
theorem zA{l:List aj}(t:Nat):ev l (.tmp t)=l.getD t undef:=rfl
theorem zB{l:List aj}(v:aj):ev l (.const v)=v:=rfl
theorem zC{l:List aj}(f:Nat):ev l (.func f)=.func (.func f) #[] #[]:=rfl
theorem zD{α:Type}{x:α}{xs:List α}{n:Nat}{d:α}:(x::xs).getD (n+1) d=xs.getD n d:=rfl
theorem zE{α:Type}{x:α}{xs:List α}{d:α}:(x::xs).getD 0 d=x:=rfl
theorem zF{α:Type}{x:α}{xs:List α}{n:Nat}{a:α}:(x::xs).set (n+1) a=x::xs.set n a:=rfl
theorem zG{α:Type}{x:α}{xs:List α}{a:α}:(x::xs).set 0 a=a::xs:=rfl
theorem zH{α:Type}{x:α}{xs:List α}{n:Nat}:(x::xs).take (n+1)=x::xs.take n:=rfl
theorem zI{α:Type}{xs:List α}:xs.take 0=[]:=h_
theorem zJ{α:Type}{x:α}{xs:List α}{n:Nat}:(x::xs).drop (n+1)=xs.drop n:=rfl
theorem zK{α:Type}{xs:List α}:xs.drop 0=xs:=rfl
theorem zL{α:Type}{x:α}{xs ys:List α}:(x::xs)++ys=x::(xs++ys):=rfl
theorem zM{α:Type}{ys:List α}:[]++ys=ys:=rfl
theorem zN{α:Type}{ys:List α}:ys++[]=ys:=du ys
theorem zO{α:Type}{x:α}{xs:List α}:(x::xs).length=xs.length+1:=rfl
theorem zP{α:Type}:([]:List α).length=0:=rfl
theorem zQ{α β:Type}{f:α→β}{x:α}{xs:List α}:(x::xs).map f=f x::xs.map f:=rfl
theorem zR{α β:Type}{f:α→β}:([]:List α).map f=[]:=rfl
theorem zS{α:Type}{l:List α}{i:Nat}:l.toArray[i]? = l[i]?:=List.getElem?_toArray
theorem zT{α:Type}{x:α}{xs:List α}{n:Nat}:(x::xs)[n+1]? = xs[n]?:=rfl
theorem zU{α:Type}{x:α}{xs:List α}:(x::xs)[0]? = some x:=rfl
theorem zV{α:Type}{x d:α}:(some x).getD d=x:=rfl
theorem zz:(∀(l:List Go.Value) (t:Nat), ev l (.tmp t)=l.getD t undef)∧(∀(l:List Go.Value) (v:Go.Value), ev l (.const v)=v)∧(∀(l:List Go.Value) (f:Nat), ev l (.func f)=.func (.func f) #[] #[])∧(∀{α:Type} (x:α) (xs:List α) (n:Nat) (d:α), (x::xs).getD (n+1) d=xs.getD n d)∧(∀{α:Type} (x:α) (xs:List α) (d:α), (x::xs).getD 0 d=x)∧(∀{α:Type} (x:α) (xs:List α) (n:Nat) (a:α), (x::xs).set (n+1) a=x::xs.set n a)∧(∀{α:Type} (x:α) (xs:List α) (a:α), (x::xs).set 0 a=a::xs) := ⟨fun _ _ => rfl, fun _ _ => rfl, fun _ _ => rfl, fun _ _ _ _ => rfl, fun _ _ _ => rfl, fun _ _ _ _ => rfl, fun _ _ _ => rfl⟩
theorem zy:(∀{α:Type} (x:α) (xs:List α) (n:Nat), (x::xs).take (n+1)=x::xs.take n)∧(∀{α:Type} (xs:List α), xs.take 0=[])∧(∀{α:Type} (x:α) (xs:List α) (n:Nat), (x::xs).drop (n+1)=xs.drop n)∧(∀{α:Type} (xs:List α), xs.drop 0=xs) := ⟨fun _ _ _ => rfl, fun _ => h_, fun _ _ _ => rfl, fun _ => rfl⟩
theorem zx:(∀{α:Type} (x:α) (xs ys:List α), (x::xs)++ys=x::(xs++ys))∧(∀{α:Type} (ys:List α), []++ys=ys)∧(∀{α:Type} (ys:List α), ys++[]=ys)∧(∀{α:Type} (x:α) (xs:List α), (x::xs).length=xs.length+1)∧(∀{α:Type}, ([]:List α).length=0) := ⟨fun _ _ _ => rfl, fun _ => rfl, fun _ => du _, fun _ _ => rfl, rfl⟩
theorem zw:(∀{α:Type} (l:List α) (i:Nat), l.toArray[i]? = l[i]?)∧(∀{α:Type} (x:α) (xs:List α) (n:Nat), (x::xs)[n+1]? = xs[n]?)∧(∀{α:Type} (x:α) (xs:List α), (x::xs)[0]? = some x)∧(∀{α:Type} (x d:α), (some x).getD d=x) := ⟨fun _ _ => List.getElem?_toArray, fun _ _ _ => rfl, fun _ _ => rfl, fun _ _ => rfl⟩
theorem zu:(∀(l:List Go.Value) (t:Nat) (ts:List Nat) (v:Go.Value) (vs:List Go.Value), kP l (t::ts) (v::vs)=kP (l.set t v) ts vs)∧(∀(l vs:List Go.Value), kP l [] vs=l)∧(∀(l:List Go.Value) (t:Nat) (ts:List Nat) (g:Nat→Go.Value), nY l (t::ts) g=nY (l.set t (g t)) ts g)∧(∀(l:List Go.Value) (g:Nat→Go.Value), nY l [] g=l) := ⟨fun _ _ _ _ _ => rfl, fun _ _ => uV, fun _ _ _ _ => rfl, fun _ _ => rfl⟩
theorem zv:(∀{α β:Type} (f:α→β) (x:α) (xs:List α), (x::xs).map f=f x::xs.map f)∧(∀{α β:Type} (f:α→β), ([]:List α).map f=[])∧(∀(l:List Go.Value) (t:Nat) (ts:List Nat) (v:Go.Value) (vs:List Go.Value), kP l (t::ts) (v::vs)=kP (l.set t v) ts vs)∧(∀(l vs:List Go.Value), kP l [] vs=l)∧(∀(l:List Go.Value) (t:Nat) (ts:List Nat) (g:Nat→Go.Value), nY l (t::ts) g=nY (l.set t (g t)) ts g)∧(∀(l:List Go.Value) (g:Nat→Go.Value), nY l [] g=l) := ⟨fun _ _ _ => rfl, fun _ => rfl, fun _ _ _ _ _ => rfl, fun _ _ => uV, fun _ _ _ _ => rfl, fun _ _ => rfl⟩
end Go.Lith
namespace Go.Lith
open Go.RowKit
section
variable {P:cj} {ds:List dp} {l:List aj} {x y z0:bm} {T T' ty:be}
theorem Ll{A:Option Addr}{n c:Nat}{E:be}(hu:P.underlying T=some (.slice E))(hx:ev l x=.slice A n c)(hy:ev l y=.slice none 0 0):iG P l (.binOp .eql T x y T') ty (.bool A.isNone):=fun w o ho _=>by
 obtain⟨D,hD⟩:∃D,Op.maxDepth=D+1:=⟨9999,rfl⟩
 cases A <;> simp[cm,ho,dV,hx,hy,eqGuard,binOp,Op.equal,hD,Op.equalIn,bt hu]
variable {ops:Array Oper} {Q:Exit→Act→aw→Prop} {rest:List Oper} {d:Nat} {pos:String} {after:Array Edge} {w:aw}
theorem aat{op:Op}{v:aj}{w':aw}(hr:∀o:Oper,o.op=op→(cm (Fr l).eval o).run P w=.ok (.value v) w')(h:bh P ops Q rest (Fr l ds) w'):bh P ops Q (bx none op ty pos after none::rest) (Fr l ds) w:=by
 refine wpList_plain rfl fun K hK=>?_;unfold ke;rw[jS,hr _ rfl];exact hK _ _ h
theorem Is:my (fun (_:Nat)=>(default:aj)) (mo 0) = #[]:=Array.eq_empty_of_size_eq_zero (by simp)
theorem Iu(z v:aj):(my (fun x=>[z][x%1]?.getD default) (mo 1)).setIfInBounds 0 v = #[v]:=by
 apply Array.ext (by simp);intro i h1 h2;obtain rfl:i=0:=by simpa using h2
 simp
theorem Iv(z v v2:aj):((my (fun x=>[z][x%1]?.getD default) (mo 2)).setIfInBounds 0 v).setIfInBounds 1 v2 = #[v,v2]:=by
 apply Array.ext (by simp);intro i h1 h2;have h3:i<2:=by simpa using h2
 rcases cn i 1 with h | h
 · obtain rfl:i=0:=by omega
   simp
 · obtain rfl:i=1:=by omega
   simp
theorem Lm{E:be}{c:Nat}(hu:P.underlying T=some (.slice E))(hi:(P.info? E).map (fun i=>i.size)=some c)
 (h:∀w' g,dU w w'→w.heap.size≤g→gG w' g [] E→bh P ops Q rest (Fr (l.set d (.slice (some ⟨g,0,none⟩) 0 0)) ds) w') :
 bh P ops Q (bx (some d) (.buildSlice T 0 #[]) ty pos after none::rest) (Fr l ds) w:=by
 cases hq:P.info? E with
 | none=>rw[hq] at hi;cases hi
 | some i =>
  exact mC (w':=w.alloc (.cells #[] E)) (v:=.slice (some ⟨w.heap.size,0,none⟩) 0 0) (fun o ho _=>by simp[cm,ho,Instr.buildSlice,bt hu,sizeOf,typeInfo,hq,Instr.fill,newRow,newObj,Sem.run,Is]) (h _ _ ((dU.refl w).alloc _) (bi _) (jZ w [] E))
theorem cN{E:be}{z:aj}(hu:P.underlying T=some (.slice E))(hi:(P.info? E).map (fun i=>(i.size,i.zero))=some (1,some z))(hz:z.cells = #[z]){v:aj}(hx:ev l x=v)(hv:v.cells = #[v])
 (h:∀w' g,dU w w'→w.heap.size≤g→gG w' g [v] E→bh P ops Q rest (Fr (l.set d (.slice (some ⟨g,0,none⟩) 1 1)) ds) w') :
 bh P ops Q (bx (some d) (.buildSlice T 1 #[(0,x)]) ty pos after none::rest) (Fr l ds) w:=by
 cases hq:P.info? E with
 | none=>rw[hq] at hi;cases hi
 | some i =>
  rw[hq] at hi;simp only[fb,fu,fp] at hi;obtain⟨e1,e2⟩:=hi;exact mC (w':=w.alloc (.cells #[v] E)) (v:=.slice (some ⟨w.heap.size,0,none⟩) 1 1) (fun o ho _=>by simp[cm,ho,Instr.buildSlice,bt hu,sizeOf,typeInfo,zeroValue,hq,e1,e2,hz,dV,hx,hv,Instr.fill,newRow,newObj,Sem.run,Iu]) (h _ _ ((dU.refl w).alloc _) (bi _) (jZ w [v] E))
theorem qQ{E:be}{z:aj}(hu:P.underlying T=some (.slice E))(hi:(P.info? E).map (fun i=>(i.size,i.zero))=some (1,some z))(hz:z.cells = #[z]){v v2:aj}(hx:ev l x=v)(hv:v.cells = #[v])(hy:ev l y=v2)(hv2:v2.cells = #[v2])
 (h:∀w' g,dU w w'→w.heap.size≤g→gG w' g [v,v2] E→bh P ops Q rest (Fr (l.set d (.slice (some ⟨g,0,none⟩) 2 2)) ds) w') :
 bh P ops Q (bx (some d) (.buildSlice T 2 #[(0,x),(1,y)]) ty pos after none::rest) (Fr l ds) w:=by
 cases hq:P.info? E with
 | none=>rw[hq] at hi;cases hi
 | some i =>
  rw[hq] at hi;simp only[fb,fu,fp] at hi;obtain⟨e1,e2⟩:=hi;exact mC (w':=w.alloc (.cells #[v,v2] E)) (v:=.slice (some ⟨w.heap.size,0,none⟩) 2 2) (fun o ho _=>by simp[cm,ho,Instr.buildSlice,bt hu,sizeOf,typeInfo,zeroValue,hq,e1,e2,hz,dV,hx,hv,hy,hv2,Instr.fill,newRow,newObj,Sem.run,Iv]) (h _ _ ((dU.refl w).alloc _) (bi _) (jZ w [v,v2] E))
theorem kR.build0{base g:Nat}{E:be}{c:Nat}(hB:gG w g [] E)(hb:base≤g):kR w base E c (.slice (some ⟨g,0,none⟩) 0 0) 0 []:=by
 refine⟨(Nat.zero_mul c).symm,.inr ⟨g,0,#[],rfl,hb,hB,bi _,by decide,by simp,by simp⟩⟩
theorem aau{E:be}{z:aj}{g o n cap:Nat}{cs:List aj}{t:be}{a0:Array be}(ha:a0 = #[T])(hu:P.underlying T=some (.slice E))(hi:(P.info? E).map (fun i=>(i.size,i.zero))=some (1,some z))(hz:z.cells = #[z])(hx:ev l x=.slice (some ⟨g,o,none⟩) n cap)(hn:0<n)(hB:gG w g cs t)(hfit:o+n≤cs.length)(h1:z.oneCell'=true)
 (h:∀w',Qz w w' g→gG w' g (aW cs o (bk n z)) t→bh P ops Q rest (Fr l ds) w') :
 bh P ops Q (bx none (.call { callee:=.builtin .clear,args:=#[x],argTypes:=a0 }) ty pos after none::rest) (Fr l ds) w:=by
 subst ha;cases hq:P.info? E with
 | none=>rw[hq] at hi;cases hi
 | some i =>
  rw[hq] at hi;simp only[fb,fu,fp] at hi;obtain⟨e1,e2⟩:=hi;have hzc:(Builtin.zeroCells z.cells n).toList=bk n z:=by
   rw[hz];apply List.ext_getElem
   · simp[Builtin.zeroCells]
   · intro j h1 h2
     simp[Builtin.zeroCells,Nat.mod_one]
  have hst:=run_storeCells_at P g o t (bk n z) 0 cs.toArray w hB (by simpa using hfit) (fun u hu=>by rw[di hu];exact h1);simp only[fx,ik] at hst;obtain⟨n,rfl⟩:∃m,n=m+1:=⟨n-1,by omega⟩
  refine aat (v:=.tuple #[]) (w':=w.setRow g (aW cs o (bk (n+1) z)).toArray) (fun o' ho=>?_) (h _ (tL w g _) (setRow_heap w g cs.toArray _ t _ hB));simp[cm,ho,resolve,invoke,builtin,dV,hx,Builtin.clear_,bt hu,zeroValue,typeInfo,hq,e2,hzc,hst,aW]
theorem Vt{cs:List aj}{off:Nat}:aW cs off []=cs:=by simp[aW]
end
end Go.Lith
namespace Go.Lith
open Go.RowKit
theorem agi{P:cj}{l:List aj}{w:aw}{fn:Func}{R:Ending→aw→Prop}(hr:fn.results = #[])(hR:R (.returned (.tuple #[])) w):bodyPost P fn R .ret (Fr l) w:=by
 refine⟨rfl,_,?_,hR⟩;unfold results;rw[hr];simp
theorem aec{P:cj}{l:List aj}{w:aw}{fn:Func}{R:Ending→aw→Prop}(hr:fn.results = #[])(hR:R (.returned (.tuple #[])) w):bodyPost P fn R .normal (Fr l) w:=agi hr hR
structure Upd(w w':aw)(g:Nat):Prop where
 os:w'.os=w.os
 tape:w'.tape=w.tape
 output:w'.output=w.output
 size:w.heap.size≤w'.heap.size
 block:∀k,k<w.heap.size→k≠g→w'.heap[k]? = w.heap[k]?
theorem dU.upd{w w':aw}(h:dU w w')(g:Nat):Upd w w' g:=⟨h.os,h.tape,h.output,h.size,fun k hk _=>Below.block h k hk⟩
theorem Upd.chg{w w' w'':aw}{g k:Nat}(h:Upd w w' g)(hC:Qz w' w'' k)(hk:w.heap.size≤k∨k=g):Upd w w'' g :=
 ⟨hC.os.trans h.os,hC.tape.trans h.tape,hC.output.trans h.output,by rw[hC.size];exact h.size,fun j hj hne=>(hC.block j (by omega)).trans (h.block j hj hne)⟩
theorem dU.grownUpd{w0 w w':aw}{g:Nat}(h:dU w0 w)(hU:Upd w w' g)(hg:w0.heap.size≤g):dU w0 w' :=
 ⟨hU.os.trans h.os,hU.tape.trans h.tape,hU.output.trans h.output,ak h.size hU.size,fun k hk=>(hU.block k (ai hk h.size) (by omega)).trans (Below.block h k hk)⟩
theorem gG.upd{w w':aw}{g g':Nat}{cs:List aj}{t:be}(h:gG w g cs t)(hU:Upd w w' g')(hne:g≠g'):gG w' g cs t:=(hU.block g h.lt hne).trans h
def Vu(P:cj)(f:FuncId)(args:List aj)(w:aw)(g:Nat)(R:aj→aw→Prop):Prop :=
 bL P f∧Calls P f args.toArray w fun e w'=>∃v,e=.returned v∧Upd w w' g∧R v w'
section
variable {P:cj} {ds:List dp} {l:List aj} {x y:bm} {ty:be} {w:aw}
variable {ops:Array Oper} {Q:Exit→Act→aw→Prop} {rest:List Oper} {d:Nat} {pos:String} {after:Array Edge}
theorem xS{f:FuncId}{fo:bm}{xs:Array bm}{args:List aj}{first cap:Array aj}{a0:Array be}{g:Nat}{R:aj→aw→Prop}(hf:ev l fo=.func (.func f) first cap)(hxs:first.toList++xs.toList.map (ev l)++cap.toList=args)(hc:Vu P f args w g R)
 (h:∀v w',Upd w w' g→R v w'→bh P ops Q rest (Fr (l.set d v) ds) w'):bh P ops Q (bx (some d) (.call { callee:=.value fo,args:=xs,argTypes:=a0 }) ty pos after none::rest) (Fr l ds) w:=by
 refine wpList_plain rfl fun K hK=>?_;unfold ke;rw[jS,oU hc.1 hf hxs _ rfl];refine hc.2.mono ?_;rintro e w' ⟨v,rfl,hE,hR⟩;show K ((Fr l ds).put (some d) v) w'
 rw[jM];exact hK _ _ (h v w' hE hR)
theorem aav{T:be}{E:be}{g o n cap m cap2:Nat}{A:Option Addr}{cs us:List aj}{t:be}{T':be}{a0:Array be}(ha:a0 = #[T,T'])(hu:P.underlying T=some (.slice E))(hi:(P.info? E).map (·.size)=some 1)(hx:ev l x=.slice (some ⟨g,o,none⟩) n cap)(hy:ev l y=.slice A m cap2)(hl:us.length=Nat.min m n)
 (hsrc:∀j v,us[j]? = some v→∃a,A=some a∧w.cell? (a.add j)=some v) (hB:gG w g cs t) (hfit:o+us.length≤cs.length) (h1:∀v∈us,v.oneCell'=true)
 (h:∀w',Qz w w' g→gG w' g (aW cs o us) t→bh P ops Q rest (Fr (l.set d (.int .i64 (us.length:Int))) ds) w') :
 bh P ops Q (bx (some d) (.call { callee:=.builtin .copy,args:=#[x,y],argTypes:=a0 }) ty pos after none::rest) (Fr l ds) w:=by
 subst ha;cases us with
 | nil =>
  refine mC (v:=.int .i64 0) (w':=w) (fun o' ho _=>?_) (h w ⟨rfl,rfl,rfl,rfl,fun _ _=>rfl⟩ (by rw[Vt];exact hB));have hrun:=run_copy_none (P:=P) w T T' o'.type E (some ⟨g,o,none⟩) A n cap m cap2 hu hi hl.symm;simp[cm,ho,resolve,invoke,builtin,dV,hx,hy,hrun,goInt]
 | cons u us =>
  obtain⟨a,rfl,_⟩:=hsrc 0 u rfl;refine mC (v:=.int .i64 ((u::us).length:Int)) (w':=w.setRow g (aW cs o (u::us)).toArray) (fun o' ho _=>?_) (h _ (tL w g _) (setRow_heap w g cs.toArray _ t _ hB));have hrun:=run_copy_row (P:=P) w T T' o'.type E g o n cap a m cap2 cs.toArray t (u::us) hu hi hB hl (fun j v hj=>let ⟨a',e,hc⟩:=hsrc j v hj;by cases e;exact hc) (by simpa using hfit) h1;simp only[ik] at hrun;simp[cm,ho,resolve,invoke,builtin,dV,hx,hy,hrun,aW,goInt]
end
end Go.Lith
namespace Go.Lith
open Go.RowKit
def kF(w:aw)(S:aw→Prop):Prop:=S w
theorem kF.nil{w:aw}:kF w (fun _=>True):=trivial
theorem kF.blk{w:aw}{g:Nat}{cs:List aj}{t:be}{S:aw→Prop}(h:gG w g cs t)(k:kF w S):kF w (fun w=>gG w g cs t∧S w):=⟨h,k⟩
section
variable {P:cj} {ops:Array Oper} {md:Region.Mode} {S:aw→Prop}
def eO(P:cj)(ops:Array Oper)(S:aw→Prop)(Q:Exit→Act→aw→Prop):List (Oper × Bool)→Act→aw→Prop
 | [],a,w=>Q .normal a w
 | (o,true)::r,a,w=>∃v,YieldsIf P ops S o v a∧eO P ops S Q r (a.put o.dst v) w
 | (o,false)::r,a,w=>bh P ops (af (fun a w=>S w∧eO P ops S Q r a w) Q) [o] a w
theorem rW{Q:Exit→Act→aw→Prop}(hs:Region.noSelect ops=true)(hQ:∀c d v a w,Q (.panic c) (Act.put a d v) w→Q (.panic c) a w):∀(l:List (Nat × Bool)) (listed:Array Bool) (a:Act) (w:aw),
 Af md ops l listed=true→S w→eO P ops S Q (l.map fun x=>((ops[x.1]?).getD default,x.2)) a w→wpAnyH P md ops Q S l.length listed a w
 | [],listed,a,w,hB,_,h=>⟨by simpa[Af] using hB,h⟩
 | (i,true)::r,listed,a,w,hB,hS,h=>by
  simp only[Af,bu] at hB;obtain⟨⟨⟨h1,h2⟩,h3⟩,h4⟩:=hB;obtain⟨o,ho⟩:=dg.1 h1;simp only[dh,eO,ho,dt] at h;obtain⟨v,hy,hr⟩:=h;exact wpAnyH_take ho hs h2 h3 (fun c a w=>hQ c _ v a w) hy hS (rW hs hQ r _ _ _ h4 hS hr)
 | (i,false)::r,listed,a,w,hB,hS,h=>by
  simp only[Af,bu,decide_eq_true_eq] at hB;obtain⟨⟨h1,h2⟩,h4⟩:=hB;obtain⟨o,ho⟩:=dg.1 h1;refine wpAnyH_all h2 (by simp) fun j hj=>?_;obtain rfl:j=i:=by simpa using hj
  simp only[dh,eO,ho,dt] at h;have key:∀a' w',af (fun a w=>S w∧eO P ops S Q (r.map fun x=>((ops[x.1]?).getD default,x.2)) a w) Q .normal a' w'→S w'∧wpAnyH P md ops Q S r.length (listed.setIfInBounds j true) a' w':=fun a' w' hh=>⟨hh.1,rW hs hQ r _ a' w' h4 hh.1 hh.2⟩
  unfold wpOp;simp only[ho];simp only[bh] at h;split
  · rename_i hw
    rw[if_pos hw] at h;rcases h with h | ⟨ha,x,y,hl⟩
    · refine .inl ?_
      unfold ke at h ⊢;generalize (cm a.eval o).run P w=res at *
      cases res with
      | ok n w' =>
       cases n <;> simp only[ll] at h ⊢ <;>
        first
         | exact key _ _ h
         | exact Calls.mono h (fun e w'' he=>by cases e <;> first | exact key _ _ he | exact he)
         | exact Rows.mono h (fun _ _ he=>key _ _ he)
      | halt x w'=>cases x <;> simp only[ll] at h ⊢ <;> exact h
    · exact .inr ⟨ha,x,y,hl⟩
  · rename_i hw
    rw[if_neg hw] at h;exact key _ _ h
theorem eF{id:Nat}{Q:Exit→Act→aw→Prop}{a:Act}{w:aw}{l:List Oper}(o:List (Nat × Bool))(hm:P.follows .mixedOrders=true)(hB:(Region.noSelect l.toArray&&decide (o.length=l.length)&&Af .any l.toArray o (ff l.toArray.size false))=true)
 (hQ:∀c d v a w,Q (.panic c) (Act.put a d v) w→Q (.panic c) a w) {ol:List (Oper × Bool)} (hol:(o.map fun x=>((l.toArray[x.1]?).getD default,x.2))=ol)
 (h:∀w',dU w w'→∃S,kF w' S∧eO P l.toArray S Q ol a w'):(Code.region id l.toArray true).wp P Q a w:=by
 simp only[bu,decide_eq_true_eq] at hB;subst hol;obtain⟨S,hS,h⟩:=h _ (dU.refl w).drawn;refine wp_region_held (S:=S) hm ?_;have:=rW (md:=.any) hB.1.1 hQ o _ a { w with drawn:=w.drawn+1 } hB.2 hS h;rwa [hB.1.2] at this
variable {ds:List dp} {l:List aj} {Q:Exit→Act→aw→Prop} {w:aw} {rest:List (Oper × Bool)} {d:Nat} {op:Op} {ty:be} {pos:String} {after:Array Edge} {v:aj}
theorem Vv(hr:∀w,S w→Dc P l op ty v w)(h:eO P ops S Q rest (Fr (l.set d v) ds) w):eO P ops S Q ((bx (some d) op ty pos after none,true)::rest) (Fr l ds) w:=by
 refine⟨v,.inl ⟨by simp[Region.wanted],fun w hw=>hr w hw _ rfl rfl⟩,?_⟩;show eO P ops S Q rest ((Fr l ds).put (some d) v) w
 rw[jM];exact h
theorem bA(hr:iG P l op ty v)(h:eO P ops S Q rest (Fr (l.set d v) ds) w):eO P ops S Q ((bx (some d) op ty pos after none,true)::rest) (Fr l ds) w:=Vv (fun w _=>hr w) h
theorem cO{T:be}{x:bm}{a:Addr}(hx:ev l x=.pointer (some a))(hv:∀w',S w'→sJ P w' T a v)(h:eO P ops S Q rest (Fr (l.set d v) ds) w):eO P ops S Q ((bx (some d) (.load T x) ty pos after none,true)::rest) (Fr l ds) w :=
 Vv (fun _ hS=>lM hx (hv _ hS)) h
theorem bB(h:Q .normal (Fr l ds) w):eO P ops S Q [] (Fr l ds) w:=h
theorem dM{o:Oper}(h:bh P ops (af (fun a w=>S w∧eO P ops S Q rest a w) Q) [o] (Fr l ds) w):eO P ops S Q ((o,false)::rest) (Fr l ds) w:=h
end
end Go.Lith
namespace Go.Lith
open Go.RowKit
def tN(P:cj)(d:Nat)(T:be)(x y:aj)(p:Prop):Prop:=∀w,∃b:Bool,(Op.equalIn d T x y).run P w=.ok b w∧(b=true↔p)
section
variable {P:cj} {d:Nat} {T:be}
theorem tN.int{k k':IntKind}{m n:Int}(hu:P.underlying T=some (.int k')):tN P (d+1) T (.int k m) (.int k n) (m=n):=fun w=>⟨m == n,by unfold Op.equalIn;simp[bt hu],by simp⟩
theorem tN.bool{a b:Bool}(hu:P.underlying T=some .bool):tN P (d+1) T (.bool a) (.bool b) (a=b):=fun w=>⟨a == b,by unfold Op.equalIn;simp[bt hu],by simp⟩
theorem Di{a b:ByteArray}(h:a.toList=b.toList):a=b:=by
 rw[ByteArray.toList_eq,ByteArray.toList_eq] at h;cases a;cases b;simp at h;rw[h]
theorem Ix(a b:ByteArray):(a.toList == b.toList)=decide (a=b):=by
 by_cases h:a=b
 · subst h;simp
 · rw[decide_eq_false h];exact beq_eq_false_iff_ne.2 fun e=>h (Di e)
theorem tN.str{a b:ByteArray}(hu:P.underlying T=some .string):tN P (d+1) T (.string a) (.string b) (a=b):=fun w=>⟨a == b,by unfold Op.equalIn;simp[bt hu],by rw[beq_toListBytes,Ix];simp⟩
def wF(P:cj)(d:Nat)(xs ys:Array aj)(fs:List Field)(p:Prop):Prop:=∀w,∃b:Bool,(Op.eqFields d xs ys fs).run P w=.ok b w∧(b=true↔p)
theorem wF.nil{xs ys:Array aj}:wF P d xs ys [] True:=fun w=>⟨true,by simp[Op.eqFields],by simp⟩
theorem wF.cons{xs ys:Array aj}{f:Field}{fs:List Field}{x y:aj}{p q:Prop} (hn:f.name ≠ "_") (hx:∀w,(part f.type xs f.offset).run P w=.ok x w) (hy:∀w,(part f.type ys f.offset).run P w=.ok y w)
 (h:tN P d f.type x y p) (k:wF P d xs ys fs q):wF P d xs ys (f::fs) (p∧q):=fun w=>by
 obtain⟨b,hb,hp⟩:=h w;obtain⟨c,hc,hq⟩:=k w;cases b
 · exact⟨false,by simp[Op.eqFields,hn,hx,hy,hb],by simp at hp ⊢;intro h;exact absurd h hp⟩
 · exact⟨c,by simp[Op.eqFields,hn,hx,hy,hb,hc],by simp at hp;simp[hp,hq]⟩
def Fv(P:cj)(d:Nat)(E:be)(n:Nat)(xs ys:Array aj)(is:List Nat)(p:Prop):Prop:=∀w,∃b:Bool,(Op.eqItems d E n xs ys is).run P w=.ok b w∧(b=true↔p)
theorem Fv.nil{E:be}{n:Nat}{xs ys:Array aj}:Fv P d E n xs ys [] True:=fun w=>⟨true,by simp[Op.eqItems],by simp⟩
theorem Fv.cons{E:be}{n i:Nat}{is:List Nat}{xs ys:Array aj}{x y:aj}{p q:Prop}(hx:∀w,(part E xs (i*n)).run P w=.ok x w)(hy:∀w,(part E ys (i*n)).run P w=.ok y w)
 (h:tN P d E x y p) (k:Fv P d E n xs ys is q):Fv P d E n xs ys (i::is) (p∧q):=fun w=>by
 obtain⟨b,hb,hp⟩:=h w;obtain⟨c,hc,hq⟩:=k w;cases b
 · exact⟨false,by simp[Op.eqItems,hx,hy,hb],by simp at hp ⊢;intro h;exact absurd h hp⟩
 · exact⟨c,by simp[Op.eqItems,hx,hy,hb,hc],by simp at hp;simp[hp,hq]⟩
theorem tN.struct{fs:Array Field}{xs ys:Array aj}{p:Prop}(hu:P.underlying T=some (.struct fs))(hs:P.stoodInHeld T=false)(h:wF P d xs ys fs.toList p):tN P (d+1) T (.agg xs) (.agg ys) p:=fun w=>by
 have hf:P.fieldsOf T=fs:=by simp[Program.fieldsOf,hu]
 rw[run_equalIn_struct w d T xs ys (by rw[hf];exact hu) hs,hf];exact h w
theorem tN.array{n c:Nat}{E:be}{xs ys:Array aj}{p:Prop}(hu:P.underlying T=some (.array n E))(hc:fI P E c)(h:Fv P d E c xs ys (List.range n) p):tN P (d+1) T (.agg xs) (.agg ys) p:=fun w=>by
 obtain⟨i,hi,rfl⟩:=hc;have hE:P.cellsOf E=i.size:=by simp[Program.cellsOf,hi]
 rw[run_equalIn_array w d xs ys hu hi,hE];exact h w
theorem tN.iff{x y:aj}{p q:Prop}(h:tN P d T x y p)(hpq:p↔q):tN P d T x y q:=fun w=>let ⟨b,hb,hp⟩:=h w;⟨b,hb,hp.trans hpq⟩
theorem jB{xs:Array aj}{off:Nat}{v:aj}(hA:iS P T false)(hv:xs[off]? = some v)(w:aw):(part T xs off).run P w=.ok v w:=by simp[part,xQ hA,hv]
theorem xT{xs us:Array aj}{off c:Nat}(hA:iS P T true)(hc:fI P T c)(hv:xs.extract off (off+c)=us)(w:aw):(part T xs off).run P w=.ok (.agg us) w:=by
 subst hv;simp[part,xQ hA,gB hc]
variable {l:List aj} {x y:bm} {T' ty:be}
theorem tO{u v:aj}{p:Prop}[Decidable p](h:tN P 10000 T u v p)(w:aw):(Op.equal T u v).run P w=.ok (decide p) w:=by
 obtain⟨b,hb,hp⟩:=h w;rw[Op.equal,show Op.maxDepth=10000 from rfl,hb]
 congr 1
 cases b
 · exact (decide_eq_false (by simpa using hp)).symm
 · exact (decide_eq_true (by simpa using hp)).symm
theorem aci{xs ys:Array aj}{p:Prop}[Decidable p](hg:P.eqGuardType P.depth T=false)(hx:ev l x=.agg xs)(hy:ev l y=.agg ys)(h:tN P 10000 T (.agg xs) (.agg ys) p):iG P l (.binOp .eql T x y T') ty (.bool (decide p)):=fun w o ho _=>by
 simp[cm,ho,dV,hx,hy,eqGuard,binOp,hg,tO h]
theorem Vw{xs ys:Array aj}{p:Prop}[Decidable p](hg:P.eqGuardType P.depth T=false)(hx:ev l x=.agg xs)(hy:ev l y=.agg ys)(h:tN P 10000 T (.agg xs) (.agg ys) p):iG P l (.binOp .neq T x y T') ty (.bool (decide (¬p))):=fun w o ho _=>by
 simp[cm,ho,dV,hx,hy,eqGuard,binOp,hg,tO h]
theorem Vx{a b:Bool}(hu:P.underlying T=some .bool)(hx:ev l x=.bool a)(hy:ev l y=.bool b):iG P l (.binOp .eql T x y T') ty (.bool (decide (a=b))):=fun w o ho _=>by
 have h:=tO (tN.bool (d:=9999) (a:=a) (b:=b) hu) w;simp[cm,ho,dV,hx,hy,eqGuard,binOp,h]
theorem Dj{a b:Bool}(hu:P.underlying T=some .bool)(hx:ev l x=.bool a)(hy:ev l y=.bool b):iG P l (.binOp .neq T x y T') ty (.bool (decide (¬a=b))):=fun w o ho _=>by
 have h:=tO (tN.bool (d:=9999) (a:=a) (b:=b) hu) w;simp[cm,ho,dV,hx,hy,eqGuard,binOp,h]
theorem Ol{a b:ByteArray}(hu:P.underlying T=some .string)(hx:ev l x=.string a)(hy:ev l y=.string b):iG P l (.binOp .eql T x y T') ty (.bool (decide (a=b))):=fun w o ho _=>by
 have h:=tO (tN.str (d:=9999) (a:=a) (b:=b) hu) w;simp[cm,ho,dV,hx,hy,eqGuard,binOp,h,Op.stringOp,Ix]
theorem acj{a b:ByteArray}(hu:P.underlying T=some .string)(hx:ev l x=.string a)(hy:ev l y=.string b):iG P l (.binOp .neq T x y T') ty (.bool (decide (¬a=b))):=fun w o ho _=>by
 have h:=tO (tN.str (d:=9999) (a:=a) (b:=b) hu) w;simp[cm,ho,dV,hx,hy,eqGuard,binOp,h,Op.stringOp,Ix]
end
end Go.Lith
namespace Go.Proofs.YtimjandkmfcmiaaGreatDoor
open Go.Proofs.Tryz
open Go.RowKit Go.Lith
abbrev iB:=@underlying101
abbrev eG:=@underlying107
abbrev fE:=@underlying108
abbrev oD:=@underlying110
abbrev jV:=@underlying125
abbrev mV:=@underlying139
abbrev jW:=@underlying152
abbrev kS:=@underlying176
abbrev bM:=@underlying22
abbrev fF:=@underlying23
abbrev gE:=@underlying25
abbrev oA:=@underlying26
abbrev nK:=@underlying28
abbrev jR:=@underlying3
abbrev iK:=@underlying35
abbrev lS:=@underlying37
abbrev dF:=@underlying39
abbrev Fw:=@underlying4
abbrev sL:=@underlying43
abbrev iW:=@underlying48
abbrev nL:=@underlying5
abbrev bP:=@underlying56
abbrev iC:=@underlying58
abbrev nJ:=@underlying9
set_option maxRecDepth 100000
theorem aP:prog.follows .mixedOrders=true:=by kernel_rfl
theorem agj:bL prog 3:=⟨_,func3,by kernel_rfl,by kernel_rfl⟩
theorem aed:bL prog 11:=⟨_,func11,by kernel_rfl,by kernel_rfl⟩
theorem aee:bL prog 12:=⟨_,func12,by kernel_rfl,by kernel_rfl⟩
theorem aef:bL prog 13:=⟨_,func13,by kernel_rfl,by kernel_rfl⟩
theorem aeg:bL prog 14:=⟨_,func14,by kernel_rfl,by kernel_rfl⟩
theorem aeh:bL prog 15:=⟨_,func15,by kernel_rfl,by kernel_rfl⟩
theorem aei:bL prog 16:=⟨_,func16,by kernel_rfl,by kernel_rfl⟩
theorem aej:bL prog 19:=⟨_,func19,by kernel_rfl,by kernel_rfl⟩
theorem aek:bL prog 20:=⟨_,func20,by kernel_rfl,by kernel_rfl⟩
theorem ael:bL prog 21:=⟨_,func21,by kernel_rfl,by kernel_rfl⟩
theorem aem:bL prog 22:=⟨_,func22,by kernel_rfl,by kernel_rfl⟩
theorem aen:bL prog 23:=⟨_,func23,by kernel_rfl,by kernel_rfl⟩
theorem aeo:bL prog 24:=⟨_,func24,by kernel_rfl,by kernel_rfl⟩
theorem aep:bL prog 25:=⟨_,func25,by kernel_rfl,by kernel_rfl⟩
theorem aeq:bL prog 26:=⟨_,func26,by kernel_rfl,by kernel_rfl⟩
theorem aer:bL prog 27:=⟨_,func27,by kernel_rfl,by kernel_rfl⟩
theorem aes:bL prog 28:=⟨_,func28,by kernel_rfl,by kernel_rfl⟩
theorem aet:bL prog 29:=⟨_,func29,by kernel_rfl,by kernel_rfl⟩
theorem aeu:bL prog 30:=⟨_,func30,by kernel_rfl,by kernel_rfl⟩
theorem aev:bL prog 31:=⟨_,func31,by kernel_rfl,by kernel_rfl⟩
theorem aew:bL prog 32:=⟨_,func32,by kernel_rfl,by kernel_rfl⟩
theorem aex:bL prog 33:=⟨_,func33,by kernel_rfl,by kernel_rfl⟩
theorem aey:bL prog 34:=⟨_,func34,by kernel_rfl,by kernel_rfl⟩
theorem aez:bL prog 35:=⟨_,func35,by kernel_rfl,by kernel_rfl⟩
theorem aeA:bL prog 36:=⟨_,func36,by kernel_rfl,by kernel_rfl⟩
theorem aeB:bL prog 37:=⟨_,func37,by kernel_rfl,by kernel_rfl⟩
theorem aeC:bL prog 38:=⟨_,func38,by kernel_rfl,by kernel_rfl⟩
theorem aeD:bL prog 39:=⟨_,func39,by kernel_rfl,by kernel_rfl⟩
theorem aeE:bL prog 40:=⟨_,func40,by kernel_rfl,by kernel_rfl⟩
theorem aeF:bL prog 41:=⟨_,func41,by kernel_rfl,by kernel_rfl⟩
theorem aeG:bL prog 42:=⟨_,func42,by kernel_rfl,by kernel_rfl⟩
theorem aeH:bL prog 43:=⟨_,func43,by kernel_rfl,by kernel_rfl⟩
theorem aeI:bL prog 44:=⟨_,func44,by kernel_rfl,by kernel_rfl⟩
theorem aeJ:bL prog 45:=⟨_,func45,by kernel_rfl,by kernel_rfl⟩
theorem aeK:bL prog 46:=⟨_,func46,by kernel_rfl,by kernel_rfl⟩
theorem aeL:bL prog 47:=⟨_,func47,by kernel_rfl,by kernel_rfl⟩
theorem aeM:bL prog 48:=⟨_,func48,by kernel_rfl,by kernel_rfl⟩
theorem aeN:bL prog 49:=⟨_,func49,by kernel_rfl,by kernel_rfl⟩
theorem aeO:bL prog 50:=⟨_,func50,by kernel_rfl,by kernel_rfl⟩
theorem aeP:bL prog 51:=⟨_,func51,by kernel_rfl,by kernel_rfl⟩
theorem aeQ:bL prog 52:=⟨_,func52,by kernel_rfl,by kernel_rfl⟩
theorem aeR:bL prog 53:=⟨_,func53,by kernel_rfl,by kernel_rfl⟩
theorem aeS:bL prog 54:=⟨_,func54,by kernel_rfl,by kernel_rfl⟩
theorem aeT:bL prog 55:=⟨_,func55,by kernel_rfl,by kernel_rfl⟩
theorem aeU:bL prog 56:=⟨_,func56,by kernel_rfl,by kernel_rfl⟩
theorem aeV:bL prog 57:=⟨_,func57,by kernel_rfl,by kernel_rfl⟩
theorem aeW:bL prog 58:=⟨_,func58,by kernel_rfl,by kernel_rfl⟩
theorem aeX:bL prog 59:=⟨_,func59,by kernel_rfl,by kernel_rfl⟩
theorem aeY:bL prog 60:=⟨_,func60,by kernel_rfl,by kernel_rfl⟩
theorem aeZ:bL prog 61:=⟨_,func61,by kernel_rfl,by kernel_rfl⟩
theorem ae0:bL prog 62:=⟨_,func62,by kernel_rfl,by kernel_rfl⟩
theorem ae1:bL prog 63:=⟨_,func63,by kernel_rfl,by kernel_rfl⟩
theorem ae2:bL prog 64:=⟨_,func64,by kernel_rfl,by kernel_rfl⟩
theorem ae3:bL prog 65:=⟨_,func65,by kernel_rfl,by kernel_rfl⟩
theorem ae4:bL prog 66:=⟨_,func66,by kernel_rfl,by kernel_rfl⟩
theorem ae5:bL prog 67:=⟨_,func67,by kernel_rfl,by kernel_rfl⟩
theorem ae6:bL prog 68:=⟨_,func68,by kernel_rfl,by kernel_rfl⟩
theorem ae7:bL prog 69:=⟨_,func69,by kernel_rfl,by kernel_rfl⟩
theorem ae8:bL prog 70:=⟨_,func70,by kernel_rfl,by kernel_rfl⟩
theorem ae9:bL prog 71:=⟨_,func71,by kernel_rfl,by kernel_rfl⟩
theorem afa:bL prog 72:=⟨_,func72,by kernel_rfl,by kernel_rfl⟩
theorem abU:bL prog 73:=⟨_,func73,by kernel_rfl,by kernel_rfl⟩
theorem afb:bL prog 74:=⟨_,func74,by kernel_rfl,by kernel_rfl⟩
theorem afc:bL prog 75:=⟨_,func75,by kernel_rfl,by kernel_rfl⟩
theorem afd:bL prog 76:=⟨_,func76,by kernel_rfl,by kernel_rfl⟩
theorem afe:bL prog 77:=⟨_,func77,by kernel_rfl,by kernel_rfl⟩
theorem aff:bL prog 78:=⟨_,func78,by kernel_rfl,by kernel_rfl⟩
theorem afg:bL prog 79:=⟨_,func79,by kernel_rfl,by kernel_rfl⟩
theorem afh:bL prog 80:=⟨_,func80,by kernel_rfl,by kernel_rfl⟩
theorem afi:bL prog 81:=⟨_,func81,by kernel_rfl,by kernel_rfl⟩
theorem abV:bL prog 82:=⟨_,func82,by kernel_rfl,by kernel_rfl⟩
theorem afj:bL prog 83:=⟨_,func83,by kernel_rfl,by kernel_rfl⟩
theorem afk:bL prog 84:=⟨_,func84,by kernel_rfl,by kernel_rfl⟩
theorem afl:bL prog 85:=⟨_,func85,by kernel_rfl,by kernel_rfl⟩
theorem afm:bL prog 86:=⟨_,func86,by kernel_rfl,by kernel_rfl⟩
theorem afn:bL prog 87:=⟨_,func87,by kernel_rfl,by kernel_rfl⟩
theorem afo:bL prog 88:=⟨_,func88,by kernel_rfl,by kernel_rfl⟩
theorem afp:bL prog 89:=⟨_,func89,by kernel_rfl,by kernel_rfl⟩
theorem afq:bL prog 90:=⟨_,func90,by kernel_rfl,by kernel_rfl⟩
theorem afr:bL prog 91:=⟨_,func91,by kernel_rfl,by kernel_rfl⟩
theorem afs:bL prog 92:=⟨_,func92,by kernel_rfl,by kernel_rfl⟩
theorem aft:bL prog 93:=⟨_,func93,by kernel_rfl,by kernel_rfl⟩
theorem afu:bL prog 94:=⟨_,func94,by kernel_rfl,by kernel_rfl⟩
theorem afv:bL prog 95:=⟨_,func95,by kernel_rfl,by kernel_rfl⟩
theorem afw:bL prog 96:=⟨_,func96,by kernel_rfl,by kernel_rfl⟩
theorem afx:bL prog 97:=⟨_,func97,by kernel_rfl,by kernel_rfl⟩
theorem afy:bL prog 98:=⟨_,func98,by kernel_rfl,by kernel_rfl⟩
theorem afz:bL prog 99:=⟨_,func99,by kernel_rfl,by kernel_rfl⟩
theorem Om:bL prog 100:=⟨_,func100,by kernel_rfl,by kernel_rfl⟩
theorem ack:bL prog 101:=⟨_,func101,by kernel_rfl,by kernel_rfl⟩
theorem acl:bL prog 102:=⟨_,func102,by kernel_rfl,by kernel_rfl⟩
theorem acm:bL prog 103:=⟨_,func103,by kernel_rfl,by kernel_rfl⟩
theorem acn:bL prog 104:=⟨_,func104,by kernel_rfl,by kernel_rfl⟩
theorem aco:bL prog 105:=⟨_,func105,by kernel_rfl,by kernel_rfl⟩
theorem acp:bL prog 106:=⟨_,func106,by kernel_rfl,by kernel_rfl⟩
theorem acq:bL prog 107:=⟨_,func107,by kernel_rfl,by kernel_rfl⟩
theorem acr:bL prog 108:=⟨_,func108,by kernel_rfl,by kernel_rfl⟩
theorem acs:bL prog 109:=⟨_,func109,by kernel_rfl,by kernel_rfl⟩
theorem acu:bL prog 110:=⟨_,func110,by kernel_rfl,by kernel_rfl⟩
theorem acv:bL prog 111:=⟨_,func111,by kernel_rfl,by kernel_rfl⟩
theorem acw:bL prog 112:=⟨_,func112,by kernel_rfl,by kernel_rfl⟩
theorem acx:bL prog 113:=⟨_,func113,by kernel_rfl,by kernel_rfl⟩
theorem acy:bL prog 114:=⟨_,func114,by kernel_rfl,by kernel_rfl⟩
theorem acz:bL prog 115:=⟨_,func115,by kernel_rfl,by kernel_rfl⟩
theorem acA:bL prog 116:=⟨_,func116,by kernel_rfl,by kernel_rfl⟩
theorem acB:bL prog 117:=⟨_,func117,by kernel_rfl,by kernel_rfl⟩
theorem acC:bL prog 118:=⟨_,func118,by kernel_rfl,by kernel_rfl⟩
theorem acD:bL prog 119:=⟨_,func119,by kernel_rfl,by kernel_rfl⟩
theorem acE:bL prog 120:=⟨_,func120,by kernel_rfl,by kernel_rfl⟩
theorem acF:bL prog 121:=⟨_,func121,by kernel_rfl,by kernel_rfl⟩
theorem acG:bL prog 122:=⟨_,func122,by kernel_rfl,by kernel_rfl⟩
theorem acH:bL prog 123:=⟨_,func123,by kernel_rfl,by kernel_rfl⟩
theorem acI:bL prog 125:=⟨_,func125,by kernel_rfl,by kernel_rfl⟩
theorem acJ:bL prog 129:=⟨_,func129,by kernel_rfl,by kernel_rfl⟩
theorem acK:bL prog 130:=⟨_,func130,by kernel_rfl,by kernel_rfl⟩
theorem acL:bL prog 131:=⟨_,func131,by kernel_rfl,by kernel_rfl⟩
theorem acM:bL prog 132:=⟨_,func132,by kernel_rfl,by kernel_rfl⟩
theorem acN:bL prog 133:=⟨_,func133,by kernel_rfl,by kernel_rfl⟩
theorem acO:bL prog 134:=⟨_,func134,by kernel_rfl,by kernel_rfl⟩
theorem acP:bL prog 135:=⟨_,func135,by kernel_rfl,by kernel_rfl⟩
theorem acQ:bL prog 136:=⟨_,func136,by kernel_rfl,by kernel_rfl⟩
theorem Vy:bL prog 137:=⟨_,func137,by kernel_rfl,by kernel_rfl⟩
theorem On:bL prog 138:=⟨_,func138,by kernel_rfl,by kernel_rfl⟩
theorem acR:bL prog 139:=⟨_,func139,by kernel_rfl,by kernel_rfl⟩
theorem Oo:bL prog 140:=⟨_,func140,by kernel_rfl,by kernel_rfl⟩
theorem acS:bL prog 141:=⟨_,func141,by kernel_rfl,by kernel_rfl⟩
theorem acT:bL prog 142:=⟨_,func142,by kernel_rfl,by kernel_rfl⟩
theorem acU:bL prog 148:=⟨_,func148,by kernel_rfl,by kernel_rfl⟩
theorem acV:bL prog 149:=⟨_,func149,by kernel_rfl,by kernel_rfl⟩
theorem Vz:bL prog 150:=⟨_,func150,by kernel_rfl,by kernel_rfl⟩
theorem Wa:bL prog 151:=⟨_,func151,by kernel_rfl,by kernel_rfl⟩
theorem Wb:bL prog 152:=⟨_,func152,by kernel_rfl,by kernel_rfl⟩
theorem acW:bL prog 153:=⟨_,func153,by kernel_rfl,by kernel_rfl⟩
theorem acX:bL prog 154:=⟨_,func154,by kernel_rfl,by kernel_rfl⟩
theorem acY:bL prog 155:=⟨_,func155,by kernel_rfl,by kernel_rfl⟩
theorem acZ:bL prog 156:=⟨_,func156,by kernel_rfl,by kernel_rfl⟩
theorem ac0:bL prog 157:=⟨_,func157,by kernel_rfl,by kernel_rfl⟩
theorem ac1:bL prog 169:=⟨_,func169,by kernel_rfl,by kernel_rfl⟩
theorem ac2:bL prog 170:=⟨_,func170,by kernel_rfl,by kernel_rfl⟩
theorem ac3:bL prog 171:=⟨_,func171,by kernel_rfl,by kernel_rfl⟩
theorem ac4:bL prog 172:=⟨_,func172,by kernel_rfl,by kernel_rfl⟩
theorem ac5:bL prog 173:=⟨_,func173,by kernel_rfl,by kernel_rfl⟩
theorem ac6:bL prog 183:=⟨_,func183,by kernel_rfl,by kernel_rfl⟩
theorem ac7:bL prog 202:=⟨_,func202,by kernel_rfl,by kernel_rfl⟩
theorem aM:fI prog 3 1:=eS (by kernel_rfl)
theorem aV:iS prog 3 false:=fP _ jR rfl
theorem iF:(prog.info? 3).map (fun i=>(i.size,i.bytes,i.zero))=some (1,8,some (.int .i64 0)):=by kernel_rfl
theorem fA:fI prog 4 1:=eS (by kernel_rfl)
theorem jP:iS prog 4 false:=fP _ Fw rfl
theorem ac8:mB prog 4 (.bool false):=iR (by kernel_rfl)
theorem aaw:fI prog 5 1:=eS (by kernel_rfl)
theorem afA:iS prog 5 false:=fP _ nL rfl
theorem Gr:(prog.info? 5).map (fun i=>(i.size,i.bytes,i.zero))=some (1,1,some (.int .u8 0)):=by kernel_rfl
theorem rK:fI prog 9 1:=eS (by kernel_rfl)
theorem xU:iS prog 9 false:=fP _ nJ rfl
theorem bW:fI prog 22 1:=eS (by kernel_rfl)
theorem fQ:iS prog 22 false:=fP _ bM rfl
theorem cZ:fI prog 23 3:=eS (by kernel_rfl)
theorem oF:iS prog 23 true:=fP _ fF rfl
theorem lP:mB prog 23 (.agg #[.int .i64 0,.int .i64 0,.int .i64 0]):=iR (by kernel_rfl)
theorem dG:fI prog 25 7:=eS (by kernel_rfl)
theorem fR:iS prog 25 true:=fP _ gE rfl
theorem Ra:mB prog 25 (.agg #[.int .i64 0,.int .i64 0,.int .i64 0,.int .i64 0,.int .i64 0,.int .i64 0,.int .i64 0]):=iR (by kernel_rfl)
theorem xV:fI prog 26 1:=eS (by kernel_rfl)
theorem Iy:iS prog 26 false:=fP _ oA rfl
theorem xW:fI prog 28 13:=eS (by kernel_rfl)
theorem Iz:iS prog 28 true:=fP _ nK rfl
theorem aH:fI prog 35 2:=eS (by kernel_rfl)
theorem aT:iS prog 35 true:=fP _ iK rfl
theorem cL:mB prog 35 (.agg #[.bool false,.string ⟨#[]⟩]):=iR (by kernel_rfl)
theorem aK:fI prog 37 4:=eS (by kernel_rfl)
theorem bF:iS prog 37 true:=fP _ lS rfl
theorem cF:mB prog 37 (.agg #[.bool false,.string ⟨#[]⟩,.bool false,.string ⟨#[]⟩]):=iR (by kernel_rfl)
theorem ac9:(prog.info? 37).map (fun i=>(i.size,i.bytes,i.zero))=some (4,48,some (.agg #[.bool false,.string ⟨#[]⟩,.bool false,.string ⟨#[]⟩])):=by kernel_rfl
theorem eI:fI prog 39 11:=eS (by kernel_rfl)
theorem jX:iS prog 39 true:=fP _ dF rfl
theorem rL:mB prog 39 (.agg #[.int .i64 0,.bool false,.string ⟨#[]⟩,.bool false,.string ⟨#[]⟩,.bool false,.string ⟨#[]⟩,.bool false,.string ⟨#[]⟩,.bool false,.slice none 0 0]):=iR (by kernel_rfl)
theorem kA:fI prog 43 5:=eS (by kernel_rfl)
theorem Ja:iS prog 43 true:=fP _ sL rfl
theorem rM:mB prog 43 (.agg #[.bool false,.string ⟨#[]⟩,.bool false,.string ⟨#[]⟩,.int .i64 0]):=iR (by kernel_rfl)
theorem nM:fI prog 48 1:=eS (by kernel_rfl)
theorem Jb:iS prog 48 false:=fP _ iW rfl
theorem Oq:(prog.info? 48).map (fun i=>(i.size,i.bytes,i.zero))=some (1,24,some (.slice none 0 0)):=by kernel_rfl
theorem aL:fI prog 56 3:=eS (by kernel_rfl)
theorem bG:iS prog 56 true:=fP _ bP rfl
theorem eL:mB prog 56 (.agg #[.int .i64 0,.int .i64 0,.int .i64 0]):=iR (by kernel_rfl)
theorem ada:(prog.info? 56).map (fun i=>(i.size,i.bytes,i.zero))=some (3,24,some (.agg #[.int .i64 0,.int .i64 0,.int .i64 0])):=by kernel_rfl
theorem eW:fI prog 58 9:=eS (by kernel_rfl)
theorem mW:iS prog 58 true:=fP _ iC rfl
theorem Cj:mB prog 58 (.agg #[.int .i64 0,.int .i64 0,.int .i64 0,.int .i64 0,.int .i64 0,.int .i64 0,.int .i64 0,.int .i64 0,.int .i64 0]):=iR (by kernel_rfl)
theorem rX:(prog.info? 58).map (fun i=>(i.size,i.bytes,i.zero))=some (9,72,some (.agg #[.int .i64 0,.int .i64 0,.int .i64 0,.int .i64 0,.int .i64 0,.int .i64 0,.int .i64 0,.int .i64 0,.int .i64 0])):=by kernel_rfl
theorem Dk:fI prog 67 1:=eS (by kernel_rfl)
theorem Wc:fI prog 69 1:=eS (by kernel_rfl)
theorem Ck:mB prog 69 (.agg #[.int .i64 0]):=iR (by kernel_rfl)
theorem Wd:fI prog 83 1:=eS (by kernel_rfl)
theorem Jc:mB prog 83 (.agg #[.int .i64 0]):=iR (by kernel_rfl)
theorem We:fI prog 88 7:=eS (by kernel_rfl)
theorem Rb:mB prog 88 (.agg #[.int .i64 0,.int .i64 0,.int .i64 0,.int .i64 0,.int .i64 0,.int .i64 0,.int .i64 0]):=iR (by kernel_rfl)
theorem bN:fI prog 101 1:=eS (by kernel_rfl)
theorem fY:iS prog 101 false:=fP _ iB rfl
theorem oP:(prog.info? 101).map (fun i=>(i.size,i.bytes,i.zero))=some (1,8,some (.int .u64 0)):=by kernel_rfl
theorem cM:fI prog 107 6:=eS (by kernel_rfl)
theorem fB:iS prog 107 true:=fP _ eG rfl
theorem iT:mB prog 107 (.agg #[.bool false,.string ⟨#[]⟩,.bool false,.string ⟨#[]⟩,.bool false,.string ⟨#[]⟩]):=iR (by kernel_rfl)
theorem cC:fI prog 108 6:=eS (by kernel_rfl)
theorem fN:iS prog 108 true:=fP _ fE rfl
theorem kB:mB prog 108 (.agg #[.bool false,.string ⟨#[]⟩,.bool false,.string ⟨#[]⟩,.bool false,.string ⟨#[]⟩]):=iR (by kernel_rfl)
theorem Sv:fI prog 110 18:=eS (by kernel_rfl)
theorem aax:iS prog 110 true:=fP _ oD rfl
theorem Wf:mB prog 110 (.agg #[.bool false,.string ⟨#[]⟩,.bool false,.string ⟨#[]⟩,.bool false,.string ⟨#[]⟩,.bool false,.string ⟨#[]⟩,.bool false,.string ⟨#[]⟩,.bool false,.string ⟨#[]⟩,.bool false,.string ⟨#[]⟩,.bool false,.string ⟨#[]⟩,.bool false,.string ⟨#[]⟩]):=iR (by kernel_rfl)
theorem Sw:fI prog 125 6:=eS (by kernel_rfl)
theorem Lo:mB prog 125 (.agg #[.int .i64 0,.int .i64 0,.int .i64 0,.int .i64 0,.int .i64 0,.int .i64 0]):=iR (by kernel_rfl)
theorem Sx:fI prog 134 18:=eS (by kernel_rfl)
theorem Lp:mB prog 134 (.agg #[.int .i64 0,.int .i64 0,.int .i64 0,.int .i64 0,.int .i64 0,.int .i64 0,.int .i64 0,.int .i64 0,.int .i64 0,.int .i64 0,.int .i64 0,.int .i64 0,.int .i64 0,.int .i64 0,.int .i64 0,.int .i64 0,.int .i64 0,.int .i64 0]):=iR (by kernel_rfl)
theorem Sy:fI prog 139 1:=eS (by kernel_rfl)
theorem aay:iS prog 139 false:=fP _ mV rfl
theorem Wg:mB prog 139 (.slice none 0 0):=iR (by kernel_rfl)
theorem qJ:fI prog 152 6:=eS (by kernel_rfl)
theorem Cl:iS prog 152 true:=fP _ jW rfl
theorem xX:mB prog 152 (.agg #[.bool false,.string ⟨#[]⟩,.bool false,.string ⟨#[]⟩,.bool false,.string ⟨#[]⟩]):=iR (by kernel_rfl)
theorem Wh:mB prog 163 (.agg #[.int .i64 0,.int .i64 0,.int .i64 0,.int .i64 0,.int .i64 0,.int .i64 0,.int .i64 0,.int .i64 0,.int .i64 0,.int .i64 0,.int .i64 0,.int .i64 0,.int .i64 0,.int .i64 0,.int .i64 0,.int .i64 0,.int .i64 0,.int .i64 0,.int .i64 0,.int .i64 0,.int .i64 0,.int .i64 0,.int .i64 0,.int .i64 0]):=iR (by kernel_rfl)
theorem sM:fI prog 176 3:=eS (by kernel_rfl)
theorem Jd:iS prog 176 true:=fP _ kS rfl
theorem xY:mB prog 176 (.agg #[.int .i64 0,.int .i64 0,.int .i64 0]):=iR (by kernel_rfl)
theorem vR:fI prog 180 1:=eS (by kernel_rfl)
theorem Je:iS prog 180 false:=fP _ underlying180 rfl
theorem vS:fI prog 181 3:=eS (by kernel_rfl)
theorem Rc:iS prog 181 true:=fP _ underlying181 rfl
theorem Dl:mB prog 181 (.agg #[.nilFunc,.nilFunc,.nilFunc]):=iR (by kernel_rfl)
theorem afB(w:aw):(Instr.build 23 #[]).run prog w=.ok (.agg #[(.int .i64 0),(.int .i64 0),(.int .i64 0)]) w:=gD fF lP aM (by simp[Instr.fill,eX]) w
theorem oV{l:List aj}{ty:be}  : iG prog l (.build 23 #[]) ty (.agg #[(.int .i64 0),(.int .i64 0),(.int .i64 0)]):=gL (vs:=#[]) (by simp) fun w=>afB  w
theorem Ot{v0 v1 v2:aj}{c0_0:aj}(h0:v0.cells = #[c0_0]){c1_0:aj}(h1:v1.cells = #[c1_0]){c2_0:aj}(h2:v2.cells = #[c2_0])(w:aw):(Instr.build 23 #[(0,v0),(1,v1),(2,v2)]).run prog w=.ok (.agg #[c0_0,c1_0,c2_0]) w:=gD fF lP aM (by simp[Instr.fill,eX,h0,h1,h2]) w
theorem dA{l:List aj}{ty:be}{x0 x1 x2:bm}{c0_0:aj}(h0:(ev l x0).cells = #[c0_0]){c1_0:aj}(h1:(ev l x1).cells = #[c1_0]){c2_0:aj}(h2:(ev l x2).cells = #[c2_0]):iG prog l (.build 23 #[(0,x0),(1,x1),(2,x2)]) ty (.agg #[c0_0,c1_0,c2_0]):=gL (vs:=#[(0,ev l x0),(1,ev l x1),(2,ev l x2)]) (by simp) fun w=>Ot h0 h1 h2 w
theorem Sz(w:aw):((#[{ name := "X", type:=3,offset:=0,embedded:=false,tag := "", pkgPath := "", byteOffset:=0 },{ name := "Y", type:=3,offset:=1,embedded:=false,tag := "", pkgPath := "", byteOffset:=8 },{ name := "Z", type:=3,offset:=2,embedded:=false,tag := "", pkgPath := "", byteOffset:=16 },{ name := "W", type:=3,offset:=3,embedded:=false,tag := "", pkgPath := "", byteOffset:=24 },{ name := "Dir", type:=23,offset:=4,embedded:=false,tag := "", pkgPath := "", byteOffset:=32 }]:Array Field).mapM fun f=>do pure (f.offset,←sizeOf f.type):Sem (Array (Nat × Nat))).run prog w=.ok #[(0,1),(1,1),(2,1),(3,1),(4,3)] w:=by
 simp[eo,gB cZ,gB aM]
theorem Jf{v0 v1 v3 v4:aj}{c0_0:aj}(h0:v0.cells = #[c0_0]){c1_0:aj}(h1:v1.cells = #[c1_0]){c3_0:aj}(h3:v3.cells = #[c3_0]){c4_0 c4_1 c4_2:aj}(h4:v4.cells = #[c4_0,c4_1,c4_2])(w:aw):(Instr.build 25 #[(0,v0),(1,v1),(3,v3),(4,v4)]).run prog w=.ok (.agg #[c0_0,c1_0,(.int .i64 0),c3_0,c4_0,c4_1,c4_2]) w:=dW gE Ra Sz (by simp[Instr.fill,eX,h0,h1,h3,h4]) w
theorem wV{l:List aj}{ty:be}{x0 x1 x3 x4:bm}{c0_0:aj}(h0:(ev l x0).cells = #[c0_0]){c1_0:aj}(h1:(ev l x1).cells = #[c1_0]){c3_0:aj}(h3:(ev l x3).cells = #[c3_0]){c4_0 c4_1 c4_2:aj}(h4:(ev l x4).cells = #[c4_0,c4_1,c4_2]):iG prog l (.build 25 #[(0,x0),(1,x1),(3,x3),(4,x4)]) ty (.agg #[c0_0,c1_0,(.int .i64 0),c3_0,c4_0,c4_1,c4_2]):=gL (vs:=#[(0,ev l x0),(1,ev l x1),(3,ev l x3),(4,ev l x4)]) (by simp) fun w=>Jf h0 h1 h3 h4 w
theorem Gs(w:aw):((#[{ name := "Neg", type:=4,offset:=0,embedded:=false,tag := "", pkgPath := "", byteOffset:=0 },{ name := "Mag", type:=9,offset:=1,embedded:=false,tag := "", pkgPath := "", byteOffset:=8 }]:Array Field).mapM fun f=>do pure (f.offset,←sizeOf f.type):Sem (Array (Nat × Nat))).run prog w=.ok #[(0,1),(1,1)] w:=by
 simp[eo,gB fA,gB rK]
theorem afC(w:aw):(Instr.build 35 #[]).run prog w=.ok (.agg #[(.bool false),(.string ⟨#[]⟩)]) w:=dW iK cL Gs (by simp[Instr.fill,eX]) w
theorem Bn{l:List aj}{ty:be}  : iG prog l (.build 35 #[]) ty (.agg #[(.bool false),(.string ⟨#[]⟩)]):=gL (vs:=#[]) (by simp) fun w=>afC  w
theorem Wi{v0 v1:aj}{c0_0:aj}(h0:v0.cells = #[c0_0]){c1_0:aj}(h1:v1.cells = #[c1_0])(w:aw):(Instr.build 35 #[(0,v0),(1,v1)]).run prog w=.ok (.agg #[c0_0,c1_0]) w:=dW iK cL Gs (by simp[Instr.fill,eX,h0,h1]) w
theorem qR{l:List aj}{ty:be}{x0 x1:bm}{c0_0:aj}(h0:(ev l x0).cells = #[c0_0]){c1_0:aj}(h1:(ev l x1).cells = #[c1_0]):iG prog l (.build 35 #[(0,x0),(1,x1)]) ty (.agg #[c0_0,c1_0]):=gL (vs:=#[(0,ev l x0),(1,ev l x1)]) (by simp) fun w=>Wi h0 h1 w
theorem Ag(w:aw):((#[{ name := "N", type:=35,offset:=0,embedded:=false,tag := "", pkgPath := "", byteOffset:=0 },{ name := "D", type:=35,offset:=2,embedded:=false,tag := "", pkgPath := "", byteOffset:=24 }]:Array Field).mapM fun f=>do pure (f.offset,←sizeOf f.type):Sem (Array (Nat × Nat))).run prog w=.ok #[(0,2),(2,2)] w:=by
 simp[eo,gB aH]
theorem afD(w:aw):(Instr.build 37 #[]).run prog w=.ok (.agg #[(.bool false),(.string ⟨#[]⟩),(.bool false),(.string ⟨#[]⟩)]) w:=dW lS cF Ag (by simp[Instr.fill,eX]) w
theorem Lr{l:List aj}{ty:be}  : iG prog l (.build 37 #[]) ty (.agg #[(.bool false),(.string ⟨#[]⟩),(.bool false),(.string ⟨#[]⟩)]):=gL (vs:=#[]) (by simp) fun w=>afD  w
theorem Wj{v0 v1:aj}{c0_0 c0_1:aj}(h0:v0.cells = #[c0_0,c0_1]){c1_0 c1_1:aj}(h1:v1.cells = #[c1_0,c1_1])(w:aw):(Instr.build 37 #[(0,v0),(1,v1)]).run prog w=.ok (.agg #[c0_0,c0_1,c1_0,c1_1]) w:=dW lS cF Ag (by simp[Instr.fill,eX,h0,h1]) w
theorem gS{l:List aj}{ty:be}{x0 x1:bm}{c0_0 c0_1:aj}(h0:(ev l x0).cells = #[c0_0,c0_1]){c1_0 c1_1:aj}(h1:(ev l x1).cells = #[c1_0,c1_1]):iG prog l (.build 37 #[(0,x0),(1,x1)]) ty (.agg #[c0_0,c0_1,c1_0,c1_1]):=gL (vs:=#[(0,ev l x0),(1,ev l x1)]) (by simp) fun w=>Wj h0 h1 w
theorem adb{v1:aj}{c1_0 c1_1:aj}(h1:v1.cells = #[c1_0,c1_1])(w:aw):(Instr.build 37 #[(1,v1)]).run prog w=.ok (.agg #[(.bool false),(.string ⟨#[]⟩),c1_0,c1_1]) w:=dW lS cF Ag (by simp[Instr.fill,eX,h1]) w
theorem Jg{l:List aj}{ty:be}{x1:bm}{c1_0 c1_1:aj}(h1:(ev l x1).cells = #[c1_0,c1_1]):iG prog l (.build 37 #[(1,x1)]) ty (.agg #[(.bool false),(.string ⟨#[]⟩),c1_0,c1_1]):=gL (vs:=#[(1,ev l x1)]) (by simp) fun w=>adb h1 w
theorem Ah(w:aw):((#[{ name := "Kind", type:=3,offset:=0,embedded:=false,tag := "", pkgPath := "", byteOffset:=0 },{ name := "Lo", type:=37,offset:=1,embedded:=false,tag := "", pkgPath := "", byteOffset:=8 },{ name := "Hi", type:=37,offset:=5,embedded:=false,tag := "", pkgPath := "", byteOffset:=56 },{ name := "Sure", type:=4,offset:=9,embedded:=false,tag := "", pkgPath := "", byteOffset:=104 },{ name := "Open", type:=22,offset:=10,embedded:=false,tag := "", pkgPath := "", byteOffset:=112 }]:Array Field).mapM fun f=>do pure (f.offset,←sizeOf f.type):Sem (Array (Nat × Nat))).run prog w=.ok #[(0,1),(1,4),(5,4),(9,1),(10,1)] w:=by
 simp[eo,gB bW,gB aM,gB aK,gB fA]
theorem Ou{v0 v1 v2:aj}{c0_0:aj}(h0:v0.cells = #[c0_0]){c1_0 c1_1 c1_2 c1_3:aj}(h1:v1.cells = #[c1_0,c1_1,c1_2,c1_3]){c2_0 c2_1 c2_2 c2_3:aj}(h2:v2.cells = #[c2_0,c2_1,c2_2,c2_3])(w:aw):(Instr.build 39 #[(0,v0),(1,v1),(2,v2)]).run prog w=.ok (.agg #[c0_0,c1_0,c1_1,c1_2,c1_3,c2_0,c2_1,c2_2,c2_3,(.bool false),(.slice none 0 0)]) w:=dW dF rL Ah (by simp[Instr.fill,eX,h0,h1,h2]) w
theorem lV{l:List aj}{ty:be}{x0 x1 x2:bm}{c0_0:aj}(h0:(ev l x0).cells = #[c0_0]){c1_0 c1_1 c1_2 c1_3:aj}(h1:(ev l x1).cells = #[c1_0,c1_1,c1_2,c1_3]){c2_0 c2_1 c2_2 c2_3:aj}(h2:(ev l x2).cells = #[c2_0,c2_1,c2_2,c2_3]):iG prog l (.build 39 #[(0,x0),(1,x1),(2,x2)]) ty (.agg #[c0_0,c1_0,c1_1,c1_2,c1_3,c2_0,c2_1,c2_2,c2_3,(.bool false),(.slice none 0 0)]):=gL (vs:=#[(0,ev l x0),(1,ev l x1),(2,ev l x2)]) (by simp) fun w=>Ou h0 h1 h2 w
theorem Dm{v0 v1 v2 v3 v4:aj}{c0_0:aj}(h0:v0.cells = #[c0_0]){c1_0 c1_1 c1_2 c1_3:aj}(h1:v1.cells = #[c1_0,c1_1,c1_2,c1_3]){c2_0 c2_1 c2_2 c2_3:aj}(h2:v2.cells = #[c2_0,c2_1,c2_2,c2_3]){c3_0:aj}(h3:v3.cells = #[c3_0]){c4_0:aj}(h4:v4.cells = #[c4_0])(w:aw):(Instr.build 39 #[(0,v0),(1,v1),(2,v2),(3,v3),(4,v4)]).run prog w=.ok (.agg #[c0_0,c1_0,c1_1,c1_2,c1_3,c2_0,c2_1,c2_2,c2_3,c3_0,c4_0]) w:=dW dF rL Ah (by simp[Instr.fill,eX,h0,h1,h2,h3,h4]) w
theorem oW{l:List aj}{ty:be}{x0 x1 x2 x3 x4:bm}{c0_0:aj}(h0:(ev l x0).cells = #[c0_0]){c1_0 c1_1 c1_2 c1_3:aj}(h1:(ev l x1).cells = #[c1_0,c1_1,c1_2,c1_3]){c2_0 c2_1 c2_2 c2_3:aj}(h2:(ev l x2).cells = #[c2_0,c2_1,c2_2,c2_3]){c3_0:aj}(h3:(ev l x3).cells = #[c3_0]){c4_0:aj}(h4:(ev l x4).cells = #[c4_0]):iG prog l (.build 39 #[(0,x0),(1,x1),(2,x2),(3,x3),(4,x4)]) ty (.agg #[c0_0,c1_0,c1_1,c1_2,c1_3,c2_0,c2_1,c2_2,c2_3,c3_0,c4_0]):=gL (vs:=#[(0,ev l x0),(1,ev l x1),(2,ev l x2),(3,ev l x3),(4,ev l x4)]) (by simp) fun w=>Dm h0 h1 h2 h3 h4 w
theorem Jh{v0 v1 v2 v4:aj}{c0_0:aj}(h0:v0.cells = #[c0_0]){c1_0 c1_1 c1_2 c1_3:aj}(h1:v1.cells = #[c1_0,c1_1,c1_2,c1_3]){c2_0 c2_1 c2_2 c2_3:aj}(h2:v2.cells = #[c2_0,c2_1,c2_2,c2_3]){c4_0:aj}(h4:v4.cells = #[c4_0])(w:aw):(Instr.build 39 #[(0,v0),(1,v1),(2,v2),(4,v4)]).run prog w=.ok (.agg #[c0_0,c1_0,c1_1,c1_2,c1_3,c2_0,c2_1,c2_2,c2_3,(.bool false),c4_0]) w:=dW dF rL Ah (by simp[Instr.fill,eX,h0,h1,h2,h4]) w
theorem wW{l:List aj}{ty:be}{x0 x1 x2 x4:bm}{c0_0:aj}(h0:(ev l x0).cells = #[c0_0]){c1_0 c1_1 c1_2 c1_3:aj}(h1:(ev l x1).cells = #[c1_0,c1_1,c1_2,c1_3]){c2_0 c2_1 c2_2 c2_3:aj}(h2:(ev l x2).cells = #[c2_0,c2_1,c2_2,c2_3]){c4_0:aj}(h4:(ev l x4).cells = #[c4_0]):iG prog l (.build 39 #[(0,x0),(1,x1),(2,x2),(4,x4)]) ty (.agg #[c0_0,c1_0,c1_1,c1_2,c1_3,c2_0,c2_1,c2_2,c2_3,(.bool false),c4_0]):=gL (vs:=#[(0,ev l x0),(1,ev l x1),(2,ev l x2),(4,ev l x4)]) (by simp) fun w=>Jh h0 h1 h2 h4 w
theorem Gt(w:aw):((#[{ name := "T", type:=37,offset:=0,embedded:=false,tag := "", pkgPath := "", byteOffset:=0 },{ name := "Tri", type:=3,offset:=4,embedded:=false,tag := "", pkgPath := "", byteOffset:=48 }]:Array Field).mapM fun f=>do pure (f.offset,←sizeOf f.type):Sem (Array (Nat × Nat))).run prog w=.ok #[(0,4),(4,1)] w:=by
 simp[eo,gB aM,gB aK]
theorem adc{v0:aj}{c0_0 c0_1 c0_2 c0_3:aj}(h0:v0.cells = #[c0_0,c0_1,c0_2,c0_3])(w:aw):(Instr.build 43 #[(0,v0)]).run prog w=.ok (.agg #[c0_0,c0_1,c0_2,c0_3,(.int .i64 0)]) w:=dW sL rM Gt (by simp[Instr.fill,eX,h0]) w
theorem xZ{l:List aj}{ty:be}{x0:bm}{c0_0 c0_1 c0_2 c0_3:aj}(h0:(ev l x0).cells = #[c0_0,c0_1,c0_2,c0_3]):iG prog l (.build 43 #[(0,x0)]) ty (.agg #[c0_0,c0_1,c0_2,c0_3,(.int .i64 0)]):=gL (vs:=#[(0,ev l x0)]) (by simp) fun w=>adc h0 w
theorem Wk{v0 v1:aj}{c0_0 c0_1 c0_2 c0_3:aj}(h0:v0.cells = #[c0_0,c0_1,c0_2,c0_3]){c1_0:aj}(h1:v1.cells = #[c1_0])(w:aw):(Instr.build 43 #[(0,v0),(1,v1)]).run prog w=.ok (.agg #[c0_0,c0_1,c0_2,c0_3,c1_0]) w:=dW sL rM Gt (by simp[Instr.fill,eX,h0,h1]) w
theorem nN{l:List aj}{ty:be}{x0 x1:bm}{c0_0 c0_1 c0_2 c0_3:aj}(h0:(ev l x0).cells = #[c0_0,c0_1,c0_2,c0_3]){c1_0:aj}(h1:(ev l x1).cells = #[c1_0]):iG prog l (.build 43 #[(0,x0),(1,x1)]) ty (.agg #[c0_0,c0_1,c0_2,c0_3,c1_0]):=gL (vs:=#[(0,ev l x0),(1,ev l x1)]) (by simp) fun w=>Wk h0 h1 w
theorem Gu(w:aw):((#[{ name := "X", type:=3,offset:=0,embedded:=false,tag := "", pkgPath := "", byteOffset:=0 },{ name := "Y", type:=3,offset:=1,embedded:=false,tag := "", pkgPath := "", byteOffset:=8 },{ name := "Z", type:=3,offset:=2,embedded:=false,tag := "", pkgPath := "", byteOffset:=16 }]:Array Field).mapM fun f=>do pure (f.offset,←sizeOf f.type):Sem (Array (Nat × Nat))).run prog w=.ok #[(0,1),(1,1),(2,1)] w:=by
 simp[eo,gB aM]
theorem afE(w:aw):(Instr.build 56 #[]).run prog w=.ok (.agg #[(.int .i64 0),(.int .i64 0),(.int .i64 0)]) w:=dW bP eL Gu (by simp[Instr.fill,eX]) w
theorem gM{l:List aj}{ty:be}  : iG prog l (.build 56 #[]) ty (.agg #[(.int .i64 0),(.int .i64 0),(.int .i64 0)]):=gL (vs:=#[]) (by simp) fun w=>afE  w
theorem Ov{v0 v1 v2:aj}{c0_0:aj}(h0:v0.cells = #[c0_0]){c1_0:aj}(h1:v1.cells = #[c1_0]){c2_0:aj}(h2:v2.cells = #[c2_0])(w:aw):(Instr.build 56 #[(0,v0),(1,v1),(2,v2)]).run prog w=.ok (.agg #[c0_0,c1_0,c2_0]) w:=dW bP eL Gu (by simp[Instr.fill,eX,h0,h1,h2]) w
theorem bV{l:List aj}{ty:be}{x0 x1 x2:bm}{c0_0:aj}(h0:(ev l x0).cells = #[c0_0]){c1_0:aj}(h1:(ev l x1).cells = #[c1_0]){c2_0:aj}(h2:(ev l x2).cells = #[c2_0]):iG prog l (.build 56 #[(0,x0),(1,x1),(2,x2)]) ty (.agg #[c0_0,c1_0,c2_0]):=gL (vs:=#[(0,ev l x0),(1,ev l x1),(2,ev l x2)]) (by simp) fun w=>Ov h0 h1 h2 w
theorem Ox{v0 v1 v2:aj}{c0_0 c0_1 c0_2:aj}(h0:v0.cells = #[c0_0,c0_1,c0_2]){c1_0 c1_1 c1_2:aj}(h1:v1.cells = #[c1_0,c1_1,c1_2]){c2_0 c2_1 c2_2:aj}(h2:v2.cells = #[c2_0,c2_1,c2_2])(w:aw):(Instr.build 58 #[(0,v0),(1,v1),(2,v2)]).run prog w=.ok (.agg #[c0_0,c0_1,c0_2,c1_0,c1_1,c1_2,c2_0,c2_1,c2_2]) w:=gD iC Cj aL (by simp[Instr.fill,eX,h0,h1,h2]) w
theorem oG{l:List aj}{ty:be}{x0 x1 x2:bm}{c0_0 c0_1 c0_2:aj}(h0:(ev l x0).cells = #[c0_0,c0_1,c0_2]){c1_0 c1_1 c1_2:aj}(h1:(ev l x1).cells = #[c1_0,c1_1,c1_2]){c2_0 c2_1 c2_2:aj}(h2:(ev l x2).cells = #[c2_0,c2_1,c2_2]):iG prog l (.build 58 #[(0,x0),(1,x1),(2,x2)]) ty (.agg #[c0_0,c0_1,c0_2,c1_0,c1_1,c1_2,c2_0,c2_1,c2_2]):=gL (vs:=#[(0,ev l x0),(1,ev l x1),(2,ev l x2)]) (by simp) fun w=>Ox h0 h1 h2 w
theorem Ta(w:aw):((#[{ name := "base", type:=67,offset:=0,embedded:=true,tag := "", pkgPath := "lithophane/trace", byteOffset:=0 }]:Array Field).mapM fun f=>do pure (f.offset,←sizeOf f.type):Sem (Array (Nat × Nat))).run prog w=.ok #[(0,1)] w:=by
 simp[eo,gB Dk]
theorem ade{v0:aj}{c0_0:aj}(h0:v0.cells = #[c0_0])(w:aw):(Instr.build 69 #[(0,v0)]).run prog w=.ok (.agg #[c0_0]) w:=dW underlying69 Ck Ta (by simp[Instr.fill,eX,h0]) w
theorem Ji{l:List aj}{ty:be}{x0:bm}{c0_0:aj}(h0:(ev l x0).cells = #[c0_0]):iG prog l (.build 69 #[(0,x0)]) ty (.agg #[c0_0]):=gL (vs:=#[(0,ev l x0)]) (by simp) fun w=>ade h0 w
theorem Tb(w:aw):((#[{ name := "base", type:=67,offset:=0,embedded:=true,tag := "", pkgPath := "lithophane/trace", byteOffset:=0 }]:Array Field).mapM fun f=>do pure (f.offset,←sizeOf f.type):Sem (Array (Nat × Nat))).run prog w=.ok #[(0,1)] w:=by
 simp[eo,gB Dk]
theorem adf{v0:aj}{c0_0:aj}(h0:v0.cells = #[c0_0])(w:aw):(Instr.build 83 #[(0,v0)]).run prog w=.ok (.agg #[c0_0]) w:=dW underlying83 Jc Tb (by simp[Instr.fill,eX,h0]) w
theorem tQ{l:List aj}{ty:be}{x0:bm}{c0_0:aj}(h0:(ev l x0).cells = #[c0_0]):iG prog l (.build 83 #[(0,x0)]) ty (.agg #[c0_0]):=gL (vs:=#[(0,ev l x0)]) (by simp) fun w=>adf h0 w
theorem Tc(w:aw):((#[{ name := "base", type:=67,offset:=0,embedded:=true,tag := "", pkgPath := "lithophane/trace", byteOffset:=0 },{ name := "lo", type:=56,offset:=1,embedded:=false,tag := "", pkgPath := "lithophane/trace", byteOffset:=8 },{ name := "hi", type:=56,offset:=4,embedded:=false,tag := "", pkgPath := "lithophane/trace", byteOffset:=32 }]:Array Field).mapM fun f=>do pure (f.offset,←sizeOf f.type):Sem (Array (Nat × Nat))).run prog w=.ok #[(0,1),(1,3),(4,3)] w:=by
 simp[eo,gB aL,gB Dk]
theorem Oy{v0 v1 v2:aj}{c0_0:aj}(h0:v0.cells = #[c0_0]){c1_0 c1_1 c1_2:aj}(h1:v1.cells = #[c1_0,c1_1,c1_2]){c2_0 c2_1 c2_2:aj}(h2:v2.cells = #[c2_0,c2_1,c2_2])(w:aw):(Instr.build 88 #[(0,v0),(1,v1),(2,v2)]).run prog w=.ok (.agg #[c0_0,c1_0,c1_1,c1_2,c2_0,c2_1,c2_2]) w:=dW underlying88 Rb Tc (by simp[Instr.fill,eX,h0,h1,h2]) w
theorem Ai{l:List aj}{ty:be}{x0 x1 x2:bm}{c0_0:aj}(h0:(ev l x0).cells = #[c0_0]){c1_0 c1_1 c1_2:aj}(h1:(ev l x1).cells = #[c1_0,c1_1,c1_2]){c2_0 c2_1 c2_2:aj}(h2:(ev l x2).cells = #[c2_0,c2_1,c2_2]):iG prog l (.build 88 #[(0,x0),(1,x1),(2,x2)]) ty (.agg #[c0_0,c1_0,c1_1,c1_2,c2_0,c2_1,c2_2]):=gL (vs:=#[(0,ev l x0),(1,ev l x1),(2,ev l x2)]) (by simp) fun w=>Oy h0 h1 h2 w
theorem Ls{v0 v1 v2:aj}{c0_0 c0_1:aj}(h0:v0.cells = #[c0_0,c0_1]){c1_0 c1_1:aj}(h1:v1.cells = #[c1_0,c1_1]){c2_0 c2_1:aj}(h2:v2.cells = #[c2_0,c2_1])(w:aw):(Instr.build 107 #[(0,v0),(1,v1),(2,v2)]).run prog w=.ok (.agg #[c0_0,c0_1,c1_0,c1_1,c2_0,c2_1]) w:=gD eG iT aH (by simp[Instr.fill,eX,h0,h1,h2]) w
theorem lQ{l:List aj}{ty:be}{x0 x1 x2:bm}{c0_0 c0_1:aj}(h0:(ev l x0).cells = #[c0_0,c0_1]){c1_0 c1_1:aj}(h1:(ev l x1).cells = #[c1_0,c1_1]){c2_0 c2_1:aj}(h2:(ev l x2).cells = #[c2_0,c2_1]):iG prog l (.build 107 #[(0,x0),(1,x1),(2,x2)]) ty (.agg #[c0_0,c0_1,c1_0,c1_1,c2_0,c2_1]):=gL (vs:=#[(0,ev l x0),(1,ev l x1),(2,ev l x2)]) (by simp) fun w=>Ls h0 h1 h2 w
theorem adg(w:aw):(Instr.build 108 #[]).run prog w=.ok (.agg #[(.bool false),(.string ⟨#[]⟩),(.bool false),(.string ⟨#[]⟩),(.bool false),(.string ⟨#[]⟩)]) w:=gD fE kB aH (by simp[Instr.fill,eX]) w
theorem Jj{l:List aj}{ty:be}  : iG prog l (.build 108 #[]) ty (.agg #[(.bool false),(.string ⟨#[]⟩),(.bool false),(.string ⟨#[]⟩),(.bool false),(.string ⟨#[]⟩)]):=gL (vs:=#[]) (by simp) fun w=>adg  w
theorem Lu{v0 v1 v2:aj}{c0_0 c0_1:aj}(h0:v0.cells = #[c0_0,c0_1]){c1_0 c1_1:aj}(h1:v1.cells = #[c1_0,c1_1]){c2_0 c2_1:aj}(h2:v2.cells = #[c2_0,c2_1])(w:aw):(Instr.build 108 #[(0,v0),(1,v1),(2,v2)]).run prog w=.ok (.agg #[c0_0,c0_1,c1_0,c1_1,c2_0,c2_1]) w:=gD fE kB aH (by simp[Instr.fill,eX,h0,h1,h2]) w
theorem yA{l:List aj}{ty:be}{x0 x1 x2:bm}{c0_0 c0_1:aj}(h0:(ev l x0).cells = #[c0_0,c0_1]){c1_0 c1_1:aj}(h1:(ev l x1).cells = #[c1_0,c1_1]){c2_0 c2_1:aj}(h2:(ev l x2).cells = #[c2_0,c2_1]):iG prog l (.build 108 #[(0,x0),(1,x1),(2,x2)]) ty (.agg #[c0_0,c0_1,c1_0,c1_1,c2_0,c2_1]):=gL (vs:=#[(0,ev l x0),(1,ev l x1),(2,ev l x2)]) (by simp) fun w=>Lu h0 h1 h2 w
theorem yB{v0 v1 v2 v3 v4 v5:aj}{c0_0:aj}(h0:v0.cells = #[c0_0]){c1_0:aj}(h1:v1.cells = #[c1_0]){c2_0:aj}(h2:v2.cells = #[c2_0]){c3_0:aj}(h3:v3.cells = #[c3_0]){c4_0:aj}(h4:v4.cells = #[c4_0]){c5_0:aj}(h5:v5.cells = #[c5_0])(w:aw):(Instr.build 125 #[(0,v0),(1,v1),(2,v2),(3,v3),(4,v4),(5,v5)]).run prog w=.ok (.agg #[c0_0,c1_0,c2_0,c3_0,c4_0,c5_0]) w:=gD jV Lo aM (by simp[Instr.fill,eX,h0,h1,h2,h3,h4,h5]) w
theorem sN{l:List aj}{ty:be}{x0 x1 x2 x3 x4 x5:bm}{c0_0:aj}(h0:(ev l x0).cells = #[c0_0]){c1_0:aj}(h1:(ev l x1).cells = #[c1_0]){c2_0:aj}(h2:(ev l x2).cells = #[c2_0]){c3_0:aj}(h3:(ev l x3).cells = #[c3_0]){c4_0:aj}(h4:(ev l x4).cells = #[c4_0]){c5_0:aj}(h5:(ev l x5).cells = #[c5_0]):iG prog l (.build 125 #[(0,x0),(1,x1),(2,x2),(3,x3),(4,x4),(5,x5)]) ty (.agg #[c0_0,c1_0,c2_0,c3_0,c4_0,c5_0]):=gL (vs:=#[(0,ev l x0),(1,ev l x1),(2,ev l x2),(3,ev l x3),(4,ev l x4),(5,ev l x5)]) (by simp) fun w=>yB h0 h1 h2 h3 h4 h5 w
theorem yC{v0 v1 v2 v3 v4 v5:aj}{c0_0 c0_1 c0_2:aj}(h0:v0.cells = #[c0_0,c0_1,c0_2]){c1_0 c1_1 c1_2:aj}(h1:v1.cells = #[c1_0,c1_1,c1_2]){c2_0 c2_1 c2_2:aj}(h2:v2.cells = #[c2_0,c2_1,c2_2]){c3_0 c3_1 c3_2:aj}(h3:v3.cells = #[c3_0,c3_1,c3_2]){c4_0 c4_1 c4_2:aj}(h4:v4.cells = #[c4_0,c4_1,c4_2]){c5_0 c5_1 c5_2:aj}(h5:v5.cells = #[c5_0,c5_1,c5_2])(w:aw):(Instr.build 134 #[(0,v0),(1,v1),(2,v2),(3,v3),(4,v4),(5,v5)]).run prog w=.ok (.agg #[c0_0,c0_1,c0_2,c1_0,c1_1,c1_2,c2_0,c2_1,c2_2,c3_0,c3_1,c3_2,c4_0,c4_1,c4_2,c5_0,c5_1,c5_2]) w:=gD underlying134 Lp cZ (by simp[Instr.fill,eX,h0,h1,h2,h3,h4,h5]) w
theorem sO{l:List aj}{ty:be}{x0 x1 x2 x3 x4 x5:bm}{c0_0 c0_1 c0_2:aj}(h0:(ev l x0).cells = #[c0_0,c0_1,c0_2]){c1_0 c1_1 c1_2:aj}(h1:(ev l x1).cells = #[c1_0,c1_1,c1_2]){c2_0 c2_1 c2_2:aj}(h2:(ev l x2).cells = #[c2_0,c2_1,c2_2]){c3_0 c3_1 c3_2:aj}(h3:(ev l x3).cells = #[c3_0,c3_1,c3_2]){c4_0 c4_1 c4_2:aj}(h4:(ev l x4).cells = #[c4_0,c4_1,c4_2]){c5_0 c5_1 c5_2:aj}(h5:(ev l x5).cells = #[c5_0,c5_1,c5_2]):iG prog l (.build 134 #[(0,x0),(1,x1),(2,x2),(3,x3),(4,x4),(5,x5)]) ty (.agg #[c0_0,c0_1,c0_2,c1_0,c1_1,c1_2,c2_0,c2_1,c2_2,c3_0,c3_1,c3_2,c4_0,c4_1,c4_2,c5_0,c5_1,c5_2]):=gL (vs:=#[(0,ev l x0),(1,ev l x1),(2,ev l x2),(3,ev l x3),(4,ev l x4),(5,ev l x5)]) (by simp) fun w=>yC h0 h1 h2 h3 h4 h5 w
theorem Lv{v0 v1 v2:aj}{c0_0:aj}(h0:v0.cells = #[c0_0]){c1_0:aj}(h1:v1.cells = #[c1_0]){c2_0:aj}(h2:v2.cells = #[c2_0])(w:aw):(Instr.build 176 #[(0,v0),(1,v1),(2,v2)]).run prog w=.ok (.agg #[c0_0,c1_0,c2_0]) w:=gD kS xY aM (by simp[Instr.fill,eX,h0,h1,h2]) w
theorem yD{l:List aj}{ty:be}{x0 x1 x2:bm}{c0_0:aj}(h0:(ev l x0).cells = #[c0_0]){c1_0:aj}(h1:(ev l x1).cells = #[c1_0]){c2_0:aj}(h2:(ev l x2).cells = #[c2_0]):iG prog l (.build 176 #[(0,x0),(1,x1),(2,x2)]) ty (.agg #[c0_0,c1_0,c2_0]):=gL (vs:=#[(0,ev l x0),(1,ev l x1),(2,ev l x2)]) (by simp) fun w=>Lv h0 h1 h2 w
theorem Lw{v0 v1 v2:aj}{c0_0:aj}(h0:v0.cells = #[c0_0]){c1_0:aj}(h1:v1.cells = #[c1_0]){c2_0:aj}(h2:v2.cells = #[c2_0])(w:aw):(Instr.build 181 #[(0,v0),(1,v1),(2,v2)]).run prog w=.ok (.agg #[c0_0,c1_0,c2_0]) w:=gD underlying181 Dl vR (by simp[Instr.fill,eX,h0,h1,h2]) w
theorem rN{l:List aj}{ty:be}{x0 x1 x2:bm}{c0_0:aj}(h0:(ev l x0).cells = #[c0_0]){c1_0:aj}(h1:(ev l x1).cells = #[c1_0]){c2_0:aj}(h2:(ev l x2).cells = #[c2_0]):iG prog l (.build 181 #[(0,x0),(1,x1),(2,x2)]) ty (.agg #[c0_0,c1_0,c2_0]):=gL (vs:=#[(0,ev l x0),(1,ev l x1),(2,ev l x2)]) (by simp) fun w=>Lw h0 h1 h2 w
theorem Wl(d:Nat){x0 y0:Int}{x1 y1:Int}{x2 y2:Int}:tN prog (d+2) 23 (.agg #[.int .i64 x0,.int .i64 x1,.int .i64 x2]) (.agg #[.int .i64 y0,.int .i64 y1,.int .i64 y2]) (x0=y0∧x1=y1∧x2=y2):=(tN.array fF aM (Fv.cons (jB aV rfl) (jB aV rfl) (tN.int (d:=d+0) jR) (Fv.cons (jB aV rfl) (jB aV rfl) (tN.int (d:=d+0) jR) (Fv.cons (jB aV rfl) (jB aV rfl) (tN.int (d:=d+0) jR) Fv.nil)))).iff (by simp only[and_assoc,and_true])
theorem vT{l:List aj}{ty T':be}{x y:bm}{x0 y0:Int}{x1 y1:Int}{x2 y2:Int}(hx:ev l x=(.agg #[.int .i64 x0,.int .i64 x1,.int .i64 x2]))(hy:ev l y=(.agg #[.int .i64 y0,.int .i64 y1,.int .i64 y2])):iG prog l (.binOp .eql 23 x y T') ty (.bool (decide (x0=y0∧x1=y1∧x2=y2))):=aci (by kernel_rfl) hx hy (Wl 9998)
theorem Td{l:List aj}{ty T':be}{x y:bm}{x0 y0:Int}{x1 y1:Int}{x2 y2:Int}(hx:ev l x=(.agg #[.int .i64 x0,.int .i64 x1,.int .i64 x2]))(hy:ev l y=(.agg #[.int .i64 y0,.int .i64 y1,.int .i64 y2])):iG prog l (.binOp .neq 23 x y T') ty (.bool (decide (¬(x0=y0∧x1=y1∧x2=y2)))):=Vw (by kernel_rfl) hx hy (Wl 9998)
theorem Wm(d:Nat){x0 y0:Bool}{x1 y1:ByteArray}:tN prog (d+2) 35 (.agg #[.bool x0,.string x1]) (.agg #[.bool y0,.string y1]) (x0=y0∧x1=y1):=(tN.struct iK (by kernel_rfl) (wF.cons (by decide) (jB jP rfl) (jB jP rfl) (tN.bool (d:=d+0) Fw) (wF.cons (by decide) (jB xU rfl) (jB xU rfl) (tN.str (d:=d+0) nJ) wF.nil))).iff (by simp only[and_assoc,and_true])
theorem adh(d:Nat){x0 y0:Bool}{x1 y1:ByteArray}{x2 y2:Bool}{x3 y3:ByteArray}:tN prog (d+3) 37 (.agg #[.bool x0,.string x1,.bool x2,.string x3]) (.agg #[.bool y0,.string y1,.bool y2,.string y3]) (x0=y0∧x1=y1∧x2=y2∧x3=y3):=(tN.struct lS (by kernel_rfl) (wF.cons (by decide) (xT aT aH rfl) (xT aT aH rfl) (Wm (d+0)) (wF.cons (by decide) (xT aT aH rfl) (xT aT aH rfl) (Wm (d+0)) wF.nil))).iff (by simp only[and_assoc,and_true])
theorem Gv{l:List aj}{ty T':be}{x y:bm}{x0 y0:Bool}{x1 y1:ByteArray}{x2 y2:Bool}{x3 y3:ByteArray}(hx:ev l x=(.agg #[.bool x0,.string x1,.bool x2,.string x3]))(hy:ev l y=(.agg #[.bool y0,.string y1,.bool y2,.string y3])):iG prog l (.binOp .neq 37 x y T') ty (.bool (decide (¬(x0=y0∧x1=y1∧x2=y2∧x3=y3)))):=Vw (by kernel_rfl) hx hy (adh 9997)
theorem adi(d:Nat){x0 y0:Int}{x1 y1:Int}{x2 y2:Int}:tN prog (d+2) 56 (.agg #[.int .i64 x0,.int .i64 x1,.int .i64 x2]) (.agg #[.int .i64 y0,.int .i64 y1,.int .i64 y2]) (x0=y0∧x1=y1∧x2=y2):=(tN.struct bP (by kernel_rfl) (wF.cons (by decide) (jB aV rfl) (jB aV rfl) (tN.int (d:=d+0) jR) (wF.cons (by decide) (jB aV rfl) (jB aV rfl) (tN.int (d:=d+0) jR) (wF.cons (by decide) (jB aV rfl) (jB aV rfl) (tN.int (d:=d+0) jR) wF.nil)))).iff (by simp only[and_assoc,and_true])
end Go.Proofs.YtimjandkmfcmiaaGreatDoor
namespace Go.Lith
/-! ### Digits -/
def val(B:Nat):List Nat→Nat
 | []=>0
 | x::xs=>x+B*val B xs
def trim:List Nat→List Nat
 | []=>[]
 | x::xs=>if trim xs=[]∧x=0 then [] else x::trim xs
def dR(B:Nat)(xs:List Nat):Prop:=∀x∈xs,x<B
theorem fV(B:Nat):∀xs ys:List Nat,val B (xs++ys)=val B xs+B^xs.length*val B ys
 | [],ys=>by simp[val]
 | x::xs,ys=>by simp only[ep,val,fV B xs ys,ci,el];grind
theorem jY{B:Nat}:∀{xs:List Nat},dR B xs→val B xs<B^xs.length
 | [],_=>by simp[val]
 | x::xs,h=>by
  have h1:x<B:=h x (by simp);have h2:=jY (xs:=xs) fun y hy=>h y (by simp[hy]);simp only[val,ci,el];have h3:val B xs+1≤B^xs.length:=h2;have:=df B h3
  grind
theorem sP(B:Nat):∀xs:List Nat,val B (trim xs)=val B xs
 | []=>rfl
 | x::xs=>by
  have ih:=sP B xs;simp only[trim];split
  · rename_i h;rw[h.1] at ih;simp only[val] at ih ⊢;rw[←ih,h.2];simp
  · simp only[val,ih]
theorem iX:∀xs:List Nat,trim xs=xs.take (trim xs).length
 | []=>rfl
 | x::xs=>by
  simp only[trim];split
  · rfl
  · simp only[ci,List.take_succ_cons];rw[←iX xs]
theorem dR.take{B:Nat}{xs:List Nat}(h:dR B xs)(n:Nat):dR B (xs.take n):=fun x hx=>h x (List.mem_of_mem_take hx)
theorem dR.drop{B:Nat}{xs:List Nat}(h:dR B xs)(n:Nat):dR B (xs.drop n):=fun x hx=>h x (ia hx)
theorem dR.trim{B:Nat}{xs:List Nat}(h:dR B xs):dR B (trim xs):=by rw[iX];exact h.take _
theorem dR.append{B:Nat}{xs ys:List Nat}(h:dR B xs)(k:dR B ys):dR B (xs++ys):=fun x hx=>by
 rcases List.mem_append.1 hx with h' | h'
 · exact h x h'
 · exact k x h'
theorem lE(B:Nat):dR B []:=fun _ h=>by cases h
theorem oH{B x:Nat}{xs:List Nat}(hx:x<B)(h:dR B xs):dR B (x::xs):=fun y hy=>by
 rcases List.mem_cons.1 hy with rfl | h'
 · exact hx
 · exact h y h'
theorem dR.set{B:Nat}{xs:List Nat}(h:dR B xs){i x:Nat}(hx:x<B):dR B (xs.set i x):=fun y hy=>by
 rcases List.mem_or_eq_of_mem_set hy with h' | rfl
 · exact h y h'
 · exact hx
theorem dR.get{B:Nat}{xs:List Nat}(h:dR B xs){i x:Nat}(hi:xs[i]? = some x):x<B:=h x (List.mem_of_getElem? hi)
def gN(xs:List Nat):Prop:=trim xs=xs
theorem Gw:∀xs:List Nat,trim (trim xs)=trim xs
 | []=>rfl
 | x::xs=>by
  have ih:=Gw xs;simp only[trim];split
  · rfl
  · rename_i h;simp only[trim,ih];rw[if_neg h]
theorem tT(xs:List Nat):gN (trim xs):=Gw xs
theorem gN.tail{x:Nat}{xs:List Nat}(h:gN (x::xs)):gN xs:=by
 unfold gN at *
 simp only[trim] at h;split at h
 · cases h
 · simpa using h
theorem yE{B:Nat}(hB:0<B):∀{xs:List Nat},gN xs→xs≠[]→0<val B xs
 | [],_,h=>absurd rfl h
 | x::xs,ht,_=>by
  simp only[val];by_cases hx:xs=[]
  · subst hx
    have:x≠0:=by
     rintro rfl;simp[gN,trim] at ht
    omega
  · have:=Nat.mul_pos hB (yE hB ht.tail hx)
    omega
theorem uW{B:Nat}(hB:1<B):∀{xs ys:List Nat},dR B xs→dR B ys→gN xs→gN ys→val B xs=val B ys→xs=ys
 | [],[],_,_,_,_,_=>rfl
 | [],y::ys,_,_,_,hy,h=>by have:=yE (B:=B) (by omega) hy (by simp);rw[←h] at this;simp[val] at this
 | x::xs,[],_,_,hx,_,h=>by have:=yE (B:=B) (by omega) hx (by simp);rw[h] at this;simp[val] at this
 | x::xs,y::ys,hx,hy,tx,ty,h=>by
  simp only[val] at h;have h1:x<B:=hx x (by simp);have h2:y<B:=hy y (by simp);have e1:x=y:=by
   have:=congrArg (· % B) h;simpa[Nat.add_mul_mod_self_left,gy h1,gy h2] using this
  subst e1;have e2:val B xs=val B ys:=by
   have:B*val B xs=B*val B ys:=by omega
   exact Nat.eq_of_mul_eq_mul_left (by omega) this
  rw[uW hB (fun z hz=>hx z (by simp[hz])) (fun z hz=>hy z (by simp[hz])) tx.tail ty.tail e2]
def Gx(B:Nat):Nat→Nat→List Nat
 | 0,_=>[]
 | f+1,n=>if n=0 then [] else (n%B)::Gx B f (n / B)
def digs(B n:Nat):List Nat:=Gx B n n
theorem tU{B:Nat}(hB:1<B):∀(f n:Nat),n≤f→val B (Gx B f n)=n∧dR B (Gx B f n)∧gN (Gx B f n)
 | 0, n, h => by
  obtain rfl:n=0 := by omega
  exact⟨rfl,lE B,rfl⟩
 | f+1,n,h=>by
  simp only[Gx];split
  · rename_i h0;exact⟨by simp[val,h0],lE B,rfl⟩
  · rename_i h0
    have hlt:n / B≤f:=by
     have:=Nat.div_lt_self (Nat.pos_of_ne_zero h0) hB;omega
    obtain⟨h1,h2,h3⟩:=tU hB f (n / B) hlt;refine⟨by simp only[val,h1];exact Nat.mod_add_div n B,oH (ft _ (by omega)) h2,?_⟩;unfold gN at *
    simp only[trim,h3];rw[if_neg];rintro⟨h4,h5⟩;rw[h4] at h1;simp only[val] at h1;have:=Nat.mod_add_div n B;rw[h5,←h1] at this;omega
theorem qS{B:Nat}(hB:1<B)(n:Nat):val B (digs B n)=n:=(tU hB n n (bi _)).1
theorem sQ{B:Nat}(hB:1<B)(n:Nat):dR B (digs B n):=(tU hB n n (bi _)).2.1
theorem nO{B:Nat}(hB:1<B)(n:Nat):gN (digs B n):=(tU hB n n (bi _)).2.2
theorem lA{B:Nat}(hB:1<B){xs:List Nat}(h:dR B xs){n:Nat}(hv:val B xs=n):trim xs=digs B n :=
 uW hB h.trim (sQ hB n) (tT xs) (nO hB n) (by rw[sP,qS hB,hv])
theorem nB{B n:Nat}(hB:1<B):digs B n=[]↔n=0:=by
 constructor
 · intro h;rw[←qS hB n,h];rfl
 · rintro rfl;rfl
theorem fG{B n k:Nat}(hB:1<B)(h:n<B^k):(digs B n).length≤k:=by
 rcases cn k (digs B n).length with hlt | hge
 · exfalso
   have hne:(digs B n)≠[]:=by intro h';rw[h'] at hlt;simp at hlt
   -- the greatest digit is not 0
   have key:∀xs:List Nat,gN xs→xs≠[]→B^(xs.length-1)≤val B xs:=by
    intro xs
    induction xs with
    | nil=>intro _ h;exact absurd rfl h
    | cons x xs ih =>
     intro ht _;by_cases hx:xs=[]
     · subst hx
       have:=yE (B:=B) (by omega) ht (by simp);simp[val] at this ⊢;omega
     · have:=ih ht.tail hx
       have h2:xs.length≠0:=by simpa using hx
       simp only[ci,val,fe];have e:xs.length=(xs.length-1)+1:=by omega
       rw[e,el];have:=df B this
       grind
   have:=key _ (nO hB n) hne;rw[qS hB] at this;have h3:B^k≤B^((digs B n).length-1):=eh (by omega) (by omega);omega
 · exact hge
/-! ### Numbers as values -/
def cY(n:Int):Bool:=decide (n<0)
def tV(n:Nat):List UInt8:=(digs 256 n).reverse.map cv
def dQ(n:Int):ByteArray:=⟨(tV n.natAbs).toArray⟩
def W(n:Int):aj:=.agg #[.bool (cY n),.string (dQ n)]
def Bd(k:Nat)(n:Int):Prop:=n.natAbs<2^k
theorem Bd.mono{a b:Nat}{n:Int}(h:Bd a n)(hab:a≤b):Bd b n:=ai h (eh (by omega) hab)
theorem Bd.neg{a:Nat}{n:Int}(h:Bd a n):Bd a (-n):=by unfold Bd at *;rwa [Int.natAbs_neg]
theorem Bd.add{a b:Nat}{m n:Int}(h:Bd a m)(k:Bd b n):Bd (max a b+1) (m+n):=by
 unfold Bd at *
 have h1:(m+n).natAbs≤m.natAbs+n.natAbs:=Int.natAbs_add_le m n;have h2:2^a≤2^max a b:=eh (by omega) (Nat.le_max_left a b);have h3:2^b≤2^max a b:=eh (by omega) (Nat.le_max_right a b);rw[el];omega
theorem Bd.sub{a b:Nat}{m n:Int}(h:Bd a m)(k:Bd b n):Bd (max a b+1) (m-n):=by rw[Int.sub_eq_add_neg];exact h.add k.neg
theorem Bd.mul{a b:Nat}{m n:Int}(h:Bd a m)(k:Bd b n):Bd (a+b) (m*n):=by
 unfold Bd at *
 rw[Int.natAbs_mul,jh];exact Nat.mul_lt_mul_of_lt_of_lt h k
theorem Bd.of_i64{n:Int}(h0 : -9223372036854775808≤n)(h1:n≤9223372036854775807):Bd 64 n:=by
 unfold Bd;omega
theorem jT(k:Nat):Bd k 0:=by unfold Bd;exact Nat.two_pow_pos k
theorem Bd.of_le{a:Nat}{m n:Int}(h:Bd a n)(hle:m.natAbs≤n.natAbs):Bd a m:=d_ hle h
theorem Gy(n:Int):(dQ n).size=(digs 256 n.natAbs).length:=by simp[dQ,ByteArray.size,tV]
theorem Jk{k:Nat}{n:Int}(h:Bd k n):(dQ n).size≤k:=by
 rw[Gy];refine fG (by omega) (ai h ?_);rw[show 256=2^8 from rfl,←kz];exact eh (by omega) (by omega)
end Go.Lith
namespace Go.Lith
structure eQ(w:aw)(A:Option Addr)(n cap:Nat)(xs:List Nat):Prop where
 eq:n=xs.length
 row:∀(i x:Nat),xs[i]? = some x→∃a,A=some a∧w.cell? (a.add i)=some (.int .u64 (x:Int))
 le:xs.length≤cap
 cap:cap≤9223372036854775807
 len:xs.length≤17592186044416
 digs:dR 4294967296 xs
section
variable {w:aw} {A:Option Addr} {n cap:Nat} {xs:List Nat}
theorem eQ.ext{w':aw}(h:eQ w A n cap xs)(hE:dU w w'):eQ w' A n cap xs :=
 ⟨h.eq,fun i x hi=>let ⟨a,e,hc⟩:=h.row i x hi;⟨a,e,hE.cell hc⟩,h.le,h.cap,h.len,h.digs⟩
theorem eQ.take(h:eQ w A n cap xs)(k:Nat):eQ w A (xs.take k).length cap (xs.take k) :=
 ⟨rfl,fun i x hi=>h.row i x (by rw[dz] at hi;split at hi;exact hi;cases hi),ak (by simp;omega) h.le,h.cap,ak (by simp;omega) h.len,h.digs.take k⟩
theorem eQ.get(h:eQ w A n cap xs){i:Nat}(hi:i<xs.length):∃a,A=some a∧w.cell? (a.add i)=some (.int .u64 ((xs[i]:Nat):Int))∧xs[i]<4294967296 :=
 let ⟨a,e,hc⟩:=h.row i xs[i] (ao hi);⟨a,e,hc,h.digs _ (dl hi)⟩
theorem eQ.as(h:eQ w A n cap xs){ys:List Nat}(e:xs=ys):eQ w A n cap ys:=e▸h
end
theorem nP:∀ys:List Nat,trim (ys++[0])=trim ys
 | []=>by simp[trim]
 | y::ys=>by simp only[ep,trim,nP ys]
theorem rY{x:Nat}(hx:x≠0):∀ys:List Nat,trim (ys++[x])=ys++[x]
 | []=>by simp[trim,hx]
 | y::ys=>by simp only[ep,trim,rY hx ys];rw[if_neg (by simp)]
theorem Aj{xs:List Nat}{k:Nat}(hk:0<k)(h:k-1<xs.length):xs.take k=xs.take (k-1)++[xs[k-1]]:=by
 have e:k=(k-1)+1:=by omega
 conv=>lhs;rw[e]
 rw[List.take_succ_eq_append_getElem h]
theorem Gz{xs:List Nat}{k:Nat}(hk:0<k)(h:k-1<xs.length)(h0:((xs[k-1]:Nat):Int)=0)(ht:trim (xs.take k)=trim xs):trim (xs.take (k-1))=trim xs:=by
 rw[←ht,Aj hk h,show xs[k-1]=0 by omega,nP]
theorem Lx{xs:List Nat}{k:Nat}(hk:0<k)(h:k-1<xs.length)(h0:¬((xs[k-1]:Nat):Int)=0)(ht:trim (xs.take k)=trim xs):k=(trim xs).length:=by
 rw[←ht,Aj hk h,rY (by omega)];simp;omega
theorem Ly{xs:List Nat}(ht:trim (xs.take 0)=trim xs):0=(trim xs).length:=by rw[←ht];rfl
/-! ### Words in a block -/
abbrev lO(x:Nat):aj:=.int .u64 (x:Int)
theorem iD{os:List Nat}{i d:Nat}(hi:i<os.length):aW (os.map lO) i [lO d]=(os.set i d).map lO:=by
 unfold aW;rw[List.set_eq_take_append_cons_drop,if_pos hi];simp[List.map_take,List.map_drop]
theorem iY(n:Nat):bk n (gi .u64 0)=(bk n 0).map lO:=by simp[lO]
theorem gG.word{w:aw}{g:Nat}{os:List Nat}{t:be}(h:gG w g (os.map lO) t){i:Nat}(hi:i<os.length):w.cell? ⟨g,i,none⟩=some (.int .u64 ((os[i]:Nat):Int)) :=
 h.cell (by simp[hi])
theorem gG.nat{w:aw}{g:Nat}{os:List Nat}{t:be}(h:gG w g (os.map lO) t)(hd:dR 4294967296 os){n:Nat}(hn:n=os.length)(hl:n≤17592186044416):eQ w (some ⟨g,0,none⟩) n n os :=
 ⟨hn,fun i x hi=>⟨_,rfl,by rw[gA,ah];exact h.cell (by simp[hi])⟩,by omega,by omega,by omega,hd⟩
def iQ(n:Nat)(v:aj)(w:aw):Prop:=∃A cap,v=.slice A (digs 4294967296 n).length cap∧eQ w A (digs 4294967296 n).length cap (digs 4294967296 n)
theorem iQ.of_trim{w:aw}{A:Option Addr}{xs:List Nat}{k cap n:Nat}(h:eQ w A k cap xs)(hv:val 4294967296 xs=n):iQ n (.slice A (trim xs).length cap) w:=by
 have e:trim xs=digs 4294967296 n:=lA (by omega) h.digs hv;refine⟨A,cap,by rw[e],?_⟩;have h':=h.take (trim xs).length;rw[←iX,e] at h';exact h'
def qT(w:aw)(v:aj):Prop:=∀a n c,v=.slice (some a) n c→w.heap.size≤a.block
theorem qT.of_blk{w:aw}{g off n c:Nat}(h:w.heap.size≤g):qT w (.slice (some ⟨g,off,none⟩) n c):=fun a n' c' e=>by cases e;exact h
theorem nC(a:Addr)(i:Nat):(a.add i).block=a.block:=by unfold Addr.add;split <;> rfl
theorem Qz.cell{w w':aw}{g:Nat}(h:Qz w w' g){a:Addr}(hne:a.block≠g):w'.cell? a=w.cell? a:=by
 unfold World.cell?;rw[h.block _ hne]
theorem eQ.chg{w w':aw}{g n cap:Nat}{A:Option Addr}{xs:List Nat}(h:eQ w A n cap xs)(hC:Qz w w' g)(hne:∀a,A=some a→a.block≠g):eQ w' A n cap xs :=
 ⟨h.eq,fun i x hi=>let ⟨a,e,hc⟩:=h.row i x hi;⟨a,e,by rw[hC.cell (by rw[nC];exact hne a e)];exact hc⟩,h.le,h.cap,h.len,h.digs⟩
/-! ### Sums of digits -/
theorem lR{B:Nat}:∀{os:List Nat} {j d:Nat} (hj:j<os.length),val B (os.set j d)+B^j*os[j]=val B os+B^j*d
 | x::xs,0,d,_=>by simp[val];omega
 | x::xs,j+1,d,h=>by
  have ih:=lR (B:=B) (os:=xs) (j:=j) (d:=d) (by simpa using h);simp only[List.set_cons_succ,val,List.getElem_cons_succ,el];have:=congrArg (B * ·) ih;simp only[gk] at this
  grind
theorem gT(B n:Nat):val B (bk n 0)=0:=by
 induction n with
 | zero=>rfl
 | succ n ih=>simp[List.replicate_succ,val,ih]
theorem dK{B:Nat}{xs:List Nat}{i:Nat}(hi:i<xs.length):val B (xs.take (i+1))=val B (xs.take i)+B^i*xs[i]:=by
 rw[List.take_succ_eq_append_getElem hi,fV,bl,co (by omega)];simp[val]
theorem nD{B:Nat}{xs:List Nat}{i:Nat}(hi:xs.length≤i):val B (xs.take i)=val B xs:=by rw[bp hi]
theorem kG{os:List Nat}{i d:Nat}:(os.set i d).drop (i+1)=os.drop (i+1):=by
 apply er;intro j;simp only[cx];rw[fl (by omega)]
theorem iZ{os:List Nat}{i n:Nat}(h:os.drop i=bk n 0)(hi:i<os.length):os[i]=0∧os.drop (i+1)=bk (n-1) 0:=by
 rw[dc hi] at h;cases n with
 | zero=>cases h
 | succ n=>simp only[List.replicate_succ,List.cons.injEq] at h;exact⟨h.1,by simpa using h.2⟩
theorem Lz{B:Nat}{os:List Nat}{i d c c' s t T:Nat}(hi:i<os.length)(hs:os[i]+s+c=d+B*c')(hT:val B os+B^i*c=T)(ht:T+B^i*s=t) :
 val B (os.set i d)+B^(i+1)*c'=t:=by
 have h1:=lR (B:=B) (d:=d) hi;have h2:=congrArg (B^i * ·) hs;simp only[gk] at h2;rw[el]
 grind
/-! ### Order -/
def Jl(a b:Nat):Int:=if a<b then -1 else if b<a then 1 else 0
theorem wK{B:Nat}(hB:1<B){xs ys:List Nat}{k:Nat}(hx:dR B xs)(hlx:k<xs.length)(hly:k<ys.length)(hd:xs.drop (k+1)=ys.drop (k+1))(h:xs[k]<ys[k]):val B xs<val B ys:=by
 have e1:val B xs=val B (xs.take (k+1))+B^(k+1)*val B (xs.drop (k+1)):=by
  conv=>lhs;rw[←fv (k+1) xs]
  rw[fV,bl,co (by omega)]
 have e2:val B ys=val B (ys.take (k+1))+B^(k+1)*val B (ys.drop (k+1)):=by
  conv=>lhs;rw[←fv (k+1) ys]
  rw[fV,bl,co (by omega)]
 rw[e1,e2,hd,dK hlx,dK hly];have h1:=jY (hx.take k);rw[bl,co (by omega)] at h1;have h2:B^k*(xs[k]+1)≤B^k*ys[k]:=df _ h;rw[gk] at h2;omega
theorem kT{B:Nat}(hB:1<B){xs ys:List Nat}(hx:dR B xs)(hy:dR B ys)(ty:gN ys)(h:xs.length<ys.length):val B xs<val B ys:=by
 rcases cn (val B xs) (val B ys) with hlt | hge
 · exact hlt
 · exfalso
   have e:ys=digs B (val B ys):=uW hB hy (sQ hB _) ty (nO hB _) (by rw[qS hB]);have h1:val B ys<B^xs.length:=d_ hge (jY hx);have h2:=fG hB h1;rw[←e] at h2;omega
/-! ### The machine's numbers -/
theorem kH(x:Int):IntKind.u64.wrap x=x%18446744073709551616:=by simp[lj,lk,ks]
theorem oX{s:Int}(h0:0≤s)(h1:s<18446744073709551616):IntKind.u64.wrap ((da IntKind.u64.bits s &&& da IntKind.u64.bits 4294967295).toNat:Int)=s%4294967296:=by
 obtain⟨n,rfl⟩:=Int.eq_ofNat_of_zero_le h0;have hn:n<18446744073709551616:=by omega
 have e:(da 64 (n:Int) &&& da 64 4294967295).toNat=n%4294967296:=by
  rw[BitVec.toNat_and];have e1:(da 64 (n:Int)).toNat=n:=by simp[jj];omega
  have e2:(da 64 4294967295).toNat=2^32-1:=by decide
  rw[e1,e2,Nat.and_two_pow_sub_one_eq_mod]
 show IntKind.u64.wrap ((da 64 (n:Int) &&& da 64 4294967295).toNat:Int)=_
 rw[e,fX (by omega) (by omega)];omega
theorem Ha{s:Int}(h0:0≤s):s.fdiv (2^(min (32:Int).toNat IntKind.u64.bits))=s / 4294967296:=by
 show s.fdiv (2^32)=_
 rw[fc _ (by decide)];rfl
theorem abW{s:Int}(h0:0≤s):s.fdiv (2^(min (63:Int).toNat IntKind.u64.bits))=s / 9223372036854775808:=by
 show s.fdiv (2^63)=_
 rw[fc _ (by decide)];rfl
/-! ### Addresses of words -/
theorem fH{a:Addr}{m:Int}{q:Nat}(h:m.toNat=q):a.add (m.toNat*1)=a.add q:=by rw[h,jg]
theorem sR{a:Addr}{m:Int}{c q:Nat}(h:m.toNat=q):a.add (m.toNat*c)=a.add (q*c):=by rw[h]
theorem fS{g:Nat}{m:Int}{q:Nat}(h:m.toNat=q):(⟨g,0,none⟩:Addr).add (m.toNat*1)=⟨g,q,none⟩:=by rw[h,jg,gA,ah]
theorem tW{g:Nat}{m:Int}{c q:Nat}(h:m.toNat=q):(⟨g,0,none⟩:Addr).add (m.toNat*c)=⟨g,q*c,none⟩:=by rw[h,gA,ah]
theorem eQ.at{w:aw}{a:Addr}{xs:List Nat}{n cap:Nat}(h:eQ w (some a) n cap xs){i:Nat}(hi:i<xs.length):w.cell? (a.add i)=some (.int .u64 ((xs[i]:Nat):Int)):=by
 obtain⟨a',e,hc⟩:=h.row i xs[i] (ao hi);cases e;exact hc
/-! ### Rounds -/
theorem Wn{xs ys:List Nat}{k:Nat}(hx:dR 4294967296 xs)(hk:0<k)(hlx:k-1<xs.length)(hly:k-1<ys.length)(hd:xs.drop k=ys.drop k)(h:((xs[k-1]:Nat):Int)<((ys[k-1]:Nat):Int)):val 4294967296 xs<val 4294967296 ys :=
 wK (by omega) hx hlx hly (by rw[show k-1+1=k by omega];exact hd) (by omega)
theorem Te{xs ys:List Nat}{k:Nat}(hk:0<k)(hlx:k-1<xs.length)(hly:k-1<ys.length)(hd:xs.drop k=ys.drop k)(h1:¬((xs[k-1]:Nat):Int)<((ys[k-1]:Nat):Int))(h2:¬((ys[k-1]:Nat):Int)<((xs[k-1]:Nat):Int)):xs.drop (k-1)=ys.drop (k-1):=by
 rw[dc hlx,dc hly,show k-1+1=k by omega,hd,show xs[k-1]=ys[k-1] by omega]
theorem vU{os xs ys:List Nat}{i c s:Nat}(hi:i<xs.length)(hlo:os.length=xs.length+1)(hv:val 4294967296 os+4294967296^i*c=val 4294967296 (xs.take i)+val 4294967296 (ys.take i))(hz:os.drop i=bk (xs.length+1-i) 0)(hd:dR 4294967296 os)(hc:c≤1)
 (hs:s=xs[i]+c+ys[i]?.getD 0) (hx:xs[i]<4294967296) (hy:ys[i]?.getD 0<4294967296) :
 val 4294967296 (os.set i (s%4294967296))+4294967296^(i+1)*(s / 4294967296)=val 4294967296 (xs.take (i+1))+val 4294967296 (ys.take (i+1))∧(os.set i (s%4294967296)).drop (i+1)=bk (xs.length+1-(i+1)) 0∧dR 4294967296 (os.set i (s%4294967296))∧s / 4294967296≤1:=by
 obtain⟨z1,z2⟩:=iZ hz (by omega);refine⟨?_,?_,hd.set (ft _ (by omega)),by omega⟩
 · refine Lz (s:=xs[i]+ys[i]?.getD 0) (by omega) (by rw[z1];omega) hv ?_
   rw[dK hi];by_cases hy':i<ys.length
   · rw[dK hy',ao hy']
     simp only[dt,gk];omega
   · rw[bj (by omega),nD (xs:=ys) (i:=i+1) (by omega),nD (xs:=ys) (i:=i) (by omega)]
     simp;omega
 · rw[kG,z2]
   congr 1
theorem Cm{os xs ys:List Nat}{c:Nat}(hle:ys.length≤xs.length)(hlo:os.length=xs.length+1)(hv:val 4294967296 os+4294967296^xs.length*c=val 4294967296 (xs.take xs.length)+val 4294967296 (ys.take xs.length))(hz:os.drop xs.length=bk (xs.length+1-xs.length) 0) :
 val 4294967296 (os.set xs.length c)=val 4294967296 xs+val 4294967296 ys:=by
 obtain⟨z1,_⟩:=iZ hz (by omega);have h:=lR (B:=4294967296) (d:=c) (show xs.length<os.length by omega);rw[z1] at h;rw[c_,nD hle] at hv;omega
theorem Hb{os xs ys:List Nat}{i c s:Nat}(hi:i<xs.length)(hlo:os.length=xs.length)(hv:val 4294967296 os+val 4294967296 (ys.take i)=val 4294967296 (xs.take i)+4294967296^i*c)(hz:os.drop i=bk (xs.length-i) 0)(hd:dR 4294967296 os)(hc:c≤1)
 (hs:(s:Int)=((xs[i]:Nat)-(c:Nat)-(ys[i]?.getD 0:Nat):Int)%18446744073709551616) (hx:xs[i]<4294967296) (hy:ys[i]?.getD 0<4294967296) :
 val 4294967296 (os.set i (s%4294967296))+val 4294967296 (ys.take (i+1))=val 4294967296 (xs.take (i+1))+4294967296^(i+1)*(s / 9223372036854775808)∧(os.set i (s%4294967296)).drop (i+1)=bk (xs.length-(i+1)) 0∧dR 4294967296 (os.set i (s%4294967296))∧s / 9223372036854775808≤1:=by
 obtain⟨z1,z2⟩:=iZ hz (by omega);have key:xs[i]+4294967296*(s / 9223372036854775808)=s%4294967296+c+ys[i]?.getD 0:=by omega
 refine⟨?_,?_,hd.set (ft _ (by omega)),by omega⟩
 · have h1:=lR (B:=4294967296) (d:=s%4294967296) (show i<os.length by omega)
   rw[z1] at h1;have h2:=congrArg (4294967296^i * ·) key;simp only[gk] at h2;rw[dK hi,el];have h3:val 4294967296 (ys.take (i+1))=val 4294967296 (ys.take i)+4294967296^i*ys[i]?.getD 0:=by
    by_cases hy':i<ys.length
    · rw[dK hy',ao hy'];rfl
    · rw[bj (by omega),nD (xs:=ys) (i:=i+1) (by omega),nD (xs:=ys) (i:=i) (by omega)];rfl
   rw[h3]
   grind
 · rw[kG,z2]
   congr 1
theorem aaz{os xs ys:List Nat}{c:Nat}(hle:ys.length≤xs.length)(hlo:os.length=xs.length)(hd:dR 4294967296 os)(hv:val 4294967296 os+val 4294967296 (ys.take xs.length)=val 4294967296 (xs.take xs.length)+4294967296^xs.length*c)(hge:val 4294967296 ys≤val 4294967296 xs) :
 val 4294967296 os=val 4294967296 xs-val 4294967296 ys:=by
 rw[c_,nD hle] at hv;have h:=jY hd;rw[hlo] at h;have hc:c=0:=by
  rcases eg c with h0 | h0
  · exact h0
  · have:=df (4294967296^xs.length) h0
    omega
 subst hc;omega
theorem Tf{os xs ys:List Nat}{i k c s:Nat}(hi:i<xs.length)(hk:k<ys.length)(hlo:os.length=xs.length+ys.length)(hv:val 4294967296 os+4294967296^(i+k)*c=val 4294967296 (xs.take i)*val 4294967296 ys+4294967296^i*(xs[i]*val 4294967296 (ys.take k)))
 (hs:s=os[i+k]+xs[i]*ys[k]+c):val 4294967296 (os.set (i+k) (s%4294967296))+4294967296^(i+(k+1))*(s / 4294967296)=val 4294967296 (xs.take i)*val 4294967296 ys+4294967296^i*(xs[i]*val 4294967296 (ys.take (k+1))):=by
 refine Lz (s:=xs[i]*ys[k]) (i:=i+k) (by omega) (by omega) hv ?_;rw[dK hk,jh]
 grind
theorem nE{os:List Nat}{i j d:Nat}(h:i<j):(os.set i d).drop j=os.drop j:=by
 apply er;intro m;simp only[cx];rw[fl (by omega)]
theorem aaA{os xs ys:List Nat}{i c:Nat}(hi:i<xs.length)(hlo:os.length=xs.length+ys.length)(hv:val 4294967296 os+4294967296^(i+ys.length)*c=val 4294967296 (xs.take i)*val 4294967296 ys+4294967296^i*(xs[i]*val 4294967296 (ys.take ys.length)))(hz:os.drop (i+ys.length)=bk (xs.length-i) 0) :
 val 4294967296 (os.set (i+ys.length) c)=val 4294967296 (xs.take (i+1))*val 4294967296 ys∧(os.set (i+ys.length) c).drop (i+1+ys.length)=bk (xs.length-(i+1)) 0:=by
 obtain⟨z1,z2⟩:=iZ hz (by omega);have h:=lR (B:=4294967296) (d:=c) (show i+ys.length<os.length by omega);rw[z1] at h;rw[c_] at hv;refine⟨?_,?_⟩
 · rw[dK hi]
   grind
 · rw[show i+1+ys.length=i+ys.length+1 by omega,kG,z2]
   congr 1
theorem Wo{x y:Nat}(hx:x<4294967296)(hy:y<4294967296):x*y≤18446744065119617025:=by
 have:=iq (ju hx) (ju hy);omega
theorem aaB{x y:Nat}(hx:x<4294967296)(hy:y<4294967296):(0:Int)≤(x:Int)*(y:Int)∧(x:Int)*(y:Int)≤18446744065119617025:=by
 have h:=Wo hx hy;have e:((x*y:Nat):Int)=(x:Int)*(y:Int):=ii x y;rw[←e];omega
/-! ### Shifts,divisions by a word -/
theorem tX{m n:Nat}(hn:n<64)(h:m*2^n<18446744073709551616):IntKind.u64.wrap ((m:Int)*2^(min (n:Int).toNat IntKind.u64.bits))=((m*2^n:Nat):Int):=by
 have e:min (n:Int).toNat IntKind.u64.bits=n:=by
  show min (n:Int).toNat 64=n
  rw[an];omega
 rw[e];have e2:((m:Int)*2^n)=((m*2^n:Nat):Int):=by simp
 rw[e2];exact fX (by omega) (by omega)
theorem aaC{m n:Nat}(hn:n<64):(m:Int).fdiv (2^(min (n:Int).toNat IntKind.u64.bits))=((m / 2^n:Nat):Int):=by
 have e:min (n:Int).toNat IntKind.u64.bits=n:=by
  show min (n:Int).toNat 64=n
  rw[an];omega
 rw[e,fc _ (by exact Int.le_of_lt (Int.pow_pos (by decide)))];simp
theorem Jm{a b s c:Nat}(ha:a<2^s)(hb:b=2^s*c)(h:a+b<18446744073709551616):IntKind.u64.wrap ((da IntKind.u64.bits (a:Int) ||| da IntKind.u64.bits (b:Int)).toNat:Int)=((a+b:Nat):Int):=by
 have e:(da 64 (a:Int) ||| da 64 (b:Int)).toNat=a+b:=by
  rw[BitVec.toNat_or];have e1:(da 64 (a:Int)).toNat=a:=by simp[jj];omega
  have e2:(da 64 (b:Int)).toNat=b:=by simp[jj];omega
  rw[e1,e2,Nat.or_comm,hb,←Nat.two_pow_add_eq_or_of_lt ha];omega
 show IntKind.u64.wrap ((da 64 (a:Int) ||| da 64 (b:Int)).toNat:Int)=_
 rw[e];exact fX (by omega) (by omega)
theorem Cn{a b s c:Nat}(ha:a<2^s)(hb:b=2^s*c)(h:a+b<18446744073709551616):IntKind.u64.wrap ((da IntKind.u64.bits (b:Int) ||| da IntKind.u64.bits (a:Int)).toNat:Int)=((a+b:Nat):Int):=by
 have:=Jm ha hb h;rwa [BitVec.or_comm] at this
theorem Co{s:Nat}(h:s<18446744073709551616):IntKind.u64.wrap ((da IntKind.u64.bits (s:Int) &&& da IntKind.u64.bits 4294967295).toNat:Int)=((s%4294967296:Nat):Int):=by
 rw[oX (by omega) (by omega)];omega
theorem Cp{m n:Nat}(h:m<18446744073709551616):IntKind.u64.wrap ((m:Int).tdiv (n:Int))=((m / n:Nat):Int):=by
 rw[←jv];have:m / n≤m:=fy m n;generalize m / n=q at *
 exact fX (by omega) (by omega)
theorem lW{m n:Nat}:(m:Int).tmod (n:Int)=((m%n:Nat):Int):=(mp m n).symm
theorem kI{B:Nat}{xs:List Nat}{k:Nat}(hk:0<k)(h:k-1<xs.length):val B (xs.drop (k-1))=xs[k-1]+B*val B (xs.drop k):=by
 rw[dc h,show k-1+1=k by omega];rfl
theorem Ma{os xs:List Nat}{k d r:Nat}(hk:0<k)(hkl:k≤xs.length)(hlo:os.length=xs.length)(hv:val 4294967296 (xs.drop k)=d*val 4294967296 (os.drop k)+r)(hr:r<d)(hdg:dR 4294967296 os)(hx:xs[k-1]<4294967296) :
 val 4294967296 (xs.drop (k-1))=d*val 4294967296 ((os.set (k-1) ((xs[k-1]+r*4294967296) / d)).drop (k-1))+(xs[k-1]+r*4294967296)%d∧dR 4294967296 (os.set (k-1) ((xs[k-1]+r*4294967296) / d))∧(xs[k-1]+r*4294967296)%d<d:=by
 refine⟨?_,hdg.set ?_,ft _ (by omega)⟩
 · have e1:=kI (B:=4294967296) hk (show k-1<xs.length by omega)
   have e2:=kI (B:=4294967296) (xs:=os.set (k-1) ((xs[k-1]+r*4294967296) / d)) hk (by simp;omega);have e3:(os.set (k-1) ((xs[k-1]+r*4294967296) / d)).drop k=os.drop k:=nE (by omega);rw[e1,e2,e3,gu,hv];have:=kl (xs[k-1]+r*4294967296) d
   grind
 · have:(xs[k-1]+r*4294967296) / d<4294967296:=by
    rw[gv (by omega)];have:(r+1)*4294967296≤d*4294967296:=ei _ hr;omega
   exact this
theorem wX{a d q r:Nat}(h0:0<d)(hr:r<d)(h:a=d*q+r):q=a / d∧r=a%d:=by
 subst h;constructor
 · rw[Nat.mul_add_div h0,Nat.div_eq_of_lt hr,fx]
 · rw[Nat.mul_add_mod,gy hr]
end Go.Lith
namespace Go.Lith
theorem Jn{m:Nat}:(m:Int).fdiv (2^(min (32:Int).toNat IntKind.u64.bits))=((m / 4294967296:Nat):Int):=by
 rw[Ha (by omega)];omega
theorem adj{m:Nat}:(m:Int).fdiv (2^(min (31:Int).toNat IntKind.u64.bits))=((m / 2147483648:Nat):Int):=by
 show (m:Int).fdiv (2^31)=_
 rw[fc _ (by decide)];omega
theorem Cq{x n:Nat}(hn:n≤32):x*2^n%4294967296=2^n*(x%2^(32-n)):=by
 have e:(4294967296:Nat)=2^n*2^(32-n):=by rw[←jh,show n+(32-n)=32 by omega]
 rw[dw,e,Nat.mul_mod_mul_left]
theorem sS{n:Nat}(hn:n≤32):(4294967296:Nat)=2^n*2^(32-n):=by rw[←jh,show n+(32-n)=32 by omega]
theorem Oz{x n:Nat}(hn:n≤32)(hx:x<4294967296):x*2^n<18446744073709551616:=by
 have h1:2^n≤2^32:=eh (by omega) hn;have h2:x*2^n≤x*2^32:=df _ h1;omega
theorem Cr{a x n:Nat}(hn:n≤32)(ha:a<2^n):a+x*2^n%4294967296<4294967296:=by
 rw[Cq hn];have h1:x%2^(32-n)<2^(32-n):=ft _ (iv (by omega));have h2:2^n*(x%2^(32-n)+1)≤2^n*2^(32-n):=df _ h1;rw[←sS hn,gk] at h2;omega
theorem aaD{x n:Nat}(hx:x<4294967296):x*2^n / 4294967296<2^n:=by
 rw[gv (by omega),dw (2^n)];exact Nat.mul_lt_mul_of_pos_right hx (iv (by omega))
theorem Mb{os xs:List Nat}{i n:Nat}(hn:n≤31)(hi:i<xs.length)(hlo:os.length=xs.length+1)(hv:val 4294967296 os=2^n*val 4294967296 (xs.take i))(hz:os.drop (i+1)=bk (xs.length-i) 0)(hd:dR 4294967296 os)(h1:i<os.length)(hc:os[i]<2^n)(hx:xs[i]<4294967296) :
 val 4294967296 ((os.set i (os[i]+xs[i]*2^n%4294967296)).set (i+1) (xs[i]*2^n / 4294967296))=2^n*val 4294967296 (xs.take (i+1))∧((os.set i (os[i]+xs[i]*2^n%4294967296)).set (i+1) (xs[i]*2^n / 4294967296)).drop (i+1+1)=bk (xs.length-(i+1)) 0∧dR 4294967296 ((os.set i (os[i]+xs[i]*2^n%4294967296)).set (i+1) (xs[i]*2^n / 4294967296))∧(∀h:i+1<((os.set i (os[i]+xs[i]*2^n%4294967296)).set (i+1) (xs[i]*2^n / 4294967296)).length,((os.set i (os[i]+xs[i]*2^n%4294967296)).set (i+1) (xs[i]*2^n / 4294967296))[i+1]<2^n):=by
 obtain⟨z1,z2⟩:=iZ hz (by omega);have ht:=aaD (n:=n) hx;have hf:=Cr (x:=xs[i]) (by omega) hc;have hp:2^n≤2^32:=eh (by omega) (by omega);refine⟨?_,?_,(hd.set hf).set (by omega),?_⟩
 · have e1:=lR (B:=4294967296) (d:=os[i]+xs[i]*2^n%4294967296) h1
   have e2:=lR (B:=4294967296) (os:=os.set i (os[i]+xs[i]*2^n%4294967296)) (d:=xs[i]*2^n / 4294967296) (show i+1<_ by simp;omega);rw[i_ (by omega),z1] at e2;rw[dK hi];have e3:=kl (xs[i]*2^n) 4294967296;generalize xs[i]*2^n / 4294967296=t at *
   generalize hg:xs[i]*2^n%4294967296=r at *
   rw[el] at e2;have e4:=congrArg (4294967296^i * ·) e3;simp only[gk] at e4 e1
   grind
 · rw[kG,nE (by omega),z2]
   congr 1
 · intro h
   rw[gu];exact ht
theorem Wp{x n:Nat}(hn:n≤32)(hx:x<4294967296):x / 2^n<2^(32-n):=by
 rw[gv (iv (by omega)),dw,←sS hn];exact hx
theorem Fx{os xs:List Nat}{n:Nat}(hn:n≤32)(hi:0<xs.length)(hlo:os.length=xs.length)(hv:val 4294967296 os=val 4294967296 (xs.take 0) / 2^n)(hz:os.drop 0=bk (xs.length-0) 0)(hd:dR 4294967296 os)(hx:xs[0]<4294967296) :
 val 4294967296 (os.set 0 (xs[0] / 2^n))=val 4294967296 (xs.take (0+1)) / 2^n∧(os.set 0 (xs[0] / 2^n)).drop (0+1)=bk (xs.length-(0+1)) 0∧dR 4294967296 (os.set 0 (xs[0] / 2^n)):=by
 obtain⟨z1,z2⟩:=iZ hz (by omega);refine⟨?_,?_,hd.set (d_ (fy _ _) hx)⟩
 · have e1:=lR (B:=4294967296) (d:=xs[0] / 2^n) (show 0<os.length by omega)
   rw[z1] at e1;rw[dK hi];simp only[h_,val,Nat.pow_zero,gl,ah] at hv e1 ⊢;rw[Nat.zero_div] at hv;omega
 · rw[kG,z2]
   congr 1
theorem Fy{V x i n:Nat}(hV:V<4294967296^(i+1))(hn:n≤32):(V+4294967296^(i+1)*x) / 2^n=V / 2^n+4294967296^i*(2^(32-n)*x):=by
 have e:4294967296^(i+1)*x=2^n*(4294967296^i*(2^(32-n)*x)):=by
  rw[el];have:=sS hn;generalize 2^n=p at *
  generalize 2^(32-n)=q at *
  rw[this]
  grind
 rw[e,Nat.add_mul_div_left _ _ (iv (by omega))]
theorem Fz{os xs:List Nat}{j n:Nat}(hn:n≤32)(hi:j+1<xs.length)(hlo:os.length=xs.length)(hv:val 4294967296 os=val 4294967296 (xs.take (j+1)) / 2^n)(hz:os.drop (j+1)=bk (xs.length-(j+1)) 0)(hd:dR 4294967296 os)(hdx:dR 4294967296 xs)(h1:j<os.length)(hc:os[j]<2^(32-n)) :
 val 4294967296 ((os.set (j+1) (xs[j+1] / 2^n)).set j (os[j]+xs[j+1]*2^(32-n)%4294967296))=val 4294967296 (xs.take (j+1+1)) / 2^n∧((os.set (j+1) (xs[j+1] / 2^n)).set j (os[j]+xs[j+1]*2^(32-n)%4294967296)).drop (j+1+1)=bk (xs.length-(j+1+1)) 0∧dR 4294967296 ((os.set (j+1) (xs[j+1] / 2^n)).set j (os[j]+xs[j+1]*2^(32-n)%4294967296)):=by
 obtain⟨z1,z2⟩:=iZ hz (by omega);have hx:xs[j+1]<4294967296:=hdx _ (dl hi);have hf:=Cr (x:=xs[j+1]) (n:=32-n) (by omega) hc;refine⟨?_,?_,(hd.set (d_ (fy _ _) hx)).set hf⟩
 · have e1:=lR (B:=4294967296) (d:=xs[j+1] / 2^n) (show j+1<os.length by omega)
   have e2:=lR (B:=4294967296) (os:=os.set (j+1) (xs[j+1] / 2^n)) (j:=j) (d:=os[j]+xs[j+1]*2^(32-n)%4294967296) (by simp;omega);rw[i_ (by omega)] at e2;rw[z1] at e1;have hV:=jY (hdx.take (j+1));rw[bl,co (by omega)] at hV;rw[dK hi,Fy hV hn,←hv];have e3:2^(32-n)*xs[j+1]=4294967296*(xs[j+1] / 2^n)+xs[j+1]*2^(32-n)%4294967296:=by
    rw[Cq (by omega),show 32-(32-n)=n by omega];have h3:=kl xs[j+1] (2^n);have:=sS hn;generalize 2^n=p at *
    generalize 2^(32-n)=q at *
    conv=>lhs;rw[←h3]
    rw[this]
    grind
   rw[e3,gk];generalize xs[j+1]*2^(32-n)%4294967296=r at *
   generalize xs[j+1] / 2^n=t at *
   rw[el] at e1;simp only[gk] at e2
   grind
 · rw[nE (by omega),kG,z2]
   congr 1
/-! ### Slices of words -/
theorem eQ.nil(w:aw):eQ w none 0 0 []:=⟨rfl,fun i x hi=>by simp at hi,bi _,by omega,by simp,fun x hx=>by cases hx⟩
theorem eQ.drop{w:aw}{a:Addr}{n cap:Nat}{xs:List Nat}(h:eQ w (some a) n cap xs){k:Nat}(hk:k≤xs.length){m:Nat}(hm:m=n-k):eQ w (some (a.add k)) m (cap-k) (xs.drop k):=by
 have hl:=h.len;have hc:=h.cap;have he:=h.eq;have hle:=h.le;refine⟨by rw[hm,he];simp,fun i x hi=>⟨_,rfl,?_⟩,by simp;omega,by omega,by simp;omega,fun x hx=>h.digs x (ia hx)⟩;obtain⟨a',e,hcell⟩:=h.row (k+i) x (by rw[cx] at hi;exact hi);cases e;rw[show (a.add k).add i=a.add (k+i) from ?_]
 · exact hcell
 · obtain⟨g,off,ln⟩:=a
   by_cases hk0:k=0 <;> by_cases hi0:i=0 <;> simp[Addr.add,hk0,hi0,ly]
theorem eQ.head{w:aw}{A:Option Addr}{n cap:Nat}{xs:List Nat}(h:eQ w A n cap xs){k:Nat}(hk:k≤xs.length):eQ w A k cap (xs.take k):=by
 have:=h.take k;rwa [bl,co hk] at this
theorem eQ.words{w:aw}{a:Addr}{n cap:Nat}{xs:List Nat}(h:eQ w (some a) n cap xs):qN w a (xs.map lO):=by
 intro j u hj;rw[db] at hj;cases hq:xs[j]? with
 | none=>rw[hq] at hj;cases hj
 | some x =>
  rw[hq] at hj;cases hj;obtain⟨a',e,hc⟩:=h.row j x hq;cases e;exact hc
theorem eQ.of_owns{w:aw}{base n:Nat}{v:aj}{xs:List Nat}{E:be}(h:kR w base E 1 v n (xs.map lO))(hn:n=xs.length)(hd:dR 4294967296 xs)(hl:n≤17592186044416):∃A c,v=.slice A n c∧eQ w A n c xs:=by
 rcases h.row with ⟨rfl,h0,h1⟩ | ⟨g,cap,rfl,_,hc,hm,_,hr⟩
 · subst h0
   have:xs=[]:=by simpa using h1
   subst this;exact⟨_,_,rfl,eQ.nil w⟩
 · refine⟨_,_,rfl,hn,fun i x hi=>⟨_,rfl,hr i (lO x) (by rw[db,hi];rfl)⟩,by omega,hm,by omega,hd⟩
theorem eQ.none{w:aw}{n cap:Nat}{xs:List Nat}(h:eQ w none n cap xs):xs=[]:=by
 cases xs with
 | nil=>rfl
 | cons x xs=>obtain⟨a,e,_⟩:=h.row 0 x rfl;cases e
def aaE(xs:List Nat)(v:aj)(w:aw):Prop:=∃A c,v=.slice A xs.length c∧eQ w A xs.length c xs
end Go.Lith
namespace Go.Lith
theorem Wq{a b:Nat}:decide (Jl a b<0)=decide (a<b):=by
 unfold Jl;split
 · simp[*]
 · split <;> simp[*]
theorem eQ.src{w:aw}{A:Option Addr}{n cap:Nat}{xs:List Nat}(h:eQ w A n cap xs):∀(j:Nat) (v:aj),(xs.map lO)[j]? = some v→∃a,A=some a∧w.cell? (a.add j)=some v:=by
 intro j v hj;rw[db] at hj;cases hq:xs[j]? with
 | none=>rw[hq] at hj;cases hj
 | some x =>
  rw[hq] at hj;cases hj;exact h.row j x hq
theorem Ws{xs:List Nat}:∀u∈xs.map lO,u.oneCell'=true:=fun u hu=>by obtain⟨x,_,rfl⟩:=List.mem_map.1 hu;rfl
theorem eE(n:Nat):val 4294967296 (digs 4294967296 n)=n:=qS (by omega) n
theorem jC(n:Nat):gN (digs 4294967296 n):=nO (by omega) n
theorem Bo(n:Nat):dR 4294967296 (digs 4294967296 n):=sQ (by omega) n
theorem nQ(d:Nat):val 4294967296 [d]=d:=by simp[val]
theorem sT{d:Nat}(h:d<4294967296):dR 4294967296 [d]:=fun x hx=>by simp at hx;omega
theorem qU(xs:List Nat):(trim xs).length≤xs.length:=by rw[iX];simp;omega
theorem pM{xs:List Nat}(h:dR 4294967296 xs):(digs 4294967296 (val 4294967296 xs)).length≤xs.length:=fG (by omega) (jY h)
theorem Cg{xs:List Nat}{d:Nat}(h:dR 4294967296 xs)(hd:d<4294967296):(digs 4294967296 (val 4294967296 xs*d)).length≤xs.length+1:=by
 refine fG (by omega) ?_;rw[el];exact Nat.mul_lt_mul'' (jY h) hd
def laid(os:List Nat)(off n m:Nat):List Nat:=os.take off++(digs 4294967296 m++bk (n-(digs 4294967296 m).length) 0)++os.drop (off+n)
theorem Mc{os:List Nat}{off n m:Nat}(h:off+n≤os.length)(hm:(digs 4294967296 m).length≤n):(laid os off n m).length=os.length:=by
 simp[laid];omega
theorem vV{os:List Nat}{off n m:Nat}(hd:dR 4294967296 os):dR 4294967296 (laid os off n m) :=
 ((hd.take _).append ((Bo m).append fun x hx=>by rw[di hx];decide)).append (hd.drop _)
theorem Wt{os:List Nat}{off n m:Nat}(h:off+n≤os.length)(hm:(digs 4294967296 m).length≤n) :
 val 4294967296 (laid os off n m)+4294967296^off*val 4294967296 ((os.drop off).take n)=val 4294967296 os+4294967296^off*m:=by
 have e1:val 4294967296 os=val 4294967296 (os.take off)+4294967296^off*(val 4294967296 ((os.drop off).take n)+4294967296^n*val 4294967296 (os.drop (off+n))):=by
  have e:os=os.take off++((os.drop off).take n++os.drop (off+n)):=by
   rw[←mr,fv,fv]
  conv=>lhs;rw[e]
  rw[fV,fV];simp only[bl,List.length_drop];rw[co (by omega),co (by omega)]
 have e2:val 4294967296 (laid os off n m)=val 4294967296 (os.take off)+4294967296^off*(m+4294967296^n*val 4294967296 (os.drop (off+n))):=by
  unfold laid;rw[et,fV,fV,fV,gT,eE];simp only[bl,bg,List.length_replicate];rw[co (by omega),show (digs 4294967296 m).length+(n-(digs 4294967296 m).length)=n by omega];simp
 rw[e1,e2]
 grind
theorem Tg{cs us vs:List aj}{off:Nat}(h:off+us.length≤cs.length)(hm:vs.length≤us.length):aW (aW cs off us) off vs=cs.take off++(vs++us.drop vs.length)++cs.drop (off+us.length):=by
 have hA:(cs.take off).length=off:=by simp;omega
 unfold aW;generalize cs.take off=A at *
 generalize cs.drop (off+us.length)=C at *
 subst hA;rw[et A us C,List.take_left' rfl,jc,ku (by omega),Nat.add_sub_cancel_left,List.drop_append_of_le_length hm];simp
theorem Th{os:List Nat}{off n m:Nat}(h:off+n≤os.length)(hm:(digs 4294967296 m).length≤n) :
 aW (aW (os.map lO) off (bk n (.int .u64 0))) off ((digs 4294967296 m).map lO)=(laid os off n m).map lO:=by
 rw[Tg (by simpa using h) (by simpa using hm)];simp[laid,List.drop_replicate,lO,List.map_take,List.map_drop]
end Go.Lith
namespace Go.Lith
theorem rZ{B:Nat}(xs:List Nat){k:Nat}(hk:k≤xs.length):val B xs=val B (xs.take k)+B^k*val B (xs.drop k):=by
 conv=>lhs;rw[←fv k xs]
 rw[fV,bl,co hk]
theorem Wu{P U V two top q:Nat}(hP:0<P)(hU:U<(two+1)*P)(hV:top*P≤V)(hq:q*V≤U)(ht:0<top):q≤two / top:=by
 rw[Nat.le_div_iff_mul_le ht];have h1:q*(top*P)≤q*V:=df _ hV;have h2:(q*top)*P<(two+1)*P:=by rw[lz];omega
 have:=jw h2;omega
theorem Wv{P U V two3 v2 q g:Nat}(hP:0<P)(hU:U<(two3+1)*P)(hV:v2*P≤V)(hq:q*V≤U)(h:two3<g*v2):q<g:=by
 rcases cn q g with hlt | hge
 · exact hlt
 · exfalso
   have h1:g*(v2*P)≤q*V:=iq hge hV;have h2:(g*v2)*P<(two3+1)*P:=by rw[lz];omega
   have:=jw h2;omega
theorem Md{P U V two3 v2 q g:Nat}(hU:two3*P≤U)(hV:V<(v2+1)*P)(hq:U<(q+1)*V)(h:g*v2≤two3)(hg:g≤v2):g≤q+1:=by
 rcases cn (q+1) g with hlt | hge
 · exfalso
   obtain⟨e,rfl⟩:∃e,g=e+1:=⟨g-1,by omega⟩
   have h1:(q+1)*V≤e*V:=ei _ (by omega);have h2:e*V≤e*((v2+1)*P):=df _ (Nat.le_of_lt hV);have h3:two3*P<(e*(v2+1))*P:=by rw[lz];omega
   have h4:=jw h3;rw[gk] at h4;rw[e_] at h;omega
 · exact hge
theorem He{U V q g:Nat}(hq:q*V≤U)(hq2:U<(q+1)*V)(h1:q≤g)(h2:g≤q+1):(U<V*g→g-1=q)∧(¬U<V*g→g=q):=by
 constructor
 · intro h
   rcases cn q g with hlt | hge
   · omega
   · have:V*g≤V*q:=df _ hge
     rw[dw V q] at this;omega
 · intro h
   rcases cn q g with hlt | hge
   · have:(q+1)*V≤g*V:=ei _ hlt
     rw[dw V g] at h;omega
   · omega
theorem Ga{os:List Nat}{off n m:Nat}(h:off+n≤os.length)(hm:(digs 4294967296 m).length≤n):val 4294967296 ((laid os off n m).drop off)=m+4294967296^n*val 4294967296 (os.drop (off+n)):=by
 have hA:(os.take off).length=off:=by simp;omega
 unfold laid;rw[et,jc,ku (by omega),hA,Nat.sub_self,List.drop_zero,List.nil_append,fV,fV,gT,eE];simp only[bg,List.length_replicate];rw[show (digs 4294967296 m).length+(n-(digs 4294967296 m).length)=n by omega];simp
theorem Hf{us vs:List Nat}{i:Nat}(hd:dR 4294967296 vs)(hi:i+vs.length+1≤us.length)(hH:val 4294967296 (us.drop (i+1))<val 4294967296 vs):val 4294967296 (us.drop (i+(vs.length+1)))=0:=by
 have h1:=jY hd;have h2:=rZ (B:=4294967296) (us.drop (i+1)) (k:=vs.length) (by simp;omega);rw[mr,show i+1+vs.length=i+(vs.length+1) by omega] at h2;rcases eg (val 4294967296 (us.drop (i+(vs.length+1)))) with h | h
 · exact h
 · have:=df (4294967296^vs.length) h
   omega
theorem yF{us vs:List Nat}{i:Nat}(hd:dR 4294967296 vs)(hi:i+vs.length+1≤us.length)(hH:val 4294967296 (us.drop (i+1))<val 4294967296 vs):val 4294967296 (us.drop i)=val 4294967296 ((us.drop i).take (vs.length+1)):=by
 have h2:=rZ (B:=4294967296) (us.drop i) (k:=vs.length+1) (by simp;omega);rw[mr,Hf hd hi hH,fk,fx] at h2;exact h2
theorem aaF{us vs:List Nat}{i:Nat}(hdu:dR 4294967296 us)(hi:i<us.length)(hH:val 4294967296 (us.drop (i+1))<val 4294967296 vs):val 4294967296 (us.drop i)<4294967296*val 4294967296 vs:=by
 have e:=kI (B:=4294967296) (xs:=us) (k:=i+1) (by omega) (by simpa using hi);simp only[fe] at e;have:=hdu us[i] (dl hi);omega
theorem Ww{us:List Nat}{j n:Nat}(hdu:dR 4294967296 us)(hn:2≤n)(h0:j+n<us.length) :
 val 4294967296 ((us.drop j).take (n+1))=(us[j+n]*4294967296+us[j+n-1])*4294967296^(n-1)+us[j+n-2]*4294967296^(n-2)+val 4294967296 ((us.drop j).take (n-2))∧val 4294967296 ((us.drop j).take (n-2))<4294967296^(n-2):=by
 have hL:(us.drop j).length=us.length-j:=by simp
 have e1:=dK (B:=4294967296) (xs:=us.drop j) (i:=n) (by omega);have e2:=dK (B:=4294967296) (xs:=us.drop j) (i:=n-1) (by omega);have e3:=dK (B:=4294967296) (xs:=us.drop j) (i:=n-2) (by omega);rw[show n-1+1=n by omega] at e2;rw[show n-2+1=n-1 by omega] at e3;simp only[List.getElem_drop] at e1 e2 e3;have x2:us[j+(n-1)]=us[j+n-1]:=getElem_congr rfl (by omega) _;have x3:us[j+(n-2)]=us[j+n-2]:=getElem_congr rfl (by omega) _;rw[x2] at e2;rw[x3] at e3;have hp:(4294967296:Nat)^n=4294967296*4294967296^(n-1):=by rw[←ky];congr 1;omega
 have hl:=jY ((hdu.drop j).take (n-2));rw[bl,co (by omega)] at hl;refine⟨?_,hl⟩;rw[e1,e2,e3,hp]
 grind
theorem qV{a b:Nat}:Jl a b<0↔a<b:=by
 have:=@Wq a b;simpa using this
theorem iQ.self{w:aw}{A:Option Addr}{n c:Nat}{xs:List Nat}(h:eQ w A n c xs)(t:gN xs):iQ (val 4294967296 xs) (.slice A n c) w:=by
 have:=iQ.of_trim h rfl;rw[t] at this;rw[h.eq];exact this
theorem iQ.zero(w:aw):iQ 0 (.slice none 0 0) w:=⟨none,0,rfl,eQ.nil w⟩
theorem uX{xs:List Nat}(t:gN xs)(h:0<xs.length):0<xs[xs.length-1]:=by
 rcases eg (xs[xs.length-1]) with h0 | h0
 · exfalso
   have e:=Aj (xs:=xs) (k:=xs.length) h (by omega);rw[c_,h0] at e;have t2:trim xs=trim (xs.take (xs.length-1)):=by conv=>lhs;rw[e,nP]
   have t3:(trim xs).length=xs.length:=by rw[t]
   have t4:=qU (xs.take (xs.length-1));rw[←t2,t3] at t4;simp at t4;omega
 · exact h0
theorem qW{w:aw}{g:Nat}{os:List Nat}(h:gG w g (os.map lO) 101)(hd:dR 4294967296 os)(hl:os.length≤17592186044416):eQ w (some ⟨g,0,none⟩) (trim os).length os.length (trim os):=by
 have:=(h.nat hd rfl hl).take (trim os).length;rwa [←iX] at this
theorem Jo{ys:List Nat}(h:0<ys.length):val 4294967296 ys=val 4294967296 (ys.take (ys.length-1))+4294967296^(ys.length-1)*ys[ys.length-1]:=by
 have e:=dK (B:=4294967296) (xs:=ys) (i:=ys.length-1) (by omega);rw[show ys.length-1+1=ys.length by omega,c_] at e;exact e
theorem Ti{vs ys:List Nat}{sh:Nat}(hdv:dR 4294967296 vs)(hvv:val 4294967296 vs=2^sh*val 4294967296 ys)(hdy:dR 4294967296 ys)(h:0<ys.length)(hsh:ys[ys.length-1]*2^sh<4294967296)(ht:0<ys[ys.length-1])(hs:sh≤31):(trim vs).length=ys.length:=by
 have e:trim vs=digs 4294967296 (2^sh*val 4294967296 ys):=lA (by omega) hdv hvv;have hv:=Jo h;have hl:=jY (hdy.take (ys.length-1));rw[bl,co (by omega)] at hl;have hp:0<2^sh:=iv (by omega);have hsp:=sS (n:=sh) (by omega);have hB:(4294967296:Nat)^ys.length=4294967296^(ys.length-1)*4294967296:=by rw[←el];congr 1;omega
 have hQ:(trim vs).length<ys.length→(4294967296:Nat)^(trim vs).length≤4294967296^(ys.length-1):=fun h=>eh (by omega) (by omega);generalize 4294967296^(ys.length-1)=Q at *
 generalize ys[ys.length-1]=t at *
 generalize val 4294967296 (ys.take (ys.length-1))=l at *
 have h1:t+1≤2^(32-sh):=by
  rw[hsp,dw] at hsh;exact kf hsh
 have h2:2^sh*(t+1)≤4294967296:=by rw[hsp];exact df _ h1
 have h3:val 4294967296 ys<Q*(t+1):=by rw[hv,gk];omega
 have h4:2^sh*val 4294967296 ys<4294967296^ys.length:=by
  rw[hB]
  calc 2^sh*val 4294967296 ys<2^sh*(Q*(t+1)):=Nat.mul_lt_mul_of_pos_left h3 hp
   _=Q*(2^sh*(t+1)):=by grind
   _≤Q*4294967296:=df _ h2
 have h5:=fG (by omega) h4;rw[←e] at h5;rcases cn (trim vs).length ys.length with hlt | hge
 · exfalso
   have h6:=jY hdv.trim;rw[sP,hvv] at h6;have h7:=hQ hlt;have h8:Q*1≤Q*t:=df _ ht;have h9:1*val 4294967296 ys≤2^sh*val 4294967296 ys:=ei _ hp;omega
 · omega
theorem Tj{ys:List Nat}{sh:Nat}(h:0<ys.length)(h31:2147483648≤ys[ys.length-1]*2^sh):2147483648*4294967296^(ys.length-1)≤2^sh*val 4294967296 ys:=by
 rw[Jo h];generalize 4294967296^(ys.length-1)=Q at *
 generalize ys[ys.length-1]=t at *
 have h1:2147483648*Q≤t*2^sh*Q:=ei _ h31;rw[gk];have h2:2^sh*(Q*t)=t*2^sh*Q:=by grind
 rw[h2];exact ak h1 (Nat.le_add_left _ _)
theorem Wx{us xs:List Nat}{sh l V:Nat}(hdx:dR 4294967296 xs)(hlu:us.length=xs.length+1)(hvu:val 4294967296 us=2^sh*val 4294967296 xs)(hl:l≤xs.length)(h0:0<l)(hs:sh≤31)(hV:2147483648*4294967296^(l-1)≤V):val 4294967296 (us.drop (xs.length+1-l))<V:=by
 have e:=rZ (B:=4294967296) us (k:=xs.length+1-l) (by omega);have hx:=jY hdx;have hp:(4294967296:Nat)^xs.length=4294967296^(xs.length+1-l)*4294967296^(l-1):=by rw[←jh];congr 1;omega
 have hs2:2^sh≤2^31:=eh (by omega) hs;rcases cn (val 4294967296 (us.drop (xs.length+1-l))) V with h | h
 · exact h
 · exfalso
   generalize val 4294967296 (us.drop (xs.length+1-l))=D at *
   generalize val 4294967296 (us.take (xs.length+1-l))=T at *
   have h1:4294967296^(xs.length+1-l)*(2147483648*4294967296^(l-1))≤4294967296^(xs.length+1-l)*D:=df _ (ak hV h);have h2:4294967296^(xs.length+1-l)*(2147483648*4294967296^(l-1))=2147483648*4294967296^xs.length:=by rw[hp];grind
   have h3:2^sh*val 4294967296 xs≤2147483648*val 4294967296 xs:=ei _ hs2;generalize 4294967296^(xs.length+1-l)*D=Z at *
   rw[h2] at h1;generalize (4294967296:Nat)^xs.length=W' at *
   omega
theorem Wy{X Y p u q:Nat}(hp:0<p)(h:u+q*(p*Y)=p*X)(hu:u<p*Y):q=X / Y∧u / p=X%Y:=by
 have hY:0<Y:=by
  rcases eg Y with h0 | h0
  · subst h0;omega
  · exact h0
 have hd:p∣u:=by
  have h1:p∣u+q*(p*Y):=h▸Nat.dvd_mul_right p X;have h2:p∣q*(p*Y):=⟨q*Y,by grind⟩
  exact (Nat.dvd_add_iff_left h2).2 h1
 obtain⟨r,rfl⟩:=hd;have h3:p*(r+q*Y)=p*X:=by rw[←h];grind
 have h4:=Nat.eq_of_mul_eq_mul_left hp h3;have h5:=kf hu;rw[Nat.mul_div_cancel_left _ hp];have:=wX (a:=X) (q:=q) (r:=r) hY h5 (by rw[←h4];grind);exact this
theorem adk{vs:List Nat}(hd:dR 4294967296 vs)(h:2≤vs.length):val 4294967296 vs=(vs[vs.length-1]*4294967296+vs[vs.length-2])*4294967296^(vs.length-2)+val 4294967296 (vs.take (vs.length-2))∧val 4294967296 (vs.take (vs.length-2))<4294967296^(vs.length-2):=by
 have e1:=Jo (ys:=vs) (by omega);have e2:=dK (B:=4294967296) (xs:=vs) (i:=vs.length-2) (by omega);rw[show vs.length-2+1=vs.length-1 by omega] at e2;have hl:=jY (hd.take (vs.length-2));rw[bl,co (by omega)] at hl;refine⟨?_,hl⟩;have hp:(4294967296:Nat)^(vs.length-1)=4294967296*4294967296^(vs.length-2):=by rw[←ky];congr 1;omega
 rw[e1,e2,hp]
 grind
theorem Tk{us ds:List Nat}{i two top sec a3 U:Nat}(hdu:dR 4294967296 us)(hdd:dR 4294967296 ds)(h2:2≤ds.length)(hi:i+ds.length<us.length)(hH:val 4294967296 (us.drop (i+1))<val 4294967296 ds)
 (htwo:two=us[i+ds.length-1]+us[i+ds.length]*4294967296) (htop:top=ds[ds.length-1]) (hsec:sec=ds[ds.length-2]) (ha3:a3=us[i+ds.length-2]) (hU:U=val 4294967296 (us.drop i)) :
 ∃P,0<P∧U<(two+1)*(4294967296*P)∧top*(4294967296*P)≤val 4294967296 ds∧U<(two*4294967296+a3+1)*P∧(two*4294967296+a3)*P≤U∧(top*4294967296+sec)*P≤val 4294967296 ds∧val 4294967296 ds<(top*4294967296+sec+1)*P∧U<4294967296*val 4294967296 ds:=by
 obtain⟨hpt,hpl⟩:=Ww hdu h2 hi;obtain⟨hvt,hvl⟩:=adk hdd h2;have hUB:=aaF hdu (by omega) hH;rw[←yF hdd (by omega) hH,←hU] at hpt;rw[←hU] at hUB;have hp:(4294967296:Nat)^(ds.length-1)=4294967296*4294967296^(ds.length-2):=by rw[←ky];congr 1;omega
 have ha:us[i+ds.length-2]<4294967296:=hdu _ (dl _);rw[hp,←ha3] at hpt;rw[←ha3] at ha;rw[←htop,←hsec] at hvt;rw[Nat.add_comm (us[i+ds.length]*4294967296),←htwo] at hpt;refine⟨4294967296^(ds.length-2),iv (by decide),?_⟩;generalize (4294967296:Nat)^(ds.length-2)=P at *
 generalize val 4294967296 ((us.drop i).take (ds.length-2))=lu at *
 generalize val 4294967296 (ds.take (ds.length-2))=ld at *
 generalize val 4294967296 ds=V at *
 have h3:(a3+1)*P≤4294967296*P:=ei _ ha;have e1:(two*4294967296+a3)*P=two*(4294967296*P)+a3*P:=by grind
 have e2:(top*4294967296+sec)*P=top*(4294967296*P)+sec*P:=by grind
 rw[e_,gl] at h3;refine⟨?_,?_,?_,?_,?_,?_,hUB⟩
 · rw[e_,gl];omega
 · rw[hvt,e2];omega
 · rw[e_,e1];omega
 · rw[e1];omega
 · rw[hvt];omega
 · rw[hvt,e_ (top*4294967296+sec)];omega
theorem aaG{a b:Nat}(h:a*b<18446744073709551616):IntKind.u64.wrap ((a:Int)*(b:Int))=((a*b:Nat):Int):=by
 rw[←ii];generalize a*b=c at *
 exact fX (by omega) (by omega)
theorem Pa{g r top sec two a3:Nat}(h:g*top+r=two)(hx:a3+r*4294967296<g*sec):two*4294967296+a3<g*(top*4294967296+sec):=by
 subst h;have:g*(top*4294967296+sec)=g*top*4294967296+g*sec:=by grind
 rw[this,e_];omega
theorem Dn{g r top sec two a3:Nat}(h:g*top+r=two)(hx:g*sec≤a3+r*4294967296):g*(top*4294967296+sec)≤two*4294967296+a3:=by
 subst h;have:g*(top*4294967296+sec)=g*top*4294967296+g*sec:=by grind
 rw[this,e_];omega
theorem Wz{g s r a:Nat}(hg:g<4294967296)(hs:s<4294967296)(hr:4294967296≤r):g*s≤a+r*4294967296:=by
 have h1:g*s≤4294967296*4294967296:=iq (by omega) (by omega);omega
theorem vW{g q cap:Nat}(h:¬cap=q):(if cap=q then some (⟨g,0,none⟩:Addr) else (some (⟨g,0,none⟩:Addr)).map (·.add (q*1)))=some ⟨g,q,none⟩:=by
 rw[if_neg h];simp[gA]
theorem vX{us qs ds:List Nat}{i q U S:Nat}(hdd:dR 4294967296 ds)(hdu:dR 4294967296 us)(hi:i+ds.length<us.length)(hH:val 4294967296 (us.drop (i+1))<val 4294967296 ds)(hU:U=val 4294967296 (us.drop i))(hq1:q*val 4294967296 ds≤U)(hq2:U<(q+1)*val 4294967296 ds)(hI:val 4294967296 us+val 4294967296 qs*val 4294967296 ds=S)(hz:qs.take (i+1)=bk (i+1) 0)(hiq:i<qs.length) :
 val 4294967296 (laid us i (ds.length+1) (val 4294967296 ((us.drop i).take (ds.length+1))-val 4294967296 ds*q))+val 4294967296 (qs.set i q)*val 4294967296 ds=S∧val 4294967296 ((laid us i (ds.length+1) (val 4294967296 ((us.drop i).take (ds.length+1))-val 4294967296 ds*q)).drop i)<val 4294967296 ds∧(qs.set i q).take i=bk i 0∧(laid us i (ds.length+1) (val 4294967296 ((us.drop i).take (ds.length+1))-val 4294967296 ds*q)).length=us.length:=by
 have hp:=yF hdd (by omega) hH;rw[←hp,←hU];have hm:(digs 4294967296 (U-val 4294967296 ds*q)).length≤ds.length+1:=by
  refine fG (by omega) (d_ (Nat.sub_le _ _) ?_);have h:=jY ((hdu.drop i).take (ds.length+1));rw[bl,co (by simp;omega),←hp,←hU] at h;exact h
 have hqc:q*val 4294967296 ds=val 4294967296 ds*q:=dw _ _;refine⟨?_,?_,?_,Mc (by omega) hm⟩
 · have e1:=Wt (os:=us) (off:=i) (n:=ds.length+1) (m:=U-val 4294967296 ds*q) (by omega) hm
   rw[←hp,←hU] at e1;have e2:=lR (B:=4294967296) (os:=qs) (j:=i) (d:=q) hiq;have e3:qs[i]=0:=by
    have h:=congrArg (fun l=>l[i]?) hz;simp only[dz] at h;rw[if_pos (by omega),ao hiq,List.getElem?_replicate,if_pos (by omega)] at h;exact Option.some.inj h
   rw[e3,fk,fx] at e2;rw[e2,←hI];obtain⟨r,hr⟩:∃r,U=val 4294967296 ds*q+r:=⟨U-val 4294967296 ds*q,by omega⟩
   rw[hr] at e1 ⊢;rw[Nat.add_sub_cancel_left] at e1 ⊢;generalize val 4294967296 (laid us i (ds.length+1) r)=L at *
   generalize (4294967296:Nat)^i=Q at *
   generalize val 4294967296 ds=V at *
   generalize val 4294967296 us=W' at *
   generalize val 4294967296 qs=Z at *
   grind
 · rw[Ga (by omega) hm,Hf hdd (by omega) hH,fk,fx]
   rw[e_,gl] at hq2;omega
 · rw[List.take_set_of_le (bi i)]
   have h:=congrArg (List.take i) hz;rw[List.take_take,co (by omega),List.take_replicate,co (by omega)] at h;exact h
end Go.Lith
namespace Go.Lith
theorem Jp{r:Nat}(h:r≤4):(4294967296:Nat)=256^r*256^(4-r):=by rw[←jh,show r+(4-r)=4 by omega]
theorem Do(r:Nat):(256:Nat)^r=2^(8*r):=by rw[show 256=2^8 from rfl,←kz]
theorem Xa{x b r:Nat}(hr:r<4)(hx:x<4294967296)(hd:256^(r+1)∣x)(hb:b<256):x+b*256^r<4294967296:=by
 obtain⟨c,rfl⟩:=hd;have e:=Jp (r:=r+1) (by omega);rw[e] at hx ⊢;have h1:=kf hx;have h2:256^(r+1)*(c+1)≤256^(r+1)*256^(4-(r+1)):=df _ h1;rw[gk,jg] at h2;have h3:(b+1)*256^r≤256*256^r:=ei _ hb;have h4:(256:Nat)^(r+1)=256*256^r:=ky;have h5:0<(256:Nat)^r:=iv (by omega);rw[e_,gl] at h3;generalize 256^(r+1)*256^(4-(r+1))=Z at *
 generalize 256^(r+1)*c=Y at *
 omega
theorem Tl{os bs:List Nat}{p j r:Nat}(hp:p<bs.length)(hpj:p=4*j+r)(hr:r<4)(hj:j<os.length)(hd:dR 4294967296 os)(hb:dR 256 bs)(hdv:∀(i:Nat) (h:i<os.length),256^(p+1-4*i)∣os[i])(hv:val 4294967296 os=256^(p+1)*val 256 (bs.drop (p+1))) :
 os[j]+bs[p]*256^r<4294967296∧256^(r+1)∣os[j]∧(∀(i:Nat) (h:i<(os.set j (os[j]+bs[p]*256^r)).length),256^(p-4*i)∣(os.set j (os[j]+bs[p]*256^r))[i])∧val 4294967296 (os.set j (os[j]+bs[p]*256^r))=256^p*val 256 (bs.drop p):=by
 have h1:=hdv j hj;rw[show p+1-4*j=r+1 by omega] at h1;have hx:=hd _ (dl hj);have hby:=hb _ (dl hp);refine⟨Xa hr hx h1 hby,h1,?_,?_⟩
 · intro i h
   by_cases e:i=j
   · subst e
     rw[gu,show p-4*i=r by omega];exact Nat.dvd_add (Nat.dvd_trans (Nat.pow_dvd_pow 256 (by omega)) h1) (Nat.dvd_mul_left _ _)
   · rw[i_ (by omega)]
     exact Nat.dvd_trans (Nat.pow_dvd_pow 256 (by omega)) (hdv i (by simpa using h))
 · have e1:=lR (B:=4294967296) (os:=os) (j:=j) (d:=os[j]+bs[p]*256^r) hj
   have e2:=kI (B:=256) (xs:=bs) (k:=p+1) (by omega) (by simpa using hp);simp only[fe] at e2;have e3:(4294967296:Nat)^j*256^r=256^p:=by
    rw[show (4294967296:Nat)=256^4 from rfl,←kz,←jh,hpj]
   rw[e2,←e3];rw[el,←e3] at hv;generalize (4294967296:Nat)^j=Q at *
   generalize (256:Nat)^r=R at *
   generalize val 256 (bs.drop (p+1))=D at *
   generalize val 4294967296 (os.set j (os[j]+bs[p]*R))=L at *
   generalize val 4294967296 os=M at *
   subst hv
   grind
end Go.Lith
namespace Go.Lith
def mX(s:ByteArray):List Nat:=s.data.toList.reverse.map ib
def aaH(s:ByteArray):Nat:=val 256 (mX s)
theorem uY(s:ByteArray):s.data.toList.length=s.size:=Array.length_toList
theorem sA(s:ByteArray):(mX s).length=s.size:=by simp only[mX,List.length_map,List.length_reverse,uY]
theorem Bp(s:ByteArray):dR 256 (mX s):=fun x hx=>by
 obtain⟨b,_,rfl⟩:=List.mem_map.1 hx;exact b.toNat_lt
theorem wL(s:ByteArray)(i:Nat):s[i]? = s.data.toList[i]?:=by
 by_cases h:i<s.size
 · rw[getElem?_pos s i h,ao (by rw[uY];omega)]
   rfl
 · rw[getElem?_neg s i h,bj (by rw[uY];omega)]
theorem wY{s:ByteArray}{i p:Nat}(h:p+1+i=s.size):∃b,s[i]? = some b∧∃hp:p<(mX s).length,(mX s)[p]=b.toNat:=by
 have hs:=uY s;have hi:i<s.data.toList.length:=by omega
 refine⟨s.data.toList[i],by rw[wL];exact ao hi,by rw[sA];omega,?_⟩;simp only[mX,List.getElem_map,List.getElem_reverse]
 congr 2
 omega
theorem fT(n:Int):aaH (dQ n)=n.natAbs:=by
 have e:mX (dQ n)=digs 256 n.natAbs:=by
  simp only[mX,dQ,tV,List.reverse_reverse,←List.map_reverse,List.map_map];have hd:dR 256 (digs 256 n.natAbs):=sQ (by omega) _;have:∀l:List Nat,dR 256 l→l.map (ib∘cv)=l:=by
   intro l hl;refine (List.map_congr_left fun x hx=>?_).trans (List.map_id l);simp only[Function.comp_apply,id_eq,fz];exact gy (hl x hx)
  exact this _ hd
 rw[aaH,e,qS (by omega)]
theorem mP{m n:Nat}(h:m<9223372036854775808):IntKind.i64.wrap ((m:Int).tdiv (n:Int))=((m / n:Nat):Int):=by
 rw[←jv];have:m / n≤m:=fy m n;exact aO (by have:=Int.natCast_nonneg (m / n);omega) (by omega)
theorem Xb{xs:List Nat}{n:Nat}(h:xs.length≤n):val 256 (xs.drop n)=0:=by rw[List.drop_of_length_le h];rfl
end Go.Lith
namespace Go.Lith
def mA(l:List UInt8):ByteArray:=⟨l.toArray⟩
theorem nR(l:List UInt8):(mA l).data.toList=l:=by simp[mA]
theorem Tm{l k:List UInt8}(h:mA l=mA k):l=k:=by rw[←nR l,h,nR]
theorem wZ(l:List UInt8):(mA l).size=l.length:=by rw[←uY,nR]
theorem Tn(l:List UInt8)(i:Nat):(mA l)[i]? = l[i]?:=by rw[wL,nR]
theorem Pb(l:List UInt8)(n:Nat):(mA l).extract n (mA l).size=mA (l.drop n):=by
 apply ByteArray.ext;rw[ByteArray.data_extract];apply mx;rw[Array.toList_extract,nR,wZ];simp only[mA,List.extract_eq_take_drop,ik];exact bp (by simp)
theorem Me(l:List UInt8):(mA l=⟨#[]⟩)=(l=[]):=by
 apply propext;constructor
 · intro h
   exact Tm (k:=[]) h
 · rintro rfl;rfl
def jH(l:List UInt8):List UInt8:=l.dropWhile (· == 0)
theorem Pd{l:List UInt8}{b:UInt8}(h:l[0]? = some b)(hb:b.toNat=0):jH (l.drop 1)=jH l:=by
 cases l with
 | nil=>cases h
 | cons c l =>
  simp at h;subst h;have:c=0:=km.1 hb;subst this;simp[jH]
theorem Pe{l:List UInt8}{b:UInt8}(h:l[0]? = some b)(hb:¬b.toNat=0):jH l=l:=by
 cases l with
 | nil=>rfl
 | cons c l =>
  simp at h;subst h;have:¬c=0:=fun e=>hb (by rw[e];rfl);simp[jH,this]
theorem To:jH []=[]:=rfl
end Go.Lith
namespace Go.Lith
open Go.RowKit
section
variable {P:cj} {ds:List dp} {l:List aj} {x y z0:bm} {T T' ty:be}
abbrev u8v(b:UInt8):aj:=.int .u8 (b.toNat:Int)
theorem Dp{w:aw}{base n:Nat}{E:be}{v:aj}{bs:List UInt8}(hs:P.underlying T=some (.slice E))(he:P.underlying E=some (.int .u8))(hd:P.underlying T'=some .string)(hx:ev l x=v)(hown:kR w base E 1 v n (bs.map u8v)) :
 Dc P l (.convert T T' x) ty (.string (mA bs)) w:=fun o ho _=>by
 have hn:bs.length=n:=by have:=hown.1;simpa using this
 rcases hown.row with ⟨rfl,rfl,h⟩ | ⟨g,cap,rfl,_,_,_,_,hr⟩
 · obtain rfl:bs=[]:=by simpa using h
   simp only[cm,ho,dV,hx];rw[Sem.run_bind,run_convert_bytes_nil w T E hs he 0 0 T' hd];rfl
 · subst hn
   have:=run_convert_bytes_back (P:=P) w T T' E ⟨g,0,none⟩ cap bs hs he hd (fun j hj=>hr j _ (by simp[hj]));simp only[cm,ho,dV,hx];rw[Sem.run_bind,this];rfl
end
structure Xc(w:aw)(D:Nat):Prop where
 h:w.heap[D]? = some (.deferred (some []))
theorem Xc.ext{w w':aw}{D:Nat}(h:Xc w D)(hE:dU w w'):Xc w' D:=⟨hE.block h.h⟩
theorem Xc.ne{w:aw}{D g:Nat}{cs:List aj}{t:be}(h:Xc w D)(hB:gG w g cs t):D≠g:=fun e=>by
 subst e;have:=h.h;rw[hB] at this;cases this
theorem Xc.chg{w w':aw}{D g:Nat}(h:Xc w D)(hC:Qz w w' g)(hne:D≠g):Xc w' D:=⟨(hC.block D hne).trans h.h⟩
theorem gG.putD{w:aw}{D g:Nat}{cs:List aj}{t:be}(hB:gG w g cs t)(h:Xc w D){o:Obj}:gG (w.putObj D o) g cs t:=(World.putObj_heap_other (Ne.symm (h.ne hB))).trans hB
theorem dU.putD{w0 w:aw}{D:Nat}(hX:dU w0 w)(hD:w0.heap.size≤D){o:Obj}:dU w0 (w.putObj D o) :=
 ⟨hX.os,hX.tape,hX.output,by rw[World.putObj_size];exact hX.size,fun k hk=>(World.putObj_heap_other (by omega)).trans (Below.block hX k hk)⟩
theorem afF{P:cj}{l:List aj}{n:Nat}{fn:Func}{R:Ending→aw→Prop}{D:Nat}{w:aw}(hK:Xc w D)(h:bodyPost P fn R .ret (Fr l) (w.putObj D (.deferred none))) :
 bodyPostM Fence.wide n P fn R .ret (Fr l [{ target:=.collected D,args:=#[] }]) w:=by
 refine⟨by simp,.inl ⟨D,_,rfl,run_takeDeferred hK.h,?_⟩⟩;obtain⟨_,v,hv,hR⟩:=h;exact⟨v,hv,hR⟩
end Go.Lith
namespace Go.Lith
def wb(x:Nat):List UInt8:=[cv (x / 16777216),cv (x / 65536),cv (x / 256),cv x]
def Mf(l:List (Nat × Nat)):List UInt8:=l.flatMap fun x=>wb x.2
theorem Xd(l:List (Nat × Nat))(x:Nat × Nat):Mf (l++[x])=Mf l++wb x.2:=by simp[Mf]
theorem Dq(l:List (Nat × Nat)):(Mf l).length=4*l.length:=by
 induction l with
 | nil=>rfl
 | cons x l ih=>rw[Mf,List.flatMap_cons,bg];rw[Mf] at ih;rw[ih];simp[wb];omega
def Dr(neg:Bool)(n:Nat):Int:=if neg then -(n:Int) else n
theorem xA(neg:Bool)(n:Nat):(Dr neg n).natAbs=n:=by cases neg <;> simp[Dr]
theorem Jq(neg:Bool)(n:Nat):cY (Dr neg n)=(neg&&decide (n≠0)):=by
 cases neg
 · simp[Dr,cY]
 · rcases eg n with h | h
   · subst h;rfl
   · have h2:n≠0:=by omega
     simp[Dr,cY,h,h2]
theorem Gb(ys:List Nat)(h:dR 4294967296 ys):val 256 (((ys.reverse.flatMap wb).reverse).map ib)=val 4294967296 ys∧dR 256 (((ys.reverse.flatMap wb).reverse).map ib):=by
 induction ys with
 | nil=>exact⟨rfl,fun _ h=>by cases h⟩
 | cons y ys ih =>
  have hy:=h y (by simp);obtain⟨i1,i2⟩:=ih (fun x hx=>h x (by simp[hx]));have e:(((y::ys).reverse.flatMap wb).reverse).map ib=[y%256,y / 256%256,y / 65536%256,y / 16777216%256]++(((ys.reverse.flatMap wb).reverse).map ib):=by
   simp[List.flatMap_append,wb,fz]
  rw[e];refine⟨?_,?_⟩
  · rw[fV,i1]
    simp only[val,ci,List.length_nil];omega
  · refine dR.append ?_ i2
    intro x hx;simp at hx;omega
theorem Br{l:List UInt8}:jH l=((trim ((l.reverse).map ib)).reverse).map cv:=by
 induction l with
 | nil=>rfl
 | cons b l ih =>
  have hk:∀k:List Nat,∀x:Nat,trim (k++[x])=if x=0 then trim k else k++[x]:=fun k x=>by
   split
   · rename_i h;subst h;exact nP k
   · rename_i h;exact rY h k
  rw[List.reverse_cons,List.map_append,dh,List.map_nil,hk];by_cases hb:b=0
  · subst hb
    rw[if_pos (show ib 0=0 from rfl),←ih];simp[jH]
  · have hb':¬b.toNat=0:=fun e=>hb (km.1 e)
    rw[if_neg hb'];simp[jH,hb,Function.comp_def]
theorem Pf{ys:List Nat}(h:dR 4294967296 ys)(neg:Bool):mA (jH (ys.reverse.flatMap wb))=dQ (Dr neg (val 4294967296 ys)):=by
 obtain⟨h1,h2⟩:=Gb ys h;rw[Br,lA (by omega) h2 h1,dQ,xA,tV];rfl
theorem Ds{neg:Bool}{n:Nat}:(dQ (Dr neg n)=⟨#[]⟩)↔n=0:=by
 constructor
 · intro h
   have:=Gy (Dr neg n);rw[h,xA] at this;have h0:digs 256 n=[]:=bz this.symm;exact (nB (by omega)).1 h0
 · rintro rfl
   cases neg <;> rfl
end Go.Lith
namespace Go.Lith
class Bw(k:outParam Nat)(n:Int):Prop where
 h:Bd k n
instance {a b:Nat}{m n:Int}[x:Bw a m][y:Bw b n]:Bw (max a b+1) (m+n):=⟨x.h.add y.h⟩
instance {a b:Nat}{m n:Int}[x:Bw a m][y:Bw b n]:Bw (max a b+1) (m-n):=⟨x.h.sub y.h⟩
instance {a b:Nat}{m n:Int}[x:Bw a m][y:Bw b n]:Bw (a+b) (m*n):=⟨x.h.mul y.h⟩
instance:Bw 1 0:=⟨jT 1⟩
theorem Ak{n:Int}(h:cY n=true):n<0:=of_decide_eq_true h
theorem xB{n:Int}(h:cY n=false):0≤n:=mw.1 (of_decide_eq_false h)
theorem natAbs_neg{n:Int}(h:cY n=true):(n.natAbs:Int) = -n:=by have:=Ak h;omega
theorem iE{n:Int}(h:cY n=false):(n.natAbs:Int)=n:=by have:=xB h;omega
theorem sU(n:Nat):Dr true n = -(n:Int):=rfl
theorem nF(n:Nat):Dr false n=(n:Int):=rfl
theorem yG(a:Int):Dr (cY a) a.natAbs=a:=by
 cases h:cY a
 · rw[nF,iE h]
 · rw[sU,natAbs_neg h];omega
theorem Re(a:Int):Dr (!cY a) a.natAbs = -a:=by
 cases h:cY a
 · rw[Bool.not_false,sU,iE h]
 · rw[Bool.not_true,nF,natAbs_neg h]
theorem Rf{a b:Int}(h:cY a=cY b):Dr (cY a) (a.natAbs+b.natAbs)=a+b:=by
 cases ha:cY a <;> rw[ha] at h
 · have h1:=iE ha;have h2:=iE h.symm;rw[nF];omega
 · have h1:=natAbs_neg ha;have h2:=natAbs_neg h.symm;rw[sU];omega
theorem Xe{a b:Int}(h:¬cY a=cY b)(hl:a.natAbs<b.natAbs):Dr (cY b) (b.natAbs-a.natAbs)=a+b:=by
 cases ha:cY a <;> cases hb:cY b <;> rw[ha,hb] at h
 · exact absurd rfl h
 · have h1:=iE ha;have h2:=natAbs_neg hb;rw[sU];omega
 · have h1:=natAbs_neg ha;have h2:=iE hb;rw[nF];omega
 · exact absurd rfl h
theorem Xf{a b:Int}(h:¬cY a=cY b)(hl:b.natAbs≤a.natAbs):Dr (cY a) (a.natAbs-b.natAbs)=a+b:=by
 cases ha:cY a <;> cases hb:cY b <;> rw[ha,hb] at h
 · exact absurd rfl h
 · have h1:=iE ha;have h2:=natAbs_neg hb;rw[nF];omega
 · have h1:=natAbs_neg ha;have h2:=iE hb;rw[sU];omega
 · exact absurd rfl h
theorem Rg{a b:Int}:Dr (decide (¬cY a=cY b)) (a.natAbs*b.natAbs)=a*b:=by
 cases ha:cY a <;> cases hb:cY b
 · have h1:=iE ha;have h2:=iE hb
   show ((a.natAbs*b.natAbs:Nat):Int)=_
   rw[ii,h1,h2]
 · have h1:=iE ha;have h2:=natAbs_neg hb
   show -((a.natAbs*b.natAbs:Nat):Int)=_
   rw[ii,h1,h2,Int.mul_neg,jx]
 · have h1:=natAbs_neg ha;have h2:=iE hb
   show -((a.natAbs*b.natAbs:Nat):Int)=_
   rw[ii,h1,h2,Int.neg_mul,jx]
 · have h1:=natAbs_neg ha;have h2:=natAbs_neg hb
   show ((a.natAbs*b.natAbs:Nat):Int)=_
   rw[ii,h1,h2,Int.neg_mul_neg]
theorem Rh{a b:Int}:Dr (decide (¬cY a=cY b)) (a.natAbs / b.natAbs)=a.tdiv b:=by
 cases ha:cY a <;> cases hb:cY b
 · have h1:=iE ha;have h2:=iE hb
   show ((a.natAbs / b.natAbs:Nat):Int)=_
   rw[jv,h1,h2]
 · have h1:=iE ha;have h2:=natAbs_neg hb
   show -((a.natAbs / b.natAbs:Nat):Int)=_
   rw[jv,h1,h2,me,jx]
 · have h1:=natAbs_neg ha;have h2:=iE hb
   show -((a.natAbs / b.natAbs:Nat):Int)=_
   rw[jv,h1,h2,mf,jx]
 · have h1:=natAbs_neg ha;have h2:=natAbs_neg hb
   show ((a.natAbs / b.natAbs:Nat):Int)=_
   rw[jv,h1,h2,mf,me,jx]
theorem Ri{a b:Int}:Dr (cY a) (a.natAbs%b.natAbs)=a.tmod b:=by
 have hb:a.tmod b=a.tmod (b.natAbs:Int):=by
  rcases Int.natAbs_eq b with h | h
  · rw[←h]
  · have:(b.natAbs:Int) = -b:=by omega
    rw[this,Int.tmod_neg]
 rw[hb];cases ha:cY a
 · have h1:=iE ha
   rw[nF,mp,h1]
 · have h1:=natAbs_neg ha
   rw[sU,mp,h1,Int.neg_tmod,jx]
def dS(n:Int):Int:=if n<0 then -1 else if 0<n then 1 else 0
theorem nG{n:Int}(h:n<0):dS n = -1:=by rw[dS,if_pos h]
theorem lX{n:Int}(h:0<n):dS n=1:=by rw[dS,if_neg (by omega),if_pos h]
theorem qX{k V:Nat}(h:V<2^k):(digs 4294967296 V).length≤k:=by
 refine fG (by omega) (ai h ?_);rw[show (4294967296:Nat)=2^32 from rfl,←kz];exact eh (by omega) (by omega)
theorem fU{n:Int}(h:Bd 1000000 n):(dQ n).size≤1000000000000:=ak (Jk h) (by decide)
theorem Tp{k:Nat}{a b:Int}(ha:Bd k a)(hb:Bd k b):(digs 4294967296 (a.natAbs+b.natAbs)).length≤k+1:=qX (by unfold Bd at ha hb;rw[el];omega)
theorem qY{k:Nat}{n:Int}(h:Bd k n):(digs 4294967296 n.natAbs).length≤k:=qX h
theorem Jr{m n:Nat}(h:m≤n):(digs 4294967296 m).length≤(digs 4294967296 n).length:=by
 refine fG (by omega) (d_ h ?_);have:=jY (Bo n);rwa [eE] at this
theorem Js{a:Int}:(((digs 4294967296 a.natAbs).length:Int)=0)↔a=0:=by
 constructor
 · intro h
   have h0:digs 4294967296 a.natAbs=[]:=bz (by omega);have:=(nB (by omega)).1 h0;omega
 · rintro rfl;rfl
end Go.Lith
namespace Go.Lith
def kO(n:Int):Prop:=-9223372036854775808≤n∧n<9223372036854775808
theorem kO.bd{n:Int}(h:kO n):Bd 64 n:=Bd.of_i64 h.1 (by have:=h.2;omega)
theorem Xg{n:Int}(h:kO n)(h0:0≤n):IntKind.u64.wrap n=(n.natAbs:Int):=by
 rw[kH];have:=h.2;omega
theorem Rj{n:Int}(h:kO n)(h0:n<0):IntKind.u64.wrap n=((18446744073709551616-n.natAbs:Nat):Int):=by
 rw[kH];have:=h.1;omega
theorem Hg{m:Nat}(h:m≤9223372036854775808)(h0:0<m):IntKind.u64.wrap (0-((18446744073709551616-m:Nat):Int))=(m:Int):=by
 rw[kH];omega
theorem Hh{m:Nat}:val 4294967296 [m%4294967296,m / 4294967296]=m:=by simp[val];omega
theorem Dt{m:Nat}(h:m<18446744073709551616):dR 4294967296 [m%4294967296,m / 4294967296]:=fun x hx=>by simp at hx;omega
theorem kO.natAbs{n:Int}(h:kO n):n.natAbs≤9223372036854775808:=by have:=h.1;have:=h.2;omega
theorem Mg{X Y:Nat}:Nat.gcd Y (X%Y)=Nat.gcd X Y:=by rw[Nat.gcd_comm X Y,Nat.gcd_rec Y X,Nat.gcd_comm]
def Qc(n d:Int):Go.Value:=.agg #[.bool (cY n),.string (dQ n),.bool (cY d),.string (dQ d)]
def Q(q:Rat):Go.Value:=Qc q.num q.den
theorem Du{n d:Int}(h:d≠0):d.tdiv ((gb n d:Int)*dS d)=((am n d).den:Int)∧(gb n d:Int)*dS d≠0:=by
 have hg:(gb n d:Int)≠0:=by
  intro e;have:=Int.gcd_eq_zero_iff.1 (show gb n d=0 by omega);exact h this.2
 have hgd:(gb n d:Int)∣d:=Int.gcd_dvd_right ..;rw[Rat.den_divInt,if_neg h,Int.gcd_comm d n];obtain⟨c,hc⟩:=hgd;generalize (gb n d)=g at *
 rcases Int.lt_trichotomy d 0 with h0 | h0 | h0
 · rw[nG h0]
   refine⟨?_,by omega⟩;rw[show (g:Int) * -1 = -(g:Int) by omega,me,←mf];rw[Int.natCast_ediv,show (d.natAbs:Int) = -d by omega];exact fm (by omega)
 · exact absurd h0 h
 · rw[lX h0,Int.mul_one]
   refine⟨?_,hg⟩;rw[Int.natCast_ediv,show (d.natAbs:Int)=d by omega];exact fm (by omega)
theorem Dv{n d:Int}(h:d≠0):n.tdiv ((gb n d:Int)*dS d)=(am n d).num:=by
 rw[Rat.num_divInt,Int.gcd_comm d n];have hgn:(gb n d:Int)∣n:=Int.gcd_dvd_left ..;obtain⟨c,hc⟩:=hgn;have hg:(gb n d:Int)≠0:=by
  intro e;have:=Int.gcd_eq_zero_iff.1 (show gb n d=0 by omega);exact h this.2
 generalize (gb n d)=g at *
 subst hc;rcases Int.lt_trichotomy d 0 with h0 | h0 | h0
 · rw[nG h0,Int.sign_eq_neg_one_of_neg h0,show (g:Int) * -1 = -(g:Int) by omega,me,Int.mul_tdiv_cancel_left _ hg,Int.neg_one_mul,Int.neg_ediv_of_dvd (Int.dvd_mul_right ..),Int.mul_ediv_cancel_left _ hg]
 · exact absurd h0 h
 · rw[lX h0,Int.sign_eq_one_of_pos h0,Int.mul_one,Int.mul_tdiv_cancel_left _ hg,Int.one_mul,Int.mul_ediv_cancel_left _ hg]
theorem adl{n d:Int}(h:d≠0):(am n d).num.natAbs≤n.natAbs:=by
 rw[←Dv h,jp];exact fy ..
theorem adm{n d:Int}(h:d≠0):(am n d).den≤d.natAbs:=by
 have:=(Du (n:=n) h).1;have e:((am n d).den:Int).natAbs≤d.natAbs:=by rw[←this,jp];exact fy ..
 simpa using e
class Bq(k:outParam Nat)(q:Rat):Prop where
 n:Bd k q.num
 d:Bd k (q.den:Int)
theorem Bq.mk' {a b:Nat}{n d:Int}(x:Bd a n)(y:Bd b d)(h:d≠0):Bq (max a b) (am n d) :=
 ⟨(x.of_le (adl h)).mono (Nat.le_max_left ..),(y.of_le (by have:=adm (n:=n) h;simpa using this)).mono (Nat.le_max_right ..)⟩
def Jt(p q:Rat):Int:=dS (p.num*q.den-q.num*p.den)
theorem gP{p q:Rat}:Jt p q<0↔p<q:=by
 rw[Rat.lt_iff,Jt];generalize p.num*q.den=a;generalize q.num*p.den=b;simp only[dS];split
 · simp;omega
 · split <;> simp <;> omega
theorem nS{p q:Rat}:0<Jt p q↔q<p:=by
 rw[Rat.lt_iff,Jt];generalize p.num*q.den=a;generalize q.num*p.den=b;simp only[dS];split
 · simp;omega
 · split <;> simp <;> omega
end Go.Lith
namespace Go.Lith
open Go.RowKit
theorem kR.full{w:aw}{base g n:Nat}{E:be}{cs:List aj}(hB:gG w g cs E)(hb:base≤g)(hn:cs.length=n)(hl:n≤9223372036854775807):kR w base E 1 (.slice (some ⟨g,0,none⟩) n n) n cs:=by
 refine⟨by simpa using hn,.inr ⟨g,n,cs.toArray,rfl,hb,hB,bi _,hl,by simpa using hn,?_⟩⟩;simp[←hn]
theorem Dw{a b:Nat}:0≤Jl a b↔b≤a:=by
 unfold Jl;split
 · omega
 · split <;> omega
end Go.Lith
