/-
 Texts of one claim, laid together: Ext, Ops, Nat, Nat2, Ops2, Nat3, Upd, Nat4, Nat5, Nat6, Held, Eq, Nat7, Nat8, Ops3, Nat9, Nat10, Nat11, Nat12, Geo, Tree, Fresh, Fresh2, Ops4, Geo2, Geo3, Geo4, Geo5, Own, Al, Mem, Grow, Pts, Guard, Geo6, Open, Surf, Surf2, Lat, Chk.
-/
import Derived.WalkKit
import Derived.StillTail
import Derived.Deep.Quiet
import Derived.BigQuiet
import Derived.Laws.Rows
import Derived.Laws.IdiomCopy
import Derived.Laws.CopyRow
import Derived.OrdersHeld
import Derived.Laws.StructEq
import Derived.ChangeKeysEq
import Derived.Laws.IdiomStrings
import Derived.Laws.BytesArg
import Derived.RangeFuncBox
import Derived.RangeFuncLeaves
import Derived.LoopN
import Derived.Sort.Grow
import Derived.Deep.Draws
import Derived.OpenShut
import Derived.Lib.SmallJoins
import Derived.Deep.Slices
open Int renaming toNat_natCast->ai,fdiv_eq_ediv_of_nonneg->jc,natCast_mul->me,tdiv_eq_ediv_of_nonneg->m_,tmod_eq_emod_of_nonneg->pd,le_total->p_,neg_neg->ra,not_lt->rz
open Nat renaming zero_add->aj,le_trans->ax,le_refl->ba,zero_le->bu,lt_of_lt_of_le->cj,lt_or_ge->d_,mul_one->eo,min_eq_left->ep,add_sub_cancel->fb,eq_zero_or_pos->fm,pow_le_pow_right->fv,mul_le_mul_left->f_,pow_succ->gn,mul_le_mul_right->gz,lt_of_le_of_lt->ig,add_mul->ik,mul_comm->jb,mul_le_mul->ji,add_zero->jk,mul_zero->jm,div_lt_iff_lt_mul->jy,mod_eq_of_lt->kd,mod_lt->kj,mul_add->kx,pow_pos->ky,one_mul->kz,pow_add->lq,div_le_self->mf,add_comm->mo,lt_of_mul_lt_mul_right->my,div_add_mod->ov,lt_trichotomy->oy,le_sub_one_of_lt->pb,lt_of_mul_lt_mul_left->pm,add_assoc->qk,pow_succ'->qm,pow_mul->qo,mul_assoc->rd,le_antisymm->rl
open Go renaming Value->ak,World->an,wpList->bf,TypeId->bh,Program->cg,run_underlying->cq,Operand->cw,wpQuiet->M,execOp->N,Deferred->eh
open List renaming getElem?_eq_getElem->ap,mem_cons->av,set_cons_succ->aw,set_cons_zero->ay,getElem?_eq_some_iff->az,take_of_length_le->a_,length_cons->be,length_append->bg,flatMap_append->bi,map_cons->bm,mem_of_getElem?->bn,mem_cons_self->bq,mem_cons_of_mem->br,mem_append->bv,not_mem_nil->bw,replicate->bx,length_take->bz,pairwise_cons->b_,nil_append->cl,flatMap_cons->cz,getElem?_eq_none->da,cons_append->de,mem_flatMap->dj,append_assoc->dm,drop_eq_getElem_cons->dw,toList_toArray->dx,all_eq_true->ej,getElem?_drop->fa,eq_of_mem_replicate->fc,take_length->fe,any_eq_true->ff,getElem?_map->fi,eq_nil_of_length_eq_zero->fj,getElem?_append_left->fk,getElem_mem->fl,filter_cons->ft,append_nil->fz,getElem?_take->gh,getElem?_append_right->gj,mem_map_of_mem->gm,ext_getElem?->gt,nodup_cons->gv,drop_of_length_le->gw,range->ii,mem_range->ij,size_toArray->iq,map_congr_left->iv,length_drop->ix,foldl_append->jf,take_append_drop->jx,take_zero->jz,foldl_cons->j_,getElem?_set->ki,take_succ_cons->kn,mem_or_eq_of_mem_set->lc,pairwise_iff_getElem->lf,mem_of_mem_take->lp,drop_zero->lv,length_range->l_,range_succ->mj,getElem_of_mem->mn,getElem_set_self->ng,length_replicate->nh,getElem?_toArray->ni,getElem?_set_ne->nq,getElem_set_ne->nz,takeWhile_cons->n_,drop_append->od,mem_of_mem_drop->qn,drop_drop->qv,nil_sublist->re,take_append->rf
open Bool renaming and_eq_true->bt,not_eq_true'->ip,not_true->jq,false_or->kh,not_false->km
open Go.Oper renaming mk->ci,wp->oh,quietAt->om,upon->px
open Option renaming getD_some->dt,isSome_iff_exists->el,map_some->fw,some->lw
open Array renaming getElem?_eq_some_iff->ec,replicate->ie,getElem?_eq_getElem->iw,getElem?_eq_none->ot,getD_eq_getD_getElem?->oz,setIfInBounds_comm->pq,range->q_,ext'->rh,map->rv,ext->ry
open BitVec renaming ofInt->et,toNat_ofInt->lh
open UInt8 renaming ofNat->fg,toNat->ju,toNat_ofNat'->ka,toNat_inj->pw
open Prod.mk renaming injEq->fy
open Option.some renaming injEq->gu
open List.cons renaming injEq->nj
open Go.IntKind renaming signed->oa,bits->oo,wrap->pg
set_option linter.unusedSimpArgs false
set_option linter.defProp false
set_option linter.unusedVariables false
set_option linter.unusedSectionVars false
open Bool renaming true->Z,false->X9
open Option renaming some->H,none->G0
namespace Go
def Z9:=@if_pos
def K0:=@if_neg
def Y0:=@absurd
def Y1:=@congrArg
def Y2:=@decide_eq_true_eq
def Y3:=@or_false
def Y4:=@if_true
def Y5:=@decide_eq_true
def Y6:=@decide_eq_false
def Y7:=@decide_eq_false_iff_not
def Y8:=@and_true
def Y9:=@of_decide_eq_true
def X0:=@if_false
def X1:=@exists_congr
def X2:=@propext
def X3:=@inferInstance
def X4:=@and_assoc
def X5:=@of_decide_eq_false
def X6:=@or_assoc
def X7:=@and_self
def X8:=@true_and
abbrev G:=Value.int .i64
end Go
def O{α:Sort _}{a:α}:a=a:=rfl
namespace Go.Lith
section
open Go.RowKit
variable{w w':an}{cs l:List ak}{t T:bh}{a:Addr}{i:Nat}{f:FuncId}{x:Int}
def eQ(w w':an):Prop:=Below w.heap.size w w'
def eQ.refl(w:an):eQ w w:=Below.refl _ _
def eQ.size(h:eQ w w'):w.heap.size<=w'.heap.size:=Below.size h
def eQ.trans{a b c:an}(h:eQ a b)(k:eQ b c):eQ a c:=Below.trans h (Below.mono k h.size)
def eQ.drawn{w w':an}(h:eQ w w'):eQ w { w' with drawn:=w'.drawn+1 }:=Below.drew h
def eQ.alloc(h:eQ w w')(o:Obj):eQ w (w'.alloc o):=Below.alloc h h.size o
def eQ.block(h:eQ w w'){k:Nat}{o:Obj}(a:w.heap[k]? = H o):w'.heap[k]? = H o:=
 (Below.block h k (ec.1 a).1).trans a
def eQ.cell(h:eQ w w'){p:Addr}{v:ak}(a:w.cell? p=H v):w'.cell? p=H v:=
 (Below.cell h (World.block_lt_of_cell? _ _ a)).trans a
section
variable{P:cg}{ops:Array Oper}{md:Region.Mode}{C:an->Prop}
def Mw(P:cg)(md:Region.Mode)(ops:Array Oper)(C:an->Prop)(n:Nat)(L:Array Bool->Act->Prop):Nat->Array Bool->Act->Prop
 |0,b,a=>L b a
 |f+1,b,a=>
  Region.ready md ops b≠[]/\∀i∈Region.ready md ops b,i<n/\qOp P ops C i (Mw P md ops C n L f (b.setIfInBounds i Z)) a
def wR{n g:Nat}{L:Array Bool->Act->Prop}{Q':Exit->Act->an->Prop}(d:∀b a,L b a->∀w,C w->wpAny P md ops Q' g b a w) :
 ∀(f:Nat)(b:Array Bool)(a:Act)(w:an),C w->Mw P md ops C n L f b a->wpAny P md ops Q' (f+g) b a w
 |0,b,a,w,c,h=>by rw[aj];exact d _ _ h w c
 |f+1,b,a,w,c,h=>by
  rw[show f+1+g=(f+g)+1 by omega];exact⟨λk=>Y0 k h.1,λi l=>wpOp_of_qOp c (λe w' m j=>wR d f _ e w' m j) (h.2 i l).2⟩
def aaM{n i:Nat}{q:Oper}{v:ak}{L:Array Bool->Act->Prop}(w:ops[i]? = H q)(F:∀(j:Nat) (o:Oper) cs b,ops[j]? = H o->o.op≠.select cs b)
 (A:Region.sinkB md ops n=Z) (hc:Region.chainB md ops n=Z) (z:n<ops.size) (B:i<n)
 (U:∀c a,L c a->∀j∈Region.ready md ops c,n<=j) :
 ∀(f:Nat)(c:Array Bool)(a:Act),HeadInv md ops n c ->
  (∀j m,ops[j]? = H m->j≠i->c.getD j Z=X9->(∀e∈m.after,Region.binds md e=Z->e.on≠i)->q.apart ops m=Z) ->
  i∈Region.ready md ops c->YieldsIn P ops C q v a ->
  Mw P md ops C n L f (c.setIfInBounds i Z) (a.put q.dst v)->Mw P md ops C n L (f+1) c a:=by
 intro f
 induction f with
 |zero=>
  intro c a u _ d s r;have p:=(mem_ready.1 d).1;refine⟨λh=>(by rw[h] at d;cases d),λj l=>?_⟩;have t:j<n:=by
   rcases d_ j n with h|h
   .exact h
   exact Y0 l (tail_waits A hc z u _ i O B p j h)
  refine⟨t,?_⟩;by_cases g:j=i
  .subst g;exact s.qOp w r
  have:=U _ _ r j (ready_mono l g)
  omega
 |succ f ih=>
  intro c a u G d s r;have p:=(mem_ready.1 d).1;refine⟨λh=>(by rw[h] at d;cases d),λj l=>?_⟩;have t:j<n:=by
   rcases d_ j n with h|h
   .exact h
   exact Y0 l (tail_waits A hc z u _ i O B p j h)
  refine⟨t,?_⟩;by_cases g:j=i
  .subst g;exact s.qOp w r
  have h1:=(r.2 j (ready_mono l g)).2
  obtain⟨E,m,x,S⟩:=mem_ready.1 l;have T:∀e∈m.after,Region.binds md e=Z->e.on≠i:=λe K J N=>by
   have h1:=S e K J;rw[N,getD_both p] at h1;cases h1
  have h2:=qOp_put x (G j m x g E T) (λcs b=>F i q cs b w) (λcs b=>F j m cs b x) s h1;have V:∀k ok,ops[k]? = H ok->k≠i->(c.setIfInBounds j Z).getD k Z=X9 ->
   (∀e∈ok.after,Region.binds md e=Z->e.on≠i)->q.apart ops ok=Z:=λk ok M Q p R=>by
   refine G k ok M Q ?_ R;by_cases D:j=k
   .subst D;exact E
   rw[getD_set_ne Z D] at p;exact p
  refine qOp_mono (λI y=>ih (c.setIfInBounds j Z) I (u.set l t) V (ready_mono d (Ne.symm g)) y.1 ?_) h2;rw[pq _ _ g];exact y.2
def Bb{n g:Nat}{f:Act->Prop}(u:Region.noSelect ops=Z)(q:Region.sinkB md ops n=Z)(hc:Region.chainB md ops n=Z)(p:n<ops.size) :
 ∀(l:List Oper)(k:Nat)(b:Array Bool)(a:Act),(∀j,j<l.length->l[j]? = ops[k+j]?)->k+l.length=n->HeadInv md ops n b ->
 Region.lexHead md ops g l.length k b=Z->M P ops C f l a ->
 Mw P md ops C n (λw i=>Region.seqB md ops g n w=Z/\f i) l.length b a
 | [],k,b,a,_,e,_,d,h=>by
  have:k=n:=by simpa using e
  subst this;exact⟨by simpa[Region.lexHead] using d,h⟩
 |o::l,k,b,a,m,e,t,d,h=>by
  have c:ops[k]? = H o:=by simpa using (m 0 (by simp)).symm
  simp only[be,Region.lexHead,bt] at d;obtain⟨⟨A,z⟩,D⟩:=d;have r:k<n:=by simp only[be] at e;omega
  have s:k∈Region.ready md ops b:=by simpa using A
  have E:qOp P ops C k (M P ops C f l) a:=by unfold qOp;simp only[c];exact h
  obtain⟨v,B,x⟩:=yieldsIn_of_qOp c E;exact aaM c (Region.noSelect_spec u) q hc p r (λw i y=>seqB_ready y.1) l.length b a t (Region.free_spec c z) s B
   (Bb u q hc p l (k+1) _ _ (λj F=>by have:=m (j+1) (by simp;omega);simpa[qk,mo 1 j] using this) (by simp only[be] at e;omega) (t.set s r) D x)
def uG{id:Nat}{Q:Exit->Act->an->Prop}{a:Act}{w:an}{l:List Oper}(n:Nat)(p:P.follows .mixedOrders=Z)(d:Region.lexTailB .any l.toArray n=Z)
 (o:C { w with drawn:=w.drawn+1 })
 (h:M P l.toArray C (λc=>∀w',C w'->bf P l.toArray Q (l.drop n) c w') (l.take n) a):(Code.region id l.toArray Z).wp P Q a w:=by
 simp only[Region.lexTailB,bt,Y2] at d;obtain⟨⟨⟨⟨x,k⟩,q⟩,hc⟩,v⟩:=d;have B:n<l.length:=by simpa using k
 have b:(l.take n).length=n:=by simp;omega
 have m:(l.drop n).length=l.toArray.size-n:=by simp
 have y:HeadInv .any l.toArray n (ie l.toArray.size X9):=
  ⟨by simp,λj A _ i=>(by rw[getD_replicate_false] at i;cases i),λt _ r=>getD_in (by simpa using r) (getD_replicate_false _ _)⟩
 have H:=Bb (md:=.any) (g:=l.toArray.size-n) x q hc k (l.take n) 0 _ a (λj f=>by
  have s:j<n:=by rw[b] at f;exact f
  simp[s]) (by simpa using b) y (by rw[b];exact v) h
 refine wp_region_any p ?_;have:=wR (Q':=Q) (g:=l.toArray.size-n) (λz c e w' u=>by
  have:=wpAny_of_seq (md:=.any) (Q':=Q) (l.drop n) n z c w' (λj=>by simp[fa]) (by rw[m];exact e.1) (e.2 w' u);rwa [m] at this) _ _ _ _ o H
 rw[b,show n+(l.toArray.size-n)=l.toArray.size by omega] at this;exact this
def aaN(md:Region.Mode)(ops:Array Oper):List (Nat×Bool)->Array Bool->Bool
 | [],a=>(Region.ready md ops a).isEmpty
 |(i,Z)::r,a=>(ops[i]?).isSome&&Region.free md ops a i&&(Region.ready md ops a).contains i&&aaN md ops r (a.setIfInBounds i Z)
 |(i,X9)::r,a=>(ops[i]?).isSome&&decide (Region.ready md ops a=[i])&&aaN md ops r (a.setIfInBounds i Z)
def fY(P:cg)(ops:Array Oper)(Q:Exit->Act->an->Prop):List (Oper×Bool)->Act->an->Prop
 | [],a,w=>Q .normal a w
 |(o,Z)::r,a,w=>∃v,Yields P ops o v a/\fY P ops Q r (a.put o.dst v) w
 |(o,X9)::r,a,w=>bf P ops (Exit.then (fY P ops Q r) Q) [o] a w
end
abbrev Fr(l:List ak)(ds:List eh:=[]):Act:={ tmps:=l.toArray,defers:=ds }
def fK(w:an)(g:Nat)(cs:List ak)(t:bh):Prop:=w.heap[g]? = H (.cells cs.toArray t (0,0))
structure Chg(w w':an)(g:Nat):Prop where
 os:w'.os=w.os
 tape:w'.tape=w.tape
 output:w'.output=w.output
 size:w'.heap.size=w.heap.size
 block:∀k,k≠g->w'.heap[k]? = w.heap[k]?
def jS(w:an)(a:Addr)(cs:List ak):Prop:=∀j u,cs[j]? = H u->w.cell? (a.add j)=H u
def fK.lt{g:Nat}(h:fK w g cs t):g<w.heap.size:=(ec.1 h).1
def fK.ext{g:Nat}(h:fK w g cs t)(a:eQ w w'):fK w' g cs t:=a.block h
def fK.chg{g a:Nat}(h:fK w g cs t)(b:Chg w w' a)(c:g≠a):fK w' g cs t:=(b.block g c).trans h
def eQ.chg{w0:an}{g:Nat}(h:eQ w0 w)(a:Chg w w' g)(c:w0.heap.size<=g):eQ w0 w':=
 ⟨a.os.trans h.os,a.tape.trans h.tape,a.output.trans h.output,by rw[a.size];exact h.size,λk b=>(a.block k (by omega)).trans (Below.block h k b)⟩
def jS.ext(h:jS w a cs)(b:eQ w w'):jS w' a cs:=λj u c=>b.cell (h j u c)
theorem eD(g off j:Nat):(⟨g,off,G0⟩:Addr).add j=⟨g,off+j,G0⟩:=by unfold Addr.add;split<;>simp_all
def kZ(a:Addr)(i j:Nat):(a.add i).add j=a.add (i+j):=by
 unfold Addr.add;by_cases b:i=0<;>by_cases c:j=0<;>simp[b,c,qk]
def fK.row{g:Nat}(h:fK w g cs t)(off:Nat):jS w ⟨g,off,G0⟩ (cs.drop off):=by
 intro j u a;rw[eD,cell_of_row w g (off+j) cs.toArray t (0,0) h];simpa[fa] using a
def jS.sub(h:jS w a cs)(i:Nat):jS w (a.add i) (cs.drop i):=by
 intro j u b;rw[kZ];exact h (i+j) u (by simpa[fa] using b)
def jS.take(h:jS w a cs)(n:Nat):jS w a (cs.take n):=by
 intro j u b;refine h j u ?_;rw[gh] at b;split at b
 .exact b
 cases b
section
variable{P:cg}{ds:List eh}{l:List ak}
theorem arM(t:Nat):(Fr l).eval (.tmp t)=l.getD t undef:=by
 show l.toArray.getD t undef=_
 simp[Array.getD,List.getD];split<;>simp_all
def iP{ds:List eh}:(Fr l ds).eval=(Fr l).eval:=rfl
def gV{ds:List eh}(d:Nat)(v:ak):(Fr l ds).put (H d) v=Fr (l.set d v) ds:=by simp[Act.put,Fr]
def dW(P:cg)(T:bh)(n:Nat):Prop:=∃a,P.info? T=H a/\a.size=n
def qD(P:cg)(T:bh)(z:ak):Prop:=∃a,P.info? T=H a/\a.zero=H z
def Gf:TypeDesc->Bool
 |.struct _|.array _ _=>Z
 |_=>X9
def fM(P:cg)(T:bh)(b:Bool):Prop:=∃a,P.underlying T=H a/\Gf a=b
def eF{n:Nat}(h:(P.info? T).map (·.size)=H n):dW P T n:=by
 cases a:P.info? T with
 |none=>rw[a] at h;cases h
 |some i=>rw[a] at h;exact⟨i,a,by simpa using h⟩
def lW{z:ak}(h:(P.info? T).bind (·.zero)=H z):qD P T z:=by
 cases a:P.info? T with
 |none=>rw[a] at h;cases h
 |some i=>rw[a] at h;exact⟨i,a,by simpa using h⟩
def eA{b:Bool}(a:TypeDesc)(h:P.underlying T=H a)(c:Gf a=b):fM P T b:=⟨a,h,c⟩
def ev(l:List ak):cw->ak
 |.tmp t=>l.getD t undef
 |.const v=>v
 |.global g=>.pointer (H ⟨g,0,G0⟩)
 |.func f=>.func (.func f) #[] #[]
def bX(t:Nat):ev l (.tmp t)=l.getD t undef:=rfl
def aZ(v:ak):ev l (.const v)=v:=rfl
def bF(f:Nat):ev l (.func f)=.func (.func f) #[] #[]:=rfl
def cK(x:cw):(Fr l).eval x=ev l x:=by
 cases x with
 |tmp t=>exact arM t
 |const=>rfl
 |global=>rfl
 |func=>rfl
def Dh(P:cg)(l:List ak)(op:Op)(ty:bh)(v:ak)(w:an):Prop:=
 ∀o:Oper,o.op=op->o.type=ty->(N (Fr l).eval o).run P w=.ok (.value v) w
def iD(P:cg)(l:List ak)(op:Op)(ty:bh)(v:ak):Prop:=∀w,Dh P l op ty v w
section
variable{ops:Array Oper}{Q:Exit->Act->an->Prop}{w:an}{rest:List Oper}{d:Nat}{op:Op}{ty:bh}{pos:String}{after:Array Edge}{v:ak}
def eB(b:Dh P l op ty v w)(h:bf P ops Q rest (Fr (l.set d v) ds) w):bf P ops Q (ci (H d) op ty pos after G0::rest) (Fr l ds) w:=by
 refine wpList_plain O λK a=>?_;unfold oh;rw[iP,b _ rfl rfl];show K ((Fr l ds).put (H d) v) w
 rw[gV];exact a _ _ h
def C(a:iD P l op ty v)(h:bf P ops Q rest (Fr (l.set d v) ds) w):bf P ops Q (ci (H d) op ty pos after G0::rest) (Fr l ds) w:=eB (a w) h
def E(h:Q .normal (Fr l ds) w):bf P ops Q [] (Fr l ds) w:=h
def gE{j:Nat}{b:Bool}(a:yielded ops l.toArray j=H b)(h:bf P ops Q (ci (H d) op ty pos after G0::rest) (Fr l ds) w):bf P ops Q (ci (H d) op ty pos after (H (j,b))::rest) (Fr l ds) w:=by
 unfold bf at h ⊢;rw[Z9 (by simp[Region.wanted])] at h;rw[Z9 (by simp[Region.wanted,a])];exact h
def aj3{j:Nat}{b c:Bool}(a:yielded ops l.toArray j=H c)(e:(c == b)=X9)(h:bf P ops Q rest (Fr (l.set d undef) ds) w):bf P ops Q (ci (H d) op ty pos after (H (j,b))::rest) (Fr l ds) w:=by
 unfold bf;rw[K0 (by simp[Region.wanted,a];simpa using e)];show bf P ops Q rest ((Fr l ds).put (H d) undef) w
 rw[gV];exact h
def nN{j:Nat}(a:yielded ops l.toArray j=H X9)(h:bf P ops Q rest (Fr (l.set d undef) ds) w):bf P ops Q (ci (H d) op ty pos after (H (j,Z))::rest) (Fr l ds) w:=aj3 a rfl h
def agw{j:Nat}(a:yielded ops l.toArray j=H Z)(h:bf P ops Q rest (Fr (l.set d undef) ds) w):bf P ops Q (ci (H d) op ty pos after (H (j,X9))::rest) (Fr l ds) w:=aj3 a rfl h
end
section
variable{ops:Array Oper}{Q:Act->Prop}{C:an->Prop}{rest:List Oper}{d:Nat}{op:Op}{ty:bh}{pos:String}{after:Array Edge}{v:ak}
def kI(b:∀w,C w->Dh P l op ty v w)(h:M P ops C Q rest (Fr (l.set d v) ds)):M P ops C Q (ci (H d) op ty pos after G0::rest) (Fr l ds):=by
 refine wpQuiet_step λK a=>?_;rw[Z9 (by simp[Region.wanted])];refine⟨v,λw c=>?_,?_⟩
 . unfold om
   rw[iP,b w c _ rfl rfl];exact⟨O,O⟩
 show K ((Fr l ds).put (H d) v)
 rw[gV];exact a _ h
def L(a:iD P l op ty v)(h:M P ops C Q rest (Fr (l.set d v) ds)):M P ops C Q (ci (H d) op ty pos after G0::rest) (Fr l ds):=kI (λw _=>a w) h
def bM(h:Q (Fr l ds)):M P ops C Q [] (Fr l ds):=h
def rI{j:Nat}{b:Bool}(a:yielded ops l.toArray j=H b)(h:M P ops C Q (ci (H d) op ty pos after G0::rest) (Fr l ds)):M P ops C Q (ci (H d) op ty pos after (H (j,b))::rest) (Fr l ds):=by
 unfold M at h ⊢;rw[Z9 (by simp[Region.wanted])] at h;rw[Z9 (by simp[Region.wanted,a])];exact h
def aj4{j:Nat}{b c:Bool}(a:yielded ops l.toArray j=H c)(e:(c == b)=X9)(h:M P ops C Q rest (Fr (l.set d undef) ds)):M P ops C Q (ci (H d) op ty pos after (H (j,b))::rest) (Fr l ds):=by
 unfold M;rw[K0 (by simp[Region.wanted,a];simpa using e)];show M P ops C Q rest ((Fr l ds).put (H d) undef)
 rw[gV];exact h
def agx{j:Nat}(a:yielded ops l.toArray j=H X9)(h:M P ops C Q rest (Fr (l.set d undef) ds)):M P ops C Q (ci (H d) op ty pos after (H (j,Z))::rest) (Fr l ds):=aj4 a rfl h
def Kf{j:Nat}(a:yielded ops l.toArray j=H Z)(h:M P ops C Q rest (Fr (l.set d undef) ds)):M P ops C Q (ci (H d) op ty pos after (H (j,X9))::rest) (Fr l ds):=aj4 a rfl h
end
/-! ### Values -/
section
variable{x y:cw}{T T' ty:bh}{k:IntKind}{m n r:Int}
def aI:iD P l (.move x) ty (ev l x):=λw o a _=>by simp[N,a,cK]
def aK:iD P l (.assign x) ty (ev l x):=λw o a _=>by simp[N,a,cK]
def aaO{c:cw}{b:Bool}(hc:ev l c=.bool b):iD P l (.pick c x y) ty (if b then ev l x else ev l y):=λw o a _=>by
 simp[N,a,cK,hc,asBool]
def fZ(c:ev l x=.int k m)(d:ev l y=.int k n)(b:k.wrap (m+n)=r):iD P l (.binOp .add T x y T') ty (.int k r):=λw o a _=>by
 simp[N,a,cK,c,d,eqGuard,binOp,Op.intArith,b]
def zW(c:ev l x=.int k m)(d:ev l y=.int k n)(b:k.wrap (m-n)=r):iD P l (.binOp .sub T x y T') ty (.int k r):=λw o a _=>by
 simp[N,a,cK,c,d,eqGuard,binOp,Op.intArith,b]
def qW(c:ev l x=.int k m)(d:ev l y=.int k n)(b:k.wrap (m*n)=r):iD P l (.binOp .mul T x y T') ty (.int k r):=λw o a _=>by
 simp[N,a,cK,c,d,eqGuard,binOp,Op.intArith,b]
def Cx(b:ev l x=.int k m)(c:ev l y=.int k n):iD P l (.binOp .lss T x y T') ty (.bool (decide (m<n))):=λw o a _=>by
 simp[N,a,cK,b,c,eqGuard,binOp,Op.intCmp]
def Hr(b:ev l x=.int k m)(c:ev l y=.int k n):iD P l (.binOp .leq T x y T') ty (.bool (decide (m<=n))):=λw o a _=>by
 simp[N,a,cK,b,c,eqGuard,binOp,Op.intCmp]
def acv(b:ev l x=.int k m)(c:ev l y=.int k n):iD P l (.binOp .gtr T x y T') ty (.bool (decide (n<m))):=λw o a _=>by
 simp[N,a,cK,b,c,eqGuard,binOp,Op.intCmp]
def Yr(b:ev l x=.int k m)(c:ev l y=.int k n):iD P l (.binOp .geq T x y T') ty (.bool (decide (n<=m))):=λw o a _=>by
 simp[N,a,cK,b,c,eqGuard,binOp,Op.intCmp]
theorem acw(b:ev l x=.int k m)(c:ev l y=.int k n):iD P l (.binOp .eql T x y T') ty (.bool (decide (m=n))):=λw o a _=>by
 simp[N,a,cK,b,c,eqGuard,binOp,Op.intCmp];cases h:(m == n)<;>simp_all
theorem sT(b:ev l x=.int k m)(c:ev l y=.int k n):iD P l (.binOp .neq T x y T') ty (.bool (decide (m≠n))):=λw o a _=>by
 simp[N,a,cK,b,c,eqGuard,binOp,Op.intCmp];cases h:(m != n)<;>simp_all
def iO(d:ev l x=.int k m)(e:ev l y=.int k n)(a:n≠0)(c:k.wrap (m.tdiv n)=r):iD P l (.binOp .quo T x y T') ty (.int k r):=λw o b _=>by
 simp[N,b,cK,d,e,eqGuard,binOp,Op.intDiv,a,c]
def cW(d:ev l x=.int k m)(e:ev l y=.int k n)(a:n≠0)(c:m.tmod n=r):iD P l (.binOp .rem T x y T') ty (.int k r):=λw o b _=>by
 simp[N,b,cK,d,e,eqGuard,binOp,Op.intDiv,a,c]
def zX(c:ev l x=.int k m)(d:ev l y=.int k n)(b:k.wrap ((et k.bits m &&& et k.bits n).toNat:Int)=r):iD P l (.binOp .and T x y T') ty (.int k r):=λw o a _=>by
 subst b;simp[N,a,cK,c,d,eqGuard,binOp,Op.intBits]
def acx(c:ev l x=.int k m)(d:ev l y=.int k n)(b:k.wrap ((et k.bits m ||| et k.bits n).toNat:Int)=r):iD P l (.binOp .or T x y T') ty (.int k r):=λw o a _=>by
 subst b;simp[N,a,cK,c,d,eqGuard,binOp,Op.intBits]
def Pi{f:IntKind}(d:ev l x=.int k m)(e:ev l y=.int f n)(a:0<=n)(c:k.wrap (m*2^(min n.toNat k.bits))=r):iD P l (.binOp .shl T x y T') ty (.int k r):=λw o b _=>by
 subst c;simp[N,b,cK,d,e,eqGuard,binOp,Op.shift,rz.2 a]
def pE{f:IntKind}(d:ev l x=.int k m)(e:ev l y=.int f n)(a:0<=n)(c:m.fdiv (2^(min n.toNat k.bits))=r):iD P l (.binOp .shr T x y T') ty (.int k r):=λw o b _=>by
 subst c;simp[N,b,cK,d,e,eqGuard,binOp,Op.shift,rz.2 a]
def lB{b:Bool}(c:ev l x=.bool b):iD P l (.unOp .not T x) ty (.bool (!b)):=λw o a _=>by
 simp[N,a,cK,c,Op.unary]
def uH(c:ev l x=.int k m)(b:k.wrap (0-m)=r):iD P l (.unOp .neg T x) ty (.int k r):=λw o a _=>by
 subst b;simp[N,a,cK,c,Op.unary,Op.intArith]
def gB(b:P.underlying T'=H (.int k)){g:IntKind}{a:TypeDesc}(e:P.underlying T=H a)(f:ev l x=.int g m)(d:k.wrap m=r):iD P l (.convert T T' x) ty (.int k r):=λw o c _=>by
 subst d;simp[N,c,cK,f,convert,cq e,cq b,Conv.intToInt]
def dV{vs:Array ak}{v:ak}(c:ev l x=.tuple vs)(a:vs[i]? = H v):iD P l (.extract x i) ty v:=λw o b _=>by
 simp[N,b,cK,c,Instr.extract,a]
def eR{fn:Fn}{first a:Array cw}:iD P l (.makeFunc fn first a) ty (.func fn (first.map (ev l)) (a.map (ev l))):=λw o b _=>by
 have e:(Fr l).eval=ev l:=funext cK;simp[N,b,e,Instr.makeFunc]
def qG{E:bh}{A:Option Addr}{n c:Nat}{a0:Array bh}(a:a0 = #[T])(d:P.underlying T=H (.slice E))(e:ev l x=.slice A n c):iD P l (.call { callee:=.builtin .len,args:=#[x],argTypes:=a0 }) ty (G n):=λw o b _=>by
 subst a;simp[N,b,resolve,invoke,builtin,Builtin.len_,cK,e,cq d,goInt]
def wS{s:ByteArray}{a0:Array bh}(a:a0 = #[T])(c:P.underlying T=H .string)(d:ev l x=.string s):iD P l (.call { callee:=.builtin .len,args:=#[x],argTypes:=a0 }) ty (G s.size):=λw o b _=>by
 subst a;simp[N,b,resolve,invoke,builtin,Builtin.len_,cK,d,cq c,goInt]
def au6{a0:Array bh}(c:ev l x=.int k m)(d:ev l y=.int k n)(b:(if n<m then n else m)=r):iD P l (.call { callee:=.builtin .min,args:=#[x,y],argTypes:=a0 }) ty (.int k r):=λw o a _=>by
 subst b;simp[N,a,resolve,invoke,builtin,Builtin.min_,Builtin.min2,cK,c,d]
def wT{a0:Array bh}(c:ev l x=.int k m)(d:ev l y=.int k n)(b:(if m<n then n else m)=r):iD P l (.call { callee:=.builtin .max,args:=#[x,y],argTypes:=a0 }) ty (.int k r):=λw o a _=>by
 subst b;simp[N,a,resolve,invoke,builtin,Builtin.max_,Builtin.max2,cK,c,d]
end
/-! ### Addresses -/
section
variable{x y:cw}{T T' ty:bh}{k:IntKind}{m n r:Int}
def aY{fs:Array Field}{i c:Nat}{f:Field}{a b:Addr}(j:P.underlying T=H (.struct fs))(e:fs[i]? = H f)(hc:dW P f.type (c+1))(k:ev l x=.pointer (H a))(d:a.add f.offset=b) :
 iD P l (.fieldAddr T x i) ty (.pointer (H b)):=λw o h _=>by
 subst d;obtain⟨n,g,p⟩:=hc;have m:¬n.size=0:=by omega
 simp[N,h,cK,k,Instr.fieldAt,cq j,e,Instr.sureAddr,fieldPlace,sizeOf,typeInfo,g,m]
def aW{E:bh}{len:Nat}{c:Nat}{a b:Addr}(h:P.underlying T=H (.array len E))(hc:dW P E c)(i:ev l x=.pointer (H a))(j:ev l y=.int k m)(d:0<=m)(h1:m<len)(e:a.add (m.toNat*c)=b) :
 iD P l (.indexAddr T x y) ty (.pointer (H b)):=λw o g _=>by
 subst e;obtain⟨n,f,rfl⟩:=hc;simp[N,g,cK,i,j,Instr.indexAt,asIntOf,cq h,Instr.sureAddr,sizeOf,typeInfo,f,d,h1]
def aP{E:bh}{len cap:Nat}{c:Nat}{a b:Addr}(h:P.underlying T=H (.slice E))(hc:dW P E c)(i:ev l x=.slice (H a) len cap)(j:ev l y=.int k m)(d:0<=m)(h1:m<len)(e:a.add (m.toNat*c)=b) :
 iD P l (.indexAddr T x y) ty (.pointer (H b)):=λw o g _=>by
 subst e;obtain⟨n,f,rfl⟩:=hc;simp[N,g,cK,i,j,Instr.indexAt,asIntOf,cq h,sizeOf,typeInfo,f,d,h1]
end
/-! ### Memory -/
section
variable{x y:cw}{T T' ty:bh}{w:an}
def lC(P:cg)(w:an)(T:bh)(a:Addr)(v:ak):Prop:=(loadVar T a).run P w=.ok v w
theorem jS.lies{cs:List ak}(h:jS w a cs)(c:fM P T Z)(hc:dW P T cs.length):lC P w T a (.agg cs.toArray):=by
 obtain⟨b,g,l⟩:=c;obtain⟨m,d,f⟩:=hc;have e:=run_loadCells_list (P:=P) w a cs (λj v i=>h j v i);have k:(isAgg T).run P w=.ok Z w:=by
  unfold isAgg;rw[Sem.run_bind,cq g w];cases b<;>simp_all [Gf]
 unfold lC;simp[loadVar,Sem.run_bind,k,sizeOf,typeInfo,d,f,e]
theorem lies1{v:ak}(h:w.cell? a=H v)(c:fM P T X9):lC P w T a v:=by
 obtain⟨b,d,f⟩:=c;have e:(isAgg T).run P w=.ok X9 w:=by
  unfold isAgg;rw[Sem.run_bind,cq d w];cases b<;>simp_all [Gf]
 unfold lC;simp[loadVar,Sem.run_bind,e,load,Sem.run,h]
def fK.cell{g:Nat}{cs:List ak}{t:bh}(h:fK w g cs t){v:ak}(a:cs[i]? = H v):w.cell? ⟨g,i,G0⟩=H v:=by
 rw[cell_of_row w g i cs.toArray t (0,0) h];simpa using a
def fK.lies1{g:Nat}{cs:List ak}{t:bh}{v:ak}(h:fK w g cs t)(a:fM P T X9)(b:cs[i]? = H v):lC P w T ⟨g,i,G0⟩ v:=Lith.lies1 (h.cell b) a
def fK.lies{g n:Nat}{cs us:List ak}{t:bh}(h:fK w g cs t)(a:fM P T Z)(hc:dW P T n)(c:(cs.drop i).take n=us)(b:us.length=n):lC P w T ⟨g,i,G0⟩ (.agg us.toArray):=by
 subst c;exact ((h.row i).take n).lies a (by rw[b];exact hc)
def bE{v:ak}(d:ev l x=.pointer (H a))(b:lC P w T a v):Dh P l (.load T x) ty v w:=λo c _=>by
 unfold lC at b;simp[N,c,cK,d,Instr.loadAt,Instr.sureAddr,b]
variable{ops:Array Oper}{Q:Exit->Act->an->Prop}{rest:List Oper}{d:Nat}{op:Op}{pos:String}{after:Array Edge}{v:ak}
def aS(c:ev l x=.pointer (H a))(b:lC P w T a v)(h:bf P ops Q rest (Fr (l.set d v) ds) w):bf P ops Q (ci (H d) (.load T x) ty pos after G0::rest) (Fr l ds) w:=
 eB (bE c b) h
def Kg{w':an}(b:∀o:Oper,o.op=op->(N (Fr l).eval o).run P w=.ok .skip w')(h:bf P ops Q rest (Fr l ds) w'):bf P ops Q (ci G0 op ty pos after G0::rest) (Fr l ds) w:=by
 refine wpList_plain O λK a=>?_;unfold oh;rw[iP,b _ rfl];exact a _ _ h
def lK{w':an}(b:∀o:Oper,o.op=op->o.type=ty->(N (Fr l).eval o).run P w=.ok (.value v) w')(h:bf P ops Q rest (Fr (l.set d v) ds) w'):bf P ops Q (ci (H d) op ty pos after G0::rest) (Fr l ds) w:=by
 refine wpList_plain O λK a=>?_;unfold oh;rw[iP,b _ rfl rfl];show K ((Fr l ds).put (H d) v) w'
 rw[gV];exact a _ _ h
def jH(w:an)(cs:List ak)(t:bh):fK (w.alloc (.cells cs.toArray t)) w.heap.size cs t:=heap_alloc_new w _
def Si{cs:List ak}(b:(ev l x).cells=cs.toArray)(h:∀w' g,eQ w w'->w.heap.size<=g->fK w' g cs T->bf P ops Q rest (Fr (l.set d (.pointer (H ⟨g,0,G0⟩))) ds) w') :
 bf P ops Q (ci (H d) (.box T x) ty pos after G0::rest) (Fr l ds) w:=
 lK (w':=w.alloc (.cells cs.toArray T)) (v:=.pointer (H ⟨w.heap.size,0,G0⟩)) (λo a _=>by simp[N,a,cK,Instr.box,newVar,newRow,b,newObj,Sem.run]) (h _ _ ((eQ.refl w).alloc _) (ba _) (jH w cs T))
def xO{cs:List ak}{z:ak}(a:qD P T z)(e:z.cells=cs.toArray)(h:∀w' g,eQ w w'->w.heap.size<=g->fK w' g cs T->bf P ops Q rest (Fr (l.set d (.pointer (H ⟨g,0,G0⟩))) ds) w') :
 bf P ops Q (ci (H d) (.alloc T) ty pos after G0::rest) (Fr l ds) w:=by
 obtain⟨i,b,f⟩:=a;exact lK (w':=w.alloc (.cells cs.toArray T)) (v:=.pointer (H ⟨w.heap.size,0,G0⟩)) (λo c _=>by simp[N,c,Instr.alloc,zeroValue,typeInfo,b,f,newVar,newRow,e,newObj,Sem.run]) (h _ _ ((eQ.refl w).alloc _) (ba _) (jH w cs T))
def bR(cs:List ak)(off:Nat)(us:List ak):List ak:=cs.take off++us++cs.drop (off+us.length)
def Du{cs us:List ak}{off:Nat}(h:off+us.length<=cs.length):(bR cs off us).length=cs.length:=by simp[bR];omega
def Bc(w:an)(g:Nat)(cs:Array ak):Chg w (w.setRow g cs) g:=⟨rfl,rfl,rfl,by simp,λk a=>setRow_other w g k cs a⟩
def Kh{g off:Nat}{cs us:List ak}{t:bh}(hc:dW P T us.length)(e:v.cells=us.toArray)(b:fK w g cs t)(f:off+us.length<=cs.length)(h1:∀u∈us,u.oneCell'=Z) :
 (storeVar T ⟨g,off,G0⟩ v).run P w=.ok () (w.setRow g (bR cs off us).toArray):=by
 obtain⟨h,c,d⟩:=hc;have a:=run_storeCells_at P g off t us 0 cs.toArray w b (by simpa using f) h1;simp only[jk,dx] at a;simp[storeVar,e,sizeOf,typeInfo,c,d,a,bR]
def tY{g off:Nat}{cs us:List ak}{t:bh}(d:ev l x=.pointer (H ⟨g,off,G0⟩))(c:(ev l y).cells=us.toArray)(hc:dW P T us.length)(a:fK w g cs t)(e:off+us.length<=cs.length)(h1:∀u∈us,u.oneCell'=Z)
 (h:∀w',Chg w w' g->fK w' g (bR cs off us) t->bf P ops Q rest (Fr l ds) w'):bf P ops Q (ci G0 (.store T x y) ty pos after G0::rest) (Fr l ds) w:=
 Kg (w':=w.setRow g (bR cs off us).toArray) (λo b=>by simp[N,b,cK,d,Instr.storeAt,Instr.sureAddr,Kh hc c a e h1]) (h _ (Bc w g _) (setRow_heap w g cs.toArray _ t _ a))
/-! ### Calls -/
def Entr(P:cg)(f:FuncId):Prop:=∃fn,P.funcs[f]? = H fn/\(fn.name == "runtime.NumGoroutine")=X9/\fn.body.isNone=X9
def bK{P:cg}{fn:Func}(h:P.funcs[f]? = H fn) (a:(!(fn.name == "runtime.NumGoroutine") && !fn.body.isNone)=Z):Entr P f:=by
 simp only[bt,ip] at a;exact⟨fn,h,a.1,a.2⟩
def dF(P:cg)(f:FuncId)(args:List ak)(w:an)(R:ak->an->Prop):Prop:=
 Entr P f/\Calls P f args.toArray w λe w'=>∃v,e=.returned v/\eQ w w'/\R v w'
def eS(P:cg)(f:FuncId)(args:List ak)(v:ak):Prop:=∀w,dF P f args w λu _=>u=v
def dF.mono{args:List ak}{R a:ak->an->Prop}(h:dF P f args w R)(e:∀v w',eQ w w'->R v w'->a v w'):dF P f args w a:=
 ⟨h.1,h.2.mono λ_ _ ⟨v,d,b,c⟩=>⟨v,d,b,e _ _ b c⟩⟩
def vZ{args:Array ak}(h:Entr P f):(callFunc f args).run P w=.ok (.enter f args) w:=by
 obtain⟨fn,b,c,a⟩:=h;have e:¬fn.name = "runtime.NumGoroutine" := by simpa using c
 have d:¬fn.body=G0:=by intro h;rw[h] at a;cases a
 simp[callFunc,b,e,d]
def rJ{f:FuncId}{a:cw}{xs:Array cw}{args:List ak}{first cap:Array ak}{a0:Array bh}(h:Entr P f)(c:ev l a=.func (.func f) first cap)(g:first.toList++xs.toList.map (ev l)++cap.toList=args)(o:Oper)(d:o.op=.call { callee:=.value a,args:=xs,argTypes:=a0 }) :
 (N (Fr l).eval o).run P w=.ok (.enter f args.toArray) w:=by
 have e:(Fr l).eval=ev l:=funext cK;have b:args.toArray=first++xs.map (ev l)++cap:=by
  rw[<-g];apply rh;simp
 simp[N,d,resolve,e,c,Deferred.ofValue,invoke,vZ h,b]
def aX{f:FuncId}{a:cw}{xs:Array cw}{args:List ak}{first cap:Array ak}{a0:Array bh}{R:ak->an->Prop}(i:ev l a=.func (.func f) first cap)(j:first.toList++xs.toList.map (ev l)++cap.toList=args)(hc:dF P f args w R)
 (h:∀v w',eQ w w'->R v w'->bf P ops Q rest (Fr (l.set d v) ds) w'):bf P ops Q (ci (H d) (.call { callee:=.value a,args:=xs,argTypes:=a0 }) ty pos after G0::rest) (Fr l ds) w:=by
 refine wpList_plain O λK c=>?_;unfold oh;rw[iP,rJ hc.1 i j _ rfl];refine hc.2.mono ?_;rintro e w' ⟨v,rfl,b,g⟩;show K ((Fr l ds).put (H d) v) w'
 rw[gV];exact c _ _ (h v w' b g)
def Qz{f:FuncId}{a:cw}{xs:Array cw}{args:List ak}{first cap:Array ak}{a0:Array bh}(e:ev l a=.func (.func f) first cap)(g:first.toList++xs.toList.map (ev l)++cap.toList=args)(hc:eS P f args v)
 (h:∀w',eQ w w'->bf P ops Q rest (Fr (l.set d v) ds) w'):bf P ops Q (ci (H d) (.call { callee:=.value a,args:=xs,argTypes:=a0 }) ty pos after G0::rest) (Fr l ds) w:=
 aX e g (hc w) λ_ w' b c=>c▸h w' b
end
section
variable{x y:cw}{T T' ty:bh}{w:an}
variable{ops:Array Oper}{Q:Act->Prop}{rest:List Oper}{d:Nat}{op:Op}{pos:String}{after:Array Edge}{v:ak}
end
/-! ### Code -/
section
variable{Q:Exit->Act->an->Prop}{w:an}{c c1 c2:Code}
def aV{a:Act}(h:∀K:Act->an->Prop,(∀a w,c2.wp P Q a w->K a w)->c1.wp P (Exit.then K Q) a w):(Code.seq c1 c2).wp P Q a w:=wp_seq_k h
def lL{x:cw}{b:Bool}(d:ev l x=.bool b)(c:b=Z->c1.wp P Q (Fr l ds) w)(a:b=X9->c2.wp P Q (Fr l ds) w):(Code.cond x c1 c2).wp P Q (Fr l ds) w:=
 wp_cond_split (by rw[iP,cK];exact d) c a
def bB{x:cw}{p:Prop}[Decidable p](c:ev l x=.bool (decide p))(b:p->c1.wp P Q (Fr l ds) w)(a:¬p->c2.wp P Q (Fr l ds) w):(Code.cond x c1 c2).wp P Q (Fr l ds) w:=
 lL c (λh=>b (Y9 h)) (λh=>a (X5 h))
def wU{x:cw}(b:ev l x=.bool Z)(a:c1.wp P Q (Fr l ds) w):(Code.cond x c1 c2).wp P Q (Fr l ds) w:=lL b (λ_=>a) (λh=>by cases h)
def Qs{x:cw}(b:ev l x=.bool X9)(a:c2.wp P Q (Fr l ds) w):(Code.cond x c1 c2).wp P Q (Fr l ds) w:=lL b (λh=>by cases h) (λ_=>a)
def Res(P:cg)(l:List ak)(w:an):ResultVar->ak->Prop
 |.tmp t,v=>l.getD t undef=v
 |.cell t T,v=>∃a,l.getD t undef=.pointer (H a)/\lC P w T a v
def wG{r:ResultVar}{v:ak}(h:Res P l w r v):(∃t,r=.tmp t/\l[t]?.getD undef=v)\/(∃t T a,r=.cell t T/\l[t]?.getD undef=.pointer (H a)/\(loadVar T a).run P w=.ok v w):=by
 cases r with
 |tmp t=>exact .inl ⟨t,rfl,by simpa[Res] using h⟩
 |cell t T=>
  obtain⟨a,b,c⟩:=h;exact .inr ⟨t,T,a,O,by simpa using b,c⟩
def aU{fn:Func}{R:Ending->an->Prop}{r:ResultVar}{v:ak}(c:fn.results = #[r])(h:Res P l w r v)(b:R (.returned v) w):bodyPost P fn R .ret (Fr l) w:=by
 refine⟨O,v,?_,b⟩;unfold results;rw[c];rcases wG h with ⟨t,rfl,h1⟩|⟨t,T,a,rfl,h1,h2⟩<;>simp[*,asAddr]
def jG{fn:Func}{R:Ending->an->Prop}{r b:ResultVar}{v v':ak}(e:fn.results = #[r,b])(h:Res P l w r v)(c:Res P l w b v')(d:R (.returned (.tuple #[v,v'])) w):bodyPost P fn R .ret (Fr l) w:=by
 refine⟨O,_,?_,d⟩;unfold results;rw[e];rcases wG h with ⟨t,rfl,h1⟩|⟨t,T,a,rfl,h1,h2⟩<;>rcases wG c with ⟨f,rfl,g⟩|⟨f,T',i,rfl,g,j⟩<;>simp[*,asAddr]
def awO{fn:Func}{R:Ending->an->Prop}{r b c:ResultVar}{v v' d:ak}(g:fn.results = #[r,b,c])(h:Res P l w r v)(e:Res P l w b v')(j:Res P l w c d)(f:R (.returned (.tuple #[v,v',d])) w):bodyPost P fn R .ret (Fr l) w:=by
 refine⟨O,_,?_,f⟩;unfold results;rw[g];rcases wG h with ⟨t,rfl,h1⟩|⟨t,T,a,rfl,h1,h2⟩<;>rcases wG e with ⟨i,rfl,k⟩|⟨i,T',o,rfl,k,s⟩<;>rcases wG j with ⟨m,rfl,n⟩|⟨m,p,q,rfl,n,u⟩<;>simp[*,asAddr]
end
end
/-! ### Numbers,loops,further values -/
def cF(a : -9223372036854775808<=x)(h1:x<9223372036854775808):IntKind.i64.wrap x=x:=by
 simp[pg,oo,oa];split<;>omega
def mZ(a:0<=x)(h1:x<18446744073709551616):IntKind.u64.wrap x=x:=by
 simp[pg,oo,oa];omega
def aj5(a:0<=x)(h1:x<4294967296):IntKind.u32.wrap x=x:=by
 simp[pg,oo,oa];omega
def aj6(a : -2147483648<=x)(h1:x<2147483648):IntKind.i32.wrap x=x:=by
 simp[pg,oo,oa];split<;>omega
def agy(a:0<=x)(h1:x<256):IntKind.u8.wrap x=x:=by
 simp[pg,oo,oa];omega
def fQ:List ak->List Nat->List ak->List ak
 |l,t::ts,v::vs=>fQ (l.set t v) ts vs
 |l,_,_=>l
def aaP{t:Nat}{ts:List Nat}{v:ak}{vs:List ak}:fQ l (t::ts) (v::vs)=fQ (l.set t v) ts vs:=rfl
def Dv{vs:List ak}:fQ l [] vs=l:=by cases vs<;>rfl
def acy{t:Nat}:l.set t (l.getD t undef)=l:=by
 apply gt;intro i;rw[ki];split
 . rename_i h;subst h
   split
   .rename_i h;simp[h]
   rename_i h;simp at h;simp[h]
 rfl
def Ki:∀(ts:List Nat)(l:List ak),fQ l ts (ts.map (l.getD · undef))=l
 | [],l=>Dv
 |t::ts,l=>by
  simp only[bm,aaP,acy];exact Ki ts l
def Be{p:Nat->Prop}(h:∃n,p n):∃n,p n/\∀m,p m->n<=m:=by
 obtain⟨n,c⟩:=h
 induction n using Nat.strongRecOn with
 |_ n ih=>
  by_cases b:∃m,m<n/\p m
  .obtain⟨m,a,d⟩:=b;exact ih m a d
  exact⟨n,c,λm a=>Nat.le_of_not_lt λe=>b ⟨m,e,a⟩⟩
noncomputable def Sj(p:Nat->Prop)(h:∃n,p n):Nat:=(Be h).choose
def acz{p:Nat->Prop}(h:∃n,p n):p (Sj p h):=(Be h).choose_spec.1
def ah3{p:Nat->Prop}(h:∃n,p n){m:Nat}(a:p m):Sj p h<=m:=(Be h).choose_spec.2 m a
section
variable{P:cg}{ds:List eh}{l:List ak}
end
/-! ### Parts of values,slices,new slices -/
section
variable{P:cg}{ds:List eh}{l:List ak}{x y:cw}{T T' ty:bh}{k:IntKind}{m n r:Int}
theorem rK{b:Bool}(h:fM P T b)(w:an):(isAgg T).run P w=.ok b w:=by
 obtain⟨a,c,d⟩:=h;unfold isAgg;rw[Sem.run_bind,cq c w];cases a<;>simp_all [Gf]
def eT{c:Nat}(h:dW P T c)(w:an):(sizeOf T).run P w=.ok c w:=by
 obtain⟨b,a,rfl⟩:=h;simp[sizeOf,typeInfo,a]
def jI(cs:Array ak):(Value.agg cs).cells=cs:=rfl
def mR{parts:Array (Nat×cw)}{vs:Array (Nat×ak)}{v:ak}(b:(parts.map λ(i,x)=>(i,ev l x))=vs)(h:∀w,(Instr.build T vs).run P w=.ok v w):iD P l (.build T parts) ty v:=λw o a _=>by
 have e:(Fr l).eval=ev l:=funext cK;subst b;simp only[N,a,e];rw[Sem.run_bind,h w];rfl
def eU{fs:Array Field}{places:Array (Nat×Nat)}{z:ak}{cells:Array ak}{vs:Array (Nat×ak)}(d:P.underlying T=H (.struct fs))(e:qD P T z)
 (g:∀w,(fs.mapM λf=>do pure (f.offset,<-sizeOf f.type):Sem (Array (Nat×Nat))).run P w=.ok places w) (b:Instr.fill (places[·]?) z.cells vs.toList=H cells) (w:an):(Instr.build T vs).run P w=.ok (.agg cells) w:=by
 obtain⟨h,c,a⟩:=e;simp only[Instr.build,zeroValue,typeInfo];simp[c,a,cq d];have:=g w;simp at this;simp[this,b]
def nA{E:bh}{n c:Nat}{z:ak}{cells:Array ak}{vs:Array (Nat×ak)}(e:P.underlying T=H (.array n E))(f:qD P T z)(hc:dW P E c)
 (b:Instr.fill (λi=>H (i*c,c)) z.cells vs.toList=H cells) (w:an):(Instr.build T vs).run P w=.ok (.agg cells) w:=by
 obtain⟨g,d,a⟩:=f;simp only[Instr.build,zeroValue,typeInfo];simp[d,a,cq e,eT hc,b]
def aj7{fs:Array Field}{i:Nat}{f:Field}{cs:Array ak}{v:ak}(d:P.underlying T=H (.struct fs))(b:fs[i]? = H f)(a:fM P f.type X9)(g:ev l x=.agg cs)(e:cs[f.offset]? = H v) :
 iD P l (.field T x i) ty v:=λw o c _=>by
 simp[N,c,cK,g,Instr.field,cq d,b,asAgg,part,rK a,e]
def aj8{fs:Array Field}{i c:Nat}{f:Field}{cs us:Array ak}(e:P.underlying T=H (.struct fs))(b:fs[i]? = H f)(a:fM P f.type Z)(hc:dW P f.type c)(h:ev l x=.agg cs)(g:cs.extract f.offset (f.offset+c)=us) :
 iD P l (.field T x i) ty (.agg us):=λw o d _=>by
 subst g;simp[N,d,cK,h,Instr.field,cq e,b,asAgg,part,rK a,eT hc]
def rL{E:bh}{len c:Nat}{cs:Array ak}{v:ak}(e:P.underlying T=H (.array len E))(b:fM P E X9)(hc:dW P E c)(g:ev l x=.agg cs)(h:ev l y=.int k m)(a:0<=m)(h1:m<len)(f:cs[m.toNat*c]? = H v) :
 iD P l (.index T x y) ty v:=λw o d _=>by
 simp[N,d,cK,g,h,Instr.index,asIntOf,cq e,a,h1,part,rK b,eT hc,f]
def rM{E:bh}{len c:Nat}{cs us:Array ak}(e:P.underlying T=H (.array len E))(b:fM P E Z)(hc:dW P E c)(g:ev l x=.agg cs)(h:ev l y=.int k m)(a:0<=m)(h1:m<len)(f:cs.extract (m.toNat*c) (m.toNat*c+c)=us) :
 iD P l (.index T x y) ty (.agg us):=λw o d _=>by
 subst f;simp[N,d,cK,g,h,Instr.index,asIntOf,cq e,a,h1,part,rK b,eT hc]
def qH{s:ByteArray}{b:UInt8}(e:P.underlying T=H .string)(f:ev l x=.string s)(g:ev l y=.int k m)(a:0<=m)(c:s[m.toNat]? = H b) :
 iD P l (.index T x y) ty (.int .u8 b.toNat):=λw o d _=>by
 simp[N,d,cK,f,g,Instr.index,asIntOf,cq e,a,c]
def lY{E:bh}{A:Option Addr}{len cap c:Nat}(g:P.underlying T=H (.slice E))(hc:dW P E c){q:Nat}(h:ev l x=.slice A len cap)(i:ev l y=.int k m)(f:m.toNat=q)(b:0<=m)(h1:m<=cap) :
 iD P l (.slice T x G0 (H y) G0) ty (.slice A q cap):=λw o d _=>by
 subst f;have e:(if cap=0 then A else Option.map (λa=>a.add 0) A)=A:=by
  split
  .rfl
  cases A<;>simp[Addr.add]
 have j:¬(m.toNat:Int)>cap:=by omega
 simp[N,d,cK,h,i,Instr.sliceAt,Instr.slice,Instr.sliceBounds,Instr.sliceBound,asIntOf,cq g,b,h1,eT hc];intro _;cases A<;>simp[Addr.add]
def nI{E:bh}{A a:Option Addr}{len cap c:Nat}(g:P.underlying T=H (.slice E))(hc:dW P E c){q:Nat}(h:ev l x=.slice A len cap)(i:ev l y=.int k m)(f:m.toNat=q)(b:0<=m)(h1:m<=len)(d:(if cap=q then A else A.map (·.add (q*c)))=a) :
 iD P l (.slice T x (H y) G0 G0) ty (.slice a (len-q) (cap-q)):=λw o e _=>by
 subst f;subst d;simp[N,e,cK,h,i,Instr.sliceAt,Instr.slice,Instr.sliceBounds,Instr.sliceBound,asIntOf,cq g,b,h1,eT hc]
def Pk{z:cw}{t:IntKind}{E:bh}{A a:Option Addr}{len cap c:Nat}(j:P.underlying T=H (.slice E))(hc:dW P E c){q b:Nat}(p:ev l x=.slice A len cap)(r:ev l y=.int k m)(s:ev l z=.int t n)(i:m.toNat=q)(u:n.toNat=b)(f:0<=m)(h1:m<=n)(h2:n<=cap)(g:(if cap=q then A else A.map (·.add (q*c)))=a) :
 iD P l (.slice T x (H y) (H z) G0) ty (.slice a (b-q) (cap-q)):=λw o h _=>by
 subst i;subst u;subst g;have d:(0:Int)<=n:=by omega
 have e:m<=max n 0:=by omega
 simp[N,h,cK,p,r,s,Instr.sliceAt,Instr.slice,Instr.sliceBounds,Instr.sliceBound,asIntOf,cq j,f,h1,h2,d,e,eT hc]
def aj9{s:ByteArray}(c:P.underlying T=H .string)(d:ev l x=.string s)(e:ev l y=.int k m)(a:0<=m)(h1:m<=s.size) :
 iD P l (.slice T x (H y) G0 G0) ty (.string (s.extract m.toNat s.size)):=λw o b _=>by
 simp[N,b,cK,d,e,Instr.sliceAt,Instr.slice,Instr.sliceBounds,Instr.sliceBound,asIntOf,cq c,a,h1]
variable{ops:Array Oper}{Q:Exit->Act->an->Prop}{rest:List Oper}{d:Nat}{pos:String}{after:Array Edge}{w:an}
def lD{E:bh}{b:Nat}{j:IntKind}{z:ak}(B:P.underlying T=H (.slice E))(a:(P.info? E).map (λi=>(i.size,i.bytes,i.zero))=H (1,b,H z))(G:z.cells = #[z]){q e:Nat}(C:ev l x=.int k m)(D:ev l y=.int j n)(c:m.toNat=q)(F:n.toNat=e)(t:0<=m)(h1:m<=n)(v:n<=9223372036854775807)(u:(b:Int)*n<=281474976710656)
 (h:∀w' g,eQ w w'->w.heap.size<=g->fK w' g (bx e z) E->bf P ops Q rest (Fr (l.set d (.slice (H ⟨g,0,G0⟩) q e)) ds) w') :
 bf P ops Q (ci (H d) (.makeSlice T x y) ty pos after G0::rest) (Fr l ds) w:=by
 subst c;subst F;cases c:P.info? E with
 |none=>rw[c] at a;cases a
 |some i=>
  rw[c] at a;simp only[fw,gu,fy] at a;obtain⟨p,r,s⟩:=a;subst r;have f:=run_make (P:=P) w T E i z B c s k j m n t h1 u v;have hc:madeCells z.cells (n.toNat*i.size)=(bx n.toNat z).toArray:=by
   rw[p,G,eo];apply rh;rw[toList_madeCells_one]
  rw[hc] at f;exact lK (λo A _=>by simp[N,A,cK,C,D,f]) (h _ _ ((eQ.refl w).alloc _) (ba _) (jH w _ E))
def zY(w:an)(base:Nat)(e:bh)(size:Nat)(v:ak)(n:Nat)(xs:List ak):Prop:=w.ownsRow base e size v n xs
structure Sk(w w':an)(base:Nat):Prop where
 os:w'.os=w.os
 tape:w'.tape=w.tape
 output:w'.output=w.output
 size:w.heap.size<=w'.heap.size
 block:∀k,k<base->w'.heap[k]? = w.heap[k]?
def Sk.refl(w:an)(base:Nat):Sk w w base:=⟨rfl,rfl,rfl,ba _,λ_ _=>rfl⟩
def eQ.grew{w w':an}(h:eQ w w'){base:Nat}(a:base<=w.heap.size):Sk w w' base:=⟨h.os,h.tape,h.output,h.size,λk b=>Below.block h k (by omega)⟩
def fK.grew{w w':an}{g base:Nat}{cs:List ak}{t:bh}(h:fK w g cs t)(a:Sk w w' base)(b:g<base):fK w' g cs t:=(a.block g b).trans h
def eQ.grown{w0 w w':an}{base:Nat}(h:eQ w0 w)(a:Sk w w' base)(c:w0.heap.size<=base):eQ w0 w':=
 ⟨a.os.trans h.os,a.tape.trans h.tape,a.output.trans h.output,ax h.size a.size,λk b=>(a.block k (by omega)).trans (Below.block h k b)⟩
def aeE{w:an}{base:Nat}{e:bh}{size:Nat}{v:ak}{n:Nat}{xs:List ak}(h:w.ownsRow base e size v n xs){w':an}(a:w.grownBy w' v.ownBlock)(b:base<=w.heap.size):Sk w w' base:=by
 refine⟨a.os,a.tape,a.output,a.size,λk c=>a.block k (by omega) λhc=>?_⟩;rcases h.2 with ⟨rfl,_⟩|⟨g,cap,d,rfl,f,_⟩
 .cases hc
 simp[Value.ownBlock] at hc
 omega
def zY.row{w:an}{base:Nat}{e:bh}{size:Nat}{v:ak}{n:Nat}{xs:List ak}(h:zY w base e size v n xs):(v=.slice G0 0 0/\n=0/\xs=[])\/∃g cap,v=.slice (H ⟨g,0,G0⟩) n cap/\base<=g/\n<=cap/\cap<=maxLen/\g<w.heap.size/\jS w ⟨g,0,G0⟩ xs:=by
 rcases h.2 with ⟨rfl,rfl⟩|⟨g,cap,d,rfl,f,b,h1,h2,i,c⟩
 .exact .inl ⟨O,O,fj (by simpa using h.1)⟩
 refine .inr ⟨g,cap,O,f,h1,h2,(ec.1 b).1,λj u a=>?_⟩
 rw[eD,aj,cell_of_row w g j d e (0,0) b];rw[<-c,gh] at a;split at a
 .simpa using a
 cases a
def acA{s0 g:cw}{base c b nn mm cap:Nat}{E:bh}{z v:ak}{xs news:List ak}{e:Addr}{a0:Array bh}(p:a0 = #[T,T])(y:P.underlying T=H (.slice E))(a:(P.info? E).map (λi=>(i.size,i.bytes,i.zero))=H (c,b,H z))(B:z.cells.size=c)(hc:0<c)
 (x:ev l s0=v) (j:zY w base E c v nn xs) (A:ev l g=.slice (H e) mm cap) (r:news.length=mm*c) (D:jS w e news) (h1:∀u∈news,u.oneCell'=Z) (C:nn+mm<=9223372036854775807) (F:(nn+mm)*b<=140737488355328) (k:base<=w.heap.size)
 (h:∀v' w',zY w' base E c v' (nn+mm) (xs++news)->Sk w w' base->(v'=.slice G0 0 0↔v=.slice G0 0 0/\mm=0)->bf P ops Q rest (Fr (l.set d v') ds) w') :
 bf P ops Q (ci (H d) (.call { callee:=.builtin .append,args:=#[s0,g],argTypes:=a0 }) ty pos after G0::rest) (Fr l ds) w:=by
 subst p;cases f:P.info? E with
 |none=>rw[f] at a;cases a
 |some i=>
  rw[f] at a;simp only[fw,gu,fy] at a;obtain⟨m,n,o⟩:=a;refine wpList_append_own w O s0 g T O base E i z c b y f o m n B hc v nn xs (by rw[iP,cK];exact x) j e mm cap news (by rw[iP,cK];exact A) r D h1 (by simpa[maxLen] using C) F k ?_;intro v' w' t q s;show bf P ops Q rest ((Fr l ds).put (H d) v') w'
  rw[gV];exact h v' w' t (aeE j q k) s
def ah4{s0 n:cw}{base c b nn cap:Nat}{E:bh}{z v:ak}{xs:List ak}{a0:Array bh}(p:a0 = #[T,T])(k:P.underlying T=H (.slice E))(e:(P.info? E).map (λi=>(i.size,i.bytes,i.zero))=H (c,b,H z))
 (j:ev l s0=v) (q:zY w base E c v nn xs) (m:ev l n=.slice G0 0 cap)
 (h:bf P ops Q rest (Fr (l.set d v) ds) w) :
 bf P ops Q (ci (H d) (.call { callee:=.builtin .append,args:=#[s0,n],argTypes:=a0 }) ty pos after G0::rest) (Fr l ds) w:=by
 subst p;cases a:P.info? E with
 |none=>rw[a] at e;cases e
 |some i=>
  refine lK (w':=w) (λo f _=>?_) h;rcases q.2 with ⟨rfl,rfl⟩|⟨g,r,x,rfl,y,u,h1,h2,s,t⟩
  .simp[N,f,resolve,invoke,builtin,cK,j,m,Builtin.append_,cq k,sizeOf,typeInfo,a,Builtin.lenOf,Builtin.firstCells]
  simp[N,f,resolve,invoke,builtin,cK,j,m,Builtin.append_,cq k,sizeOf,typeInfo,a,Builtin.lenOf,Builtin.firstCells,h1,storeCells]
end
section
variable{P:cg}{ds:List eh}{l:List ak}{x y:cw}{T T' ty:bh}{k:IntKind}{m n r:Int}
def sU(a:ev l x=.int k m)(b:ev l y=.int k n)(h:m<n):iD P l (.binOp .lss T x y T') ty (.bool Z):=by
 have:=Cx (P:=P) (T:=T) (T':=T') (ty:=ty) a b;rwa [Y5 h] at this
def Il(a:ev l x=.int k m)(b:ev l y=.int k n)(h:¬m<n):iD P l (.binOp .lss T x y T') ty (.bool X9):=by
 have:=Cx (P:=P) (T:=T) (T':=T') (ty:=ty) a b;rwa [Y6 h] at this
def arN(a:ev l x=.int k m)(b:ev l y=.int k n)(h:m<=n):iD P l (.binOp .leq T x y T') ty (.bool Z):=by
 have:=Hr (P:=P) (T:=T) (T':=T') (ty:=ty) a b;rwa [Y5 h] at this
def arO(a:ev l x=.int k m)(b:ev l y=.int k n)(h:¬m<=n):iD P l (.binOp .leq T x y T') ty (.bool X9):=by
 have:=Hr (P:=P) (T:=T) (T':=T') (ty:=ty) a b;rwa [Y6 h] at this
def aka(a:ev l x=.int k m)(b:ev l y=.int k n)(h:n<=m):iD P l (.binOp .geq T x y T') ty (.bool Z):=by
 have:=Yr (P:=P) (T:=T) (T':=T') (ty:=ty) a b;rwa [Y5 h] at this
def arP(a:ev l x=.int k m)(b:ev l y=.int k n)(h:¬n<=m):iD P l (.binOp .geq T x y T') ty (.bool X9):=by
 have:=Yr (P:=P) (T:=T) (T':=T') (ty:=ty) a b;rwa [Y6 h] at this
def aeF(a:ev l x=.int k m)(b:ev l y=.int k n)(h:m=n):iD P l (.binOp .eql T x y T') ty (.bool Z):=by
 have:=acw (P:=P) (T:=T) (T':=T') (ty:=ty) a b;rwa [Y5 h] at this
def arQ(a:ev l x=.int k m)(b:ev l y=.int k n)(h:¬m=n):iD P l (.binOp .eql T x y T') ty (.bool X9):=by
 have:=acw (P:=P) (T:=T) (T':=T') (ty:=ty) a b;rwa [Y6 h] at this
def arR(a:ev l x=.int k m)(b:ev l y=.int k n)(h:m≠n):iD P l (.binOp .neq T x y T') ty (.bool Z):=by
 have:=sT (P:=P) (T:=T) (T':=T') (ty:=ty) a b;rwa [Y5 h] at this
def Gg{c:cw}(hc:ev l c=.bool Z):iD P l (.pick c x y) ty (ev l x):=aaO hc
def xP{c:cw}(hc:ev l c=.bool X9):iD P l (.pick c x y) ty (ev l y):=aaO hc
def arS{op:Op}{v u:ak}(h:iD P l op ty v)(e:v=u):iD P l op ty u:=e▸h
end
def rN:List ak->List Nat->(Nat->ak)->List ak
 |l,t::ts,g=>rN (l.set t (g t)) ts g
 |l,[],_=>l
def ah5{t:Nat}{ts:List Nat}{g:Nat->ak}:rN l (t::ts) g=rN (l.set t (g t)) ts g:=rfl
def au7{g:Nat->ak}:rN l [] g=l:=rfl
def ah6:∀(ts:List Nat)(l:List ak),rN l ts (l.getD · undef)=l:=by
 intro ts;have key:∀(ts:List Nat)(l:List ak)(g:Nat->ak),(∀t,l.set t (g t)=l)->rN l ts g=l:=by
  intro ts
  induction ts with
  |nil=>intro l g _;rfl
  |cons t ts ih=>intro l g h;rw[ah5,h t];exact ih l g h
 exact λl=>key ts l _ λt=>acy
section
variable{P:cg}{ds:List eh}{l:List ak}
def Gh{c:Code}{Q:Exit->Act->an->Prop}{w:an}(ts ss:List Nat)(I:Nat->List ak->an->Prop)(j:∃n,I n (ts.map (l.getD · undef)) w)
 (r:∀n vs w,I n vs w->∀g:Nat->ak,c.wp P (Exit.then (λm w'=>∃n' b,n'<n/\m=Fr b/\rN (fQ l ts (ts.map (b.getD · undef))) ss (b.getD · undef)=b/\I n' (ts.map (b.getD · undef)) w') Q) (Fr (rN (fQ l ts vs) ss g)) w):(Code.loop c).wp P Q (Fr l) w:=by
 obtain⟨n0,j⟩:=j
 let J:Nat->Act->an->Prop:=λn a w=>∃vs g,a=Fr (rN (fQ l ts vs) ss g)/\I n vs w
 have u:∃n,J n (Fr l) w:=⟨n0,_,(l.getD · undef),by rw[Ki,ah6],j⟩
 let f:Act->an->Nat:=λa w=>@dite _ (∃n,J n a w) (Classical.propDecidable _) (λh=>Sj (λn=>J n a w) h) (λ_=>0)
 refine wp_loop (λa w=>∃n,J n a w) f u ?_;intro a w k;obtain⟨vs,g,rfl,t⟩:=acz k;refine Code.wp_mono ?_ (r _ vs w t g);intro e m w' d;cases e with
 |normal=>
  obtain⟨n',b,v,rfl,q,s⟩:=d;have i:J n' (Fr b) w':=⟨_,(b.getD · undef),by rw[q],s⟩
  refine⟨⟨n',i⟩,?_⟩;have o:f (Fr b) w'=Sj (λn=>J n (Fr b) w') ⟨n',i⟩:=by simp only[f];rw[dif_pos ⟨n',i⟩]
  have p:f (Fr (rN (fQ l ts vs) ss g)) w=Sj (λn=>J n (Fr (rN (fQ l ts vs) ss g)) w) k:=by simp only[f];rw[dif_pos k]
  rw[o,p];exact ig (ah3 _ i) v
 |exit id=>exact d
 |goto id=>exact d
 |ret=>exact d
 |panic x=>exact d
 |outgrown=>exact d
end
section
variable{P:cg}{ds:List eh}{l:List ak}{ops:Array Oper}{Q:Exit->Act->an->Prop}{w:an}{rest:List (Oper×Bool)}{d:Nat}{op:Op}{ty:bh}{pos:String}{after:Array Edge}{v:ak}
def bT{Q:Exit->Act->an->Prop}(h:∀c (t:Array ak) ds (e:Array ak) w,Q (.panic c) { tmps:=t,defers:=ds } w->Q (.panic c) { tmps:=e,defers:=ds } w):∀c d v a w,Q (.panic c) (Act.put a d v) w->Q (.panic c) a w:=by
 intro c d v a w b;cases d with
 |none=>exact b
 |some d=>exact h c _ _ _ w b
end
end
section
variable{B x i n k a d cap c q:Nat}{xs ys os:List Nat}{m s:Int}{w:an}
/-! ### Digits -/
def val(B:Nat):List Nat->Nat
 | []=>0
 |x::xs=>x+B*val B xs
def trim:List Nat->List Nat
 | []=>[]
 |x::xs=>if trim xs=[]/\x=0 then [] else x::trim xs
def cX(B:Nat)(xs:List Nat):Prop:=∀x∈xs,x<B
theorem eV(B:Nat):∀xs ys:List Nat,val B (xs++ys)=val B xs+B^xs.length*val B ys
 | [],ys=>by simp[val]
 |x::xs,ys=>by simp only[de,val,eV B xs ys,be,gn];grind
theorem iZ{B:Nat}:∀{xs:List Nat},cX B xs->val B xs<B^xs.length
 | [],_=>by simp[val]
 |x::xs,h=>by
  have h1:x<B:=h x (by simp);have h2:=iZ (xs:=xs) λy b=>h y (by simp[b]);simp only[val,be,gn];have a:val B xs+1<=B^xs.length:=h2;have:=f_ B a
  grind
def lE(B:Nat):∀xs:List Nat,val B (trim xs)=val B xs
 | []=>rfl
 |x::xs=>by
  have ih:=lE B xs;simp only[trim];split
  .rename_i h;rw[h.1] at ih;simp only[val] at ih ⊢;rw[<-ih,h.2];simp
  simp only[val,ih]
def iQ:∀xs:List Nat,trim xs=xs.take (trim xs).length
 | []=>rfl
 |x::xs=>by
  simp only[trim];split
  .rfl
  simp only[be,kn];rw[<-iQ xs]
def cX.take(h:cX B xs)(n:Nat):cX B (xs.take n):=λx a=>h x (lp a)
def cX.drop(h:cX B xs)(n:Nat):cX B (xs.drop n):=λx a=>h x (qn a)
def cX.trim{B:Nat}{xs:List Nat}(h:cX B xs):cX B (trim xs):=by rw[iQ];exact h.take _
def cX.append(h:cX B xs)(k:cX B ys):cX B (xs++ys):=λx a=>by
 rcases bv.1 a with h'|h'
 .exact h x h'
 exact k x h'
def nB(B:Nat):cX B []:=λ_ h=>by cases h
def oL(a:x<B)(h:cX B xs):cX B (x::xs):=λy b=>by
 rcases av.1 b with rfl|h'
 .exact a
 exact h y h'
def cX.set(h:cX B xs)(b:x<B):cX B (xs.set i x):=λy c=>by
 rcases lc c with a|rfl
 .exact h y a
 exact b
def cX.get(h:cX B xs)(a:xs[i]? = H x):x<B:=h x (bn a)
def gC(xs:List Nat):Prop:=trim xs=xs
def Ys:∀xs:List Nat,trim (trim xs)=trim xs
 | []=>rfl
 |x::xs=>by
  have ih:=Ys xs;simp only[trim];split
  .rfl
  rename_i h;simp only[trim,ih];rw[K0 h]
def mS(xs:List Nat):gC (trim xs):=Ys xs
def gC.tail(h:gC (x::xs)):gC xs:=by
 unfold gC at *
 simp only[trim] at h;split at h
 .cases h
 simpa using h
def Kj{B:Nat}(a:0<B):∀{xs:List Nat},gC xs->xs≠[]->0<val B xs
 | [],_,h=>Y0 rfl h
 |x::xs,b,_=>by
  simp only[val];by_cases c:xs=[]
  . subst c
    have:x≠0:=by
     rintro rfl;simp[gC,trim] at b
    omega
  have:=Nat.mul_pos a (Kj a b.tail c)
  omega
def xQ{B:Nat}(f:1<B):∀{xs ys:List Nat},cX B xs->cX B ys->gC xs->gC ys->val B xs=val B ys->xs=ys
 | [],[],_,_,_,_,_=>rfl
 | [],y::ys,_,_,_,b,h=>by have:=Kj (B:=B) (by omega) b (by simp);rw[<-h] at this;simp[val] at this
 |x::xs,[],_,_,a,_,h=>by have:=Kj (B:=B) (by omega) a (by simp);rw[h] at this;simp[val] at this
 |x::xs,y::ys,a,b,g,ty,h=>by
  simp only[val] at h;have h1:x<B:=a x (by simp);have h2:y<B:=b y (by simp);have d:x=y:=by
   have:=Y1 (· % B) h;simpa[Nat.add_mul_mod_self_left,kd h1,kd h2] using this
  subst d;have e:val B xs=val B ys:=by
   have:B*val B xs=B*val B ys:=by omega
   exact Nat.eq_of_mul_eq_mul_left (by omega) this
  rw[xQ f (λz c=>a z (by simp[c])) (λz c=>b z (by simp[c])) g.tail ty.tail e]
def Yt(B:Nat):Nat->Nat->List Nat
 |0,_=>[]
 |f+1,n=>if n=0 then [] else (n%B)::Yt B f (n / B)
def digs(B n:Nat):List Nat:=Yt B n n
def Bf{B:Nat}(b:1<B):∀(f n:Nat),n<=f->val B (Yt B f n)=n/\cX B (Yt B f n)/\gC (Yt B f n)
 |0, n, h=> by
  obtain rfl:n=0:= by omega
  exact⟨O,nB B,O⟩
 |f+1,n,h=>by
  simp only[Yt];split
  .rename_i a;exact⟨by simp[val,a],nB B,O⟩
  rename_i a
  have g:n / B<=f:=by
   have:=Nat.div_lt_self (Nat.pos_of_ne_zero a) b;omega
  obtain⟨h1,h2,c⟩:=Bf b f (n / B) g;refine⟨by simp only[val,h1];exact Nat.mod_add_div n B,oL (kj _ (by omega)) h2,?_⟩;unfold gC at *
  simp only[trim,c];rw[K0];rintro⟨d,e⟩;rw[d] at h1;simp only[val] at h1;have:=Nat.mod_add_div n B;rw[e,<-h1] at this;omega
def uI(a:1<B)(n:Nat):val B (digs B n)=n:=(Bf a n n (ba _)).1
def wH(a:1<B)(n:Nat):cX B (digs B n):=(Bf a n n (ba _)).2.1
def rO(a:1<B)(n:Nat):gC (digs B n):=(Bf a n n (ba _)).2.2
def oM(a:1<B)(h:cX B xs)(b:val B xs=n):trim xs=digs B n:=
 xQ a h.trim (wH a n) (mS xs) (rO a n) (by rw[lE,uI a,b])
def uJ(a:1<B):digs B n=[]↔n=0:=by
 constructor
 .intro h;rw[<-uI a n,h];rfl
 rintro rfl;rfl
theorem dU(b:1<B)(h:n<B^k):(digs B n).length<=k:=by
 rcases d_ k (digs B n).length with d|hge
 . exfalso
   have g:(digs B n)≠[]:=by intro f;rw[f] at d;simp at d
   -- the greatest digit is not 0
   have key:∀xs:List Nat,gC xs->xs≠[]->B^(xs.length-1)<=val B xs:=by
    intro xs
    induction xs with
    |nil=>intro _ h;exact Y0 O h
    |cons x xs ih=>
     intro c _;by_cases a:xs=[]
     . subst a
       have:=Kj (B:=B) (by omega) c (by simp);simp[val] at this ⊢;omega
     have:=ih c.tail a
     have h2:xs.length≠0:=by simpa using a
     simp only[be,val,fb];have e:xs.length=(xs.length-1)+1:=by omega
     rw[e,gn];have:=f_ B this
     grind
   have:=key _ (rO b n) g;rw[uI b] at this;have i:B^k<=B^((digs B n).length-1):=fv (by omega) (by omega);omega
 exact hge
/-! ### Numbers as values -/
def fF(n:Int):Bool:=decide (n<0)
def nO(n:Nat):List UInt8:=(digs 256 n).reverse.map fg
def iR(n:Int):ByteArray:=⟨(nO n.natAbs).toArray⟩
def W(n:Int):ak:=.agg #[.bool (fF n),.string (iR n)]
def Bd(k:Nat)(n:Int):Prop:=n.natAbs<2^k
def Bd.mono{b:Nat}{n:Int}(h:Bd a n)(c:a<=b):Bd b n:=cj h (fv (by omega) c)
def Bd.neg{n:Int}(h:Bd a n):Bd a (-n):=by unfold Bd at *;rwa [Int.natAbs_neg]
def Bd.add{b:Nat}{n:Int}(h:Bd a m)(k:Bd b n):Bd (max a b+1) (m+n):=by
 unfold Bd at *
 have h1:(m+n).natAbs<=m.natAbs+n.natAbs:=Int.natAbs_add_le m n;have h2:2^a<=2^max a b:=fv (by omega) (Nat.le_max_left a b);have c:2^b<=2^max a b:=fv (by omega) (Nat.le_max_right a b);rw[gn];omega
def Bd.sub{b:Nat}{n:Int}(h:Bd a m)(k:Bd b n):Bd (max a b+1) (m-n):=by rw[Int.sub_eq_add_neg];exact h.add k.neg
def Bd.mul{b:Nat}{n:Int}(h:Bd a m)(k:Bd b n):Bd (a+b) (m*n):=by
 unfold Bd at *
 rw[Int.natAbs_mul,lq];exact Nat.mul_lt_mul_of_lt_of_lt h k
def Bd.of_i64{n:Int}(a : -9223372036854775808<=n)(h1:n<=9223372036854775807):Bd 64 n:=by
 unfold Bd;omega
def Ra(k:Nat):Bd k 0:=by unfold Bd;exact Nat.two_pow_pos k
def Yu(n:Int):(iR n).size=(digs 256 n.natAbs).length:=by simp[iR,ByteArray.size,nO]
def aaQ{n:Int}(h:Bd k n):(iR n).size<=k:=by
 rw[Yu];refine dU (by omega) (cj h ?_);rw[show 256=2^8 from rfl,<-qo];exact fv (by omega) (by omega)
def acB{m:Nat}(h:nO m=nO n):m=n:=by
 have key:∀k,val 256 (((nO k).map ju).reverse)=k:=by
  intro k;have e:((nO k).map ju).reverse=digs 256 k:=by
   unfold nO;rw[List.map_map,<-List.map_reverse,List.reverse_reverse];have:∀x∈digs 256 k,(ju∘fg) x=x:=by
    intro x a;have:=wH (B:=256) (by omega) k x a;simp;omega
   exact (iv this).trans (List.map_id' _)
  rw[e,uI (by omega)]
 rw[<-key m,<-key n,h]
def aq0{n:Int}(h:W m=W n):m=n:=by
 simp only[W,Value.agg.injEq,Array.mk.injEq,nj,Value.bool.injEq,Value.string.injEq,Y8] at h;obtain⟨h1,h2⟩:=h;have a:m.natAbs=n.natAbs:=by
  have:nO m.natAbs=nO n.natAbs:=by simpa[iR] using h2
  exact acB this
 unfold fF at h1;have:(m<0)↔(n<0):=by simpa using h1
 omega
structure dN(w:an)(A:Option Addr)(n cap:Nat)(xs:List Nat):Prop where
 eq:n=xs.length
 row:∀(i x:Nat),xs[i]? = H x->∃a,A=H a/\w.cell? (a.add i)=H (.int .u64 (x:Int))
 le:xs.length<=cap
 cap:cap<=9223372036854775807
 len:xs.length<=17592186044416
 digs:cX 4294967296 xs
section
variable{w:an}{A:Option Addr}{n cap:Nat}{xs:List Nat}
def dN.ext{w':an}(h:dN w A n cap xs)(b:eQ w w'):dN w' A n cap xs:=
 ⟨h.eq,λi x c=>let ⟨a,e,hc⟩:=h.row i x c;⟨a,e,b.cell hc⟩,h.le,h.cap,h.len,h.digs⟩
def dN.take(h:dN w A n cap xs)(k:Nat):dN w A (xs.take k).length cap (xs.take k):=
 ⟨rfl,λi x a=>h.row i x (by rw[gh] at a;split at a;exact a;cases a),ax (by simp;omega) h.le,h.cap,ax (by simp;omega) h.len,h.digs.take k⟩
def dN.get(h:dN w A n cap xs){i:Nat}(b:i<xs.length):∃a,A=H a/\w.cell? (a.add i)=H (.int .u64 ((xs[i]:Nat):Int))/\xs[i]<4294967296:=
 let ⟨a,e,hc⟩:=h.row i xs[i] (ap b);⟨a,e,hc,h.digs _ (fl b)⟩
def dN.as(h:dN w A n cap xs){ys:List Nat}(e:xs=ys):dN w A n cap ys:=e▸h
end
def rP:∀ys:List Nat,trim (ys++[0])=trim ys
 | []=>by simp[trim]
 |y::ys=>by simp only[de,trim,rP ys]
def tZ{x:Nat}(a:x≠0):∀ys:List Nat,trim (ys++[x])=ys++[x]
 | []=>by simp[trim,a]
 |y::ys=>by simp only[de,trim,tZ a ys];rw[K0 (by simp)]
def Mx(a:0<k)(h:k-1<xs.length):xs.take k=xs.take (k-1)++[xs[k-1]]:=by
 have e:k=(k-1)+1:=by omega
 conv=>lhs;rw[e]
 rw[List.take_succ_eq_append_getElem h]
def Yv(a:0<k)(h:k-1<xs.length)(c:((xs[k-1]:Nat):Int)=0)(b:trim (xs.take k)=trim xs):trim (xs.take (k-1))=trim xs:=by
 rw[<-b,Mx a h,show xs[k-1]=0 by omega,rP]
def acC(a:0<k)(h:k-1<xs.length)(c:¬((xs[k-1]:Nat):Int)=0)(b:trim (xs.take k)=trim xs):k=(trim xs).length:=by
 rw[<-b,Mx a h,tZ (by omega)];simp;omega
def acD(a:trim (xs.take 0)=trim xs):0=(trim xs).length:=by rw[<-a];rfl
/-! ### Words in a block -/
abbrev mT(x:Nat):ak:=.int .u64 (x:Int)
def gH(a:i<os.length):bR (os.map mT) i [mT d]=(os.set i d).map mT:=by
 unfold bR;rw[List.set_eq_take_append_cons_drop,Z9 a];simp[List.map_take,List.map_drop]
def gT(n:Nat):bx n (Value.int .u64 0)=(bx n 0).map mT:=by simp[mT]
def fK.word{g:Nat}{t:bh}(h:fK w g (os.map mT) t)(a:i<os.length):w.cell? ⟨g,i,G0⟩=H (.int .u64 ((os[i]:Nat):Int)):=
 h.cell (by simp[a])
def fK.nat{g:Nat}{t:bh}(h:fK w g (os.map mT) t)(a:cX 4294967296 os)(c:n=os.length)(d:n<=17592186044416):dN w (H ⟨g,0,G0⟩) n n os:=
 ⟨c,λi x b=>⟨_,rfl,by rw[eD,aj];exact h.cell (by simp[b])⟩,by omega,by omega,by omega,a⟩
def iH(n:Nat)(v:ak)(w:an):Prop:=∃A cap,v=.slice A (digs 4294967296 n).length cap/\dN w A (digs 4294967296 n).length cap (digs 4294967296 n)
def iH.of_trim{A:Option Addr}(h:dN w A k cap xs)(b:val 4294967296 xs=n):iH n (.slice A (trim xs).length cap) w:=by
 have e:trim xs=digs 4294967296 n:=oM (by omega) h.digs b;refine⟨A,cap,by rw[e],?_⟩;have a:=h.take (trim xs).length;rw[<-iQ,e] at a;exact a
def zZ(w:an)(v:ak):Prop:=∀a n c,v=.slice (H a) n c->w.heap.size<=a.block
def zZ.of_blk{g off:Nat}(h:w.heap.size<=g):zZ w (.slice (H ⟨g,off,G0⟩) n c):=λa n' b e=>by cases e;exact h
def wI(a:Addr)(i:Nat):(a.add i).block=a.block:=by unfold Addr.add;split<;>rfl
def Chg.cell{w':an}{g:Nat}(h:Chg w w' g){a:Addr}(b:a.block≠g):w'.cell? a=w.cell? a:=by
 unfold World.cell?;rw[h.block _ b]
def dN.chg{w':an}{g:Nat}{A:Option Addr}(h:dN w A n cap xs)(b:Chg w w' g)(d:∀a,A=H a->a.block≠g):dN w' A n cap xs:=
 ⟨h.eq,λi x c=>let ⟨a,e,hc⟩:=h.row i x c;⟨a,e,by rw[b.cell (by rw[wI];exact d a e)];exact hc⟩,h.le,h.cap,h.len,h.digs⟩
/-! ### Sums of digits -/
theorem nP{B:Nat}:∀{os:List Nat}{j d:Nat}(a:j<os.length),val B (os.set j d)+B^j*os[j]=val B os+B^j*d
 |x::xs,0,d,_=>by simp[val];omega
 |x::xs,j+1,d,h=>by
  have ih:=nP (B:=B) (os:=xs) (j:=j) (d:=d) (by simpa using h);simp only[aw,val,List.getElem_cons_succ,gn];have:=Y1 (B * ·) ih;simp only[kx] at this
  grind
def fI(B n:Nat):val B (bx n 0)=0:=by
 induction n with
 |zero=>rfl
 |succ n ih=>simp[List.replicate_succ,val,ih]
def cP(a:i<xs.length):val B (xs.take (i+1))=val B (xs.take i)+B^i*xs[i]:=by
 rw[List.take_succ_eq_append_getElem a,eV,bz,ep (by omega)];simp[val]
def qX(a:xs.length<=i):val B (xs.take i)=val B xs:=by rw[a_ a]
def lM   : (os.set i d).drop (i+1)=os.drop (i+1):=by
 apply gt;intro j;simp only[fa];rw[nq (by omega)]
def iS(h:os.drop i=bx n 0)(a:i<os.length):os[i]=0/\os.drop (i+1)=bx (n-1) 0:=by
 rw[dw a] at h;cases n with
 |zero=>cases h
 |succ n=>simp only[List.replicate_succ,nj] at h;exact⟨h.1,by simpa using h.2⟩
theorem acE{B:Nat}{os:List Nat}{i d c a s t T:Nat}(b:i<os.length)(e:os[i]+s+c=d+B*a)(f:val B os+B^i*c=T)(g:T+B^i*s=t) :
 val B (os.set i d)+B^(i+1)*a=t:=by
 have h1:=nP (B:=B) (d:=d) b;have h2:=Y1 (B^i * ·) e;simp only[kx] at h2;rw[gn]
 grind
/-! ### Order -/
def ord(a b:Nat):Int:=if a<b then -1 else if b<a then 1 else 0
def Hs(g:1<B)(d:cX B xs)(e:k<xs.length)(f:k<ys.length)(c:xs.drop (k+1)=ys.drop (k+1))(h:xs[k]<ys[k]):val B xs<val B ys:=by
 have a:val B xs=val B (xs.take (k+1))+B^(k+1)*val B (xs.drop (k+1)):=by
  conv=>lhs;rw[<-jx (k+1) xs]
  rw[eV,bz,ep (by omega)]
 have b:val B ys=val B (ys.take (k+1))+B^(k+1)*val B (ys.drop (k+1)):=by
  conv=>lhs;rw[<-jx (k+1) ys]
  rw[eV,bz,ep (by omega)]
 rw[a,b,c,cP e,cP f];have h1:=iZ (d.take k);rw[bz,ep (by omega)] at h1;have h2:B^k*(xs[k]+1)<=B^k*ys[k]:=f_ _ h;rw[kx] at h2;omega
def lZ(a:1<B)(b:cX B xs)(c:cX B ys)(ty:gC ys)(h:xs.length<ys.length):val B xs<val B ys:=by
 rcases d_ (val B xs) (val B ys) with d|hge
 .exact d
 exfalso
 have e:ys=digs B (val B ys):=xQ a c (wH a _) ty (rO a _) (by rw[uI a]);have h1:val B ys<B^xs.length:=ig hge (iZ b);have h2:=dU a h1;rw[<-e] at h2;omega
/-! ### The machine's numbers -/
def gU(x:Int):IntKind.u64.wrap x=x%18446744073709551616:=by simp[pg,oo,oa]
def uK(c:0<=s)(h1:s<18446744073709551616):IntKind.u64.wrap ((et IntKind.u64.bits s &&& et IntKind.u64.bits 4294967295).toNat:Int)=s%4294967296:=by
 obtain⟨n,rfl⟩:=Int.eq_ofNat_of_zero_le c;have d:n<18446744073709551616:=by omega
 have e:(et 64 (n:Int) &&& et 64 4294967295).toNat=n%4294967296:=by
  rw[BitVec.toNat_and];have a:(et 64 (n:Int)).toNat=n:=by simp[lh];omega
  have b:(et 64 4294967295).toNat=2^32-1:=by decide
  rw[a,b,Nat.and_two_pow_sub_one_eq_mod]
 show IntKind.u64.wrap ((et 64 (n:Int) &&& et 64 4294967295).toNat:Int)=_
 rw[e,mZ (by omega) (by omega)];omega
def Yw(a:0<=s):s.fdiv (2^(min (32:Int).toNat IntKind.u64.bits))=s / 4294967296:=by
 show s.fdiv (2^32)=_
 rw[jc _ (by decide)];rfl
def aq1(a:0<=s):s.fdiv (2^(min (63:Int).toNat IntKind.u64.bits))=s / 9223372036854775808:=by
 show s.fdiv (2^63)=_
 rw[jc _ (by decide)];rfl
/-! ### Addresses of words -/
def oW{a:Addr}(h:m.toNat=q):a.add (m.toNat*1)=a.add q:=by rw[h,eo]
def qY{a:Addr}(h:m.toNat=q):a.add (m.toNat*c)=a.add (q*c):=by rw[h]
def rQ{g:Nat}(h:m.toNat=q):(⟨g,0,G0⟩:Addr).add (m.toNat*1)=⟨g,q,G0⟩:=by rw[h,eo,eD,aj]
def akb{g:Nat}(h:m.toNat=q):(⟨g,0,G0⟩:Addr).add (m.toNat*c)=⟨g,q*c,G0⟩:=by rw[h,eD,aj]
def dN.at{a:Addr}(h:dN w (H a) n cap xs)(b:i<xs.length):w.cell? (a.add i)=H (.int .u64 ((xs[i]:Nat):Int)):=by
 obtain⟨c,e,hc⟩:=h.row i xs[i] (ap b);cases e;exact hc
/-! ### Rounds -/
def akc(b:cX 4294967296 xs)(e:0<k)(c:k-1<xs.length)(d:k-1<ys.length)(a:xs.drop k=ys.drop k)(h:((xs[k-1]:Nat):Int)<((ys[k-1]:Nat):Int)):val 4294967296 xs<val 4294967296 ys:=
 Hs (by omega) b c d (by rw[show k-1+1=k by omega];exact a) (by omega)
def ah7(d:0<k)(b:k-1<xs.length)(c:k-1<ys.length)(a:xs.drop k=ys.drop k)(h1:¬((xs[k-1]:Nat):Int)<((ys[k-1]:Nat):Int))(h2:¬((ys[k-1]:Nat):Int)<((xs[k-1]:Nat):Int)):xs.drop (k-1)=ys.drop (k-1):=by
 rw[dw b,dw c,show k-1+1=k by omega,a,show xs[k-1]=ys[k-1] by omega]
def Gi{os xs ys:List Nat}{i c s:Nat}(d:i<xs.length)(m:os.length=xs.length+1)(e:val 4294967296 os+4294967296^i*c=val 4294967296 (xs.take i)+val 4294967296 (ys.take i))(f:os.drop i=bx (xs.length+1-i) 0)(b:cX 4294967296 os)(hc:c<=1)
 (j:s=xs[i]+c+ys[i]?.getD 0) (k:xs[i]<4294967296) (l:ys[i]?.getD 0<4294967296) :
 val 4294967296 (os.set i (s%4294967296))+4294967296^(i+1)*(s / 4294967296)=val 4294967296 (xs.take (i+1))+val 4294967296 (ys.take (i+1))/\(os.set i (s%4294967296)).drop (i+1)=bx (xs.length+1-(i+1)) 0/\cX 4294967296 (os.set i (s%4294967296))/\s / 4294967296<=1:=by
 obtain⟨g,h⟩:=iS f (by omega);refine⟨?_,?_,b.set (kj _ (by omega)),by omega⟩
 . refine acE (s:=xs[i]+ys[i]?.getD 0) (by omega) (by rw[g];omega) e ?_
   rw[cP d];by_cases a:i<ys.length
   . rw[cP a,ap a]
     simp only[dt,kx];omega
   rw[da (by omega),qX (xs:=ys) (i:=i+1) (by omega),qX (xs:=ys) (i:=i) (by omega)]
   simp;omega
 rw[lM,h]
 congr 1
def Rb{os xs ys:List Nat}{c:Nat}(f:ys.length<=xs.length)(g:os.length=xs.length+1)(a:val 4294967296 os+4294967296^xs.length*c=val 4294967296 (xs.take xs.length)+val 4294967296 (ys.take xs.length))(b:os.drop xs.length=bx (xs.length+1-xs.length) 0) :
 val 4294967296 (os.set xs.length c)=val 4294967296 xs+val 4294967296 ys:=by
 obtain⟨e,_⟩:=iS b (by omega);have h:=nP (B:=4294967296) (d:=c) (show xs.length<os.length by omega);rw[e] at h;rw[fe,qX f] at a;omega
theorem Yx{os xs ys:List Nat}{i c s:Nat}(f:i<xs.length)(o:os.length=xs.length)(l:val 4294967296 os+val 4294967296 (ys.take i)=val 4294967296 (xs.take i)+4294967296^i*c)(g:os.drop i=bx (xs.length-i) 0)(e:cX 4294967296 os)(hc:c<=1)
 (k:(s:Int)=((xs[i]:Nat)-(c:Nat)-(ys[i]?.getD 0:Nat):Int)%18446744073709551616) (m:xs[i]<4294967296) (n:ys[i]?.getD 0<4294967296) :
 val 4294967296 (os.set i (s%4294967296))+val 4294967296 (ys.take (i+1))=val 4294967296 (xs.take (i+1))+4294967296^(i+1)*(s / 9223372036854775808)/\(os.set i (s%4294967296)).drop (i+1)=bx (xs.length-(i+1)) 0/\cX 4294967296 (os.set i (s%4294967296))/\s / 9223372036854775808<=1:=by
 obtain⟨h,j⟩:=iS g (by omega);have key:xs[i]+4294967296*(s / 9223372036854775808)=s%4294967296+c+ys[i]?.getD 0:=by omega
 refine⟨?_,?_,e.set (kj _ (by omega)),by omega⟩
 . have h1:=nP (B:=4294967296) (d:=s%4294967296) (show i<os.length by omega)
   rw[h] at h1;have h2:=Y1 (4294967296^i * ·) key;simp only[kx] at h2;rw[cP f,gn];have b:val 4294967296 (ys.take (i+1))=val 4294967296 (ys.take i)+4294967296^i*ys[i]?.getD 0:=by
    by_cases a:i<ys.length
    .rw[cP a,ap a];rfl
    rw[da (by omega),qX (xs:=ys) (i:=i+1) (by omega),qX (xs:=ys) (i:=i) (by omega)];rfl
   rw[b]
   grind
 rw[lM,j]
 congr 1
def aoD{os xs ys:List Nat}{c:Nat}(d:ys.length<=xs.length)(e:os.length=xs.length)(a:cX 4294967296 os)(b:val 4294967296 os+val 4294967296 (ys.take xs.length)=val 4294967296 (xs.take xs.length)+4294967296^xs.length*c)(f:val 4294967296 ys<=val 4294967296 xs) :
 val 4294967296 os=val 4294967296 xs-val 4294967296 ys:=by
 rw[fe,qX d] at b;have h:=iZ a;rw[e] at h;have hc:c=0:=by
  rcases fm c with h0|h0
  .exact h0
  have:=f_ (4294967296^xs.length) h0
  omega
 subst hc;omega
theorem ah8{os xs ys:List Nat}{i k c s:Nat}(d:i<xs.length)(a:k<ys.length)(f:os.length=xs.length+ys.length)(b:val 4294967296 os+4294967296^(i+k)*c=val 4294967296 (xs.take i)*val 4294967296 ys+4294967296^i*(xs[i]*val 4294967296 (ys.take k)))
 (e:s=os[i+k]+xs[i]*ys[k]+c):val 4294967296 (os.set (i+k) (s%4294967296))+4294967296^(i+(k+1))*(s / 4294967296)=val 4294967296 (xs.take i)*val 4294967296 ys+4294967296^i*(xs[i]*val 4294967296 (ys.take (k+1))):=by
 refine acE (s:=xs[i]*ys[k]) (i:=i+k) (by omega) (by omega) b ?_;rw[cP a,lq]
 grind
def uL{j:Nat}(h:i<j):(os.set i d).drop j=os.drop j:=by
 apply gt;intro m;simp only[fa];rw[nq (by omega)]
theorem aoE{os xs ys:List Nat}{i c:Nat}(a:i<xs.length)(j:os.length=xs.length+ys.length)(b:val 4294967296 os+4294967296^(i+ys.length)*c=val 4294967296 (xs.take i)*val 4294967296 ys+4294967296^i*(xs[i]*val 4294967296 (ys.take ys.length)))(e:os.drop (i+ys.length)=bx (xs.length-i) 0) :
 val 4294967296 (os.set (i+ys.length) c)=val 4294967296 (xs.take (i+1))*val 4294967296 ys/\(os.set (i+ys.length) c).drop (i+1+ys.length)=bx (xs.length-(i+1)) 0:=by
 obtain⟨f,g⟩:=iS e (by omega);have h:=nP (B:=4294967296) (d:=c) (show i+ys.length<os.length by omega);rw[f] at h;rw[fe] at b;refine⟨?_,?_⟩
 . rw[cP a]
   grind
 rw[show i+1+ys.length=i+ys.length+1 by omega,lM,g]
 congr 1
def akd{y:Nat}(a:x<4294967296)(b:y<4294967296):x*y<=18446744065119617025:=by
 have:=ji (pb a) (pb b);omega
def aoF{y:Nat}(a:x<4294967296)(b:y<4294967296):(0:Int)<=(x:Int)*(y:Int)/\(x:Int)*(y:Int)<=18446744065119617025:=by
 have h:=akd a b;have e:((x*y:Nat):Int)=(x:Int)*(y:Int):=me x y;rw[<-e];omega
/-! ### Shifts,divisions by a word -/
def Bg{m:Nat}(b:n<64)(h:m*2^n<18446744073709551616):IntKind.u64.wrap ((m:Int)*2^(min (n:Int).toNat IntKind.u64.bits))=((m*2^n:Nat):Int):=by
 have e:min (n:Int).toNat IntKind.u64.bits=n:=by
  show min (n:Int).toNat 64=n
  rw[ai];omega
 rw[e];have a:((m:Int)*2^n)=((m*2^n:Nat):Int):=by simp
 rw[a];exact mZ (by omega) (by omega)
def aoG{m:Nat}(a:n<64):(m:Int).fdiv (2^(min (n:Int).toNat IntKind.u64.bits))=((m / 2^n:Nat):Int):=by
 have e:min (n:Int).toNat IntKind.u64.bits=n:=by
  show min (n:Int).toNat 64=n
  rw[ai];omega
 rw[e,jc _ (by exact Int.le_of_lt (Int.pow_pos (by decide)))];simp
def aaS{b s:Nat}(g:a<2^s)(i:b=2^s*c)(h:a+b<18446744073709551616):IntKind.u64.wrap ((et IntKind.u64.bits (a:Int) ||| et IntKind.u64.bits (b:Int)).toNat:Int)=((a+b:Nat):Int):=by
 have e:(et 64 (a:Int) ||| et 64 (b:Int)).toNat=a+b:=by
  rw[BitVec.toNat_or];have d:(et 64 (a:Int)).toNat=a:=by simp[lh];omega
  have f:(et 64 (b:Int)).toNat=b:=by simp[lh];omega
  rw[d,f,Nat.or_comm,i,<-Nat.two_pow_add_eq_or_of_lt g];omega
 show IntKind.u64.wrap ((et 64 (a:Int) ||| et 64 (b:Int)).toNat:Int)=_
 rw[e];exact mZ (by omega) (by omega)
def Rc{b s:Nat}(d:a<2^s)(e:b=2^s*c)(h:a+b<18446744073709551616):IntKind.u64.wrap ((et IntKind.u64.bits (b:Int) ||| et IntKind.u64.bits (a:Int)).toNat:Int)=((a+b:Nat):Int):=by
 have:=aaS d e h;rwa [BitVec.or_comm] at this
def Re{s:Nat}(h:s<18446744073709551616):IntKind.u64.wrap ((et IntKind.u64.bits (s:Int) &&& et IntKind.u64.bits 4294967295).toNat:Int)=((s%4294967296:Nat):Int):=by
 rw[uK (by omega) (by omega)];omega
def Rf{m:Nat}(h:m<18446744073709551616):IntKind.u64.wrap ((m:Int).tdiv (n:Int))=((m / n:Nat):Int):=by
 rw[<-Int.ofNat_tdiv];have:m / n<=m:=mf m n;generalize m / n=q at *
 exact mZ (by omega) (by omega)
def oN{m:Nat}:(m:Int).tmod (n:Int)=((m%n:Nat):Int):=(Int.ofNat_tmod m n).symm
def pF(a:0<k)(h:k-1<xs.length):val B (xs.drop (k-1))=xs[k-1]+B*val B (xs.drop k):=by
 rw[dw h,show k-1+1=k by omega];rfl
theorem acF{os xs:List Nat}{k d r:Nat}(a:0<k)(j:k<=xs.length)(l:os.length=xs.length)(g:val 4294967296 (xs.drop k)=d*val 4294967296 (os.drop k)+r)(f:r<d)(h:cX 4294967296 os)(i:xs[k-1]<4294967296) :
 val 4294967296 (xs.drop (k-1))=d*val 4294967296 ((os.set (k-1) ((xs[k-1]+r*4294967296) / d)).drop (k-1))+(xs[k-1]+r*4294967296)%d/\cX 4294967296 (os.set (k-1) ((xs[k-1]+r*4294967296) / d))/\(xs[k-1]+r*4294967296)%d<d:=by
 refine⟨?_,h.set ?_,kj _ (by omega)⟩
 . have b:=pF (B:=4294967296) a (show k-1<xs.length by omega)
   have c:=pF (B:=4294967296) (xs:=os.set (k-1) ((xs[k-1]+r*4294967296) / d)) a (by simp;omega);have e:(os.set (k-1) ((xs[k-1]+r*4294967296) / d)).drop k=os.drop k:=uL (by omega);rw[b,c,e,ng,g];have:=ov (xs[k-1]+r*4294967296) d
   grind
 have:(xs[k-1]+r*4294967296) / d<4294967296:=by
  rw[jy (by omega)];have:(r+1)*4294967296<=d*4294967296:=gz _ f;omega
 exact this
def Sl{r:Nat}(c:0<d)(b:r<d)(h:a=d*q+r):q=a / d/\r=a%d:=by
 subst h;constructor
 .rw[Nat.mul_add_div c,Nat.div_eq_of_lt b,jk]
 rw[Nat.mul_add_mod,kd b]
end
section
open Go.RowKit
section
variable{P:cg}{ds:List eh}{l:List ak}{x y z0:cw}{T T' ty:bh}
def Sn{A:Option Addr}{n c:Nat}{E:bh}(d:P.underlying T=H (.slice E))(e:ev l x=.slice A n c)(f:ev l y=.slice G0 0 0):iD P l (.binOp .eql T x y T') ty (.bool A.isNone):=λw o b _=>by
 obtain⟨D,a⟩:∃D,Op.maxDepth=D+1:=⟨9999,rfl⟩
 cases A<;>simp[N,b,cK,e,f,eqGuard,binOp,Op.equal,a,Op.equalIn,cq d]
variable{ops:Array Oper}{Q:Exit->Act->an->Prop}{rest:List Oper}{d:Nat}{pos:String}{after:Array Edge}{w:an}
def aoH{op:Op}{v:ak}{w':an}(b:∀o:Oper,o.op=op->(N (Fr l).eval o).run P w=.ok (.value v) w')(h:bf P ops Q rest (Fr l ds) w'):bf P ops Q (ci G0 op ty pos after G0::rest) (Fr l ds) w:=by
 refine wpList_plain O λK a=>?_;unfold oh;rw[iP,b _ rfl];exact a _ _ h
def aaT:rv (λ(_:Nat)=>(default:ak)) (q_ 0) = #[]:=Array.eq_empty_of_size_eq_zero (by simp)
def aaU(z v:ak):(rv (λx=>[z][x%1]?.getD default) (q_ 1)).setIfInBounds 0 v = #[v]:=by
 apply ry (by simp);intro i h1 h2;obtain rfl:i=0:=by simpa using h2
 simp
def Kk(z v v2:ak):((rv (λx=>[z][x%1]?.getD default) (q_ 2)).setIfInBounds 0 v).setIfInBounds 1 v2 = #[v,v2]:=by
 apply ry (by simp);intro i h1 h2;have a:i<2:=by simpa using h2
 rcases d_ i 1 with h|h
 . obtain rfl:i=0:=by omega
   simp
 obtain rfl:i=1:=by omega
 simp
def Kl{E:bh}{c:Nat}(f:P.underlying T=H (.slice E))(a:(P.info? E).map (λi=>i.size)=H c)
 (h:∀w' g,eQ w w'->w.heap.size<=g->fK w' g [] E->bf P ops Q rest (Fr (l.set d (.slice (H ⟨g,0,G0⟩) 0 0)) ds) w') :
 bf P ops Q (ci (H d) (.buildSlice T 0 #[]) ty pos after G0::rest) (Fr l ds) w:=by
 cases b:P.info? E with
 |none=>rw[b] at a;cases a
 |some i=>
  exact lK (w':=w.alloc (.cells #[] E)) (v:=.slice (H ⟨w.heap.size,0,G0⟩) 0 0) (λo e _=>by simp[N,e,Instr.buildSlice,cq f,sizeOf,typeInfo,b,Instr.fill,newRow,newObj,Sem.run,aaT]) (h _ _ ((eQ.refl w).alloc _) (ba _) (jH w [] E))
def fR{E:bh}{z:ak}(j:P.underlying T=H (.slice E))(a:(P.info? E).map (λi=>(i.size,i.zero))=H (1,H z))(n:z.cells = #[z]){v:ak}(m:ev l x=v)(k:v.cells = #[v])
 (h:∀w' g,eQ w w'->w.heap.size<=g->fK w' g [v] E->bf P ops Q rest (Fr (l.set d (.slice (H ⟨g,0,G0⟩) 1 1)) ds) w') :
 bf P ops Q (ci (H d) (.buildSlice T 1 #[(0,x)]) ty pos after G0::rest) (Fr l ds) w:=by
 cases b:P.info? E with
 |none=>rw[b] at a;cases a
 |some i=>
  rw[b] at a;simp only[fw,gu,fy] at a;obtain⟨c,e⟩:=a;exact lK (w':=w.alloc (.cells #[v] E)) (v:=.slice (H ⟨w.heap.size,0,G0⟩) 1 1) (λo f _=>by simp[N,f,Instr.buildSlice,cq j,sizeOf,typeInfo,zeroValue,b,c,e,n,cK,m,k,Instr.fill,newRow,newObj,Sem.run,aaU]) (h _ _ ((eQ.refl w).alloc _) (ba _) (jH w [v] E))
def acG{E:bh}{z:ak}(j:P.underlying T=H (.slice E))(a:(P.info? E).map (λi=>(i.size,i.zero))=H (1,H z))(p:z.cells = #[z]){v v2:ak}(m:ev l x=v)(k:v.cells = #[v])(n:ev l y=v2)(q:v2.cells = #[v2])
 (h:∀w' g,eQ w w'->w.heap.size<=g->fK w' g [v,v2] E->bf P ops Q rest (Fr (l.set d (.slice (H ⟨g,0,G0⟩) 2 2)) ds) w') :
 bf P ops Q (ci (H d) (.buildSlice T 2 #[(0,x),(1,y)]) ty pos after G0::rest) (Fr l ds) w:=by
 cases b:P.info? E with
 |none=>rw[b] at a;cases a
 |some i=>
  rw[b] at a;simp only[fw,gu,fy] at a;obtain⟨c,e⟩:=a;exact lK (w':=w.alloc (.cells #[v,v2] E)) (v:=.slice (H ⟨w.heap.size,0,G0⟩) 2 2) (λo f _=>by simp[N,f,Instr.buildSlice,cq j,sizeOf,typeInfo,zeroValue,b,c,e,p,cK,m,k,n,q,Instr.fill,newRow,newObj,Sem.run,Kk]) (h _ _ ((eQ.refl w).alloc _) (ba _) (jH w [v,v2] E))
def aoI{E:bh}{z:ak}{g o n cap:Nat}{cs:List ak}{t:bh}{a0:Array bh}(k:a0 = #[T])(c:P.underlying T=H (.slice E))(a:(P.info? E).map (λi=>(i.size,i.zero))=H (1,H z))(r:z.cells = #[z])(q:ev l x=.slice (H ⟨g,o,G0⟩) n cap)(B:0<n)(d:fK w g cs t)(y:o+n<=cs.length)(h1:z.oneCell'=Z)
 (h:∀w',Chg w w' g->fK w' g (bR cs o (bx n z)) t->bf P ops Q rest (Fr l ds) w') :
 bf P ops Q (ci G0 (.call { callee:=.builtin .clear,args:=#[x],argTypes:=a0 }) ty pos after G0::rest) (Fr l ds) w:=by
 subst k;cases b:P.info? E with
 |none=>rw[b] at a;cases a
 |some i=>
  rw[b] at a;simp only[fw,gu,fy] at a;obtain⟨A,f⟩:=a;have s:(Builtin.zeroCells z.cells n).toList=bx n z:=by
   rw[r];apply List.ext_getElem
   .simp[Builtin.zeroCells]
   intro j h1 h2
   simp[Builtin.zeroCells,Nat.mod_one]
  have e:=run_storeCells_at P g o t (bx n z) 0 cs.toArray w d (by simpa using y) (λu c=>by rw[fc c];exact h1);simp only[jk,dx] at e;obtain⟨n,rfl⟩:∃m,n=m+1:=⟨n-1,by omega⟩
  refine aoH (v:=.tuple #[]) (w':=w.setRow g (bR cs o (bx (n+1) z)).toArray) (λo' p=>?_) (h _ (Bc w g _) (setRow_heap w g cs.toArray _ t _ d));simp[N,p,resolve,invoke,builtin,cK,q,Builtin.clear_,cq c,zeroValue,typeInfo,b,f,s,e,bR]
def ake{cs:List ak}{off:Nat}:bR cs off []=cs:=by simp[bR]
end
end
section
variable{m x n cap:Nat}{w:an}{xs:List Nat}
def aaV  : (m:Int).fdiv (2^(min (32:Int).toNat IntKind.u64.bits))=((m / 4294967296:Nat):Int):=by
 rw[Yw (by omega)];omega
def arT  : (m:Int).fdiv (2^(min (31:Int).toNat IntKind.u64.bits))=((m / 2147483648:Nat):Int):=by
 show (m:Int).fdiv (2^31)=_
 rw[jc _ (by decide)];omega
def Rg(a:n<=32):x*2^n%4294967296=2^n*(x%2^(32-n)):=by
 have e:(4294967296:Nat)=2^n*2^(32-n):=by rw[<-lq,show n+(32-n)=32 by omega]
 rw[jb,e,Nat.mul_mod_mul_left]
def Aa(a:n<=32):(4294967296:Nat)=2^n*2^(32-n):=by rw[<-lq,show n+(32-n)=32 by omega]
def aeG(a:n<=32)(b:x<4294967296):x*2^n<18446744073709551616:=by
 have h1:2^n<=2^32:=fv (by omega) a;have h2:x*2^n<=x*2^32:=f_ _ h1;omega
def Rh{a:Nat}(b:n<=32)(c:a<2^n):a+x*2^n%4294967296<4294967296:=by
 rw[Rg b];have h1:x%2^(32-n)<2^(32-n):=kj _ (ky (by omega));have h2:2^n*(x%2^(32-n)+1)<=2^n*2^(32-n):=f_ _ h1;rw[<-Aa b,kx] at h2;omega
def aoJ(a:x<4294967296):x*2^n / 4294967296<2^n:=by
 rw[jy (by omega),jb (2^n)];exact Nat.mul_lt_mul_of_pos_right a (ky (by omega))
theorem acH{os xs:List Nat}{i n:Nat}(s:n<=31)(j:i<xs.length)(w:os.length=xs.length+1)(v:val 4294967296 os=2^n*val 4294967296 (xs.take i))(m:os.drop (i+1)=bx (xs.length-i) 0)(f:cX 4294967296 os)(h1:i<os.length)(hc:os[i]<2^n)(l:xs[i]<4294967296) :
 val 4294967296 ((os.set i (os[i]+xs[i]*2^n%4294967296)).set (i+1) (xs[i]*2^n / 4294967296))=2^n*val 4294967296 (xs.take (i+1))/\((os.set i (os[i]+xs[i]*2^n%4294967296)).set (i+1) (xs[i]*2^n / 4294967296)).drop (i+1+1)=bx (xs.length-(i+1)) 0/\cX 4294967296 ((os.set i (os[i]+xs[i]*2^n%4294967296)).set (i+1) (xs[i]*2^n / 4294967296))/\(∀h:i+1<((os.set i (os[i]+xs[i]*2^n%4294967296)).set (i+1) (xs[i]*2^n / 4294967296)).length,((os.set i (os[i]+xs[i]*2^n%4294967296)).set (i+1) (xs[i]*2^n / 4294967296))[i+1]<2^n):=by
 obtain⟨o,p⟩:=iS m (by omega);have k:=aoJ (n:=n) l;have g:=Rh (x:=xs[i]) (by omega) hc;have u:2^n<=2^32:=fv (by omega) (by omega);refine⟨?_,?_,(f.set g).set (by omega),?_⟩
 . have b:=nP (B:=4294967296) (d:=os[i]+xs[i]*2^n%4294967296) h1
   have a:=nP (B:=4294967296) (os:=os.set i (os[i]+xs[i]*2^n%4294967296)) (d:=xs[i]*2^n / 4294967296) (show i+1<_ by simp;omega);rw[nz (by omega),o] at a;rw[cP j];have c:=ov (xs[i]*2^n) 4294967296;generalize xs[i]*2^n / 4294967296=t at *
   generalize q:xs[i]*2^n%4294967296=r at *
   rw[gn] at a;have e:=Y1 (4294967296^i * ·) c;simp only[kx] at e b
   grind
 . rw[lM,uL (by omega),p]
   congr 1
 intro h
 rw[ng];exact k
def akf(a:n<=32)(b:x<4294967296):x / 2^n<2^(32-n):=by
 rw[jy (ky (by omega)),jb,<-Aa a];exact b
def Xk{os xs:List Nat}{n:Nat}(j:n<=32)(e:0<xs.length)(k:os.length=xs.length)(b:val 4294967296 os=val 4294967296 (xs.take 0) / 2^n)(g:os.drop 0=bx (xs.length-0) 0)(c:cX 4294967296 os)(f:xs[0]<4294967296) :
 val 4294967296 (os.set 0 (xs[0] / 2^n))=val 4294967296 (xs.take (0+1)) / 2^n/\(os.set 0 (xs[0] / 2^n)).drop (0+1)=bx (xs.length-(0+1)) 0/\cX 4294967296 (os.set 0 (xs[0] / 2^n)):=by
 obtain⟨h,i⟩:=iS g (by omega);refine⟨?_,?_,c.set (ig (mf _ _) f)⟩
 . have a:=nP (B:=4294967296) (d:=xs[0] / 2^n) (show 0<os.length by omega)
   rw[h] at a;rw[cP e];simp only[jz,val,Nat.pow_zero,kz,aj] at b a ⊢;rw[Nat.zero_div] at b;omega
 rw[lM,i]
 congr 1
theorem Xl{V i:Nat}(b:V<4294967296^(i+1))(a:n<=32):(V+4294967296^(i+1)*x) / 2^n=V / 2^n+4294967296^i*(2^(32-n)*x):=by
 have e:4294967296^(i+1)*x=2^n*(4294967296^i*(2^(32-n)*x)):=by
  rw[gn];have:=Aa a;generalize 2^n=p at *
  generalize 2^(32-n)=q at *
  rw[this]
  grind
 rw[e,Nat.add_mul_div_left _ _ (ky (by omega))]
theorem Xm{os xs:List Nat}{j n:Nat}(f:n<=32)(e:j+1<xs.length)(w:os.length=xs.length)(m:val 4294967296 os=val 4294967296 (xs.take (j+1)) / 2^n)(s:os.drop (j+1)=bx (xs.length-(j+1)) 0)(k:cX 4294967296 os)(g:cX 4294967296 xs)(h1:j<os.length)(hc:os[j]<2^(32-n)) :
 val 4294967296 ((os.set (j+1) (xs[j+1] / 2^n)).set j (os[j]+xs[j+1]*2^(32-n)%4294967296))=val 4294967296 (xs.take (j+1+1)) / 2^n/\((os.set (j+1) (xs[j+1] / 2^n)).set j (os[j]+xs[j+1]*2^(32-n)%4294967296)).drop (j+1+1)=bx (xs.length-(j+1+1)) 0/\cX 4294967296 ((os.set (j+1) (xs[j+1] / 2^n)).set j (os[j]+xs[j+1]*2^(32-n)%4294967296)):=by
 obtain⟨u,v⟩:=iS s (by omega);have o:xs[j+1]<4294967296:=g _ (fl e);have l:=Rh (x:=xs[j+1]) (n:=32-n) (by omega) hc;refine⟨?_,?_,(k.set (ig (mf _ _) o)).set l⟩
 . have a:=nP (B:=4294967296) (d:=xs[j+1] / 2^n) (show j+1<os.length by omega)
   have b:=nP (B:=4294967296) (os:=os.set (j+1) (xs[j+1] / 2^n)) (j:=j) (d:=os[j]+xs[j+1]*2^(32-n)%4294967296) (by simp;omega);rw[nz (by omega)] at b;rw[u] at a;have c:=iZ (g.take (j+1));rw[bz,ep (by omega)] at c;rw[cP e,Xl c f,<-m];have h:2^(32-n)*xs[j+1]=4294967296*(xs[j+1] / 2^n)+xs[j+1]*2^(32-n)%4294967296:=by
    rw[Rg (by omega),show 32-(32-n)=n by omega];have i:=ov xs[j+1] (2^n);have:=Aa f;generalize 2^n=p at *
    generalize 2^(32-n)=q at *
    conv=>lhs;rw[<-i]
    rw[this]
    grind
   rw[h,kx];generalize xs[j+1]*2^(32-n)%4294967296=r at *
   generalize xs[j+1] / 2^n=t at *
   rw[gn] at a;simp only[kx] at b
   grind
 rw[uL (by omega),lM,v]
 congr 1
/-! ### Slices of words -/
def dN.nil(w:an):dN w G0 0 0 []:=⟨rfl,λi x a=>by simp at a,ba _,by omega,by simp,λx b=>by cases b⟩
def dN.drop{a:Addr}(h:dN w (H a) n cap xs){k:Nat}(q:k<=xs.length)(d:m=n-k):dN w (H (a.add k)) m (cap-k) (xs.drop k):=by
 have r:=h.len;have hc:=h.cap;have c:=h.eq;have t:=h.le;refine⟨by rw[d,c];simp,λi x b=>⟨_,rfl,?_⟩,by simp;omega,by omega,by simp;omega,λx f=>h.digs x (qn f)⟩;obtain⟨p,e,o⟩:=h.row (k+i) x (by rw[fa] at b;exact b);cases e;rw[show (a.add k).add i=a.add (k+i) from ?_]
 .exact o
 obtain⟨g,off,s⟩:=a
 by_cases l:k=0<;>by_cases j:i=0<;>simp[Addr.add,l,j,qk]
def dN.head{A:Option Addr}(h:dN w A n cap xs){k:Nat}(a:k<=xs.length):dN w A k cap (xs.take k):=by
 have:=h.take k;rwa [bz,ep a] at this
def dN.of_owns{base:Nat}{v:ak}{E:bh}(h:zY w base E 1 v n (xs.map mT))(f:n=xs.length)(b:cX 4294967296 xs)(k:n<=17592186044416):∃A c,v=.slice A n c/\dN w A n c xs:=by
 rcases h.row with ⟨rfl,a,h1⟩|⟨g,cap,rfl,_,hc,e,_,j⟩
 . subst a
   have:xs=[]:=by simpa using h1
   subst this;exact⟨_,_,O,dN.nil w⟩
 refine⟨_,_,O,f,λi x d=>⟨_,O,j i (mT x) (by rw[fi,d];rfl)⟩,by omega,e,by omega,b⟩
def dN.none{w:an}{n cap:Nat}{xs:List Nat}(h:dN w G0 n cap xs):xs=[]:=by
 cases xs with
 |nil=>rfl
 |cons x xs=>obtain⟨a,e,_⟩:=h.row 0 x rfl;cases e
def aoK(xs:List Nat)(v:ak)(w:an):Prop:=∃A c,v=.slice A xs.length c/\dN w A xs.length c xs
end
section
open Go.RowKit
variable{w:an}
def au8{P:cg}{l:List ak}{fn:Func}{R:Ending->an->Prop}(b:fn.results = #[])(a:R (.returned (.tuple #[])) w):bodyPost P fn R .ret (Fr l) w:=by
 refine⟨O,_,?_,a⟩;unfold results;rw[b];simp
def So{P:cg}{l:List ak}{fn:Func}{R:Ending->an->Prop}(b:fn.results = #[])(a:R (.returned (.tuple #[])) w):bodyPost P fn R .normal (Fr l) w:=au8 b a
structure Upd(w w':an)(g:Nat):Prop where
 os:w'.os=w.os
 tape:w'.tape=w.tape
 output:w'.output=w.output
 size:w.heap.size<=w'.heap.size
 block:∀k,k<w.heap.size->k≠g->w'.heap[k]? = w.heap[k]?
def eQ.upd{w':an}(h:eQ w w')(g:Nat):Upd w w' g:=⟨h.os,h.tape,h.output,h.size,λk a _=>Below.block h k a⟩
def Upd.chg{w' b:an}{g k:Nat}(h:Upd w w' g)(a:Chg w' b k)(e:w.heap.size<=k\/k=g):Upd w b g:=
 ⟨a.os.trans h.os,a.tape.trans h.tape,a.output.trans h.output,by rw[a.size];exact h.size,λj c d=>(a.block j (by omega)).trans (h.block j c d)⟩
def akg(P:cg)(f:FuncId)(args:List ak)(w:an)(g:Nat)(R:ak->an->Prop):Prop:=
 Entr P f/\Calls P f args.toArray w λe w'=>∃v,e=.returned v/\Upd w w' g/\R v w'
section
variable{P:cg}{ds:List eh}{l:List ak}{x y:cw}{ty:bh}{w:an}
variable{ops:Array Oper}{Q:Exit->Act->an->Prop}{rest:List Oper}{d:Nat}{pos:String}{after:Array Edge}
def aoL{T:bh}{E:bh}{g o n cap m i:Nat}{A:Option Addr}{cs us:List ak}{t:bh}{T':bh}{a0:Array bh}(B:a0 = #[T,T'])(q:P.underlying T=H (.slice E))(k:(P.info? E).map (·.size)=H 1)(r:ev l x=.slice (H ⟨g,o,G0⟩) n cap)(s:ev l y=.slice A m i)(p:us.length=Nat.min m n)
 (z:∀j v,us[j]? = H v->∃a,A=H a/\w.cell? (a.add j)=H v) (c:fK w g cs t) (D:o+us.length<=cs.length) (h1:∀v∈us,v.oneCell'=Z)
 (h:∀w',Chg w w' g->fK w' g (bR cs o us) t->bf P ops Q rest (Fr (l.set d (G (us.length:Int))) ds) w') :
 bf P ops Q (ci (H d) (.call { callee:=.builtin .copy,args:=#[x,y],argTypes:=a0 }) ty pos after G0::rest) (Fr l ds) w:=by
 subst B;cases us with
 |nil=>
  refine lK (v:=G 0) (w':=w) (λo' f _=>?_) (h w ⟨O,O,O,O,λ_ _=>rfl⟩ (by rw[ake];exact c));have b:=run_copy_none (P:=P) w T T' o'.type E (H ⟨g,o,G0⟩) A n cap m i q k p.symm;simp[N,f,resolve,invoke,builtin,cK,r,s,b,goInt]
 |cons u us=>
  obtain⟨a,rfl,_⟩:=z 0 u rfl;refine lK (v:=G ((u::us).length:Int)) (w':=w.setRow g (bR cs o (u::us)).toArray) (λo' f _=>?_) (h _ (Bc w g _) (setRow_heap w g cs.toArray _ t _ c));have b:=run_copy_row (P:=P) w T T' o'.type E g o n cap a m i cs.toArray t (u::us) q k c p (λj v C=>let ⟨F,e,hc⟩:=z j v C;by cases e;exact hc) (by simpa using D) h1;simp only[dx] at b;simp[N,f,resolve,invoke,builtin,cK,r,s,b,bR,goInt]
end
end
section
variable{a n cap off m P v7 two top q two3 v2 i sh sec a3:Nat}{w:an}{xs os us vs ys:List Nat}
def akh{b:Nat}:decide (ord a b<0)=decide (a<b):=by
 unfold ord;split
 .simp[*]
 split<;>simp[*]
def dN.src{A:Option Addr}(h:dN w A n cap xs):∀(j:Nat)(v:ak),(xs.map mT)[j]? = H v->∃a,A=H a/\w.cell? (a.add j)=H v:=by
 intro j v b;rw[fi] at b;cases c:xs[j]? with
 |none=>rw[c] at b;cases b
 |some x=>
  rw[c] at b;cases b;exact h.row j x c
def aki  : ∀u∈xs.map mT,u.oneCell'=Z:=λu a=>by obtain⟨x,_,rfl⟩:=List.mem_map.1 a;rfl
def cS(n:Nat):val 4294967296 (digs 4294967296 n)=n:=uI (by omega) n
def gW(n:Nat):gC (digs 4294967296 n):=rO (by omega) n
def mL(n:Nat):cX 4294967296 (digs 4294967296 n):=wH (by omega) n
def wV(d:Nat):val 4294967296 [d]=d:=by simp[val]
def Ab{d:Nat}(h:d<4294967296):cX 4294967296 [d]:=λx a=>by simp at a;omega
def kJ(xs:List Nat):(trim xs).length<=xs.length:=by rw[iQ];simp;omega
def vG(h:cX 4294967296 xs):(digs 4294967296 (val 4294967296 xs)).length<=xs.length:=dU (by omega) (iZ h)
def Qt{d:Nat}(h:cX 4294967296 xs)(a:d<4294967296):(digs 4294967296 (val 4294967296 xs*d)).length<=xs.length+1:=by
 refine dU (by omega) ?_;rw[gn];exact Nat.mul_lt_mul'' (iZ h) a
def laid(os:List Nat)(off n m:Nat):List Nat:=os.take off++(digs 4294967296 m++bx (n-(digs 4294967296 m).length) 0)++os.drop (off+n)
def acI(h:off+n<=os.length)(a:(digs 4294967296 m).length<=n):(laid os off n m).length=os.length:=by
 simp[laid];omega
def Gj(a:cX 4294967296 os):cX 4294967296 (laid os off n m):=
 ((a.take _).append ((mL m).append λx b=>by rw[fc b];decide)).append (a.drop _)
theorem akj{os:List Nat}{off n m:Nat}(h:off+n<=os.length)(c:(digs 4294967296 m).length<=n) :
 val 4294967296 (laid os off n m)+4294967296^off*val 4294967296 ((os.drop off).take n)=val 4294967296 os+4294967296^off*m:=by
 have a:val 4294967296 os=val 4294967296 (os.take off)+4294967296^off*(val 4294967296 ((os.drop off).take n)+4294967296^n*val 4294967296 (os.drop (off+n))):=by
  have e:os=os.take off++((os.drop off).take n++os.drop (off+n)):=by
   rw[<-qv,jx,jx]
  conv=>lhs;rw[e]
  rw[eV,eV];simp only[bz,ix];rw[ep (by omega),ep (by omega)]
 have b:val 4294967296 (laid os off n m)=val 4294967296 (os.take off)+4294967296^off*(m+4294967296^n*val 4294967296 (os.drop (off+n))):=by
  unfold laid;rw[dm,eV,eV,eV,fI,cS];simp only[bz,bg,nh];rw[ep (by omega),show (digs 4294967296 m).length+(n-(digs 4294967296 m).length)=n by omega];simp
 rw[a,b]
 grind
def ah9{cs us vs:List ak}(h:off+us.length<=cs.length)(b:vs.length<=us.length):bR (bR cs off us) off vs=cs.take off++(vs++us.drop vs.length)++cs.drop (off+us.length):=by
 have a:(cs.take off).length=off:=by simp;omega
 unfold bR;generalize cs.take off=A at *
 generalize cs.drop (off+us.length)=C at *
 subst a;rw[dm A us C,List.take_left' rfl,od,List.drop_eq_nil_of_le (by omega),Nat.add_sub_cancel_left,List.drop_append_of_le_length b];simp
def aia{os:List Nat}{off n m:Nat}(h:off+n<=os.length)(a:(digs 4294967296 m).length<=n) :
 bR (bR (os.map mT) off (bx n (.int .u64 0))) off ((digs 4294967296 m).map mT)=(laid os off n m).map mT:=by
 rw[ah9 (by simpa using h) (by simpa using a)];simp[laid,List.drop_replicate,mT,List.map_take,List.map_drop]
def yJ{B:Nat}(xs:List Nat){k:Nat}(a:k<=xs.length):val B xs=val B (xs.take k)+B^k*val B (xs.drop k):=by
 conv=>lhs;rw[<-jx k xs]
 rw[eV,bz,ep a]
def akk{V:Nat}(c:0<P)(d:v7<(two+1)*P)(a:top*P<=V)(e:q*V<=v7)(b:0<top):q<=two / top:=by
 rw[Nat.le_div_iff_mul_le b];have h1:q*(top*P)<=q*V:=f_ _ a;have h2:(q*top)*P<(two+1)*P:=by rw[rd];omega
 have:=my h2;omega
def akl{V g:Nat}(c:0<P)(d:v7<(two3+1)*P)(a:v2*P<=V)(e:q*V<=v7)(h:two3<g*v2):q<g:=by
 rcases d_ q g with b|hge
 .exact b
 exfalso
 have h1:g*(v2*P)<=q*V:=ji hge a;have h2:(g*v2)*P<(two3+1)*P:=by rw[rd];omega
 have:=my h2;omega
def acJ{V g:Nat}(d:two3*P<=v7)(c:V<(v2+1)*P)(i:v7<(q+1)*V)(h:g*v2<=two3)(f:g<=v2):g<=q+1:=by
 rcases d_ (q+1) g with j|hge
 . exfalso
   obtain⟨e,rfl⟩:∃e,g=e+1:=⟨g-1,by omega⟩
   have h1:(q+1)*V<=e*V:=gz _ (by omega);have h2:e*V<=e*((v2+1)*P):=f_ _ (Nat.le_of_lt c);have a:two3*P<(e*(v2+1))*P:=by rw[rd];omega
   have b:=my a;rw[kx] at b;rw[ik] at h;omega
 exact hge
def Yy{V g:Nat}(b:q*V<=v7)(c:v7<(q+1)*V)(h1:q<=g)(h2:g<=q+1):(v7<V*g->g-1=q)/\(¬v7<V*g->g=q):=by
 constructor
 . intro h
   rcases d_ q g with a|hge
   .omega
   have:V*g<=V*q:=f_ _ hge
   rw[jb V q] at this;omega
 intro h
 rcases d_ q g with a|hge
 . have:(q+1)*V<=g*V:=gz _ a
   rw[jb V g] at h;omega
 omega
def Xn(h:off+n<=os.length)(b:(digs 4294967296 m).length<=n):val 4294967296 ((laid os off n m).drop off)=m+4294967296^n*val 4294967296 (os.drop (off+n)):=by
 have a:(os.take off).length=off:=by simp;omega
 unfold laid;rw[dm,od,List.drop_eq_nil_of_le (by omega),a,Nat.sub_self,lv,cl,eV,eV,fI,cS];simp only[bg,nh];rw[show (digs 4294967296 m).length+(n-(digs 4294967296 m).length)=n by omega];simp
def Yz(a:cX 4294967296 vs)(c:i+vs.length+1<=us.length)(b:val 4294967296 (us.drop (i+1))<val 4294967296 vs):val 4294967296 (us.drop (i+(vs.length+1)))=0:=by
 have h1:=iZ a;have h2:=yJ (B:=4294967296) (us.drop (i+1)) (k:=vs.length) (by simp;omega);rw[qv,show i+1+vs.length=i+(vs.length+1) by omega] at h2;rcases fm (val 4294967296 (us.drop (i+(vs.length+1)))) with h|h
 .exact h
 have:=f_ (4294967296^vs.length) h
 omega
def Km(b:cX 4294967296 vs)(c:i+vs.length+1<=us.length)(a:val 4294967296 (us.drop (i+1))<val 4294967296 vs):val 4294967296 (us.drop i)=val 4294967296 ((us.drop i).take (vs.length+1)):=by
 have h2:=yJ (B:=4294967296) (us.drop i) (k:=vs.length+1) (by simp;omega);rw[qv,Yz b c a,jm,jk] at h2;exact h2
def aoM(b:cX 4294967296 us)(a:i<us.length)(c:val 4294967296 (us.drop (i+1))<val 4294967296 vs):val 4294967296 (us.drop i)<4294967296*val 4294967296 vs:=by
 have e:=pF (B:=4294967296) (xs:=us) (k:=i+1) (by omega) (by simpa using a);simp only[fb] at e;have:=b us[i] (fl a);omega
theorem akm{us:List Nat}{j n:Nat}(h:cX 4294967296 us)(m:2<=n)(k:j+n<us.length) :
 val 4294967296 ((us.drop j).take (n+1))=(us[j+n]*4294967296+us[j+n-1])*4294967296^(n-1)+us[j+n-2]*4294967296^(n-2)+val 4294967296 ((us.drop j).take (n-2))/\val 4294967296 ((us.drop j).take (n-2))<4294967296^(n-2):=by
 have l:(us.drop j).length=us.length-j:=by simp
 have c:=cP (B:=4294967296) (xs:=us.drop j) (i:=n) (by omega);have a:=cP (B:=4294967296) (xs:=us.drop j) (i:=n-1) (by omega);have b:=cP (B:=4294967296) (xs:=us.drop j) (i:=n-2) (by omega);rw[show n-1+1=n by omega] at a;rw[show n-2+1=n-1 by omega] at b;simp only[List.getElem_drop] at c a b;have f:us[j+(n-1)]=us[j+n-1]:=getElem_congr rfl (by omega) _;have g:us[j+(n-2)]=us[j+n-2]:=getElem_congr rfl (by omega) _;rw[f] at a;rw[g] at b;have e:(4294967296:Nat)^n=4294967296*4294967296^(n-1):=by rw[<-qm];congr 1;omega
 have d:=iZ ((h.drop j).take (n-2));rw[bz,ep (by omega)] at d;refine⟨?_,d⟩;rw[c,a,b,e]
 grind
def Bh{b:Nat}:ord a b<0↔a<b:=by
 have:=@akh a b;simpa using this
def iH.self{A:Option Addr}{c:Nat}(h:dN w A n c xs)(t:gC xs):iH (val 4294967296 xs) (.slice A n c) w:=by
 have:=iH.of_trim h rfl;rw[t] at this;rw[h.eq];exact this
def iH.zero(w:an):iH 0 (.slice G0 0 0) w:=⟨G0,0,rfl,dN.nil w⟩
def Dw(t:gC xs)(h:0<xs.length):0<xs[xs.length-1]:=by
 rcases fm (xs[xs.length-1]) with h0|h0
 . exfalso
   have e:=Mx (xs:=xs) (k:=xs.length) h (by omega);rw[fe,h0] at e;have t2:trim xs=trim (xs.take (xs.length-1)):=by conv=>lhs;rw[e,rP]
   have t3:(trim xs).length=xs.length:=by rw[t]
   have t4:=kJ (xs.take (xs.length-1));rw[<-t2,t3] at t4;simp at t4;omega
 exact h0
def uM{g:Nat}(h:fK w g (os.map mT) 231)(a:cX 4294967296 os)(b:os.length<=17592186044416):dN w (H ⟨g,0,G0⟩) (trim os).length os.length (trim os):=by
 have:=(h.nat a rfl b).take (trim os).length;rwa [<-iQ] at this
def aaW(h:0<ys.length):val 4294967296 ys=val 4294967296 (ys.take (ys.length-1))+4294967296^(ys.length-1)*ys[ys.length-1]:=by
 have e:=cP (B:=4294967296) (xs:=ys) (i:=ys.length-1) (by omega);rw[show ys.length-1+1=ys.length by omega,fe] at e;exact e
theorem aib(b:cX 4294967296 vs)(f:val 4294967296 vs=2^sh*val 4294967296 ys)(s:cX 4294967296 ys)(h:0<ys.length)(c:ys[ys.length-1]*2^sh<4294967296)(q:0<ys[ys.length-1])(y:sh<=31):(trim vs).length=ys.length:=by
 have e:trim vs=digs 4294967296 (2^sh*val 4294967296 ys):=oM (by omega) b f;have r:=aaW h;have p:=iZ (s.take (ys.length-1));rw[bz,ep (by omega)] at p;have a:0<2^sh:=ky (by omega);have d:=Aa (n:=sh) (by omega);have m:(4294967296:Nat)^ys.length=4294967296^(ys.length-1)*4294967296:=by rw[<-gn];congr 1;omega
 have o:(trim vs).length<ys.length->(4294967296:Nat)^(trim vs).length<=4294967296^(ys.length-1):=λh=>fv (by omega) (by omega);generalize 4294967296^(ys.length-1)=Q at *
 generalize ys[ys.length-1]=t at *
 generalize val 4294967296 (ys.take (ys.length-1))=l at *
 have h1:t+1<=2^(32-sh):=by
  rw[d,jb] at c;exact pm c
 have h2:2^sh*(t+1)<=4294967296:=by rw[d];exact f_ _ h1
 have g:val 4294967296 ys<Q*(t+1):=by rw[r,kx];omega
 have i:2^sh*val 4294967296 ys<4294967296^ys.length:=by
  rw[m]
  calc 2^sh*val 4294967296 ys<2^sh*(Q*(t+1)):=Nat.mul_lt_mul_of_pos_left g a
   _=Q*(2^sh*(t+1)):=by grind
   _<=Q*4294967296:=f_ _ h2
 have j:=dU (by omega) i;rw[<-e] at j;rcases d_ (trim vs).length ys.length with u|hge
 . exfalso
   have k:=iZ b.trim;rw[lE,f] at k;have v:=o u;have w:Q*1<=Q*t:=f_ _ q;have x:1*val 4294967296 ys<=2^sh*val 4294967296 ys:=gz _ a;omega
 omega
theorem aic(h:0<ys.length)(a:2147483648<=ys[ys.length-1]*2^sh):2147483648*4294967296^(ys.length-1)<=2^sh*val 4294967296 ys:=by
 rw[aaW h];generalize 4294967296^(ys.length-1)=Q at *
 generalize ys[ys.length-1]=t at *
 have h1:2147483648*Q<=t*2^sh*Q:=gz _ a;rw[kx];have h2:2^sh*(Q*t)=t*2^sh*Q:=by grind
 rw[h2];exact ax h1 (Nat.le_add_left _ _)
theorem akn{l V:Nat}(d:cX 4294967296 xs)(o:us.length=xs.length+1)(p:val 4294967296 us=2^sh*val 4294967296 xs)(m:l<=xs.length)(i:0<l)(c:sh<=31)(a:2147483648*4294967296^(l-1)<=V):val 4294967296 (us.drop (xs.length+1-l))<V:=by
 have e:=yJ (B:=4294967296) us (k:=xs.length+1-l) (by omega);have n:=iZ d;have b:(4294967296:Nat)^xs.length=4294967296^(xs.length+1-l)*4294967296^(l-1):=by rw[<-lq];congr 1;omega
 have f:2^sh<=2^31:=fv (by omega) c;rcases d_ (val 4294967296 (us.drop (xs.length+1-l))) V with h|h
 .exact h
 exfalso
 generalize val 4294967296 (us.drop (xs.length+1-l))=D at *
 generalize val 4294967296 (us.take (xs.length+1-l))=T at *
 have h1:4294967296^(xs.length+1-l)*(2147483648*4294967296^(l-1))<=4294967296^(xs.length+1-l)*D:=f_ _ (ax a h);have h2:4294967296^(xs.length+1-l)*(2147483648*4294967296^(l-1))=2147483648*4294967296^xs.length:=by rw[b];grind
 have j:2^sh*val 4294967296 xs<=2147483648*val 4294967296 xs:=gz _ f;generalize 4294967296^(xs.length+1-l)*D=Z at *
 rw[h2] at h1;generalize (4294967296:Nat)^xs.length=g at *
 omega
theorem ako{X Y p u:Nat}(b:0<p)(h:u+q*(p*Y)=p*X)(i:u<p*Y):q=X / Y/\u / p=X%Y:=by
 have f:0<Y:=by
  rcases fm Y with h0|h0
  .subst h0;omega
  exact h0
 have g:p∣u:=by
  have h1:p∣u+q*(p*Y):=h▸Nat.dvd_mul_right p X;have h2:p∣q*(p*Y):=⟨q*Y,by grind⟩
  exact (Nat.dvd_add_iff_left h2).2 h1
 obtain⟨r,rfl⟩:=g;have c:p*(r+q*Y)=p*X:=by rw[<-h];grind
 have d:=Nat.eq_of_mul_eq_mul_left b c;have e:=pm i;rw[Nat.mul_div_cancel_left _ b];have:=Sl (a:=X) (q:=q) (r:=r) f e (by rw[<-d];grind);exact this
theorem arU(d:cX 4294967296 vs)(h:2<=vs.length):val 4294967296 vs=(vs[vs.length-1]*4294967296+vs[vs.length-2])*4294967296^(vs.length-2)+val 4294967296 (vs.take (vs.length-2))/\val 4294967296 (vs.take (vs.length-2))<4294967296^(vs.length-2):=by
 have c:=aaW (ys:=vs) (by omega);have a:=cP (B:=4294967296) (xs:=vs) (i:=vs.length-2) (by omega);rw[show vs.length-2+1=vs.length-1 by omega] at a;have b:=iZ (d.take (vs.length-2));rw[bz,ep (by omega)] at b;refine⟨?_,b⟩;have e:(4294967296:Nat)^(vs.length-1)=4294967296*4294967296^(vs.length-2):=by rw[<-qm];congr 1;omega
 rw[c,a,e]
 grind
theorem aid{us ds:List Nat}{i two top sec a3 v7:Nat}(b:cX 4294967296 us)(k:cX 4294967296 ds)(h2:2<=ds.length)(n:i+ds.length<us.length)(e:val 4294967296 (us.drop (i+1))<val 4294967296 ds)
 (r:two=us[i+ds.length-1]+us[i+ds.length]*4294967296) (q:top=ds[ds.length-1]) (p:sec=ds[ds.length-2]) (j:a3=us[i+ds.length-2]) (f:v7=val 4294967296 (us.drop i)) :
 ∃P,0<P/\v7<(two+1)*(4294967296*P)/\top*(4294967296*P)<=val 4294967296 ds/\v7<(two*4294967296+a3+1)*P/\(two*4294967296+a3)*P<=v7/\(top*4294967296+sec)*P<=val 4294967296 ds/\val 4294967296 ds<(top*4294967296+sec+1)*P/\v7<4294967296*val 4294967296 ds:=by
 obtain⟨c,u⟩:=akm b h2 n;obtain⟨a,v⟩:=arU k h2;have h:=aoM b (by omega) e;rw[<-Km k (by omega) e,<-f] at c;rw[<-f] at h;have o:(4294967296:Nat)^(ds.length-1)=4294967296*4294967296^(ds.length-2):=by rw[<-qm];congr 1;omega
 have g:us[i+ds.length-2]<4294967296:=b _ (fl _);rw[o,<-j] at c;rw[<-j] at g;rw[<-q,<-p] at a;rw[mo (us[i+ds.length]*4294967296),<-r] at c;refine⟨4294967296^(ds.length-2),ky (by decide),?_⟩;generalize (4294967296:Nat)^(ds.length-2)=P at *
 generalize val 4294967296 ((us.drop i).take (ds.length-2))=t at *
 generalize val 4294967296 (ds.take (ds.length-2))=s at *
 generalize val 4294967296 ds=V at *
 have m:(a3+1)*P<=4294967296*P:=gz _ g;have d:(two*4294967296+a3)*P=two*(4294967296*P)+a3*P:=by grind
 have l:(top*4294967296+sec)*P=top*(4294967296*P)+sec*P:=by grind
 rw[ik,kz] at m;refine⟨?_,?_,?_,?_,?_,?_,h⟩
 .rw[ik,kz];omega
 .rw[a,l];omega
 .rw[ik,d];omega
 .rw[d];omega
 .rw[a];omega
 rw[a,ik (top*4294967296+sec)];omega
def aoN{b:Nat}(h:a*b<18446744073709551616):IntKind.u64.wrap ((a:Int)*(b:Int))=((a*b:Nat):Int):=by
 rw[<-me];generalize a*b=c at *
 exact mZ (by omega) (by omega)
theorem aeH{g r:Nat}(h:g*top+r=two)(a:a3+r*4294967296<g*sec):two*4294967296+a3<g*(top*4294967296+sec):=by
 subst h;have:g*(top*4294967296+sec)=g*top*4294967296+g*sec:=by grind
 rw[this,ik];omega
theorem Sq{g r:Nat}(h:g*top+r=two)(a:g*sec<=a3+r*4294967296):g*(top*4294967296+sec)<=two*4294967296+a3:=by
 subst h;have:g*(top*4294967296+sec)=g*top*4294967296+g*sec:=by grind
 rw[this,ik];omega
def akp{g s r:Nat}(b:g<4294967296)(d:s<4294967296)(c:4294967296<=r):g*s<=a+r*4294967296:=by
 have h1:g*s<=4294967296*4294967296:=ji (by omega) (by omega);omega
def Gk{g:Nat}(h:¬cap=q):(if cap=q then H (⟨g,0,G0⟩:Addr) else (H (⟨g,0,G0⟩:Addr)).map (·.add (q*1)))=H ⟨g,q,G0⟩:=by
 rw[K0 h];simp[eD]
theorem Gl{us a ds:List Nat}{i q v7 S:Nat}(p:cX 4294967296 ds)(w:cX 4294967296 us)(z:i+ds.length<us.length)(k:val 4294967296 (us.drop (i+1))<val 4294967296 ds)(c:v7=val 4294967296 (us.drop i))(A:q*val 4294967296 ds<=v7)(x:v7<(q+1)*val 4294967296 ds)(u:val 4294967296 us+val 4294967296 a*val 4294967296 ds=S)(o:a.take (i+1)=bx (i+1) 0)(s:i<a.length) :
 val 4294967296 (laid us i (ds.length+1) (val 4294967296 ((us.drop i).take (ds.length+1))-val 4294967296 ds*q))+val 4294967296 (a.set i q)*val 4294967296 ds=S/\val 4294967296 ((laid us i (ds.length+1) (val 4294967296 ((us.drop i).take (ds.length+1))-val 4294967296 ds*q)).drop i)<val 4294967296 ds/\(a.set i q).take i=bx i 0/\(laid us i (ds.length+1) (val 4294967296 ((us.drop i).take (ds.length+1))-val 4294967296 ds*q)).length=us.length:=by
 have f:=Km p (by omega) k;rw[<-f,<-c];have e:(digs 4294967296 (v7-val 4294967296 ds*q)).length<=ds.length+1:=by
  refine dU (by omega) (ig (Nat.sub_le _ _) ?_);have h:=iZ ((w.drop i).take (ds.length+1));rw[bz,ep (by simp;omega),<-f,<-c] at h;exact h
 have C:q*val 4294967296 ds=val 4294967296 ds*q:=jb _ _;refine⟨?_,?_,?_,acI (by omega) e⟩
 . have b:=akj (os:=us) (off:=i) (n:=ds.length+1) (m:=v7-val 4294967296 ds*q) (by omega) e
   rw[<-f,<-c] at b;have g:=nP (B:=4294967296) (os:=a) (j:=i) (d:=q) s;have t:a[i]=0:=by
    have h:=Y1 (λl=>l[i]?) o;simp only[gh] at h;rw[Z9 (by omega),ap s,List.getElem?_replicate,Z9 (by omega)] at h;exact Option.some.inj h
   rw[t,jm,jk] at g;rw[g,<-u];obtain⟨r,v⟩:∃r,v7=val 4294967296 ds*q+r:=⟨v7-val 4294967296 ds*q,by omega⟩
   rw[v] at b ⊢;rw[Nat.add_sub_cancel_left] at b ⊢;generalize val 4294967296 (laid us i (ds.length+1) r)=L at *
   generalize (4294967296:Nat)^i=Q at *
   generalize val 4294967296 ds=V at *
   generalize val 4294967296 us=y at *
   generalize val 4294967296 a=Z at *
   grind
 . rw[Xn (by omega) e,Yz p (by omega) k,jm,jk]
   rw[ik,kz] at x;omega
 rw[List.take_set_of_le (ba i)]
 have h:=Y1 (List.take i) o;rw[List.take_take,ep (by omega),List.take_replicate,ep (by omega)] at h;exact h
def aaX{r:Nat}(h:r<=4):(4294967296:Nat)=256^r*256^(4-r):=by rw[<-lq,show r+(4-r)=4 by omega]
def Sr(r:Nat):(256:Nat)^r=2^(8*r):=by rw[show 256=2^8 from rfl,<-qo]
def akq{x b r:Nat}(j:r<4)(a:x<4294967296)(g:256^(r+1)∣x)(f:b<256):x+b*256^r<4294967296:=by
 obtain⟨c,rfl⟩:=g;have e:=aaX (r:=r+1) (by omega);rw[e] at a ⊢;have h1:=pm a;have h2:256^(r+1)*(c+1)<=256^(r+1)*256^(4-(r+1)):=f_ _ h1;rw[kx,eo] at h2;have d:(b+1)*256^r<=256*256^r:=gz _ f;have h:(256:Nat)^(r+1)=256*256^r:=qm;have i:0<(256:Nat)^r:=ky (by omega);rw[ik,kz] at d;generalize 256^(r+1)*256^(4-(r+1))=Z at *
 generalize 256^(r+1)*c=Y at *
 omega
theorem aie{os bs:List Nat}{p j r:Nat}(f:p<bs.length)(t:p=4*j+r)(o:r<4)(a:j<os.length)(n:cX 4294967296 os)(m:cX 256 bs)(l:∀(i:Nat)(h:i<os.length),256^(p+1-4*i)∣os[i])(g:val 4294967296 os=256^(p+1)*val 256 (bs.drop (p+1))) :
 os[j]+bs[p]*256^r<4294967296/\256^(r+1)∣os[j]/\(∀(i:Nat) (h:i<(os.set j (os[j]+bs[p]*256^r)).length),256^(p-4*i)∣(os.set j (os[j]+bs[p]*256^r))[i])/\val 4294967296 (os.set j (os[j]+bs[p]*256^r))=256^p*val 256 (bs.drop p):=by
 have h1:=l j a;rw[show p+1-4*j=r+1 by omega] at h1;have q:=n _ (fl a);have s:=m _ (fl f);refine⟨akq o q h1 s,h1,?_,?_⟩
 . intro i h
   by_cases e:i=j
   . subst e
     rw[ng,show p-4*i=r by omega];exact Nat.dvd_add (Nat.dvd_trans (Nat.pow_dvd_pow 256 (by omega)) h1) (Nat.dvd_mul_left _ _)
   rw[nz (by omega)]
   exact Nat.dvd_trans (Nat.pow_dvd_pow 256 (by omega)) (l i (by simpa using h))
 have u:=nP (B:=4294967296) (os:=os) (j:=j) (d:=os[j]+bs[p]*256^r) a
 have b:=pF (B:=256) (xs:=bs) (k:=p+1) (by omega) (by simpa using f);simp only[fb] at b;have c:(4294967296:Nat)^j*256^r=256^p:=by
  rw[show (4294967296:Nat)=256^4 from rfl,<-qo,<-lq,t]
 rw[b,<-c];rw[gn,<-c] at g;generalize (4294967296:Nat)^j=Q at *
 generalize (256:Nat)^r=R at *
 generalize val 256 (bs.drop (p+1))=D at *
 generalize val 4294967296 (os.set j (os[j]+bs[p]*R))=L at *
 generalize val 4294967296 os=M at *
 subst g
 grind
end
section
open Go.RowKit
variable{a:ByteArray}{xs ys:Array ak}
def akr(w:an)(S:an->Prop):Prop:=S w
def akr.nil{w:an}:akr w (λ_=>True):=trivial
section
variable{P:cg}{ops:Array Oper}{md:Region.Mode}{S:an->Prop}
def cJ(P:cg)(ops:Array Oper)(S:an->Prop)(Q:Exit->Act->an->Prop):List (Oper×Bool)->Act->an->Prop
 | [],a,w=>Q .normal a w
 |(o,Z)::r,a,w=>∃v,YieldsIf P ops S o v a/\cJ P ops S Q r (a.put o.dst v) w
 |(o,X9)::r,a,w=>bf P ops (Exit.then (λa w=>S w/\cJ P ops S Q r a w) Q) [o] a w
def yK{Q:Exit->Act->an->Prop}(u:Region.noSelect ops=Z)(q:∀c d v a w,Q (.panic c) (Act.put a d v) w->Q (.panic c) a w):∀(l:List (Nat×Bool)) (f:Array Bool) (a:Act) (w:an),
 aaN md ops l f=Z->S w->cJ P ops S Q (l.map λx=>((ops[x.1]?).getD default,x.2)) a w->wpAnyH P md ops Q S l.length f a w
 | [],f,a,w,b,_,h=>⟨by simpa[aaN] using b,h⟩
 |(i,Z)::r,f,a,w,b,s,h=>by
  simp only[aaN,bt] at b;obtain⟨⟨⟨h1,h2⟩,A⟩,p⟩:=b;obtain⟨o,g⟩:=el.1 h1;simp only[bm,cJ,g,dt] at h;obtain⟨v,F,E⟩:=h;exact wpAnyH_take g u h2 A (λc a w=>q c _ v a w) F s (yK u q r _ _ _ p s E)
 |(i,X9)::r,f,a,w,b,s,h=>by
  simp only[aaN,bt,Y2] at b;obtain⟨⟨h1,h2⟩,p⟩:=b;obtain⟨o,g⟩:=el.1 h1;refine wpAnyH_all h2 (by simp) λj C=>?_;obtain rfl:j=i:=by simpa using C
  simp only[bm,cJ,g,dt] at h;have key:∀k w',Exit.then (λa w=>S w/\cJ P ops S Q (r.map λx=>((ops[x.1]?).getD default,x.2)) a w) Q .normal k w'->S w'/\wpAnyH P md ops Q S r.length (f.setIfInBounds j Z) k w':=λk w' t=>⟨t.1,yK u q r _ k w' p t.1 t.2⟩
  unfold wpOp;simp only[g];simp only[bf] at h;split
  . rename_i z
    rw[Z9 z] at h;rcases h with h|⟨B,x,y,D⟩
    . refine .inl ?_
      unfold oh at h ⊢;generalize (N a.eval o).run P w=G at *
      cases G with
      |ok n w'=>
       cases n<;>simp only[px] at h ⊢ <;>
        first
         |exact key _ _ h
         |exact Calls.mono h (λe H m=>by cases e<;>first|exact key _ _ m|exact m)
         |exact Rows.mono h (λ_ _ m=>key _ _ m)
      |halt x w'=>cases x<;>simp only[px] at h ⊢<;>exact h
    exact .inr ⟨B,x,y,D⟩
  rename_i z
  rw[K0 z] at h;exact key _ _ h
def Cy{id:Nat}{Q:Exit->Act->an->Prop}{a:Act}{w:an}{l:List Oper}(o:List (Nat×Bool))(g:P.follows .mixedOrders=Z)(b:(Region.noSelect l.toArray&&decide (o.length=l.length)&&aaN .any l.toArray o (ie l.toArray.size X9))=Z)
 (e:∀c d v a w,Q (.panic c) (Act.put a d v) w->Q (.panic c) a w) {ol:List (Oper×Bool)} (i:(o.map λx=>((l.toArray[x.1]?).getD default,x.2))=ol)
 (h:∀w',eQ w w'->∃S,akr w' S/\cJ P l.toArray S Q ol a w'):(Code.region id l.toArray Z).wp P Q a w:=by
 simp only[bt,Y2] at b;subst i;obtain⟨S,f,h⟩:=h _ (eQ.refl w).drawn;refine wp_region_held (S:=S) g ?_;have:=yK (md:=.any) b.1.1 e o _ a { w with drawn:=w.drawn+1 } b.2 f h;rwa [b.1.2] at this
variable{ds:List eh}{l:List ak}{Q:Exit->Act->an->Prop}{w:an}{rest:List (Oper×Bool)}{d:Nat}{op:Op}{ty:bh}{pos:String}{after:Array Edge}{v:ak}
def aeI(a:∀w,S w->Dh P l op ty v w)(h:cJ P ops S Q rest (Fr (l.set d v) ds) w):cJ P ops S Q ((ci (H d) op ty pos after G0,Z)::rest) (Fr l ds) w:=by
 refine⟨v,.inl ⟨by simp[Region.wanted],λw b=>a w b _ O O⟩,?_⟩;show cJ P ops S Q rest ((Fr l ds).put (H d) v) w
 rw[gV];exact h
def bY(a:iD P l op ty v)(h:cJ P ops S Q rest (Fr (l.set d v) ds) w):cJ P ops S Q ((ci (H d) op ty pos after G0,Z)::rest) (Fr l ds) w:=aeI (λw _=>a w) h
def mU{T:bh}{x:cw}{a:Addr}(e:ev l x=.pointer (H a))(c:∀w',S w'->lC P w' T a v)(h:cJ P ops S Q rest (Fr (l.set d v) ds) w):cJ P ops S Q ((ci (H d) (.load T x) ty pos after G0,Z)::rest) (Fr l ds) w:=
 aeI (λ_ b=>bE e (c _ b)) h
def bO(h:Q .normal (Fr l ds) w):cJ P ops S Q [] (Fr l ds) w:=h
def bQ{o:Oper}(h:bf P ops (Exit.then (λa w=>S w/\cJ P ops S Q rest a w) Q) [o] (Fr l ds) w):cJ P ops S Q ((o,X9)::rest) (Fr l ds) w:=h
end
def wA(P:cg)(d:Nat)(T:bh)(x y:ak)(p:Prop):Prop:=∀w,∃b:Bool,(Op.equalIn d T x y).run P w=.ok b w/\(b=Z↔p)
section
variable{P:cg}{d:Nat}{T:bh}
def wA.int{k b:IntKind}{m n:Int}(a:P.underlying T=H (.int b)):wA P (d+1) T (.int k m) (.int k n) (m=n):=λw=>⟨m == n,by unfold Op.equalIn;simp[cq a],by simp⟩
def wA.bool{a b:Bool}(c:P.underlying T=H .bool):wA P (d+1) T (.bool a) (.bool b) (a=b):=λw=>⟨a == b,by unfold Op.equalIn;simp[cq c],by simp⟩
def Ss{b:ByteArray}(h:a.toList=b.toList):a=b:=by
 rw[ByteArray.toList_eq,ByteArray.toList_eq] at h;cases a;cases b;simp at h;rw[h]
def aaY(a b:ByteArray):(a.toList == b.toList)=decide (a=b):=by
 by_cases h:a=b
 .subst h;simp
 rw[Y6 h];exact beq_eq_false_iff_ne.2 λe=>h (Ss e)
def wA.str{b:ByteArray}(c:P.underlying T=H .string):wA P (d+1) T (.string a) (.string b) (a=b):=λw=>⟨a == b,by unfold Op.equalIn;simp[cq c],by rw[beq_toListBytes,aaY];simp⟩
def Hk(P:cg)(d:Nat)(xs ys:Array ak)(fs:List Field)(p:Prop):Prop:=∀w,∃b:Bool,(Op.eqFields d xs ys fs).run P w=.ok b w/\(b=Z↔p)
def Hk.nil  : Hk P d xs ys [] True:=λw=>⟨Z,by simp[Op.eqFields],by simp⟩
def Hk.cons{xs ys:Array ak}{f:Field}{fs:List Field}{x y:ak}{p q:Prop} (g:f.name ≠ "_") (i:∀w,(part f.type xs f.offset).run P w=.ok x w) (j:∀w,(part f.type ys f.offset).run P w=.ok y w)
 (h:wA P d f.type x y p) (k:Hk P d xs ys fs q):Hk P d xs ys (f::fs) (p/\q):=λw=>by
 obtain⟨b,e,a⟩:=h w;obtain⟨c,hc,l⟩:=k w;cases b
 .exact⟨X9,by simp[Op.eqFields,g,i,j,e],by simp at a ⊢;intro h;exact Y0 h a⟩
 exact⟨c,by simp[Op.eqFields,g,i,j,e,hc],by simp at a;simp[a,l]⟩
def uN(P:cg)(d:Nat)(E:bh)(n:Nat)(xs ys:Array ak)(is:List Nat)(p:Prop):Prop:=∀w,∃b:Bool,(Op.eqItems d E n xs ys is).run P w=.ok b w/\(b=Z↔p)
def uN.nil{E:bh}{n:Nat}  : uN P d E n xs ys [] True:=λw=>⟨Z,by simp[Op.eqItems],by simp⟩
def uN.cons{E:bh}{n i:Nat}{is:List Nat}{xs ys:Array ak}{x y:ak}{p q:Prop}(f:∀w,(part E xs (i*n)).run P w=.ok x w)(g:∀w,(part E ys (i*n)).run P w=.ok y w)
 (h:wA P d E x y p) (k:uN P d E n xs ys is q):uN P d E n xs ys (i::is) (p/\q):=λw=>by
 obtain⟨b,e,a⟩:=h w;obtain⟨c,hc,j⟩:=k w;cases b
 .exact⟨X9,by simp[Op.eqItems,f,g,e],by simp at a ⊢;intro h;exact Y0 h a⟩
 exact⟨c,by simp[Op.eqItems,f,g,e,hc],by simp at a;simp[a,j]⟩
def wA.struct{fs:Array Field}{p:Prop}(b:P.underlying T=H (.struct fs))(c:P.stoodInHeld T=X9)(h:Hk P d xs ys fs.toList p):wA P (d+1) T (.agg xs) (.agg ys) p:=λw=>by
 have a:P.fieldsOf T=fs:=by simp[Program.fieldsOf,b]
 rw[run_equalIn_struct w d T xs ys (by rw[a];exact b) c,a];exact h w
def wA.array{n c:Nat}{E:bh}{p:Prop}(e:P.underlying T=H (.array n E))(hc:dW P E c)(h:uN P d E c xs ys (ii n) p):wA P (d+1) T (.agg xs) (.agg ys) p:=λw=>by
 obtain⟨i,a,rfl⟩:=hc;have b:P.cellsOf E=i.size:=by simp[Program.cellsOf,a]
 rw[run_equalIn_array w d xs ys e a,b];exact h w
def wA.iff{x y:ak}{p q:Prop}(h:wA P d T x y p)(e:p↔q):wA P d T x y q:=λw=>let ⟨b,a,c⟩:=h w;⟨b,a,c.trans e⟩
def cL{off:Nat}{v:ak}(a:fM P T X9)(b:xs[off]? = H v)(w:an):(part T xs off).run P w=.ok v w:=by simp[part,rK a,b]
def dD{us:Array ak}{off c:Nat}(a:fM P T Z)(hc:dW P T c)(b:xs.extract off (off+c)=us)(w:an):(part T xs off).run P w=.ok (.agg us) w:=by
 subst b;simp[part,rK a,eT hc]
variable{l:List ak}{x y:cw}{T' ty:bh}
def Bi{u v:ak}{p:Prop}[Decidable p](h:wA P 10000 T u v p)(w:an):(Op.equal T u v).run P w=.ok (decide p) w:=by
 obtain⟨b,c,a⟩:=h w;rw[Op.equal,show Op.maxDepth=10000 from rfl,c]
 congr 1
 cases b
 .exact (Y6 (by simpa using a)).symm
 exact (Y5 (by simpa using a)).symm
def aaZ{xs ys:Array ak}{p:Prop}[Decidable p](a:P.eqGuardType P.depth T=X9)(c:ev l x=.agg xs)(d:ev l y=.agg ys)(h:wA P 10000 T (.agg xs) (.agg ys) p):iD P l (.binOp .eql T x y T') ty (.bool (decide p)):=λw o b _=>by
 simp[N,b,cK,c,d,eqGuard,binOp,a,Bi h]
def aeJ{xs ys:Array ak}{p:Prop}[Decidable p](a:P.eqGuardType P.depth T=X9)(c:ev l x=.agg xs)(d:ev l y=.agg ys)(h:wA P 10000 T (.agg xs) (.agg ys) p):iD P l (.binOp .neq T x y T') ty (.bool (decide (¬p))):=λw o b _=>by
 simp[N,b,cK,c,d,eqGuard,binOp,a,Bi h]
def aks{a b:Bool}(e:P.underlying T=H .bool)(f:ev l x=.bool a)(g:ev l y=.bool b):iD P l (.binOp .eql T x y T') ty (.bool (decide (a=b))):=λw o c _=>by
 have h:=Bi (wA.bool (d:=9999) (a:=a) (b:=b) e) w;simp[N,c,cK,f,g,eqGuard,binOp,h]
def akt{a b:Bool}(e:P.underlying T=H .bool)(f:ev l x=.bool a)(g:ev l y=.bool b):iD P l (.binOp .neq T x y T') ty (.bool (decide (¬a=b))):=λw o c _=>by
 have h:=Bi (wA.bool (d:=9999) (a:=a) (b:=b) e) w;simp[N,c,cK,f,g,eqGuard,binOp,h]
def aeK{b:ByteArray}(e:P.underlying T=H .string)(f:ev l x=.string a)(g:ev l y=.string b):iD P l (.binOp .eql T x y T') ty (.bool (decide (a=b))):=λw o c _=>by
 have h:=Bi (wA.str (d:=9999) (a:=a) (b:=b) e) w;simp[N,c,cK,f,g,eqGuard,binOp,h,Op.stringOp,aaY]
def arV{b:ByteArray}(e:P.underlying T=H .string)(f:ev l x=.string a)(g:ev l y=.string b):iD P l (.binOp .neq T x y T') ty (.bool (decide (¬a=b))):=λw o c _=>by
 have h:=Bi (wA.str (d:=9999) (a:=a) (b:=b) e) w;simp[N,c,cK,f,g,eqGuard,binOp,h,Op.stringOp,aaY]
end
end
section
def qI(s:ByteArray):List Nat:=s.data.toList.reverse.map ju
def aoO(s:ByteArray):Nat:=val 256 (qI s)
def Dx(s:ByteArray):s.data.toList.length=s.size:=Array.length_toList
def yL(s:ByteArray):(qI s).length=s.size:=by simp only[qI,List.length_map,List.length_reverse,Dx]
def Pm(s:ByteArray):cX 256 (qI s):=λx a=>by
 obtain⟨b,_,rfl⟩:=List.mem_map.1 a;exact b.toNat_lt
def Ht(s:ByteArray)(i:Nat):s[i]? = s.data.toList[i]?:=by
 by_cases h:i<s.size
 . rw[getElem?_pos s i h,ap (by rw[Dx];omega)]
   rfl
 rw[getElem?_neg s i h,da (by rw[Dx];omega)]
def Im{s:ByteArray}{i p:Nat}(h:p+1+i=s.size):∃b,s[i]? = H b/\∃c:p<(qI s).length,(qI s)[p]=b.toNat:=by
 have d:=Dx s;have a:i<s.data.toList.length:=by omega
 refine⟨s.data.toList[i],by rw[Ht];exact ap a,by rw[yL];omega,?_⟩;simp only[qI,List.getElem_map,List.getElem_reverse]
 congr 2
 omega
def gI(n:Int):aoO (iR n)=n.natAbs:=by
 have e:qI (iR n)=digs 256 n.natAbs:=by
  simp only[qI,iR,nO,List.reverse_reverse,<-List.map_reverse,List.map_map];have a:cX 256 (digs 256 n.natAbs):=wH (by omega) _;have:∀l:List Nat,cX 256 l->l.map (ju∘fg)=l:=by
   intro l b;refine (iv λx c=>?_).trans (List.map_id l);simp only[Function.comp_apply,id_eq,ka];exact kd (b x c)
  exact this _ a
 rw[aoO,e,uI (by omega)]
def oO{m n:Nat}(h:m<9223372036854775808):IntKind.i64.wrap ((m:Int).tdiv (n:Int))=((m / n:Nat):Int):=by
 rw[<-Int.ofNat_tdiv];have:m / n<=m:=mf m n;exact cF (by have:=Int.natCast_nonneg (m / n);omega) (by omega)
def aku{xs:List Nat}{n:Nat}(h:xs.length<=n):val 256 (xs.drop n)=0:=by rw[gw h];rfl
def oX(l:List UInt8):ByteArray:=⟨l.toArray⟩
def rR(l:List UInt8):(oX l).data.toList=l:=by simp[oX]
def aif{l k:List UInt8}(h:oX l=oX k):l=k:=by rw[<-rR l,h,rR]
def Io(l:List UInt8):(oX l).size=l.length:=by rw[<-Dx,rR]
def aig(l:List UInt8)(i:Nat):(oX l)[i]? = l[i]?:=by rw[Ht,rR]
def aeL(l:List UInt8)(n:Nat):(oX l).extract n (oX l).size=oX (l.drop n):=by
 apply ByteArray.ext;rw[ByteArray.data_extract];apply rh;rw[Array.toList_extract,rR,Io];simp only[oX,List.extract_eq_take_drop,dx];exact a_ (by simp)
def acK(l:List UInt8):(oX l=⟨#[]⟩)=(l=[]):=by
 apply X2;constructor
 . intro h
   exact aif (k:=[]) h
 rintro rfl;rfl
def jJ(l:List UInt8):List UInt8:=l.dropWhile (· == 0)
def aeM{l:List UInt8}{b:UInt8}(h:l[0]? = H b)(a:b.toNat=0):jJ (l.drop 1)=jJ l:=by
 cases l with
 |nil=>cases h
 |cons c l=>
  simp at h;subst h;have:c=0:=pw.1 a;subst this;simp[jJ]
def aeN{l:List UInt8}{b:UInt8}(h:l[0]? = H b)(a:¬b.toNat=0):jJ l=l:=by
 cases l with
 |nil=>rfl
 |cons c l=>
  simp at h;subst h;have:¬c=0:=λe=>a (by rw[e];rfl);simp[jJ,this]
def aih:jJ []=[]:=rfl
end
section
open Go.RowKit
variable{w:an}{D:Nat}
section
variable{P:cg}{ds:List eh}{l:List ak}{x y z0:cw}{T T' ty:bh}
abbrev u8v(b:UInt8):ak:=.int .u8 (b.toNat:Int)
def St{w:an}{base n:Nat}{E:bh}{v:ak}{bs:List UInt8}(d:P.underlying T=H (.slice E))(b:P.underlying E=H (.int .u8))(a:P.underlying T'=H .string)(e:ev l x=v)(f:zY w base E 1 v n (bs.map u8v)) :
 Dh P l (.convert T T' x) ty (.string (oX bs)) w:=λo c _=>by
 have k:bs.length=n:=by have:=f.1;simpa using this
 rcases f.row with ⟨rfl,rfl,h⟩|⟨g,cap,rfl,_,_,_,_,m⟩
 . obtain rfl:bs=[]:=by simpa using h
   simp only[N,c,cK,e];rw[Sem.run_bind,run_convert_bytes_nil w T E d b 0 0 T' a];rfl
 subst k
 have:=run_convert_bytes_back (P:=P) w T T' E ⟨g,0,G0⟩ cap bs d b a (λj i=>m j _ (by simp[i]));simp only[N,c,cK,e];rw[Sem.run_bind,this];rfl
end
structure Def(w:an)(D:Nat):Prop where
 h:w.heap[D]? = H (.deferred (H []))
def Def.ext{w':an}(h:Def w D)(a:eQ w w'):Def w' D:=⟨a.block h.h⟩
def Def.ne{g:Nat}{cs:List ak}{t:bh}(h:Def w D)(a:fK w g cs t):D≠g:=λe=>by
 subst e;have:=h.h;rw[a] at this;cases this
def Def.chg{w':an}{g:Nat}(h:Def w D)(a:Chg w w' g)(b:D≠g):Def w' D:=⟨(a.block D b).trans h.h⟩
def fK.putD{g:Nat}{cs:List ak}{t:bh}(a:fK w g cs t)(h:Def w D){o:Obj}:fK (w.putObj D o) g cs t:=(World.putObj_heap_other (Ne.symm (h.ne a))).trans a
def eQ.putD{w0:an}(a:eQ w0 w)(c:w0.heap.size<=D){o:Obj}:eQ w0 (w.putObj D o):=
 ⟨a.os,a.tape,a.output,by rw[World.putObj_size];exact a.size,λk b=>(World.putObj_heap_other (by omega)).trans (Below.block a k b)⟩
def aeO{P:cg}{l:List ak}{n:Nat}{fn:Func}{R:Ending->an->Prop}{D:Nat}{w:an}(a:Def w D)(h:bodyPost P fn R .ret (Fr l) (w.putObj D (.deferred G0))) :
 bodyPostM Fence.wide n P fn R .ret (Fr l [{ target:=.collected D,args:=#[] }]) w:=by
 refine⟨by simp,.inl ⟨D,_,O,run_takeDeferred a.h,?_⟩⟩;obtain⟨_,v,c,b⟩:=h;exact⟨v,c,b⟩
end
section
variable{n a:Int}{k m X:Nat}
def wb(x:Nat):List UInt8:=[fg (x / 16777216),fg (x / 65536),fg (x / 256),fg x]
def wbs(l:List (Nat×Nat)):List UInt8:=l.flatMap λx=>wb x.2
def akv(l:List (Nat×Nat))(x:Nat×Nat):wbs (l++[x])=wbs l++wb x.2:=by simp[wbs]
def Su(l:List (Nat×Nat)):(wbs l).length=4*l.length:=by
 induction l with
 |nil=>rfl
 |cons x l ih=>rw[wbs,cz,bg];rw[wbs] at ih;rw[ih];simp[wb];omega
def Xo(neg:Bool)(n:Nat):Int:=if neg then -(n:Int) else n
def Ip(neg:Bool)(n:Nat):(Xo neg n).natAbs=n:=by cases neg<;>simp[Xo]
def aa0(neg:Bool)(n:Nat):fF (Xo neg n)=(neg&&decide (n≠0)):=by
 cases neg
 .simp[Xo,fF]
 rcases fm n with h|h
 .subst h;rfl
 have h2:n≠0:=by omega
 simp[Xo,fF,h,h2]
def Xp(ys:List Nat)(h:cX 4294967296 ys):val 256 (((ys.reverse.flatMap wb).reverse).map ju)=val 4294967296 ys/\cX 256 (((ys.reverse.flatMap wb).reverse).map ju):=by
 induction ys with
 |nil=>exact⟨rfl,λ_ h=>by cases h⟩
 |cons y ys ih=>
  have d:=h y (by simp);obtain⟨b,c⟩:=ih (λx a=>h x (by simp[a]));have e:(((y::ys).reverse.flatMap wb).reverse).map ju=[y%256,y / 256%256,y / 65536%256,y / 16777216%256]++(((ys.reverse.flatMap wb).reverse).map ju):=by
   simp[bi,wb,ka]
  rw[e];refine⟨?_,?_⟩
  . rw[eV,b]
    simp only[val,be,List.length_nil];omega
  refine cX.append ?_ c
  intro x a;simp at a;omega
def Pn{l:List UInt8}:jJ l=((trim ((l.reverse).map ju)).reverse).map fg:=by
 induction l with
 |nil=>rfl
 |cons b l ih=>
  have c:∀k:List Nat,∀x:Nat,trim (k++[x])=if x=0 then trim k else k++[x]:=λk x=>by
   split
   .rename_i h;subst h;exact rP k
   rename_i h;exact tZ h k
  rw[List.reverse_cons,List.map_append,bm,List.map_nil,c];by_cases a:b=0
  . subst a
    rw[Z9 (show ju 0=0 from rfl),<-ih];simp[jJ]
  have d:¬b.toNat=0:=λe=>a (pw.1 e)
  rw[K0 d];simp[jJ,a,Function.comp_def]
def aeP{ys:List Nat}(h:cX 4294967296 ys)(neg:Bool):oX (jJ (ys.reverse.flatMap wb))=iR (Xo neg (val 4294967296 ys)):=by
 obtain⟨h1,h2⟩:=Xp ys h;rw[Pn,oM (by omega) h2 h1,iR,Ip,nO];rfl
def Sv{neg:Bool}{n:Nat}:(iR (Xo neg n)=⟨#[]⟩)↔n=0:=by
 constructor
 . intro h
   have:=Yu (Xo neg n);rw[h,Ip] at this;have a:digs 256 n=[]:=fj this.symm;exact (uJ (by omega)).1 a
 rintro rfl
 cases neg<;>rfl
class D(k:outParam Nat)(n:Int):Prop where
 h:Bd k n
instance {a b:Nat}{m n:Int}[x:D a m][y:D b n]:D (max a b+1) (m+n):=⟨x.h.add y.h⟩
instance {a b:Nat}{m n:Int}[x:D a m][y:D b n]:D (max a b+1) (m-n):=⟨x.h.sub y.h⟩
instance {a b:Nat}{m n:Int}[x:D a m][y:D b n]:D (a+b) (m*n):=⟨x.h.mul y.h⟩
instance:D 1 0:=⟨Ra 1⟩
def Gm(h:fF n=Z):n<0:=Y9 h
def Iq(h:fF n=X9):0<=n:=rz.1 (X5 h)
def natAbs_neg(h:fF n=Z):(n.natAbs:Int) = -n:=by have:=Gm h;omega
def kV(h:fF n=X9):(n.natAbs:Int)=n:=by have:=Iq h;omega
def Dy(n:Nat):Xo Z n = -(n:Int):=rfl
def sV(n:Nat):Xo X9 n=(n:Int):=rfl
def Kn(a:Int):Xo (fF a) a.natAbs=a:=by
 cases h:fF a
 .rw[sV,kV h]
 rw[Dy,natAbs_neg h];omega
def agz(a:Int):Xo (!fF a) a.natAbs = -a:=by
 cases h:fF a
 .rw[km,Dy,kV h]
 rw[jq,sV,natAbs_neg h]
def agA{b:Int}(h:fF a=fF b):Xo (fF a) (a.natAbs+b.natAbs)=a+b:=by
 cases c:fF a<;>rw[c] at h
 .have h1:=kV c;have h2:=kV h.symm;rw[sV];omega
 have h1:=natAbs_neg c;have h2:=natAbs_neg h.symm;rw[Dy];omega
def akw{b:Int}(h:¬fF a=fF b)(e:a.natAbs<b.natAbs):Xo (fF b) (b.natAbs-a.natAbs)=a+b:=by
 cases c:fF a<;>cases d:fF b<;>rw[c,d] at h
 .exact Y0 O h
 .have h1:=kV c;have h2:=natAbs_neg d;rw[Dy];omega
 .have h1:=natAbs_neg c;have h2:=kV d;rw[sV];omega
 exact Y0 O h
def akx{b:Int}(h:¬fF a=fF b)(e:b.natAbs<=a.natAbs):Xo (fF a) (a.natAbs-b.natAbs)=a+b:=by
 cases c:fF a<;>cases d:fF b<;>rw[c,d] at h
 .exact Y0 O h
 .have h1:=kV c;have h2:=natAbs_neg d;rw[sV];omega
 .have h1:=natAbs_neg c;have h2:=kV d;rw[Dy];omega
 exact Y0 O h
def agB{b:Int}:Xo (decide (¬fF a=fF b)) (a.natAbs*b.natAbs)=a*b:=by
 cases c:fF a<;>cases d:fF b
 . have h1:=kV c;have h2:=kV d
   show ((a.natAbs*b.natAbs:Nat):Int)=_
   rw[me,h1,h2]
 . have h1:=kV c;have h2:=natAbs_neg d
   show -((a.natAbs*b.natAbs:Nat):Int)=_
   rw[me,h1,h2,Int.mul_neg,ra]
 . have h1:=natAbs_neg c;have h2:=kV d
   show -((a.natAbs*b.natAbs:Nat):Int)=_
   rw[me,h1,h2,Int.neg_mul,ra]
 have h1:=natAbs_neg c;have h2:=natAbs_neg d
 show ((a.natAbs*b.natAbs:Nat):Int)=_
 rw[me,h1,h2,Int.neg_mul_neg]
def cA(n:Int):Int:=if n<0 then -1 else if 0<n then 1 else 0
def My(h:n<0):cA n = -1:=by rw[cA,Z9 h]
def Mz(h:0<n):cA n=1:=by rw[cA,K0 (by omega),Z9 h]
def dO:Nat->Nat
 |0=>0
 |n+1=>if (dO n+1)*(dO n+1)<=n+1 then dO n+1 else dO n
theorem sW:∀n,dO n*dO n<=n/\n<(dO n+1)*(dO n+1)
 |0=>by simp[dO]
 |n+1=>by
  obtain⟨h1,h2⟩:=sW n;simp only[dO];split
  . rename_i h
    refine⟨h,?_⟩;have:(dO n+1+1)*(dO n+1+1)=(dO n+1)*(dO n+1)+2*dO n+3:=by grind
    omega
  rename_i h
  exact⟨by omega,by omega⟩
def Kq{n r:Nat}(h1:r*r<=n)(h2:n<(r+1)*(r+1)):r=dO n:=by
 obtain⟨a,b⟩:=sW n;rcases oy r (dO n) with h|h|h
 .have:=ji (show r+1<=dO n from h) (show r+1<=dO n from h);omega
 .exact h
 have:=ji (show dO n+1<=r from h) (show dO n+1<=r from h);omega
def Dz{V:Nat}(h:V<2^k):(digs 4294967296 V).length<=k:=by
 refine dU (by omega) (cj h ?_);rw[show (4294967296:Nat)=2^32 from rfl,<-qo];exact fv (by omega) (by omega)
def iC(h:Bd 1000000 n):(iR n).size<=1000000000000:=ax (aaQ h) (by decide)
def aii{b:Int}(c:Bd k a)(d:Bd k b):(digs 4294967296 (a.natAbs+b.natAbs)).length<=k+1:=Dz (by unfold Bd at c d;rw[gn];omega)
def Ea(h:Bd k n):(digs 4294967296 n.natAbs).length<=k:=Dz h
def Sw{n:Nat}(h:m<=n):(digs 4294967296 m).length<=(digs 4294967296 n).length:=by
 refine dU (by omega) (ig h ?_);have:=iZ (mL n);rwa [cS] at this
def agC  : (((digs 4294967296 a.natAbs).length:Int)=0)↔a=0:=by
 constructor
 . intro h
   have b:digs 4294967296 a.natAbs=[]:=fj (by omega);have:=(uJ (by omega)).1 b;omega
 rintro rfl;rfl
def nQ(n:Int):Prop:=-9223372036854775808<=n/\n<9223372036854775808
def nQ.bd(h:nQ n):Bd 64 n:=Bd.of_i64 h.1 (by have:=h.2;omega)
def aky(h:nQ n)(a:0<=n):IntKind.u64.wrap n=(n.natAbs:Int):=by
 rw[gU];have:=h.2;omega
def agD(h:nQ n)(a:n<0):IntKind.u64.wrap n=((18446744073709551616-n.natAbs:Nat):Int):=by
 rw[gU];have:=h.1;omega
def Za(h:m<=9223372036854775808)(a:0<m):IntKind.u64.wrap (0-((18446744073709551616-m:Nat):Int))=(m:Int):=by
 rw[gU];omega
def Zb  : val 4294967296 [m%4294967296,m / 4294967296]=m:=by simp[val];omega
def Sx(h:m<18446744073709551616):cX 4294967296 [m%4294967296,m / 4294967296]:=λx a=>by simp at a;omega
def nQ.natAbs(h:nQ n):n.natAbs<=9223372036854775808:=by have:=h.1;have:=h.2;omega
theorem aij{r:Nat}(a:0<r):X<((r+X / r) / 2+1)*((r+X / r) / 2+1):=by
 generalize b:X / r=q;have h1:X<r*(q+1):=by
  have:=Nat.lt_mul_div_succ X a;rw[b] at this;exact this
 generalize i:(r+q) / 2=s;have h2:r+q+1<=2*(s+1):=by omega
 have c:(r+(q+1))*(r+(q+1))<=(2*(s+1))*(2*(s+1)):=ji (by omega) (by omega);have f:4*(r*(q+1))<=(r+(q+1))*(r+(q+1)):=by
  generalize q+1=p;rcases Nat.le_total r p with h|h
  . obtain⟨d,rfl⟩:=Nat.exists_eq_add_of_le h
    have e:(r+(r+d))*(r+(r+d))=4*(r*(r+d))+d*d:=by grind
    omega
  obtain⟨d,rfl⟩:=Nat.exists_eq_add_of_le h
  have e:(p+d+p)*(p+d+p)=4*((p+d)*p)+d*d:=by grind
  omega
 have g:(2*(s+1))*(2*(s+1))=4*((s+1)*(s+1)):=by grind
 omega
def aik{r:Nat}(a:0<r)(b:X<(r+1)*(r+1))(h:r<=(r+X / r) / 2):r=dO X:=by
 refine Kq ?_ b;have h1:r<=X / r:=by omega
 exact (Nat.le_div_iff_mul_le a).1 h1
def Zc{r:Nat}(h:¬r<=(r+X / r) / 2):(r+X / r) / 2<r:=by omega
theorem aeQ{n:Nat}(h:X<4294967296^n):X<(4294967296^((n+1) / 2)+1)*(4294967296^((n+1) / 2)+1):=by
 have h1:4294967296^n<=4294967296^((n+1) / 2)*4294967296^((n+1) / 2):=by
  rw[<-lq];exact fv (by omega) (by omega)
 generalize 4294967296^((n+1) / 2)=p at *
 generalize 4294967296^n=m at *
 have:(p+1)*(p+1)=p*p+2*p+1:=by grind
 omega
def Qc(n d:Int):Go.Value:=.agg #[.bool (fF n),.string (iR n),.bool (fF d),.string (iR d)]
def Q(q:Rat):Go.Value:=Qc q.num q.den
end
section
open Go.RowKit
variable{w:an}{base i k m:Nat}
def zY.full{g n:Nat}{E:bh}{cs:List ak}(b:fK w g cs E)(c:base<=g)(a:cs.length=n)(d:n<=9223372036854775807):zY w base E 1 (.slice (H ⟨g,0,G0⟩) n n) n cs:=by
 refine⟨by simpa using a,.inr ⟨g,n,cs.toArray,O,c,b,ba _,d,by simpa using a,?_⟩⟩;simp[<-a]
def eQ.refl_of{g:Nat}{cs:List ak}{t:bh}(_:fK w g cs t):eQ w w:=eQ.refl w
def eQ.ext{a b c:an}(h:eQ a b)(k:eQ b c):eQ a c:=h.trans k
def dN.grew{w0 w':an}{A:Option Addr}{n cap:Nat}{xs:List Nat}(h:dN w0 A n cap xs)(b:eQ w0 w)(c:Sk w w' base)(d:w0.heap.size<=base):dN w' A n cap xs:=
 ⟨h.eq,λi x f=>by
  obtain⟨a,e,hc⟩:=h.row i x f;have h1:=World.block_lt_of_cell? _ _ hc;have h2:=b.cell hc;exact⟨a,e,(World.cell?_of_block (c.block _ (cj h1 d))).trans h2⟩,h.le,h.cap,h.len,h.digs⟩
def Zd(n:Nat):bx n 0++[1]=digs 4294967296 (4294967296^n):=by
 refine xQ (B:=4294967296) (by omega) ?_ (mL _) (tZ (by omega) _) (gW _) ?_
 . intro x a
   simp at a;omega
 rw[eV,fI,cS,nh]
 simp[val]
def arW{a b j:Nat}(e:a<4294967296^i)(f:b<4294967296^j):a+b<4294967296^(i+j+1):=by
 rw[gn,lq];have h1:0<4294967296^i:=ky (by omega);have h2:0<4294967296^j:=ky (by omega);generalize 4294967296^i=p at *
 generalize 4294967296^j=q at *
 have c:p<=p*q:=Nat.le_mul_of_pos_right _ h2;have d:q<=p*q:=Nat.le_mul_of_pos_left _ h1;generalize p*q=m at *
 omega
def Bj{a b:Nat}:0<=ord a b↔b<=a:=by
 unfold ord;split
 .omega
 split<;>omega
def akz{X r:Nat}(a:0<r)(c:X<(r+1)*(r+1))(b:0<X):0<(r+X / r) / 2:=by
 rcases d_ r 2 with h|h
 . obtain rfl:r=1:=by omega
   rw[Nat.div_one];omega
 generalize X / r=q;omega
structure P3 where
 x:Int
 y:Int
 z:Int
structure T3 where
 a:P3
 b:P3
 c:P3
namespace P3
def sub(p q:P3):P3:=⟨p.x-q.x,p.y-q.y,p.z-q.z⟩
def dot(p q:P3):Int:=p.x*q.x+p.y*q.y+p.z*q.z
def cross(u v:P3):P3:=⟨u.y*v.z-u.z*v.y,u.z*v.x-u.x*v.z,u.x*v.y-u.y*v.x⟩
end P3
def T3.normal(t:T3):P3:=(t.b.sub t.a).cross (t.c.sub t.a)
def pt(p:P3):Go.Value:=.agg #[G p.x,G p.y,G p.z]
def tr(t:T3):Go.Value:=.agg #[G t.a.x,G t.a.y,G t.a.z,G t.b.x,G t.b.y,G t.b.z,G t.c.x,G t.c.y,G t.c.z]
def wv(v:P3):Go.Value:=.agg #[.bool (fF v.x),.string (iR v.x),.bool (fF v.y),.string (iR v.y),.bool (fF v.z),.string (iR v.z)]
def D.up{n:Int}[x:D k n](h:k<=m:=by decide):Bd m n:=x.h.mono h
def Na:iR 0=⟨#[]⟩:=by
 have:nO 0=[]:=by
  unfold nO;rw[(uJ (B:=256) (by omega)).2 rfl];rfl
 simp only[iR,Int.natAbs_zero,this]
def aa1:W 0=.agg #[.bool X9,.string ⟨#[]⟩]:=by simp only[W,Na];rfl
class Iw(n:Int):Prop where
 h:nQ n
class I3(p:P3):Prop where
 x:nQ p.x
 y:nQ p.y
 z:nQ p.z
class IT(t:T3):Prop where
 a:I3 t.a
 b:I3 t.b
 c:I3 t.c
instance {p:P3}[h:I3 p]:Iw p.x:=⟨h.x⟩
instance {p:P3}[h:I3 p]:Iw p.y:=⟨h.y⟩
instance {p:P3}[h:I3 p]:Iw p.z:=⟨h.z⟩
instance {t:T3}[h:IT t]:I3 t.a:=h.a
instance {t:T3}[h:IT t]:I3 t.b:=h.b
instance {t:T3}[h:IT t]:I3 t.c:=h.c
instance {n:Int}[h:Iw n]:D 64 n:=⟨h.h.bd⟩
class Bv(k:outParam Nat)(v:P3):Prop where
 x:Bd k v.x
 y:Bd k v.y
 z:Bd k v.z
instance {k:Nat}{v:P3}[h:Bv k v]:D k v.x:=⟨h.x⟩
instance {k:Nat}{v:P3}[h:Bv k v]:D k v.y:=⟨h.y⟩
instance {k:Nat}{v:P3}[h:Bv k v]:D k v.z:=⟨h.z⟩
theorem Bv.mono{v:P3}(h:Bv k v)(a:k<=m):Bv m v:=⟨h.x.mono a,h.y.mono a,h.z.mono a⟩
theorem Bv.of{v:P3}[h:Bv k v](a:k<=m:=by decide):Bv m v:=h.mono a
instance {p q:P3}[a:I3 p][b:I3 q]:Bv 65 (p.sub q):=⟨a.x.bd.sub b.x.bd,a.y.bd.sub b.y.bd,a.z.bd.sub b.z.bd⟩
def aa2{l:Nat}{a b c d:Int}(e:Bd k a)(f:Bd l b)(hc:Bd k c)(g:Bd l d):Bd (k+l+1) (a*b-c*d):=by
 have:=(e.mul f).sub (hc.mul g);exact this.mono (by omega)
def akA{l:Nat}{a b c d:Int}(e:Bd k a)(f:Bd l b)(hc:Bd k c)(g:Bd l d):Bd (k+l+1) (a*b+c*d):=by
 have:=(e.mul f).add (hc.mul g);exact this.mono (by omega)
instance {k l:Nat}{u v:P3}[a:Bv k u][b:Bv l v]:Bv (k+l+1) (u.cross v):=⟨aa2 a.y b.z a.z b.y,aa2 a.z b.x a.x b.z,aa2 a.x b.y a.y b.x⟩
instance {k l:Nat}{u v:P3}[a:Bv k u][b:Bv l v]:D (k+l+2) (u.dot v):=⟨((akA a.x b.x a.y b.y).add (a.z.mul b.z)).mono (by omega)⟩
instance {t:T3}[h:IT t]:Bv 131 t.normal:=inferInstanceAs (Bv 131 ((t.b.sub t.a).cross (t.c.sub t.a)))
def P3.dot0{u v:P3}:0+u.x*v.x+u.y*v.y+u.z*v.z=u.dot v:=by simp only[P3.dot,Int.zero_add]
section
variable{P:cg}{Q:Exit->Act->an->Prop}{a:Act}{w:an}{c:Code}{n:Nat}
def Eb(h:c.wp P (Exit.then (Code.rounds P c Q n) Q) a w):Code.rounds P c Q (n+1) a w:=h
def mM(h:c.wp P (Exit.then (Code.rounds P c Q n) Q) a w):Exit.then (Code.rounds P c Q (n+1)) Q .normal a w:=h
end
inductive sP where
 |nil:sP
 |take:Nat->sP->sP
 |one:Nat->sP->sP
 |two:Nat->sP->Nat->sP->sP
 |three:Nat->sP->Nat->sP->Nat->sP->sP
section
variable{P:cg}{ops:Array Oper}{md:Region.Mode}{S:an->Prop}
def sP.ok(md:Region.Mode)(ops:Array Oper):sP->Nat->Array Bool->Bool
 |.nil,f,a=>f == 0&&(Region.ready md ops a).isEmpty
 |.take i t,f,a=>decide (0<f)&&(ops[i]?).isSome&&Region.free md ops a i&&(Region.ready md ops a).contains i&&t.ok md ops (f-1) (a.setIfInBounds i Z)
 |.one i t,f,a=>decide (0<f)&&(ops[i]?).isSome&&decide (Region.ready md ops a=[i])&&t.ok md ops (f-1) (a.setIfInBounds i Z)
 |.two i t j u,f,a=>decide (0<f)&&(ops[i]?).isSome&&(ops[j]?).isSome&&decide (Region.ready md ops a=[i,j])&&t.ok md ops (f-1) (a.setIfInBounds i Z)&&u.ok md ops (f-1) (a.setIfInBounds j Z)
 |.three i t j u k v,f,a=>decide (0<f)&&(ops[i]?).isSome&&(ops[j]?).isSome&&(ops[k]?).isSome&&decide (Region.ready md ops a=[i,j,k])&&t.ok md ops (f-1) (a.setIfInBounds i Z)&&u.ok md ops (f-1) (a.setIfInBounds j Z)&&v.ok md ops (f-1) (a.setIfInBounds k Z)
def cU(P:cg)(ops:Array Oper)(S:an->Prop)(Q:Exit->Act->an->Prop):sP->Act->an->Prop
 |.nil,a,w=>Q .normal a w
 |.take i t,a,w=>cJ P ops S (λ_ a w=>cU P ops S Q t a w) [((ops[i]?).getD default,Z)] a w
 |.one i t,a,w=>bf P ops (Exit.then (λa w=>S w/\cU P ops S Q t a w) Q) [(ops[i]?).getD default] a w
 |.two i t j u,a,w=>bf P ops (Exit.then (λa w=>S w/\cU P ops S Q t a w) Q) [(ops[i]?).getD default] a w/\bf P ops (Exit.then (λa w=>S w/\cU P ops S Q u a w) Q) [(ops[j]?).getD default] a w
 |.three i t j u k v,a,w=>bf P ops (Exit.then (λa w=>S w/\cU P ops S Q t a w) Q) [(ops[i]?).getD default] a w/\bf P ops (Exit.then (λa w=>S w/\cU P ops S Q u a w) Q) [(ops[j]?).getD default] a w/\bf P ops (Exit.then (λa w=>S w/\cU P ops S Q v a w) Q) [(ops[k]?).getD default] a w
def jT{Q:Exit->Act->an->Prop}{K:Act->an->Prop}{o:Oper}(g:ops[i]? = H o){a:Act}{w:an}(h:bf P ops (Exit.then K Q) [o] a w):wpOp P ops Q i K a w:=by
 unfold wpOp;simp only[g];simp only[bf] at h;split
 . rename_i c
   rw[Z9 c] at h;rcases h with h|⟨d,x,y,f⟩
   . refine .inl ?_
     unfold oh at h ⊢;generalize (N a.eval o).run P w=j at *
     cases j with
     |ok n w'=>
      cases n<;>simp only[px] at h ⊢ <;>
       first
        |exact h
        |exact Calls.mono h (λe k b=>by cases e<;>exact b)
        |exact Rows.mono h (λ_ _ b=>b)
     |halt x w'=>cases x<;>simp only[px] at h ⊢<;>exact h
   exact .inr ⟨d,x,y,f⟩
 rename_i c
 rw[K0 c] at h;exact h
def jA{Q:Exit->Act->an->Prop}(q:Region.noSelect ops=Z)(p:∀c d v a w,Q (.panic c) (Act.put a d v) w->Q (.panic c) a w):∀(t:sP)(f:Nat)(s:Array Bool)(a:Act)(w:an),
 t.ok md ops f s=Z->S w->cU P ops S Q t a w->wpAnyH P md ops Q S f s a w
 |.nil,f,s,a,w,e,_,h=>by
  simp only[sP.ok,bt,beq_iff_eq] at e;obtain⟨rfl,h2⟩:=e;exact⟨by simpa using h2,h⟩
 |.take i t,f,s,a,w,e,x,h=>by
  simp only[sP.ok,bt,Y2] at e;obtain⟨⟨⟨⟨z,h1⟩,h2⟩,D⟩,r⟩:=e;obtain⟨o,n⟩:=el.1 h1;simp only[cU,cJ,n,dt] at h;obtain⟨v,J,I⟩:=h;obtain⟨f,rfl⟩:∃g,f=g+1:=⟨f-1,by omega⟩
  exact wpAnyH_take n q h2 D (λc a w=>p c _ v a w) J x (jA q p t f _ _ _ r x I)
 |.one i t,f,s,a,w,e,x,h=>by
  simp only[sP.ok,bt,Y2] at e;obtain⟨⟨⟨z,h1⟩,h2⟩,r⟩:=e;obtain⟨o,n⟩:=el.1 h1;obtain⟨f,rfl⟩:∃g,f=g+1:=⟨f-1,by omega⟩
  refine wpAnyH_all h2 (by simp) λj F=>?_;obtain rfl:j=i:=by simpa using F
  simp only[cU,n,dt] at h;exact wpOp_mono (λl w' b=>⟨b.1,jA q p t f _ l w' r b.1 b.2⟩) (jT n h)
 |.two i t j u,f,s,a,w,e,x,h=>by
  simp only[sP.ok,bt,Y2] at e;obtain⟨⟨⟨⟨⟨z,h1⟩,B⟩,h2⟩,r⟩,A⟩:=e;obtain⟨o,n⟩:=el.1 h1;obtain⟨o',y⟩:=el.1 B;obtain⟨f,rfl⟩:∃g,f=g+1:=⟨f-1,by omega⟩
  simp only[cU,n,y,dt] at h;refine wpAnyH_all h2 (by simp) λk G=>?_;have K:k=i\/k=j:=by simpa using G
  rcases K with rfl|rfl
  .exact wpOp_mono (λl w' b=>⟨b.1,jA q p t f _ l w' r b.1 b.2⟩) (jT n h.1)
  exact wpOp_mono (λl w' b=>⟨b.1,jA q p u f _ l w' A b.1 b.2⟩) (jT y h.2)
 |.three i t j u k v,f,s,a,w,e,x,h=>by
  simp only[sP.ok,bt,Y2] at e;obtain⟨⟨⟨⟨⟨⟨⟨z,h1⟩,B⟩,M⟩,h2⟩,r⟩,A⟩,E⟩:=e;obtain⟨o,n⟩:=el.1 h1;obtain⟨o',y⟩:=el.1 B;obtain⟨N,C⟩:=el.1 M;obtain⟨f,rfl⟩:∃g,f=g+1:=⟨f-1,by omega⟩
  simp only[cU,n,y,C,dt] at h;refine wpAnyH_all h2 (by simp) λm H=>?_;have L:m=i\/m=j\/m=k:=by simpa using H
  rcases L with rfl|rfl|rfl
  .exact wpOp_mono (λl w' b=>⟨b.1,jA q p t f _ l w' r b.1 b.2⟩) (jT n h.1)
  .exact wpOp_mono (λl w' b=>⟨b.1,jA q p u f _ l w' A b.1 b.2⟩) (jT y h.2.1)
  exact wpOp_mono (λl w' b=>⟨b.1,jA q p v f _ l w' E b.1 b.2⟩) (jT C h.2.2)
def Ec{id:Nat}{Q:Exit->Act->an->Prop}{a:Act}{w:an}{l:List Oper}(t:sP)(g:P.follows .mixedOrders=Z)(b:(Region.noSelect l.toArray&&t.ok .any l.toArray l.toArray.size (ie l.toArray.size X9))=Z)
 (e:∀c d v a w,Q (.panic c) (Act.put a d v) w->Q (.panic c) a w)
 (h:∀w',eQ w w'->∃S,akr w' S/\cU P l.toArray S Q t a w'):(Code.region id l.toArray Z).wp P Q a w:=by
 simp only[bt] at b;obtain⟨S,f,h⟩:=h _ (eQ.refl w).drawn;exact wp_region_held (S:=S) g (jA (md:=.any) b.1 e t _ _ a _ b.2 f h)
variable{Q:Exit->Act->an->Prop}{a:Act}{w:an}{o o':Oper}{i j:Nat}{t u:sP}
def xR(h:Q .normal a w):cU P ops S Q .nil a w:=h
def eC(b:(ops[i]?).getD default=o)(h:cJ P ops S (λ_ a w=>cU P ops S Q t a w) [(o,Z)] a w):cU P ops S Q (.take i t) a w:=by subst b;exact h
def jQ(b:(ops[i]?).getD default=o)(h:bf P ops (Exit.then (λa w=>S w/\cU P ops S Q t a w) Q) [o] a w):cU P ops S Q (.one i t) a w:=by subst b;exact h
def Po(c:(ops[i]?).getD default=o)(d:(ops[j]?).getD default=o')(h:bf P ops (Exit.then (λa w=>S w/\cU P ops S Q t a w) Q) [o] a w)(b:bf P ops (Exit.then (λa w=>S w/\cU P ops S Q u a w) Q) [o'] a w):cU P ops S Q (.two i t j u) a w:=by
 subst c;subst d;exact⟨h,b⟩
end
section
variable{P:cg}{ops:Array Oper}{md:Region.Mode}{w0:an}
def YE(P:cg)(ops:Array Oper)(w0:an)(o:Oper)(v:ak)(a:Act):Prop:=
 (Region.wanted o (yielded ops a.tmps)=Z/\∀w,eQ w0 w->o.quietAt P a (eQ w) w v)\/(Region.wanted o (yielded ops a.tmps)=X9/\v=undef)
def YE.of_same{o:Oper}{v:ak}{a b:Act}(e:YE P ops w0 o v a)(c:N b.eval o=N a.eval o)
 (d:Region.wanted o (yielded ops b.tmps)=Region.wanted o (yielded ops a.tmps)):YE P ops w0 o v b:=by
 unfold YE om at *
 rw[c,d];exact e
def qE(P:cg)(ops:Array Oper)(w0:an)(i:Nat)(K:Act->Prop)(a:Act):Prop:=∃o v,ops[i]? = H o/\YE P ops w0 o v a/\K (a.put o.dst v)
def aoQ{a:Act}{K b:Act->Prop}(h:∀a,K a->b a)(d:qE P ops w0 i K a):qE P ops w0 i b a:=
 let ⟨o,v,h1,h2,c⟩:=d;⟨o,v,h1,h2,h _ c⟩
def arX{j:Nat}{c d:Oper}{v:ak}(g:ops[j]? = H d)(n:c.apart ops d=Z)(p:∀cs b,c.op≠.select cs b)(q:∀cs b,d.op≠.select cs b){K:Act->Prop}{a:Act}
 (m:YE P ops w0 c v a) (h:qE P ops w0 j K (a.put c.dst v)):qE P ops w0 j (λe=>YE P ops w0 c v e/\K (e.put c.dst v)) a:=by
 obtain⟨h1,h2,f⟩:=Oper.apart_spec n;obtain⟨o,u,i,l,k⟩:=h;rw[g] at i;cases i;refine⟨d,u,g,l.of_same (execOp_put d q a c.dst v h1).symm (wanted_put d a c.dst v h1).symm,m.of_same (execOp_put c p a d.dst u f) (wanted_put c a d.dst u f),?_⟩;rw[<-Act.put_comm a v u h2];exact k
def Sy(P:cg)(md:Region.Mode)(ops:Array Oper)(w0:an)(n:Nat)(L:Array Bool->Act->Prop):Nat->Array Bool->Act->Prop
 |0,b,a=>L b a
 |f+1,b,a=>Region.ready md ops b≠[]/\∀i∈Region.ready md ops b,i<n/\qE P ops w0 i (Sy P md ops w0 n L f (b.setIfInBounds i Z)) a
def aa3{n i:Nat}{g:Oper}{v:ak}{L:Array Bool->Act->Prop}(w:ops[i]? = H g)(E:∀(j:Nat) (o:Oper) cs b,ops[j]? = H o->o.op≠.select cs b)
 (A:Region.sinkB md ops n=Z) (hc:Region.chainB md ops n=Z) (z:n<ops.size) (B:i<n)
 (T:∀c a,L c a->∀j∈Region.ready md ops c,n<=j) :
 ∀(f:Nat)(c:Array Bool)(a:Act),HeadInv md ops n c ->
  (∀j p,ops[j]? = H p->j≠i->c.getD j Z=X9->(∀e∈p.after,Region.binds md e=Z->e.on≠i)->g.apart ops p=Z) ->
  i∈Region.ready md ops c->YE P ops w0 g v a ->
  Sy P md ops w0 n L f (c.setIfInBounds i Z) (a.put g.dst v)->Sy P md ops w0 n L (f+1) c a:=by
 intro f
 induction f with
 |zero=>
  intro c a u _ d s r;have q:=(mem_ready.1 d).1;refine⟨λh=>(by rw[h] at d;cases d),λj m=>?_⟩;have t:j<n:=by
   rcases d_ j n with h|h
   .exact h
   exact Y0 m (tail_waits A hc z u _ i O B q j h)
  refine⟨t,?_⟩;by_cases l:j=i
  .subst l;exact⟨g,v,w,s,r⟩
  have:=T _ _ r j (ready_mono m l)
  omega
 |succ f ih=>
  intro c a u F d s r;have q:=(mem_ready.1 d).1;refine⟨λh=>(by rw[h] at d;cases d),λj m=>?_⟩;have t:j<n:=by
   rcases d_ j n with h|h
   .exact h
   exact Y0 m (tail_waits A hc z u _ i O B q j h)
  refine⟨t,?_⟩;by_cases l:j=i
  .subst l;exact⟨g,v,w,s,r⟩
  have h1:=(r.2 j (ready_mono m l)).2
  obtain⟨D,p,x,R⟩:=mem_ready.1 m;have S:∀e∈p.after,Region.binds md e=Z->e.on≠i:=λe J I M=>by
   have h1:=R e J I;rw[M,getD_both q] at h1;cases h1
  have h2:=arX x (F j p x l D S) (λcs b=>E i g cs b w) (λcs b=>E j p cs b x) s h1;have U:∀k ok,ops[k]? = H ok->k≠i->(c.setIfInBounds j Z).getD k Z=X9 ->
   (∀e∈ok.after,Region.binds md e=Z->e.on≠i)->g.apart ops ok=Z:=λk ok K N q Q=>by
   refine F k ok K N ?_ Q;by_cases C:j=k
   .subst C;exact D
   rw[getD_set_ne Z C] at q;exact q
  refine aoQ (λG y=>ih (c.setIfInBounds j Z) G (u.set m t) U (ready_mono d (Ne.symm l)) y.1 ?_) h2;rw[pq _ _ l];exact y.2
def Ed(P:cg)(ops:Array Oper)(w0:an)(L:Act->Prop):List Oper->Act->Prop
 | [],a=>L a
 |o::r,a=>∃v,YE P ops w0 o v a/\Ed P ops w0 L r (a.put o.dst v)
def akB(md:Region.Mode)(ops:Array Oper)(g n:Nat):List Nat->Array Bool->Bool
 | [],a=>Region.seqB md ops g n a
 |i::r,a=>(ops[i]?).isSome&&decide (i<n)&&(Region.ready md ops a).contains i&&Region.free md ops a i&&akB md ops g n r (a.setIfInBounds i Z)
def Sz{n g:Nat}{L:Act->Prop}(p:Region.noSelect ops=Z)(j:Region.sinkB md ops n=Z)(hc:Region.chainB md ops n=Z)(f:n<ops.size) :
 ∀(l:List Nat)(b:Array Bool)(a:Act),HeadInv md ops n b->akB md ops g n l b=Z->Ed P ops w0 L (l.map λi=>(ops[i]?).getD default) a ->
 Sy P md ops w0 n (λq e=>Region.seqB md ops g n q=Z/\L e) l.length b a
 | [],b,a,_,c,h=>⟨by simpa[akB] using c,h⟩
 |i::l,b,a,m,c,h=>by
  simp only[akB,bt,Y2] at c;obtain⟨⟨⟨⟨h1,h2⟩,r⟩,s⟩,t⟩:=c;obtain⟨o,d⟩:=el.1 h1;simp only[bm,Ed,d,dt] at h;obtain⟨v,x,w⟩:=h;have k:i∈Region.ready md ops b:=by simpa using r
  exact aa3 d (Region.noSelect_spec p) j hc f h2 (λq e u=>seqB_ready u.1) l.length b a m (Region.free_spec d s) k x (Sz p j hc f l _ _ (m.set k h2) t w)
structure Al where
 i:Nat
 d:Nat
 T:bh
 cs:List ak
def Bk(P:cg)(md:Region.Mode)(ops:Array Oper)(x:Al):Prop:=
 ∃ty pos after,ops[x.i]? = H (ci (H x.d) (.alloc x.T) ty pos after G0)/\(after.all λe=>!Region.binds md e)=Z/\∃z,qD P x.T z/\z.cells=x.cs.toArray
def fX(E:Nat->Option ak):List Al->Act->Act
 | [],a=>a
 |x::r,a=>match E x.i with
  |some v=>fX E r (a.put (H x.d) v)
  |none=>fX E r a
def Bl(ops:Array Oper)(o:Oper)(al:List Al):Bool:=al.all λx=>!(o.looksAt ops).contains x.d&&o.dst != H x.d
def Ee{E:Nat->Option ak}{o:Oper}(c:∀cs b,o.op≠.select cs b):∀{al:List Al},Bl ops o al=Z->∀a,N (fX E al a).eval o=N a.eval o/\Region.wanted o (yielded ops (fX E al a).tmps)=Region.wanted o (yielded ops a.tmps)
 | [],_,a=>⟨rfl,rfl⟩
 |x::r,hc,a=>by
  simp only[Bl,List.all_cons,bt,ip] at hc;have g:Bl ops o r=Z:=by simp only[Bl,bt,ip] ;simpa using hc.2
  have f:x.d∉o.looksAt ops:=by simpa using hc.1.1
  unfold fX;split
  . obtain⟨h1,h2⟩:=Ee (E:=E) c g (a.put (H x.d) _)
    rename_i v _;exact⟨h1.trans (execOp_put o c a (H x.d) v (λd e=>by cases e;exact f)),h2.trans (wanted_put o a (H x.d) v (λd e=>by cases e;exact f))⟩
  exact Ee c g a
def Is{E:Nat->Option ak}{o:Oper}{v:ak}:∀{al:List Al},Bl ops o al=Z->∀a,(fX E al a).put o.dst v=fX E al (a.put o.dst v)
 | [],_,a=>rfl
 |x::r,hc,a=>by
  simp only[Bl,List.all_cons,bt,ip,bne_iff_ne,ne_eq] at hc;have b:Bl ops o r=Z:=by simp only[Bl,bt,ip] ;simpa using hc.2
  unfold fX;split
  . rename_i u _
    rw[Is b,Act.put_comm a u v (λd e=>by cases e;exact hc.1.2)]
  exact Is b a
def Ta{E:Nat->Option ak}{x:Al}{v:ak}:∀{al:List Al},(al.map (·.i)).Nodup->(al.map (·.d)).Nodup->x∈al->E x.i=G0->∀a,(fX E al a).put (H x.d) v=fX (λj=>if j=x.i then H v else E j) al a
 | [],_,_,hx,_,_=>by cases hx
 |y::r,c,f,hx,g,a=>by
  simp only[bm,gv] at c f;have same:∀(l:List Al),x.i∉l.map (·.i)->∀a,fX (λj=>if j=x.i then H v else E j) l a=fX E l a:=by
   intro l
   induction l with
   |nil=>intro _ a;rfl
   |cons z l ih=>
    intro b a;simp only[bm,av,not_or] at b;unfold fX;simp only[Ne.symm b.1,X0];split<;>exact ih b.2 _
  have push:∀(l:List Al),x.d∉l.map (·.d)->∀a,(fX E l a).put (H x.d) v=fX E l (a.put (H x.d) v):=by
   intro l
   induction l with
   |nil=>intro _ a;rfl
   |cons z l ih=>
    intro b a;simp only[bm,av,not_or] at b;unfold fX;split
    . rename_i u _
      rw[ih b.2,Act.put_comm a u v (λd e=>by cases e;simp;exact b.1)]
    exact ih b.2 _
  rcases av.1 hx with rfl|hx
  . unfold fX
    simp only[g,Y4];rw[push r f.1,same r c.1]
  have h:y.i≠x.i:=λe=>c.1 (by rw[e];exact gm hx)
  unfold fX;simp only[h,X0];split<;>exact Ta c.2 f.2 hx g _
def cnt(E:Nat->Option ak)(al:List Al):Nat:=(al.filter λx=>(E x.i).isNone).length
def agE{E:Nat->Option ak}{x:Al}{v:ak}:∀{al:List Al},(al.map (·.i)).Nodup->x∈al->E x.i=G0->cnt E al=cnt (λj=>if j=x.i then H v else E j) al+1
 | [],_,hx,_=>by cases hx
 |y::r,a,hx,c=>by
  simp only[bm,gv] at a;have same:∀(l:List Al),x.i∉l.map (·.i)->cnt (λj=>if j=x.i then H v else E j) l=cnt E l:=by
   intro l
   induction l with
   |nil=>intro _;rfl
   |cons z l ih=>
    intro b;simp only[bm,av,not_or] at b;have:=ih b.2;unfold cnt at *
    rw[ft,ft];simp only[Ne.symm b.1,X0];split<;>simp[this]
  rcases av.1 hx with rfl|hx
  . have:=same r a.1
    unfold cnt at *
    rw[ft,ft];simp[c,this]
  have d:y.i≠x.i:=λe=>a.1 (by rw[e];exact gm hx)
  have:=agE (v:=v) a.2 hx c;unfold cnt at *
  rw[ft,ft];simp only[d,X0];split<;>simp[this]
def acM{E:Nat->Option ak}{al:List Al}(h:cnt E al=0):∀x∈al,∃v,E x.i=H v:=λx b=>by
 unfold cnt at h;have:=List.filter_eq_nil_iff.1 (fj h) x b;cases a:E x.i with
 |none=>simp[a] at this
 |some v=>exact⟨v,rfl⟩
def aoR{E:Nat->Option ak}{al:List Al}(h:0<cnt E al):∃x∈al,E x.i=G0:=by
 unfold cnt at h;obtain⟨x,a⟩:=List.length_pos_iff_exists_mem.1 h;obtain⟨h1,h2⟩:=List.mem_filter.1 a;exact⟨x,h1,by simpa using h2⟩
def Nb(base:Nat)(E:Nat->Option ak)(al:List Al)(w:an):Prop:=
 (∀x∈al,∀v,E x.i=H v->∃g,v=.pointer (H ⟨g,0,G0⟩)/\base<=g/\fK w g x.cs x.T) /\
 (∀x∈al,∀y∈al,x.i≠y.i->∀g a,E x.i=H (.pointer (H ⟨g,0,G0⟩))->E y.i=H (.pointer (H ⟨a,0,G0⟩))->g≠a)
def Nb.ext{E:Nat->Option ak}{al:List Al}{w w':an}(h:Nb base E al w)(b:eQ w w'):Nb base E al w':=
 ⟨λx f v d=>let ⟨g,e,c,a⟩:=h.1 x f v d;⟨g,e,c,a.ext b⟩,h.2⟩
def Nb.new{base:Nat}{E:Nat->Option ak}{al:List Al}{w:an}(h:Nb base E al w){x:Al}(m:x∈al)(f:(al.map (·.i)).Nodup)(u:E x.i=G0)(s:base<=w.heap.size) :
 Nb base (λj=>if j=x.i then H (.pointer (H ⟨w.heap.size,0,G0⟩)) else E j) al (w.alloc (.cells x.cs.toArray x.T)):=by
 have t:∀y∈al,y.i=x.i->y=x:=by
  intro y a e;clear h
  induction al with
  |nil=>cases m
  |cons z r ih=>
   simp only[bm,gv] at f;rcases av.1 m with rfl|hx'
   . rcases av.1 a with rfl|hy'
     .rfl
     exact Y0 (by rw[<-e];exact gm hy') f.1
   rcases av.1 a with rfl|hy'
   .exact Y0 (by rw[e];exact gm hx') f.1
   exact ih hx' f.2 hy'
 refine⟨λy a v k=>?_,λy a z n o g p h1 h2=>?_⟩
 . by_cases e:y.i=x.i
   . obtain rfl:=t y a e
     simp only[Y4] at k;cases k;exact⟨_,O,s,jH w _ _⟩
   simp only[e,X0] at k
   obtain⟨g,b,l,c⟩:=h.1 y a v k;exact⟨g,b,l,c.ext ((eQ.refl w).alloc _)⟩
 by_cases e:y.i=x.i
 . have d:z.i≠x.i:=λl=>o (e.trans l.symm)
   simp only[e,Y4] at h1;simp only[d,X0] at h2;cases h1;obtain⟨q,b,_,c⟩:=h.1 z n _ h2;cases b;exact Nat.ne_of_gt c.lt
 by_cases d:z.i=x.i
 . simp only[e,X0] at h1
   simp only[d,Y4] at h2;cases h2;obtain⟨q,b,_,c⟩:=h.1 y a _ h1;cases b;exact Nat.ne_of_lt c.lt
 simp only[e,X0] at h1
 simp only[d,X0] at h2;exact h.2 y a z n o g p h1 h2
def aa4(md:Region.Mode)(ops:Array Oper)(n:Nat)(al:List Al):Bool:=
 decide ((al.map (·.i)).Nodup)&&decide ((al.map (·.d)).Nodup)&&(al.all λx=>decide (x.i<n)) &&
 ((ii n).all λj=>(al.any λx=>x.i == j)||match ops[j]? with
  |some o=>Bl ops o al&&o.after.all λe=>!Region.binds md e || !(al.any λx=>x.i == e.on)
  |none=>Z)
def sim{n g:Nat}{al:List Al}{L:Act->Prop}{Q':Exit->Act->an->Prop}{tl:List Oper}(aT:Region.noSelect ops=Z)(hs:Region.sinkB md ops n=Z)(hc:Region.chainB md ops n=Z)(hn:n<ops.size)
 (aq:∀x∈al,Bk P md ops x) (hB:aa4 md ops n al=Z) (aH:∀j,tl[j]? = ops[n+j]?) (ar:tl.length=g)
 (hL:∀a E w,eQ w0 w->Nb w0.heap.size E al w->(∀x∈al,∃v,E x.i=H v)->L a->bf P ops Q' tl (fX E al a) w) :
 ∀(k f:Nat)(E:Nat->Option ak)(c lm:Array Bool)(a:Act)(w:an),k=f+cnt E al->HeadInv md ops n c->lm.size=c.size->(∀j,lm.getD j X9=(c.getD j X9||al.any λx=>x.i == j)) ->
  (∀x∈al,(E x.i=G0↔c.getD x.i X9=X9))->eQ w0 w->Nb w0.heap.size E al w ->
  Sy P md ops w0 n (λaW a'=>Region.seqB md ops g n aW=Z/\L a') f lm a->wpAny P md ops Q' (k+g) c (fX E al a) w:=by
 simp only[aa4,bt,Y2,ej,ij] at hB;obtain⟨⟨⟨ag,aD⟩,aC⟩,aa⟩:=hB;intro k
 induction k with
 |zero=>
  intro f E c lm a w hk s J p A G W F;obtain rfl:f=0:=by omega
  have h0:cnt E al=0:=by omega
  have X:=acM h0;have ay:lm=c:=by
   apply ry J;intro j h1 h2;have m:=p j;simp only[oz,iw h1,iw h2,dt] at m;rw[m];cases aB:c[j] with
   |true=>rfl
   |false=>
    rw[kh];cases aN:al.any λx=>x.i == j with
    |false=>rfl
    |true=>
     obtain⟨x,l,D⟩:=ff.1 aN;have ai:x.i=j:=by simpa using D
     obtain⟨v,C⟩:=X x l;have:c.getD x.i X9=X9:=by
      rw[ai,oz,iw h2];simpa using aB
     rw[(A x l).2 this] at C;cases C
  subst ay;obtain⟨Y,H2⟩:=F;rw[aj,<-ar];exact wpAny_of_seq (md:=md) tl n lm _ w aH (by rw[ar];exact Y) (hL a E w G W X H2)
 |succ k ih=>
  intro f E c lm a w hk s J p A G W F;have aw:∀j,j<ops.size->c.getD j X9=X9->c.getD j Z=X9:=λj U h=>getD_in (by rw[s.size];exact U) h
  -- some head operation is not listed
  have aV:∃j,j∈Region.ready md ops c/\j<n:=by
   rcases fm (cnt E al) with h0|h0
   . obtain⟨f,rfl⟩:∃q,f=q+1:=⟨f-1,by omega⟩
     obtain⟨aE,hr⟩:=F;obtain⟨j,U⟩:=List.exists_mem_of_ne_nil _ aE;have az:=(hr j U).1;refine⟨j,?_,az⟩;have X:=acM h0;obtain⟨aA,oj,aF,ao⟩:=mem_ready.1 U;refine mem_ready.2 ⟨?_,oj,aF,λe B M=>?_⟩
     . have h1:=p j
       rw[getD_both aA] at h1;have h2:c.getD j X9=X9:=by
        cases h:c.getD j X9 with
        |false=>rfl
        |true=>rw[h] at h1;simp at h1
       exact aw j (by omega) h2
     have h1:=p e.on
     rw[ao e B M] at h1;cases h:c.getD e.on X9 with
     |true=>rfl
     |false=>
      rw[h,kh] at h1;obtain⟨x,l,D⟩:=ff.1 h1.symm;have ai:x.i=e.on:=by simpa using D
      obtain⟨v,C⟩:=X x l;rw[(A x l).2 (by rw[ai];exact h)] at C;cases C
   obtain⟨x,l,D⟩:=aoR h0
   obtain⟨ty,pos,after,ah,ap,_⟩:=aq x l;have aI:x.i<n:=by simpa using aC x l
   refine⟨x.i,mem_ready.2 ⟨aw _ (by omega) ((A x l).1 D),_,ah,λe B M=>?_⟩,aI⟩;have:=Array.all_eq_true_iff_forall_mem.1 ap e B;simp[M] at this
  obtain⟨j0,af,aQ⟩:=aV;have aR:=(mem_ready.1 af).1;rw[show k+1+g=(k+g)+1 by omega];refine⟨λh=>(by rw[h] at af;cases af),λi S=>?_⟩;have ae:i<n:=by
   rcases d_ i n with h|h
   .exact h
   exact Y0 S (tail_waits hs hc hn s _ j0 O aQ aR i h)
  obtain⟨au,Q,R,ao⟩:=mem_ready.1 S;by_cases ad:al.any (λx=>x.i == i)=Z
  . -- an allocation
    obtain⟨x,l,D⟩:=ff.1 ad;obtain rfl:x.i=i:=by simpa using D
    obtain⟨ty,pos,after,ah,ap,z,hz,aL⟩:=aq x l;have ab:E x.i=G0:=(A x l).2 (getD_both au);obtain⟨aY,aO,aP⟩:=hz;unfold wpOp;simp only[ah];rw[Z9 (by simp[Region.wanted])];refine .inl ?_;have aS:∀ρ:cw->ak,(N ρ (ci (H x.d) (.alloc x.T) ty pos after G0)).run P w=.ok (.value (.pointer (H ⟨w.heap.size,0,G0⟩))) (w.alloc (.cells x.cs.toArray x.T)):=λρ=>by
     simp[N,Instr.alloc,zeroValue,typeInfo,aO,aP,newVar,newRow,aL,newObj,Sem.run]
    unfold oh;rw[aS];show wpAny P md ops Q' (k+g) (c.setIfInBounds x.i Z) ((fX E al a).put (H x.d) (.pointer (H ⟨w.heap.size,0,G0⟩))) _
    rw[Ta ag aD l ab];have aX:=agE (v:=.pointer (H ⟨w.heap.size,0,G0⟩)) ag l ab;have aJ:x.i<c.size:=by rw[s.size];omega
    refine ih f _ _ lm a _ (by omega) (s.set S ae) (by simp[J]) (λj=>?_) (λy I=>?_) (G.alloc _) (W.new l ag ab G.size) F
    . rw[p j]
      by_cases e:x.i=j
      . subst e
        rw[ad];simp
      rw[getD_set_ne X9 e]
    by_cases e:x.i=y.i
    . rw[<-e]
      simp[aJ]
    rw[getD_set_ne X9 e]
    simp only[Ne.symm e,X0];exact A y I
  -- an operation that computes
  have am:al.any (λx=>x.i == i)=X9:=by simpa using ad
  have V:=aa i ae;rw[am,kh,R] at V;simp only[bt] at V;have ax:i∈Region.ready md ops lm:=by
   refine mem_ready.2 ⟨?_,Q,R,λe B M=>by rw[p,ao e B M];rfl⟩;have h1:=p i;rw[getD_both au,am] at h1;exact getD_in (by rw[J,s.size];omega) (by simpa using h1)
  cases f with
  |zero=>
   obtain⟨Y,H2⟩:=F;have:=seqB_ready Y i ax;omega
  |succ f=>
   obtain⟨_,o,v,ho,I,hK⟩:=F.2 i ax;rw[R] at ho;cases ho;have aG:∀cs b,Q.op≠.select cs b:=λcs b=>Region.noSelect_spec aT i Q cs b R;obtain⟨t,K⟩:=Ee (E:=E) aG V.1 a;have aK:=I.of_same t K;have key:∀w',eQ w w'->wpAny P md ops Q' (k+g) (c.setIfInBounds i Z) ((fX E al a).put Q.dst v) w':=λw' av=>by
    rw[Is V.1];refine ih f E _ _ _ w' (by omega) (s.set S ae) (by simp[J]) (λj=>?_) (λy I=>?_) (G.trans av) (W.ext av) hK
    . by_cases e:i=j
      . subst e
        have h1:i<c.size:=by rw[s.size];omega
        simp[h1,J]
      rw[getD_set_ne X9 e,getD_set_ne X9 e,p j]
    have e:i≠y.i:=λe=>by
     have:al.any (λx=>x.i == i)=Z:=ff.2 ⟨y,I,by simp[e]⟩;rw[am] at this;cases this
    rw[getD_set_ne X9 e];exact A y I
   unfold wpOp;simp only[R];rcases aK with ⟨hw,C⟩|⟨hw,rfl⟩
   . rw[Z9 hw]
     refine .inl ?_;have m:=C w G;unfold om at m;unfold oh;generalize (N (fX E al a).eval Q).run P w=r at *
     cases r with
     |ok nx w'=>
      cases nx<;>simp only[Oper.quietUpon] at m<;>simp only[px]
      case value u=>
       obtain⟨t,K⟩:=m;rw[t,K];exact key w (eQ.refl w)
      case skip=>
       obtain⟨t,K⟩:=m;rw[t,<-K];exact key w (eQ.refl w)
      case enter f' args=>
       obtain⟨t,aa⟩:=m;rw[t];exact aa.mono λe aM ⟨B,aU⟩=>by subst B;exact key aM aU
     |halt x w'=>simp only[Oper.quietUpon] at m
   rw[K0 (by rw[hw];simp)]
   exact key w (eQ.refl w)
def iF{id:Nat}{Q:Exit->Act->an->Prop}{a:Act}{w:an}{l:List Oper}(n:Nat)(d:List Nat)(al:List Al)(W:P.follows .mixedOrders=Z)
 (q:(Region.noSelect l.toArray&&decide (n<l.length)&&Region.sinkB .any l.toArray n&&Region.chainB .any l.toArray n&&aa4 .any l.toArray n al&&decide (n=d.length+al.length) &&
  akB .any l.toArray (l.length-n) n d (al.foldl (λs x=>s.setIfInBounds x.i Z) (ie l.toArray.size X9)))=Z)
 (B:∀x∈al,Bk P .any l.toArray x) {ol:List Oper} (ag:(d.map λi=>(l.toArray[i]?).getD default)=ol)
 (h:∀b,eQ w b->Ed P l.toArray b (λR=>∀E w',eQ b w'->Nb b.heap.size E al w'->(∀x∈al,∃v,E x.i=H v)->bf P l.toArray Q (l.drop n) (fX E al R) w') ol a):(Code.region id l.toArray Z).wp P Q a w:=by
 simp only[bt,Y2] at q;obtain⟨⟨⟨⟨⟨⟨M,X⟩,z⟩,hc⟩,u⟩,am⟩,L⟩:=q;subst ag;have F:n<l.toArray.size:=by simpa using X
 have C:=u;simp only[aa4,bt,Y2,ej,ij] at C;obtain⟨⟨⟨av,au⟩,D⟩,ar⟩:=C;generalize ae:al.foldl (λs x=>s.setIfInBounds x.i Z) (ie l.toArray.size X9)=lm at L;have aq:∀(r:List Al)(s:Array Bool),(r.foldl (λs x=>s.setIfInBounds x.i Z) s).size=s.size/\∀j,j<s.size->(r.foldl (λs x=>s.setIfInBounds x.i Z) s).getD j X9=(s.getD j X9||r.any λx=>x.i == j):=by
  intro r
  induction r with
  |nil=>intro s;exact⟨O,λj _=>by simp⟩
  |cons x r ih=>
   intro s;obtain⟨h1,h2⟩:=ih (s.setIfInBounds x.i Z);refine⟨by rw[j_,h1];simp,λj hj=>?_⟩;rw[j_,h2 j (by simpa using hj),List.any_cons];by_cases e:x.i=j
   . subst e
     simp[hj]
   have S:(x.i == j)=X9:=by simpa using e
   rw[getD_set_ne X9 e,S,kh]
 obtain⟨I,K⟩:=aq al (ie l.toArray.size X9);rw[ae] at I K;have p:lm.size=l.toArray.size:=by rw[I];simp
 have o:∀j,lm.getD j X9=al.any λx=>x.i == j:=λj=>by
  rcases d_ j l.toArray.size with hj|hj
  .rw[K j (by simpa using hj),getD_replicate_false,kh]
  have h1:lm.getD j X9=X9:=by rw[oz,ot (by omega)];rfl
  rw[h1]
  symm
  rw[Bool.eq_false_iff];intro h2;obtain⟨x,c,k⟩:=ff.1 h2;have m:x.i=j:=by simpa using k
  have:x.i<n:=by simpa using D x c
  omega
 have ao:HeadInv .any l.toArray n (ie l.toArray.size X9):=
  ⟨by simp,λj oj _ f=>(by rw[getD_replicate_false] at f;cases f),λt _ A=>getD_in (by simpa using A) (getD_replicate_false _ _)⟩
 have ap:HeadInv .any l.toArray n lm:=by
  refine⟨p,λj oj af f e V U=>?_,λt A ah=>getD_in (by rw[p];exact ah) ?_⟩
  . rw[o] at f
    obtain⟨x,c,k⟩:=ff.1 f;have m:x.i=j:=by simpa using k
    obtain⟨ty,pos,after,G,aa,_⟩:=B x c;rw[m,af] at G;cases G;have:=Array.all_eq_true_iff_forall_mem.1 aa e V;simp[U] at this
  rw[o,Bool.eq_false_iff]
  intro h2;obtain⟨x,c,k⟩:=ff.1 h2;have m:x.i=t:=by simpa using k
  have:x.i<n:=by simpa using D x c
  omega
 refine wp_region_any W ?_;obtain⟨b,J⟩:∃b,b=({ w with drawn:=w.drawn+1 }:an):=⟨_,rfl⟩
 rw[<-J];have c:eQ w b:=by rw[J];exact (eQ.refl w).drawn
 have N:=Sz (md:=.any) (g:=l.length-n) M z hc F d lm a ap L (h b c);have ak:cnt (λ_=>G0) al=al.length:=by
  unfold cnt;simp
 have key:=sim (md:=.any) (P:=P) (ops:=l.toArray) (w0:=b) (Q':=Q) (tl:=l.drop n) (g:=l.length-n) (al:=al) M z hc F B u (λj=>by simp[fa]) (by simp) (λa E w' ai ad aj T=>T E w' ai ad aj)
  (d.length+al.length) d.length (λ_=>G0) (ie l.toArray.size X9) lm a b (by rw[ak]) ao (by rw[p];simp) (λj=>by rw[getD_replicate_false,kh];exact o j)
  (λx _=>⟨λ_=>getD_replicate_false _ _,λ_=>rfl⟩) (eQ.refl b) ⟨λx _ v Y=>(by cases Y),λx _ y _ _ g g' h1 _=>(by cases h1)⟩ N
 have ab:∀r:List Al,fX (λ_=>G0) r a=a:=by
  intro r
  induction r with
  |nil=>rfl
  |cons x r ih=>exact ih
 rw[ab,<-am] at key;have e:n+(l.length-n)=l.toArray.size:=by rw[iq];omega
 rwa [e] at key
end
section
variable{P:cg}{ops:Array Oper}{w0:an}{L:Act->Prop}{ds:List eh}{l:List ak}{rest:List Oper}{d:Nat}{op:Op}{ty:bh}{pos:String}{after:Array Edge}{v:ak}{x y:cw}{T:bh}
def akC(a:∀w,eQ w0 w->Dh P l op ty v w)(h:Ed P ops w0 L rest (Fr (l.set d v) ds)):Ed P ops w0 L (ci (H d) op ty pos after G0::rest) (Fr l ds):=by
 refine⟨v,.inl ⟨by simp[Region.wanted],λw b=>?_⟩,?_⟩
 . unfold om
   rw[iP,a w b _ rfl rfl];exact⟨O,O⟩
 show Ed P ops w0 L rest ((Fr l ds).put (H d) v)
 rw[gV];exact h
def fT(a:iD P l op ty v)(h:Ed P ops w0 L rest (Fr (l.set d v) ds)):Ed P ops w0 L (ci (H d) op ty pos after G0::rest) (Fr l ds):=akC (λw _=>a w) h
def iM{a:Addr}(e:ev l x=.pointer (H a))(c:∀w',eQ w0 w'->lC P w' T a v)(h:Ed P ops w0 L rest (Fr (l.set d v) ds)):Ed P ops w0 L (ci (H d) (.load T x) ty pos after G0::rest) (Fr l ds):=
 akC (λ_ b=>bE e (c _ b)) h
def Ri{f:FuncId}{a:cw}{xs:Array cw}{args:List ak}{first cap:Array ak}{a0:Array bh}(g:ev l a=.func (.func f) first cap)(i:first.toList++xs.toList.map (ev l)++cap.toList=args)(hc:∀w',eQ w0 w'->dF P f args w' λu _=>u=v)
 (h:Ed P ops w0 L rest (Fr (l.set d v) ds)):Ed P ops w0 L (ci (H d) (.call { callee:=.value a,args:=xs,argTypes:=a0 }) ty pos after G0::rest) (Fr l ds):=by
 refine⟨v,.inl ⟨by simp[Region.wanted],λw b=>?_⟩,?_⟩
 . unfold om
   rw[iP,rJ (hc w b).1 g i _ rfl];refine⟨O,(hc w b).2.mono ?_⟩;rintro e j ⟨u,rfl,c,rfl⟩;exact⟨O,c⟩
 show Ed P ops w0 L rest ((Fr l ds).put (H d) v)
 rw[gV];exact h
def iT{f:FuncId}{a:cw}{xs:Array cw}{args:List ak}{first cap:Array ak}{a0:Array bh}(b:ev l a=.func (.func f) first cap)(c:first.toList++xs.toList.map (ev l)++cap.toList=args)(hc:eS P f args v)
 (h:Ed P ops w0 L rest (Fr (l.set d v) ds)):Ed P ops w0 L (ci (H d) (.call { callee:=.value a,args:=xs,argTypes:=a0 }) ty pos after G0::rest) (Fr l ds):=
 Ri b c (λw' _=>hc w') h
def Pp(h:L (Fr l ds)):Ed P ops w0 L [] (Fr l ds):=h
def al1{md:Region.Mode}{x:Al}(h:Bk P md ops x):∀y∈[x],Bk P md ops y:=λy hy=>by
 rcases av.1 hy with rfl|hy
 .exact h
 cases hy
def al2{md:Region.Mode}{x y:Al}(h:Bk P md ops x)(k:Bk P md ops y):∀z∈[x,y],Bk P md ops z:=λz hz=>by
 rcases av.1 hz with rfl|hz
 .exact h
 exact al1 k z hz
variable{Q:Exit->Act->an->Prop}{tl:List Oper}
def arY{i d:Nat}{T:bh}{cs:List ak}(h:∀w' g,eQ w0 w'->w0.heap.size<=g->fK w' g cs T->bf P ops Q tl (Fr (l.set d (.pointer (H ⟨g,0,G0⟩))) ds) w') :
 ∀E w',eQ w0 w'->Nb w0.heap.size E [⟨i,d,T,cs⟩] w'->(∀x∈[(⟨i,d,T,cs⟩:Al)],∃v,E x.i=H v)->bf P ops Q tl (fX E [⟨i,d,T,cs⟩] (Fr l ds)) w':=λE w' c f a=>by
 obtain⟨v,a⟩:=a ⟨i,d,T,cs⟩ (by simp);obtain⟨g,rfl,j,b⟩:=f.1 ⟨i,d,T,cs⟩ (by simp) v a;have e:fX E [⟨i,d,T,cs⟩] (Fr l ds)=Fr (l.set d (.pointer (H ⟨g,0,G0⟩))) ds:=by
  simp only[fX,a];exact gV _ _
 rw[e];exact h w' g c j b
def arZ{i d j e:Nat}{T U:bh}{cs us:List ak}(q:i≠j)(h:∀w' g k,eQ w0 w'->w0.heap.size<=g->w0.heap.size<=k->fK w' g cs T->fK w' k us U->k≠g->bf P ops Q tl (Fr ((l.set d (.pointer (H ⟨g,0,G0⟩))).set e (.pointer (H ⟨k,0,G0⟩))) ds) w') :
 ∀E w',eQ w0 w'->Nb w0.heap.size E [⟨i,d,T,cs⟩,⟨j,e,U,us⟩] w'->(∀x∈[(⟨i,d,T,cs⟩:Al),⟨j,e,U,us⟩],∃v,E x.i=H v)->bf P ops Q tl (fX E [⟨i,d,T,cs⟩,⟨j,e,U,us⟩] (Fr l ds)) w':=λE w' m a b=>by
 obtain⟨v,h1⟩:=b ⟨i,d,T,cs⟩ (by simp);obtain⟨u,h2⟩:=b ⟨j,e,U,us⟩ (by simp);obtain⟨g,rfl,o,f⟩:=a.1 ⟨i,d,T,cs⟩ (by simp) v h1;obtain⟨k,rfl,p,n⟩:=a.1 ⟨j,e,U,us⟩ (by simp) u h2;have c:fX E [⟨i,d,T,cs⟩,⟨j,e,U,us⟩] (Fr l ds)=Fr ((l.set d (.pointer (H ⟨g,0,G0⟩))).set e (.pointer (H ⟨k,0,G0⟩))) ds:=by
  simp only[fX,h1,h2];rw[gV,gV]
 rw[c];exact h w' g k m o p f n (Ne.symm (a.2 ⟨i,d,T,cs⟩ (by simp) ⟨j,e,U,us⟩ (by simp) q g k h1 h2))
end
end
section
section
variable{P:cg}{ops:Array Oper}{w0:an}{ds:List eh}{l:List ak}{Q:Exit->Act->an->Prop}{tl:List Oper}
end
end
section
open Go.RowKit
variable{n cap c:Nat}{w:an}{A:Option Addr}{E t:bh}{α:Type}
section
variable{P:cg}{ds:List eh}{l:List ak}{T ty:bh}{ops:Array Oper}{Q:Exit->Act->an->Prop}{rest:List Oper}{d:Nat}{pos:String}{after:Array Edge}{w:an}
def mA{E:bh}{c n:Nat}{z:ak}{parts:Array (Nat×cw)}{vs:Array (Nat×ak)}{base:Array ak}{cs:List ak}(s:P.underlying T=H (.slice E))(a:(P.info? E).map (λi=>(i.size,i.zero))=H (c,H z))(m:n*c≠0)(u:n*c<=16777216)
 (p:((q_ (n*c)).map λi=>z.cells[i%z.cells.size]!)=base) (r:(parts.map λ(i,x)=>(i,ev l x))=vs) (f:Instr.fill (λi=>H (i*c,c)) base vs.toList=H cs.toArray)
 (h:∀w' g,eQ w w'->w.heap.size<=g->fK w' g cs E->bf P ops Q rest (Fr (l.set d (.slice (H ⟨g,0,G0⟩) n n)) ds) w') :
 bf P ops Q (ci (H d) (.buildSlice T n parts) ty pos after G0::rest) (Fr l ds) w:=by
 subst p;subst r;cases b:P.info? E with
 |none=>rw[b] at a;cases a
 |some i=>
  rw[b] at a;simp only[fw,gu,fy] at a;obtain⟨j,k⟩:=a;have e:(Fr l).eval=ev l:=funext cK;have t:¬16777216<n*c:=by omega
  refine lK (w':=w.alloc (.cells cs.toArray E)) (v:=.slice (H ⟨w.heap.size,0,G0⟩) n n) (λo q _=>?_) (h _ _ ((eQ.refl w).alloc _) (ba _) (jH w cs E));simp only[N,q,e];simp[Instr.buildSlice,cq s,sizeOf,typeInfo,zeroValue,b,j,k,t,newRow,newObj,Sem.run] at f ⊢;rw[K0 m];simp[f];rfl
end
def nv(v:P3):Go.Value:=.agg #[G v.x,G v.y,G v.z]
def sg(v:P3):Go.Value:=.agg #[G (cA v.x),G (cA v.y),G (cA v.z)]
class S3(p:P3):Prop where
 x:p.x.natAbs<262144
 y:p.y.natAbs<262144
 z:p.z.natAbs<262144
class N3(p:P3):Prop where
 x:p.x.natAbs<524288
 y:p.y.natAbs<524288
 z:p.z.natAbs<524288
instance {p q:P3}[a:S3 p][b:S3 q]:N3 (p.sub q):=⟨by have:=a.x;have:=b.x;simp only[P3.sub];omega,by have:=a.y;have:=b.y;simp only[P3.sub];omega,by have:=a.z;have:=b.z;simp only[P3.sub];omega⟩
def Di{a b:Int}(c:a.natAbs<524288)(d:b.natAbs<524288) : -274877906944<a*b/\a*b<274877906944:=by
 have h:(a*b).natAbs<=524287*524287:=by rw[Int.natAbs_mul];exact ji (by omega) (by omega)
 omega
def ar0{x y:Int}(h : -274877906944<x/\x<274877906944)(k : -274877906944<y/\y<274877906944):IntKind.i64.wrap (x-y)=x-y:=cF (by omega) (by omega)
def Ze{x:Int}(h : -274877906944<x/\x<274877906944):IntKind.i64.wrap x=x:=cF (by omega) (by omega)
def Cz{v:Int}(h:nQ v):IntKind.u64.wrap (if v<IntKind.i64.wrap (0-v) then IntKind.i64.wrap (0-v) else v)=(v.natAbs:Int):=by
 obtain⟨h1,h2⟩:=h;rcases Int.lt_or_le (-9223372036854775808) v with h3|h3
 . rw[cF (x:=0-v) (by omega) (by omega),gU]
   split<;>omega
 obtain rfl:v = -9223372036854775808:=by omega
 decide
def aoS:ByteArray:=⟨#[0,1,2,2,3,3,3,3,4,4,4,4,4,4,4,4,5,5,5,5,5,5,5,5,5,5,5,5,5,5,5,5,6,6,6,6,6,6,6,6,6,6,6,6,6,6,6,6,6,6,6,6,6,6,6,6,6,6,6,6,6,6,6,6,7,7,7,7,7,7,7,7,7,7,7,7,7,7,7,7,7,7,7,7,7,7,7,7,7,7,7,7,7,7,7,7,7,7,7,7,7,7,7,7,7,7,7,7,7,7,7,7,7,7,7,7,7,7,7,7,7,7,7,7,7,7,7,7,8,8,8,8,8,8,8,8,8,8,8,8,8,8,8,8,8,8,8,8,8,8,8,8,8,8,8,8,8,8,8,8,8,8,8,8,8,8,8,8,8,8,8,8,8,8,8,8,8,8,8,8,8,8,8,8,8,8,8,8,8,8,8,8,8,8,8,8,8,8,8,8,8,8,8,8,8,8,8,8,8,8,8,8,8,8,8,8,8,8,8,8,8,8,8,8,8,8,8,8,8,8,8,8,8,8,8,8,8,8,8,8,8,8,8,8,8,8,8,8,8,8,8,8,8,8,8,8]⟩
def ail:∀i,i<256->∃b:UInt8,aoS[i]? = H b/\b.toNat<=8/\(b.toNat<=2->i<4):=by
 have h:(ii 256).all (λi=>match aoS[i]? with
  |some b=>decide (b.toNat<=8)&&(decide (2<b.toNat)||decide (i<4))
  |none=>X9)=Z:=by decide +kernel
 intro i c;have:=ej.1 h i (ij.2 c);cases a:aoS[i]? with
 |none=>rw[a] at this;cases this
 |some b=>
  rw[a] at this;simp only[bt,Bool.or_eq_true,Y2] at this;exact⟨b,O,this.1,λh=>by omega⟩
section
variable{P:cg}{ds:List eh}{l:List ak}{x y:cw}{T ty:bh}{ops:Array Oper}{Q:Exit->Act->an->Prop}{rest:List Oper}{d:Nat}{pos:String}{after:Array Edge}{w:an}{k:IntKind}
def Ef{Y:Nat}(e:P.underlying T=H .string)(f:ev l x=.string aoS)(g:ev l y=.int k (Y:Int))(a:Y<256)(h:∀b:Nat,b<=8->(b<=2->Y<4)->bf P ops Q rest (Fr (l.set d (.int .u8 (b:Int))) ds) w) :
 bf P ops Q (ci (H d) (.index T x y) ty pos after G0::rest) (Fr l ds) w:=by
 obtain⟨b,c,h1,h2⟩:=ail Y a;exact C (qH e f g (by omega) (by rw[ai];exact c)) (h b.toNat h1 h2)
end
def akD{m:Nat}:(m:Int).fdiv (2^(min (16:Int).toNat IntKind.u64.bits))=((m / 65536:Nat):Int):=by
 show (m:Int).fdiv (2^16)=_
 rw[jc _ (by decide)];omega
def agF{m:Nat}:(m:Int).fdiv (2^(min (8:Int).toNat IntKind.u64.bits))=((m / 256:Nat):Int):=by
 show (m:Int).fdiv (2^8)=_
 rw[jc _ (by decide)];omega
def T3.flat(t:T3):Prop:=t.normal.x=0/\t.normal.y=0/\t.normal.z=0
variable{ts:List T3}
instance (t:T3):Decidable t.flat:=inferInstanceAs (Decidable (_/\_/\_))
def gX{n:Int}:cA n=0↔n=0:=by
 unfold cA;constructor
 . intro h
   split at h
   .cases h
   split at h
   .cases h
   omega
 rintro rfl;rfl
def acN{n:Int}:0<=cA n↔0<=n:=by
 unfold cA;split
 .constructor<;>intro h<;>omega
 split<;>constructor<;>intro h<;>omega
def akE{n:Int}:0<cA n↔0<n:=by
 unfold cA;split
 .constructor<;>intro h<;>omega
 split<;>constructor<;>intro h<;>omega
def akF{n:Int}:cA n<=0↔n<=0:=by
 have:=@akE n;omega
def akG(a:Int):0<=a*a:=by
 rcases p_ 0 a with h|h
 .exact Int.mul_nonneg h h
 exact Int.mul_nonneg_of_nonpos_of_nonpos h h
def akH(u:P3):0<=u.dot u:=by
 have:=akG u.x;have:=akG u.y;have:=akG u.z;simp only[P3.dot];omega
def ava:Bd 1 1:=by
 show Int.natAbs 1<2^1
 decide
instance:D 1 1:=⟨ava⟩
structure cN(w:an)(A:Option Addr)(n:Nat)(ts:List T3):Prop where
 len:ts.length=n
 it:∀t∈ts,IT t
 row:∀i t,ts[i]? = H t->∃a,A=H a/\jS w (a.add (i*9)) [G t.a.x,G t.a.y,G t.a.z,G t.b.x,G t.b.y,G t.b.z,G t.c.x,G t.c.y,G t.c.z]
def cN.ext{w':an}(h:cN w A n ts)(b:eQ w w'):cN w' A n ts:=
 ⟨h.len,h.it,λi t c=>let ⟨a,e,d⟩:=h.row i t c;⟨a,e,d.ext b⟩⟩
def cN.nil(w:an)(A:Option Addr):cN w A 0 []:=⟨rfl,λt h=>(by cases h),λi t h=>(by cases h)⟩
def cN.get(h:cN w A n ts){i:Nat}(e:i<n):∃t,ts[i]? = H t/\IT t/\∃a,A=H a/\jS w (a.add (i*9)) [G t.a.x,G t.a.y,G t.a.z,G t.b.x,G t.b.y,G t.b.z,G t.c.x,G t.c.y,G t.c.z]:=by
 have d:i<ts.length:=by rw[h.len];exact e
 refine⟨ts[i],ap d,h.it _ (fl d),h.row i _ (ap d)⟩
def akI{a b:Int}:(fF a=fF b/\iR a=iR b)↔a=b:=by
 constructor
 . rintro⟨h1,h2⟩
   exact aq0 (by simp only[W,h1,h2])
 rintro rfl;exact⟨O,O⟩
def aM(t:T3):List Go.Value:=[G t.a.x,G t.a.y,G t.a.z,G t.b.x,G t.b.y,G t.b.z,G t.c.x,G t.c.y,G t.c.z]
def eK(t:T3):(aM t).length=9:=rfl
def Gn:∀(ts:List T3)(i:Nat)(t:T3),ts[i]? = H t->(ts.flatMap aM).drop (i*9)=aM t++(ts.drop (i+1)).flatMap aM
 | [],i,t,h=>by cases h
 |u::ts,0,t,h=>by
  cases h;rfl
 |u::ts,i+1,t,h=>by
  rw[cz,show (i+1)*9=(aM u).length+i*9 by rw[eK];omega,od,gw (by omega),cl];rw[show (aM u).length+i*9-(aM u).length=i*9 by omega];exact Gn ts i t h
abbrev Pq(A:Option Addr):Option Nat:=A.map (·.block)
structure Ow(w0 w:an)(S:List (Option Nat))(E:bh)(c:Nat)(A:Option Addr)(n cap:Nat)(xs:List ak):Prop where
 own:w.ownsRow w0.heap.size E c (.slice A n cap) n xs
 sep:∀b,Pq A=H b->H b∉S
 bd:∀b,H b∈S->b<w.heap.size
structure Wr(w w':an)(A:Option Addr):Prop where
 os:w'.os=w.os
 tape:w'.tape=w.tape
 output:w'.output=w.output
 size:w.heap.size<=w'.heap.size
 block:∀k,k<w.heap.size->Pq A≠H k->w'.heap[k]? = w.heap[k]?
def pG{w:an}{base c n cap:Nat}{E:bh}{A:Option Addr}{xs:List ak}(h:w.ownsRow base E c (.slice A n cap) n xs) :
 (A=G0/\n=0/\cap=0/\xs=[])\/∃g a,A=H ⟨g,0,G0⟩/\base<=g/\w.heap[g]? = H (.cells a E (0,0))/\n<=cap/\cap<=maxLen/\a.size=cap*c/\a.toList.take (n*c)=xs:=by
 rcases h.2 with ⟨h1,h2⟩|⟨g,j,a,h1,h2,b,d,e,f,i⟩
 . cases h1
   exact .inl ⟨O,h2,O,fj (by rw[h.1,h2,Nat.zero_mul])⟩
 cases h1
 exact .inr ⟨g,a,O,h2,b,d,e,f,i⟩
section
variable{w0 w w':an}{S:List (Option Nat)}{E:bh}{c n cap:Nat}{A:Option Addr}{xs:List ak}
def Ow.cases(h:Ow w0 w S E c A n cap xs):(A=G0/\n=0/\cap=0/\xs=[])\/∃g a,A=H ⟨g,0,G0⟩/\w0.heap.size<=g/\w.heap[g]? = H (.cells a E (0,0))/\n<=cap/\cap<=maxLen/\a.size=cap*c/\a.toList.take (n*c)=xs:=pG h.own
def Ow.ge(h:Ow w0 w S E c A n cap xs):∀b,Pq A=H b->w0.heap.size<=b:=λb a=>by
 rcases h.cases with ⟨rfl,_⟩|⟨g,e,rfl,d,_⟩
 .cases a
 cases a
 exact d
def Ow.le(h:Ow w0 w S E c A n cap xs):n<=cap:=by
 rcases h.cases with ⟨_,rfl,rfl,_⟩|⟨g,a,_,_,_,h1,_⟩
 .exact ba _
 exact h1
def Ow.some(h:Ow w0 w S E c A n cap xs)(a:0<n):∃g,A=H ⟨g,0,G0⟩:=by
 rcases h.cases with ⟨_,rfl,_⟩|⟨g,b,rfl,_⟩
 .omega
 exact⟨g,O⟩
def Ow.row(h:Ow w0 w S E c A n cap xs):∀j u,xs[j]? = lw u->∃a,A=lw a/\w.cell? (a.add j)=lw u:=λj u b=>by
 rcases h.cases with ⟨_,_,_,rfl⟩|⟨g,f,rfl,_,e,_,_,_,d⟩
 .cases b
 refine⟨_,O,?_⟩
 rw[eD,aj,cell_of_row w g j f E (0,0) e];rw[<-d,gh] at b;split at b
 .simpa using b
 cases b
def Ow.rows{g:Nat}(h:Ow w0 w S E c (lw ⟨g,0,G0⟩) n cap xs):jS w ⟨g,0,G0⟩ xs:=λj u b=>by
 obtain⟨a,e,h1⟩:=h.row j u b;cases e;exact h1
def Ow.nil(w0 w:an)(E:bh)(c:Nat):Ow w0 w [] E c G0 0 0 []:=⟨World.ownsRow_nil w _ E c,λ_ h=>(by cases h),λ_ h=>(by cases h)⟩
def Ow.mk' {g:Nat}{cs:List ak}(b:fK w g cs E)(d:w0.heap.size<=g)(a:cs.length=n*c)(e:n<=maxLen):Ow w0 w [] E c (lw ⟨g,0,G0⟩) n n cs:=
 ⟨⟨a,.inr ⟨g,n,_,rfl,d,b,ba _,e,by simpa using a,by simp[<-a]⟩⟩,λ_ _ h=>(by cases h),λ_ h=>(by cases h)⟩
def Ow.as{ys:List ak}(h:Ow w0 w S E c A n cap xs)(e:xs=ys):Ow w0 w S E c A n cap ys:=e▸h
end
section
variable{P:cg}{ds:List eh}{l:List ak}{x y:cw}{T ty:bh}
variable{ops:Array Oper}{Q:Exit->Act->an->Prop}{rest:List Oper}{d:Nat}{pos:String}{after:Array Edge}{w w0:an}{S:List (Option Nat)}{E:bh}{c n cap m mcap:Nat}{A B:Option Addr}{xs news:List ak}
def Wr.refl(w:an)(A:Option Addr):Wr w w A:=⟨rfl,rfl,rfl,ba _,λ_ _ _=>rfl⟩
def Xq{t:bh}{i:TypeInfo}{z:ak}{bytes:Nat}(s:P.underlying t=H (.slice E))(q:P.info? E=H i)(M:i.zero=H z)(al:i.size=c)(aa:i.bytes=bytes)(ag:z.cells.size=c)(af:0<c)
 (d:Ow w0 w S E c A n cap xs) (l:news.length=m*c) (J:∀j u,news[j]? = H u->∃a,B=H a/\w.cell? (a.add j)=H u) (h1:∀u∈news,u.oneCell'=Z)
 (N:n+m<=maxLen) (T:(n+m)*bytes<=140737488355328) (ai:w0.heap.size<=w.heap.size) :
 ∃v R w',(Builtin.append_ #[t,t] ty #[.slice A n cap,.slice B m mcap]).run P w=.ok (.slice v (n+m) R) w'/\Ow w0 w' S E c v (n+m) R (xs++news)/\Wr w w' A/\(v=A\/Pq v=H w.heap.size):=by
 subst al;subst aa;have an:n+m<=9223372036854775807:=by simp only[maxLen] at N;omega
 have y:(xs++news).length=(n+m)*i.size:=by rw[bg,d.own.1,l,ik]
 have grown:∀(f:Nat),f<n+m ->
  Ow w0 (w.drew.alloc (.cells (xs.toArray++news.toArray++Builtin.zeroCells z.cells (grownCap w (n+m) f E-(n+m))) E)) S E i.size
   (H ⟨w.heap.size,0,G0⟩) (n+m) (grownCap w (n+m) f E) (xs++news) /\
  Wr w (w.drew.alloc (.cells (xs.toArray++news.toArray++Builtin.zeroCells z.cells (grownCap w (n+m) f E-(n+m))) E)) A:=by
  intro f ho;have ad:=grownCap_ge w (n+m) f E;have I:grownCap w (n+m) f E<=maxLen:=grownCap_le_maxLen w (n+m) f E N;refine⟨⟨⟨y,.inr ⟨w.heap.size,_,_,O,ai,heap_alloc_new w.drew _,ad,I,?_,?_⟩⟩,λb o x=>?_,λb o=>?_⟩,⟨O,O,O,by simp,λk D _=>heap_alloc_old w.drew _ (h:=D)⟩⟩
  . simp only[Array.size_append,iq,size_zeroCells,ag,d.own.1,l,<-ik]
    congr 1
    omega
  . simp only[Array.toList_append,dm]
    rw[<-dm,<-y];exact List.take_left
  . have X:w.heap.size=b:=by simpa using o
    subst X;exact Y0 (d.bd _ x) (Nat.lt_irrefl _)
  have:=d.bd _ o
  have h2:(w.drew.alloc (.cells (xs.toArray++news.toArray++Builtin.zeroCells z.cells (grownCap w (n+m) f E-(n+m))) E)).heap.size=w.heap.size+1:=by simp
  rw[h2];omega
 have Q:B=G0->m=0/\news=[]:=λW=>by
  have F:news=[]:=by
   cases news with
   |nil=>rfl
   |cons u us=>obtain⟨a,e,_⟩:=J 0 u rfl;rw[W] at e;cases e
  subst F;refine⟨?_,O⟩;rcases fm m with h0|h0
  .exact h0
  have:=Nat.mul_pos h0 af;simp at l;omega
 rcases d.cases with ⟨rfl,rfl,rfl,rfl⟩|⟨g,G,rfl,Y,L,ae,I,ab,am⟩
 . by_cases x:m=0
   . subst x
     have F:news=[]:=fj (by simpa using l);subst F;refine⟨G0,0,w,?_,by simpa using d,Wr.refl _ _,.inl O⟩;cases B<;>simp[Builtin.append_,cq s,sizeOf,typeInfo,q,Builtin.lenOf,Builtin.firstCells,loadCells,loadCellsFrom]
   cases B with
   |none=>exact Y0 (Q rfl).1 x
   |some a=>
    have r:=run_append_nil (P:=P) w t ty E i z s q M a m mcap news l (λj u C=>by obtain⟨V,e,h⟩:=J j u C;cases e;exact h) (by omega) (by omega) (by have o:=T;simp only[aj] at o;omega);have p:=grown 0 (by omega);simp only[aj,cl,Array.empty_append] at p ⊢;exact⟨_,_,_,r,p.1,p.2,.inr O⟩
 cases B with
 |none=>
  obtain⟨rfl,rfl⟩:=Q rfl;refine⟨H ⟨g,0,G0⟩,cap,w,?_,by simpa using d,Wr.refl _ _,.inl O⟩;simp[Builtin.append_,cq s,sizeOf,typeInfo,q,Builtin.lenOf,Builtin.firstCells,ae,storeCells]
 |some a=>
  have U:∀j u,news[j]? = H u->w.cell? (a.add j)=H u:=λj u C=>by obtain⟨V,e,h⟩:=J j u C;cases e;exact h
  by_cases K:n+m<=cap
  . have ah:n*i.size+news.length<=G.size:=by rw[l,ab,<-ik];exact gz _ K
    have r:=run_append_room (P:=P) w t ty E i s q g n cap G L a m mcap news l U h1 K ah;refine⟨_,_,_,r,⟨⟨y,.inr ⟨g,cap,_,O,Y,setRow_heap w g G _ E _ L,K,I,?_,?_⟩⟩,d.sep,λb o=>by simpa using d.bd b o⟩,⟨O,O,O,by simp,λk _ D=>setRow_other w g k _ (λe=>D (by rw[e];rfl))⟩,.inl rfl⟩
    . simp only[iq,bg,bz,ix,Array.length_toList]
      omega
    rw[am,<-y]
    exact List.take_left
  have r:=run_append_grow (P:=P) w t ty E i z s q M ⟨g,0,G0⟩ n cap xs d.own.1 d.rows a m mcap news l U (by omega) (by omega) (growslice_fits (by omega) T)
  have p:=grown cap (by omega);exact⟨_,_,_,r,p.1,p.2,.inr O⟩
def Zf{b:Nat}{z:ak}{a0:Array bh}(C:a0 = #[T,T])(J:P.underlying T=H (.slice E))(f:(P.info? E).map (λi=>(i.size,i.bytes,i.zero))=H (c,b,H z))(L:z.cells.size=c)(hc:0<c)(v:eQ w0 w)
 (I:ev l x=.slice A n cap) (R:Ow w0 w S E c A n cap xs) (K:ev l y=.slice B m mcap) (D:news.length=m*c) (U:∀j u,news[j]? = H u->∃a,B=H a/\w.cell? (a.add j)=H u) (h1:∀u∈news,u.oneCell'=Z) (M:n+m<=9223372036854775807) (V:(n+m)*b<=140737488355328)
 (h:∀e g w',Ow w0 w' S E c e (n+m) g (xs++news)->Wr w w' A->(e=A\/Pq e=H w.heap.size)->bf P ops Q rest (Fr (l.set d (.slice e (n+m) g)) ds) w') :
 bf P ops Q (ci (H d) (.call { callee:=.builtin .append,args:=#[x,y],argTypes:=a0 }) ty pos after G0::rest) (Fr l ds) w:=by
 subst C;cases k:P.info? E with
 |none=>rw[k] at f;cases f
 |some i=>
  rw[k] at f;simp only[fw,gu,fy] at f;obtain⟨p,q,r⟩:=f;obtain⟨e,g,w',G,h2,s,t⟩:=Xq (P:=P) (w:=w) (ty:=ty) (mcap:=mcap) J k r p q L hc R D U h1 (by simpa[maxLen] using M) V v.size;exact lK (λo F O=>by simp[N,F,O,resolve,invoke,builtin,cK,I,K,G]) (h e g w' h2 s t)
def Xr{a:Array ak}{xs us:List ak}{off k:Nat}(f:a.toList.take k=xs)(e:xs.length=k)(g:off+us.length<=k):(bR a.toList off us).take k=bR xs off us:=by
 subst f;have h:k<=a.toList.length:=by rw[bz] at e;omega
 unfold bR;apply gt;intro j;rw[gh];have d:(a.toList.take off).length=off:=by rw[bz];omega
 have b:((a.toList.take k).take off).length=off:=by rw[bz,bz];omega
 simp only[dm];by_cases c:j<k
 . rw[Z9 c]
   rcases d_ j off with h1|h1
   .rw[fk (by omega),fk (by omega),List.take_take,ep (by omega)]
   rw[gj (l₁:=a.toList.take off) (by omega),gj (l₁:=(a.toList.take k).take off) (by omega),d,b]
   rcases d_ (j-off) us.length with h2|h2
   .rw[fk h2,fk h2]
   rw[gj h2,gj h2,fa,fa,gh,Z9 (by omega)]
 rw[K0 c]
 symm
 apply da;simp only[bg,b,ix,bz];omega
def akJ{g off:Nat}{us:List ak}(v:ev l x=.pointer (H ⟨g,off,G0⟩))(s:(ev l y).cells=us.toArray)(hc:dW P T us.length)(d:Ow w0 w S E c (H ⟨g,0,G0⟩) n cap xs)(m:off+us.length<=n*c)(h1:∀u∈us,u.oneCell'=Z)
 (h:∀w',Wr w w' (H ⟨g,0,G0⟩)->Ow w0 w' S E c (H ⟨g,0,G0⟩) n cap (bR xs off us)->bf P ops Q rest (Fr l ds) w'):bf P ops Q (ci G0 (.store T x y) ty pos after G0::rest) (Fr l ds) w:=by
 rcases d.cases with ⟨e,_⟩|⟨F,f,e,A,q,j,B,C,D⟩
 .cases e
 cases e
 have i:off+us.length<=f.toList.length:=by
  have:=gz c j;simp;omega
 have o:fK w g f.toList E:=by unfold fK;simpa using q
 refine tY (cs:=f.toList) (t:=E) v s hc o i h1 λw' a z=>h w' ⟨a.os,a.tape,a.output,by rw[a.size];exact ba _,λk _ r=>a.block k (λe=>r (by rw[e];rfl))⟩ ?_;refine⟨⟨?_,.inr ⟨g,cap,_,O,A,z,j,B,?_,?_⟩⟩,d.sep,λb p=>by rw[a.size];exact d.bd b p⟩
 .rw[Du (by rw[d.own.1];exact m)];exact d.own.1
 .simp only[iq];rw[Du i];simpa using C
 show ((bR f.toList off us).toArray.toList).take (n*c)=_
 simp only[dx];exact Xr D d.own.1 m
end
def Kr(ts:List T3):(ts.flatMap aM).length=ts.length*9:=by
 induction ts with
 |nil=>rfl
 |cons t ts ih=>rw[cz,bg,ih,eK,be];omega
def Ow.tris{w0:an}{S:List (Option Nat)}(h:Ow w0 w S E 9 A n cap (ts.flatMap aM))(f:∀t∈ts,IT t):cN w A n ts:=by
 refine⟨?_,f,λi t g=>?_⟩
 .have:=h.own.1;rw[Kr] at this;omega
 have d:∀j u,(aM t)[j]? = lw u->(ts.flatMap aM)[i*9+j]? = lw u:=λj u b=>by
  have k:j<(aM t).length:=(az.1 b).1;rw[<-fa,Gn ts i t g,fk k];exact b
 obtain⟨a,e,_⟩:=h.row _ _ (d 0 _ rfl);refine⟨a,e,λj u b=>?_⟩;obtain⟨l,c,hc⟩:=h.row _ _ (d j u b);rw[e] at c;cases c;rw[kZ];exact hc
def cN.cells(h:cN w A n ts):∀j u,(ts.flatMap aM)[j]? = H u->∃a,A=H a/\w.cell? (a.add j)=H u:=λj u b=>by
 have k:j<ts.length*9:=by
  have:=(az.1 b).1;rwa [Kr] at this
 have f:j / 9<ts.length:=by omega
 have c:=ap f;obtain⟨a,e,g⟩:=h.row _ _ c;refine⟨a,e,?_⟩;have d:=Gn ts (j / 9) _ c;have i:(aM ts[j / 9])[j%9]? = H u:=by
  have:((ts.flatMap aM).drop (j / 9*9))[j%9]? = H u:=by rw[fa,show j / 9*9+j%9=j by omega];exact b
  rw[d,fk (by rw[eK];omega)] at this;exact this
 have:=g _ _ i;rwa [kZ,show j / 9*9+j%9=j by omega] at this
def aoT:∀(t:T3),∀u∈aM t,u.oneCell'=Z:=λt u a=>by
 simp only[aM,av,bw,Y3] at a;rcases a with rfl|rfl|rfl|rfl|rfl|rfl|rfl|rfl|rfl<;>rfl
def rS(ts:List T3):∀u∈ts.flatMap aM,u.oneCell'=Z:=λu a=>by
 obtain⟨t,_,h⟩:=dj.1 a;exact aoT t u h
def fK.rowsO{g:Nat}{cs:List ak}(h:fK w g cs t):∀j u,cs[j]? = H u->∃a,H (⟨g,0,G0⟩:Addr)=H a/\w.cell? (a.add j)=H u:=λj u b=>⟨_,rfl,by have:=h.row 0;rw[lv] at this;exact this j u b⟩
section
variable{w0 w w':an}{S:List (Option Nat)}{E:bh}{c n cap:Nat}{A:Option Addr}{xs:List ak}
end
/-! ### Names that are short -/
def zA{l:List ak}(t:Nat):ev l (.tmp t)=l.getD t undef:=rfl
def zB{l:List ak}(v:ak):ev l (.const v)=v:=rfl
def zC{l:List ak}(f:Nat):ev l (.func f)=.func (.func f) #[] #[]:=rfl
def zD{x:α}{xs:List α}{d:α}:(x::xs).getD (n+1) d=xs.getD n d:=rfl
def zE{x:α}{xs:List α}{d:α}:(x::xs).getD 0 d=x:=rfl
def zF{x:α}{xs:List α}{a:α}:(x::xs).set (n+1) a=x::xs.set n a:=rfl
def zG{x:α}{xs:List α}{a:α}:(x::xs).set 0 a=a::xs:=rfl
def zH{x:α}{xs:List α}  : (x::xs).take (n+1)=x::xs.take n:=rfl
def zI{xs:List α}:xs.take 0=[]:=jz
def zJ{x:α}{xs:List α}  : (x::xs).drop (n+1)=xs.drop n:=rfl
def zK{xs:List α}:xs.drop 0=xs:=rfl
def zL{x:α}{xs ys:List α}:(x::xs)++ys=x::(xs++ys):=rfl
def zM{ys:List α}:[]++ys=ys:=rfl
def zN{ys:List α}:ys++[]=ys:=fz ys
def zO{x:α}{xs:List α}:(x::xs).length=xs.length+1:=rfl
def zP  : ([]:List α).length=0:=rfl
def zQ{β:Type}{f:α->β}{x:α}{xs:List α}:(x::xs).map f=f x::xs.map f:=rfl
def zR{β:Type}{f:α->β}:([]:List α).map f=[]:=rfl
def zS{l:List α}{i:Nat}:l.toArray[i]? = l[i]?:=ni
def zT{x:α}{xs:List α}  : (x::xs)[n+1]? = xs[n]?:=rfl
def zU{x:α}{xs:List α}:(x::xs)[0]? = H x:=rfl
def zV{x d:α}:(H x).getD d=x:=rfl
def I:(∀(l:List Go.Value)(t:Nat), ev l (.tmp t)=l.getD t undef)/\(∀(l:List Go.Value)(v:Go.Value), ev l (.const v)=v)/\(∀(l:List Go.Value)(f:Nat), ev l (.func f)=.func (.func f) #[] #[])/\(∀{α:Type}(x:α)(xs:List α)(n:Nat)(d:α), (x::xs).getD (n+1) d=xs.getD n d)/\(∀{α:Type}(x:α)(xs:List α)(d:α), (x::xs).getD 0 d=x)/\(∀{α:Type}(x:α)(xs:List α)(n:Nat)(a:α), (x::xs).set (n+1) a=x::xs.set n a)/\(∀{α:Type}(x:α)(xs:List α)(a:α), (x::xs).set 0 a=a::xs):= ⟨λ_ _=> rfl, λ_ _=> rfl, λ_ _=> rfl, λ_ _ _ _=> rfl, λ_ _ _=> rfl, λ_ _ _ _=> rfl, λ_ _ _=> rfl⟩
def zy:(∀{α:Type}(x:α)(xs:List α)(n:Nat), (x::xs).take (n+1)=x::xs.take n)/\(∀{α:Type}(xs:List α), xs.take 0=[])/\(∀{α:Type}(x:α)(xs:List α)(n:Nat), (x::xs).drop (n+1)=xs.drop n)/\(∀{α:Type}(xs:List α), xs.drop 0=xs):= ⟨λ_ _ _=> rfl, λ_=> jz, λ_ _ _=> rfl, λ_=> rfl⟩
def zx:(∀{α:Type}(x:α)(xs ys:List α), (x::xs)++ys=x::(xs++ys))/\(∀{α:Type}(ys:List α), []++ys=ys)/\(∀{α:Type}(ys:List α), ys++[]=ys)/\(∀{α:Type}(x:α)(xs:List α), (x::xs).length=xs.length+1)/\(∀{α:Type}, ([]:List α).length=0):= ⟨λ_ _ _=> rfl, λ_=> rfl, λ_=> fz _, λ_ _=> rfl, rfl⟩
def zw:(∀{α:Type}(l:List α)(i:Nat), l.toArray[i]? = l[i]?)/\(∀{α:Type}(x:α)(xs:List α)(n:Nat), (x::xs)[n+1]? = xs[n]?)/\(∀{α:Type}(x:α)(xs:List α), (x::xs)[0]? = H x)/\(∀{α:Type}(x d:α), (H x).getD d=x):= ⟨λ_ _=> ni, λ_ _ _=> rfl, λ_ _=> rfl, λ_ _=> rfl⟩
def zu:(∀(l:List Go.Value)(t:Nat)(ts:List Nat)(v:Go.Value)(vs:List Go.Value), fQ l (t::ts) (v::vs)=fQ (l.set t v) ts vs)/\(∀(l vs:List Go.Value), fQ l [] vs=l)/\(∀(l:List Go.Value)(t:Nat)(ts:List Nat)(g:Nat->Go.Value), rN l (t::ts) g=rN (l.set t (g t)) ts g)/\(∀(l:List Go.Value)(g:Nat->Go.Value), rN l [] g=l):= ⟨λ_ _ _ _ _=> rfl, λ_ _=> Dv, λ_ _ _ _=> rfl, λ_ _=> rfl⟩
def zv:(∀{α β:Type}(f:α->β)(x:α)(xs:List α), (x::xs).map f=f x::xs.map f)/\(∀{α β:Type}(f:α->β), ([]:List α).map f=[])/\(∀(l:List Go.Value)(t:Nat)(ts:List Nat)(v:Go.Value)(vs:List Go.Value), fQ l (t::ts) (v::vs)=fQ (l.set t v) ts vs)/\(∀(l vs:List Go.Value), fQ l [] vs=l)/\(∀(l:List Go.Value)(t:Nat)(ts:List Nat)(g:Nat->Go.Value), rN l (t::ts) g=rN (l.set t (g t)) ts g)/\(∀(l:List Go.Value)(g:Nat->Go.Value), rN l [] g=l):= ⟨λ_ _ _=> rfl, λ_=> rfl, λ_ _ _ _ _=> rfl, λ_ _=> Dv, λ_ _ _ _=> rfl, λ_ _=> rfl⟩
structure It where
 own:Nat->Prop
 P:an->Prop
 lt:∀w b,P w->own b->b<w.heap.size
 st:∀w w',P w->w.heap.size<=w'.heap.size->(∀b,own b->w'.heap[b]? = w.heap[b]?)->P w'
 bk:Option (Nat×List ak×bh):=G0
 bkP:∀x,bk=H x->(∀b,own b↔b=x.1)/\∀w,P w->fK w x.1 x.2.1 x.2.2:=by intro _ h;cases h
def bI(g:Nat)(cs:List ak)(t:bh):It where
 own b:=H g=H b
 P w:=fK w g cs t
 lt w b h e:=by cases e;exact h.lt
 st w w' h _ k:=(k g rfl).trans h
 bk:=H (g,cs,t)
 bkP x h:=by cases h;exact⟨λb=>⟨λe=>by cases e;rfl,λe=>by rw[e]⟩,λ_ h=>h⟩
def oI(E:bh)(c:Nat)(A:Option Addr)(n cap:Nat)(xs:List ak):It where
 own b:=Pq A=H b
 P w:=w.ownsRow 0 E c (.slice A n cap) n xs
 lt w b h e:=by
  rcases pG h with ⟨rfl,_⟩|⟨g,cur,rfl,_,hg,_⟩
  .cases e
  cases e;exact (ec.1 hg).1
 st w w' h _ k:=by
  refine⟨h.1,?_⟩;rcases pG h with ⟨rfl,rfl,rfl,_⟩|⟨g,cur,rfl,h1,h2,h3⟩
  .exact .inl ⟨O,O⟩
  exact .inr ⟨g,cap,cur,O,h1,(k g O).trans h2,h3⟩
def Ap(i j:It):Prop:=∀b,i.own b->j.own b->False
def Ap.symm{i j:It}(h:Ap i j):Ap j i:=λb h1 h2=>h b h2 h1
structure Mem(w0 w:an)(is:List It):Prop where
 ext:eQ w0 w
 all:∀i∈is,i.P w
 ge:∀i∈is,∀b,i.own b->w0.heap.size<=b
 nd:is.Pairwise Ap
def rT:List Bool->List It->List It
 |true::bs,i::is=>i::rT bs is
 |false::bs,_::is=>rT bs is
 |_,_=>[]
def Eg:∀(bs:List Bool)(is:List It),(rT bs is).Sublist is
 |true::bs,i::is=>(Eg bs is).cons_cons i
 |false::bs,i::is=>(Eg bs is).cons i
 | [],is=>re _
 |true::bs,[]=>re _
 |false::bs,[]=>re _
section
variable{w0 w w':an}{is:List It}
def Mem.refl(w:an):Mem w w []:=⟨eQ.refl w,λ_ h=>(by cases h),λ_ h=>(by cases h),.nil⟩
def Mem.ext' (m:Mem w0 w is)(e:eQ w w'):Mem w0 w' is:=
 ⟨m.ext.trans e,λi a=>i.st w w' (m.all i a) e.size λb c=>Below.block e b (i.lt w b (m.all i a) c),m.ge,m.nd⟩
def Mem.sel(m:Mem w0 w is)(bs:List Bool):Mem w0 w (rT bs is):=
 ⟨m.ext,λi a=>m.all i ((Eg bs is).subset a),λi a=>m.ge i ((Eg bs is).subset a),m.nd.sublist (Eg bs is)⟩
def Mem.tl{i:It}(m:Mem w0 w (i::is)):Mem w0 w is:=⟨m.ext,λj a=>m.all j (br _ a),λj a=>m.ge j (br _ a),(b_.1 m.nd).2⟩
def Mem.get(m:Mem w0 w is)(k:Nat){i:It}(a:is[k]? = H i):i.P w:=m.all i (bn a)
def Mem.b(m:Mem w0 w is)(k:Nat){g:Nat}{cs:List ak}(a:is[k]? = H (bI g cs t)):fK w g cs t:=m.get k a
def Mem.o(m:Mem w0 w is)(k:Nat){xs:List ak}(a:is[k]? = H (oI E c A n cap xs)):Ow w0 w [] E c A n cap xs:=by
 have h:w.ownsRow 0 E c (.slice A n cap) n xs:=m.get k a;refine⟨⟨h.1,?_⟩,λ_ _ h=>(by cases h),λ_ h=>(by cases h)⟩;rcases pG h with ⟨rfl,rfl,rfl,_⟩|⟨g,d,rfl,_,h2,b⟩
 .exact .inl ⟨O,O⟩
 exact .inr ⟨g,cap,d,O,m.ge _ (bn a) g O,h2,b⟩
def Mem.bo(m:Mem w0 w is)(k:Nat){g:Nat}{cs:List ak}(a:is[k]? = H (bI g cs t))(d:cs.length=n*c)(e:n<=maxLen):Ow w0 w [] t c (H ⟨g,0,G0⟩) n n cs:=
 Ow.mk' (m.b k a) (m.ge _ (bn a) g rfl) d e
def Mem.toO(m:Mem w0 w is)(k:Nat){g:Nat}{cs:List ak}(d:is[k]? = H (bI g cs t))(a:cs.length=n*c)(e:n<=maxLen):∃i,i=oI t c (H ⟨g,0,G0⟩) n n cs/\i.P w:=⟨_,rfl,(m.bo k d a e).own.1,.inr ⟨g,n,_,rfl,bu _,m.b k d,ba _,e,by simpa using a,by simp[<-a]⟩⟩
def Mem.new{i:It}(m:Mem w0 w is)(e:eQ w w')(f:i.P w')(c:∀b,i.own b->w.heap.size<=b):Mem w0 w' (i::is):=by
 have a:=m.ext' e;refine⟨a.ext,λj hj=>?_,λj hj=>?_,b_.2 ⟨λj hj b h1 h2=>?_,a.nd⟩⟩
 . rcases av.1 hj with rfl|hj
   .exact f
   exact a.all j hj
 . rcases av.1 hj with rfl|hj
   .exact λb d=>ax m.ext.size (c b d)
   exact a.ge j hj
 have:=j.lt w b (m.all j hj) h2
 have:=c b h1;omega
def Mem.newB{g:Nat}{cs:List ak}(m:Mem w0 w is)(e:eQ w w')(c:w.heap.size<=g)(a:fK w' g cs t):Mem w0 w' (bI g cs t::is):=m.new e a (λb h=>by cases h;exact c)
def Mem.newO{S:List (Option Nat)}{xs:List ak}(m:Mem w0 w is)(e:eQ w w')(h:Ow w w' S E c A n cap xs):Mem w0 w' (oI E c A n cap xs::is):=by
 refine m.new e (i:=oI E c A n cap xs) ?_ h.ge;refine⟨h.own.1,?_⟩;rcases h.cases with ⟨rfl,rfl,rfl,_⟩|⟨g,b,rfl,_,h2,a⟩
 .exact .inl ⟨O,O⟩
 exact .inr ⟨g,cap,b,O,bu _,h2,a⟩
def Mem.nilO(m:Mem w0 w is)(E:bh)(c:Nat):Mem w0 w (oI E c G0 0 0 []::is):=m.newO (eQ.refl w) (Ow.nil w w E c)
def aeR{i e:It}:∀(is:List It)(k:Nat),is.Pairwise Ap->is[k]? = H i->(∀x∈is,Ap i x->Ap e x)->(is.set k e).Pairwise Ap
 | [],_,_,h,_=>by cases h
 |j::is,0,b,h,hc=>by
  cases h;rw[ay];have:=b_.1 b;exact b_.2 ⟨λx a=>hc x (br _ a) (this.1 x a),this.2⟩
 |j::is,k+1,b,h,hc=>by
  rw[aw];have c:=b_.1 b;have d:is[k]? = H i:=h;refine b_.2 ⟨λx a=>?_,aeR is k c.2 d λx a=>hc x (br _ a)⟩;rcases lc a with a|rfl
  .exact c.1 x a
  exact (hc j (bq ..) (c.1 i (bn d)).symm).symm
def Mem.put{i g:It}(m:Mem w0 w is)(k:Nat)(f:is[k]? = H i)(D:w'.os=w.os)(A:w'.tape=w.tape)(z:w'.output=w.output)(n:w.heap.size<=w'.heap.size)(l:∀b,b<w.heap.size->¬i.own b->w'.heap[b]? = w.heap[b]?)
 (y:g.P w') (hid:(∀b,g.own b->i.own b)\/∀b,g.own b->w.heap.size<=b):Mem w0 w' (is.set k g):=by
 have u:=bn f;refine⟨⟨D.trans m.ext.os,A.trans m.ext.tape,z.trans m.ext.output,ax m.ext.size n,λb s=>(l b (cj s m.ext.size) λe=>?_).trans (Below.block m.ext b s)⟩,λj c=>?_,λj c b a=>?_,aeR is k m.nd f λx B v b h1 h2=>?_⟩
 . have:=m.ge i u b e
   omega
 . obtain⟨q,d,e⟩:=mn c
   rw[List.getElem_set] at e;split at e
   .subst e;exact y
   rename_i C
   rw[List.length_set] at d;have p:j∈is:=e▸fl d;have E:is[q]? = H j:=by rw[<-e];exact ap d
   refine j.st w w' (m.all j p) n λb a=>l b (j.lt w b (m.all j p) a) λo=>?_;have t:k<is.length:=(az.1 f).1;have r:is[k]=i:=(az.1 f).2;rcases Nat.lt_or_gt_of_ne C with h|h
   . have:=lf.1 m.nd k q t d h
     rw[r,e] at this;exact this b o a
   have:=lf.1 m.nd q k d t h
   rw[r,e] at this;exact this b a o
 . rcases lc c with c|rfl
   .exact m.ge j c b a
   rcases hid with hid|hid
   .exact m.ge i u b (hid b a)
   exact ax m.ext.size (hid b a)
 rcases hid with hid|hid
 .exact v b (hid b h1) h2
 have:=hid b h1
 have:=x.lt w b (m.all x B) h2;omega
def Mem.reO(m:Mem w0 w is)(k:Nat){n' a:Nat}{xs b:List ak}(e:is[k]? = H (oI E c A n cap xs))(h:Ow w0 w [] E c A n' a b):Mem w0 w (is.set k (oI E c A n' a b)):=by
 refine m.put k e O O O (ba _) (λ_ _ _=>rfl) ?_ (.inl λ_ h=>h);refine⟨h.own.1,?_⟩;rcases h.cases with ⟨rfl,rfl,rfl,_⟩|⟨g,f,rfl,_,h2,d⟩
 .exact .inl ⟨O,O⟩
 exact .inr ⟨g,a,f,O,bu _,h2,d⟩
def Mem.own(m:Mem w0 w is)(k:Nat){g:Nat}{cs:List ak}(a:is[k]? = H (bI g cs t))(b:cs.length=n*c)(d:n<=maxLen):Mem w0 w (is.set k (oI t c (H ⟨g,0,G0⟩) n n cs)):=by
 obtain⟨i,rfl,h⟩:=m.toO k a b d;exact m.put k a O O O (ba _) (λ_ _ _=>rfl) h (.inl λ_ h=>h)
def X{a b:Nat}(h:Nat.ble a b=Z):a<=b:=Nat.le_of_ble_eq_true h
def jB{us:List ak}(h:(us.all (·.oneCell'))=Z):∀u∈us,u.oneCell'=Z:=λu a=>ej.1 h u a
end
section
variable{P:cg}{ds:List eh}{l:List ak}{x y:cw}{T ty:bh}
variable{ops:Array Oper}{Q:Exit->Act->an->Prop}{rest:List Oper}{d:Nat}{pos:String}{after:Array Edge}{w w0:an}{is:List It}
def avb{cs:List ak}(m:Mem w0 w is)(c:(ev l x).cells=cs.toArray)(h:∀g u,Mem w0 u (bI g cs T::is)->bf P ops Q rest (Fr (l.set d (.pointer (H ⟨g,0,G0⟩))) ds) u) :
 bf P ops Q (ci (H d) (.box T x) ty pos after G0::rest) (Fr l ds) w:=Si c λu g e b a=>h g u (m.newB e b a)
def kR{cs:List ak}{z:ak}(m:Mem w0 w is)(b:qD P T z)(f:z.cells=cs.toArray)(h:∀g u,Mem w0 u (bI g cs T::is)->bf P ops Q rest (Fr (l.set d (.pointer (H ⟨g,0,G0⟩))) ds) u) :
 bf P ops Q (ci (H d) (.alloc T) ty pos after G0::rest) (Fr l ds) w:=xO b f λu g e c a=>h g u (m.newB e c a)
def akK{g off:Nat}{cs us:List ak}{t:bh}(m:Mem w0 w is)(k:Nat)(c:is[k]? = H (bI g cs t))(i:ev l x=.pointer (H ⟨g,off,G0⟩))(f:(ev l y).cells=us.toArray)(hc:dW P T us.length)(n:off+us.length<=cs.length)(h1:(us.all (·.oneCell'))=Z)
 (h:∀u,Mem w0 u (is.set k (bI g (bR cs off us) t))->bf P ops Q rest (Fr l ds) u):bf P ops Q (ci G0 (.store T x y) ty pos after G0::rest) (Fr l ds) w:=
 tY i f hc (m.b k c) n (jB h1) λu a d=>h u (m.put k c a.os a.tape a.output (by rw[a.size];exact ba _) (λb _ j=>a.block b λe=>j (by rw[e];rfl)) d (.inl λ_ h=>h))
def aa5{g off:Nat}{us xs:List ak}{E:bh}{c n cap:Nat}(m:Mem w0 w is)(k:Nat)(f:is[k]? = H (oI E c (H ⟨g,0,G0⟩) n cap xs))(q:ev l x=.pointer (H ⟨g,off,G0⟩))(p:(ev l y).cells=us.toArray)(hc:dW P T us.length)(t:off+us.length<=n*c)(h1:(us.all (·.oneCell'))=Z)
 (h:∀u,Mem w0 u (is.set k (oI E c (H ⟨g,0,G0⟩) n cap (bR xs off us)))->bf P ops Q rest (Fr l ds) u):bf P ops Q (ci G0 (.store T x y) ty pos after G0::rest) (Fr l ds) w:=
 akJ q p hc (m.o k f) t (jB h1) λu a d=>h u (m.put k f a.os a.tape a.output a.size (λb j s=>a.block b j s) (by
  refine⟨d.own.1,?_⟩;rcases d.cases with ⟨e,_⟩|⟨g,r,e,_,h2,i⟩
  .cases e
  cases e;exact .inr ⟨_,cap,r,O,bu _,h2,i⟩) (.inl λ_ h=>h))
def nX{v:ak}{f:FuncId}{a:cw}{xs:Array cw}{args:List ak}{first cap:Array ak}{a0:Array bh}(m:Mem w0 w is)(b:ev l a=.func (.func f) first cap)(c:first.toList++xs.toList.map (ev l)++cap.toList=args)(hc:eS P f args v)
 (h:∀u,Mem w0 u is->bf P ops Q rest (Fr (l.set d v) ds) u):bf P ops Q (ci (H d) (.call { callee:=.value a,args:=xs,argTypes:=a0 }) ty pos after G0::rest) (Fr l ds) w:=
 Qz b c hc λu e=>h u (m.ext' e)
def cC{f:FuncId}{a:cw}{xs:Array cw}{args:List ak}{first cap:Array ak}{a0:Array bh}{R:ak->an->Prop}(m:Mem w0 w is)(c:ev l a=.func (.func f) first cap)(g:first.toList++xs.toList.map (ev l)++cap.toList=args)(hc:dF P f args w R)
 (h:∀v u,Mem w0 u is->R v u->bf P ops Q rest (Fr (l.set d v) ds) u):bf P ops Q (ci (H d) (.call { callee:=.value a,args:=xs,argTypes:=a0 }) ty pos after G0::rest) (Fr l ds) w:=
 aX c g hc λv u e b=>h v u (m.ext' e) b
def OR(E:bh)(c:Nat)(R:List ak->Prop)(w:an)(v:ak)(w':an):Prop:=∃A n cap xs,v=.slice A n cap/\Ow w w' [] E c A n cap xs/\R xs
def bW{E:bh}{c n cap b f mcap:Nat}{A B:Option Addr}{z:ak}{xs news:List ak}{a0:Array bh}(m:Mem w0 w is)(k:Nat)(C:is[k]? = H (oI E c A n cap xs))(F:a0 = #[T,T])(K:P.underlying T=H (.slice E))(G:(P.info? E).map (λi=>(i.size,i.bytes,i.zero))=H (c,b,H z))(M:z.cells.size=c)(hc:0<c)
 (J:ev l x=.slice A n cap) (L:ev l y=.slice B f mcap) (I:news.length=f*c) (U:∀j u,news[j]? = H u->∃a,B=H a/\w.cell? (a.add j)=H u) (h1:∀u∈news,u.oneCell'=Z) (R:n+f<=9223372036854775807) (V:(n+f)*b<=140737488355328)
 (h:∀p r u,Mem w0 u (is.set k (oI E c p (n+f) r (xs++news)))->bf P ops Q rest (Fr (l.set d (.slice p (n+f) r)) ds) u) :
 bf P ops Q (ci (H d) (.call { callee:=.builtin .append,args:=#[x,y],argTypes:=a0 }) ty pos after G0::rest) (Fr l ds) w:=
 Zf F K G M hc m.ext J (m.o k C) L I U h1 R V λp r u v q hF=>h p r u (m.put k C q.os q.tape q.output q.size (λb s S=>q.block b s S) (by
  refine⟨v.own.1,?_⟩;rcases v.cases with ⟨rfl,t,rfl,_⟩|⟨g,N,rfl,_,h2,D⟩
  .exact .inl ⟨by rw[t],t⟩
  .exact .inr ⟨g,r,N,O,bu _,h2,D⟩) (by
  rcases hF with rfl|hF
  .exact .inl λ_ h=>h
  exact .inr λb s=>by
   have e:Pq p=H b:=s;rw[hF] at e;cases e;exact ba _))
def Tb{cs:List ak}(m:Mem w0 w is)(a:ev l x=.agg cs.toArray)(h:∀g u,Mem w0 u (bI g cs T::is)->bf P ops Q rest (Fr (l.set d (.pointer (H ⟨g,0,G0⟩))) ds) u) :
 bf P ops Q (ci (H d) (.box T x) ty pos after G0::rest) (Fr l ds) w:=avb m (by rw[a];rfl) h
def avc{v:ak}(m:Mem w0 w is)(a:ev l x=v)(h1:v.cells = #[v])(h:∀g u,Mem w0 u (bI g [v] T::is)->bf P ops Q rest (Fr (l.set d (.pointer (H ⟨g,0,G0⟩))) ds) u) :
 bf P ops Q (ci (H d) (.box T x) ty pos after G0::rest) (Fr l ds) w:=avb m (by rw[a,h1]) h
def cB{g off:Nat}{cs us:List ak}{t:bh}(m:Mem w0 w is)(k:Nat)(a:is[k]? = H (bI g cs t))(c:ev l x=.pointer (H ⟨g,off,G0⟩))(b:ev l y=.agg us.toArray)(hc:dW P T us.length)(d:off+us.length<=cs.length)(h1:(us.all (·.oneCell'))=Z)
 (h:∀u,Mem w0 u (is.set k (bI g (bR cs off us) t))->bf P ops Q rest (Fr l ds) u):bf P ops Q (ci G0 (.store T x y) ty pos after G0::rest) (Fr l ds) w:=akK m k a c (by rw[b];rfl) hc d h1 h
def dP{g off:Nat}{cs:List ak}{v:ak}{t:bh}(m:Mem w0 w is)(k:Nat)(a:is[k]? = H (bI g cs t))(c:ev l x=.pointer (H ⟨g,off,G0⟩))(b:ev l y=v)(hc:dW P T 1)(d:off+1<=cs.length)(h1:v.oneCell'=Z/\v.cells = #[v])
 (h:∀u,Mem w0 u (is.set k (bI g (bR cs off [v]) t))->bf P ops Q rest (Fr l ds) u):bf P ops Q (ci G0 (.store T x y) ty pos after G0::rest) (Fr l ds) w:=akK (us:=[v]) m k a c (by rw[b,h1.2]) hc d (by simp[h1.1]) h
def fK.full{g:Nat}{cs:List ak}{t:bh}(h:fK w g cs t)(a:fM P T Z)(hc:dW P T cs.length):lC P w T ⟨g,0,G0⟩ (.agg cs.toArray):=by
 have:=h.row 0;rw[lv] at this;exact this.lies a hc
def Mem.s01{w0 w:an}{i j:It}{is:List It}(m:Mem w0 w (i::j::is)):Mem w0 w (j::i::is):=by
 have h1:=b_.1 m.nd;have h2:=b_.1 h1.2;refine⟨m.ext,λx hx=>m.all x ?_,λx hx=>m.ge x ?_,b_.2 ⟨λx hx=>?_,b_.2 ⟨λx hx=>h1.1 x (br _ hx),h2.2⟩⟩⟩
 .simp only[av] at hx ⊢;rcases hx with h|h|h<;>simp[h]
 .simp only[av] at hx ⊢;rcases hx with h|h|h<;>simp[h]
 rcases av.1 hx with rfl|hx
 .exact (h1.1 _ (bq ..)).symm
 exact h2.1 x hx
/-! ### Regions -/
def dQ{id:Nat}{a:Act}{l:List Oper}(m:Mem w0 w is)(n:Nat)(d:P.follows .mixedOrders=Z)(c:Region.lexTailB .any l.toArray n=Z)
 (h:M P l.toArray (λu=>Mem w0 u is) (λb=>∀u,Mem w0 u is->bf P l.toArray Q (l.drop n) b u) (l.take n) a):(Code.region id l.toArray Z).wp P Q a w:=
 uG (C:=λu=>Mem w0 u is) n d c (m.ext' (eQ.refl w).drawn) h
def mq{id:Nat}{a:Act}{l:List Oper}(m:Mem w0 w is)(d:P.follows .mixedOrders=Z)(c:Region.lexB .any l.toArray=Z)
 (h:M P l.toArray (λu=>Mem w0 u is) (λb=>∀u,Mem w0 u is->Q .normal b u) l a):(Code.region id l.toArray Z).wp P Q a w:=
 wp_region_quiet (C:=λu=>Mem w0 u is) d c (m.ext' (eQ.refl w).drawn) (by simpa using h)
def mh{id:Nat}{a:Act}{l:List Oper}(m:Mem w0 w is)(bs:List Bool)(o:List (Nat×Bool))(g:P.follows .mixedOrders=Z)(b:(Region.noSelect l.toArray&&decide (o.length=l.length)&&aaN .any l.toArray o (ie l.toArray.size X9))=Z)
 (f:∀c d v a w,Q (.panic c) (Act.put a d v) w->Q (.panic c) a w) {ol:List (Oper×Bool)} (i:(o.map λx=>((l.toArray[x.1]?).getD default,x.2))=ol)
 (h:∀u,Mem w0 u is->cJ P l.toArray (λu=>Mem w0 u (rT bs is)) Q ol a u):(Code.region id l.toArray Z).wp P Q a w:=
 Cy o g b f i λu e=>⟨λu=>Mem w0 u (rT bs is),(m.ext' e).sel bs,h u (m.ext' e)⟩
def mhe{id:Nat}{a:Act}{l:List Oper}(m:Mem w0 w is)(bs:List Bool)(o:List (Nat×Bool))(g:P.follows .mixedOrders=Z)(b:(Region.noSelect l.toArray&&decide (o.length=l.length)&&aaN .any l.toArray o (ie l.toArray.size X9))=Z)
 (f:∀c d v a w,Q (.panic c) (Act.put a d v) w->Q (.panic c) a w) {ol:List (Oper×Bool)} (i:(o.map λx=>((l.toArray[x.1]?).getD default,x.2))=ol)
 (h:∀u,eQ w u->Mem w0 u is->cJ P l.toArray (λu=>Mem w0 u (rT bs is)) Q ol a u):(Code.region id l.toArray Z).wp P Q a w:=
 Cy o g b f i λu e=>⟨λu=>Mem w0 u (rT bs is),(m.ext' e).sel bs,h u e (m.ext' e)⟩
def Zg{id:Nat}{a:Act}{l:List Oper}(m:Mem w0 w is)(bs:List Bool)(t:sP)(g:P.follows .mixedOrders=Z)(b:(Region.noSelect l.toArray&&t.ok .any l.toArray l.toArray.size (ie l.toArray.size X9))=Z)
 (f:∀c d v a w,Q (.panic c) (Act.put a d v) w->Q (.panic c) a w)
 (h:∀u,Mem w0 u is->cU P l.toArray (λu=>Mem w0 u (rT bs is)) Q t a u):(Code.region id l.toArray Z).wp P Q a w:=
 Ec t g b f λu e=>⟨λu=>Mem w0 u (rT bs is),(m.ext' e).sel bs,h u (m.ext' e)⟩
def mf1{tl:List Oper}{i d:Nat}{T:bh}{cs:List ak}(m:Mem w0 w is)(h:∀g u,Mem w0 u (bI g cs T::is)->bf P ops Q tl (Fr (l.set d (.pointer (H ⟨g,0,G0⟩))) ds) u) :
 ∀E w',eQ w w'->Nb w.heap.size E [⟨i,d,T,cs⟩] w'->(∀x∈[(⟨i,d,T,cs⟩:Al)],∃v,E x.i=H v)->bf P ops Q tl (fX E [⟨i,d,T,cs⟩] (Fr l ds)) w':=
 arY λu g e b a=>h g u (m.newB e b a)
def Mem.newB2{w w':an}{is:List It}{g a:Nat}{cs c:List ak}{t t2:bh}(m:Mem w0 w is)(e:eQ w w')(h:w.heap.size<=g)(k:w.heap.size<=a)(d:fK w' g cs t)(i:fK w' a c t2)(l:a≠g):Mem w0 w' (bI a c t2::bI g cs t::is):=by
 have m1:=m.newB e h d;refine⟨m1.ext,λj hj=>?_,λj hj=>?_,b_.2 ⟨λj hj b h1 h2=>?_,m1.nd⟩⟩
 . rcases av.1 hj with rfl|hj
   .exact i
   exact m1.all j hj
 . rcases av.1 hj with rfl|hj
   .exact λb f=>by cases f;exact ax m.ext.size k
   exact m1.ge j hj
 cases h1
 rcases av.1 hj with rfl|hj
 .cases h2;exact l O
 have:=j.lt w _ (m.all j hj) h2
 omega
def mf2{tl:List Oper}{i d j e:Nat}{T U:bh}{cs us:List ak}(m:Mem w0 w is)(n:i≠j)(h:∀g k u,Mem w0 u (bI k us U::bI g cs T::is)->bf P ops Q tl (Fr ((l.set d (.pointer (H ⟨g,0,G0⟩))).set e (.pointer (H ⟨k,0,G0⟩))) ds) u) :
 ∀E w',eQ w w'->Nb w.heap.size E [⟨i,d,T,cs⟩,⟨j,e,U,us⟩] w'->(∀x∈[(⟨i,d,T,cs⟩:Al),⟨j,e,U,us⟩],∃v,E x.i=H v)->bf P ops Q tl (fX E [⟨i,d,T,cs⟩,⟨j,e,U,us⟩] (Fr l ds)) w':=
 arZ n λu g k e c f a b o=>h g k u (m.newB2 e c f a b o)
def avd{c:Code}{a:Act}{l:Nat->Nat->List ak}{c1 c2:List ak}{T1 T2:bh}(m:Mem w0 w is)(h1:c.wp P (λe b u=>e=.normal/\∃g k,b=Fr (l g k) ds/\Mem w0 u (bI k c2 T2::bI g c1 T1::is)) a w)
 (h2:∀g k u,Mem w0 u (bI k c2 T2::bI g c1 T1::is)->Q .normal (Fr (l g k) ds) u):c.wp P Q a w:=by
 refine Code.wp_mono ?_ h1;rintro e b u ⟨rfl,g,k,rfl,d⟩;exact h2 g k u d
end
section
variable{P:cg}{w0:an}{is:List It}{l:List ak}{x y:cw}{T ty:bh}
variable{ops:Array Oper}{Q:Act->Prop}{rest:List Oper}{d:Nat}{pos:String}{after:Array Edge}{v:ak}{ds:List eh}
def ql{a:Addr}(c:ev l x=.pointer (H a))(b:∀u,Mem w0 u is->lC P u T a v)(h:M P ops (λu=>Mem w0 u is) Q rest (Fr (l.set d v) ds)):M P ops (λu=>Mem w0 u is) Q (ci (H d) (.load T x) ty pos after G0::rest) (Fr l ds):=
 kI (λu m=>bE c (b u m)) h
def qc{f:FuncId}{b:cw}{xs:Array cw}{args:List ak}{first cap:Array ak}{a0:Array bh}(i:ev l b=.func (.func f) first cap)(j:first.toList++xs.toList.map (ev l)++cap.toList=args)(hc:∀u,Mem w0 u is->dF P f args u λx _=>x=v)
 (h:M P ops (λu=>Mem w0 u is) Q rest (Fr (l.set d v) ds)):M P ops (λu=>Mem w0 u is) Q (ci (H d) (.call { callee:=.value b,args:=xs,argTypes:=a0 }) ty pos after G0::rest) (Fr l ds):=by
 refine wpQuiet_step λK g=>?_;rw[Z9 (by simp[Region.wanted])];refine⟨v,λw' a=>?_,?_⟩
 . unfold om
   rw[iP,rJ (hc w' a).1 i j _ rfl];refine⟨O,(hc w' a).2.mono ?_⟩;rintro e k ⟨u,rfl,c,rfl⟩;exact⟨O,a.ext' c⟩
 show K ((Fr l ds).put (H d) v)
 rw[gV];exact g _ h
def jF{f:FuncId}{a:cw}{xs:Array cw}{args:List ak}{first cap:Array ak}{a0:Array bh}(b:ev l a=.func (.func f) first cap)(c:first.toList++xs.toList.map (ev l)++cap.toList=args)(hc:eS P f args v)
 (h:M P ops (λu=>Mem w0 u is) Q rest (Fr (l.set d v) ds)):M P ops (λu=>Mem w0 u is) Q (ci (H d) (.call { callee:=.value a,args:=xs,argTypes:=a0 }) ty pos after G0::rest) (Fr l ds):=qc b c (λu _=>hc u) h
end
structure GX(w w':an):Prop where
 ext:eQ w w'
 dr:w.drawn<=w'.drawn
def GX.grow{w':an}(h:GX w w'):∃q os,w'=Sort.grow (w.drewN q) os:=by
 refine⟨w'.drawn-w.drawn,w'.heap.extract w.heap.size w'.heap.size,?_⟩;have b:w.heap++w'.heap.extract w.heap.size w'.heap.size=w'.heap:=by
  apply Array.ext_getElem?;intro i;rw[Array.getElem?_append];split
  . rename_i a
    exact (Below.block h.ext i a).symm
  rename_i a
  rw[Array.getElem?_extract];have:=h.ext.size;split
  .congr 1;omega
  rw[ot (by omega)]
 have c:w.drawn+(w'.drawn-w.drawn)=w'.drawn:=by have:=h.dr;omega
 have h1:=h.ext.os;have h2:=h.ext.tape;have d:=h.ext.output;cases w;cases w';simp only[Sort.grow,World.drewN] at *
 subst h1 h2 d;rw[b,c]
structure iL(w0 w:an)(is:List It):Prop where
 ext:GX w0 w
 mem:Mem w0 w is
def vS(P:cg)(f:FuncId)(args:List ak)(v:ak):Prop:=∀w,Entr P f/\Calls P f args.toArray w λe w'=>∃u,e=.returned u/\GX w w'/\u=v
def vS.pure{P:cg}{f:FuncId}{args:List ak}{v:ak}(h:vS P f args v):eS P f args v:=λw=>⟨(h w).1,(h w).2.mono λ_ _ ⟨u,b,a,c⟩=>⟨u,b,a.ext,c⟩⟩
section
variable{w0 w w':an}{is:List It}
def iL.refl(w:an):iL w w []:=⟨⟨eQ.refl w,ba _⟩,Mem.refl w⟩
def iL.go(m:iL w0 w is){a:List It}(h:Mem w0 w' a)(d:w.drawn<=w'.drawn):iL w0 w' a:=⟨⟨h.ext,ax m.ext.dr d⟩,h⟩
def iL.ext' (m:iL w0 w is)(e:GX w w'):iL w0 w' is:=m.go (m.mem.ext' e.ext) e.dr
def iL.b(m:iL w0 w is)(k:Nat){g:Nat}{cs:List ak}(a:is[k]? = H (bI g cs t)):fK w g cs t:=m.mem.b k a
end
section
variable{P:cg}{ds:List eh}{l:List ak}{x y:cw}{T ty:bh}
variable{ops:Array Oper}{Q:Exit->Act->an->Prop}{rest:List Oper}{d:Nat}{pos:String}{after:Array Edge}{w w0:an}{is:List It}{v:ak}
def ave{cs:List ak}(m:iL w0 w is)(b:(ev l x).cells=cs.toArray)(h:∀g u,iL w0 u (bI g cs T::is)->bf P ops Q rest (Fr (l.set d (.pointer (H ⟨g,0,G0⟩))) ds) u) :
 bf P ops Q (ci (H d) (.box T x) ty pos after G0::rest) (Fr l ds) w:=
 lK (w':=w.alloc (.cells cs.toArray T)) (v:=.pointer (H ⟨w.heap.size,0,G0⟩)) (λo a _=>by simp[N,a,cK,Instr.box,newVar,newRow,b,newObj,Sem.run]) (h _ _ (m.go (m.mem.newB ((eQ.refl w).alloc _) (ba _) (jH w cs T)) (ba _)))
def qJ{cs:List ak}(m:iL w0 w is)(a:ev l x=.agg cs.toArray)(h:∀g u,iL w0 u (bI g cs T::is)->bf P ops Q rest (Fr (l.set d (.pointer (H ⟨g,0,G0⟩))) ds) u) :
 bf P ops Q (ci (H d) (.box T x) ty pos after G0::rest) (Fr l ds) w:=ave m (by rw[a];rfl) h
def aoU{cs:List ak}{z:ak}(m:iL w0 w is)(a:qD P T z)(e:z.cells=cs.toArray)(h:∀g u,iL w0 u (bI g cs T::is)->bf P ops Q rest (Fr (l.set d (.pointer (H ⟨g,0,G0⟩))) ds) u) :
 bf P ops Q (ci (H d) (.alloc T) ty pos after G0::rest) (Fr l ds) w:=by
 obtain⟨i,b,f⟩:=a;exact lK (w':=w.alloc (.cells cs.toArray T)) (v:=.pointer (H ⟨w.heap.size,0,G0⟩)) (λo c _=>by simp[N,c,Instr.alloc,zeroValue,typeInfo,b,f,newVar,newRow,e,newObj,Sem.run]) (h _ _ (m.go (m.mem.newB ((eQ.refl w).alloc _) (ba _) (jH w cs T)) (ba _)))
def aoV{g off:Nat}{cs us:List ak}{t:bh}(m:iL w0 w is)(k:Nat)(d:is[k]? = H (bI g cs t))(j:ev l x=.pointer (H ⟨g,off,G0⟩))(i:(ev l y).cells=us.toArray)(hc:dW P T us.length)(p:off+us.length<=cs.length)(h1:(us.all (·.oneCell'))=Z)
 (h:∀u,iL w0 u (is.set k (bI g (bR cs off us) t))->bf P ops Q rest (Fr l ds) u):bf P ops Q (ci G0 (.store T x y) ty pos after G0::rest) (Fr l ds) w:=by
 have c:=m.b k d;have a:=Bc w g (bR cs off us).toArray;exact Kg (w':=w.setRow g (bR cs off us).toArray) (λo f=>by simp[N,f,cK,j,Instr.storeAt,Instr.sureAddr,Kh hc i c p (jB h1)])
  (h _ (m.go (m.mem.put k d a.os a.tape a.output (by rw[a.size];exact ba _) (λb _ n=>a.block b λe=>n (by rw[e];rfl)) (setRow_heap w g cs.toArray _ t _ c) (.inl λ_ h=>h)) (ba _)))
def akL{g off:Nat}{cs us:List ak}{t:bh}(m:iL w0 w is)(k:Nat)(a:is[k]? = H (bI g cs t))(c:ev l x=.pointer (H ⟨g,off,G0⟩))(b:ev l y=.agg us.toArray)(hc:dW P T us.length)(d:off+us.length<=cs.length)(h1:(us.all (·.oneCell'))=Z)
 (h:∀u,iL w0 u (is.set k (bI g (bR cs off us) t))->bf P ops Q rest (Fr l ds) u):bf P ops Q (ci G0 (.store T x y) ty pos after G0::rest) (Fr l ds) w:=aoV m k a c (by rw[b];rfl) hc d h1 h
def Rj{f:FuncId}{a:cw}{xs:Array cw}{args:List ak}{first cap:Array ak}{a0:Array bh}(m:iL w0 w is)(g:ev l a=.func (.func f) first cap)(i:first.toList++xs.toList.map (ev l)++cap.toList=args)(hc:vS P f args v)
 (h:∀u,iL w0 u is->bf P ops Q rest (Fr (l.set d v) ds) u):bf P ops Q (ci (H d) (.call { callee:=.value a,args:=xs,argTypes:=a0 }) ty pos after G0::rest) (Fr l ds) w:=by
 refine wpList_plain O λK c=>?_;unfold oh;rw[iP,rJ (hc w).1 g i _ rfl];refine (hc w).2.mono ?_;rintro e w' ⟨u,rfl,b,rfl⟩;show K ((Fr l ds).put (H d) u) w'
 rw[gV];exact c _ _ (h w' (m.ext' b))
def iL.drew(m:iL w0 w is):iL w0 { w with drawn:=w.drawn+1 } is:=m.ext' ⟨(eQ.refl w).drawn,Nat.le_succ _⟩
def Tc{id:Nat}{a:Act}{l:List Oper}(m:iL w0 w is)(n:Nat)(d:P.follows .mixedOrders=Z)(c:Region.lexTailB .any l.toArray n=Z)
 (h:M P l.toArray (λu=>iL w0 u is) (λb=>∀u,iL w0 u is->bf P l.toArray Q (l.drop n) b u) (l.take n) a):(Code.region id l.toArray Z).wp P Q a w:=
 uG (C:=λu=>iL w0 u is) n d c m.drew h
def Gmq{id:Nat}{a:Act}{l:List Oper}(m:iL w0 w is)(d:P.follows .mixedOrders=Z)(c:Region.lexB .any l.toArray=Z)
 (h:M P l.toArray (λu=>iL w0 u is) (λb=>∀u,iL w0 u is->Q .normal b u) l a):(Code.region id l.toArray Z).wp P Q a w:=
 wp_region_quiet (C:=λu=>iL w0 u is) d c m.drew (by simpa using h)
end
section
variable{P:cg}{w0:an}{is:List It}{l:List ak}{x y:cw}{T ty:bh}
variable{ops:Array Oper}{Q:Act->Prop}{rest:List Oper}{d:Nat}{pos:String}{after:Array Edge}{v:ak}{ds:List eh}
def Xg{a:Addr}(c:ev l x=.pointer (H a))(b:∀u,iL w0 u is->lC P u T a v)(h:M P ops (λu=>iL w0 u is) Q rest (Fr (l.set d v) ds)):M P ops (λu=>iL w0 u is) Q (ci (H d) (.load T x) ty pos after G0::rest) (Fr l ds):=
 kI (λu m=>bE c (b u m)) h
def Ks{f:FuncId}{a:cw}{xs:Array cw}{args:List ak}{first cap:Array ak}{a0:Array bh}(g:ev l a=.func (.func f) first cap)(j:first.toList++xs.toList.map (ev l)++cap.toList=args)(hc:vS P f args v)
 (h:M P ops (λu=>iL w0 u is) Q rest (Fr (l.set d v) ds)):M P ops (λu=>iL w0 u is) Q (ci (H d) (.call { callee:=.value a,args:=xs,argTypes:=a0 }) ty pos after G0::rest) (Fr l ds):=by
 refine wpQuiet_step λK c=>?_;rw[Z9 (by simp[Region.wanted])];refine⟨v,λw' i=>?_,?_⟩
 . unfold om
   rw[iP,rJ (hc w').1 g j _ rfl];refine⟨O,(hc w').2.mono ?_⟩;rintro e k ⟨u,rfl,b,rfl⟩;exact⟨O,i.ext' b⟩
 show K ((Fr l ds).put (H d) v)
 rw[gV];exact c _ h
end
def P3.Lt(p q:P3):Prop:=p.x<q.x\/p.x=q.x/\(p.y<q.y\/p.y=q.y/\p.z<q.z)
variable{q:P3}
instance (p q:P3):Decidable (p.Lt q):=by unfold P3.Lt;infer_instance
def sQ(p q:P3):Int:=if p.Lt q then -1 else if q.Lt p then 1 else 0
theorem P3.eq{p:P3}(h1:p.x=q.x)(h2:p.y=q.y)(a:p.z=q.z):p=q:=by
 cases p;cases q;simp_all
instance:DecidableEq P3:=λp q=>if h:p.x=q.x/\p.y=q.y/\p.z=q.z then isTrue (P3.eq h.1 h.2.1 h.2.2) else isFalse λe=>h (by subst e;exact⟨rfl,rfl,rfl⟩)
def P3.lt_irrefl(p:P3):¬p.Lt p:=by unfold P3.Lt;omega
def P3.lt_trans{p r:P3}(h:p.Lt q)(k:q.Lt r):p.Lt r:=by unfold P3.Lt at *;omega
def P3.lt_tri(p q:P3):p.Lt q\/p=q\/q.Lt p:=by
 by_cases h1:p.x=q.x
 . by_cases h2:p.y=q.y
   . by_cases a:p.z=q.z
     .exact .inr (.inl (P3.eq h1 h2 a))
     unfold P3.Lt;omega
   unfold P3.Lt;omega
 unfold P3.Lt;omega
def P3.lt_x{p:P3}(h:¬p.x=q.x):p.Lt q↔p.x<q.x:=by unfold P3.Lt;omega
def P3.lt_y{p:P3}(h:p.x=q.x)(h2:¬p.y=q.y):p.Lt q↔p.y<q.y:=by unfold P3.Lt;omega
def P3.lt_z{p:P3}(h:p.x=q.x)(h2:p.y=q.y):p.Lt q↔p.z<q.z:=by unfold P3.Lt;omega
@[irreducible] def Xh(c:Bool)(v:ak):ak:=if c then v else undef
def jK{v:ak}:Xh Z v=v:=by simp[Xh]
def Hu{v:ak}:Xh X9 v=undef:=by simp[Xh]
def B{c:Bool}{u v:ak}(a:c=Z)(h:u=Xh c v):u=v:=by rw[h,a,jK]
section
variable{P:cg}{ds:List eh}{l:List ak}{x y:cw}{T ty:bh}{b c:Bool}{v:ak}
def dR{z:cw}(e:ev l z=.bool b)(a:ev l x=Xh b (.bool c))(d:ev l y=.bool X9):iD P l (.pick z x y) ty (.bool (b&&c)):=by
 have:=aaO (P:=P) (ty:=ty) (x:=x) (y:=y) e;cases b with
 |false=>simpa[d] using this
 |true=>simpa[a,jK] using this
def gY{z:cw}(e:ev l z=.bool b)(a:ev l x=.bool Z)(d:ev l y=Xh (!b) (.bool c)):iD P l (.pick z x y) ty (.bool (b||c)):=by
 have:=aaO (P:=P) (ty:=ty) (x:=x) (y:=y) e;cases b with
 |false=>simpa[d,jK] using this
 |true=>simpa[a] using this
end
section
variable{P:cg}{ops:Array Oper}{Q:Exit->Act->an->Prop}{rest:List Oper}{d j:Nat}{op:Op}{ty:bh}{pos:String}{after:Array Edge}{v:ak}{b:Bool}{ds:List eh}{l:List ak}{w w0:an}{is:List It}
def eN(a:yielded ops l.toArray j=H b)(c:b=Z->Dh P l op ty v w)(h:bf P ops Q rest (Fr (l.set d (Xh b v)) ds) w):bf P ops Q (ci (H d) op ty pos after (H (j,Z))::rest) (Fr l ds) w:=by
 cases b with
 |false=>rw[Hu] at h;exact nN a h
 |true=>rw[jK] at h;exact gE a (eB (c O) h)
def lX(a:yielded ops l.toArray j=H b)(c:(!b)=Z->Dh P l op ty v w)(h:bf P ops Q rest (Fr (l.set d (Xh (!b) v)) ds) w):bf P ops Q (ci (H d) op ty pos after (H (j,X9))::rest) (Fr l ds) w:=by
 cases b with
 |true=>rw[jq,Hu] at h;exact agw a h
 |false=>rw[km,jK] at h;exact gE a (eB (c O) h)
def fS(c:yielded ops l.toArray j=H b)(a:b=Z->iD P l op ty v)(h:bf P ops Q rest (Fr (l.set d (Xh b v)) ds) w):bf P ops Q (ci (H d) op ty pos after (H (j,Z))::rest) (Fr l ds) w:=eN c (λe=>a e w) h
def gM(c:yielded ops l.toArray j=H b)(a:(!b)=Z->iD P l op ty v)(h:bf P ops Q rest (Fr (l.set d (Xh (!b) v)) ds) w):bf P ops Q (ci (H d) op ty pos after (H (j,X9))::rest) (Fr l ds) w:=lX c (λe=>a e w) h
def agG{f:FuncId}{a:cw}{xs:Array cw}{args:List ak}{first cap:Array ak}{a0:Array bh}(m:Mem w0 w is)(c:yielded ops l.toArray j=H b)(e:ev l a=.func (.func f) first cap)(g:b=Z->first.toList++xs.toList.map (ev l)++cap.toList=args)(hc:b=Z->eS P f args v)
 (h:∀u,Mem w0 u is->bf P ops Q rest (Fr (l.set d (Xh b v)) ds) u):bf P ops Q (ci (H d) (.call { callee:=.value a,args:=xs,argTypes:=a0 }) ty pos after (H (j,Z))::rest) (Fr l ds) w:=by
 cases b with
 |false=>simp only[Hu] at h;exact nN c (h w m)
 |true=>simp only[jK] at h;exact gE c (nX m e (g O) (hc O) h)
def aa6{f:FuncId}{a:cw}{xs:Array cw}{args:List ak}{first cap:Array ak}{a0:Array bh}(m:Mem w0 w is)(c:yielded ops l.toArray j=H b)(e:ev l a=.func (.func f) first cap)(g:(!b)=Z->first.toList++xs.toList.map (ev l)++cap.toList=args)(hc:(!b)=Z->eS P f args v)
 (h:∀u,Mem w0 u is->bf P ops Q rest (Fr (l.set d (Xh (!b) v)) ds) u):bf P ops Q (ci (H d) (.call { callee:=.value a,args:=xs,argTypes:=a0 }) ty pos after (H (j,X9))::rest) (Fr l ds) w:=by
 cases b with
 |true=>simp only[jq,Hu] at h;exact agw c (h w m)
 |false=>simp only[km,jK] at h;exact gE c (nX m e (g O) (hc O) h)
end
section
variable{P:cg}{ops:Array Oper}{Q:Act->Prop}{C:an->Prop}{rest:List Oper}{d j:Nat}{op:Op}{ty:bh}{pos:String}{after:Array Edge}{v:ak}{b:Bool}{ds:List eh}{l:List ak}{w0:an}{is:List It}
def eG(a:yielded ops l.toArray j=H b)(c:b=Z->∀u,C u->Dh P l op ty v u)(h:M P ops C Q rest (Fr (l.set d (Xh b v)) ds)):M P ops C Q (ci (H d) op ty pos after (H (j,Z))::rest) (Fr l ds):=by
 cases b with
 |false=>rw[Hu] at h;exact agx a h
 |true=>rw[jK] at h;exact rI a (kI (c O) h)
def jU(a:yielded ops l.toArray j=H b)(c:(!b)=Z->∀u,C u->Dh P l op ty v u)(h:M P ops C Q rest (Fr (l.set d (Xh (!b) v)) ds)):M P ops C Q (ci (H d) op ty pos after (H (j,X9))::rest) (Fr l ds):=by
 cases b with
 |true=>rw[jq,Hu] at h;exact Kf a h
 |false=>rw[km,jK] at h;exact rI a (kI (c O) h)
def bZ(c:yielded ops l.toArray j=H b)(a:b=Z->iD P l op ty v)(h:M P ops C Q rest (Fr (l.set d (Xh b v)) ds)):M P ops C Q (ci (H d) op ty pos after (H (j,Z))::rest) (Fr l ds):=eG c (λe u _=>a e u) h
def fU(c:yielded ops l.toArray j=H b)(a:(!b)=Z->iD P l op ty v)(h:M P ops C Q rest (Fr (l.set d (Xh (!b) v)) ds)):M P ops C Q (ci (H d) op ty pos after (H (j,X9))::rest) (Fr l ds):=jU c (λe u _=>a e u) h
def aa7{f:FuncId}{a:cw}{xs:Array cw}{args:List ak}{first cap:Array ak}{a0:Array bh}(c:yielded ops l.toArray j=H b)(e:ev l a=.func (.func f) first cap)(g:b=Z->first.toList++xs.toList.map (ev l)++cap.toList=args)(hc:b=Z->eS P f args v)
 (h:M P ops (λu=>Mem w0 u is) Q rest (Fr (l.set d (Xh b v)) ds)):M P ops (λu=>Mem w0 u is) Q (ci (H d) (.call { callee:=.value a,args:=xs,argTypes:=a0 }) ty pos after (H (j,Z))::rest) (Fr l ds):=by
 cases b with
 |false=>rw[Hu] at h;exact agx c h
 |true=>rw[jK] at h;exact rI c (jF e (g O) (hc O) h)
def agH{f:FuncId}{a:cw}{xs:Array cw}{args:List ak}{first cap:Array ak}{a0:Array bh}(c:yielded ops l.toArray j=H b)(e:ev l a=.func (.func f) first cap)(g:(!b)=Z->first.toList++xs.toList.map (ev l)++cap.toList=args)(hc:(!b)=Z->eS P f args v)
 (h:M P ops (λu=>Mem w0 u is) Q rest (Fr (l.set d (Xh (!b) v)) ds)):M P ops (λu=>Mem w0 u is) Q (ci (H d) (.call { callee:=.value a,args:=xs,argTypes:=a0 }) ty pos after (H (j,X9))::rest) (Fr l ds):=by
 cases b with
 |true=>rw[jq,Hu] at h;exact Kf c h
 |false=>rw[km,jK] at h;exact rI c (jF e (g O) (hc O) h)
end
section
variable{P:cg}{ops:Array Oper}{S:an->Prop}{Q:Exit->Act->an->Prop}{rest:List (Oper×Bool)}{d j:Nat}{op:Op}{ty:bh}{pos:String}{after:Array Edge}{v:ak}{b:Bool}{ds:List eh}{l:List ak}{w:an}
end
end
section
open Go.RowKit Go.ChangeShapes
variable{v8:Type}{enc:bh×ak->v8}{P:cg}{w:an}{base:Nat}{spare:Nat->Bool}{held:Bool}
def nY(P:cg):Nat->bh->Bool
 |0,_=>X9
 |n+1,t=>match P.underlying t with
  |some (.int .i64)=>decide (P.cellsOf t=1)
  |some (.struct fs)=>(fs.toList.all λf=>nY P n f.type)&&(ii (P.cellsOf t)).all λi=>fs.toList.any λf=>decide (f.offset<=i)&&decide (i<f.offset+P.cellsOf f.type)
  |some (.array m e)=>nY P n e&&decide (P.cellsOf t=m*P.cellsOf e)
  |_=>X9
def akM{n:Int}(h:(Lit.int .i64 n).wf=Z):nQ n:=by
 have:=bounds_i64 h;exact⟨by omega,by omega⟩
def oP:∀(n:Nat)(t:bh)(m:Nat)(cs:List ak)(x:DataW v8×List MemPlace),nY P n t=Z->DataW.trod enc P w base spare held m t cs=H x ->
 cs.length=P.cellsOf t/\∀v∈cs,∃z,v=G z/\nQ z
 |0,t,m,cs,x,h,_=>by cases h
 |n+1,t,m,cs,x,h,o=>by
  unfold nY at h;split at h
  . rename_i c
    obtain⟨z,rfl,_,y⟩:=DataW.trod_int c o;refine⟨by rw[Y9 h];rfl,λv d=>⟨z,by simpa using d,akM y⟩⟩
  . rename_i fs c
    simp only[bt,ej,ff,Y2,ij] at h;obtain⟨ys,k,_,_,b,p,g⟩:=DataW.trod_struct c o;refine⟨b,λv d=>?_⟩;obtain⟨i,a,rfl⟩:=mn d;obtain⟨f,A,h1,h2⟩:=h.2 i (by rw[<-b];exact a);obtain⟨j,r,rfl⟩:=mn A;have u:j<fs.size:=by simpa using r
    have:=g j fs[j] (iw u);rw[ap (by rw[p];exact u)] at this;have l:=(oP n _ _ _ _ (h.1 _ (fl r)) this).2;refine l _ ?_;simp only[Array.getElem_toList] at h1 h2;refine bn (i:=i-fs[j].offset) ?_;rw[gh,Z9 (by omega),fa,show fs[j].offset+(i-fs[j].offset)=i by omega];exact ap a
  . rename_i q e c
    simp only[bt,Y2] at h;obtain⟨ys,k,_,_,b,p,g⟩:=DataW.trod_array c o;refine⟨b,λv d=>?_⟩;obtain⟨i,a,rfl⟩:=mn d;rw[b,h.2] at a;have hc:0<P.cellsOf e:=by
     rcases fm (P.cellsOf e) with h0|h0
     .rw[h0] at a;omega
     exact h0
    have s:i / P.cellsOf e<q:=Nat.div_lt_of_lt_mul (by rw[jb];exact a);have:=g _ s;rw[ap (by rw[p];exact s)] at this;have l:=(oP n _ _ _ _ h.1 this).2;refine l _ (bn (i:=i%P.cellsOf e) ?_);rw[gh,Z9 (kj _ hc),fa,jb,ov];exact ap _
  cases h
def Nc:∀(n:Nat)(cs:List ak),cs.length=n->(∀v∈cs,∃z,v=G z/\nQ z)->∃zs:List Int,zs.length=n/\cs=zs.map (.int .i64 ·)/\∀z∈zs,nQ z
 |0,[],_,_=>⟨[],rfl,rfl,λ_ h=>by cases h⟩
 |n+1,v::vs,h,a=>by
  obtain⟨zs,h1,h2,b⟩:=Nc n vs (by simpa using h) (λu hu=>a u (by simp[hu]));obtain⟨z,rfl,c⟩:=a v (by simp);exact⟨z::zs,by simp[h1],by simp[h2],λu hu=>by rcases av.1 hu with rfl|hu;exact c;exact b _ hu⟩
def aim{r:Reach}{b n m:Nat}{t:bh}{v:ak}{d:DataW v8}{p:List MemPlace}(i:fM P t Z)(l:nY P n t=Z)(hc:P.cellsOf t=m)(a:Value.okWide P w r b t v)(h:DataW.Trod enc P w base spare held t v d p) :
 ∃zs:List Int,zs.length=m/\v=.agg (zs.map (.int .i64 ·)).toArray/\∀z∈zs,nQ z:=by
 obtain⟨c,o,j⟩:=i;obtain⟨q,k⟩:=h;unfold Value.okWide at a;rw[o] at a;have:∃cs,v=.agg cs:=by
  cases c<;>first|(obtain⟨cs,rfl,_⟩:=a;exact⟨cs,rfl⟩)|(cases j)
 obtain⟨cs,rfl⟩:=this;obtain⟨h1,h2⟩:=oP n t q _ _ l k;obtain⟨zs,e,f,g⟩:=Nc m cs.toList (by rw[<-hc];exact h1) h2;exact⟨zs,e,by rw[<-f],g⟩
def aeS{a:Addr}{n:Nat}{cs:List ak}(h:w.cells? base a n=H cs):jS w a cs/\base<=a.block:=by
 unfold World.cells? at h;split at h
 . rename_i d
   refine⟨λj u b=>?_,d⟩;have e:=mapM_some_length h;have c:j<cs.length:=(az.1 b).1;rw[e] at c;have:=mapM_some_get h j j (ap c▸by simp);rw[this,b]
 cases h
def Zh{n m:Nat}{t e:bh}{v:Nat}{cs:List ak}{x:DataW v8×List MemPlace}(r:P.underlying t=H (.slice e))(b:nY P n e=Z)(hc:P.cellsOf e=m)(h:DataW.trod enc P w base spare held v t cs=H x) :
 ∃(A:Option Addr)(len cap:Nat),cs=[.slice A len cap]/\len<=cap/\cap<=maxLen/\(A=G0->len=0)/\∀i,i<len->∃(a:Addr)(zs:List Int),A=H a/\base<=a.block/\jS w (a.add (i*m)) (zs.map (Value.int .i64 ·))/\zs.length=m/\∀z∈zs,nQ z:=by
 rcases Deep.open_slice r h with ⟨rfl,_⟩|⟨a,len,cap,k,q,D,y,rfl,j,o,p,l,_,s⟩
 .exact⟨G0,0,0,O,ba _,bu _,λ_=>rfl,λi b=>Y0 b (Nat.not_lt_zero _)⟩
 refine⟨H a,len,cap,rfl,o,p,λh=>(by cases h),λi B=>?_⟩
 obtain⟨u,h1,h2⟩:=s i (by rw[l];split<;>omega);obtain⟨c,d⟩:=oP n e q _ _ b h2;obtain⟨zs,f,rfl,g⟩:=Nc m u (by rw[<-hc];exact c) d;rw[hc] at h1;exact⟨a,zs,O,j,(aeS h1).1,f,g⟩
def Eh{α:Type}{p:Nat->α->Prop}:∀(n:Nat),(∀i,i<n->∃x,p i x)->∃l:List α,l.length=n/\∀i x,l[i]? = H x->p i x
 |0,_=>⟨[],rfl,λi x h=>by simp at h⟩
 |n+1,h=>by
  obtain⟨l,h1,h2⟩:=Eh n (λi hi=>h i (by omega));obtain⟨x,c⟩:=h n (by omega);refine⟨l++[x],by simp[h1],λi y a=>?_⟩;rcases oy i n with hi|hi|hi
  .exact h2 i y (by rwa [fk (by omega)] at a)
  . subst hi
    rw[gj (by omega),h1,Nat.sub_self] at a;cases a;exact c
  rw[gj (by omega),h1] at a
  have:i-n≠0:=by omega
  cases b:i-n with
  |zero=>omega
  |succ j=>rw[b] at a;simp at a
structure vH(w:an)(A:Option Addr)(n:Nat)(zs:List Int):Prop where
 len:zs.length=n
 it:∀z∈zs,nQ z
 row:∀i z,zs[i]? = H z->∃a,A=H a/\w.cell? (a.add i)=H (G z)
def vH.ext{w':an}{A:Option Addr}{n:Nat}{zs:List Int}(h:vH w A n zs)(b:eQ w w'):vH w' A n zs:=
 ⟨h.len,h.it,λi z c=>let ⟨a,e,d⟩:=h.row i z c;⟨a,e,b.cell d⟩⟩
def vH.get{A:Option Addr}{n:Nat}{zs:List Int}(h:vH w A n zs){i:Nat}(c:i<n):∃z,zs[i]? = H z/\Iw z/\∃a,A=H a/\w.cell? (a.add i)=H (G z):=by
 have b:i<zs.length:=by rw[h.len];exact c
 exact⟨zs[i],ap b,⟨h.it _ (fl b)⟩,h.row i _ (ap b)⟩
def aeT{n:Nat}{t e:bh}{o:Nat}{cs:List ak}{x:DataW v8×List MemPlace}(m:P.underlying t=H (.slice e))(b:nY P n e=Z)(hc:P.cellsOf e=1)(h:DataW.trod enc P w base spare held o t cs=H x) :
 ∃(A:Option Addr)(len cap:Nat)(zs:List Int),cs=[.slice A len cap]/\len<=cap/\cap<=maxLen/\(A=G0->len=0)/\vH w A len zs:=by
 obtain⟨A,len,cap,rfl,h1,h2,f,g⟩:=Zh m b hc h;obtain⟨zs,j,d⟩:=Eh (p:=λi (z:Int)=>nQ z/\∃a,A=H a/\w.cell? (a.add i)=H (G z)) len (λi b=>by
  obtain⟨a,zs,rfl,_,l,k,c⟩:=g i b
  match zs,k with
  | [z],_=>exact⟨z,c _ (by simp),a,rfl,by have:=l 0 _ rfl;rwa [eo,kZ,jk] at this⟩)
 refine⟨A,len,cap,zs,O,h1,h2,f,j,λz c=>?_,λi z c=>(d i z c).2⟩;obtain⟨i,b,rfl⟩:=mn c;exact (d i _ (ap b)).1
end
section
open Go.RowKit
variable{n y x c f k:Nat}{m s kind bits:Int}{zs:List Int}{a d q u:P3}{w0 w:an}{E:bh}{α:Type}
def akN{n:Int}(a:0<m) : -m<n.tmod m/\n.tmod m<m:=by
 have h1:=Int.tmod_lt_of_pos n a;have h2:=Int.tmod_lt_of_pos (-n) a;rw[Int.neg_tmod] at h2;omega
def agI{n:Int}(b:0<m):(n.tmod m+m).tmod m=n%m:=by
 have c:=akN (n:=n) b;rw[pd (by omega)];rcases p_ 0 n with h|h
 . rw[pd h]
   simp
 have e:n.tmod m = -((-n)%m):=by
  rw[<-pd (show 0 <= -n by omega),Int.neg_tmod,ra]
 rw[e,Int.add_emod_right];have h2:=Int.emod_add_mul_ediv (-n) m;have a : -((-n)%m)=n+m*(-n / m):=by omega
 rw[a,Int.add_mul_emod_self_left]
def uA{n:Int}(a:0<m):0<=n%m/\n%m<m:=⟨Int.emod_nonneg _ (by omega),Int.emod_lt_of_pos _ a⟩
/-! ### Hills -/
def hgt(zs:List Int)(x y:Nat):Int:=(zs[(y*7+x)%zs.length]?.getD 0)%64
def ar2(zs:List Int)(x y:Nat):0<=hgt zs x y/\hgt zs x y<64:=uA (by decide)
def uO(s:Int)(zs:List Int)(x y:Nat):P3:=⟨(x:Int)*s,(y:Int)*s,100+hgt zs x y⟩
def Da(a b c d:P3):List T3:=[⟨a,b,c⟩,⟨a,c,d⟩]
def acO(s:Int)(zs:List Int)(y x:Nat):List T3:=Da (uO s zs x y) (uO s zs (x+1) y) (uO s zs (x+1) (y+1)) (uO s zs x (y+1))
def fW(s:Int)(zs:List Int)(n y x:Nat):List T3:=((ii y).flatMap λy=>(ii n).flatMap (acO s zs y))++(ii x).flatMap (acO s zs y)
def Nd(s:Int)(zs:List Int)(n:Nat):List T3:=(ii n).flatMap λy=>(ii n).flatMap (acO s zs y)
def Bm    : fW s zs n n 0=Nd s zs n:=by simp[fW,Nd]
def aa8    : fW s zs n y n=fW s zs n (y+1) 0:=by
 simp[fW,mj,bi]
def Xs    : fW s zs n y (x+1)=fW s zs n y x++acO s zs y x:=by
 simp[fW,mj,bi]
def uP{α β:Type}{f:α->List β}{k:Nat}:∀(l:List α),(∀x∈l,(f x).length=k)->(l.flatMap f).length=l.length*k
 | [],_=>by simp
 |x::l,h=>by
  rw[cz,bg,h x (by simp),uP l (λy a=>h y (by simp[a])),be,ik,kz,mo]
def vI    : (fW s zs n y x).length=y*(n*2)+x*2:=by
 unfold fW;rw[bg,uP (k:=n*2) _ (λy _=>by rw[uP (k:=2) _ (λ_ _=>rfl),l_]),uP (k:=2) _ (λ_ _=>rfl),l_,l_]
def Sm(k:Int)(p:P3):Prop:=(0<=p.x/\p.x<=k)/\(0<=p.y/\p.y<=k)/\(0<=p.z/\p.z<=k)
def SmT(k:Int)(t:T3):Prop:=Sm k t.a/\Sm k t.b/\Sm k t.c
def agJ{k:Int}{b c:P3}(e:Sm k a)(g:Sm k b)(hc:Sm k c)(h:Sm k d):∀t∈Da a b c d,SmT k t:=λt f=>by
 simp only[Da,av,bw,Y3] at f;rcases f with rfl|rfl
 .exact⟨e,g,hc⟩
 exact⟨e,hc,h⟩
def Kt(a:x<=6)(b:y<=6):Sm 200 (uO 10 zs x y):=by
 have:=ar2 zs x y;simp only[Sm,uO];omega
def acP(a:x<6)(b:y<6):∀t∈acO 10 zs y x,SmT 200 t:=
 agJ (Kt (by omega) (by omega)) (Kt (by omega) (by omega)) (Kt (by omega) (by omega)) (Kt (by omega) (by omega))
def acQ(d:n<=6)(e:x<=6)(f:y<=6)(g:x=0\/y<6):∀t∈fW 10 zs n y x,SmT 200 t:=λt b=>by
 rcases bv.1 b with h|h
 . obtain⟨v,c,h⟩:=dj.1 h
   obtain⟨u,a,h⟩:=dj.1 h;exact acP (by have:=ij.1 a;omega) (by have:=ij.1 c;omega) t h
 obtain⟨u,a,h⟩:=dj.1 h
 have:=ij.1 a;exact acP (by omega) (by omega) t h
/-! ### Cubes -/
def dH(p:P3)(s:Int)(n:Nat):P3:=⟨p.x+((n%2:Nat):Int)*s,p.y+((n / 2%2:Nat):Int)*s,p.z+((n / 4:Nat):Int)*s⟩
def Ei(p:P3)(s:Int):List T3:=Da (dH p s 0) (dH p s 2) (dH p s 3) (dH p s 1)++Da (dH p s 4) (dH p s 5) (dH p s 7) (dH p s 6)++Da (dH p s 0) (dH p s 1) (dH p s 5) (dH p s 4)
 ++ Da (dH p s 2) (dH p s 6) (dH p s 7) (dH p s 3)++Da (dH p s 0) (dH p s 4) (dH p s 6) (dH p s 2)++Da (dH p s 1) (dH p s 3) (dH p s 7) (dH p s 5)
def wB(p:P3)(s:Int):(Ei p s).length=12:=rfl
def vP(n:Nat):P3:=⟨4+((n%3:Nat):Int)*8,5+((n / 3%3:Nat):Int)*8,6+((n / 9:Nat):Int)*8⟩
def stx(f:Nat):Int:=if f=4 then -1 else if f=5 then 1 else 0
def sty(f:Nat):Int:=if f=2 then -1 else if f=3 then 1 else 0
def stz(f:Nat):Int:=if f=0 then -1 else if f=1 then 1 else 0
def Qu(b:Nat)(n:Nat):Bool:=decide (b / 2^n%2=1)
def Ku(b n f:Nat):Bool:=
 let u:=((n%3:Nat):Int)+stx f
 let v:=((n / 3%3:Nat):Int)+sty f
 let w:=((n / 9:Nat):Int)+stz f
 !(decide (0<=u)&&decide (u<3)&&decide (0<=v)&&decide (v<3)&&decide (0<=w)&&decide (w<3)) || !Qu b ((w*3+v)*3+u).toNat
def Hv(n f:Nat):List T3:=((Ei (vP n) 8).drop (2*f)).take 2
def vJ(b n f:Nat):List T3:=(ii f).flatMap λf=>if Ku b n f then Hv n f else []
def jC(b n f:Nat):List T3:=((ii n).flatMap λn=>if Qu b n then vJ b n 6 else [])++vJ b n f
def ain(b:Nat):List T3:=(ii 27).flatMap λn=>if Qu b n then vJ b n 6 else []
def Td{b:Nat}:jC b 27 0=ain b:=by simp[jC,ain,vJ]
def aeU{b:Nat}(h:Qu b n=Z):jC b n 6=jC b (n+1) 0:=by
 simp[jC,mj (n:=n),bi,h,vJ]
def aio{b:Nat}(h:Qu b n=X9):jC b n 0=jC b (n+1) 0:=by
 simp[jC,mj (n:=n),bi,h,vJ]
def Zi{b:Nat}(h:Ku b n f=Z):jC b n (f+1)=jC b n f++Hv n f:=by
 simp[jC,vJ,mj (n:=f),bi,h]
def aeV{b:Nat}(h:Ku b n f=X9):jC b n (f+1)=jC b n f:=by
 simp[jC,vJ,mj (n:=f),bi,h]
/-! ### What the walks ask for -/
def Zj  : (k:Int).tmod (c:Int)=((k%c:Nat):Int):=rfl
def avf{b:Nat}{n:Int}(a:0<=n)(h:n<=63):(b:Int).fdiv (2^(min n.toNat IntKind.i64.bits))=((b / 2^n.toNat:Nat):Int):=by
 have e:min n.toNat IntKind.i64.bits=n.toNat:=ep (by show n.toNat<=64;omega);rw[e,jc _ (by exact Int.le_of_lt (Int.pow_pos (by decide)))];simp
def avg(h:x<9223372036854775808):IntKind.i64.wrap ((et IntKind.i64.bits (x:Int) &&& et IntKind.i64.bits 1).toNat:Int)=((x%2:Nat):Int):=by
 have e:(et IntKind.i64.bits (x:Int) &&& et IntKind.i64.bits 1).toNat=x%2:=by
  show (et 64 (x:Int) &&& et 64 1).toNat=x%2
  rw[BitVec.toNat_and,lh,lh];have h1:((x:Int)%((2^64:Nat):Int)).toNat=x:=by
   have:((2^64:Nat):Int)=18446744073709551616:=rfl;rw[this];omega
  have h2:((1:Int)%((2^64:Nat):Int)).toNat=1:=rfl;rw[h1,h2,Nat.and_one_is_mod]
 rw[e];exact cF (by omega) (by omega)
def akO{b:Nat}(h:b<134217728):b / 2^n<9223372036854775808:=ig (mf _ _) (by omega)
def akP{N:Nat}{z:Int}(a:zs.length=N)(b:zs[(y*7+x)%N]? = H z):hgt zs x y=z%64:=by
 unfold hgt;rw[a,b];rfl
def aoW{N:Nat}(a:zs.length=N)(h:¬(0:Int)<(N:Int)):hgt zs x y=0:=by
 have:zs=[]:=fj (by omega);subst this;rfl
def akQ    : (fW s zs n y x).flatMap aM++(Da (uO s zs x y) (uO s zs (x+1) y) (uO s zs (x+1) (y+1)) (uO s zs x (y+1))).flatMap aM=(fW s zs n y (x+1)).flatMap aM:=by
 rw[Xs,bi];rfl
def akR{b c:P3}:(fW s zs n y x).length+(Da a b c d).length=(fW s zs n y (x+1)).length:=by
 rw[vI,vI];show _+2=_
 omega
def Ej(b:n<=6)(a:y<=6)(c:x<=6):(fW s zs n y x).length<=84:=by
 rw[vI];have:y*(n*2)<=6*(6*2):=ji a (by omega);omega
def aip(a:n<=6):∀t∈Nd 10 zs n,SmT 200 t:=by
 rw[<-Bm];exact acQ a (by omega) a (.inl O)
def aiq(a:n<=6):(Nd s zs n).length<=84:=by
 rw[<-Bm];exact Ej a a (by omega)
def TS(E:bh)(ts:List T3)(w:an)(v:ak)(w':an):Prop:=∃A cap n,n=ts.length/\v=.slice A n cap/\Ow w w' [] E 9 A n cap (ts.flatMap aM)
def Ow.tri{S:List (Option Nat)}{cap g i:Nat}{ts:List T3}{t:T3}(h:Ow w0 w S E 9 (lw ⟨g,0,G0⟩) n cap (ts.flatMap aM))(e:ts[i]? = lw t):jS w ((⟨g,0,G0⟩:Addr).add (i*9)) [G t.a.x,G t.a.y,G t.a.z,G t.b.x,G t.b.y,G t.b.z,G t.c.x,G t.c.y,G t.c.z]:=by
 show jS w _ (aM t)
 intro j u d;have f:j<(aM t).length:=(az.1 d).1;rw[kZ];refine h.rows _ _ ?_;rw[<-fa,Gn ts i t e,fk f];exact d
def aq6(h:n<27):Sm 100 (vP n):=by
 simp only[Sm,vP];omega
def akS{p:P3}(h:Sm 100 p)(a:n<8):Sm 200 (dH p 8 n):=by
 simp only[Sm,dH] at h ⊢;omega
def akT{p:P3}(h:Sm 100 p):∀t∈Ei p 8,SmT 200 t:=λt ht=>by
 have c:∀n,n<8->Sm 200 (dH p 8 n):=λn a=>akS h a;simp only[Ei,bv] at ht;rcases ht with ((((ht|ht)|ht)|ht)|ht)|ht<;>exact agJ (c _ (by decide)) (c _ (by decide)) (c _ (by decide)) (c _ (by decide)) t ht
def akU(h:n<27):∀t∈Hv n f,SmT 200 t:=λt a=>akT (aq6 h) t (qn (lp a))
def air{b:Nat}(h:n<27):∀t∈vJ b n f,SmT 200 t:=λt a=>by
 obtain⟨k,_,h2⟩:=dj.1 a;split at h2
 .exact akU h t h2
 cases h2
def aoX{b:Nat}:∀t∈ain b,SmT 200 t:=λt c=>by
 obtain⟨k,a,h2⟩:=dj.1 c;split at h2
 .exact air (ij.1 a) t h2
 cases h2
def Iu{α β:Type}{f:α->List β}{k:Nat}:∀(l:List α),(∀x∈l,(f x).length<=k)->(l.flatMap f).length<=l.length*k
 | [],_=>by simp
 |x::l,h=>by
  have h1:=h x (by simp);have h2:=Iu l (λy a=>h y (by simp[a]));rw[cz,bg,be,ik,kz];omega
def akV  : (Hv n f).length<=2:=by unfold Hv;rw[bz];omega
def Zk{b:Nat}:(vJ b n f).length<=f*2:=by
 have:=Iu (f:=λf=>if Ku b n f then Hv n f else []) (k:=2) (ii f) (λx _=>by
  show (if Ku b n x=Z then Hv n x else []).length<=2
  split
  .exact akV
  exact bu _)
 rwa [l_] at this
def Nf{b:Nat}(c:n<=27)(a:f<=6):(jC b n f).length<=400:=by
 have h1:=Iu (f:=λn=>if Qu b n then vJ b n 6 else []) (k:=12) (ii n) (λx _=>by
  show (if Qu b x=Z then vJ b x 6 else []).length<=12
  split
  .exact Zk
  exact bu _)
 have h2:=Zk (b:=b) (n:=n) (f:=f);rw[l_] at h1;unfold jC;rw[bg];omega
def aoY{b:Nat}:(ain b).length<=400:=by
 rw[<-Td];exact Nf (by omega) (by omega)
def Gp:List ak:=[G 0,G 0,G (-1),G 0,G 0,G 1,G 0,G (-1),G 0,G 0,G 1,G 0,G (-1),G 0,G 0,G 1,G 0,G 0]
def Te(h:f<6):f=0\/f=1\/f=2\/f=3\/f=4\/f=5:=by omega
def avh(h:f<6):Gp[f*3]? = H (G (stx f)):=by rcases Te h with rfl|rfl|rfl|rfl|rfl|rfl<;>rfl
def avi(h:f<6):Gp[f*3+1]? = H (G (sty f)):=by rcases Te h with rfl|rfl|rfl|rfl|rfl|rfl<;>rfl
def avj(h:f<6):Gp[f*3+2]? = H (G (stz f)):=by rcases Te h with rfl|rfl|rfl|rfl|rfl|rfl<;>rfl
def avk(f:Nat):(-1<=stx f/\stx f<=1)/\(-1<=sty f/\sty f<=1)/\(-1<=stz f/\stz f<=1):=by
 unfold stx sty stz
 repeat' split
 all_goals omega
def vin{u v w:Int}(a:(!(!(decide (0<=u)&&decide (u<3)&&decide (0<=v)&&decide (v<3)&&decide (0<=w)&&decide (w<3))))=Z):(0<=u/\u<3)/\(0<=v/\v<3)/\0<=w/\w<3:=by
 simp only[Bool.not_not,bt,Y2] at a;omega
def acR{b n f:Nat}:(!(decide ((0:Int)<=((n%3:Nat):Int)+stx f)&&decide (((n%3:Nat):Int)+stx f<3)&&decide ((0:Int)<=((n / 3%3:Nat):Int)+sty f)&&decide (((n / 3%3:Nat):Int)+sty f<3)&&decide ((0:Int)<=((n / 9:Nat):Int)+stz f)&&decide (((n / 9:Nat):Int)+stz f<3)) ||
 decide (((b / 2^(((((n / 9:Nat):Int)+stz f)*3+(((n / 3%3:Nat):Int)+sty f))*3+(((n%3:Nat):Int)+stx f)).toNat%2:Nat):Int)=0))=Ku b n f:=by
 unfold Ku Qu;simp only
 congr 1
 rw[<-decide_not]
 congr 1
 apply X2;constructor<;>intro h<;>omega
def akW(h:f<6):∃t u,(Ei (vP n) 8)[2*f]? = H t/\(Ei (vP n) 8)[2*f+1]? = H u/\Hv n f=[t,u]:=by
 have h1:2*f<(Ei (vP n) 8).length:=by rw[wB];omega
 have h2:2*f+1<(Ei (vP n) 8).length:=by rw[wB];omega
 refine⟨_,_,ap h1,ap h2,?_⟩;unfold Hv;rw[dw h1,dw h2];rfl
def ais{b:Nat}{t u:T3}(d:Hv n f=[t,u])(h:Ku b n f=Z):(jC b n f).flatMap aM++[G t.a.x,G t.a.y,G t.a.z,G t.b.x,G t.b.y,G t.b.z,G t.c.x,G t.c.y,G t.c.z,G u.a.x,G u.a.y,G u.a.z,G u.b.x,G u.b.y,G u.b.z,G u.c.x,G u.c.y,G u.c.z]=(jC b n (f+1)).flatMap aM:=by
 rw[Zi h,bi,d];rfl
def agK{b:Nat}(a:f<6)(h:Ku b n f=Z):(jC b n f).length+2=(jC b n (f+1)).length:=by
 obtain⟨t,u,_,_,c⟩:=akW (n:=n) a;rw[Zi h,bg,c];rfl
def vT(kind bits:Int)(zs:List Int):List T3:=if kind%3=0 then ain (bits%134217728).toNat else Nd 10 zs (1+kind.tdiv 3%6).toNat
def acS{z:Int}(h:nQ z):IntKind.i64.wrap (z.tdiv 3)=z.tdiv 3/\nQ (z.tdiv 3):=by
 obtain⟨h1,h2⟩:=h;have a : -9223372036854775808<=z.tdiv 3/\z.tdiv 3<9223372036854775808:=by
  rcases p_ 0 z with hz|hz
  .rw[m_ hz];omega
  have e:z.tdiv 3 = -((-z) / 3):=by
   rw[<-m_ (show 0 <= -z by omega),Int.neg_tdiv,ra]
  rw[e];omega
 exact⟨cF a.1 a.2,a⟩
def acT   : ∀t∈vT kind bits zs,SmT 200 t:=by
 unfold vT;split
 .exact aoX
 exact aip (by omega)
def acU   : (vT kind bits zs).length<=400:=by
 unfold vT;split
 .exact aoY
 exact ax (aiq (by omega)) (by decide)
def auX(ts:List T3)(k:Nat):(ts.take k).flatMap aM=(ts.flatMap aM).take (k*9):=by
 induction ts generalizing k with
 |nil=>simp
 |cons t ts ih=>
  cases k with
  |zero=>simp
  |succ k=>
   rw[kn,cz,cz,ih,rf,eK,a_ (l:=aM t) (by rw[eK];omega),show (k+1)*9-9=k*9 by omega]
def Tf{ts:List T3}{t u:T3}(h:ts[k]? = H t):bR (ts.flatMap aM) (k*9) (aM u)=(ts.set k u).flatMap aM:=by
 induction ts generalizing k with
 |nil=>cases h
 |cons v ts ih=>
  cases k with
  |zero=>
   unfold bR;rw[Nat.zero_mul,jz,cl,ay,cz,cz,eK,aj,od,eK,gw (l:=aM v) (by rw[eK];omega)];rfl
  |succ k=>
   have:=ih (k:=k) h;unfold bR at this ⊢;rw[aw,cz,cz,<-this,eK];rw[rf,eK,a_ (l:=aM v) (by rw[eK];omega),show (k+1)*9-9=k*9 by omega,od,eK,gw (l:=aM v) (by rw[eK];omega),show (k+1)*9+9-9=k*9+9 by omega];simp only[dm,cl]
def T3.cor(t:T3)(c:Nat):P3:=if c=0 then t.a else if c=1 then t.b else t.c
def T3.setC(t:T3)(c:Nat)(p:P3):T3:=if c=0 then ⟨p,t.b,t.c⟩ else if c=1 then ⟨t.a,p,t.c⟩ else ⟨t.a,t.b,p⟩
def awJ{t:T3}{p:P3}(hc:c<3):bR (aM t) (c*3) [G p.x,G p.y,G p.z]=aM (t.setC c p):=by
 have:c=0\/c=1\/c=2:=by omega
 rcases this with rfl|rfl|rfl<;>rfl
section
variable{w0 w:an}{S:List (Option Nat)}{E:bh}{n cap:Nat}{A:Option Addr}{ts:List T3}
def jS.cor{a:Addr}{t:T3}{c:Nat}(h:jS w a (aM t))(hc:c<3):jS w (a.add (c*3)) [G (t.cor c).x,G (t.cor c).y,G (t.cor c).z]:=by
 have:=(h.sub (c*3)).take 3;have e:c=0\/c=1\/c=2:=by omega
 rcases e with rfl|rfl|rfl<;>exact this
def cN.take{N k:Nat}(h:cN w A N ts)(b:k<=N):cN w A k (ts.take k):=
 ⟨by rw[bz,h.len];omega,λt a=>h.it t (lp a),λi t a=>h.row i t (by rw[gh] at a;split at a;exact a;cases a)⟩
def ar3{k:Nat}(h:k<ts.length):∃t,ts[k]? = lw t:=⟨_,ap h⟩
def agL{q:Int}{N:Nat}(h:0<N):∃k:Nat,q%(N:Int)=(k:Int)/\k<N:=by
 have:=uA (n:=q) (m:=(N:Int)) (by omega);exact⟨(q%(N:Int)).toNat,by omega,by omega⟩
end
section
variable{α:Type}{enc:α->List ak}{c:Nat}{w w':an}{A:Option Addr}{n:Nat}{xs:List α}
structure pH(enc:α->List ak)(c:Nat)(w:an)(A:Option Addr)(n:Nat)(xs:List α):Prop where
 len:xs.length=n
 row:∀i x,xs[i]? = H x->∃a,A=H a/\jS w (a.add (i*c)) (enc x)
def pH.ext(h:pH enc c w A n xs)(b:eQ w w'):pH enc c w' A n xs:=⟨h.len,λi x d=>let ⟨a,e,f⟩:=h.row i x d;⟨a,e,f.ext b⟩⟩
def pH.nil(w:an)(A:Option Addr):pH enc c w A 0 []:=⟨rfl,λi x h=>by cases h⟩
def pH.get(h:pH enc c w A n xs){i:Nat}(d:i<n):∃x,xs[i]? = H x/\∃a,A=H a/\jS w (a.add (i*c)) (enc x):=by
 have b:i<xs.length:=by rw[h.len];exact d
 exact⟨xs[i],ap b,h.row i _ (ap b)⟩
def pH.at{a:Addr}(h:pH enc c w (H a) n xs){i:Nat}{x:α}(f:xs[i]? = H x):jS w (a.add (i*c)) (enc x):=by
 obtain⟨b,e,d⟩:=h.row i x f;cases e;exact d
def pH.take(h:pH enc c w A n xs){k:Nat}(b:k<=n):pH enc c w A k (xs.take k):=
 ⟨by rw[bz,h.len];omega,λi x a=>h.row i x (by rw[gh] at a;split at a;exact a;cases a)⟩
def kE(hc:∀x,(enc x).length=c):∀xs:List α,(xs.flatMap enc).length=xs.length*c
 | []=>by simp
 |x::xs=>by rw[cz,bg,hc,kE hc xs,be,ik,kz,mo]
def Bn(hc:∀x,(enc x).length=c):∀(xs:List α)(k:Nat),(xs.drop k).flatMap enc=(xs.flatMap enc).drop (k*c)
 |xs,0=>by simp
 | [],k+1=>by simp
 |x::xs,k+1=>by
  rw[List.drop_succ_cons,cz,Bn hc xs k,od,hc,gw (l:=enc x) (by rw[hc,ik];omega),ik,kz,fb,cl]
def Tg(hc:∀x,(enc x).length=c):∀(xs:List α)(k:Nat),(xs.take k).flatMap enc=(xs.flatMap enc).take (k*c)
 |xs,0=>by simp
 | [],k+1=>by simp
 |x::xs,k+1=>by
  rw[kn,cz,cz,Tg hc xs k,rf,hc,a_ (l:=enc x) (by rw[hc,ik];omega),ik,kz,fb]
def Th(hc:∀x,(enc x).length=c){xs:List α}{i:Nat}{x:α}(h:xs[i]? = H x):(xs.flatMap enc).drop (i*c)=enc x++(xs.drop (i+1)).flatMap enc:=by
 rw[<-Bn hc,dw (az.1 h).1,cz,(az.1 h).2]
def Ow.at{w0:an}{S:List (Option Nat)}{cap g i:Nat}{x:α}(hc:∀x,(enc x).length=c)(h:Ow w0 w S E c (lw ⟨g,0,G0⟩) n cap (xs.flatMap enc))(b:xs[i]? = lw x):jS w ((⟨g,0,G0⟩:Addr).add (i*c)) (enc x):=by
 intro j u a;have d:j<(enc x).length:=(az.1 a).1;rw[kZ];refine h.rows _ _ ?_;rw[<-fa,Th hc b,fk d];exact a
def Ow.num{w0:an}{S:List (Option Nat)}{cap:Nat}(hc:∀x,(enc x).length=c)(a:0<c)(h:Ow w0 w S E c A n cap (xs.flatMap enc)):xs.length=n:=by
 have:=h.own.1;rw[kE hc] at this;exact Nat.eq_of_mul_eq_mul_right a this
def Ow.lat{w0:an}{S:List (Option Nat)}{cap:Nat}(hc:∀x,(enc x).length=c)(a:0<c)(h:Ow w0 w S E c A n cap (xs.flatMap enc)):pH enc c w A n xs:=
 ⟨h.num hc a,λi x b=>by
  have d:=(az.1 b).1;have e:=h.num hc a;obtain⟨g,rfl⟩:=h.some (by omega);exact⟨_,O,h.at hc b⟩⟩
def pH.cells(hc:∀x,(enc x).length=c)(d:0<c)(h:pH enc c w A n xs):∀j u,(xs.flatMap enc)[j]? = H u->∃a,A=H a/\w.cell? (a.add j)=H u:=λj u b=>by
 have g:=(az.1 b).1;rw[kE hc] at g;have f:j / c<xs.length:=(jy d).2 g;obtain⟨a,rfl,k⟩:=h.row (j / c) _ (ap f);refine⟨a,O,?_⟩;have i:=kj j d;have e:j=j / c*c+j%c:=by rw[jb];exact (ov j c).symm
 have:=k (j%c) u (by
  rw[e,<-fa,Th hc (ap f),fk (by rw[hc];exact i)] at b;exact b)
 rw[kZ,<-e] at this;exact this
def pH.cellsD(hc:∀x,(enc x).length=c)(d:0<c)(h:pH enc c w A n xs){cap q:Nat}(g:n<=cap):∀j u,((xs.drop q).flatMap enc)[j]? = H u->∃a,(if cap=q then A else A.map (·.add (q*c)))=H a/\w.cell? (a.add j)=H u:=λj u b=>by
 rw[Bn hc,fa] at b;have e:=(az.1 b).1;rw[kE hc,h.len] at e;obtain⟨a,rfl,f⟩:=h.cells hc d _ _ b;have:q<n:=by
  refine my (a:=c) ?_;omega
 rw[K0 (by omega)];exact⟨_,O,by rw[kZ];exact f⟩
end
def bV{ps:List α}{p:α}(h:ps[k]? = H p):ps.take (k+1)=ps.take k++[p]:=by
 rw[List.take_add_one,h];rfl
abbrev E3:=P3×P3
variable{es:List E3}
def bG(e:E3):List ak:=[G e.1.x,G e.1.y,G e.1.z,G e.2.x,G e.2.y,G e.2.z]
def ed(e:E3):ak:=.agg #[G e.1.x,G e.1.y,G e.1.z,G e.2.x,G e.2.y,G e.2.z]
def pI(p:P3):List ak:=[G p.x,G p.y,G p.z]
def cN.lat{A:Option Addr}{ts:List T3}(h:cN w A n ts):pH aM 9 w A n ts:=⟨h.len,h.row⟩
def aa9(es:List E3):∀u∈es.flatMap bG,u.oneCell'=Z:=λu a=>by
 obtain⟨e,_,h⟩:=dj.1 a;simp only[bG,av,bw,Y3] at h;rcases h with rfl|rfl|rfl|rfl|rfl|rfl<;>rfl
def Ti(ps:List P3):∀u∈ps.flatMap pI,u.oneCell'=Z:=λu a=>by
 obtain⟨e,_,h⟩:=dj.1 a;simp only[pI,av,bw,Y3] at h;rcases h with rfl|rfl|rfl<;>rfl
def ar4(t:T3):(aM t).length=9:=rfl
def yM(e:E3):(bG e).length=6:=rfl
def Mt(p:P3):(pI p).length=3:=rfl
def aR(ts:List T3):List E3:=ts.flatMap λt=>[(t.a,t.b),(t.b,t.c),(t.c,t.a)]
def sX{ts:List T3}{t:T3}(h:ts[k]? = H t):aR (ts.take (k+1))=aR (ts.take k)++[(t.a,t.b),(t.b,t.c),(t.c,t.a)]:=by
 unfold aR;rw[bV h,bi];simp
def kF(ts:List T3):(aR ts).length=ts.length*3:=uP ts λ_ _=>rfl
def kG(es:List E3)(e:E3):Nat:=(es.filter λx=>decide (x=e)).length
def acV{x e:E3}(h:es[k]? = H x):kG (es.take (k+1)) e=kG (es.take k) e+if x=e then 1 else 0:=by
 unfold kG;rw[bV h,List.filter_append,bg];by_cases a:x=e<;>simp[a]
def ar5{e:E3}:kG es e<=es.length:=List.length_filter_le _ _
def ar6{is:List α}{i:α}(h:is[k]? = H i):is.set k i=is:=by
 apply gt;intro j;rw[ki];split
 . rename_i e
   subst e;rw[Z9 (az.1 h).1,h]
 rfl
def Ng{α:Type}:∀(l:List α)(j:Nat)(x:α),l[j]? = H x->(x::l.eraseIdx j).Perm l
 | [],j,x,h=>by cases h
 |y::l,0,x,h=>by cases h;exact .refl _
 |y::l,j+1,x,h=>((List.Perm.swap y x _)).trans ((Ng l j x h).cons y)
def Mem.pull{is:List It}(m:Mem w0 w is)(j:Nat){x:It}(e:is[j]? = H x):Mem w0 w (x::is.eraseIdx j):=by
 have d:=Ng is j x e;exact⟨m.ext,λi c=>m.all i (d.mem_iff.1 c),λi c=>m.ge i (d.mem_iff.1 c),(d.pairwise_iff (λ{a b}(h:Ap a b)=>h.symm)).2 m.nd⟩
def Mem.mv{is:List It}{y:It}(m:Mem w0 w (y::is))(k:Nat){x:It}(c:is[k]? = H x):Mem w0 w (is.set k y):=by
 obtain⟨h1,h2⟩:=b_.1 m.nd;have b:∀i∈is.set k y,i∈y::is:=λi a=>(lc a).elim (br _) (λe=>e▸bq);exact⟨m.ext,λi a=>m.all i (b i a),λi a=>m.ge i (b i a),aeR is k h2 c λx d _=>h1 x d⟩
def dX{a:α}{l:List α}:(a::l).eraseIdx 0=l:=rfl
def dY{a:α}{l:List α}  : (a::l).eraseIdx (n+1)=a::l.eraseIdx n:=rfl
def SL(E:bh)(c:Nat)(cs:List ak)(n:Nat)(w:an)(v:ak)(w':an):Prop:=∃A cap n',n'=n/\v=.slice A n' cap/\Ow w w' [] E c A n' cap cs
/-! ### Points put into a sorted list -/
def acW(ps:List P3)(p:P3):Nat:=(ps.takeWhile λx=>decide (x.Lt p)).length
def iG(ps:List P3)(p:P3):List P3:=if ps[acW ps p]? = H p then ps else ps.take (acW ps p)++[p]++ps.drop (acW ps p)
def cR(ts:List T3):List P3:=ts.foldl (λps t=>iG (iG (iG ps t.a) t.b) t.c) []
def Kv{ts:List T3}{t:T3}(h:ts[k]? = H t):cR (ts.take (k+1))=iG (iG (iG (cR (ts.take k)) t.a) t.b) t.c:=by
 unfold cR;rw[bV h,jf];rfl
def Ac(ps:List P3)(p:P3):(iG ps p).length<=ps.length+1:=by
 unfold iG;split
 .omega
 simp;omega
def Ek(ts:List T3):(cR ts).length<=ts.length*3:=by
 have:∀(ts:List T3)(ps:List P3),(ts.foldl (λps t=>iG (iG (iG ps t.a) t.b) t.c) ps).length<=ps.length+ts.length*3:=by
  intro ts
  induction ts with
  |nil=>intro ps;simp
  |cons t ts ih=>
   intro ps;have h1:=ih (iG (iG (iG ps t.a) t.b) t.c);have h2:=Ac ps t.a;have d:=Ac (iG ps t.a) t.b;have e:=Ac (iG (iG ps t.a) t.b) t.c;rw[j_,be];omega
 have:=this ts [];simpa[cR] using this
section
variable{α:Type}{p:α->Bool}{l:List α}{k:Nat}
def aq7(h:∀j x,j<k->l[j]? = H x->p x=Z)(a:k<=l.length):k<=(l.takeWhile p).length:=by
 induction l generalizing k with
 |nil=>simp at a;omega
 |cons x l ih=>
  cases k with
  |zero=>omega
  |succ k=>
   have b:=h 0 x (by omega) rfl;rw[n_,Z9 b,be];have:=ih (k:=k) (λj y d c=>h (j+1) y (by omega) (by simpa using c)) (by simp at a;omega);omega
def avm{x:α}(a:l[k]? = H x)(h:p x=X9):(l.takeWhile p).length<=k:=by
 induction l generalizing k with
 |nil=>cases a
 |cons y l ih=>
  rw[n_];split
  . cases k with
    |zero=>
     rename_i b;cases a;rw[h] at b;cases b
    |succ k=>
     rw[be];have:=ih (k:=k) (by simpa using a);omega
  simp
def ar7:(l.takeWhile p).length<=l.length:=(List.takeWhile_sublist p).length_le
def aq8{x:α}(h:∀j x,j<k->l[j]? = H x->p x=Z)(a:l[k]? = H x)(h2:p x=X9):(l.takeWhile p).length=k:=rl (avm a h2) (aq7 h (Nat.le_of_lt (az.1 a).1))
def akX(h:∀j x,j<l.length->l[j]? = H x->p x=Z):(l.takeWhile p).length=l.length:=rl ar7 (aq7 h (ba _))
def Pre(p:α->Bool)(l:List α)(k:Nat):Prop:=∀j x,j<k->l[j]? = H x->p x=Z
def Pre.zero:Pre p l 0:=λj _ a=>by omega
def Pre.step{x:α}(h:Pre p l k)(c:l[k]? = H x)(b:p x=Z):Pre p l (k+1):=λj y d a=>by
 rcases d_ j k with h1|h1
 .exact h j y h1 a
 obtain rfl:j=k:=by omega
 rw[c] at a;cases a;exact b
end
/-! ### The border -/
def ltE(a b:E3):Bool:=if a.1≠b.1 then decide (a.1.Lt b.1) else decide (a.2.Lt b.2)
def ait(es:List E3)(e:E3):Nat:=(es.takeWhile λx=>ltE x e).length
def aeW(es:List E3)(e:E3):List E3:=es.take (ait es e)++[e]++es.drop (ait es e)
def rU(all:List E3)(a:List E3)(e:E3):List E3:=if 0<kG all (e.2,e.1)\/0<kG a e then a else aeW a e
def Y(ts:List T3):List E3:=(aR ts).foldl (rU (aR ts)) []
def aiu{all:List E3}{e:E3}(h:es[k]? = H e):(es.take (k+1)).foldl (rU all) []=rU all ((es.take k).foldl (rU all) []) e:=by
 rw[bV h,jf];rfl
def uQ{all:List E3}:∀(es a:List E3),(es.foldl (rU all) a).length<=a.length+es.length
 | [],a=>by simp
 |e::es,a=>by
  have h1:=uQ (all:=all) es (rU all a e);have h2:(rU all a e).length<=a.length+1:=by
   unfold rU aeW;split
   .omega
   simp;omega
  rw[j_,be];omega
/-! ### Pinched corners -/
def T3.fnd(t:T3)(p q:P3):Option P3:=if t.a=p/\t.b=q then H t.c else if t.b=p/\t.c=q then H t.a else if t.c=p/\t.a=q then H t.b else G0
variable{ts ms:List T3}{t:T3}
def bD:List T3->P3->P3->Option P3
 | [],_,_=>G0
 |t::ts,p,q=>match t.fnd p q with
  |some x=>H x
  |none=>bD ts p q
def uR{p:P3}(h:ts[k]? = H t)(a:bD (ts.take k) p q=G0):bD (ts.take (k+1)) p q=t.fnd p q:=by
 rw[bV h];clear h;generalize ts.take k=us at a ⊢
 induction us with
 |nil=>simp only[cl,bD];cases t.fnd p q<;>rfl
 |cons u us ih=>
  rw[de];simp only[bD] at a ⊢;cases b:u.fnd p q with
  |some x=>rw[b] at a;cases a
  |none=>rw[b] at a;exact ih a
def El{p x:P3}(h:bD (ts.take k) p q=H x):bD ts p q=H x:=by
 induction ts generalizing k with
 |nil=>simp[bD] at h
 |cons u us ih=>
  cases k with
  |zero=>simp[bD] at h
  |succ k=>
   rw[kn] at h;unfold bD at h ⊢;cases a:u.fnd p q with
   |some y=>rw[a] at h;exact h
   |none=>rw[a] at h;exact ih h
def Tj(p:P3)(t:T3)(c:Nat):List T3:=if t.cor c=p then [t] else []
def Ad(p:P3)(t:T3)(c:Nat):List T3:=(ii c).flatMap (Tj p t)
def pJ(ts:List T3)(p:P3):List T3:=ts.flatMap λt=>Ad p t 3
def Tk(p:P3)(t:T3)(c:Nat):List P3:=if t.cor c=p then [t.cor ((c+1)%3)] else []
def Em(p:P3)(t:T3)(c:Nat):List P3:=(ii c).flatMap (Tk p t)
def wW(ts:List T3)(p:P3):List P3:=ts.flatMap λt=>Em p t 3
def Tl(p:P3)(t:T3)(c:Nat):Ad p t (c+1)=Ad p t c++Tj p t c:=by simp[Ad,mj]
def Pr(p:P3)(t:T3)(c:Nat):Em p t (c+1)=Em p t c++Tk p t c:=by simp[Em,mj]
def aiv{p:P3}(h:ts[k]? = H t):pJ (ts.take (k+1)) p=pJ (ts.take k) p++Ad p t 3:=by
 unfold pJ;rw[bV h,bi];simp
def aeX{p:P3}(h:ts[k]? = H t):wW (ts.take (k+1)) p=wW (ts.take k) p++Em p t 3:=by
 unfold wW;rw[bV h,bi];simp
def Hw(ts:List T3)(p:P3)(k:Nat)(t:T3)(c:Nat):List T3:=pJ (ts.take k) p++Ad p t c
def yN(ts:List T3)(p:P3)(k:Nat)(t:T3)(c:Nat):List P3:=wW (ts.take k) p++Em p t c
def aiw{p:P3}(h:t.cor c=p):Hw ts p k t (c+1)=Hw ts p k t c++[t]:=by
 unfold Hw;rw[Tl,Tj,Z9 h,dm]
def akY{p:P3}(h:¬t.cor c=p):Hw ts p k t (c+1)=Hw ts p k t c:=by
 unfold Hw;rw[Tl,Tj,K0 h,fz]
def aeY{p:P3}(h:t.cor c=p):yN ts p k t (c+1)=yN ts p k t c++[t.cor ((c+1)%3)]:=by
 unfold yN;rw[Pr,Tk,Z9 h,dm]
def aix{p:P3}(h:¬t.cor c=p):yN ts p k t (c+1)=yN ts p k t c:=by
 unfold yN;rw[Pr,Tk,K0 h,fz]
def ao0{p:P3}   : Hw ts p k t 0=pJ (ts.take k) p:=by simp[Hw,Ad]
def akZ{p:P3}   : yN ts p k t 0=wW (ts.take k) p:=by simp[yN,Em]
def ao1{p:P3}(h:ts[k]? = H t):Hw ts p k t 3=pJ (ts.take (k+1)) p:=by rw[aiv h];rfl
def ak0{p:P3}(h:ts[k]? = H t):yN ts p k t 3=wW (ts.take (k+1)) p:=by rw[aeX h];rfl
def gZ{x y:P3}:(x.x=y.x/\x.y=y.y/\x.z=y.z)↔x=y:=⟨λh=>P3.eq h.1 h.2.1 h.2.2,λh=>by rw[h];exact⟨rfl,rfl,rfl⟩⟩
def Bo{x y v:P3}:(decide (x.x=y.x/\x.y=y.y/\x.z=y.z)&&decide (u.x=v.x/\u.y=v.y/\u.z=v.z))=Z↔x=y/\u=v:=by
 rw[bt,Y2,Y2,gZ,gZ]
def Nh{x y v:P3}(h:(decide (x.x=y.x/\x.y=y.y/\x.z=y.z)&&decide (u.x=v.x/\u.y=v.y/\u.z=v.z))=X9):¬(x=y/\u=v):=λk=>by
 rw[Bo.2 k] at h;cases h
def avn{p:P3}(h:t.cor 0=p/\t.cor 1=q):t.fnd p q=H (t.cor 2):=Z9 h
def avo{p:P3}(a:¬(t.cor 0=p/\t.cor 1=q))(h:t.cor 1=p/\t.cor 2=q):t.fnd p q=H (t.cor 0):=(K0 a).trans (Z9 h)
def avp{p:P3}(a:¬(t.cor 0=p/\t.cor 1=q))(h1:¬(t.cor 1=p/\t.cor 2=q))(h:t.cor 2=p/\t.cor 0=q):t.fnd p q=H (t.cor 1):=(K0 a).trans ((K0 h1).trans (Z9 h))
def avq{p:P3}(a:¬(t.cor 0=p/\t.cor 1=q))(h1:¬(t.cor 1=p/\t.cor 2=q))(h2:¬(t.cor 2=p/\t.cor 0=q)):t.fnd p q=G0:=(K0 a).trans ((K0 h1).trans (K0 h2))
def pK(ms:List T3)(p s:P3):Nat->P3->Bool
 |0,_=>X9
 |n+1,a=>match bD ms p a with
  |none=>X9
  |some x=>if x=s then Z else pK ms p s n x
def Zl{p s x:P3}(h:bD ms p x=G0):pK ms p s n x=X9:=by
 cases n with
 |zero=>rfl
 |succ n=>simp only[pK,h]
def acX{p s x:P3}(h:bD ms p x=H s):pK ms p s (n+1) x=Z:=by simp[pK,h]
def Zm{p s x y:P3}(h:bD ms p x=H y)(a:¬y=s):pK ms p s (n+1) x=pK ms p s n y:=by simp[pK,h,a]
def Kx(ts:List T3)(p:P3):Bool:=(wW ts p).any λs=>pK (pJ ts p) p s ((pJ ts p).length-1) s
def sY(t:T3):Bool:=decide (t.a=t.b)||decide (t.b=t.c)||decide (t.c=t.a)
def aba  : (decide (t.a.x=t.b.x/\t.a.y=t.b.y/\t.a.z=t.b.z)||decide (t.b.x=t.c.x/\t.b.y=t.c.y/\t.b.z=t.c.z)||decide (t.c.x=t.a.x/\t.c.y=t.a.y/\t.c.z=t.a.z))=sY t:=by
 simp only[gZ,sY]
def cD(op:Bool)(ts:List T3):Int:=
 if ts.any sY then 20 else if (aR ts).any (λe=>decide (1<kG (aR ts) e)) then 21
 else if !op&&decide (0<(Y ts).length) then 22 else if (cR ts).any (Kx ts) then 23 else 0
def pL{p:α->Bool}{l:List α}{x:α}(a:l[k]? = H x):(l.take (k+1)).any p=((l.take k).any p||p x):=by
 rw[bV a,List.any_append];simp
def xS{p:α->Bool}{l:List α}{x:α}(a:l[k]? = H x)(h:p x=Z):l.any p=Z:=ff.2 ⟨x,bn a,h⟩
end
end Go.Lith
