/-
 Texts of one claim, laid together: Ext, Ops, Nat, Nat2, Ops2, Nat3, Upd, Nat4, Nat5, Nat6, Held, Eq, Nat7, Nat8, Ops3, Nat9, Nat10, Nat11, Nat12, Geo, Tree, Fresh, Fresh2, Ops4, Geo2, Geo3, Geo4, Geo5, Own, Al, Mem, Grow, Pts, Guard, Geo6, Open, Surf, Surf2, Lat, Chk, Map0, Map, Map2, Sort, Sets, Box, Wa, Wb, Wc, Wd, Dig, Dig2, Dig3, Cst, We.
-/
import Derived.WalkKit
import Derived.StillTail
import Derived.Deep.Quiet
import Derived.BigQuiet
import Derived.Laws.Rows
import Derived.Laws.IdiomCopy
import Derived.Laws.CopyRow
import Derived.OrdersHeld
import Derived.Laws.StructEq
import Derived.ChangeKeysEq
import Derived.Laws.IdiomStrings
import Derived.Laws.BytesArg
import Derived.RangeFuncBox
import Derived.RangeFuncLeaves
import Derived.LoopN
import Derived.Sort.Grow
import Derived.Deep.Draws
import Derived.OpenShut
import Derived.Lib.SmallJoins
import Derived.Deep.Slices
import Derived.Maps.RangeRun
import Derived.Shelf.SlSortCmp.WholeK
import Derived.Shelf.SlSortCmp.NoneTotal
open Int renaming toNat_natCast->ah,fdiv_eq_ediv_of_nonneg->ip,tmod_eq_emod_of_nonneg->jj,natCast_mul->mw,neg_neg->rr,not_lt->ru
open Nat renaming zero_add->ai,le_refl->ar,le_trans->be,zero_le->bn,mul_one->dt,lt_or_ge->eh,lt_of_lt_of_le->gw,min_eq_left->ij,add_sub_cancel->im,le_of_not_lt->i_,eq_zero_or_pos->ji,pow_succ->jn,pow_le_pow_right->jz,add_zero->ka,add_mul->ku,mul_le_mul_left->lc,mod_eq_of_lt->lg,mod_lt->lh,mul_zero->lq,mul_le_mul->lz,le_sub_one_of_lt->nl,mul_le_mul_right->nq,add_comm->ny,lt_of_le_of_lt->oo,lt_trichotomy->ow,pow_add->pj,pow_mul->pk,mul_add->pm,one_mul->po,le_antisymm->rj,mul_comm->rn
open Go renaming Value->aj,World->ak,wpList->az,TypeId->ba,Program->bt,Operand->b_,run_underlying->cl,MapEntry->cu,wpQuiet->cw,execOp->dw,Deferred->ej
open List renaming getElem?_eq_getElem->am,getElem?_eq_some_iff->ao,mem_cons->ap,length_append->aq,take_of_length_le->au,flatMap_append->aw,length_cons->ay,mem_singleton->a_,mem_of_getElem?->bf,mem_append->bh,map_cons->bi,length_take->bj,length_nil->bm,mem_cons_of_mem->bp,mem_cons_self->br,pairwise_cons->bv,flatMap_cons->bx,nil_append->bz,not_mem_nil->cd,getElem?_eq_none->cg,length_map->cj,append_assoc->cn,cons_append->cq,mem_filter->ct,getElem?_append_left->c_,map_append->de,replicate->di,mem_map->dj,getElem?_drop->dl,getElem?_append_right->dm,getElem?_take->d_,toList_toArray->ee,any_eq_true->et,append_nil->fb,all_eq_true->fe,mem_flatMap->ff,getElem?_map->fi,drop_eq_getElem_cons->fj,filter_cons->fk,mem_map_of_mem->fl,take_length->fq,eq_nil_of_length_eq_zero->ft,pairwise_append->fu,ext_getElem?->fz,length_drop->gg,getElem_mem->gj,set_cons_succ->gn,drop_of_length_le->gq,nodup_cons->g_,size_toArray->ib,length_singleton->ic,map_congr_left->io,foldl_append->ir,pairwise_iff_getElem->ix,set_cons_zero->iy,getElem?_set->je,mem_or_eq_of_mem_set->jp,foldl_cons->jx,range->ke,mem_range->kf,take_zero->kx,nodup_append->ky,getElem?_toArray->lj,getElem?_set_ne->lo,takeWhile_append_dropWhile->lv,take_succ_cons->lw,getElem_of_mem->lx,takeWhile_cons->ly,filter_cons_of_pos->ma,filter_cons_of_neg->mb,flatMap_nil->mc,drop_length->me,map_eq_append_iff->mo,take_append_drop->m_,take_add_one->nh,mem_of_mem_take->nj,drop_zero->nt,map_eq_cons_iff->nw,drop_append->n_,take_append->oa,dropWhile_cons->od,reverse_cons->qn,nil_sublist->qt
open Bool renaming and_eq_true->bg,or_eq_true->fh,not_eq_true'->fp,not_true->f_,not_false->gd,false_or->jt,false_eq_true->oq
open Go.Oper renaming mk->bu,quietAt->ml,wp->nf,upon->ot
open Option renaming getD_some->dx,isSome_iff_exists->ep,map_some->gh,bind_some->ja,some->mj,map_none->rk
open Array renaming getElem?_eq_some_iff->el,getElem?_toList->gm,replicate->gv,getElem?_eq_getElem->ii,getElem?_setIfInBounds_ne->jh,getElem?_modify->kn,ext_getElem?->li,eraseIdxIfInBounds->lu,eq_empty_of_size_eq_zero->l_,getElem?_eq_none->mn,getD_eq_getD_getElem?->ng,setIfInBounds_comm->oe,toList_push->ox,toList_modify->p_,range->qm,ext'->qw,map->rp,ext->rq
open BitVec renaming ofInt->eo,toNat_ofInt->qi
open UInt8 renaming ofNat->fa,toNat->jq,toNat_ofNat'->jy,toNat_inj->oh
open Option.some renaming inj->fc,injEq->ik
open Prod.mk renaming injEq->gl
open List.Pairwise renaming nil->la
open List.cons renaming injEq->mr
open Go.Value renaming int->my
open List.Perm renaming append_left->nc,refl->oy,trans->pw
open Go.IntKind renaming signed->ni,wrap->ou,bits->ov
open Prod renaming ext->pq,fst->qu,snd->qv
set_option linter.unusedSimpArgs false
set_option linter.defProp false
set_option linter.unusedVariables false
set_option linter.unusedSectionVars false
open Bool renaming true->Z,false->X3
open Option renaming some->X4,none->X5
namespace Go
def J:=@if_pos
def X:=@if_neg
def Z8:=@absurd
def C:=@congrArg
def R:=@decide_eq_true_eq
def Z9:=@or_false
def K0:=@if_true
def Y0:=@decide_eq_true
def Y:=@decide_eq_false
def Y1:=@decide_eq_false_iff_not
def Y2:=@and_true
def Y3:=@of_decide_eq_true
def Y4:=@if_false
def Y5:=@exists_congr
def Y6:=@propext
def Y7:=@inferInstance
def Y8:=@and_assoc
def Y9:=@of_decide_eq_false
def X0:=@or_assoc
def X1:=@and_self
def X2:=@true_and
abbrev X6:=Value.int .i64
end Go
def O{α:Sort _}{a:α}:a=a:=rfl
namespace Go.Lith
section
open Go.RowKit
variable{w w':ak}{cs l:List aj}{t T:ba}{a:Addr}{i:Nat}{f:FuncId}{x:Int}
def fJ(w w':ak):Prop:=Below w.heap.size w w'
def fJ.refl(w:ak):fJ w w:=Below.refl _ _
def fJ.size(h:fJ w w'):w.heap.size<=w'.heap.size:=Below.size h
def fJ.trans{a b c:ak}(h:fJ a b)(k:fJ b c):fJ a c:=Below.trans h (Below.mono k h.size)
def fJ.drawn{w w':ak}(h:fJ w w'):fJ w { w' with drawn:=w'.drawn+1 }:=Below.drew h
def fJ.alloc(h:fJ w w')(o:Obj):fJ w (w'.alloc o):=Below.alloc h h.size o
def fJ.block(h:fJ w w'){k:Nat}{o:Obj}(a:w.heap[k]? = X4 o):w'.heap[k]? = X4 o :=
 (Below.block h k (el.1 a).1).trans a
def fJ.cell(h:fJ w w'){p:Addr}{v:aj}(hp:w.cell? p=X4 v):w'.cell? p=X4 v :=
 (Below.cell h (World.block_lt_of_cell? _ _ hp)).trans hp
section
variable {P:bt} {ops:Array Oper} {md:Region.Mode} {C:ak->Prop}
def Lo(P:bt)(md:Region.Mode)(ops:Array Oper)(C:ak->Prop)(n:Nat)(L:Array Bool->Act->Prop):Nat->Array Bool->Act->Prop
 | 0,b,a=>L b a
 | f+1,b,a =>
  Region.ready md ops b≠[]/\∀i∈Region.ready md ops b,i<n/\qOp P ops C i (Lo P md ops C n L f (b.setIfInBounds i Z)) a
def uW{n g:Nat}{L:Array Bool->Act->Prop}{Q':Exit->Act->ak->Prop}(d:∀b a,L b a->∀w,C w->wpAny P md ops Q' g b a w) :
 ∀(f:Nat) (b:Array Bool) (a:Act) (w:ak),C w->Lo P md ops C n L f b a->wpAny P md ops Q' (f+g) b a w
 | 0,b,a,w,c,h=>by rw[ai];exact d _ _ h w c
 | f+1,b,a,w,c,h=>by
  rw[show f+1+g=(f+g)+1 by omega];exact⟨λk=>Z8 k h.1,λi l=>wpOp_of_qOp c (λe w' m j=>uW d f _ e w' m j) (h.2 i l).2⟩
def Zx{n i:Nat}{p:Oper}{v:aj}{L:Array Bool->Act->Prop}(t:ops[i]? = X4 p)(B:∀(j:Nat) (o:Oper) cs b,ops[j]? = X4 o->o.op≠.select cs b)
 (hs:Region.sinkB md ops n=Z) (hc:Region.chainB md ops n=Z) (x:n<ops.size) (y:i<n)
 (R:∀c a,L c a->∀j∈Region.ready md ops c,n<=j) :
 ∀(f:Nat) (c:Array Bool) (a:Act),HeadInv md ops n c ->
  (∀j l,ops[j]? = X4 l->j≠i->c.getD j Z=X3->(∀e∈l.after,Region.binds md e=Z->e.on≠i)->p.apart ops l=Z) ->
  i∈Region.ready md ops c->YieldsIn P ops C p v a ->
  Lo P md ops C n L f (c.setIfInBounds i Z) (a.put p.dst v)->Lo P md ops C n L (f+1) c a:=by
 intro f
 induction f with
 | zero =>
  intro c a s _ hr q H;have m:=(mem_ready.1 hr).1;refine⟨λh=>(by rw[h] at hr;cases hr),λj g=>?_⟩;have r:j<n:=by
   rcases eh j n with h | h
   .exact h
   exact Z8 g (tail_waits hs hc x s _ i O y m j h)
  refine⟨r,?_⟩;by_cases d:j=i
  .subst d;exact q.qOp t H
  have:=R _ _ H j (ready_mono g d)
  omega
 | succ f ih =>
  intro c a s D hr q H;have m:=(mem_ready.1 hr).1;refine⟨λh=>(by rw[h] at hr;cases hr),λj g=>?_⟩;have r:j<n:=by
   rcases eh j n with h | h
   .exact h
   exact Z8 g (tail_waits hs hc x s _ i O y m j h)
  refine⟨r,?_⟩;by_cases d:j=i
  .subst d;exact q.qOp t H
  have h1:=(H.2 j (ready_mono g d)).2
  obtain⟨A,l,u,N⟩:=mem_ready.1 g;have Q:∀e∈l.after,Region.binds md e=Z->e.on≠i:=λe G F J=>by
   have h1:=N e G F;rw[J,getD_both m] at h1;cases h1
  have h2:=qOp_put u (D j l u d A Q) (λcs b=>B i p cs b t) (λcs b=>B j l cs b u) q h1;have S:∀k ok,ops[k]? = X4 ok->k≠i->(c.setIfInBounds j Z).getD k Z=X3 ->
   (∀e∈ok.after,Region.binds md e=Z->e.on≠i)->p.apart ops ok=Z:=λk ok I K m M=>by
   refine D k ok I K ?_ M;by_cases z:j=k
   .subst z;exact A
   rw[getD_set_ne Z z] at m;exact m
  refine qOp_mono (λE w=>ih (c.setIfInBounds j Z) E (s.set g r) S (ready_mono hr (Ne.symm d)) w.1 ?_) h2;rw[oe _ _ d];exact w.2
def yX{n g:Nat}{f:Act->Prop}(t:Region.noSelect ops=Z)(hs:Region.sinkB md ops n=Z)(hc:Region.chainB md ops n=Z)(p:n<ops.size) :
 ∀(l:List Oper) (k:Nat) (b:Array Bool) (a:Act),(∀j,j<l.length->l[j]? = ops[k+j]?)->k+l.length=n->HeadInv md ops n b ->
 Region.lexHead md ops g l.length k b=Z->cw P ops C f l a ->
 Lo P md ops C n (λu i=>Region.seqB md ops g n u=Z/\f i) l.length b a
 | [],k,b,a,_,e,_,d,h=>by
  have:k=n:=by simpa using e
  subst this;exact⟨by simpa[Region.lexHead] using d,h⟩
 | o::l,k,b,a,m,e,s,d,h=>by
  have c:ops[k]? = X4 o:=by simpa using (m 0 (by simp)).symm
  simp only[ay,Region.lexHead,bg] at d;obtain⟨⟨hr,y⟩,A⟩:=d;have q:k<n:=by simp only[ay] at e;omega
  have r:k∈Region.ready md ops b:=by simpa using hr
  have B:qOp P ops C k (cw P ops C f l) a:=by unfold qOp;simp only[c];exact h
  obtain⟨v,z,w⟩:=yieldsIn_of_qOp c B;exact Zx c (Region.noSelect_spec t) hs hc p q (λu i x=>seqB_ready x.1) l.length b a s (Region.free_spec c y) r z
   (yX t hs hc p l (k+1) _ _ (λj D=>by have:=m (j+1) (by simp;omega);simpa[Nat.add_assoc,ny 1 j] using this) (by simp only[ay] at e;omega) (s.set r q) A w)
def sB{id:Nat}{Q:Exit->Act->ak->Prop}{a:Act}{w:ak}{l:List Oper}(n:Nat)(p:P.follows .mixedOrders=Z)(d:Region.lexTailB .any l.toArray n=Z)
 (o:C { w with drawn:=w.drawn+1 })
 (h:cw P l.toArray C (λc=>∀w',C w'->az P l.toArray Q (l.drop n) c w') (l.take n) a):(Code.region id l.toArray Z).wp P Q a w:=by
 simp only[Region.lexTailB,bg,R] at d;obtain⟨⟨⟨⟨v,k⟩,hs⟩,hc⟩,u⟩:=d;have A:n<l.length:=by simpa using k
 have b:(l.take n).length=n:=by simp;omega
 have m:(l.drop n).length=l.toArray.size-n:=by simp
 have x:HeadInv .any l.toArray n (gv l.toArray.size X3) :=
  ⟨by simp,λj z _ i=>(by rw[getD_replicate_false] at i;cases i),λt _ q=>getD_in (by simpa using q) (getD_replicate_false _ _)⟩
 have H:=yX (md:=.any) (g:=l.toArray.size-n) v hs hc k (l.take n) 0 _ a (λj f=>by
  have r:j<n:=by rw[b] at f;exact f
  simp[r]) (by simpa using b) x (by rw[b];exact u) h
 refine wp_region_any p ?_;have:=uW (Q':=Q) (g:=l.toArray.size-n) (λy c e w' s=>by
  have:=wpAny_of_seq (md:=.any) (Q':=Q) (l.drop n) n y c w' (λj=>by simp[dl]) (by rw[m];exact e.1) (e.2 w' s);rwa [m] at this) _ _ _ _ o H
 rw[b,show n+(l.toArray.size-n)=l.toArray.size by omega] at this;exact this
def Zy(md:Region.Mode)(ops:Array Oper):List (Nat × Bool)->Array Bool->Bool
 | [],a=>(Region.ready md ops a).isEmpty
 | (i,Z)::r,a=>(ops[i]?).isSome&&Region.free md ops a i&&(Region.ready md ops a).contains i&&Zy md ops r (a.setIfInBounds i Z)
 | (i,X3)::r,a=>(ops[i]?).isSome&&decide (Region.ready md ops a=[i])&&Zy md ops r (a.setIfInBounds i Z)
def fW(P:bt)(ops:Array Oper)(Q:Exit->Act->ak->Prop):List (Oper × Bool)->Act->ak->Prop
 | [],a,w=>Q .normal a w
 | (o,Z)::r,a,w=>∃v,Yields P ops o v a/\fW P ops Q r (a.put o.dst v) w
 | (o,X3)::r,a,w=>az P ops (Exit.then (fW P ops Q r) Q) [o] a w
end
abbrev Fr(l:List aj)(ds:List ej:=[]):Act:={ tmps:=l.toArray,defers:=ds }
def fQ(w:ak)(g:Nat)(cs:List aj)(t:ba):Prop:=w.heap[g]? = X4 (.cells cs.toArray t (0,0))
structure Chg(w w':ak)(g:Nat):Prop where
 os:w'.os=w.os
 tape:w'.tape=w.tape
 output:w'.output=w.output
 size:w'.heap.size=w.heap.size
 block:∀k,k≠g->w'.heap[k]? = w.heap[k]?
def kV(w:ak)(a:Addr)(cs:List aj):Prop:=∀j u,cs[j]? = X4 u->w.cell? (a.add j)=X4 u
def fQ.lt{g:Nat}(h:fQ w g cs t):g<w.heap.size:=(el.1 h).1
def fQ.ext{g:Nat}(h:fQ w g cs t)(a:fJ w w'):fQ w' g cs t:=a.block h
def fQ.chg{g a:Nat}(h:fQ w g cs t)(b:Chg w w' a)(c:g≠a):fQ w' g cs t:=(b.block g c).trans h
def fJ.chg{w0:ak}{g:Nat}(h:fJ w0 w)(a:Chg w w' g)(c:w0.heap.size<=g):fJ w0 w' :=
 ⟨a.os.trans h.os,a.tape.trans h.tape,a.output.trans h.output,by rw[a.size];exact h.size,λk b=>(a.block k (by omega)).trans (Below.block h k b)⟩
def kV.ext(h:kV w a cs)(b:fJ w w'):kV w' a cs:=λj u c=>b.cell (h j u c)
theorem cS(g off j:Nat):(⟨g,off,X5⟩:Addr).add j=⟨g,off+j,X5⟩:=by unfold Addr.add;split <;> simp_all
def jD(a:Addr)(i j:Nat):(a.add i).add j=a.add (i+j):=by
 unfold Addr.add;by_cases b:i=0 <;> by_cases c:j=0 <;> simp[b,c,Nat.add_assoc]
def fQ.row{g:Nat}(h:fQ w g cs t)(off:Nat):kV w ⟨g,off,X5⟩ (cs.drop off):=by
 intro j u a;rw[cS,cell_of_row w g (off+j) cs.toArray t (0,0) h];simpa[dl] using a
def kV.sub(h:kV w a cs)(i:Nat):kV w (a.add i) (cs.drop i):=by
 intro j u b;rw[jD];exact h (i+j) u (by simpa[dl] using b)
def kV.take(h:kV w a cs)(n:Nat):kV w a (cs.take n):=by
 intro j u b;refine h j u ?_;rw[d_] at b;split at b
 .exact b
 cases b
section
variable {P:bt} {ds:List ej} {l:List aj}
theorem aqA(t:Nat):(Fr l).eval (.tmp t)=l.getD t undef:=by
 show l.toArray.getD t undef=_
 simp[Array.getD,List.getD];split <;> simp_all
def jY{ds:List ej}:(Fr l ds).eval=(Fr l).eval:=rfl
def gI{ds:List ej}(d:Nat)(v:aj):(Fr l ds).put (X4 d) v=Fr (l.set d v) ds:=by simp[Act.put,Fr]
def dO(P:bt)(T:ba)(n:Nat):Prop:=∃a,P.info? T=X4 a/\a.size=n
def nJ(P:bt)(T:ba)(z:aj):Prop:=∃a,P.info? T=X4 a/\a.zero=X4 z
def Ep:TypeDesc->Bool
 | .struct _ | .array _ _=>Z
 | _=>X3
def eX(P:bt)(T:ba)(b:Bool):Prop:=∃a,P.underlying T=X4 a/\Ep a=b
def dX{n:Nat}(h:(P.info? T).map (·.size)=X4 n):dO P T n:=by
 cases a:P.info? T with
 | none=>rw[a] at h;cases h
 | some i=>rw[a] at h;exact⟨i,a,by simpa using h⟩
def jE{z:aj}(h:(P.info? T).bind (·.zero)=X4 z):nJ P T z:=by
 cases a:P.info? T with
 | none=>rw[a] at h;cases h
 | some i=>rw[a] at h;exact⟨i,a,by simpa using h⟩
def dP{b:Bool}(a:TypeDesc)(h:P.underlying T=X4 a)(c:Ep a=b):eX P T b:=⟨a,h,c⟩
def ev(l:List aj):b_->aj
 | .tmp t=>l.getD t undef
 | .const v=>v
 | .global g=>.pointer (X4 ⟨g,0,X5⟩)
 | .func f=>.func (.func f) #[] #[]
def Ci(t:Nat):ev l (.tmp t)=l.getD t undef:=rfl
def sC(v:aj):ev l (.const v)=v:=rfl
def wH(f:Nat):ev l (.func f)=.func (.func f) #[] #[]:=rfl
def cN(x:b_):(Fr l).eval x=ev l x:=by
 cases x with
 | tmp t=>exact aqA t
 | const=>rfl
 | global=>rfl
 | func=>rfl
def Cb(P:bt)(l:List aj)(op:Op)(ty:ba)(v:aj)(w:ak):Prop :=
 ∀o:Oper,o.op=op->o.type=ty->(dw (Fr l).eval o).run P w=.ok (.value v) w
def iB(P:bt)(l:List aj)(op:Op)(ty:ba)(v:aj):Prop:=∀w,Cb P l op ty v w
section
variable {ops:Array Oper} {Q:Exit->Act->ak->Prop} {w:ak} {rest:List Oper} {d:Nat} {op:Op} {ty:ba} {pos:String} {after:Array Edge} {v:aj}
def fI(hr:Cb P l op ty v w)(h:az P ops Q rest (Fr (l.set d v) ds) w):az P ops Q (bu (X4 d) op ty pos after X5::rest) (Fr l ds) w:=by
 refine wpList_plain O λK a=>?_;unfold nf;rw[jY,hr _ rfl rfl];show K ((Fr l ds).put (X4 d) v) w
 rw[gI];exact a _ _ h
def aD(hr:iB P l op ty v)(h:az P ops Q rest (Fr (l.set d v) ds) w):az P ops Q (bu (X4 d) op ty pos after X5::rest) (Fr l ds) w:=fI (hr w) h
def aI(h:Q .normal (Fr l ds) w):az P ops Q [] (Fr l ds) w:=h
def eP{j:Nat}{b:Bool}(a:yielded ops l.toArray j=X4 b)(h:az P ops Q (bu (X4 d) op ty pos after X5::rest) (Fr l ds) w):az P ops Q (bu (X4 d) op ty pos after (X4 (j,b))::rest) (Fr l ds) w:=by
 unfold az at h ⊢;rw[J (by simp[Region.wanted])] at h;rw[J (by simp[Region.wanted,a])];exact h
def aiK{j:Nat}{b c:Bool}(a:yielded ops l.toArray j=X4 c)(e:(c == b)=X3)(h:az P ops Q rest (Fr (l.set d undef) ds) w):az P ops Q (bu (X4 d) op ty pos after (X4 (j,b))::rest) (Fr l ds) w:=by
 unfold az;rw[X (by simp[Region.wanted,a];simpa using e)];show az P ops Q rest ((Fr l ds).put (X4 d) undef) w
 rw[gI];exact h
def pQ{j:Nat}(a:yielded ops l.toArray j=X4 X3)(h:az P ops Q rest (Fr (l.set d undef) ds) w):az P ops Q (bu (X4 d) op ty pos after (X4 (j,Z))::rest) (Fr l ds) w:=aiK a rfl h
def Ps{j:Nat}(a:yielded ops l.toArray j=X4 Z)(h:az P ops Q rest (Fr (l.set d undef) ds) w):az P ops Q (bu (X4 d) op ty pos after (X4 (j,X3))::rest) (Fr l ds) w:=aiK a rfl h
end
section
variable {ops:Array Oper} {Q:Act->Prop} {C:ak->Prop} {rest:List Oper} {d:Nat} {op:Op} {ty:ba} {pos:String} {after:Array Edge} {v:aj}
def kC(hr:∀w,C w->Cb P l op ty v w)(h:cw P ops C Q rest (Fr (l.set d v) ds)):cw P ops C Q (bu (X4 d) op ty pos after X5::rest) (Fr l ds):=by
 refine wpQuiet_step λK a=>?_;rw[J (by simp[Region.wanted])];refine⟨v,λw b=>?_,?_⟩
 . unfold ml
   rw[jY,hr w b _ rfl rfl];exact⟨O,O⟩
 show K ((Fr l ds).put (X4 d) v)
 rw[gI];exact a _ h
def aK(hr:iB P l op ty v)(h:cw P ops C Q rest (Fr (l.set d v) ds)):cw P ops C Q (bu (X4 d) op ty pos after X5::rest) (Fr l ds):=kC (λw _=>hr w) h
def aZ(h:Q (Fr l ds)):cw P ops C Q [] (Fr l ds):=h
def fL{j:Nat}{b:Bool}(a:yielded ops l.toArray j=X4 b)(h:cw P ops C Q (bu (X4 d) op ty pos after X5::rest) (Fr l ds)):cw P ops C Q (bu (X4 d) op ty pos after (X4 (j,b))::rest) (Fr l ds):=by
 unfold cw at h ⊢;rw[J (by simp[Region.wanted])] at h;rw[J (by simp[Region.wanted,a])];exact h
def aiL{j:Nat}{b c:Bool}(a:yielded ops l.toArray j=X4 c)(e:(c == b)=X3)(h:cw P ops C Q rest (Fr (l.set d undef) ds)):cw P ops C Q (bu (X4 d) op ty pos after (X4 (j,b))::rest) (Fr l ds):=by
 unfold cw;rw[X (by simp[Region.wanted,a];simpa using e)];show cw P ops C Q rest ((Fr l ds).put (X4 d) undef)
 rw[gI];exact h
def pR{j:Nat}(a:yielded ops l.toArray j=X4 X3)(h:cw P ops C Q rest (Fr (l.set d undef) ds)):cw P ops C Q (bu (X4 d) op ty pos after (X4 (j,Z))::rest) (Fr l ds):=aiL a rfl h
def Ik{j:Nat}(a:yielded ops l.toArray j=X4 Z)(h:cw P ops C Q rest (Fr (l.set d undef) ds)):cw P ops C Q (bu (X4 d) op ty pos after (X4 (j,X3))::rest) (Fr l ds):=aiL a rfl h
end
/-! ### Values -/
section
variable {x y:b_} {T T' ty:ba} {k:IntKind} {m n r:Int}
def aJ:iB P l (.move x) ty (ev l x):=λw o a _=>by simp[dw,a,cN]
def aM:iB P l (.assign x) ty (ev l x):=λw o a _=>by simp[dw,a,cN]
def Zz{c:b_}{b:Bool}(hc:ev l c=.bool b):iB P l (.pick c x y) ty (if b then ev l x else ev l y):=λw o a _=>by
 simp[dw,a,cN,hc,asBool]
def fU(b:ev l x=.int k m)(c:ev l y=.int k n)(hr:k.wrap (m+n)=r):iB P l (.binOp .add T x y T') ty (.int k r):=λw o a _=>by
 simp[dw,a,cN,b,c,eqGuard,binOp,Op.intArith,hr]
def Il(b:ev l x=.int k m)(c:ev l y=.int k n)(hr:k.wrap (m-n)=r):iB P l (.binOp .sub T x y T') ty (.int k r):=λw o a _=>by
 simp[dw,a,cN,b,c,eqGuard,binOp,Op.intArith,hr]
def kS(b:ev l x=.int k m)(c:ev l y=.int k n)(hr:k.wrap (m*n)=r):iB P l (.binOp .mul T x y T') ty (.int k r):=λw o a _=>by
 simp[dw,a,cN,b,c,eqGuard,binOp,Op.intArith,hr]
def xQ(b:ev l x=.int k m)(c:ev l y=.int k n):iB P l (.binOp .lss T x y T') ty (.bool (decide (m<n))):=λw o a _=>by
 simp[dw,a,cN,b,c,eqGuard,binOp,Op.intCmp]
def Nz(b:ev l x=.int k m)(c:ev l y=.int k n):iB P l (.binOp .leq T x y T') ty (.bool (decide (m<=n))):=λw o a _=>by
 simp[dw,a,cN,b,c,eqGuard,binOp,Op.intCmp]
def aiM(b:ev l x=.int k m)(c:ev l y=.int k n):iB P l (.binOp .gtr T x y T') ty (.bool (decide (n<m))):=λw o a _=>by
 simp[dw,a,cN,b,c,eqGuard,binOp,Op.intCmp]
def atU(b:ev l x=.int k m)(c:ev l y=.int k n):iB P l (.binOp .geq T x y T') ty (.bool (decide (n<=m))):=λw o a _=>by
 simp[dw,a,cN,b,c,eqGuard,binOp,Op.intCmp]
theorem Im(b:ev l x=.int k m)(c:ev l y=.int k n):iB P l (.binOp .eql T x y T') ty (.bool (decide (m=n))):=λw o a _=>by
 simp[dw,a,cN,b,c,eqGuard,binOp,Op.intCmp];cases h:(m == n) <;> simp_all
theorem rD(b:ev l x=.int k m)(c:ev l y=.int k n):iB P l (.binOp .neq T x y T') ty (.bool (decide (m≠n))):=λw o a _=>by
 simp[dw,a,cN,b,c,eqGuard,binOp,Op.intCmp];cases h:(m != n) <;> simp_all
def iU(c:ev l x=.int k m)(d:ev l y=.int k n)(a:n≠0)(hr:k.wrap (m.tdiv n)=r):iB P l (.binOp .quo T x y T') ty (.int k r):=λw o b _=>by
 simp[dw,b,cN,c,d,eqGuard,binOp,Op.intDiv,a,hr]
def cT(c:ev l x=.int k m)(d:ev l y=.int k n)(a:n≠0)(hr:m.tmod n=r):iB P l (.binOp .rem T x y T') ty (.int k r):=λw o b _=>by
 simp[dw,b,cN,c,d,eqGuard,binOp,Op.intDiv,a,hr]
def lH(b:ev l x=.int k m)(c:ev l y=.int k n)(hr:k.wrap ((eo k.bits m &&& eo k.bits n).toNat:Int)=r):iB P l (.binOp .and T x y T') ty (.int k r):=λw o a _=>by
 subst hr;simp[dw,a,cN,b,c,eqGuard,binOp,Op.intBits]
def avw(b:ev l x=.int k m)(c:ev l y=.int k n)(hr:k.wrap ((eo k.bits m ||| eo k.bits n).toNat:Int)=r):iB P l (.binOp .or T x y T') ty (.int k r):=λw o a _=>by
 subst hr;simp[dw,a,cN,b,c,eqGuard,binOp,Op.intBits]
def rF{e:IntKind}(c:ev l x=.int k m)(d:ev l y=.int e n)(a:0<=n)(hr:k.wrap (m*2^(min n.toNat k.bits))=r):iB P l (.binOp .shl T x y T') ty (.int k r):=λw o b _=>by
 subst hr;simp[dw,b,cN,c,d,eqGuard,binOp,Op.shift,ru.2 a]
def kW{e:IntKind}(c:ev l x=.int k m)(d:ev l y=.int e n)(a:0<=n)(hr:m.fdiv (2^(min n.toNat k.bits))=r):iB P l (.binOp .shr T x y T') ty (.int k r):=λw o b _=>by
 subst hr;simp[dw,b,cN,c,d,eqGuard,binOp,Op.shift,ru.2 a]
def pS{b:Bool}(c:ev l x=.bool b):iB P l (.unOp .not T x) ty (.bool (!b)):=λw o a _=>by
 simp[dw,a,cN,c,Op.unary]
def uX(b:ev l x=.int k m)(hr:k.wrap (0-m)=r):iB P l (.unOp .neg T x) ty (.int k r):=λw o a _=>by
 subst hr;simp[dw,a,cN,b,Op.unary,Op.intArith]
def iK(b:P.underlying T'=X4 (.int k)){e:IntKind}{a:TypeDesc}(hs:P.underlying T=X4 a)(d:ev l x=.int e m)(hr:k.wrap m=r):iB P l (.convert T T' x) ty (.int k r):=λw o c _=>by
 subst hr;simp[dw,c,cN,d,convert,cl hs,cl b,Conv.intToInt]
def fG{vs:Array aj}{v:aj}(c:ev l x=.tuple vs)(a:vs[i]? = X4 v):iB P l (.extract x i) ty v:=λw o b _=>by
 simp[dw,b,cN,c,Instr.extract,a]
def fZ{fn:Fn}{first a:Array b_}:iB P l (.makeFunc fn first a) ty (.func fn (first.map (ev l)) (a.map (ev l))):=λw o b _=>by
 have e:(Fr l).eval=ev l:=funext cN;simp[dw,b,e,Instr.makeFunc]
def Lp{E:ba}{A:Option Addr}{n c:Nat}{a0:Array ba}(a:a0 = #[T])(d:P.underlying T=X4 (.slice E))(e:ev l x=.slice A n c):iB P l (.call { callee:=.builtin .len,args:=#[x],argTypes:=a0 }) ty (X6 n):=λw o b _=>by
 subst a;simp[dw,b,resolve,invoke,builtin,Builtin.len_,cN,e,cl d,goInt]
def uY{s:ByteArray}{a0:Array ba}(a:a0 = #[T])(c:P.underlying T=X4 .string)(d:ev l x=.string s):iB P l (.call { callee:=.builtin .len,args:=#[x],argTypes:=a0 }) ty (X6 s.size):=λw o b _=>by
 subst a;simp[dw,b,resolve,invoke,builtin,Builtin.len_,cN,d,cl c,goInt]
def atV{a0:Array ba}(b:ev l x=.int k m)(c:ev l y=.int k n)(hr:(if n<m then n else m)=r):iB P l (.call { callee:=.builtin .min,args:=#[x,y],argTypes:=a0 }) ty (.int k r):=λw o a _=>by
 subst hr;simp[dw,a,resolve,invoke,builtin,Builtin.min_,Builtin.min2,cN,b,c]
def xR{a0:Array ba}(b:ev l x=.int k m)(c:ev l y=.int k n)(hr:(if m<n then n else m)=r):iB P l (.call { callee:=.builtin .max,args:=#[x,y],argTypes:=a0 }) ty (.int k r):=λw o a _=>by
 subst hr;simp[dw,a,resolve,invoke,builtin,Builtin.max_,Builtin.max2,cN,b,c]
end
/-! ### Addresses -/
section
variable {x y:b_} {T T' ty:ba} {k:IntKind} {m n r:Int}
def aU{fs:Array Field}{i c:Nat}{f:Field}{a b:Addr}(j:P.underlying T=X4 (.struct fs))(e:fs[i]? = X4 f)(hc:dO P f.type (c+1))(k:ev l x=.pointer (X4 a))(d:a.add f.offset=b) :
 iB P l (.fieldAddr T x i) ty (.pointer (X4 b)):=λw o h _=>by
 subst d;obtain⟨n,g,p⟩:=hc;have m:¬n.size=0:=by omega
 simp[dw,h,cN,k,Instr.fieldAt,cl j,e,Instr.sureAddr,fieldPlace,sizeOf,typeInfo,g,m]
def aN{E:ba}{len:Nat}{c:Nat}{a b:Addr}(h:P.underlying T=X4 (.array len E))(hc:dO P E c)(i:ev l x=.pointer (X4 a))(j:ev l y=.int k m)(d:0<=m)(h1:m<len)(e:a.add (m.toNat*c)=b) :
 iB P l (.indexAddr T x y) ty (.pointer (X4 b)):=λw o g _=>by
 subst e;obtain⟨n,f,rfl⟩:=hc;simp[dw,g,cN,i,j,Instr.indexAt,asIntOf,cl h,Instr.sureAddr,sizeOf,typeInfo,f,d,h1]
def aR{E:ba}{len cap:Nat}{c:Nat}{a b:Addr}(h:P.underlying T=X4 (.slice E))(hc:dO P E c)(i:ev l x=.slice (X4 a) len cap)(j:ev l y=.int k m)(d:0<=m)(h1:m<len)(e:a.add (m.toNat*c)=b) :
 iB P l (.indexAddr T x y) ty (.pointer (X4 b)):=λw o g _=>by
 subst e;obtain⟨n,f,rfl⟩:=hc;simp[dw,g,cN,i,j,Instr.indexAt,asIntOf,cl h,sizeOf,typeInfo,f,d,h1]
end
/-! ### Memory -/
section
variable {x y:b_} {T T' ty:ba} {w:ak}
def dQ(P:bt)(w:ak)(T:ba)(a:Addr)(v:aj):Prop:=(loadVar T a).run P w=.ok v w
theorem kV.lies{cs:List aj}(h:kV w a cs)(c:eX P T Z)(hc:dO P T cs.length):dQ P w T a (.agg cs.toArray):=by
 obtain⟨b,g,l⟩:=c;obtain⟨m,d,f⟩:=hc;have e:=run_loadCells_list (P:=P) w a cs (λj v i=>h j v i);have k:(isAgg T).run P w=.ok Z w:=by
  unfold isAgg;rw[Sem.run_bind,cl g w];cases b <;> simp_all [Ep]
 unfold dQ;simp[loadVar,Sem.run_bind,k,sizeOf,typeInfo,d,f,e]
theorem lies1{v:aj}(h:w.cell? a=X4 v)(c:eX P T X3):dQ P w T a v:=by
 obtain⟨b,d,f⟩:=c;have e:(isAgg T).run P w=.ok X3 w:=by
  unfold isAgg;rw[Sem.run_bind,cl d w];cases b <;> simp_all [Ep]
 unfold dQ;simp[loadVar,Sem.run_bind,e,load,Sem.run,h]
def fQ.cell{g:Nat}{cs:List aj}{t:ba}(h:fQ w g cs t){v:aj}(a:cs[i]? = X4 v):w.cell? ⟨g,i,X5⟩=X4 v:=by
 rw[cell_of_row w g i cs.toArray t (0,0) h];simpa using a
def fQ.lies1{g:Nat}{cs:List aj}{t:ba}{v:aj}(h:fQ w g cs t)(a:eX P T X3)(b:cs[i]? = X4 v):dQ P w T ⟨g,i,X5⟩ v:=Lith.lies1 (h.cell b) a
def fQ.lies{g n:Nat}{cs us:List aj}{t:ba}(h:fQ w g cs t)(a:eX P T Z)(hc:dO P T n)(c:(cs.drop i).take n=us)(b:us.length=n):dQ P w T ⟨g,i,X5⟩ (.agg us.toArray):=by
 subst c;exact ((h.row i).take n).lies a (by rw[b];exact hc)
def bD{v:aj}(d:ev l x=.pointer (X4 a))(b:dQ P w T a v):Cb P l (.load T x) ty v w:=λo c _=>by
 unfold dQ at b;simp[dw,c,cN,d,Instr.loadAt,Instr.sureAddr,b]
variable {ops:Array Oper} {Q:Exit->Act->ak->Prop} {rest:List Oper} {d:Nat} {op:Op} {pos:String} {after:Array Edge} {v:aj}
def bE(c:ev l x=.pointer (X4 a))(b:dQ P w T a v)(h:az P ops Q rest (Fr (l.set d v) ds) w):az P ops Q (bu (X4 d) (.load T x) ty pos after X5::rest) (Fr l ds) w :=
 fI (bD c b) h
def Io{w':ak}(hr:∀o:Oper,o.op=op->(dw (Fr l).eval o).run P w=.ok .skip w')(h:az P ops Q rest (Fr l ds) w'):az P ops Q (bu X5 op ty pos after X5::rest) (Fr l ds) w:=by
 refine wpList_plain O λK a=>?_;unfold nf;rw[jY,hr _ rfl];exact a _ _ h
def mG{w':ak}(hr:∀o:Oper,o.op=op->o.type=ty->(dw (Fr l).eval o).run P w=.ok (.value v) w')(h:az P ops Q rest (Fr (l.set d v) ds) w'):az P ops Q (bu (X4 d) op ty pos after X5::rest) (Fr l ds) w:=by
 refine wpList_plain O λK a=>?_;unfold nf;rw[jY,hr _ rfl rfl];show K ((Fr l ds).put (X4 d) v) w'
 rw[gI];exact a _ _ h
def iV(w:ak)(cs:List aj)(t:ba):fQ (w.alloc (.cells cs.toArray t)) w.heap.size cs t:=heap_alloc_new w _
def aiN{cs:List aj}(b:(ev l x).cells=cs.toArray)(h:∀w' g,fJ w w'->w.heap.size<=g->fQ w' g cs T->az P ops Q rest (Fr (l.set d (.pointer (X4 ⟨g,0,X5⟩))) ds) w') :
 az P ops Q (bu (X4 d) (.box T x) ty pos after X5::rest) (Fr l ds) w :=
 mG (w':=w.alloc (.cells cs.toArray T)) (v:=.pointer (X4 ⟨w.heap.size,0,X5⟩)) (λo a _=>by simp[dw,a,cN,Instr.box,newVar,newRow,b,newObj,Sem.run]) (h _ _ ((fJ.refl w).alloc _) (ar _) (iV w cs T))
def Er{cs:List aj}{z:aj}(a:nJ P T z)(e:z.cells=cs.toArray)(h:∀w' g,fJ w w'->w.heap.size<=g->fQ w' g cs T->az P ops Q rest (Fr (l.set d (.pointer (X4 ⟨g,0,X5⟩))) ds) w') :
 az P ops Q (bu (X4 d) (.alloc T) ty pos after X5::rest) (Fr l ds) w:=by
 obtain⟨i,b,f⟩:=a;exact mG (w':=w.alloc (.cells cs.toArray T)) (v:=.pointer (X4 ⟨w.heap.size,0,X5⟩)) (λo c _=>by simp[dw,c,Instr.alloc,zeroValue,typeInfo,b,f,newVar,newRow,e,newObj,Sem.run]) (h _ _ ((fJ.refl w).alloc _) (ar _) (iV w cs T))
def over(cs:List aj)(off:Nat)(us:List aj):List aj:=cs.take off++us++cs.drop (off+us.length)
def Cj{cs us:List aj}{off:Nat}(h:off+us.length<=cs.length):(over cs off us).length=cs.length:=by simp[over];omega
def Qx(w:ak)(g:Nat)(cs:Array aj):Chg w (w.setRow g cs) g:=⟨rfl,rfl,rfl,by simp,λk a=>setRow_other w g k cs a⟩
def Ip{g off:Nat}{cs us:List aj}{t:ba}(hc:dO P T us.length)(e:v.cells=us.toArray)(b:fQ w g cs t)(f:off+us.length<=cs.length)(h1:∀u∈us,u.oneCell'=Z) :
 (storeVar T ⟨g,off,X5⟩ v).run P w=.ok () (w.setRow g (over cs off us).toArray):=by
 obtain⟨h,c,d⟩:=hc;have a:=run_storeCells_at P g off t us 0 cs.toArray w b (by simpa using f) h1;simp only[ka,ee] at a;simp[storeVar,e,sizeOf,typeInfo,c,d,a,over]
def yY{g off:Nat}{cs us:List aj}{t:ba}(d:ev l x=.pointer (X4 ⟨g,off,X5⟩))(c:(ev l y).cells=us.toArray)(hc:dO P T us.length)(a:fQ w g cs t)(e:off+us.length<=cs.length)(h1:∀u∈us,u.oneCell'=Z)
 (h:∀w',Chg w w' g->fQ w' g (over cs off us) t->az P ops Q rest (Fr l ds) w'):az P ops Q (bu X5 (.store T x y) ty pos after X5::rest) (Fr l ds) w :=
 Io (w':=w.setRow g (over cs off us).toArray) (λo b=>by simp[dw,b,cN,d,Instr.storeAt,Instr.sureAddr,Ip hc c a e h1]) (h _ (Qx w g _) (setRow_heap w g cs.toArray _ t _ a))
/-! ### Calls -/
def Entr(P:bt)(f:FuncId):Prop:=∃fn,P.funcs[f]? = X4 fn/\(fn.name == "runtime.NumGoroutine")=X3/\fn.body.isNone=X3
def bJ{P:bt}{fn:Func}(h:P.funcs[f]? = X4 fn) (a:(!(fn.name == "runtime.NumGoroutine") && !fn.body.isNone)=Z):Entr P f:=by
 simp only[bg,fp] at a;exact⟨fn,h,a.1,a.2⟩
def cY(P:bt)(f:FuncId)(args:List aj)(w:ak)(R:aj->ak->Prop):Prop :=
 Entr P f/\Calls P f args.toArray w λe w'=>∃v,e=.returned v/\fJ w w'/\R v w'
def dF(P:bt)(f:FuncId)(args:List aj)(v:aj):Prop:=∀w,cY P f args w λu _=>u=v
def cY.mono{args:List aj}{R a:aj->ak->Prop}(h:cY P f args w R)(hr:∀v w',fJ w w'->R v w'->a v w'):cY P f args w a :=
 ⟨h.1,h.2.mono λ_ _ ⟨v,d,b,c⟩=>⟨v,d,b,hr _ _ b c⟩⟩
def tY{args:Array aj}(h:Entr P f):(callFunc f args).run P w=.ok (.enter f args) w:=by
 obtain⟨fn,b,c,a⟩:=h;have e:¬fn.name = "runtime.NumGoroutine" := by simpa using c
 have d:¬fn.body=X5:=by intro h;rw[h] at a;cases a
 simp[callFunc,b,e,d]
def pT{f:FuncId}{a:b_}{xs:Array b_}{args:List aj}{first cap:Array aj}{a0:Array ba}(h:Entr P f)(b:ev l a=.func (.func f) first cap)(d:first.toList++xs.toList.map (ev l)++cap.toList=args)(o:Oper)(c:o.op=.call { callee:=.value a,args:=xs,argTypes:=a0 }) :
 (dw (Fr l).eval o).run P w=.ok (.enter f args.toArray) w:=by
 have e:(Fr l).eval=ev l:=funext cN;have ea:args.toArray=first++xs.map (ev l)++cap:=by
  rw[<-d];apply qw;simp
 simp[dw,c,resolve,e,b,Deferred.ofValue,invoke,tY h,ea]
def bF{f:FuncId}{a:b_}{xs:Array b_}{args:List aj}{first cap:Array aj}{a0:Array ba}{R:aj->ak->Prop}(i:ev l a=.func (.func f) first cap)(j:first.toList++xs.toList.map (ev l)++cap.toList=args)(hc:cY P f args w R)
 (h:∀v w',fJ w w'->R v w'->az P ops Q rest (Fr (l.set d v) ds) w'):az P ops Q (bu (X4 d) (.call { callee:=.value a,args:=xs,argTypes:=a0 }) ty pos after X5::rest) (Fr l ds) w:=by
 refine wpList_plain O λK c=>?_;unfold nf;rw[jY,pT hc.1 i j _ rfl];refine hc.2.mono ?_;rintro e w' ⟨v,rfl,b,g⟩;show K ((Fr l ds).put (X4 d) v) w'
 rw[gI];exact c _ _ (h v w' b g)
def aaa{f:FuncId}{a:b_}{xs:Array b_}{args:List aj}{first cap:Array aj}{a0:Array ba}(e:ev l a=.func (.func f) first cap)(g:first.toList++xs.toList.map (ev l)++cap.toList=args)(hc:dF P f args v)
 (h:∀w',fJ w w'->az P ops Q rest (Fr (l.set d v) ds) w'):az P ops Q (bu (X4 d) (.call { callee:=.value a,args:=xs,argTypes:=a0 }) ty pos after X5::rest) (Fr l ds) w :=
 bF e g (hc w) λ_ w' b c=>c▸h w' b
end
section
variable {x y:b_} {T T' ty:ba} {w:ak}
variable {ops:Array Oper} {Q:Act->Prop} {rest:List Oper} {d:Nat} {op:Op} {pos:String} {after:Array Edge} {v:aj}
end
/-! ### Code -/
section
variable {Q:Exit->Act->ak->Prop} {w:ak} {c c1 c2:Code}
def bM{a:Act}(h:∀K:Act->ak->Prop,(∀a w,c2.wp P Q a w->K a w)->c1.wp P (Exit.then K Q) a w):(Code.seq c1 c2).wp P Q a w:=wp_seq_k h
def gF{x:b_}{b:Bool}(d:ev l x=.bool b)(c:b=Z->c1.wp P Q (Fr l ds) w)(a:b=X3->c2.wp P Q (Fr l ds) w):(Code.cond x c1 c2).wp P Q (Fr l ds) w :=
 wp_cond_split (by rw[jY,cN];exact d) c a
def bC{x:b_}{p:Prop}[Decidable p](c:ev l x=.bool (decide p))(b:p->c1.wp P Q (Fr l ds) w)(a:¬p->c2.wp P Q (Fr l ds) w):(Code.cond x c1 c2).wp P Q (Fr l ds) w :=
 gF c (λh=>b (Y3 h)) (λh=>a (Y9 h))
def Ck{x:b_}(b:ev l x=.bool Z)(a:c1.wp P Q (Fr l ds) w):(Code.cond x c1 c2).wp P Q (Fr l ds) w:=gF b (λ_=>a) (λh=>by cases h)
def agY{x:b_}(b:ev l x=.bool X3)(a:c2.wp P Q (Fr l ds) w):(Code.cond x c1 c2).wp P Q (Fr l ds) w:=gF b (λh=>by cases h) (λ_=>a)
def Res(P:bt)(l:List aj)(w:ak):ResultVar->aj->Prop
 | .tmp t,v=>l.getD t undef=v
 | .cell t T,v=>∃a,l.getD t undef=.pointer (X4 a)/\dQ P w T a v
def Lr{r:ResultVar}{v:aj}(h:Res P l w r v):(∃t,r=.tmp t/\l[t]?.getD undef=v)\/(∃t T a,r=.cell t T/\l[t]?.getD undef=.pointer (X4 a)/\(loadVar T a).run P w=.ok v w):=by
 cases r with
 | tmp t=>exact .inl ⟨t,rfl,by simpa[Res] using h⟩
 | cell t T =>
  obtain⟨a,b,c⟩:=h;exact .inr ⟨t,T,a,O,by simpa using b,c⟩
def aS{fn:Func}{R:Ending->ak->Prop}{r:ResultVar}{v:aj}(hr:fn.results = #[r])(h:Res P l w r v)(b:R (.returned v) w):bodyPost P fn R .ret (Fr l) w:=by
 refine⟨O,v,?_,b⟩;unfold results;rw[hr];rcases Lr h with ⟨t,rfl,h1⟩ | ⟨t,T,a,rfl,h1,h2⟩ <;> simp[*,asAddr]
def wE{fn:Func}{R:Ending->ak->Prop}{r b:ResultVar}{v v':aj}(hr:fn.results = #[r,b])(h:Res P l w r v)(c:Res P l w b v')(d:R (.returned (.tuple #[v,v'])) w):bodyPost P fn R .ret (Fr l) w:=by
 refine⟨O,_,?_,d⟩;unfold results;rw[hr];rcases Lr h with ⟨t,rfl,h1⟩ | ⟨t,T,a,rfl,h1,h2⟩ <;> rcases Lr c with ⟨e,rfl,f⟩ | ⟨e,T',g,rfl,f,i⟩ <;> simp[*,asAddr]
end
end
/-! ### Numbers,loops,further values -/
def bZ(a : -9223372036854775808<=x)(h1:x<9223372036854775808):IntKind.i64.wrap x=x:=by
 simp[ou,ov,ni];split <;> omega
def xS(a:0<=x)(h1:x<18446744073709551616):IntKind.u64.wrap x=x:=by
 simp[ou,ov,ni];omega
def aiO(a:0<=x)(h1:x<4294967296):IntKind.u32.wrap x=x:=by
 simp[ou,ov,ni];omega
def aiP(a : -2147483648<=x)(h1:x<2147483648):IntKind.i32.wrap x=x:=by
 simp[ou,ov,ni];split <;> omega
def afD(a:0<=x)(h1:x<256):IntKind.u8.wrap x=x:=by
 simp[ou,ov,ni];omega
def fH:List aj->List Nat->List aj->List aj
 | l,t::ts,v::vs=>fH (l.set t v) ts vs
 | l,_,_=>l
def aab{t:Nat}{ts:List Nat}{v:aj}{vs:List aj}:fH l (t::ts) (v::vs)=fH (l.set t v) ts vs:=rfl
def Cl{vs:List aj}:fH l [] vs=l:=by cases vs <;> rfl
def abD{t:Nat}:l.set t (l.getD t undef)=l:=by
 apply fz;intro i;rw[je];split
 . rename_i h;subst h
   split
   .rename_i h;simp[h]
   rename_i h;simp at h;simp[h]
 rfl
def Iq:∀(ts:List Nat) (l:List aj),fH l ts (ts.map (l.getD · undef))=l
 | [],l=>Cl
 | t::ts,l=>by
  simp only[bi,aab,abD];exact Iq ts l
def yZ{p:Nat->Prop}(h:∃n,p n):∃n,p n/\∀m,p m->n<=m:=by
 obtain⟨n,c⟩:=h
 induction n using Nat.strongRecOn with
 | _ n ih =>
  by_cases b:∃m,m<n/\p m
  .obtain⟨m,a,hp⟩:=b;exact ih m a hp
  exact⟨n,c,λm a=>i_ λd=>b ⟨m,d,a⟩⟩
noncomputable def Qy(p:Nat->Prop)(h:∃n,p n):Nat:=(yZ h).choose
def abE{p:Nat->Prop}(h:∃n,p n):p (Qy p h):=(yZ h).choose_spec.1
def agZ{p:Nat->Prop}(h:∃n,p n){m:Nat}(a:p m):Qy p h<=m:=(yZ h).choose_spec.2 m a
section
variable {P:bt} {ds:List ej} {l:List aj}
end
/-! ### Parts of values,slices,new slices -/
section
variable {P:bt} {ds:List ej} {l:List aj} {x y:b_} {T T' ty:ba} {k:IntKind} {m n r:Int}
theorem pU{b:Bool}(h:eX P T b)(w:ak):(isAgg T).run P w=.ok b w:=by
 obtain⟨a,c,d⟩:=h;unfold isAgg;rw[Sem.run_bind,cl c w];cases a <;> simp_all [Ep]
def dY{c:Nat}(h:dO P T c)(w:ak):(sizeOf T).run P w=.ok c w:=by
 obtain⟨b,a,rfl⟩:=h;simp[sizeOf,typeInfo,a]
def jN(cs:Array aj):(Value.agg cs).cells=cs:=rfl
def mN{parts:Array (Nat × b_)}{vs:Array (Nat × aj)}{v:aj}(hp:(parts.map λ(i,x)=>(i,ev l x))=vs)(h:∀w,(Instr.build T vs).run P w=.ok v w):iB P l (.build T parts) ty v:=λw o a _=>by
 have e:(Fr l).eval=ev l:=funext cN;subst hp;simp only[dw,a,e];rw[Sem.run_bind,h w];rfl
def fM{fs:Array Field}{places:Array (Nat × Nat)}{z:aj}{cells:Array aj}{vs:Array (Nat × aj)}(d:P.underlying T=X4 (.struct fs))(e:nJ P T z)
 (g:∀w,(fs.mapM λf=>do pure (f.offset,<-sizeOf f.type):Sem (Array (Nat × Nat))).run P w=.ok places w) (b:Instr.fill (places[·]?) z.cells vs.toList=X4 cells) (w:ak):(Instr.build T vs).run P w=.ok (.agg cells) w:=by
 obtain⟨h,c,a⟩:=e;simp only[Instr.build,zeroValue,typeInfo];simp[c,a,cl d];have:=g w;simp at this;simp[this,b]
def kD{E:ba}{n c:Nat}{z:aj}{cells:Array aj}{vs:Array (Nat × aj)}(e:P.underlying T=X4 (.array n E))(f:nJ P T z)(hc:dO P E c)
 (b:Instr.fill (λi=>X4 (i*c,c)) z.cells vs.toList=X4 cells) (w:ak):(Instr.build T vs).run P w=.ok (.agg cells) w:=by
 obtain⟨g,d,a⟩:=f;simp only[Instr.build,zeroValue,typeInfo];simp[d,a,cl e,dY hc,b]
def aiQ{fs:Array Field}{i:Nat}{f:Field}{cs:Array aj}{v:aj}(d:P.underlying T=X4 (.struct fs))(b:fs[i]? = X4 f)(a:eX P f.type X3)(g:ev l x=.agg cs)(e:cs[f.offset]? = X4 v) :
 iB P l (.field T x i) ty v:=λw o c _=>by
 simp[dw,c,cN,g,Instr.field,cl d,b,asAgg,part,pU a,e]
def aiR{fs:Array Field}{i c:Nat}{f:Field}{cs us:Array aj}(e:P.underlying T=X4 (.struct fs))(b:fs[i]? = X4 f)(a:eX P f.type Z)(hc:dO P f.type c)(h:ev l x=.agg cs)(g:cs.extract f.offset (f.offset+c)=us) :
 iB P l (.field T x i) ty (.agg us):=λw o d _=>by
 subst g;simp[dw,d,cN,h,Instr.field,cl e,b,asAgg,part,pU a,dY hc]
def pV{E:ba}{len c:Nat}{cs:Array aj}{v:aj}(e:P.underlying T=X4 (.array len E))(b:eX P E X3)(hc:dO P E c)(g:ev l x=.agg cs)(h:ev l y=.int k m)(a:0<=m)(h1:m<len)(f:cs[m.toNat*c]? = X4 v) :
 iB P l (.index T x y) ty v:=λw o d _=>by
 simp[dw,d,cN,g,h,Instr.index,asIntOf,cl e,a,h1,part,pU b,dY hc,f]
def pW{E:ba}{len c:Nat}{cs us:Array aj}(e:P.underlying T=X4 (.array len E))(b:eX P E Z)(hc:dO P E c)(g:ev l x=.agg cs)(h:ev l y=.int k m)(a:0<=m)(h1:m<len)(f:cs.extract (m.toNat*c) (m.toNat*c+c)=us) :
 iB P l (.index T x y) ty (.agg us):=λw o d _=>by
 subst f;simp[dw,d,cN,g,h,Instr.index,asIntOf,cl e,a,h1,part,pU b,dY hc]
def oV{s:ByteArray}{b:UInt8}(e:P.underlying T=X4 .string)(f:ev l x=.string s)(g:ev l y=.int k m)(a:0<=m)(c:s[m.toNat]? = X4 b) :
 iB P l (.index T x y) ty (.int .u8 b.toNat):=λw o d _=>by
 simp[dw,d,cN,f,g,Instr.index,asIntOf,cl e,a,c]
def nK{E:ba}{A:Option Addr}{len cap c:Nat}(f:P.underlying T=X4 (.slice E))(hc:dO P E c){q:Nat}(g:ev l x=.slice A len cap)(h:ev l y=.int k m)(hq:m.toNat=q)(b:0<=m)(h1:m<=cap) :
 iB P l (.slice T x X5 (X4 y) X5) ty (.slice A q cap):=λw o d _=>by
 subst hq;have e:(if cap=0 then A else Option.map (λa=>a.add 0) A)=A:=by
  split
  .rfl
  cases A <;> simp[Addr.add]
 have i:¬(m.toNat:Int)>cap:=by omega
 simp[dw,d,cN,g,h,Instr.sliceAt,Instr.slice,Instr.sliceBounds,Instr.sliceBound,asIntOf,cl f,b,h1,dY hc];intro _;cases A <;> simp[Addr.add]
def uO{E:ba}{A a:Option Addr}{len cap c:Nat}(f:P.underlying T=X4 (.slice E))(hc:dO P E c){q:Nat}(g:ev l x=.slice A len cap)(h:ev l y=.int k m)(hq:m.toNat=q)(b:0<=m)(h1:m<=len)(d:(if cap=q then A else A.map (·.add (q*c)))=a) :
 iB P l (.slice T x (X4 y) X5 X5) ty (.slice a (len-q) (cap-q)):=λw o e _=>by
 subst hq;subst d;simp[dw,e,cN,g,h,Instr.sliceAt,Instr.slice,Instr.sliceBounds,Instr.sliceBound,asIntOf,cl f,b,h1,dY hc]
def aiS{s:ByteArray}(c:P.underlying T=X4 .string)(d:ev l x=.string s)(e:ev l y=.int k m)(a:0<=m)(h1:m<=s.size) :
 iB P l (.slice T x (X4 y) X5 X5) ty (.string (s.extract m.toNat s.size)):=λw o b _=>by
 simp[dw,b,cN,d,e,Instr.sliceAt,Instr.slice,Instr.sliceBounds,Instr.sliceBound,asIntOf,cl c,a,h1]
variable {ops:Array Oper} {Q:Exit->Act->ak->Prop} {rest:List Oper} {d:Nat} {pos:String} {after:Array Edge} {w:ak}
def tZ{E:ba}{b:Nat}{e:IntKind}{z:aj}(v:P.underlying T=X4 (.slice E))(a:(P.info? E).map (λi=>(i.size,i.bytes,i.zero))=X4 (1,b,X4 z))(D:z.cells = #[z]){q c:Nat}(A:ev l x=.int k m)(B:ev l y=.int e n)(hq:m.toNat=q)(C:n.toNat=c)(r:0<=m)(h1:m<=n)(t:n<=9223372036854775807)(s:(b:Int)*n<=281474976710656)
 (h:∀w' g,fJ w w'->w.heap.size<=g->fQ w' g (di c z) E->az P ops Q rest (Fr (l.set d (.slice (X4 ⟨g,0,X5⟩) q c)) ds) w') :
 az P ops Q (bu (X4 d) (.makeSlice T x y) ty pos after X5::rest) (Fr l ds) w:=by
 subst hq;subst C;cases hq:P.info? E with
 | none=>rw[hq] at a;cases a
 | some i =>
  rw[hq] at a;simp only[gh,ik,gl] at a;obtain⟨f,j,p⟩:=a;subst j;have hr:=run_make (P:=P) w T E i z v hq p k e m n r h1 s t;have hc:madeCells z.cells (n.toNat*i.size)=(di n.toNat z).toArray:=by
   rw[f,D,dt];apply qw;rw[toList_madeCells_one]
  rw[hc] at hr;exact mG (λo u _=>by simp[dw,u,cN,A,B,hr]) (h _ _ ((fJ.refl w).alloc _) (ar _) (iV w _ E))
def aiT(w:ak)(base:Nat)(e:ba)(size:Nat)(v:aj)(n:Nat)(xs:List aj):Prop:=w.ownsRow base e size v n xs
def aiT.row{w:ak}{base:Nat}{e:ba}{size:Nat}{v:aj}{n:Nat}{xs:List aj}(h:aiT w base e size v n xs):(v=.slice X5 0 0/\n=0/\xs=[])\/∃g cap,v=.slice (X4 ⟨g,0,X5⟩) n cap/\base<=g/\n<=cap/\cap<=maxLen/\g<w.heap.size/\kV w ⟨g,0,X5⟩ xs:=by
 rcases h.2 with ⟨rfl,rfl⟩ | ⟨g,cap,d,rfl,f,b,h1,h2,i,c⟩
 .exact .inl ⟨O,O,ft (by simpa using h.1)⟩
 refine .inr ⟨g,cap,O,f,h1,h2,(el.1 b).1,λj u a=>?_⟩
 rw[cS,ai,cell_of_row w g j d e (0,0) b];rw[<-c,d_] at a;split at a
 .simpa using a
 cases a
end
section
variable {P:bt} {ds:List ej} {l:List aj} {x y:b_} {T T' ty:ba} {k:IntKind} {m n r:Int}
def rI(a:ev l x=.int k m)(b:ev l y=.int k n)(h:m<n):iB P l (.binOp .lss T x y T') ty (.bool Z):=by
 have:=xQ (P:=P) (T:=T) (T':=T') (ty:=ty) a b;rwa [Y0 h] at this
def Gy(a:ev l x=.int k m)(b:ev l y=.int k n)(h:¬m<n):iB P l (.binOp .lss T x y T') ty (.bool X3):=by
 have:=xQ (P:=P) (T:=T) (T':=T') (ty:=ty) a b;rwa [Y h] at this
def zW(a:ev l x=.int k m)(b:ev l y=.int k n)(h:m=n):iB P l (.binOp .eql T x y T') ty (.bool Z):=by
 have:=Im (P:=P) (T:=T) (T':=T') (ty:=ty) a b;rwa [Y0 h] at this
def aac(a:ev l x=.int k m)(b:ev l y=.int k n)(h:¬m=n):iB P l (.binOp .eql T x y T') ty (.bool X3):=by
 have:=Im (P:=P) (T:=T) (T':=T') (ty:=ty) a b;rwa [Y h] at this
def rQ{c:b_}(hc:ev l c=.bool Z):iB P l (.pick c x y) ty (ev l x):=Zz hc
def zX{c:b_}(hc:ev l c=.bool X3):iB P l (.pick c x y) ty (ev l y):=Zz hc
def aqB{op:Op}{v u:aj}(h:iB P l op ty v)(e:v=u):iB P l op ty u:=e▸h
end
def pX:List aj->List Nat->(Nat->aj)->List aj
 | l,t::ts,g=>pX (l.set t (g t)) ts g
 | l,[],_=>l
def ag0{t:Nat}{ts:List Nat}{g:Nat->aj}:pX l (t::ts) g=pX (l.set t (g t)) ts g:=rfl
def atX{g:Nat->aj}:pX l [] g=l:=rfl
def ag1:∀(ts:List Nat) (l:List aj),pX l ts (l.getD · undef)=l:=by
 intro ts;have key:∀(ts:List Nat) (l:List aj) (g:Nat->aj),(∀t,l.set t (g t)=l)->pX l ts g=l:=by
  intro ts
  induction ts with
  | nil=>intro l g _;rfl
  | cons t ts ih=>intro l g h;rw[ag0,h t];exact ih l g h
 exact λl=>key ts l _ λt=>abD
section
variable {P:bt} {ds:List ej} {l:List aj}
def afE{c:Code}{Q:Exit->Act->ak->Prop}{w:ak}(ts ss:List Nat)(I:Nat->List aj->ak->Prop)(i:∃n,I n (ts.map (l.getD · undef)) w)
 (hr:∀n vs w,I n vs w->∀g:Nat->aj,c.wp P (Exit.then (λk w'=>∃n' b,n'<n/\k=Fr b/\pX (fH l ts (ts.map (b.getD · undef))) ss (b.getD · undef)=b/\I n' (ts.map (b.getD · undef)) w') Q) (Fr (pX (fH l ts vs) ss g)) w):(Code.loop c).wp P Q (Fr l) w:=by
 obtain⟨q,i⟩:=i
 let J:Nat->Act->ak->Prop:=λn a w=>∃vs g,a=Fr (pX (fH l ts vs) ss g)/\I n vs w
 have t:∃n,J n (Fr l) w:=⟨q,_,(l.getD · undef),by rw[Iq,ag1],i⟩
 let d:Act->ak->Nat:=λa w=>@dite _ (∃n,J n a w) (Classical.propDecidable _) (λh=>Qy (λn=>J n a w) h) (λ_=>0)
 refine wp_loop (λa w=>∃n,J n a w) d t ?_;intro a w j;obtain⟨vs,g,rfl,s⟩:=abE j;refine Code.wp_mono ?_ (hr _ vs w s g);intro e k w' hq;cases e with
 | normal =>
  obtain⟨n',b,u,rfl,p,r⟩:=hq;have f:J n' (Fr b) w':=⟨_,(b.getD · undef),by rw[p],r⟩
  refine⟨⟨n',f⟩,?_⟩;have m:d (Fr b) w'=Qy (λn=>J n (Fr b) w') ⟨n',f⟩:=by simp only[d];rw[dif_pos ⟨n',f⟩]
  have o:d (Fr (pX (fH l ts vs) ss g)) w=Qy (λn=>J n (Fr (pX (fH l ts vs) ss g)) w) j:=by simp only[d];rw[dif_pos j]
  rw[m,o];exact oo (agZ _ f) u
 | exit id=>exact hq
 | goto id=>exact hq
 | ret=>exact hq
 | panic v=>exact hq
 | outgrown=>exact hq
end
section
variable {P:bt} {ds:List ej} {l:List aj} {ops:Array Oper} {Q:Exit->Act->ak->Prop} {w:ak} {rest:List (Oper × Bool)} {d:Nat} {op:Op} {ty:ba} {pos:String} {after:Array Edge} {v:aj}
def bS{Q:Exit->Act->ak->Prop}(h:∀c (t:Array aj) ds (b:Array aj) w,Q (.panic c) { tmps:=t,defers:=ds } w->Q (.panic c) { tmps:=b,defers:=ds } w):∀c d v a w,Q (.panic c) (Act.put a d v) w->Q (.panic c) a w:=by
 intro c d v a w hq;cases d with
 | none=>exact hq
 | some d=>exact h c _ _ _ w hq
end
end
section
variable{B x i n k a d cap c q:Nat}{xs ys os:List Nat}{m s:Int}{w:ak}
/-! ### Digits -/
def val(B:Nat):List Nat->Nat
 | []=>0
 | x::xs=>x+B*val B xs
def trim:List Nat->List Nat
 | []=>[]
 | x::xs=>if trim xs=[]/\x=0 then [] else x::trim xs
def eS(B:Nat)(xs:List Nat):Prop:=∀x∈xs,x<B
theorem kP(B:Nat):∀xs ys:List Nat,val B (xs++ys)=val B xs+B^xs.length*val B ys
 | [],ys=>by simp[val]
 | x::xs,ys=>by simp only[cq,val,kP B xs ys,ay,jn];grind
theorem Gz{B:Nat}:∀{xs:List Nat},eS B xs->val B xs<B^xs.length
 | [],_=>by simp[val]
 | x::xs,h=>by
  have h1:x<B:=h x (by simp);have h2:=Gz (xs:=xs) λy b=>h y (by simp[b]);simp only[val,ay,jn];have a:val B xs+1<=B^xs.length:=h2;have:=lc B a
  grind
def Is(B:Nat):∀xs:List Nat,val B (trim xs)=val B xs
 | []=>rfl
 | x::xs=>by
  have ih:=Is B xs;simp only[trim];split
  .rename_i h;rw[h.1] at ih;simp only[val] at ih ⊢;rw[<-ih,h.2];simp
  simp only[val,ih]
def kJ:∀xs:List Nat,trim xs=xs.take (trim xs).length
 | []=>rfl
 | x::xs=>by
  simp only[trim];split
  .rfl
  simp only[ay,lw];rw[<-kJ xs]
def eS.take(h:eS B xs)(n:Nat):eS B (xs.take n):=λx a=>h x (nj a)
def eS.trim{B:Nat}{xs:List Nat}(h:eS B xs):eS B (trim xs):=by rw[kJ];exact h.take _
def eS.append(h:eS B xs)(k:eS B ys):eS B (xs++ys):=λx a=>by
 rcases bh.1 a with h' | h'
 .exact h x h'
 exact k x h'
def mV(B:Nat):eS B []:=λ_ h=>by cases h
def xT(a:x<B)(h:eS B xs):eS B (x::xs):=λy b=>by
 rcases ap.1 b with rfl | h'
 .exact a
 exact h y h'
def eS.set(h:eS B xs)(b:x<B):eS B (xs.set i x):=λy c=>by
 rcases jp c with a | rfl
 .exact h y a
 exact b
def eS.get(h:eS B xs)(a:xs[i]? = X4 x):x<B:=h x (bf a)
def gZ(xs:List Nat):Prop:=trim xs=xs
def Wv:∀xs:List Nat,trim (trim xs)=trim xs
 | []=>rfl
 | x::xs=>by
  have ih:=Wv xs;simp only[trim];split
  .rfl
  rename_i h;simp only[trim,ih];rw[X h]
def Iu(xs:List Nat):gZ (trim xs):=Wv xs
def gZ.tail(h:gZ (x::xs)):gZ xs:=by
 unfold gZ at *
 simp only[trim] at h;split at h
 .cases h
 simpa using h
def Iv{B:Nat}(a:0<B):∀{xs:List Nat},gZ xs->xs≠[]->0<val B xs
 | [],_,h=>Z8 rfl h
 | x::xs,b,_=>by
  simp only[val];by_cases c:xs=[]
  . subst c
    have:x≠0:=by
     rintro rfl;simp[gZ,trim] at b
    omega
  have:=Nat.mul_pos a (Iv a b.tail c)
  omega
def Cm{B:Nat}(f:1<B):∀{xs ys:List Nat},eS B xs->eS B ys->gZ xs->gZ ys->val B xs=val B ys->xs=ys
 | [],[],_,_,_,_,_=>rfl
 | [],y::ys,_,_,_,b,h=>by have:=Iv (B:=B) (by omega) b (by simp);rw[<-h] at this;simp[val] at this
 | x::xs,[],_,_,a,_,h=>by have:=Iv (B:=B) (by omega) a (by simp);rw[h] at this;simp[val] at this
 | x::xs,y::ys,a,b,g,ty,h=>by
  simp only[val] at h;have h1:x<B:=a x (by simp);have h2:y<B:=b y (by simp);have d:x=y:=by
   have:=C (· % B) h;simpa[Nat.add_mul_mod_self_left,lg h1,lg h2] using this
  subst d;have e:val B xs=val B ys:=by
   have:B*val B xs=B*val B ys:=by omega
   exact Nat.eq_of_mul_eq_mul_left (by omega) this
  rw[Cm f (λz c=>a z (by simp[c])) (λz c=>b z (by simp[c])) g.tail ty.tail e]
def Ww(B:Nat):Nat->Nat->List Nat
 | 0,_=>[]
 | f+1,n=>if n=0 then [] else (n%B)::Ww B f (n / B)
def digs(B n:Nat):List Nat:=Ww B n n
def zY{B:Nat}(b:1<B):∀(f n:Nat),n<=f->val B (Ww B f n)=n/\eS B (Ww B f n)/\gZ (Ww B f n)
 | 0, n, h => by
  obtain rfl:n=0 := by omega
  exact⟨O,mV B,O⟩
 | f+1,n,h=>by
  simp only[Ww];split
  .rename_i a;exact⟨by simp[val,a],mV B,O⟩
  rename_i a
  have g:n / B<=f:=by
   have:=Nat.div_lt_self (Nat.pos_of_ne_zero a) b;omega
  obtain⟨h1,h2,c⟩:=zY b f (n / B) g;refine⟨by simp only[val,h1];exact Nat.mod_add_div n B,xT (lh _ (by omega)) h2,?_⟩;unfold gZ at *
  simp only[trim,c];rw[X];rintro⟨d,e⟩;rw[d] at h1;simp only[val] at h1;have:=Nat.mod_add_div n B;rw[e,<-h1] at this;omega
def sD(a:1<B)(n:Nat):val B (digs B n)=n:=(zY a n n (ar _)).1
def uP(a:1<B)(n:Nat):eS B (digs B n):=(zY a n n (ar _)).2.1
def pY(a:1<B)(n:Nat):gZ (digs B n):=(zY a n n (ar _)).2.2
def pZ(a:1<B)(h:eS B xs)(b:val B xs=n):trim xs=digs B n :=
 Cm a h.trim (uP a n) (Iu xs) (pY a n) (by rw[Is,sD a,b])
def wI(a:1<B):digs B n=[]↔n=0:=by
 constructor
 .intro h;rw[<-sD a n,h];rfl
 rintro rfl;rfl
theorem kX(b:1<B)(h:n<B^k):(digs B n).length<=k:=by
 rcases eh k (digs B n).length with d | hge
 . exfalso
   have g:(digs B n)≠[]:=by intro f;rw[f] at d;simp at d
   -- the greatest digit is not 0
   have key:∀xs:List Nat,gZ xs->xs≠[]->B^(xs.length-1)<=val B xs:=by
    intro xs
    induction xs with
    | nil=>intro _ h;exact Z8 O h
    | cons x xs ih =>
     intro c _;by_cases a:xs=[]
     . subst a
       have:=Iv (B:=B) (by omega) c (by simp);simp[val] at this ⊢;omega
     have:=ih c.tail a
     have h2:xs.length≠0:=by simpa using a
     simp only[ay,val,im];have e:xs.length=(xs.length-1)+1:=by omega
     rw[e,jn];have:=lc B this
     grind
   have:=key _ (pY b n) g;rw[sD b] at this;have i:B^k<=B^((digs B n).length-1):=jz (by omega) (by omega);omega
 exact hge
/-! ### Numbers as values -/
def dH(n:Int):Bool:=decide (n<0)
def mO(n:Nat):List UInt8:=(digs 256 n).reverse.map fa
def eC(n:Int):ByteArray:=⟨(mO n.natAbs).toArray⟩
def W(n:Int):aj:=.agg #[.bool (dH n),.string (eC n)]
def Bd(k:Nat)(n:Int):Prop:=n.natAbs<2^k
def Bd.mono{b:Nat}{n:Int}(h:Bd a n)(c:a<=b):Bd b n:=gw h (jz (by omega) c)
def Bd.neg{n:Int}(h:Bd a n):Bd a (-n):=by unfold Bd at *;rwa [Int.natAbs_neg]
def Bd.add{b:Nat}{n:Int}(h:Bd a m)(k:Bd b n):Bd (max a b+1) (m+n):=by
 unfold Bd at *
 have h1:(m+n).natAbs<=m.natAbs+n.natAbs:=Int.natAbs_add_le m n;have h2:2^a<=2^max a b:=jz (by omega) (Nat.le_max_left a b);have c:2^b<=2^max a b:=jz (by omega) (Nat.le_max_right a b);rw[jn];omega
def Bd.sub{b:Nat}{n:Int}(h:Bd a m)(k:Bd b n):Bd (max a b+1) (m-n):=by rw[Int.sub_eq_add_neg];exact h.add k.neg
def Bd.mul{b:Nat}{n:Int}(h:Bd a m)(k:Bd b n):Bd (a+b) (m*n):=by
 unfold Bd at *
 rw[Int.natAbs_mul,pj];exact Nat.mul_lt_mul_of_lt_of_lt h k
def Bd.of_i64{n:Int}(a : -9223372036854775808<=n)(h1:n<=9223372036854775807):Bd 64 n:=by
 unfold Bd;omega
def Pt(k:Nat):Bd k 0:=by unfold Bd;exact Nat.two_pow_pos k
def Wx(n:Int):(eC n).size=(digs 256 n.natAbs).length:=by simp[eC,ByteArray.size,mO]
def aad{n:Int}(h:Bd k n):(eC n).size<=k:=by
 rw[Wx];refine kX (by omega) (gw h ?_);rw[show 256=2^8 from rfl,<-pk];exact jz (by omega) (by omega)
def abF{m:Nat}(h:mO m=mO n):m=n:=by
 have key:∀k,val 256 (((mO k).map jq).reverse)=k:=by
  intro k;have e:((mO k).map jq).reverse=digs 256 k:=by
   unfold mO;rw[List.map_map,<-List.map_reverse,List.reverse_reverse];have:∀x∈digs 256 k,(jq∘fa) x=x:=by
    intro x a;have:=uP (B:=256) (by omega) k x a;simp;omega
   exact (io this).trans (List.map_id' _)
  rw[e,sD (by omega)]
 rw[<-key m,<-key n,h]
def atY{n:Int}(h:W m=W n):m=n:=by
 simp only[W,Value.agg.injEq,Array.mk.injEq,mr,Value.bool.injEq,Value.string.injEq,Y2] at h;obtain⟨h1,h2⟩:=h;have a:m.natAbs=n.natAbs:=by
  have:mO m.natAbs=mO n.natAbs:=by simpa[eC] using h2
  exact abF this
 unfold dH at h1;have:(m<0)↔(n<0):=by simpa using h1
 omega
structure kY(w:ak)(A:Option Addr)(n cap:Nat)(xs:List Nat):Prop where
 eq:n=xs.length
 row:∀(i x:Nat),xs[i]? = X4 x->∃a,A=X4 a/\w.cell? (a.add i)=X4 (.int .u64 (x:Int))
 le:xs.length<=cap
 cap:cap<=9223372036854775807
 len:xs.length<=17592186044416
 digs:eS 4294967296 xs
section
variable {w:ak} {A:Option Addr} {n cap:Nat} {xs:List Nat}
def kY.ext{w':ak}(h:kY w A n cap xs)(b:fJ w w'):kY w' A n cap xs :=
 ⟨h.eq,λi x c=>let ⟨a,e,hc⟩:=h.row i x c;⟨a,e,b.cell hc⟩,h.le,h.cap,h.len,h.digs⟩
def kY.take(h:kY w A n cap xs)(k:Nat):kY w A (xs.take k).length cap (xs.take k) :=
 ⟨rfl,λi x a=>h.row i x (by rw[d_] at a;split at a;exact a;cases a),be (by simp;omega) h.le,h.cap,be (by simp;omega) h.len,h.digs.take k⟩
def kY.get(h:kY w A n cap xs){i:Nat}(b:i<xs.length):∃a,A=X4 a/\w.cell? (a.add i)=X4 (.int .u64 ((xs[i]:Nat):Int))/\xs[i]<4294967296 :=
 let ⟨a,e,hc⟩:=h.row i xs[i] (am b);⟨a,e,hc,h.digs _ (gj b)⟩
def kY.as(h:kY w A n cap xs){ys:List Nat}(e:xs=ys):kY w A n cap ys:=e▸h
end
def qA:∀ys:List Nat,trim (ys++[0])=trim ys
 | []=>by simp[trim]
 | y::ys=>by simp only[cq,trim,qA ys]
def wW{x:Nat}(a:x≠0):∀ys:List Nat,trim (ys++[x])=ys++[x]
 | []=>by simp[trim,a]
 | y::ys=>by simp only[cq,trim,wW a ys];rw[X (by simp)]
def Ls(a:0<k)(h:k-1<xs.length):xs.take k=xs.take (k-1)++[xs[k-1]]:=by
 have e:k=(k-1)+1:=by omega
 conv=>lhs;rw[e]
 rw[List.take_succ_eq_append_getElem h]
def Wy(a:0<k)(h:k-1<xs.length)(c:((xs[k-1]:Nat):Int)=0)(b:trim (xs.take k)=trim xs):trim (xs.take (k-1))=trim xs:=by
 rw[<-b,Ls a h,show xs[k-1]=0 by omega,qA]
def abG(a:0<k)(h:k-1<xs.length)(c:¬((xs[k-1]:Nat):Int)=0)(b:trim (xs.take k)=trim xs):k=(trim xs).length:=by
 rw[<-b,Ls a h,wW (by omega)];simp;omega
def abH(a:trim (xs.take 0)=trim xs):0=(trim xs).length:=by rw[<-a];rfl
/-! ### Words in a block -/
abbrev Lu(x:Nat):aj:=.int .u64 (x:Int)
def mW(a:i<os.length):over (os.map Lu) i [Lu d]=(os.set i d).map Lu:=by
 unfold over;rw[List.set_eq_take_append_cons_drop,J a];simp[List.map_take,List.map_drop]
def oD(n:Nat):di n (my .u64 0)=(di n 0).map Lu:=by simp[Lu]
def fQ.word{g:Nat}{t:ba}(h:fQ w g (os.map Lu) t)(a:i<os.length):w.cell? ⟨g,i,X5⟩=X4 (.int .u64 ((os[i]:Nat):Int)) :=
 h.cell (by simp[a])
def fQ.nat{g:Nat}{t:ba}(h:fQ w g (os.map Lu) t)(a:eS 4294967296 os)(c:n=os.length)(d:n<=17592186044416):kY w (X4 ⟨g,0,X5⟩) n n os :=
 ⟨c,λi x b=>⟨_,rfl,by rw[cS,ai];exact h.cell (by simp[b])⟩,by omega,by omega,by omega,a⟩
def rJ(n:Nat)(v:aj)(w:ak):Prop:=∃A cap,v=.slice A (digs 4294967296 n).length cap/\kY w A (digs 4294967296 n).length cap (digs 4294967296 n)
def rJ.of_trim{A:Option Addr}(h:kY w A k cap xs)(b:val 4294967296 xs=n):rJ n (.slice A (trim xs).length cap) w:=by
 have e:trim xs=digs 4294967296 n:=pZ (by omega) h.digs b;refine⟨A,cap,by rw[e],?_⟩;have a:=h.take (trim xs).length;rw[<-kJ,e] at a;exact a
def xU(w:ak)(v:aj):Prop:=∀a n c,v=.slice (X4 a) n c->w.heap.size<=a.block
def xU.of_blk{g off:Nat}(h:w.heap.size<=g):xU w (.slice (X4 ⟨g,off,X5⟩) n c):=λa n' b e=>by cases e;exact h
def Es(a:Addr)(i:Nat):(a.add i).block=a.block:=by unfold Addr.add;split <;> rfl
/-! ### Sums of digits -/
theorem wJ{B:Nat}:∀{os:List Nat} {j d:Nat} (a:j<os.length),val B (os.set j d)+B^j*os[j]=val B os+B^j*d
 | x::xs,0,d,_=>by simp[val];omega
 | x::xs,j+1,d,h=>by
  have ih:=wJ (B:=B) (os:=xs) (j:=j) (d:=d) (by simpa using h);simp only[gn,val,List.getElem_cons_succ,jn];have:=C (B * ·) ih;simp only[pm] at this
  grind
def mC(B n:Nat):val B (di n 0)=0:=by
 induction n with
 | zero=>rfl
 | succ n ih=>simp[List.replicate_succ,val,ih]
def eL(a:i<xs.length):val B (xs.take (i+1))=val B (xs.take i)+B^i*xs[i]:=by
 rw[List.take_succ_eq_append_getElem a,kP,bj,ij (by omega)];simp[val]
def pF(a:xs.length<=i):val B (xs.take i)=val B xs:=by rw[au a]
def rR   : (os.set i d).drop (i+1)=os.drop (i+1):=by
 apply fz;intro j;simp only[dl];rw[lo (by omega)]
def oE(h:os.drop i=di n 0)(a:i<os.length):os[i]=0/\os.drop (i+1)=di (n-1) 0:=by
 rw[fj a] at h;cases n with
 | zero=>cases h
 | succ n=>simp only[List.replicate_succ,mr] at h;exact⟨h.1,by simpa using h.2⟩
theorem abI{B:Nat}{os:List Nat}{i d c a s t T:Nat}(b:i<os.length)(hs:os[i]+s+c=d+B*a)(e:val B os+B^i*c=T)(f:T+B^i*s=t) :
 val B (os.set i d)+B^(i+1)*a=t:=by
 have h1:=wJ (B:=B) (d:=d) b;have h2:=C (B^i * ·) hs;simp only[pm] at h2;rw[jn]
 grind
/-! ### Order -/
def ord(a b:Nat):Int:=if a<b then -1 else if b<a then 1 else 0
def Gi(g:1<B)(d:eS B xs)(e:k<xs.length)(f:k<ys.length)(c:xs.drop (k+1)=ys.drop (k+1))(h:xs[k]<ys[k]):val B xs<val B ys:=by
 have a:val B xs=val B (xs.take (k+1))+B^(k+1)*val B (xs.drop (k+1)):=by
  conv=>lhs;rw[<-m_ (k+1) xs]
  rw[kP,bj,ij (by omega)]
 have b:val B ys=val B (ys.take (k+1))+B^(k+1)*val B (ys.drop (k+1)):=by
  conv=>lhs;rw[<-m_ (k+1) ys]
  rw[kP,bj,ij (by omega)]
 rw[a,b,c,eL e,eL f];have h1:=Gz (d.take k);rw[bj,ij (by omega)] at h1;have h2:B^k*(xs[k]+1)<=B^k*ys[k]:=lc _ h;rw[pm] at h2;omega
def nL(a:1<B)(b:eS B xs)(c:eS B ys)(ty:gZ ys)(h:xs.length<ys.length):val B xs<val B ys:=by
 rcases eh (val B xs) (val B ys) with d | hge
 .exact d
 exfalso
 have e:ys=digs B (val B ys):=Cm a c (uP a _) ty (pY a _) (by rw[sD a]);have h1:val B ys<B^xs.length:=oo hge (Gz b);have h2:=kX a h1;rw[<-e] at h2;omega
/-! ### The machine's numbers -/
def mD(x:Int):IntKind.u64.wrap x=x%18446744073709551616:=by simp[ou,ov,ni]
def sE(c:0<=s)(h1:s<18446744073709551616):IntKind.u64.wrap ((eo IntKind.u64.bits s &&& eo IntKind.u64.bits 4294967295).toNat:Int)=s%4294967296:=by
 obtain⟨n,rfl⟩:=Int.eq_ofNat_of_zero_le c;have d:n<18446744073709551616:=by omega
 have e:(eo 64 (n:Int) &&& eo 64 4294967295).toNat=n%4294967296:=by
  rw[BitVec.toNat_and];have a:(eo 64 (n:Int)).toNat=n:=by simp[qi];omega
  have b:(eo 64 4294967295).toNat=2^32-1:=by decide
  rw[a,b,Nat.and_two_pow_sub_one_eq_mod]
 show IntKind.u64.wrap ((eo 64 (n:Int) &&& eo 64 4294967295).toNat:Int)=_
 rw[e,xS (by omega) (by omega)];omega
def Wz(a:0<=s):s.fdiv (2^(min (32:Int).toNat IntKind.u64.bits))=s / 4294967296:=by
 show s.fdiv (2^32)=_
 rw[ip _ (by decide)];rfl
def apH(a:0<=s):s.fdiv (2^(min (63:Int).toNat IntKind.u64.bits))=s / 9223372036854775808:=by
 show s.fdiv (2^63)=_
 rw[ip _ (by decide)];rfl
/-! ### Addresses of words -/
def tL{a:Addr}(h:m.toNat=q):a.add (m.toNat*1)=a.add q:=by rw[h,dt]
def tM{a:Addr}(h:m.toNat=q):a.add (m.toNat*c)=a.add (q*c):=by rw[h]
def uZ{g:Nat}(h:m.toNat=q):(⟨g,0,X5⟩:Addr).add (m.toNat*1)=⟨g,q,X5⟩:=by rw[h,dt,cS,ai]
def Ha{g:Nat}(h:m.toNat=q):(⟨g,0,X5⟩:Addr).add (m.toNat*c)=⟨g,q*c,X5⟩:=by rw[h,cS,ai]
def kY.at{a:Addr}(h:kY w (X4 a) n cap xs)(b:i<xs.length):w.cell? (a.add i)=X4 (.int .u64 ((xs[i]:Nat):Int)):=by
 obtain⟨c,e,hc⟩:=h.row i xs[i] (am b);cases e;exact hc
/-! ### Rounds -/
def aiU(b:eS 4294967296 xs)(e:0<k)(c:k-1<xs.length)(d:k-1<ys.length)(a:xs.drop k=ys.drop k)(h:((xs[k-1]:Nat):Int)<((ys[k-1]:Nat):Int)):val 4294967296 xs<val 4294967296 ys :=
 Gi (by omega) b c d (by rw[show k-1+1=k by omega];exact a) (by omega)
def ag2(d:0<k)(b:k-1<xs.length)(c:k-1<ys.length)(a:xs.drop k=ys.drop k)(h1:¬((xs[k-1]:Nat):Int)<((ys[k-1]:Nat):Int))(h2:¬((ys[k-1]:Nat):Int)<((xs[k-1]:Nat):Int)):xs.drop (k-1)=ys.drop (k-1):=by
 rw[fj b,fj c,show k-1+1=k by omega,a,show xs[k-1]=ys[k-1] by omega]
def Et{os xs ys:List Nat}{i c s:Nat}(d:i<xs.length)(l:os.length=xs.length+1)(e:val 4294967296 os+4294967296^i*c=val 4294967296 (xs.take i)+val 4294967296 (ys.take i))(f:os.drop i=di (xs.length+1-i) 0)(b:eS 4294967296 os)(hc:c<=1)
 (hs:s=xs[i]+c+ys[i]?.getD 0) (j:xs[i]<4294967296) (k:ys[i]?.getD 0<4294967296) :
 val 4294967296 (os.set i (s%4294967296))+4294967296^(i+1)*(s / 4294967296)=val 4294967296 (xs.take (i+1))+val 4294967296 (ys.take (i+1))/\(os.set i (s%4294967296)).drop (i+1)=di (xs.length+1-(i+1)) 0/\eS 4294967296 (os.set i (s%4294967296))/\s / 4294967296<=1:=by
 obtain⟨g,h⟩:=oE f (by omega);refine⟨?_,?_,b.set (lh _ (by omega)),by omega⟩
 . refine abI (s:=xs[i]+ys[i]?.getD 0) (by omega) (by rw[g];omega) e ?_
   rw[eL d];by_cases a:i<ys.length
   . rw[eL a,am a]
     simp only[dx,pm];omega
   rw[cg (by omega),pF (xs:=ys) (i:=i+1) (by omega),pF (xs:=ys) (i:=i) (by omega)]
   simp;omega
 rw[rR,h]
 congr 1
def Pu{os xs ys:List Nat}{c:Nat}(f:ys.length<=xs.length)(g:os.length=xs.length+1)(a:val 4294967296 os+4294967296^xs.length*c=val 4294967296 (xs.take xs.length)+val 4294967296 (ys.take xs.length))(b:os.drop xs.length=di (xs.length+1-xs.length) 0) :
 val 4294967296 (os.set xs.length c)=val 4294967296 xs+val 4294967296 ys:=by
 obtain⟨e,_⟩:=oE b (by omega);have h:=wJ (B:=4294967296) (d:=c) (show xs.length<os.length by omega);rw[e] at h;rw[fq,pF f] at a;omega
theorem Xa{os xs ys:List Nat}{i c s:Nat}(f:i<xs.length)(n:os.length=xs.length)(k:val 4294967296 os+val 4294967296 (ys.take i)=val 4294967296 (xs.take i)+4294967296^i*c)(g:os.drop i=di (xs.length-i) 0)(e:eS 4294967296 os)(hc:c<=1)
 (hs:(s:Int)=((xs[i]:Nat)-(c:Nat)-(ys[i]?.getD 0:Nat):Int)%18446744073709551616) (l:xs[i]<4294967296) (m:ys[i]?.getD 0<4294967296) :
 val 4294967296 (os.set i (s%4294967296))+val 4294967296 (ys.take (i+1))=val 4294967296 (xs.take (i+1))+4294967296^(i+1)*(s / 9223372036854775808)/\(os.set i (s%4294967296)).drop (i+1)=di (xs.length-(i+1)) 0/\eS 4294967296 (os.set i (s%4294967296))/\s / 9223372036854775808<=1:=by
 obtain⟨h,j⟩:=oE g (by omega);have key:xs[i]+4294967296*(s / 9223372036854775808)=s%4294967296+c+ys[i]?.getD 0:=by omega
 refine⟨?_,?_,e.set (lh _ (by omega)),by omega⟩
 . have h1:=wJ (B:=4294967296) (d:=s%4294967296) (show i<os.length by omega)
   rw[h] at h1;have h2:=C (4294967296^i * ·) key;simp only[pm] at h2;rw[eL f,jn];have b:val 4294967296 (ys.take (i+1))=val 4294967296 (ys.take i)+4294967296^i*ys[i]?.getD 0:=by
    by_cases a:i<ys.length
    .rw[eL a,am a];rfl
    rw[cg (by omega),pF (xs:=ys) (i:=i+1) (by omega),pF (xs:=ys) (i:=i) (by omega)];rfl
   rw[b]
   grind
 rw[rR,j]
 congr 1
def ank{os xs ys:List Nat}{c:Nat}(d:ys.length<=xs.length)(e:os.length=xs.length)(a:eS 4294967296 os)(b:val 4294967296 os+val 4294967296 (ys.take xs.length)=val 4294967296 (xs.take xs.length)+4294967296^xs.length*c)(f:val 4294967296 ys<=val 4294967296 xs) :
 val 4294967296 os=val 4294967296 xs-val 4294967296 ys:=by
 rw[fq,pF d] at b;have h:=Gz a;rw[e] at h;have hc:c=0:=by
  rcases ji c with h0 | h0
  .exact h0
  have:=lc (4294967296^xs.length) h0
  omega
 subst hc;omega
theorem ag3{os xs ys:List Nat}{i k c s:Nat}(d:i<xs.length)(a:k<ys.length)(e:os.length=xs.length+ys.length)(b:val 4294967296 os+4294967296^(i+k)*c=val 4294967296 (xs.take i)*val 4294967296 ys+4294967296^i*(xs[i]*val 4294967296 (ys.take k)))
 (hs:s=os[i+k]+xs[i]*ys[k]+c):val 4294967296 (os.set (i+k) (s%4294967296))+4294967296^(i+(k+1))*(s / 4294967296)=val 4294967296 (xs.take i)*val 4294967296 ys+4294967296^i*(xs[i]*val 4294967296 (ys.take (k+1))):=by
 refine abI (s:=xs[i]*ys[k]) (i:=i+k) (by omega) (by omega) b ?_;rw[eL a,pj]
 grind
def Oa{j:Nat}(h:i<j):(os.set i d).drop j=os.drop j:=by
 apply fz;intro m;simp only[dl];rw[lo (by omega)]
theorem anl{os xs ys:List Nat}{i c:Nat}(a:i<xs.length)(j:os.length=xs.length+ys.length)(b:val 4294967296 os+4294967296^(i+ys.length)*c=val 4294967296 (xs.take i)*val 4294967296 ys+4294967296^i*(xs[i]*val 4294967296 (ys.take ys.length)))(e:os.drop (i+ys.length)=di (xs.length-i) 0) :
 val 4294967296 (os.set (i+ys.length) c)=val 4294967296 (xs.take (i+1))*val 4294967296 ys/\(os.set (i+ys.length) c).drop (i+1+ys.length)=di (xs.length-(i+1)) 0:=by
 obtain⟨f,g⟩:=oE e (by omega);have h:=wJ (B:=4294967296) (d:=c) (show i+ys.length<os.length by omega);rw[f] at h;rw[fq] at b;refine⟨?_,?_⟩
 . rw[eL a]
   grind
 rw[show i+1+ys.length=i+ys.length+1 by omega,rR,g]
 congr 1
def aqC{y:Nat}(a:x<4294967296)(b:y<4294967296):x*y<=18446744065119617025:=by
 have:=lz (nl a) (nl b);omega
def anm{y:Nat}(a:x<4294967296)(b:y<4294967296):(0:Int)<=(x:Int)*(y:Int)/\(x:Int)*(y:Int)<=18446744065119617025:=by
 have h:=aqC a b;have e:((x*y:Nat):Int)=(x:Int)*(y:Int):=mw x y;rw[<-e];omega
/-! ### Shifts,divisions by a word -/
def ann{m:Nat}(b:n<64)(h:m*2^n<18446744073709551616):IntKind.u64.wrap ((m:Int)*2^(min (n:Int).toNat IntKind.u64.bits))=((m*2^n:Nat):Int):=by
 have e:min (n:Int).toNat IntKind.u64.bits=n:=by
  show min (n:Int).toNat 64=n
  rw[ah];omega
 rw[e];have a:((m:Int)*2^n)=((m*2^n:Nat):Int):=by simp
 rw[a];exact xS (by omega) (by omega)
def aqD{b s:Nat}(g:a<2^s)(i:b=2^s*c)(h:a+b<18446744073709551616):IntKind.u64.wrap ((eo IntKind.u64.bits (a:Int) ||| eo IntKind.u64.bits (b:Int)).toNat:Int)=((a+b:Nat):Int):=by
 have e:(eo 64 (a:Int) ||| eo 64 (b:Int)).toNat=a+b:=by
  rw[BitVec.toNat_or];have d:(eo 64 (a:Int)).toNat=a:=by simp[qi];omega
  have f:(eo 64 (b:Int)).toNat=b:=by simp[qi];omega
  rw[d,f,Nat.or_comm,i,<-Nat.two_pow_add_eq_or_of_lt g];omega
 show IntKind.u64.wrap ((eo 64 (a:Int) ||| eo 64 (b:Int)).toNat:Int)=_
 rw[e];exact xS (by omega) (by omega)
def ano{b s:Nat}(d:a<2^s)(e:b=2^s*c)(h:a+b<18446744073709551616):IntKind.u64.wrap ((eo IntKind.u64.bits (b:Int) ||| eo IntKind.u64.bits (a:Int)).toNat:Int)=((a+b:Nat):Int):=by
 have:=aqD d e h;rwa [BitVec.or_comm] at this
def afF{s:Nat}(h:s<18446744073709551616):IntKind.u64.wrap ((eo IntKind.u64.bits (s:Int) &&& eo IntKind.u64.bits 4294967295).toNat:Int)=((s%4294967296:Nat):Int):=by
 rw[sE (by omega) (by omega)];omega
def afG{m:Nat}(h:m<18446744073709551616):IntKind.u64.wrap ((m:Int).tdiv (n:Int))=((m / n:Nat):Int):=by
 rw[<-Int.ofNat_tdiv];have:m / n<=m:=Nat.div_le_self m n;generalize m / n=q at *
 exact xS (by omega) (by omega)
def qB{m:Nat}:(m:Int).tmod (n:Int)=((m%n:Nat):Int):=(Int.ofNat_tmod m n).symm
def Vr(a:0<k)(h:k-1<xs.length):val B (xs.drop (k-1))=xs[k-1]+B*val B (xs.drop k):=by
 rw[fj h,show k-1+1=k by omega];rfl
end
section
open Go.RowKit
section
variable {P:bt} {ds:List ej} {l:List aj} {x y z0:b_} {T T' ty:ba}
def abK{A:Option Addr}{n c:Nat}{E:ba}(d:P.underlying T=X4 (.slice E))(e:ev l x=.slice A n c)(f:ev l y=.slice X5 0 0):iB P l (.binOp .eql T x y T') ty (.bool A.isNone):=λw o b _=>by
 obtain⟨D,a⟩:∃D,Op.maxDepth=D+1:=⟨9999,rfl⟩
 cases A <;> simp[dw,b,cN,e,f,eqGuard,binOp,Op.equal,a,Op.equalIn,cl d]
variable {ops:Array Oper} {Q:Exit->Act->ak->Prop} {rest:List Oper} {d:Nat} {pos:String} {after:Array Edge} {w:ak}
def aae:rp (λ(_:Nat)=>(default:aj)) (qm 0) = #[]:=l_ (by simp)
def aaf(z v:aj):(rp (λx=>[z][x%1]?.getD default) (qm 1)).setIfInBounds 0 v = #[v]:=by
 apply rq (by simp);intro i h1 h2;obtain rfl:i=0:=by simpa using h2
 simp
def Iy(z v v2:aj):((rp (λx=>[z][x%1]?.getD default) (qm 2)).setIfInBounds 0 v).setIfInBounds 1 v2 = #[v,v2]:=by
 apply rq (by simp);intro i h1 h2;have a:i<2:=by simpa using h2
 rcases eh i 1 with h | h
 . obtain rfl:i=0:=by omega
   simp
 obtain rfl:i=1:=by omega
 simp
def Qz{E:ba}{c:Nat}(e:P.underlying T=X4 (.slice E))(a:(P.info? E).map (λi=>i.size)=X4 c)
 (h:∀w' g,fJ w w'->w.heap.size<=g->fQ w' g [] E->az P ops Q rest (Fr (l.set d (.slice (X4 ⟨g,0,X5⟩) 0 0)) ds) w') :
 az P ops Q (bu (X4 d) (.buildSlice T 0 #[]) ty pos after X5::rest) (Fr l ds) w:=by
 cases hq:P.info? E with
 | none=>rw[hq] at a;cases a
 | some i =>
  exact mG (w':=w.alloc (.cells #[] E)) (v:=.slice (X4 ⟨w.heap.size,0,X5⟩) 0 0) (λo b _=>by simp[dw,b,Instr.buildSlice,cl e,sizeOf,typeInfo,hq,Instr.fill,newRow,newObj,Sem.run,aae]) (h _ _ ((fJ.refl w).alloc _) (ar _) (iV w [] E))
def gB{E:ba}{z:aj}(f:P.underlying T=X4 (.slice E))(a:(P.info? E).map (λi=>(i.size,i.zero))=X4 (1,X4 z))(m:z.cells = #[z]){v:aj}(k:ev l x=v)(j:v.cells = #[v])
 (h:∀w' g,fJ w w'->w.heap.size<=g->fQ w' g [v] E->az P ops Q rest (Fr (l.set d (.slice (X4 ⟨g,0,X5⟩) 1 1)) ds) w') :
 az P ops Q (bu (X4 d) (.buildSlice T 1 #[(0,x)]) ty pos after X5::rest) (Fr l ds) w:=by
 cases hq:P.info? E with
 | none=>rw[hq] at a;cases a
 | some i =>
  rw[hq] at a;simp only[gh,ik,gl] at a;obtain⟨b,c⟩:=a;exact mG (w':=w.alloc (.cells #[v] E)) (v:=.slice (X4 ⟨w.heap.size,0,X5⟩) 1 1) (λo e _=>by simp[dw,e,Instr.buildSlice,cl f,sizeOf,typeInfo,zeroValue,hq,b,c,m,cN,k,j,Instr.fill,newRow,newObj,Sem.run,aaf]) (h _ _ ((fJ.refl w).alloc _) (ar _) (iV w [v] E))
def abL{E:ba}{z:aj}(f:P.underlying T=X4 (.slice E))(a:(P.info? E).map (λi=>(i.size,i.zero))=X4 (1,X4 z))(n:z.cells = #[z]){v v2:aj}(k:ev l x=v)(j:v.cells = #[v])(m:ev l y=v2)(p:v2.cells = #[v2])
 (h:∀w' g,fJ w w'->w.heap.size<=g->fQ w' g [v,v2] E->az P ops Q rest (Fr (l.set d (.slice (X4 ⟨g,0,X5⟩) 2 2)) ds) w') :
 az P ops Q (bu (X4 d) (.buildSlice T 2 #[(0,x),(1,y)]) ty pos after X5::rest) (Fr l ds) w:=by
 cases hq:P.info? E with
 | none=>rw[hq] at a;cases a
 | some i =>
  rw[hq] at a;simp only[gh,ik,gl] at a;obtain⟨b,c⟩:=a;exact mG (w':=w.alloc (.cells #[v,v2] E)) (v:=.slice (X4 ⟨w.heap.size,0,X5⟩) 2 2) (λo e _=>by simp[dw,e,Instr.buildSlice,cl f,sizeOf,typeInfo,zeroValue,hq,b,c,n,cN,k,j,m,p,Instr.fill,newRow,newObj,Sem.run,Iy]) (h _ _ ((fJ.refl w).alloc _) (ar _) (iV w [v,v2] E))
end
end
section
def adL{m:Nat}:(m:Int).fdiv (2^(min (32:Int).toNat IntKind.u64.bits))=((m / 4294967296:Nat):Int):=by
 rw[Wz (by omega)];omega
/-! ### Slices of words -/
end
section
open Go.RowKit
def atZ{P:bt}{l:List aj}{w:ak}{fn:Func}{R:Ending->ak->Prop}(hr:fn.results = #[])(a:R (.returned (.tuple #[])) w):bodyPost P fn R .ret (Fr l) w:=by
 refine⟨O,_,?_,a⟩;unfold results;rw[hr];simp
def Gj{P:bt}{l:List aj}{w:ak}{fn:Func}{R:Ending->ak->Prop}(hr:fn.results = #[])(a:R (.returned (.tuple #[])) w):bodyPost P fn R .normal (Fr l) w:=atZ hr a
section
variable {P:bt} {ds:List ej} {l:List aj} {x y:b_} {ty:ba} {w:ak}
variable {ops:Array Oper} {Q:Exit->Act->ak->Prop} {rest:List Oper} {d:Nat} {pos:String} {after:Array Edge}
end
end
section
def aqE{a b:Nat}:decide (ord a b<0)=decide (a<b):=by
 unfold ord;split
 .simp[*]
 split <;> simp[*]
def iE(n:Nat):val 4294967296 (digs 4294967296 n)=n:=sD (by omega) n
def Cn(n:Nat):gZ (digs 4294967296 n):=pY (by omega) n
def abM(n:Nat):eS 4294967296 (digs 4294967296 n):=uP (by omega) n
def vA(xs:List Nat):(trim xs).length<=xs.length:=by rw[kJ];simp;omega
def Ra{a b:Nat}:ord a b<0↔a<b:=by
 have:=@aqE a b;simpa using this
def abN{xs:List Nat}(t:gZ xs)(h:0<xs.length):0<xs[xs.length-1]:=by
 rcases ji (xs[xs.length-1]) with h0 | h0
 . exfalso
   have e:=Ls (xs:=xs) (k:=xs.length) h (by omega);rw[fq,h0] at e;have t2:trim xs=trim (xs.take (xs.length-1)):=by conv=>lhs;rw[e,qA]
   have t3:(trim xs).length=xs.length:=by rw[t]
   have t4:=vA (xs.take (xs.length-1));rw[<-t2,t3] at t4;simp at t4;omega
 exact h0
def aag{r:Nat}(h:r<=4):(4294967296:Nat)=256^r*256^(4-r):=by rw[<-pj,show r+(4-r)=4 by omega]
def Rb(r:Nat):(256:Nat)^r=2^(8*r):=by rw[show 256=2^8 from rfl,<-pk]
def aiV{x b r:Nat}(hr:r<4)(a:x<4294967296)(g:256^(r+1)∣x)(f:b<256):x+b*256^r<4294967296:=by
 obtain⟨c,rfl⟩:=g;have e:=aag (r:=r+1) (by omega);rw[e] at a ⊢;have h1:=Nat.lt_of_mul_lt_mul_left a;have h2:256^(r+1)*(c+1)<=256^(r+1)*256^(4-(r+1)):=lc _ h1;rw[pm,dt] at h2;have d:(b+1)*256^r<=256*256^r:=nq _ f;have h:(256:Nat)^(r+1)=256*256^r:=Nat.pow_succ';have i:0<(256:Nat)^r:=Nat.pow_pos (by omega);rw[ku,po] at d;generalize 256^(r+1)*256^(4-(r+1))=Z at *
 generalize 256^(r+1)*c=Y at *
 omega
theorem ag4{os bs:List Nat}{p j r:Nat}(hp:p<bs.length)(q:p=4*j+r)(hr:r<4)(a:j<os.length)(m:eS 4294967296 os)(l:eS 256 bs)(g:∀(i:Nat) (h:i<os.length),256^(p+1-4*i)∣os[i])(f:val 4294967296 os=256^(p+1)*val 256 (bs.drop (p+1))) :
 os[j]+bs[p]*256^r<4294967296/\256^(r+1)∣os[j]/\(∀(i:Nat) (h:i<(os.set j (os[j]+bs[p]*256^r)).length),256^(p-4*i)∣(os.set j (os[j]+bs[p]*256^r))[i])/\val 4294967296 (os.set j (os[j]+bs[p]*256^r))=256^p*val 256 (bs.drop p):=by
 have h1:=g j a;rw[show p+1-4*j=r+1 by omega] at h1;have n:=m _ (gj a);have o:=l _ (gj hp);refine⟨aiV hr n h1 o,h1,?_,?_⟩
 . intro i h
   by_cases e:i=j
   . subst e
     rw[List.getElem_set_self,show p-4*i=r by omega];exact Nat.dvd_add (Nat.dvd_trans (Nat.pow_dvd_pow 256 (by omega)) h1) (Nat.dvd_mul_left _ _)
   rw[List.getElem_set_ne (by omega)]
   exact Nat.dvd_trans (Nat.pow_dvd_pow 256 (by omega)) (g i (by simpa using h))
 have s:=wJ (B:=4294967296) (os:=os) (j:=j) (d:=os[j]+bs[p]*256^r) a
 have b:=Vr (B:=256) (xs:=bs) (k:=p+1) (by omega) (by simpa using hp);simp only[im] at b;have c:(4294967296:Nat)^j*256^r=256^p:=by
  rw[show (4294967296:Nat)=256^4 from rfl,<-pk,<-pj,q]
 rw[b,<-c];rw[jn,<-c] at f;generalize (4294967296:Nat)^j=Q at *
 generalize (256:Nat)^r=R at *
 generalize val 256 (bs.drop (p+1))=D at *
 generalize val 4294967296 (os.set j (os[j]+bs[p]*R))=L at *
 generalize val 4294967296 os=M at *
 subst f
 grind
end
section
open Go.RowKit
variable{a:ByteArray}{xs ys:Array aj}
def at1(w:ak)(S:ak->Prop):Prop:=S w
section
variable {P:bt} {ops:Array Oper} {md:Region.Mode} {S:ak->Prop}
def bX(P:bt)(ops:Array Oper)(S:ak->Prop)(Q:Exit->Act->ak->Prop):List (Oper × Bool)->Act->ak->Prop
 | [],a,w=>Q .normal a w
 | (o,Z)::r,a,w=>∃v,YieldsIf P ops S o v a/\bX P ops S Q r (a.put o.dst v) w
 | (o,X3)::r,a,w=>az P ops (Exit.then (λa w=>S w/\bX P ops S Q r a w) Q) [o] a w
def wX{Q:Exit->Act->ak->Prop}(hs:Region.noSelect ops=Z)(q:∀c d v a w,Q (.panic c) (Act.put a d v) w->Q (.panic c) a w):∀(l:List (Nat × Bool)) (f:Array Bool) (a:Act) (w:ak),
 Zy md ops l f=Z->S w->bX P ops S Q (l.map λx=>((ops[x.1]?).getD default,x.2)) a w->wpAnyH P md ops Q S l.length f a w
 | [],f,a,w,b,_,h=>⟨by simpa[Zy] using b,h⟩
 | (i,Z)::r,f,a,w,b,s,h=>by
  simp only[Zy,bg] at b;obtain⟨⟨⟨h1,h2⟩,z⟩,p⟩:=b;obtain⟨o,g⟩:=ep.1 h1;simp only[bi,bX,g,dx] at h;obtain⟨v,D,hr⟩:=h;exact wpAnyH_take g hs h2 z (λc a w=>q c _ v a w) D s (wX hs q r _ _ _ p s hr)
 | (i,X3)::r,f,a,w,b,s,h=>by
  simp only[Zy,bg,R] at b;obtain⟨⟨h1,h2⟩,p⟩:=b;obtain⟨o,g⟩:=ep.1 h1;refine wpAnyH_all h2 (by simp) λj B=>?_;obtain rfl:j=i:=by simpa using B
  simp only[bi,bX,g,dx] at h;have key:∀k w',Exit.then (λa w=>S w/\bX P ops S Q (r.map λx=>((ops[x.1]?).getD default,x.2)) a w) Q .normal k w'->S w'/\wpAnyH P md ops Q S r.length (f.setIfInBounds j Z) k w':=λk w' t=>⟨t.1,wX hs q r _ k w' p t.1 t.2⟩
  unfold wpOp;simp only[g];simp only[az] at h;split
  . rename_i u
    rw[J u] at h;rcases h with h | ⟨A,x,y,C⟩
    . refine .inl ?_
      unfold nf at h ⊢;generalize (dw a.eval o).run P w=E at *
      cases E with
      | ok n w' =>
       cases n <;> simp only[ot] at h ⊢ <;>
        first
         | exact key _ _ h
         | exact Calls.mono h (λe F m=>by cases e <;> first | exact key _ _ m | exact m)
         | exact Rows.mono h (λ_ _ m=>key _ _ m)
      | halt x w'=>cases x <;> simp only[ot] at h ⊢ <;> exact h
    exact .inr ⟨A,x,y,C⟩
  rename_i u
  rw[X u] at h;exact key _ _ h
def Bp{id:Nat}{Q:Exit->Act->ak->Prop}{a:Act}{w:ak}{l:List Oper}(o:List (Nat × Bool))(g:P.follows .mixedOrders=Z)(b:(Region.noSelect l.toArray&&decide (o.length=l.length)&&Zy .any l.toArray o (gv l.toArray.size X3))=Z)
 (e:∀c d v a w,Q (.panic c) (Act.put a d v) w->Q (.panic c) a w) {ol:List (Oper × Bool)} (i:(o.map λx=>((l.toArray[x.1]?).getD default,x.2))=ol)
 (h:∀w',fJ w w'->∃S,at1 w' S/\bX P l.toArray S Q ol a w'):(Code.region id l.toArray Z).wp P Q a w:=by
 simp only[bg,R] at b;subst i;obtain⟨S,f,h⟩:=h _ (fJ.refl w).drawn;refine wp_region_held (S:=S) g ?_;have:=wX (md:=.any) b.1.1 e o _ a { w with drawn:=w.drawn+1 } b.2 f h;rwa [b.1.2] at this
variable {ds:List ej} {l:List aj} {Q:Exit->Act->ak->Prop} {w:ak} {rest:List (Oper × Bool)} {d:Nat} {op:Op} {ty:ba} {pos:String} {after:Array Edge} {v:aj}
def aah(hr:∀w,S w->Cb P l op ty v w)(h:bX P ops S Q rest (Fr (l.set d v) ds) w):bX P ops S Q ((bu (X4 d) op ty pos after X5,Z)::rest) (Fr l ds) w:=by
 refine⟨v,.inl ⟨by simp[Region.wanted],λw a=>hr w a _ O O⟩,?_⟩;show bX P ops S Q rest ((Fr l ds).put (X4 d) v) w
 rw[gI];exact h
def bG(hr:iB P l op ty v)(h:bX P ops S Q rest (Fr (l.set d v) ds) w):bX P ops S Q ((bu (X4 d) op ty pos after X5,Z)::rest) (Fr l ds) w:=aah (λw _=>hr w) h
def gW{T:ba}{x:b_}{a:Addr}(e:ev l x=.pointer (X4 a))(c:∀w',S w'->dQ P w' T a v)(h:bX P ops S Q rest (Fr (l.set d v) ds) w):bX P ops S Q ((bu (X4 d) (.load T x) ty pos after X5,Z)::rest) (Fr l ds) w :=
 aah (λ_ b=>bD e (c _ b)) h
def wY{j:Nat}{b:Bool}(e:yielded ops l.toArray j=X4 b)(h:bX P ops S Q ((bu (X4 d) op ty pos after X5,Z)::rest) (Fr l ds) w):bX P ops S Q ((bu (X4 d) op ty pos after (X4 (j,b)),Z)::rest) (Fr l ds) w:=by
 obtain⟨v,a,h⟩:=h;refine⟨v,?_,h⟩;rcases a with ⟨_,a⟩ | ⟨c,_⟩
 .exact .inl ⟨by simp[Region.wanted,e],a⟩
 simp[Region.wanted] at c
def aiW{j:Nat}{b c:Bool}(a:yielded ops l.toArray j=X4 c)(e:(c == b)=X3)(h:bX P ops S Q rest (Fr (l.set d undef) ds) w):bX P ops S Q ((bu (X4 d) op ty pos after (X4 (j,b)),Z)::rest) (Fr l ds) w:=by
 refine⟨undef,.inr ⟨by simp[Region.wanted,a];simpa using e,rfl⟩,?_⟩;show bX P ops S Q rest ((Fr l ds).put (X4 d) undef) w
 rw[gI];exact h
def uA{j:Nat}(a:yielded ops l.toArray j=X4 X3)(h:bX P ops S Q rest (Fr (l.set d undef) ds) w):bX P ops S Q ((bu (X4 d) op ty pos after (X4 (j,Z)),Z)::rest) (Fr l ds) w:=aiW a rfl h
def afH{j:Nat}(a:yielded ops l.toArray j=X4 Z)(h:bX P ops S Q rest (Fr (l.set d undef) ds) w):bX P ops S Q ((bu (X4 d) op ty pos after (X4 (j,X3)),Z)::rest) (Fr l ds) w:=aiW a rfl h
def bR(h:Q .normal (Fr l ds) w):bX P ops S Q [] (Fr l ds) w:=h
def bO{o:Oper}(h:az P ops (Exit.then (λa w=>S w/\bX P ops S Q rest a w) Q) [o] (Fr l ds) w):bX P ops S Q ((o,X3)::rest) (Fr l ds) w:=h
end
def sZ(P:bt)(d:Nat)(T:ba)(x y:aj)(p:Prop):Prop:=∀w,∃b:Bool,(Op.equalIn d T x y).run P w=.ok b w/\(b=Z↔p)
section
variable {P:bt} {d:Nat} {T:ba}
def sZ.int{k b:IntKind}{m n:Int}(a:P.underlying T=X4 (.int b)):sZ P (d+1) T (.int k m) (.int k n) (m=n):=λw=>⟨m == n,by unfold Op.equalIn;simp[cl a],by simp⟩
def sZ.bool{a b:Bool}(c:P.underlying T=X4 .bool):sZ P (d+1) T (.bool a) (.bool b) (a=b):=λw=>⟨a == b,by unfold Op.equalIn;simp[cl c],by simp⟩
def Rc{b:ByteArray}(h:a.toList=b.toList):a=b:=by
 rw[ByteArray.toList_eq,ByteArray.toList_eq] at h;cases a;cases b;simp at h;rw[h]
def aai(a b:ByteArray):(a.toList == b.toList)=decide (a=b):=by
 by_cases h:a=b
 .subst h;simp
 rw[Y h];exact beq_eq_false_iff_ne.2 λe=>h (Rc e)
def sZ.str{b:ByteArray}(c:P.underlying T=X4 .string):sZ P (d+1) T (.string a) (.string b) (a=b):=λw=>⟨a == b,by unfold Op.equalIn;simp[cl c],by rw[beq_toListBytes,aai];simp⟩
def zZ(P:bt)(d:Nat)(xs ys:Array aj)(fs:List Field)(p:Prop):Prop:=∀w,∃b:Bool,(Op.eqFields d xs ys fs).run P w=.ok b w/\(b=Z↔p)
def zZ.nil  : zZ P d xs ys [] True:=λw=>⟨Z,by simp[Op.eqFields],by simp⟩
def zZ.cons{xs ys:Array aj}{f:Field}{fs:List Field}{x y:aj}{p q:Prop} (e:f.name ≠ "_") (g:∀w,(part f.type xs f.offset).run P w=.ok x w) (i:∀w,(part f.type ys f.offset).run P w=.ok y w)
 (h:sZ P d f.type x y p) (k:zZ P d xs ys fs q):zZ P d xs ys (f::fs) (p/\q):=λw=>by
 obtain⟨b,a,hp⟩:=h w;obtain⟨c,hc,hq⟩:=k w;cases b
 .exact⟨X3,by simp[Op.eqFields,e,g,i,a],by simp at hp ⊢;intro h;exact Z8 h hp⟩
 exact⟨c,by simp[Op.eqFields,e,g,i,a,hc],by simp at hp;simp[hp,hq]⟩
def sF(P:bt)(d:Nat)(E:ba)(n:Nat)(xs ys:Array aj)(is:List Nat)(p:Prop):Prop:=∀w,∃b:Bool,(Op.eqItems d E n xs ys is).run P w=.ok b w/\(b=Z↔p)
def sF.nil{E:ba}{n:Nat}  : sF P d E n xs ys [] True:=λw=>⟨Z,by simp[Op.eqItems],by simp⟩
def sF.cons{E:ba}{n i:Nat}{is:List Nat}{xs ys:Array aj}{x y:aj}{p q:Prop}(e:∀w,(part E xs (i*n)).run P w=.ok x w)(f:∀w,(part E ys (i*n)).run P w=.ok y w)
 (h:sZ P d E x y p) (k:sF P d E n xs ys is q):sF P d E n xs ys (i::is) (p/\q):=λw=>by
 obtain⟨b,a,hp⟩:=h w;obtain⟨c,hc,hq⟩:=k w;cases b
 .exact⟨X3,by simp[Op.eqItems,e,f,a],by simp at hp ⊢;intro h;exact Z8 h hp⟩
 exact⟨c,by simp[Op.eqItems,e,f,a,hc],by simp at hp;simp[hp,hq]⟩
def sZ.struct{fs:Array Field}{p:Prop}(b:P.underlying T=X4 (.struct fs))(hs:P.stoodInHeld T=X3)(h:zZ P d xs ys fs.toList p):sZ P (d+1) T (.agg xs) (.agg ys) p:=λw=>by
 have a:P.fieldsOf T=fs:=by simp[Program.fieldsOf,b]
 rw[run_equalIn_struct w d T xs ys (by rw[a];exact b) hs,a];exact h w
def sZ.array{n c:Nat}{E:ba}{p:Prop}(e:P.underlying T=X4 (.array n E))(hc:dO P E c)(h:sF P d E c xs ys (ke n) p):sZ P (d+1) T (.agg xs) (.agg ys) p:=λw=>by
 obtain⟨i,a,rfl⟩:=hc;have b:P.cellsOf E=i.size:=by simp[Program.cellsOf,a]
 rw[run_equalIn_array w d xs ys e a,b];exact h w
def sZ.iff{x y:aj}{p q:Prop}(h:sZ P d T x y p)(c:p↔q):sZ P d T x y q:=λw=>let ⟨b,a,hp⟩:=h w;⟨b,a,hp.trans c⟩
def cZ{off:Nat}{v:aj}(a:eX P T X3)(b:xs[off]? = X4 v)(w:ak):(part T xs off).run P w=.ok v w:=by simp[part,pU a,b]
def cU{us:Array aj}{off c:Nat}(a:eX P T Z)(hc:dO P T c)(b:xs.extract off (off+c)=us)(w:ak):(part T xs off).run P w=.ok (.agg us) w:=by
 subst b;simp[part,pU a,dY hc]
variable {l:List aj} {x y:b_} {T' ty:ba}
def Aa{u v:aj}{p:Prop}[Decidable p](h:sZ P 10000 T u v p)(w:ak):(Op.equal T u v).run P w=.ok (decide p) w:=by
 obtain⟨b,a,hp⟩:=h w;rw[Op.equal,show Op.maxDepth=10000 from rfl,a]
 congr 1
 cases b
 .exact (Y (by simpa using hp)).symm
 exact (Y0 (by simpa using hp)).symm
def adM{xs ys:Array aj}{p:Prop}[Decidable p](a:P.eqGuardType P.depth T=X3)(c:ev l x=.agg xs)(d:ev l y=.agg ys)(h:sZ P 10000 T (.agg xs) (.agg ys) p):iB P l (.binOp .eql T x y T') ty (.bool (decide p)):=λw o b _=>by
 simp[dw,b,cN,c,d,eqGuard,binOp,a,Aa h]
def adN{xs ys:Array aj}{p:Prop}[Decidable p](a:P.eqGuardType P.depth T=X3)(c:ev l x=.agg xs)(d:ev l y=.agg ys)(h:sZ P 10000 T (.agg xs) (.agg ys) p):iB P l (.binOp .neq T x y T') ty (.bool (decide (¬p))):=λw o b _=>by
 simp[dw,b,cN,c,d,eqGuard,binOp,a,Aa h]
def aiX{a b:Bool}(e:P.underlying T=X4 .bool)(f:ev l x=.bool a)(g:ev l y=.bool b):iB P l (.binOp .eql T x y T') ty (.bool (decide (a=b))):=λw o c _=>by
 have h:=Aa (sZ.bool (d:=9999) (a:=a) (b:=b) e) w;simp[dw,c,cN,f,g,eqGuard,binOp,h]
def Re{a b:Bool}(e:P.underlying T=X4 .bool)(f:ev l x=.bool a)(g:ev l y=.bool b):iB P l (.binOp .neq T x y T') ty (.bool (decide (¬a=b))):=λw o c _=>by
 have h:=Aa (sZ.bool (d:=9999) (a:=a) (b:=b) e) w;simp[dw,c,cN,f,g,eqGuard,binOp,h]
def adO{b:ByteArray}(e:P.underlying T=X4 .string)(f:ev l x=.string a)(g:ev l y=.string b):iB P l (.binOp .eql T x y T') ty (.bool (decide (a=b))):=λw o c _=>by
 have h:=Aa (sZ.str (d:=9999) (a:=a) (b:=b) e) w;simp[dw,c,cN,f,g,eqGuard,binOp,h,Op.stringOp,aai]
def aqF{b:ByteArray}(e:P.underlying T=X4 .string)(f:ev l x=.string a)(g:ev l y=.string b):iB P l (.binOp .neq T x y T') ty (.bool (decide (¬a=b))):=λw o c _=>by
 have h:=Aa (sZ.str (d:=9999) (a:=a) (b:=b) e) w;simp[dw,c,cN,f,g,eqGuard,binOp,h,Op.stringOp,aai]
end
end
section
def oW(s:ByteArray):List Nat:=s.data.toList.reverse.map jq
def anp(s:ByteArray):Nat:=val 256 (oW s)
def Co(s:ByteArray):s.data.toList.length=s.size:=Array.length_toList
def wZ(s:ByteArray):(oW s).length=s.size:=by simp only[oW,cj,List.length_reverse,Co]
def Oc(s:ByteArray):eS 256 (oW s):=λx a=>by
 obtain⟨b,_,rfl⟩:=dj.1 a;exact b.toNat_lt
def Gk(s:ByteArray)(i:Nat):s[i]? = s.data.toList[i]?:=by
 by_cases h:i<s.size
 . rw[getElem?_pos s i h,am (by rw[Co];omega)]
   rfl
 rw[getElem?_neg s i h,cg (by rw[Co];omega)]
def Hb{s:ByteArray}{i p:Nat}(h:p+1+i=s.size):∃b,s[i]? = X4 b/\∃hp:p<(oW s).length,(oW s)[p]=b.toNat:=by
 have hs:=Co s;have a:i<s.data.toList.length:=by omega
 refine⟨s.data.toList[i],by rw[Gk];exact am a,by rw[wZ];omega,?_⟩;simp only[oW,List.getElem_map,List.getElem_reverse]
 congr 2
 omega
def kE(n:Int):anp (eC n)=n.natAbs:=by
 have e:oW (eC n)=digs 256 n.natAbs:=by
  simp only[oW,eC,mO,List.reverse_reverse,<-List.map_reverse,List.map_map];have a:eS 256 (digs 256 n.natAbs):=uP (by omega) _;have:∀l:List Nat,eS 256 l->l.map (jq∘fa)=l:=by
   intro l b;refine (io λx c=>?_).trans (List.map_id l);simp only[Function.comp_apply,id_eq,jy];exact lg (b x c)
  exact this _ a
 rw[anp,e,sD (by omega)]
def uB{m n:Nat}(h:m<9223372036854775808):IntKind.i64.wrap ((m:Int).tdiv (n:Int))=((m / n:Nat):Int):=by
 rw[<-Int.ofNat_tdiv];have:m / n<=m:=Nat.div_le_self m n;exact bZ (by have:=Int.natCast_nonneg (m / n);omega) (by omega)
def aiY{xs:List Nat}{n:Nat}(h:xs.length<=n):val 256 (xs.drop n)=0:=by rw[gq h];rfl
def nS(l:List UInt8):ByteArray:=⟨l.toArray⟩
def qD(l:List UInt8):(nS l).data.toList=l:=by simp[nS]
def ag5{l k:List UInt8}(h:nS l=nS k):l=k:=by rw[<-qD l,h,qD]
def Hc(l:List UInt8):(nS l).size=l.length:=by rw[<-Co,qD]
def ag6(l:List UInt8)(i:Nat):(nS l)[i]? = l[i]?:=by rw[Gk,qD]
def adP(l:List UInt8)(n:Nat):(nS l).extract n (nS l).size=nS (l.drop n):=by
 apply ByteArray.ext;rw[ByteArray.data_extract];apply qw;rw[Array.toList_extract,qD,Hc];simp only[nS,List.extract_eq_take_drop,ee];exact au (by simp)
def abO(l:List UInt8):(nS l=⟨#[]⟩)=(l=[]):=by
 apply Y6;constructor
 . intro h
   exact ag5 (k:=[]) h
 rintro rfl;rfl
def iW(l:List UInt8):List UInt8:=l.dropWhile (· == 0)
def adQ{l:List UInt8}{b:UInt8}(h:l[0]? = X4 b)(a:b.toNat=0):iW (l.drop 1)=iW l:=by
 cases l with
 | nil=>cases h
 | cons c l =>
  simp at h;subst h;have:c=0:=oh.1 a;subst this;simp[iW]
def adR{l:List UInt8}{b:UInt8}(h:l[0]? = X4 b)(a:¬b.toNat=0):iW l=l:=by
 cases l with
 | nil=>rfl
 | cons c l =>
  simp at h;subst h;have:¬c=0:=λe=>a (by rw[e];rfl);simp[iW,this]
def ag7:iW []=[]:=rfl
end
section
open Go.RowKit
variable{w:ak}{D:Nat}
section
variable {P:bt} {ds:List ej} {l:List aj} {x y z0:b_} {T T' ty:ba}
abbrev u8v(b:UInt8):aj:=.int .u8 (b.toNat:Int)
def Rf{w:ak}{base n:Nat}{E:ba}{v:aj}{bs:List UInt8}(hs:P.underlying T=X4 (.slice E))(b:P.underlying E=X4 (.int .u8))(a:P.underlying T'=X4 .string)(d:ev l x=v)(e:aiT w base E 1 v n (bs.map u8v)) :
 Cb P l (.convert T T' x) ty (.string (nS bs)) w:=λo c _=>by
 have i:bs.length=n:=by have:=e.1;simpa using this
 rcases e.row with ⟨rfl,rfl,h⟩ | ⟨g,cap,rfl,_,_,_,_,hr⟩
 . obtain rfl:bs=[]:=by simpa using h
   simp only[dw,c,cN,d];rw[Sem.run_bind,run_convert_bytes_nil w T E hs b 0 0 T' a];rfl
 subst i
 have:=run_convert_bytes_back (P:=P) w T T' E ⟨g,0,X5⟩ cap bs hs b a (λj f=>hr j _ (by simp[f]));simp only[dw,c,cN,d];rw[Sem.run_bind,this];rfl
end
structure Def(w:ak)(D:Nat):Prop where
 h:w.heap[D]? = X4 (.deferred (X4 []))
def Def.ext{w':ak}(h:Def w D)(a:fJ w w'):Def w' D:=⟨a.block h.h⟩
def Def.ne{g:Nat}{cs:List aj}{t:ba}(h:Def w D)(a:fQ w g cs t):D≠g:=λe=>by
 subst e;have:=h.h;rw[a] at this;cases this
def Def.chg{w':ak}{g:Nat}(h:Def w D)(a:Chg w w' g)(b:D≠g):Def w' D:=⟨(a.block D b).trans h.h⟩
def fQ.putD{g:Nat}{cs:List aj}{t:ba}(a:fQ w g cs t)(h:Def w D){o:Obj}:fQ (w.putObj D o) g cs t:=(World.putObj_heap_other (Ne.symm (h.ne a))).trans a
def fJ.putD{w0:ak}(a:fJ w0 w)(c:w0.heap.size<=D){o:Obj}:fJ w0 (w.putObj D o) :=
 ⟨a.os,a.tape,a.output,by rw[World.putObj_size];exact a.size,λk b=>(World.putObj_heap_other (by omega)).trans (Below.block a k b)⟩
def adS{P:bt}{l:List aj}{n:Nat}{fn:Func}{R:Ending->ak->Prop}{D:Nat}{w:ak}(a:Def w D)(h:bodyPost P fn R .ret (Fr l) (w.putObj D (.deferred X5))) :
 bodyPostM Fence.wide n P fn R .ret (Fr l [{ target:=.collected D,args:=#[] }]) w:=by
 refine⟨by simp,.inl ⟨D,_,O,run_takeDeferred a.h,?_⟩⟩;obtain⟨_,v,c,b⟩:=h;exact⟨v,c,b⟩
end
section
variable{n a:Int}{k m:Nat}
def wb(x:Nat):List UInt8:=[fa (x / 16777216),fa (x / 65536),fa (x / 256),fa x]
def wbs(l:List (Nat × Nat)):List UInt8:=l.flatMap λx=>wb x.2
def aiZ(l:List (Nat × Nat))(x:Nat × Nat):wbs (l++[x])=wbs l++wb x.2:=by simp[wbs]
def Rg(l:List (Nat × Nat)):(wbs l).length=4*l.length:=by
 induction l with
 | nil=>rfl
 | cons x l ih=>rw[wbs,bx,aq];rw[wbs] at ih;rw[ih];simp[wb];omega
def Vs(neg:Bool)(n:Nat):Int:=if neg then -(n:Int) else n
def He(neg:Bool)(n:Nat):(Vs neg n).natAbs=n:=by cases neg <;> simp[Vs]
def aaj(neg:Bool)(n:Nat):dH (Vs neg n)=(neg&&decide (n≠0)):=by
 cases neg
 .simp[Vs,dH]
 rcases ji n with h | h
 .subst h;rfl
 have h2:n≠0:=by omega
 simp[Vs,dH,h,h2]
def Vt(ys:List Nat)(h:eS 4294967296 ys):val 256 (((ys.reverse.flatMap wb).reverse).map jq)=val 4294967296 ys/\eS 256 (((ys.reverse.flatMap wb).reverse).map jq):=by
 induction ys with
 | nil=>exact⟨rfl,λ_ h=>by cases h⟩
 | cons y ys ih =>
  have d:=h y (by simp);obtain⟨b,c⟩:=ih (λx a=>h x (by simp[a]));have e:(((y::ys).reverse.flatMap wb).reverse).map jq=[y%256,y / 256%256,y / 65536%256,y / 16777216%256]++(((ys.reverse.flatMap wb).reverse).map jq):=by
   simp[aw,wb,jy]
  rw[e];refine⟨?_,?_⟩
  . rw[kP,b]
    simp only[val,ay,bm];omega
  refine eS.append ?_ c
  intro x a;simp at a;omega
def Od{l:List UInt8}:iW l=((trim ((l.reverse).map jq)).reverse).map fa:=by
 induction l with
 | nil=>rfl
 | cons b l ih =>
  have c:∀k:List Nat,∀x:Nat,trim (k++[x])=if x=0 then trim k else k++[x]:=λk x=>by
   split
   .rename_i h;subst h;exact qA k
   rename_i h;exact wW h k
  rw[qn,de,bi,List.map_nil,c];by_cases a:b=0
  . subst a
    rw[J (show jq 0=0 from rfl),<-ih];simp[iW]
  have d:¬b.toNat=0:=λe=>a (oh.1 e)
  rw[X d];simp[iW,a,Function.comp_def]
def adT{ys:List Nat}(h:eS 4294967296 ys)(neg:Bool):nS (iW (ys.reverse.flatMap wb))=eC (Vs neg (val 4294967296 ys)):=by
 obtain⟨h1,h2⟩:=Vt ys h;rw[Od,pZ (by omega) h2 h1,eC,He,mO];rfl
def Rh{neg:Bool}{n:Nat}:(eC (Vs neg n)=⟨#[]⟩)↔n=0:=by
 constructor
 . intro h
   have:=Wx (Vs neg n);rw[h,He] at this;have a:digs 256 n=[]:=ft this.symm;exact (wI (by omega)).1 a
 rintro rfl
 cases neg <;> rfl
class M(k:outParam Nat)(n:Int):Prop where
 h:Bd k n
instance {a b:Nat}{m n:Int}[x:M a m][y:M b n]:M (max a b+1) (m+n):=⟨x.h.add y.h⟩
instance {a b:Nat}{m n:Int}[x:M a m][y:M b n]:M (max a b+1) (m-n):=⟨x.h.sub y.h⟩
instance {a b:Nat}{m n:Int}[x:M a m][y:M b n]:M (a+b) (m*n):=⟨x.h.mul y.h⟩
instance:M 1 0:=⟨Pt 1⟩
def Lv(h:dH n=Z):n<0:=Y3 h
def Hf(h:dH n=X3):0<=n:=ru.1 (Y9 h)
def natAbs_neg(h:dH n=Z):(n.natAbs:Int) = -n:=by have:=Lv h;omega
def kF(h:dH n=X3):(n.natAbs:Int)=n:=by have:=Hf h;omega
def Cp(n:Nat):Vs Z n = -(n:Int):=rfl
def xV(n:Nat):Vs X3 n=(n:Int):=rfl
def Iz(a:Int):Vs (dH a) a.natAbs=a:=by
 cases h:dH a
 .rw[xV,kF h]
 rw[Cp,natAbs_neg h];omega
def afI(a:Int):Vs (!dH a) a.natAbs = -a:=by
 cases h:dH a
 .rw[gd,Cp,kF h]
 rw[f_,xV,natAbs_neg h]
def afJ{b:Int}(h:dH a=dH b):Vs (dH a) (a.natAbs+b.natAbs)=a+b:=by
 cases c:dH a <;> rw[c] at h
 .have h1:=kF c;have h2:=kF h.symm;rw[xV];omega
 have h1:=natAbs_neg c;have h2:=natAbs_neg h.symm;rw[Cp];omega
def ai0{b:Int}(h:¬dH a=dH b)(e:a.natAbs<b.natAbs):Vs (dH b) (b.natAbs-a.natAbs)=a+b:=by
 cases c:dH a <;> cases d:dH b <;> rw[c,d] at h
 .exact Z8 O h
 .have h1:=kF c;have h2:=natAbs_neg d;rw[Cp];omega
 .have h1:=natAbs_neg c;have h2:=kF d;rw[xV];omega
 exact Z8 O h
def ai1{b:Int}(h:¬dH a=dH b)(e:b.natAbs<=a.natAbs):Vs (dH a) (a.natAbs-b.natAbs)=a+b:=by
 cases c:dH a <;> cases d:dH b <;> rw[c,d] at h
 .exact Z8 O h
 .have h1:=kF c;have h2:=natAbs_neg d;rw[xV];omega
 .have h1:=natAbs_neg c;have h2:=kF d;rw[Cp];omega
 exact Z8 O h
def afK{b:Int}:Vs (decide (¬dH a=dH b)) (a.natAbs*b.natAbs)=a*b:=by
 cases c:dH a <;> cases d:dH b
 . have h1:=kF c;have h2:=kF d
   show ((a.natAbs*b.natAbs:Nat):Int)=_
   rw[mw,h1,h2]
 . have h1:=kF c;have h2:=natAbs_neg d
   show -((a.natAbs*b.natAbs:Nat):Int)=_
   rw[mw,h1,h2,Int.mul_neg,rr]
 . have h1:=natAbs_neg c;have h2:=kF d
   show -((a.natAbs*b.natAbs:Nat):Int)=_
   rw[mw,h1,h2,Int.neg_mul,rr]
 have h1:=natAbs_neg c;have h2:=natAbs_neg d
 show ((a.natAbs*b.natAbs:Nat):Int)=_
 rw[mw,h1,h2,Int.neg_mul_neg]
def bA(n:Int):Int:=if n<0 then -1 else if 0<n then 1 else 0
def Eu(h:n<0):bA n = -1:=by rw[bA,J h]
def Ev(h:0<n):bA n=1:=by rw[bA,X (by omega),J h]
def Cq{V:Nat}(h:V<2^k):(digs 4294967296 V).length<=k:=by
 refine kX (by omega) (gw h ?_);rw[show (4294967296:Nat)=2^32 from rfl,<-pk];exact jz (by omega) (by omega)
def kG(h:Bd 1000000 n):(eC n).size<=1000000000000:=be (aad h) (by decide)
def ag8{b:Int}(c:Bd k a)(d:Bd k b):(digs 4294967296 (a.natAbs+b.natAbs)).length<=k+1:=Cq (by unfold Bd at c d;rw[jn];omega)
def Hg(h:Bd k n):(digs 4294967296 n.natAbs).length<=k:=Cq h
def aak{n:Nat}(h:m<=n):(digs 4294967296 m).length<=(digs 4294967296 n).length:=by
 refine kX (by omega) (oo h ?_);have:=Gz (abM n);rwa [iE] at this
def afL  : (((digs 4294967296 a.natAbs).length:Int)=0)↔a=0:=by
 constructor
 . intro h
   have b:digs 4294967296 a.natAbs=[]:=ft (by omega);have:=(wI (by omega)).1 b;omega
 rintro rfl;rfl
def rS(n:Int):Prop:=-9223372036854775808<=n/\n<9223372036854775808
def rS.bd(h:rS n):Bd 64 n:=Bd.of_i64 h.1 (by have:=h.2;omega)
def ai2(h:rS n)(a:0<=n):IntKind.u64.wrap n=(n.natAbs:Int):=by
 rw[mD];have:=h.2;omega
def afM(h:rS n)(a:n<0):IntKind.u64.wrap n=((18446744073709551616-n.natAbs:Nat):Int):=by
 rw[mD];have:=h.1;omega
def Xb(h:m<=9223372036854775808)(a:0<m):IntKind.u64.wrap (0-((18446744073709551616-m:Nat):Int))=(m:Int):=by
 rw[mD];omega
def Xc  : val 4294967296 [m%4294967296,m / 4294967296]=m:=by simp[val];omega
def Ri(h:m<18446744073709551616):eS 4294967296 [m%4294967296,m / 4294967296]:=λx a=>by simp at a;omega
def rS.natAbs(h:rS n):n.natAbs<=9223372036854775808:=by have:=h.1;have:=h.2;omega
def Qc(n d:Int):Go.Value:=.agg #[.bool (dH n),.string (eC n),.bool (dH d),.string (eC d)]
def Q(q:Rat):Go.Value:=Qc q.num q.den
end
section
open Go.RowKit
variable{k m:Nat}
def Rj{a b:Nat}:0<=ord a b↔b<=a:=by
 unfold ord;split
 .omega
 split <;> omega
structure H where
 x:Int
 y:Int
 z:Int
structure T3 where
 a:H
 b:H
 c:H
namespace H
def sub(p q:H):H:=⟨p.x-q.x,p.y-q.y,p.z-q.z⟩
def dot(p q:H):Int:=p.x*q.x+p.y*q.y+p.z*q.z
def cross(u v:H):H:=⟨u.y*v.z-u.z*v.y,u.z*v.x-u.x*v.z,u.x*v.y-u.y*v.x⟩
end H
def T3.normal(t:T3):H:=(t.b.sub t.a).cross (t.c.sub t.a)
def pt(p:H):Go.Value:=.agg #[X6 p.x,X6 p.y,X6 p.z]
def tr(t:T3):Go.Value:=.agg #[X6 t.a.x,X6 t.a.y,X6 t.a.z,X6 t.b.x,X6 t.b.y,X6 t.b.z,X6 t.c.x,X6 t.c.y,X6 t.c.z]
def wv(v:H):Go.Value:=.agg #[.bool (dH v.x),.string (eC v.x),.bool (dH v.y),.string (eC v.y),.bool (dH v.z),.string (eC v.z)]
def M.up{n:Int}[x:M k n](h:k<=m:=by decide):Bd m n:=x.h.mono h
def Lw:eC 0=⟨#[]⟩:=by
 have:mO 0=[]:=by
  unfold mO;rw[(wI (B:=256) (by omega)).2 rfl];rfl
 simp only[eC,Int.natAbs_zero,this]
def aal:W 0=.agg #[.bool X3,.string ⟨#[]⟩]:=by simp only[W,Lw];rfl
class Iw(n:Int):Prop where
 h:rS n
class I3(p:H):Prop where
 x:rS p.x
 y:rS p.y
 z:rS p.z
class IT(t:T3):Prop where
 a:I3 t.a
 b:I3 t.b
 c:I3 t.c
instance {p:H}[h:I3 p]:Iw p.x:=⟨h.x⟩
instance {p:H}[h:I3 p]:Iw p.y:=⟨h.y⟩
instance {p:H}[h:I3 p]:Iw p.z:=⟨h.z⟩
instance {t:T3}[h:IT t]:I3 t.a:=h.a
instance {t:T3}[h:IT t]:I3 t.b:=h.b
instance {t:T3}[h:IT t]:I3 t.c:=h.c
instance {n:Int}[h:Iw n]:M 64 n:=⟨h.h.bd⟩
class Bv(k:outParam Nat)(v:H):Prop where
 x:Bd k v.x
 y:Bd k v.y
 z:Bd k v.z
instance {k:Nat}{v:H}[h:Bv k v]:M k v.x:=⟨h.x⟩
instance {k:Nat}{v:H}[h:Bv k v]:M k v.y:=⟨h.y⟩
instance {k:Nat}{v:H}[h:Bv k v]:M k v.z:=⟨h.z⟩
theorem Bv.mono{v:H}(h:Bv k v)(a:k<=m):Bv m v:=⟨h.x.mono a,h.y.mono a,h.z.mono a⟩
theorem Bv.of{v:H}[h:Bv k v](a:k<=m:=by decide):Bv m v:=h.mono a
instance {p q:H}[a:I3 p][b:I3 q]:Bv 65 (p.sub q):=⟨a.x.bd.sub b.x.bd,a.y.bd.sub b.y.bd,a.z.bd.sub b.z.bd⟩
def aam{l:Nat}{a b c d:Int}(e:Bd k a)(f:Bd l b)(hc:Bd k c)(g:Bd l d):Bd (k+l+1) (a*b-c*d):=by
 have:=(e.mul f).sub (hc.mul g);exact this.mono (by omega)
def ai3{l:Nat}{a b c d:Int}(e:Bd k a)(f:Bd l b)(hc:Bd k c)(g:Bd l d):Bd (k+l+1) (a*b+c*d):=by
 have:=(e.mul f).add (hc.mul g);exact this.mono (by omega)
instance {k l:Nat}{u v:H}[a:Bv k u][b:Bv l v]:Bv (k+l+1) (u.cross v):=⟨aam a.y b.z a.z b.y,aam a.z b.x a.x b.z,aam a.x b.y a.y b.x⟩
instance {k l:Nat}{u v:H}[a:Bv k u][b:Bv l v]:M (k+l+2) (u.dot v):=⟨((ai3 a.x b.x a.y b.y).add (a.z.mul b.z)).mono (by omega)⟩
instance {t:T3}[h:IT t]:Bv 131 t.normal:=inferInstanceAs (Bv 131 ((t.b.sub t.a).cross (t.c.sub t.a)))
def H.dot0{u v:H}:0+u.x*v.x+u.y*v.y+u.z*v.z=u.dot v:=by simp only[H.dot,Int.zero_add]
section
variable {P:bt} {Q:Exit->Act->ak->Prop} {a:Act} {w:ak} {c:Code} {n:Nat}
def Cr(h:c.wp P (Exit.then (Code.rounds P c Q n) Q) a w):Code.rounds P c Q (n+1) a w:=h
def lI(h:c.wp P (Exit.then (Code.rounds P c Q n) Q) a w):Exit.then (Code.rounds P c Q (n+1)) Q .normal a w:=h
end
inductive rB where
 | nil:rB
 | take:Nat->rB->rB
 | one:Nat->rB->rB
 | two:Nat->rB->Nat->rB->rB
 | three:Nat->rB->Nat->rB->Nat->rB->rB
section
variable {P:bt} {ops:Array Oper} {md:Region.Mode} {S:ak->Prop}
def rB.ok(md:Region.Mode)(ops:Array Oper):rB->Nat->Array Bool->Bool
 | .nil,f,a=>f == 0&&(Region.ready md ops a).isEmpty
 | .take i t,f,a=>decide (0<f)&&(ops[i]?).isSome&&Region.free md ops a i&&(Region.ready md ops a).contains i&&t.ok md ops (f-1) (a.setIfInBounds i Z)
 | .one i t,f,a=>decide (0<f)&&(ops[i]?).isSome&&decide (Region.ready md ops a=[i])&&t.ok md ops (f-1) (a.setIfInBounds i Z)
 | .two i t j u,f,a=>decide (0<f)&&(ops[i]?).isSome&&(ops[j]?).isSome&&decide (Region.ready md ops a=[i,j])&&t.ok md ops (f-1) (a.setIfInBounds i Z)&&u.ok md ops (f-1) (a.setIfInBounds j Z)
 | .three i t j u k v,f,a=>decide (0<f)&&(ops[i]?).isSome&&(ops[j]?).isSome&&(ops[k]?).isSome&&decide (Region.ready md ops a=[i,j,k])&&t.ok md ops (f-1) (a.setIfInBounds i Z)&&u.ok md ops (f-1) (a.setIfInBounds j Z)&&v.ok md ops (f-1) (a.setIfInBounds k Z)
def cP(P:bt)(ops:Array Oper)(S:ak->Prop)(Q:Exit->Act->ak->Prop):rB->Act->ak->Prop
 | .nil,a,w=>Q .normal a w
 | .take i t,a,w=>bX P ops S (λ_ a w=>cP P ops S Q t a w) [((ops[i]?).getD default,Z)] a w
 | .one i t,a,w=>az P ops (Exit.then (λa w=>S w/\cP P ops S Q t a w) Q) [(ops[i]?).getD default] a w
 | .two i t j u,a,w=>az P ops (Exit.then (λa w=>S w/\cP P ops S Q t a w) Q) [(ops[i]?).getD default] a w/\az P ops (Exit.then (λa w=>S w/\cP P ops S Q u a w) Q) [(ops[j]?).getD default] a w
 | .three i t j u k v,a,w=>az P ops (Exit.then (λa w=>S w/\cP P ops S Q t a w) Q) [(ops[i]?).getD default] a w/\az P ops (Exit.then (λa w=>S w/\cP P ops S Q u a w) Q) [(ops[j]?).getD default] a w/\az P ops (Exit.then (λa w=>S w/\cP P ops S Q v a w) Q) [(ops[k]?).getD default] a w
def jF{Q:Exit->Act->ak->Prop}{K:Act->ak->Prop}{i:Nat}{o:Oper}(g:ops[i]? = X4 o){a:Act}{w:ak}(h:az P ops (Exit.then K Q) [o] a w):wpOp P ops Q i K a w:=by
 unfold wpOp;simp only[g];simp only[az] at h;split
 . rename_i c
   rw[J c] at h;rcases h with h | ⟨d,x,y,f⟩
   . refine .inl ?_
     unfold nf at h ⊢;generalize (dw a.eval o).run P w=j at *
     cases j with
     | ok n w' =>
      cases n <;> simp only[ot] at h ⊢ <;>
       first
        | exact h
        | exact Calls.mono h (λe k b=>by cases e <;> exact b)
        | exact Rows.mono h (λ_ _ b=>b)
     | halt x w'=>cases x <;> simp only[ot] at h ⊢ <;> exact h
   exact .inr ⟨d,x,y,f⟩
 rename_i c
 rw[X c] at h;exact h
def iL{Q:Exit->Act->ak->Prop}(hs:Region.noSelect ops=Z)(p:∀c d v a w,Q (.panic c) (Act.put a d v) w->Q (.panic c) a w):∀(t:rB) (f:Nat) (r:Array Bool) (a:Act) (w:ak),
 t.ok md ops f r=Z->S w->cP P ops S Q t a w->wpAnyH P md ops Q S f r a w
 | .nil,f,r,a,w,e,_,h=>by
  simp only[rB.ok,bg,beq_iff_eq] at e;obtain⟨rfl,h2⟩:=e;exact⟨by simpa using h2,h⟩
 | .take i t,f,r,a,w,e,s,h=>by
  simp only[rB.ok,bg,R] at e;obtain⟨⟨⟨⟨y,h1⟩,h2⟩,C⟩,q⟩:=e;obtain⟨o,n⟩:=ep.1 h1;simp only[cP,bX,n,dx] at h;obtain⟨v,H,hr⟩:=h;obtain⟨f,rfl⟩:∃g,f=g+1:=⟨f-1,by omega⟩
  exact wpAnyH_take n hs h2 C (λc a w=>p c _ v a w) H s (iL hs p t f _ _ _ q s hr)
 | .one i t,f,r,a,w,e,s,h=>by
  simp only[rB.ok,bg,R] at e;obtain⟨⟨⟨y,h1⟩,h2⟩,q⟩:=e;obtain⟨o,n⟩:=ep.1 h1;obtain⟨f,rfl⟩:∃g,f=g+1:=⟨f-1,by omega⟩
  refine wpAnyH_all h2 (by simp) λj E=>?_;obtain rfl:j=i:=by simpa using E
  simp only[cP,n,dx] at h;exact wpOp_mono (λl w' b=>⟨b.1,iL hs p t f _ l w' q b.1 b.2⟩) (jF n h)
 | .two i t j u,f,r,a,w,e,s,h=>by
  simp only[rB.ok,bg,R] at e;obtain⟨⟨⟨⟨⟨y,h1⟩,A⟩,h2⟩,q⟩,z⟩:=e;obtain⟨o,n⟩:=ep.1 h1;obtain⟨o',x⟩:=ep.1 A;obtain⟨f,rfl⟩:∃g,f=g+1:=⟨f-1,by omega⟩
  simp only[cP,n,x,dx] at h;refine wpAnyH_all h2 (by simp) λk F=>?_;have I:k=i\/k=j:=by simpa using F
  rcases I with rfl | rfl
  .exact wpOp_mono (λl w' b=>⟨b.1,iL hs p t f _ l w' q b.1 b.2⟩) (jF n h.1)
  exact wpOp_mono (λl w' b=>⟨b.1,iL hs p u f _ l w' z b.1 b.2⟩) (jF x h.2)
 | .three i t j u k v,f,r,a,w,e,s,h=>by
  simp only[rB.ok,bg,R] at e;obtain⟨⟨⟨⟨⟨⟨⟨y,h1⟩,A⟩,K⟩,h2⟩,q⟩,z⟩,D⟩:=e;obtain⟨o,n⟩:=ep.1 h1;obtain⟨o',x⟩:=ep.1 A;obtain⟨L,B⟩:=ep.1 K;obtain⟨f,rfl⟩:∃g,f=g+1:=⟨f-1,by omega⟩
  simp only[cP,n,x,B,dx] at h;refine wpAnyH_all h2 (by simp) λm G=>?_;have J:m=i\/m=j\/m=k:=by simpa using G
  rcases J with rfl | rfl | rfl
  .exact wpOp_mono (λl w' b=>⟨b.1,iL hs p t f _ l w' q b.1 b.2⟩) (jF n h.1)
  .exact wpOp_mono (λl w' b=>⟨b.1,iL hs p u f _ l w' z b.1 b.2⟩) (jF x h.2.1)
  exact wpOp_mono (λl w' b=>⟨b.1,iL hs p v f _ l w' D b.1 b.2⟩) (jF B h.2.2)
def Rk{id:Nat}{Q:Exit->Act->ak->Prop}{a:Act}{w:ak}{l:List Oper}(t:rB)(g:P.follows .mixedOrders=Z)(b:(Region.noSelect l.toArray&&t.ok .any l.toArray l.toArray.size (gv l.toArray.size X3))=Z)
 (e:∀c d v a w,Q (.panic c) (Act.put a d v) w->Q (.panic c) a w)
 (h:∀w',fJ w w'->∃S,at1 w' S/\cP P l.toArray S Q t a w'):(Code.region id l.toArray Z).wp P Q a w:=by
 simp only[bg] at b;obtain⟨S,f,h⟩:=h _ (fJ.refl w).drawn;exact wp_region_held (S:=S) g (iL (md:=.any) b.1 e t _ _ a _ b.2 f h)
variable {Q:Exit->Act->ak->Prop} {a:Act} {w:ak} {o o':Oper} {i j:Nat} {t u:rB}
def Gl(h:Q .normal a w):cP P ops S Q .nil a w:=h
def eT(b:(ops[i]?).getD default=o)(h:bX P ops S (λ_ a w=>cP P ops S Q t a w) [(o,Z)] a w):cP P ops S Q (.take i t) a w:=by subst b;exact h
def nT(b:(ops[i]?).getD default=o)(h:az P ops (Exit.then (λa w=>S w/\cP P ops S Q t a w) Q) [o] a w):cP P ops S Q (.one i t) a w:=by subst b;exact h
def abQ(c:(ops[i]?).getD default=o)(d:(ops[j]?).getD default=o')(h:az P ops (Exit.then (λa w=>S w/\cP P ops S Q t a w) Q) [o] a w)(b:az P ops (Exit.then (λa w=>S w/\cP P ops S Q u a w) Q) [o'] a w):cP P ops S Q (.two i t j u) a w:=by
 subst c;subst d;exact⟨h,b⟩
end
section
variable {P:bt} {ops:Array Oper} {md:Region.Mode} {w0:ak}
def YE(P:bt)(ops:Array Oper)(w0:ak)(o:Oper)(v:aj)(a:Act):Prop :=
 (Region.wanted o (yielded ops a.tmps)=Z/\∀w,fJ w0 w->o.quietAt P a (fJ w) w v)\/(Region.wanted o (yielded ops a.tmps)=X3/\v=undef)
def YE.of_same{o:Oper}{v:aj}{a b:Act}(e:YE P ops w0 o v a)(c:dw b.eval o=dw a.eval o)
 (d:Region.wanted o (yielded ops b.tmps)=Region.wanted o (yielded ops a.tmps)):YE P ops w0 o v b:=by
 unfold YE ml at *
 rw[c,d];exact e
def qE(P:bt)(ops:Array Oper)(w0:ak)(i:Nat)(K:Act->Prop)(a:Act):Prop:=∃o v,ops[i]? = X4 o/\YE P ops w0 o v a/\K (a.put o.dst v)
def anr{i:Nat}{a:Act}{K b:Act->Prop}(h:∀a,K a->b a)(d:qE P ops w0 i K a):qE P ops w0 i b a :=
 let ⟨o,v,h1,h2,c⟩:=d;⟨o,v,h1,h2,h _ c⟩
def aqG{j:Nat}{c d:Oper}{v:aj}(g:ops[j]? = X4 d)(n:c.apart ops d=Z)(p:∀cs b,c.op≠.select cs b)(q:∀cs b,d.op≠.select cs b){K:Act->Prop}{a:Act}
 (m:YE P ops w0 c v a) (h:qE P ops w0 j K (a.put c.dst v)):qE P ops w0 j (λe=>YE P ops w0 c v e/\K (e.put c.dst v)) a:=by
 obtain⟨h1,h2,f⟩:=Oper.apart_spec n;obtain⟨o,u,i,l,k⟩:=h;rw[g] at i;cases i;refine⟨d,u,g,l.of_same (execOp_put d q a c.dst v h1).symm (wanted_put d a c.dst v h1).symm,m.of_same (execOp_put c p a d.dst u f) (wanted_put c a d.dst u f),?_⟩;rw[<-Act.put_comm a v u h2];exact k
def Rl(P:bt)(md:Region.Mode)(ops:Array Oper)(w0:ak)(n:Nat)(L:Array Bool->Act->Prop):Nat->Array Bool->Act->Prop
 | 0,b,a=>L b a
 | f+1,b,a=>Region.ready md ops b≠[]/\∀i∈Region.ready md ops b,i<n/\qE P ops w0 i (Rl P md ops w0 n L f (b.setIfInBounds i Z)) a
def aan{n i:Nat}{d:Oper}{v:aj}{L:Array Bool->Act->Prop}(t:ops[i]? = X4 d)(B:∀(j:Nat) (o:Oper) cs b,ops[j]? = X4 o->o.op≠.select cs b)
 (hs:Region.sinkB md ops n=Z) (hc:Region.chainB md ops n=Z) (x:n<ops.size) (y:i<n)
 (Q:∀c a,L c a->∀j∈Region.ready md ops c,n<=j) :
 ∀(f:Nat) (c:Array Bool) (a:Act),HeadInv md ops n c ->
  (∀j m,ops[j]? = X4 m->j≠i->c.getD j Z=X3->(∀e∈m.after,Region.binds md e=Z->e.on≠i)->d.apart ops m=Z) ->
  i∈Region.ready md ops c->YE P ops w0 d v a ->
  Rl P md ops w0 n L f (c.setIfInBounds i Z) (a.put d.dst v)->Rl P md ops w0 n L (f+1) c a:=by
 intro f
 induction f with
 | zero =>
  intro c a s _ hr q H;have p:=(mem_ready.1 hr).1;refine⟨λh=>(by rw[h] at hr;cases hr),λj l=>?_⟩;have r:j<n:=by
   rcases eh j n with h | h
   .exact h
   exact Z8 l (tail_waits hs hc x s _ i O y p j h)
  refine⟨r,?_⟩;by_cases g:j=i
  .subst g;exact⟨d,v,t,q,H⟩
  have:=Q _ _ H j (ready_mono l g)
  omega
 | succ f ih =>
  intro c a s C hr q H;have p:=(mem_ready.1 hr).1;refine⟨λh=>(by rw[h] at hr;cases hr),λj l=>?_⟩;have r:j<n:=by
   rcases eh j n with h | h
   .exact h
   exact Z8 l (tail_waits hs hc x s _ i O y p j h)
  refine⟨r,?_⟩;by_cases g:j=i
  .subst g;exact⟨d,v,t,q,H⟩
  have h1:=(H.2 j (ready_mono l g)).2
  obtain⟨A,m,u,M⟩:=mem_ready.1 l;have N:∀e∈m.after,Region.binds md e=Z->e.on≠i:=λe F E I=>by
   have h1:=M e F E;rw[I,getD_both p] at h1;cases h1
  have h2:=aqG u (C j m u g A N) (λcs b=>B i d cs b t) (λcs b=>B j m cs b u) q h1;have R:∀k ok,ops[k]? = X4 ok->k≠i->(c.setIfInBounds j Z).getD k Z=X3 ->
   (∀e∈ok.after,Region.binds md e=Z->e.on≠i)->d.apart ops ok=Z:=λk ok G J p K=>by
   refine C k ok G J ?_ K;by_cases z:j=k
   .subst z;exact A
   rw[getD_set_ne Z z] at p;exact p
  refine anr (λD w=>ih (c.setIfInBounds j Z) D (s.set l r) R (ready_mono hr (Ne.symm g)) w.1 ?_) h2;rw[oe _ _ g];exact w.2
def Cs(P:bt)(ops:Array Oper)(w0:ak)(L:Act->Prop):List Oper->Act->Prop
 | [],a=>L a
 | o::r,a=>∃v,YE P ops w0 o v a/\Cs P ops w0 L r (a.put o.dst v)
def ai4(md:Region.Mode)(ops:Array Oper)(g n:Nat):List Nat->Array Bool->Bool
 | [],a=>Region.seqB md ops g n a
 | i::r,a=>(ops[i]?).isSome&&decide (i<n)&&(Region.ready md ops a).contains i&&Region.free md ops a i&&ai4 md ops g n r (a.setIfInBounds i Z)
def Rm{n g:Nat}{L:Act->Prop}(m:Region.noSelect ops=Z)(hs:Region.sinkB md ops n=Z)(hc:Region.chainB md ops n=Z)(f:n<ops.size) :
 ∀(l:List Nat) (b:Array Bool) (a:Act),HeadInv md ops n b->ai4 md ops g n l b=Z->Cs P ops w0 L (l.map λi=>(ops[i]?).getD default) a ->
 Rl P md ops w0 n (λp e=>Region.seqB md ops g n p=Z/\L e) l.length b a
 | [],b,a,_,c,h=>⟨by simpa[ai4] using c,h⟩
 | i::l,b,a,k,c,h=>by
  simp only[ai4,bg,R] at c;obtain⟨⟨⟨⟨h1,h2⟩,q⟩,r⟩,s⟩:=c;obtain⟨o,d⟩:=ep.1 h1;simp only[bi,Cs,d,dx] at h;obtain⟨v,u,hr⟩:=h;have j:i∈Region.ready md ops b:=by simpa using q
  exact aan d (Region.noSelect_spec m) hs hc f h2 (λp e t=>seqB_ready t.1) l.length b a k (Region.free_spec d r) j u (Rm m hs hc f l _ _ (k.set j h2) s hr)
structure Al where
 i:Nat
 d:Nat
 T:ba
 cs:List aj
def Ab(P:bt)(md:Region.Mode)(ops:Array Oper)(x:Al):Prop :=
 ∃ty pos after,ops[x.i]? = X4 (bu (X4 x.d) (.alloc x.T) ty pos after X5)/\(after.all λe=>!Region.binds md e)=Z/\∃z,nJ P x.T z/\z.cells=x.cs.toArray
def fT(E:Nat->Option aj):List Al->Act->Act
 | [],a=>a
 | x::r,a=>match E x.i with
  | some v=>fT E r (a.put (X4 x.d) v)
  | none=>fT E r a
def Ac(ops:Array Oper)(o:Oper)(al:List Al):Bool:=al.all λx=>!(o.looksAt ops).contains x.d&&o.dst != X4 x.d
def Cu{E:Nat->Option aj}{o:Oper}(hs:∀cs b,o.op≠.select cs b):∀{al:List Al},Ac ops o al=Z->∀a,dw (fT E al a).eval o=dw a.eval o/\Region.wanted o (yielded ops (fT E al a).tmps)=Region.wanted o (yielded ops a.tmps)
 | [],_,a=>⟨rfl,rfl⟩
 | x::r,hc,a=>by
  simp only[Ac,List.all_cons,bg,fp] at hc;have hr:Ac ops o r=Z:=by simp only[Ac,bg,fp] ;simpa using hc.2
  have c:x.d∉o.looksAt ops:=by simpa using hc.1.1
  unfold fT;split
  . obtain⟨h1,h2⟩:=Cu (E:=E) hs hr (a.put (X4 x.d) _)
    rename_i v _;exact⟨h1.trans (execOp_put o hs a (X4 x.d) v (λd e=>by cases e;exact c)),h2.trans (wanted_put o a (X4 x.d) v (λd e=>by cases e;exact c))⟩
  exact Cu hs hr a
def Hh{E:Nat->Option aj}{o:Oper}{v:aj}:∀{al:List Al},Ac ops o al=Z->∀a,(fT E al a).put o.dst v=fT E al (a.put o.dst v)
 | [],_,a=>rfl
 | x::r,hc,a=>by
  simp only[Ac,List.all_cons,bg,fp,bne_iff_ne,ne_eq] at hc;have hr:Ac ops o r=Z:=by simp only[Ac,bg,fp] ;simpa using hc.2
  unfold fT;split
  . rename_i u _
    rw[Hh hr,Act.put_comm a u v (λd e=>by cases e;exact hc.1.2)]
  exact Hh hr a
def Rn{E:Nat->Option aj}{x:Al}{v:aj}:∀{al:List Al},(al.map (·.i)).Nodup->(al.map (·.d)).Nodup->x∈al->E x.i=X5->∀a,(fT E al a).put (X4 x.d) v=fT (λj=>if j=x.i then X4 v else E j) al a
 | [],_,_,hx,_,_=>by cases hx
 | y::r,c,f,hx,g,a=>by
  simp only[bi,g_] at c f;have same:∀(l:List Al),x.i∉l.map (·.i)->∀a,fT (λj=>if j=x.i then X4 v else E j) l a=fT E l a:=by
   intro l
   induction l with
   | nil=>intro _ a;rfl
   | cons z l ih =>
    intro b a;simp only[bi,ap,not_or] at b;unfold fT;simp only[Ne.symm b.1,Y4];split <;> exact ih b.2 _
  have push:∀(l:List Al),x.d∉l.map (·.d)->∀a,(fT E l a).put (X4 x.d) v=fT E l (a.put (X4 x.d) v):=by
   intro l
   induction l with
   | nil=>intro _ a;rfl
   | cons z l ih =>
    intro b a;simp only[bi,ap,not_or] at b;unfold fT;split
    . rename_i u _
      rw[ih b.2,Act.put_comm a u v (λd e=>by cases e;simp;exact b.1)]
    exact ih b.2 _
  rcases ap.1 hx with rfl | hx
  . unfold fT
    simp only[g,K0];rw[push r f.1,same r c.1]
  have h:y.i≠x.i:=λe=>c.1 (by rw[e];exact fl hx)
  unfold fT;simp only[h,Y4];split <;> exact Rn c.2 f.2 hx g _
def cnt(E:Nat->Option aj)(al:List Al):Nat:=(al.filter λx=>(E x.i).isNone).length
def Ja{E:Nat->Option aj}{x:Al}{v:aj}:∀{al:List Al},(al.map (·.i)).Nodup->x∈al->E x.i=X5->cnt E al=cnt (λj=>if j=x.i then X4 v else E j) al+1
 | [],_,hx,_=>by cases hx
 | y::r,a,hx,c=>by
  simp only[bi,g_] at a;have same:∀(l:List Al),x.i∉l.map (·.i)->cnt (λj=>if j=x.i then X4 v else E j) l=cnt E l:=by
   intro l
   induction l with
   | nil=>intro _;rfl
   | cons z l ih =>
    intro b;simp only[bi,ap,not_or] at b;have:=ih b.2;unfold cnt at *
    rw[fk,fk];simp only[Ne.symm b.1,Y4];split <;> simp[this]
  rcases ap.1 hx with rfl | hx
  . have:=same r a.1
    unfold cnt at *
    rw[fk,fk];simp[c,this]
  have d:y.i≠x.i:=λe=>a.1 (by rw[e];exact fl hx)
  have:=Ja (v:=v) a.2 hx c;unfold cnt at *
  rw[fk,fk];simp only[d,Y4];split <;> simp[this]
def abR{E:Nat->Option aj}{al:List Al}(h:cnt E al=0):∀x∈al,∃v,E x.i=X4 v:=λx b=>by
 unfold cnt at h;have:=List.filter_eq_nil_iff.1 (ft h) x b;cases a:E x.i with
 | none=>simp[a] at this
 | some v=>exact⟨v,rfl⟩
def ans{E:Nat->Option aj}{al:List Al}(h:0<cnt E al):∃x∈al,E x.i=X5:=by
 unfold cnt at h;obtain⟨x,a⟩:=List.length_pos_iff_exists_mem.1 h;obtain⟨h1,h2⟩:=ct.1 a;exact⟨x,h1,by simpa using h2⟩
def Lx(base:Nat)(E:Nat->Option aj)(al:List Al)(w:ak):Prop :=
 (∀x∈al,∀v,E x.i=X4 v->∃g,v=.pointer (X4 ⟨g,0,X5⟩)/\base<=g/\fQ w g x.cs x.T) /\
 (∀x∈al,∀y∈al,x.i≠y.i->∀g a,E x.i=X4 (.pointer (X4 ⟨g,0,X5⟩))->E y.i=X4 (.pointer (X4 ⟨a,0,X5⟩))->g≠a)
def Lx.ext{base:Nat}{E:Nat->Option aj}{al:List Al}{w w':ak}(h:Lx base E al w)(b:fJ w w'):Lx base E al w' :=
 ⟨λx f v d=>let ⟨g,e,c,a⟩:=h.1 x f v d;⟨g,e,c,a.ext b⟩,h.2⟩
def Lx.new{base:Nat}{E:Nat->Option aj}{al:List Al}{w:ak}(h:Lx base E al w){x:Al}(m:x∈al)(f:(al.map (·.i)).Nodup)(u:E x.i=X5)(s:base<=w.heap.size) :
 Lx base (λj=>if j=x.i then X4 (.pointer (X4 ⟨w.heap.size,0,X5⟩)) else E j) al (w.alloc (.cells x.cs.toArray x.T)):=by
 have t:∀y∈al,y.i=x.i->y=x:=by
  intro y a e;clear h
  induction al with
  | nil=>cases m
  | cons z r ih =>
   simp only[bi,g_] at f;rcases ap.1 m with rfl | hx'
   . rcases ap.1 a with rfl | hy'
     .rfl
     exact Z8 (by rw[<-e];exact fl hy') f.1
   rcases ap.1 a with rfl | hy'
   .exact Z8 (by rw[e];exact fl hx') f.1
   exact ih hx' f.2 hy'
 refine⟨λy a v k=>?_,λy a z n o g p h1 h2=>?_⟩
 . by_cases e:y.i=x.i
   . obtain rfl:=t y a e
     simp only[K0] at k;cases k;exact⟨_,O,s,iV w _ _⟩
   simp only[e,Y4] at k
   obtain⟨g,b,l,c⟩:=h.1 y a v k;exact⟨g,b,l,c.ext ((fJ.refl w).alloc _)⟩
 by_cases e:y.i=x.i
 . have d:z.i≠x.i:=λl=>o (e.trans l.symm)
   simp only[e,K0] at h1;simp only[d,Y4] at h2;cases h1;obtain⟨q,b,_,c⟩:=h.1 z n _ h2;cases b;exact Nat.ne_of_gt c.lt
 by_cases d:z.i=x.i
 . simp only[e,Y4] at h1
   simp only[d,K0] at h2;cases h2;obtain⟨q,b,_,c⟩:=h.1 y a _ h1;cases b;exact Nat.ne_of_lt c.lt
 simp only[e,Y4] at h1
 simp only[d,Y4] at h2;exact h.2 y a z n o g p h1 h2
def aao(md:Region.Mode)(ops:Array Oper)(n:Nat)(al:List Al):Bool :=
 decide ((al.map (·.i)).Nodup)&&decide ((al.map (·.d)).Nodup)&&(al.all λx=>decide (x.i<n)) &&
 ((ke n).all λj=>(al.any λx=>x.i == j)||match ops[j]? with
  | some o=>Ac ops o al&&o.after.all λe=>!Region.binds md e || !(al.any λx=>x.i == e.on)
  | none=>Z)
def sim{n g:Nat}{al:List Al}{L:Act->Prop}{Q':Exit->Act->ak->Prop}{tl:List Oper}(aV:Region.noSelect ops=Z)(hs:Region.sinkB md ops n=Z)(hc:Region.chainB md ops n=Z)(hn:n<ops.size)
 (ar:∀x∈al,Ab P md ops x) (hB:aao md ops n al=Z) (aJ:∀j,tl[j]? = ops[n+j]?) (au:tl.length=g)
 (hL:∀a E w,fJ w0 w->Lx w0.heap.size E al w->(∀x∈al,∃v,E x.i=X4 v)->L a->az P ops Q' tl (fT E al a) w) :
 ∀(k f:Nat) (E:Nat->Option aj) (c p:Array Bool) (a:Act) (w:ak),k=f+cnt E al->HeadInv md ops n c->p.size=c.size->(∀j,p.getD j X3=(c.getD j X3||al.any λx=>x.i == j)) ->
  (∀x∈al,(E x.i=X5↔c.getD x.i X3=X3))->fJ w0 w->Lx w0.heap.size E al w ->
  Rl P md ops w0 n (λaY a'=>Region.seqB md ops g n aY=Z/\L a') f p a->wpAny P md ops Q' (k+g) c (fT E al a) w:=by
 simp only[aao,bg,R,fe,kf] at hB;obtain⟨⟨⟨ah,aF⟩,aE⟩,ab⟩:=hB;intro k
 induction k with
 | zero =>
  intro f E c p a w hk t K s B G Y H;obtain rfl:f=0:=by omega
  have h0:cnt E al=0:=by omega
  have aa:=abR h0;have aA:p=c:=by
   apply rq K;intro j h1 h2;have m:=s j;simp only[ng,ii h1,ii h2,dx] at m;rw[m];cases aD:c[j] with
   | true=>rfl
   | false =>
    rw[jt];cases aP:al.any λx=>x.i == j with
    | false=>rfl
    | true =>
     obtain⟨x,l,F⟩:=et.1 aP;have an:x.i=j:=by simpa using F
     obtain⟨v,D⟩:=aa x l;have:c.getD x.i X3=X3:=by
      rw[an,ng,ii h2];simpa using aD
     rw[(B x l).2 this] at D;cases D
  subst aA;obtain⟨H1,H2⟩:=H;rw[ai,<-au];exact wpAny_of_seq (md:=md) tl n p _ w aJ (by rw[au];exact H1) (hL a E w G Y aa H2)
 | succ k ih =>
  intro f E c p a w hk t K s B G Y H;have ax:∀j,j<ops.size->c.getD j X3=X3->c.getD j Z=X3:=λj V h=>getD_in (by rw[t.size];exact V) h
  -- some head operation is not listed
  have aX:∃j,j∈Region.ready md ops c/\j<n:=by
   rcases ji (cnt E al) with h0 | h0
   . obtain⟨f,rfl⟩:∃q,f=q+1:=⟨f-1,by omega⟩
     obtain⟨aG,hr⟩:=H;obtain⟨j,V⟩:=List.exists_mem_of_ne_nil _ aG;have aB:=(hr j V).1;refine⟨j,?_,aB⟩;have aa:=abR h0;obtain⟨aC,oj,aH,ap⟩:=mem_ready.1 V;refine mem_ready.2 ⟨?_,oj,aH,λe C N=>?_⟩
     . have h1:=s j
       rw[getD_both aC] at h1;have h2:c.getD j X3=X3:=by
        cases h:c.getD j X3 with
        | false=>rfl
        | true=>rw[h] at h1;simp at h1
       exact ax j (by omega) h2
     have h1:=s e.on
     rw[ap e C N] at h1;cases h:c.getD e.on X3 with
     | true=>rfl
     | false =>
      rw[h,jt] at h1;obtain⟨x,l,F⟩:=et.1 h1.symm;have an:x.i=e.on:=by simpa using F
      obtain⟨v,D⟩:=aa x l;rw[(B x l).2 (by rw[an];exact h)] at D;cases D
   obtain⟨x,l,F⟩:=ans h0
   obtain⟨ty,pos,after,am,aq,_⟩:=ar x l;have aK:x.i<n:=by simpa using aE x l
   refine⟨x.i,mem_ready.2 ⟨ax _ (by omega) ((B x l).1 F),_,am,λe C N=>?_⟩,aK⟩;have:=Array.all_eq_true_iff_forall_mem.1 aq e C;simp[N] at this
  obtain⟨j0,ag,aS⟩:=aX;have aT:=(mem_ready.1 ag).1;rw[show k+1+g=(k+g)+1 by omega];refine⟨λh=>(by rw[h] at ag;cases ag),λi U=>?_⟩;have af:i<n:=by
   rcases eh i n with h | h
   .exact h
   exact Z8 U (tail_waits hs hc hn t _ j0 O aS aT i h)
  obtain⟨av,Q,S,ap⟩:=mem_ready.1 U;by_cases ae:al.any (λx=>x.i == i)=Z
  . -- an allocation
    obtain⟨x,l,F⟩:=et.1 ae;obtain rfl:x.i=i:=by simpa using F
    obtain⟨ty,pos,after,am,aq,z,hz,aN⟩:=ar x l;have ad:E x.i=X5:=(B x l).2 (getD_both av);obtain⟨a0,aQ,aR⟩:=hz;unfold wpOp;simp only[am];rw[J (by simp[Region.wanted])];refine .inl ?_;have aU:∀ρ:b_->aj,(dw ρ (bu (X4 x.d) (.alloc x.T) ty pos after X5)).run P w=.ok (.value (.pointer (X4 ⟨w.heap.size,0,X5⟩))) (w.alloc (.cells x.cs.toArray x.T)):=λρ=>by
     simp[dw,Instr.alloc,zeroValue,typeInfo,aQ,aR,newVar,newRow,aN,newObj,Sem.run]
    unfold nf;rw[aU];show wpAny P md ops Q' (k+g) (c.setIfInBounds x.i Z) ((fT E al a).put (X4 x.d) (.pointer (X4 ⟨w.heap.size,0,X5⟩))) _
    rw[Rn ah aF l ad];have aZ:=Ja (v:=.pointer (X4 ⟨w.heap.size,0,X5⟩)) ah l ad;have aL:x.i<c.size:=by rw[t.size];omega
    refine ih f _ _ p a _ (by omega) (t.set U af) (by simp[K]) (λj=>?_) (λy I=>?_) (G.alloc _) (Y.new l ah ad G.size) H
    . rw[s j]
      by_cases e:x.i=j
      . subst e
        rw[ae];simp
      rw[getD_set_ne X3 e]
    by_cases e:x.i=y.i
    . rw[<-e]
      simp[aL]
    rw[getD_set_ne X3 e]
    simp only[Ne.symm e,Y4];exact B y I
  -- an operation that computes
  have ao:al.any (λx=>x.i == i)=X3:=by simpa using ae
  have W:=ab i af;rw[ao,jt,S] at W;simp only[bg] at W;have ay:i∈Region.ready md ops p:=by
   refine mem_ready.2 ⟨?_,Q,S,λe C N=>by rw[s,ap e C N];rfl⟩;have h1:=s i;rw[getD_both av,ao] at h1;exact getD_in (by rw[K,t.size];omega) (by simpa using h1)
  cases f with
  | zero =>
   obtain⟨H1,H2⟩:=H;have:=seqB_ready H1 i ay;omega
  | succ f =>
   obtain⟨_,o,v,ho,I,hK⟩:=H.2 i ay;rw[S] at ho;cases ho;have aI:∀cs b,Q.op≠.select cs b:=λcs b=>Region.noSelect_spec aV i Q cs b S;obtain⟨A,M⟩:=Cu (E:=E) aI W.1 a;have aM:=I.of_same A M;have key:∀w',fJ w w'->wpAny P md ops Q' (k+g) (c.setIfInBounds i Z) ((fT E al a).put Q.dst v) w':=λw' aw=>by
    rw[Hh W.1];refine ih f E _ _ _ w' (by omega) (t.set U af) (by simp[K]) (λj=>?_) (λy I=>?_) (G.trans aw) (Y.ext aw) hK
    . by_cases e:i=j
      . subst e
        have h1:i<c.size:=by rw[t.size];omega
        simp[h1,K]
      rw[getD_set_ne X3 e,getD_set_ne X3 e,s j]
    have e:i≠y.i:=λe=>by
     have:al.any (λx=>x.i == i)=Z:=et.2 ⟨y,I,by simp[e]⟩;rw[ao] at this;cases this
    rw[getD_set_ne X3 e];exact B y I
   unfold wpOp;simp only[S];rcases aM with ⟨hw,D⟩ | ⟨hw,rfl⟩
   . rw[J hw]
     refine .inl ?_;have m:=D w G;unfold ml at m;unfold nf;generalize (dw (fT E al a).eval Q).run P w=r at *
     cases r with
     | ok nx w' =>
      cases nx <;> simp only[Oper.quietUpon] at m <;> simp only[ot]
      case value u =>
       obtain⟨A,M⟩:=m;rw[A,M];exact key w (fJ.refl w)
      case skip =>
       obtain⟨A,M⟩:=m;rw[A,<-M];exact key w (fJ.refl w)
      case enter f' args =>
       obtain⟨A,ab⟩:=m;rw[A];exact ab.mono λe aO ⟨C,aW⟩=>by subst C;exact key aO aW
     | halt x w'=>simp only[Oper.quietUpon] at m
   rw[X (by rw[hw];simp)]
   exact key w (fJ.refl w)
def dR{id:Nat}{Q:Exit->Act->ak->Prop}{a:Act}{w:ak}{l:List Oper}(n:Nat)(f:List Nat)(al:List Al)(W:P.follows .mixedOrders=Z)
 (u:(Region.noSelect l.toArray&&decide (n<l.length)&&Region.sinkB .any l.toArray n&&Region.chainB .any l.toArray n&&aao .any l.toArray n al&&decide (n=f.length+al.length) &&
  ai4 .any l.toArray (l.length-n) n f (al.foldl (λs x=>s.setIfInBounds x.i Z) (gv l.toArray.size X3)))=Z)
 (B:∀x∈al,Ab P .any l.toArray x) {ol:List Oper} (ag:(f.map λi=>(l.toArray[i]?).getD default)=ol)
 (h:∀b,fJ w b->Cs P l.toArray b (λN=>∀E w',fJ b w'->Lx b.heap.size E al w'->(∀x∈al,∃v,E x.i=X4 v)->az P l.toArray Q (l.drop n) (fT E al N) w') ol a):(Code.region id l.toArray Z).wp P Q a w:=by
 simp only[bg,R] at u;obtain⟨⟨⟨⟨⟨⟨L,X⟩,hs⟩,hc⟩,z⟩,an⟩,K⟩:=u;subst ag;have F:n<l.toArray.size:=by simpa using X
 have C:=z;simp only[aao,bg,R,fe,kf] at C;obtain⟨⟨⟨av,au⟩,D⟩,ar⟩:=C;generalize ae:al.foldl (λs x=>s.setIfInBounds x.i Z) (gv l.toArray.size X3)=d at K;have aq:∀(r:List Al) (s:Array Bool),(r.foldl (λs x=>s.setIfInBounds x.i Z) s).size=s.size/\∀j,j<s.size->(r.foldl (λs x=>s.setIfInBounds x.i Z) s).getD j X3=(s.getD j X3||r.any λx=>x.i == j):=by
  intro r
  induction r with
  | nil=>intro s;exact⟨O,λj _=>by simp⟩
  | cons x r ih =>
   intro s;obtain⟨h1,h2⟩:=ih (s.setIfInBounds x.i Z);refine⟨by rw[jx,h1];simp,λj hj=>?_⟩;rw[jx,h2 j (by simpa using hj),List.any_cons];by_cases e:x.i=j
   . subst e
     simp[hj]
   have S:(x.i == j)=X3:=by simpa using e
   rw[getD_set_ne X3 e,S,jt]
 obtain⟨H,J⟩:=aq al (gv l.toArray.size X3);rw[ae] at H J;have q:d.size=l.toArray.size:=by rw[H];simp
 have p:∀j,d.getD j X3=al.any λx=>x.i == j:=λj=>by
  rcases eh j l.toArray.size with hj | hj
  .rw[J j (by simpa using hj),getD_replicate_false,jt]
  have h1:d.getD j X3=X3:=by rw[ng,mn (by omega)];rfl
  rw[h1]
  symm
  rw[Bool.eq_false_iff];intro h2;obtain⟨x,c,m⟩:=et.1 h2;have o:x.i=j:=by simpa using m
  have:x.i<n:=by simpa using D x c
  omega
 have ao:HeadInv .any l.toArray n (gv l.toArray.size X3) :=
  ⟨by simp,λj oj _ k=>(by rw[getD_replicate_false] at k;cases k),λt _ A=>getD_in (by simpa using A) (getD_replicate_false _ _)⟩
 have ap:HeadInv .any l.toArray n d:=by
  refine⟨q,λj oj af k e V U=>?_,λt A ah=>getD_in (by rw[q];exact ah) ?_⟩
  . rw[p] at k
    obtain⟨x,c,m⟩:=et.1 k;have o:x.i=j:=by simpa using m
    obtain⟨ty,pos,after,G,aa,_⟩:=B x c;rw[o,af] at G;cases G;have:=Array.all_eq_true_iff_forall_mem.1 aa e V;simp[U] at this
  rw[p,Bool.eq_false_iff]
  intro h2;obtain⟨x,c,m⟩:=et.1 h2;have o:x.i=t:=by simpa using m
  have:x.i<n:=by simpa using D x c
  omega
 refine wp_region_any W ?_;obtain⟨b,I⟩:∃b,b=({ w with drawn:=w.drawn+1 }:ak):=⟨_,rfl⟩
 rw[<-I];have c:fJ w b:=by rw[I];exact (fJ.refl w).drawn
 have M:=Rm (md:=.any) (g:=l.length-n) L hs hc F f d a ap K (h b c);have am:cnt (λ_=>X5) al=al.length:=by
  unfold cnt;simp
 have key:=sim (md:=.any) (P:=P) (ops:=l.toArray) (w0:=b) (Q':=Q) (tl:=l.drop n) (g:=l.length-n) (al:=al) L hs hc F B z (λj=>by simp[dl]) (by simp) (λa E w' ai ad aj T=>T E w' ai ad aj)
  (f.length+al.length) f.length (λ_=>X5) (gv l.toArray.size X3) d a b (by rw[am]) ao (by rw[q];simp) (λj=>by rw[getD_replicate_false,jt];exact p j)
  (λx _=>⟨λ_=>getD_replicate_false _ _,λ_=>rfl⟩) (fJ.refl b) ⟨λx _ v Y=>(by cases Y),λx _ y _ _ g g' h1 _=>(by cases h1)⟩ M
 have ab:∀r:List Al,fT (λ_=>X5) r a=a:=by
  intro r
  induction r with
  | nil=>rfl
  | cons x r ih=>exact ih
 rw[ab,<-an] at key;have e:n+(l.length-n)=l.toArray.size:=by rw[ib];omega
 rwa [e] at key
end
section
variable {P:bt} {ops:Array Oper} {w0:ak} {L:Act->Prop} {ds:List ej} {l:List aj} {rest:List Oper} {d:Nat} {op:Op} {ty:ba} {pos:String} {after:Array Edge} {v:aj} {x y:b_} {T:ba}
def ai5(hr:∀w,fJ w0 w->Cb P l op ty v w)(h:Cs P ops w0 L rest (Fr (l.set d v) ds)):Cs P ops w0 L (bu (X4 d) op ty pos after X5::rest) (Fr l ds):=by
 refine⟨v,.inl ⟨by simp[Region.wanted],λw a=>?_⟩,?_⟩
 . unfold ml
   rw[jY,hr w a _ rfl rfl];exact⟨O,O⟩
 show Cs P ops w0 L rest ((Fr l ds).put (X4 d) v)
 rw[gI];exact h
def eG(hr:iB P l op ty v)(h:Cs P ops w0 L rest (Fr (l.set d v) ds)):Cs P ops w0 L (bu (X4 d) op ty pos after X5::rest) (Fr l ds):=ai5 (λw _=>hr w) h
def cO{a:Addr}(e:ev l x=.pointer (X4 a))(c:∀w',fJ w0 w'->dQ P w' T a v)(h:Cs P ops w0 L rest (Fr (l.set d v) ds)):Cs P ops w0 L (bu (X4 d) (.load T x) ty pos after X5::rest) (Fr l ds) :=
 ai5 (λ_ b=>bD e (c _ b)) h
def afN{f:FuncId}{a:b_}{xs:Array b_}{args:List aj}{first cap:Array aj}{a0:Array ba}(g:ev l a=.func (.func f) first cap)(i:first.toList++xs.toList.map (ev l)++cap.toList=args)(hc:∀w',fJ w0 w'->cY P f args w' λu _=>u=v)
 (h:Cs P ops w0 L rest (Fr (l.set d v) ds)):Cs P ops w0 L (bu (X4 d) (.call { callee:=.value a,args:=xs,argTypes:=a0 }) ty pos after X5::rest) (Fr l ds):=by
 refine⟨v,.inl ⟨by simp[Region.wanted],λw b=>?_⟩,?_⟩
 . unfold ml
   rw[jY,pT (hc w b).1 g i _ rfl];refine⟨O,(hc w b).2.mono ?_⟩;rintro e j ⟨u,rfl,c,rfl⟩;exact⟨O,c⟩
 show Cs P ops w0 L rest ((Fr l ds).put (X4 d) v)
 rw[gI];exact h
def cM{f:FuncId}{a:b_}{xs:Array b_}{args:List aj}{first cap:Array aj}{a0:Array ba}(b:ev l a=.func (.func f) first cap)(c:first.toList++xs.toList.map (ev l)++cap.toList=args)(hc:dF P f args v)
 (h:Cs P ops w0 L rest (Fr (l.set d v) ds)):Cs P ops w0 L (bu (X4 d) (.call { callee:=.value a,args:=xs,argTypes:=a0 }) ty pos after X5::rest) (Fr l ds) :=
 afN b c (λw' _=>hc w') h
def vB(h:L (Fr l ds)):Cs P ops w0 L [] (Fr l ds):=h
def al1{md:Region.Mode}{x:Al}(h:Ab P md ops x):∀y∈[x],Ab P md ops y:=λy hy=>by
 rcases ap.1 hy with rfl | hy
 .exact h
 cases hy
def al2{md:Region.Mode}{x y:Al}(h:Ab P md ops x)(k:Ab P md ops y):∀z∈[x,y],Ab P md ops z:=λz hz=>by
 rcases ap.1 hz with rfl | hz
 .exact h
 exact al1 k z hz
variable {Q:Exit->Act->ak->Prop} {tl:List Oper}
def aqH{i d:Nat}{T:ba}{cs:List aj}(h:∀w' g,fJ w0 w'->w0.heap.size<=g->fQ w' g cs T->az P ops Q tl (Fr (l.set d (.pointer (X4 ⟨g,0,X5⟩))) ds) w') :
 ∀E w',fJ w0 w'->Lx w0.heap.size E [⟨i,d,T,cs⟩] w'->(∀x∈[(⟨i,d,T,cs⟩:Al)],∃v,E x.i=X4 v)->az P ops Q tl (fT E [⟨i,d,T,cs⟩] (Fr l ds)) w':=λE w' c f a=>by
 obtain⟨v,a⟩:=a ⟨i,d,T,cs⟩ (by simp);obtain⟨g,rfl,j,b⟩:=f.1 ⟨i,d,T,cs⟩ (by simp) v a;have e:fT E [⟨i,d,T,cs⟩] (Fr l ds)=Fr (l.set d (.pointer (X4 ⟨g,0,X5⟩))) ds:=by
  simp only[fT,a];exact gI _ _
 rw[e];exact h w' g c j b
def aqI{i d j e:Nat}{T U:ba}{cs us:List aj}(q:i≠j)(h:∀w' g k,fJ w0 w'->w0.heap.size<=g->w0.heap.size<=k->fQ w' g cs T->fQ w' k us U->k≠g->az P ops Q tl (Fr ((l.set d (.pointer (X4 ⟨g,0,X5⟩))).set e (.pointer (X4 ⟨k,0,X5⟩))) ds) w') :
 ∀E w',fJ w0 w'->Lx w0.heap.size E [⟨i,d,T,cs⟩,⟨j,e,U,us⟩] w'->(∀x∈[(⟨i,d,T,cs⟩:Al),⟨j,e,U,us⟩],∃v,E x.i=X4 v)->az P ops Q tl (fT E [⟨i,d,T,cs⟩,⟨j,e,U,us⟩] (Fr l ds)) w':=λE w' m a b=>by
 obtain⟨v,h1⟩:=b ⟨i,d,T,cs⟩ (by simp);obtain⟨u,h2⟩:=b ⟨j,e,U,us⟩ (by simp);obtain⟨g,rfl,o,f⟩:=a.1 ⟨i,d,T,cs⟩ (by simp) v h1;obtain⟨k,rfl,p,n⟩:=a.1 ⟨j,e,U,us⟩ (by simp) u h2;have c:fT E [⟨i,d,T,cs⟩,⟨j,e,U,us⟩] (Fr l ds)=Fr ((l.set d (.pointer (X4 ⟨g,0,X5⟩))).set e (.pointer (X4 ⟨k,0,X5⟩))) ds:=by
  simp only[fT,h1,h2];rw[gI,gI]
 rw[c];exact h w' g k m o p f n (Ne.symm (a.2 ⟨i,d,T,cs⟩ (by simp) ⟨j,e,U,us⟩ (by simp) q g k h1 h2))
end
end
section
section
variable {P:bt} {ops:Array Oper} {w0:ak} {ds:List ej} {l:List aj} {Q:Exit->Act->ak->Prop} {tl:List Oper}
end
end
section
open Go.RowKit
variable{n cap c:Nat}{w:ak}{A:Option Addr}{a:Addr}{E t:ba}{α:Type}
section
variable {P:bt} {ds:List ej} {l:List aj} {T ty:ba} {ops:Array Oper} {Q:Exit->Act->ak->Prop} {rest:List Oper} {d:Nat} {pos:String} {after:Array Edge} {w:ak}
def kK{E:ba}{c n:Nat}{z:aj}{parts:Array (Nat × b_)}{vs:Array (Nat × aj)}{base:Array aj}{cs:List aj}(q:P.underlying T=X4 (.slice E))(a:(P.info? E).map (λi=>(i.size,i.zero))=X4 (c,X4 z))(k:n*c≠0)(s:n*c<=16777216)
 (m:((qm (n*c)).map λi=>z.cells[i%z.cells.size]!)=base) (hp:(parts.map λ(i,x)=>(i,ev l x))=vs) (b:Instr.fill (λi=>X4 (i*c,c)) base vs.toList=X4 cs.toArray)
 (h:∀w' g,fJ w w'->w.heap.size<=g->fQ w' g cs E->az P ops Q rest (Fr (l.set d (.slice (X4 ⟨g,0,X5⟩) n n)) ds) w') :
 az P ops Q (bu (X4 d) (.buildSlice T n parts) ty pos after X5::rest) (Fr l ds) w:=by
 subst m;subst hp;cases hq:P.info? E with
 | none=>rw[hq] at a;cases a
 | some i =>
  rw[hq] at a;simp only[gh,ik,gl] at a;obtain⟨f,j⟩:=a;have e:(Fr l).eval=ev l:=funext cN;have r:¬16777216<n*c:=by omega
  refine mG (w':=w.alloc (.cells cs.toArray E)) (v:=.slice (X4 ⟨w.heap.size,0,X5⟩) n n) (λo p _=>?_) (h _ _ ((fJ.refl w).alloc _) (ar _) (iV w cs E));simp only[dw,p,e];simp[Instr.buildSlice,cl q,sizeOf,typeInfo,zeroValue,hq,f,j,r,newRow,newObj,Sem.run] at b ⊢;rw[X k];simp[b];rfl
end
def nv(v:H):Go.Value:=.agg #[X6 v.x,X6 v.y,X6 v.z]
def sg(v:H):Go.Value:=.agg #[X6 (bA v.x),X6 (bA v.y),X6 (bA v.z)]
class S3(p:H):Prop where
 x:p.x.natAbs<262144
 y:p.y.natAbs<262144
 z:p.z.natAbs<262144
class N3(p:H):Prop where
 x:p.x.natAbs<524288
 y:p.y.natAbs<524288
 z:p.z.natAbs<524288
instance {p q:H}[a:S3 p][b:S3 q]:N3 (p.sub q):=⟨by have:=a.x;have:=b.x;simp only[H.sub];omega,by have:=a.y;have:=b.y;simp only[H.sub];omega,by have:=a.z;have:=b.z;simp only[H.sub];omega⟩
def Cc{a b:Int}(c:a.natAbs<524288)(d:b.natAbs<524288) : -274877906944<a*b/\a*b<274877906944:=by
 have h:(a*b).natAbs<=524287*524287:=by rw[Int.natAbs_mul];exact lz (by omega) (by omega)
 omega
def aqJ{x y:Int}(h : -274877906944<x/\x<274877906944)(k : -274877906944<y/\y<274877906944):IntKind.i64.wrap (x-y)=x-y:=bZ (by omega) (by omega)
def Xd{x:Int}(h : -274877906944<x/\x<274877906944):IntKind.i64.wrap x=x:=bZ (by omega) (by omega)
def Bq{v:Int}(h:rS v):IntKind.u64.wrap (if v<IntKind.i64.wrap (0-v) then IntKind.i64.wrap (0-v) else v)=(v.natAbs:Int):=by
 obtain⟨h1,h2⟩:=h;rcases Int.lt_or_le (-9223372036854775808) v with h3 | h3
 . rw[bZ (x:=0-v) (by omega) (by omega),mD]
   split <;> omega
 obtain rfl:v = -9223372036854775808:=by omega
 decide
def ant:ByteArray:=⟨#[0,1,2,2,3,3,3,3,4,4,4,4,4,4,4,4,5,5,5,5,5,5,5,5,5,5,5,5,5,5,5,5,6,6,6,6,6,6,6,6,6,6,6,6,6,6,6,6,6,6,6,6,6,6,6,6,6,6,6,6,6,6,6,6,7,7,7,7,7,7,7,7,7,7,7,7,7,7,7,7,7,7,7,7,7,7,7,7,7,7,7,7,7,7,7,7,7,7,7,7,7,7,7,7,7,7,7,7,7,7,7,7,7,7,7,7,7,7,7,7,7,7,7,7,7,7,7,7,8,8,8,8,8,8,8,8,8,8,8,8,8,8,8,8,8,8,8,8,8,8,8,8,8,8,8,8,8,8,8,8,8,8,8,8,8,8,8,8,8,8,8,8,8,8,8,8,8,8,8,8,8,8,8,8,8,8,8,8,8,8,8,8,8,8,8,8,8,8,8,8,8,8,8,8,8,8,8,8,8,8,8,8,8,8,8,8,8,8,8,8,8,8,8,8,8,8,8,8,8,8,8,8,8,8,8,8,8,8,8,8,8,8,8,8,8,8,8,8,8,8,8,8,8,8,8,8]⟩
def ag9:∀i,i<256->∃b:UInt8,ant[i]? = X4 b/\b.toNat<=8/\(b.toNat<=2->i<4):=by
 have h:(ke 256).all (λi=>match ant[i]? with
  | some b=>decide (b.toNat<=8)&&(decide (2<b.toNat)||decide (i<4))
  | none=>X3)=Z:=by decide +kernel
 intro i c;have:=fe.1 h i (kf.2 c);cases a:ant[i]? with
 | none=>rw[a] at this;cases this
 | some b =>
  rw[a] at this;simp only[bg,fh,R] at this;exact⟨b,O,this.1,λh=>by omega⟩
section
variable {P:bt} {ds:List ej} {l:List aj} {x y:b_} {T ty:ba} {ops:Array Oper} {Q:Exit->Act->ak->Prop} {rest:List Oper} {d:Nat} {pos:String} {after:Array Edge} {w:ak} {k:IntKind}
def Cv{Y:Nat}(e:P.underlying T=X4 .string)(f:ev l x=.string ant)(g:ev l y=.int k (Y:Int))(a:Y<256)(h:∀b:Nat,b<=8->(b<=2->Y<4)->az P ops Q rest (Fr (l.set d (.int .u8 (b:Int))) ds) w) :
 az P ops Q (bu (X4 d) (.index T x y) ty pos after X5::rest) (Fr l ds) w:=by
 obtain⟨b,c,h1,h2⟩:=ag9 Y a;exact aD (oV e f g (by omega) (by rw[ah];exact c)) (h b.toNat h1 h2)
end
def ai6{m:Nat}:(m:Int).fdiv (2^(min (16:Int).toNat IntKind.u64.bits))=((m / 65536:Nat):Int):=by
 show (m:Int).fdiv (2^16)=_
 rw[ip _ (by decide)];omega
def afO{m:Nat}:(m:Int).fdiv (2^(min (8:Int).toNat IntKind.u64.bits))=((m / 256:Nat):Int):=by
 show (m:Int).fdiv (2^8)=_
 rw[ip _ (by decide)];omega
def T3.flat(t:T3):Prop:=t.normal.x=0/\t.normal.y=0/\t.normal.z=0
variable{ts:List T3}
instance (t:T3):Decidable t.flat:=inferInstanceAs (Decidable (_/\_/\_))
def cA{n:Int}:bA n=0↔n=0:=by
 unfold bA;constructor
 . intro h
   split at h
   .cases h
   split at h
   .cases h
   omega
 rintro rfl;rfl
def Cw{n:Int}:0<=bA n↔0<=n:=by
 unfold bA;split
 .constructor <;> intro h <;> omega
 split <;> constructor <;> intro h <;> omega
def ai7{n:Int}:0<bA n↔0<n:=by
 unfold bA;split
 .constructor <;> intro h <;> omega
 split <;> constructor <;> intro h <;> omega
def Ro{n:Int}:bA n<=0↔n<=0:=by
 have:=@ai7 n;omega
structure bW(w:ak)(A:Option Addr)(n:Nat)(ts:List T3):Prop where
 len:ts.length=n
 it:∀t∈ts,IT t
 row:∀i t,ts[i]? = X4 t->∃a,A=X4 a/\kV w (a.add (i*9)) [X6 t.a.x,X6 t.a.y,X6 t.a.z,X6 t.b.x,X6 t.b.y,X6 t.b.z,X6 t.c.x,X6 t.c.y,X6 t.c.z]
def bW.ext{w':ak}(h:bW w A n ts)(b:fJ w w'):bW w' A n ts :=
 ⟨h.len,h.it,λi t c=>let ⟨a,e,hr⟩:=h.row i t c;⟨a,e,hr.ext b⟩⟩
def bW.nil(w:ak)(A:Option Addr):bW w A 0 []:=⟨rfl,λt h=>(by cases h),λi t h=>(by cases h)⟩
def bW.get(h:bW w A n ts){i:Nat}(e:i<n):∃t,ts[i]? = X4 t/\IT t/\∃a,A=X4 a/\kV w (a.add (i*9)) [X6 t.a.x,X6 t.a.y,X6 t.a.z,X6 t.b.x,X6 t.b.y,X6 t.b.z,X6 t.c.x,X6 t.c.y,X6 t.c.z]:=by
 have d:i<ts.length:=by rw[h.len];exact e
 refine⟨ts[i],am d,h.it _ (gj d),h.row i _ (am d)⟩
def aL(t:T3):List Go.Value:=[X6 t.a.x,X6 t.a.y,X6 t.a.z,X6 t.b.x,X6 t.b.y,X6 t.b.z,X6 t.c.x,X6 t.c.y,X6 t.c.z]
def kV.pre{xs ys:List Go.Value}(h:kV w a (xs++ys)):kV w a xs:=λj u b=>h j u (by
 have c:j<xs.length:=(ao.1 b).1;rw[c_ c];exact b)
def dS(t:T3):(aL t).length=9:=rfl
def Ew:∀(ts:List T3) (i:Nat) (t:T3),ts[i]? = X4 t->(ts.flatMap aL).drop (i*9)=aL t++(ts.drop (i+1)).flatMap aL
 | [],i,t,h=>by cases h
 | u::ts,0,t,h=>by
  cases h;rfl
 | u::ts,i+1,t,h=>by
  rw[bx,show (i+1)*9=(aL u).length+i*9 by rw[dS];omega,n_,gq (by omega),bz];rw[show (aL u).length+i*9-(aL u).length=i*9 by omega];exact Ew ts i t h
abbrev Oe(A:Option Addr):Option Nat:=A.map (·.block)
structure Ow(w0 w:ak)(S:List (Option Nat))(E:ba)(c:Nat)(A:Option Addr)(n cap:Nat)(xs:List aj):Prop where
 own:w.ownsRow w0.heap.size E c (.slice A n cap) n xs
 sep:∀b,Oe A=X4 b->X4 b∉S
 bd:∀b,X4 b∈S->b<w.heap.size
structure Wr(w w':ak)(A:Option Addr):Prop where
 os:w'.os=w.os
 tape:w'.tape=w.tape
 output:w'.output=w.output
 size:w.heap.size<=w'.heap.size
 block:∀k,k<w.heap.size->Oe A≠X4 k->w'.heap[k]? = w.heap[k]?
def oF{w:ak}{base c n cap:Nat}{E:ba}{A:Option Addr}{xs:List aj}(h:w.ownsRow base E c (.slice A n cap) n xs) :
 (A=X5/\n=0/\cap=0/\xs=[])\/∃g a,A=X4 ⟨g,0,X5⟩/\base<=g/\w.heap[g]? = X4 (.cells a E (0,0))/\n<=cap/\cap<=maxLen/\a.size=cap*c/\a.toList.take (n*c)=xs:=by
 rcases h.2 with ⟨h1,h2⟩ | ⟨g,j,a,h1,h2,b,d,e,f,i⟩
 . cases h1
   exact .inl ⟨O,h2,O,ft (by rw[h.1,h2,Nat.zero_mul])⟩
 cases h1
 exact .inr ⟨g,a,O,h2,b,d,e,f,i⟩
section
variable {w0 w w':ak} {S:List (Option Nat)} {E:ba} {c n cap:Nat} {A:Option Addr} {xs:List aj}
def Ow.cases(h:Ow w0 w S E c A n cap xs):(A=X5/\n=0/\cap=0/\xs=[])\/∃g a,A=X4 ⟨g,0,X5⟩/\w0.heap.size<=g/\w.heap[g]? = X4 (.cells a E (0,0))/\n<=cap/\cap<=maxLen/\a.size=cap*c/\a.toList.take (n*c)=xs:=oF h.own
def Ow.ge(h:Ow w0 w S E c A n cap xs):∀b,Oe A=X4 b->w0.heap.size<=b:=λb a=>by
 rcases h.cases with ⟨rfl,_⟩ | ⟨g,e,rfl,d,_⟩
 .cases a
 cases a
 exact d
def Ow.le(h:Ow w0 w S E c A n cap xs):n<=cap:=by
 rcases h.cases with ⟨_,rfl,rfl,_⟩ | ⟨g,a,_,_,_,h1,_⟩
 .exact ar _
 exact h1
def Ow.some(h:Ow w0 w S E c A n cap xs)(a:0<n):∃g,A=X4 ⟨g,0,X5⟩:=by
 rcases h.cases with ⟨_,rfl,_⟩ | ⟨g,b,rfl,_⟩
 .omega
 exact⟨g,O⟩
def Ow.row(h:Ow w0 w S E c A n cap xs):∀j u,xs[j]? = mj u->∃a,A=mj a/\w.cell? (a.add j)=mj u:=λj u b=>by
 rcases h.cases with ⟨_,_,_,rfl⟩ | ⟨g,f,rfl,_,e,_,_,_,d⟩
 .cases b
 refine⟨_,O,?_⟩
 rw[cS,ai,cell_of_row w g j f E (0,0) e];rw[<-d,d_] at b;split at b
 .simpa using b
 cases b
def Ow.rows{g:Nat}(h:Ow w0 w S E c (mj ⟨g,0,X5⟩) n cap xs):kV w ⟨g,0,X5⟩ xs:=λj u b=>by
 obtain⟨a,e,h1⟩:=h.row j u b;cases e;exact h1
def Ow.nil(w0 w:ak)(E:ba)(c:Nat):Ow w0 w [] E c X5 0 0 []:=⟨World.ownsRow_nil w _ E c,λ_ h=>(by cases h),λ_ h=>(by cases h)⟩
def Ow.mk' {g:Nat}{cs:List aj}(b:fQ w g cs E)(d:w0.heap.size<=g)(a:cs.length=n*c)(e:n<=maxLen):Ow w0 w [] E c (mj ⟨g,0,X5⟩) n n cs :=
 ⟨⟨a,.inr ⟨g,n,_,rfl,d,b,ar _,e,by simpa using a,by simp[<-a]⟩⟩,λ_ _ h=>(by cases h),λ_ h=>(by cases h)⟩
def Ow.as{ys:List aj}(h:Ow w0 w S E c A n cap xs)(e:xs=ys):Ow w0 w S E c A n cap ys:=e▸h
end
section
variable {P:bt} {ds:List ej} {l:List aj} {x y:b_} {T ty:ba}
variable {ops:Array Oper} {Q:Exit->Act->ak->Prop} {rest:List Oper} {d:Nat} {pos:String} {after:Array Edge} {w w0:ak} {S:List (Option Nat)} {E:ba} {c n cap m mcap:Nat} {A B:Option Addr} {xs news:List aj}
def Wr.refl(w:ak)(A:Option Addr):Wr w w A:=⟨rfl,rfl,rfl,ar _,λ_ _ _=>rfl⟩
def Vu{t:ba}{i:TypeInfo}{z:aj}{bytes:Nat}(r:P.underlying t=X4 (.slice E))(q:P.info? E=X4 i)(K:i.zero=X4 z)(ak:i.size=c)(Y:i.bytes=bytes)(af:z.cells.size=c)(ae:0<c)
 (d:Ow w0 w S E c A n cap xs) (l:news.length=m*c) (H:∀j u,news[j]? = X4 u->∃a,B=X4 a/\w.cell? (a.add j)=X4 u) (h1:∀u∈news,u.oneCell'=Z)
 (L:n+m<=maxLen) (R:(n+m)*bytes<=140737488355328) (ah:w0.heap.size<=w.heap.size) :
 ∃s N w',(Builtin.append_ #[t,t] ty #[.slice A n cap,.slice B m mcap]).run P w=.ok (.slice s (n+m) N) w'/\Ow w0 w' S E c s (n+m) N (xs++news)/\Wr w w' A/\(s=A\/Oe s=X4 w.heap.size):=by
 subst ak;subst Y;have am:n+m<=9223372036854775807:=by simp only[maxLen] at L;omega
 have x:(xs++news).length=(n+m)*i.size:=by rw[aq,d.own.1,l,ku]
 have Q:∀(f:Nat),f<n+m ->
  Ow w0 (w.drew.alloc (.cells (xs.toArray++news.toArray++Builtin.zeroCells z.cells (grownCap w (n+m) f E-(n+m))) E)) S E i.size
   (X4 ⟨w.heap.size,0,X5⟩) (n+m) (grownCap w (n+m) f E) (xs++news) /\
  Wr w (w.drew.alloc (.cells (xs.toArray++news.toArray++Builtin.zeroCells z.cells (grownCap w (n+m) f E-(n+m))) E)) A:=by
  intro f ho;have ab:=grownCap_ge w (n+m) f E;have G:grownCap w (n+m) f E<=maxLen:=grownCap_le_maxLen w (n+m) f E L;refine⟨⟨⟨x,.inr ⟨w.heap.size,_,_,O,ah,heap_alloc_new w.drew _,ab,G,?_,?_⟩⟩,λb o v=>?_,λb o=>?_⟩,⟨O,O,O,by simp,λk C _=>heap_alloc_old w.drew _ (h:=C)⟩⟩
  . simp only[Array.size_append,ib,size_zeroCells,af,d.own.1,l,<-ku]
    congr 1
    omega
  . simp only[Array.toList_append,cn]
    rw[<-cn,<-x];exact List.take_left
  . have W:w.heap.size=b:=by simpa using o
    subst W;exact Z8 (d.bd _ v) (Nat.lt_irrefl _)
  have:=d.bd _ o
  have h2:(w.drew.alloc (.cells (xs.toArray++news.toArray++Builtin.zeroCells z.cells (grownCap w (n+m) f E-(n+m))) E)).heap.size=w.heap.size+1:=by simp
  rw[h2];omega
 have M:B=X5->m=0/\news=[]:=λV=>by
  have D:news=[]:=by
   cases news with
   | nil=>rfl
   | cons u us=>obtain⟨a,e,_⟩:=H 0 u rfl;rw[V] at e;cases e
  subst D;refine⟨?_,O⟩;rcases ji m with h0 | h0
  .exact h0
  have:=Nat.mul_pos h0 ae;simp at l;omega
 rcases d.cases with ⟨rfl,rfl,rfl,rfl⟩ | ⟨g,F,rfl,X,J,ad,G,aa,al⟩
 . by_cases v:m=0
   . subst v
     have D:news=[]:=ft (by simpa using l);subst D;refine⟨X5,0,w,?_,by simpa using d,Wr.refl _ _,.inl O⟩;cases B <;> simp[Builtin.append_,cl r,sizeOf,typeInfo,q,Builtin.lenOf,Builtin.firstCells,loadCells,loadCellsFrom]
   cases B with
   | none=>exact Z8 (M rfl).1 v
   | some a =>
    have hr:=run_append_nil (P:=P) w t ty E i z r q K a m mcap news l (λj u y=>by obtain⟨U,e,h⟩:=H j u y;cases e;exact h) (by omega) (by omega) (by have o:=R;simp only[ai] at o;omega);have p:=Q 0 (by omega);simp only[ai,bz,Array.empty_append] at p ⊢;exact⟨_,_,_,hr,p.1,p.2,.inr O⟩
 cases B with
 | none =>
  obtain⟨rfl,rfl⟩:=M rfl;refine⟨X4 ⟨g,0,X5⟩,cap,w,?_,by simpa using d,Wr.refl _ _,.inl O⟩;simp[Builtin.append_,cl r,sizeOf,typeInfo,q,Builtin.lenOf,Builtin.firstCells,ad,storeCells]
 | some a =>
  have T:∀j u,news[j]? = X4 u->w.cell? (a.add j)=X4 u:=λj u y=>by obtain⟨U,e,h⟩:=H j u y;cases e;exact h
  by_cases I:n+m<=cap
  . have ag:n*i.size+news.length<=F.size:=by rw[l,aa,<-ku];exact nq _ I
    have hr:=run_append_room (P:=P) w t ty E i r q g n cap F J a m mcap news l T h1 I ag;refine⟨_,_,_,hr,⟨⟨x,.inr ⟨g,cap,_,O,X,setRow_heap w g F _ E _ J,I,G,?_,?_⟩⟩,d.sep,λb o=>by simpa using d.bd b o⟩,⟨O,O,O,by simp,λk _ C=>setRow_other w g k _ (λe=>C (by rw[e];rfl))⟩,.inl rfl⟩
    . simp only[ib,aq,bj,gg,Array.length_toList]
      omega
    rw[al,<-x]
    exact List.take_left
  have hr:=run_append_grow (P:=P) w t ty E i z r q K ⟨g,0,X5⟩ n cap xs d.own.1 d.rows a m mcap news l T (by omega) (by omega) (growslice_fits (by omega) R)
  have p:=Q cap (by omega);exact⟨_,_,_,hr,p.1,p.2,.inr O⟩
def Xe{b:Nat}{z:aj}{a0:Array ba}(v:a0 = #[T,T])(F:P.underlying T=X4 (.slice E))(f:(P.info? E).map (λi=>(i.size,i.bytes,i.zero))=X4 (c,b,X4 z))(H:z.cells.size=c)(hc:0<c)(t:fJ w0 w)
 (hs:ev l x=.slice A n cap) (K:Ow w0 w S E c A n cap xs) (G:ev l y=.slice B m mcap) (C:news.length=m*c) (L:∀j u,news[j]? = X4 u->∃a,B=X4 a/\w.cell? (a.add j)=X4 u) (h1:∀u∈news,u.oneCell'=Z) (I:n+m<=9223372036854775807) (M:(n+m)*b<=140737488355328)
 (h:∀e g w',Ow w0 w' S E c e (n+m) g (xs++news)->Wr w w' A->(e=A\/Oe e=X4 w.heap.size)->az P ops Q rest (Fr (l.set d (.slice e (n+m) g)) ds) w') :
 az P ops Q (bu (X4 d) (.call { callee:=.builtin .append,args:=#[x,y],argTypes:=a0 }) ty pos after X5::rest) (Fr l ds) w:=by
 subst v;cases hq:P.info? E with
 | none=>rw[hq] at f;cases f
 | some i =>
  rw[hq] at f;simp only[gh,ik,gl] at f;obtain⟨k,p,q⟩:=f;obtain⟨e,g,w',hr,h2,r,s⟩:=Vu (P:=P) (w:=w) (ty:=ty) (mcap:=mcap) F hq q k p H hc K C L h1 (by simpa[maxLen] using I) M t.size;exact mG (λo D J=>by simp[dw,D,J,resolve,invoke,builtin,cN,hs,G,hr]) (h e g w' h2 r s)
def Vv{a:Array aj}{xs us:List aj}{off k:Nat}(f:a.toList.take k=xs)(e:xs.length=k)(g:off+us.length<=k):(over a.toList off us).take k=over xs off us:=by
 subst f;have h:k<=a.toList.length:=by rw[bj] at e;omega
 unfold over;apply fz;intro j;rw[d_];have d:(a.toList.take off).length=off:=by rw[bj];omega
 have b:((a.toList.take k).take off).length=off:=by rw[bj,bj];omega
 simp only[cn];by_cases c:j<k
 . rw[J c]
   rcases eh j off with h1 | h1
   .rw[c_ (by omega),c_ (by omega),List.take_take,ij (by omega)]
   rw[dm (l₁:=a.toList.take off) (by omega),dm (l₁:=(a.toList.take k).take off) (by omega),d,b]
   rcases eh (j-off) us.length with h2 | h2
   .rw[c_ h2,c_ h2]
   rw[dm h2,dm h2,dl,dl,d_,J (by omega)]
 rw[X c]
 symm
 apply cg;simp only[aq,b,gg,bj];omega
def ai8{g off:Nat}{us:List aj}(v:ev l x=.pointer (X4 ⟨g,off,X5⟩))(s:(ev l y).cells=us.toArray)(hc:dO P T us.length)(d:Ow w0 w S E c (X4 ⟨g,0,X5⟩) n cap xs)(m:off+us.length<=n*c)(h1:∀u∈us,u.oneCell'=Z)
 (h:∀w',Wr w w' (X4 ⟨g,0,X5⟩)->Ow w0 w' S E c (X4 ⟨g,0,X5⟩) n cap (over xs off us)->az P ops Q rest (Fr l ds) w'):az P ops Q (bu X5 (.store T x y) ty pos after X5::rest) (Fr l ds) w:=by
 rcases d.cases with ⟨e,_⟩ | ⟨F,f,e,A,q,j,B,C,D⟩
 .cases e
 cases e
 have i:off+us.length<=f.toList.length:=by
  have:=nq c j;simp;omega
 have o:fQ w g f.toList E:=by unfold fQ;simpa using q
 refine yY (cs:=f.toList) (t:=E) v s hc o i h1 λw' a z=>h w' ⟨a.os,a.tape,a.output,by rw[a.size];exact ar _,λk _ r=>a.block k (λe=>r (by rw[e];rfl))⟩ ?_;refine⟨⟨?_,.inr ⟨g,cap,_,O,A,z,j,B,?_,?_⟩⟩,d.sep,λb p=>by rw[a.size];exact d.bd b p⟩
 .rw[Cj (by rw[d.own.1];exact m)];exact d.own.1
 .simp only[ib];rw[Cj i];simpa using C
 show ((over f.toList off us).toArray.toList).take (n*c)=_
 simp only[ee];exact Vv D d.own.1 m
end
def Ex(ts:List T3):(ts.flatMap aL).length=ts.length*9:=by
 induction ts with
 | nil=>rfl
 | cons t ts ih=>rw[bx,aq,ih,dS,ay];omega
def Ow.tris{w0:ak}{S:List (Option Nat)}(h:Ow w0 w S E 9 A n cap (ts.flatMap aL))(d:∀t∈ts,IT t):bW w A n ts:=by
 refine⟨?_,d,λi t f=>?_⟩
 .have:=h.own.1;rw[Ex] at this;omega
 have hr:∀j u,(aL t)[j]? = mj u->(ts.flatMap aL)[i*9+j]? = mj u:=λj u b=>by
  have g:j<(aL t).length:=(ao.1 b).1;rw[<-dl,Ew ts i t f,c_ g];exact b
 obtain⟨a,e,_⟩:=h.row _ _ (hr 0 _ rfl);refine⟨a,e,λj u b=>?_⟩;obtain⟨k,c,hc⟩:=h.row _ _ (hr j u b);rw[e] at c;cases c;rw[jD];exact hc
def bW.cells(h:bW w A n ts):∀j u,(ts.flatMap aL)[j]? = X4 u->∃a,A=X4 a/\w.cell? (a.add j)=X4 u:=λj u b=>by
 have g:j<ts.length*9:=by
  have:=(ao.1 b).1;rwa [Ex] at this
 have hq:j / 9<ts.length:=by omega
 have c:=am hq;obtain⟨a,e,hr⟩:=h.row _ _ c;refine⟨a,e,?_⟩;have d:=Ew ts (j / 9) _ c;have f:(aL ts[j / 9])[j%9]? = X4 u:=by
  have:((ts.flatMap aL).drop (j / 9*9))[j%9]? = X4 u:=by rw[dl,show j / 9*9+j%9=j by omega];exact b
  rw[d,c_ (by rw[dS];omega)] at this;exact this
 have:=hr _ _ f;rwa [jD,show j / 9*9+j%9=j by omega] at this
def anu:∀(t:T3),∀u∈aL t,u.oneCell'=Z:=λt u a=>by
 simp only[aL,ap,cd,Z9] at a;rcases a with rfl | rfl | rfl | rfl | rfl | rfl | rfl | rfl | rfl <;> rfl
def xW(ts:List T3):∀u∈ts.flatMap aL,u.oneCell'=Z:=λu a=>by
 obtain⟨t,_,h⟩:=ff.1 a;exact anu t u h
def fQ.rowsO{g:Nat}{cs:List aj}(h:fQ w g cs t):∀j u,cs[j]? = X4 u->∃a,X4 (⟨g,0,X5⟩:Addr)=X4 a/\w.cell? (a.add j)=X4 u:=λj u b=>⟨_,rfl,by have:=h.row 0;rw[nt] at this;exact this j u b⟩
section
variable {w0 w w':ak} {S:List (Option Nat)} {E:ba} {c n cap:Nat} {A:Option Addr} {xs:List aj}
end
/-! ### Names that are short -/
def zA{l:List aj}(t:Nat):ev l (.tmp t)=l.getD t undef:=rfl
def zB{l:List aj}(v:aj):ev l (.const v)=v:=rfl
def zC{l:List aj}(f:Nat):ev l (.func f)=.func (.func f) #[] #[]:=rfl
def zD{x:α}{xs:List α}{d:α}:(x::xs).getD (n+1) d=xs.getD n d:=rfl
def zE{x:α}{xs:List α}{d:α}:(x::xs).getD 0 d=x:=rfl
def zF{x:α}{xs:List α}{a:α}:(x::xs).set (n+1) a=x::xs.set n a:=rfl
def zG{x:α}{xs:List α}{a:α}:(x::xs).set 0 a=a::xs:=rfl
def zH{x:α}{xs:List α}  : (x::xs).take (n+1)=x::xs.take n:=rfl
def zI{xs:List α}:xs.take 0=[]:=kx
def zJ{x:α}{xs:List α}  : (x::xs).drop (n+1)=xs.drop n:=rfl
def zK{xs:List α}:xs.drop 0=xs:=rfl
def zL{x:α}{xs ys:List α}:(x::xs)++ys=x::(xs++ys):=rfl
def zM{ys:List α}:[]++ys=ys:=rfl
def zN{ys:List α}:ys++[]=ys:=fb ys
def zO{x:α}{xs:List α}:(x::xs).length=xs.length+1:=rfl
def zP  : ([]:List α).length=0:=rfl
def zQ{β:Type}{f:α->β}{x:α}{xs:List α}:(x::xs).map f=f x::xs.map f:=rfl
def zR{β:Type}{f:α->β}:([]:List α).map f=[]:=rfl
def zS{l:List α}{i:Nat}:l.toArray[i]? = l[i]?:=lj
def zT{x:α}{xs:List α}  : (x::xs)[n+1]? = xs[n]?:=rfl
def zU{x:α}{xs:List α}:(x::xs)[0]? = X4 x:=rfl
def zV{x d:α}:(X4 x).getD d=x:=rfl
def G:(∀(l:List Go.Value) (t:Nat), ev l (.tmp t)=l.getD t undef)/\(∀(l:List Go.Value) (v:Go.Value), ev l (.const v)=v)/\(∀(l:List Go.Value) (f:Nat), ev l (.func f)=.func (.func f) #[] #[])/\(∀{α:Type} (x:α) (xs:List α) (n:Nat) (d:α), (x::xs).getD (n+1) d=xs.getD n d)/\(∀{α:Type} (x:α) (xs:List α) (d:α), (x::xs).getD 0 d=x)/\(∀{α:Type} (x:α) (xs:List α) (n:Nat) (a:α), (x::xs).set (n+1) a=x::xs.set n a)/\(∀{α:Type} (x:α) (xs:List α) (a:α), (x::xs).set 0 a=a::xs) := ⟨λ_ _ => rfl, λ_ _ => rfl, λ_ _ => rfl, λ_ _ _ _ => rfl, λ_ _ _ => rfl, λ_ _ _ _ => rfl, λ_ _ _ => rfl⟩
def zy:(∀{α:Type} (x:α) (xs:List α) (n:Nat), (x::xs).take (n+1)=x::xs.take n)/\(∀{α:Type} (xs:List α), xs.take 0=[])/\(∀{α:Type} (x:α) (xs:List α) (n:Nat), (x::xs).drop (n+1)=xs.drop n)/\(∀{α:Type} (xs:List α), xs.drop 0=xs) := ⟨λ_ _ _ => rfl, λ_ => kx, λ_ _ _ => rfl, λ_ => rfl⟩
def zx:(∀{α:Type} (x:α) (xs ys:List α), (x::xs)++ys=x::(xs++ys))/\(∀{α:Type} (ys:List α), []++ys=ys)/\(∀{α:Type} (ys:List α), ys++[]=ys)/\(∀{α:Type} (x:α) (xs:List α), (x::xs).length=xs.length+1)/\(∀{α:Type}, ([]:List α).length=0) := ⟨λ_ _ _ => rfl, λ_ => rfl, λ_ => fb _, λ_ _ => rfl, rfl⟩
def zw:(∀{α:Type} (l:List α) (i:Nat), l.toArray[i]? = l[i]?)/\(∀{α:Type} (x:α) (xs:List α) (n:Nat), (x::xs)[n+1]? = xs[n]?)/\(∀{α:Type} (x:α) (xs:List α), (x::xs)[0]? = X4 x)/\(∀{α:Type} (x d:α), (X4 x).getD d=x) := ⟨λ_ _ => lj, λ_ _ _ => rfl, λ_ _ => rfl, λ_ _ => rfl⟩
def zu:(∀(l:List Go.Value) (t:Nat) (ts:List Nat) (v:Go.Value) (vs:List Go.Value), fH l (t::ts) (v::vs)=fH (l.set t v) ts vs)/\(∀(l vs:List Go.Value), fH l [] vs=l)/\(∀(l:List Go.Value) (t:Nat) (ts:List Nat) (g:Nat->Go.Value), pX l (t::ts) g=pX (l.set t (g t)) ts g)/\(∀(l:List Go.Value) (g:Nat->Go.Value), pX l [] g=l) := ⟨λ_ _ _ _ _ => rfl, λ_ _ => Cl, λ_ _ _ _ => rfl, λ_ _ => rfl⟩
def zv:(∀{α β:Type} (f:α->β) (x:α) (xs:List α), (x::xs).map f=f x::xs.map f)/\(∀{α β:Type} (f:α->β), ([]:List α).map f=[])/\(∀(l:List Go.Value) (t:Nat) (ts:List Nat) (v:Go.Value) (vs:List Go.Value), fH l (t::ts) (v::vs)=fH (l.set t v) ts vs)/\(∀(l vs:List Go.Value), fH l [] vs=l)/\(∀(l:List Go.Value) (t:Nat) (ts:List Nat) (g:Nat->Go.Value), pX l (t::ts) g=pX (l.set t (g t)) ts g)/\(∀(l:List Go.Value) (g:Nat->Go.Value), pX l [] g=l) := ⟨λ_ _ _ => rfl, λ_ => rfl, λ_ _ _ _ _ => rfl, λ_ _ => Cl, λ_ _ _ _ => rfl, λ_ _ => rfl⟩
structure It where
 own:Nat->Prop
 P:ak->Prop
 lt:∀w b,P w->own b->b<w.heap.size
 st:∀w w',P w->w.heap.size<=w'.heap.size->(∀b,own b->w'.heap[b]? = w.heap[b]?)->P w'
 bk:Option (Nat × List aj × ba):=X5
 bkP:∀x,bk=X4 x->(∀b,own b↔b=x.1)/\∀w,P w->fQ w x.1 x.2.1 x.2.2:=by intro _ h;cases h
def bI(g:Nat)(cs:List aj)(t:ba):It where
 own b:=X4 g=X4 b
 P w:=fQ w g cs t
 lt w b h e:=by cases e;exact h.lt
 st w w' h _ k:=(k g rfl).trans h
 bk:=X4 (g,cs,t)
 bkP x h:=by cases h;exact⟨λb=>⟨λe=>by cases e;rfl,λe=>by rw[e]⟩,λ_ h=>h⟩
def oI(E:ba)(c:Nat)(A:Option Addr)(n cap:Nat)(xs:List aj):It where
 own b:=Oe A=X4 b
 P w:=w.ownsRow 0 E c (.slice A n cap) n xs
 lt w b h e:=by
  rcases oF h with ⟨rfl,_⟩ | ⟨g,cur,rfl,_,hg,_⟩
  .cases e
  cases e;exact (el.1 hg).1
 st w w' h _ k:=by
  refine⟨h.1,?_⟩;rcases oF h with ⟨rfl,rfl,rfl,_⟩ | ⟨g,cur,rfl,h1,h2,h3⟩
  .exact .inl ⟨O,O⟩
  exact .inr ⟨g,cap,cur,O,h1,(k g O).trans h2,h3⟩
def Ap(i j:It):Prop:=∀b,i.own b->j.own b->False
def Ap.symm{i j:It}(h:Ap i j):Ap j i:=λb h1 h2=>h b h2 h1
structure Mem(w0 w:ak)(is:List It):Prop where
 ext:fJ w0 w
 all:∀i∈is,i.P w
 ge:∀i∈is,∀b,i.own b->w0.heap.size<=b
 nd:is.Pairwise Ap
def qG:List Bool->List It->List It
 | true::bs,i::is=>i::qG bs is
 | false::bs,_::is=>qG bs is
 | _,_=>[]
def Cx:∀(bs:List Bool) (is:List It),(qG bs is).Sublist is
 | true::bs,i::is=>(Cx bs is).cons_cons i
 | false::bs,i::is=>(Cx bs is).cons i
 | [],is=>qt _
 | true::bs,[]=>qt _
 | false::bs,[]=>qt _
section
variable {w0 w w':ak} {is:List It}
def Mem.refl(w:ak):Mem w w []:=⟨fJ.refl w,λ_ h=>(by cases h),λ_ h=>(by cases h),.nil⟩
def Mem.ext' (m:Mem w0 w is)(e:fJ w w'):Mem w0 w' is :=
 ⟨m.ext.trans e,λi a=>i.st w w' (m.all i a) e.size λb c=>Below.block e b (i.lt w b (m.all i a) c),m.ge,m.nd⟩
def Mem.sel(m:Mem w0 w is)(bs:List Bool):Mem w0 w (qG bs is) :=
 ⟨m.ext,λi a=>m.all i ((Cx bs is).subset a),λi a=>m.ge i ((Cx bs is).subset a),m.nd.sublist (Cx bs is)⟩
def Mem.tl{i:It}(m:Mem w0 w (i::is)):Mem w0 w is:=⟨m.ext,λj a=>m.all j (bp _ a),λj a=>m.ge j (bp _ a),(bv.1 m.nd).2⟩
def Mem.get(m:Mem w0 w is)(k:Nat){i:It}(a:is[k]? = X4 i):i.P w:=m.all i (bf a)
def Mem.b(m:Mem w0 w is)(k:Nat){g:Nat}{cs:List aj}(a:is[k]? = X4 (bI g cs t)):fQ w g cs t:=m.get k a
def Mem.o(m:Mem w0 w is)(k:Nat){xs:List aj}(a:is[k]? = X4 (oI E c A n cap xs)):Ow w0 w [] E c A n cap xs:=by
 have h:w.ownsRow 0 E c (.slice A n cap) n xs:=m.get k a;refine⟨⟨h.1,?_⟩,λ_ _ h=>(by cases h),λ_ h=>(by cases h)⟩;rcases oF h with ⟨rfl,rfl,rfl,_⟩ | ⟨g,d,rfl,_,h2,b⟩
 .exact .inl ⟨O,O⟩
 exact .inr ⟨g,cap,d,O,m.ge _ (bf a) g O,h2,b⟩
def Mem.bo(m:Mem w0 w is)(k:Nat){g:Nat}{cs:List aj}(a:is[k]? = X4 (bI g cs t))(d:cs.length=n*c)(e:n<=maxLen):Ow w0 w [] t c (X4 ⟨g,0,X5⟩) n n cs :=
 Ow.mk' (m.b k a) (m.ge _ (bf a) g rfl) d e
def Mem.toO(m:Mem w0 w is)(k:Nat){g:Nat}{cs:List aj}(d:is[k]? = X4 (bI g cs t))(a:cs.length=n*c)(e:n<=maxLen):∃i,i=oI t c (X4 ⟨g,0,X5⟩) n n cs/\i.P w:=⟨_,rfl,(m.bo k d a e).own.1,.inr ⟨g,n,_,rfl,bn _,m.b k d,ar _,e,by simpa using a,by simp[<-a]⟩⟩
def Mem.new{i:It}(m:Mem w0 w is)(e:fJ w w')(f:i.P w')(c:∀b,i.own b->w.heap.size<=b):Mem w0 w' (i::is):=by
 have a:=m.ext' e;refine⟨a.ext,λj hj=>?_,λj hj=>?_,bv.2 ⟨λj hj b h1 h2=>?_,a.nd⟩⟩
 . rcases ap.1 hj with rfl | hj
   .exact f
   exact a.all j hj
 . rcases ap.1 hj with rfl | hj
   .exact λb d=>be m.ext.size (c b d)
   exact a.ge j hj
 have:=j.lt w b (m.all j hj) h2
 have:=c b h1;omega
def Mem.newB{g:Nat}{cs:List aj}(m:Mem w0 w is)(e:fJ w w')(c:w.heap.size<=g)(a:fQ w' g cs t):Mem w0 w' (bI g cs t::is):=m.new e a (λb h=>by cases h;exact c)
def Mem.newO{S:List (Option Nat)}{xs:List aj}(m:Mem w0 w is)(e:fJ w w')(h:Ow w w' S E c A n cap xs):Mem w0 w' (oI E c A n cap xs::is):=by
 refine m.new e (i:=oI E c A n cap xs) ?_ h.ge;refine⟨h.own.1,?_⟩;rcases h.cases with ⟨rfl,rfl,rfl,_⟩ | ⟨g,b,rfl,_,h2,a⟩
 .exact .inl ⟨O,O⟩
 exact .inr ⟨g,cap,b,O,bn _,h2,a⟩
def Mem.nilO(m:Mem w0 w is)(E:ba)(c:Nat):Mem w0 w (oI E c X5 0 0 []::is):=m.newO (fJ.refl w) (Ow.nil w w E c)
def adV{i d:It}:∀(is:List It) (k:Nat),is.Pairwise Ap->is[k]? = X4 i->(∀x∈is,Ap i x->Ap d x)->(is.set k d).Pairwise Ap
 | [],_,_,h,_=>by cases h
 | j::is,0,hp,h,hc=>by
  cases h;rw[iy];have:=bv.1 hp;exact bv.2 ⟨λx a=>hc x (bp _ a) (this.1 x a),this.2⟩
 | j::is,k+1,hp,h,hc=>by
  rw[gn];have b:=bv.1 hp;have c:is[k]? = X4 i:=h;refine bv.2 ⟨λx a=>?_,adV is k b.2 c λx a=>hc x (bp _ a)⟩;rcases jp a with a | rfl
  .exact b.1 x a
  exact (hc j (br ..) (b.1 i (bf c)).symm).symm
def Mem.put{i f:It}(m:Mem w0 w is)(k:Nat)(d:is[k]? = X4 i)(B:w'.os=w.os)(y:w'.tape=w.tape)(v:w'.output=w.output)(hs:w.heap.size<=w'.heap.size)(g:∀b,b<w.heap.size->¬i.own b->w'.heap[b]? = w.heap[b]?)
 (u:f.P w') (hid:(∀b,f.own b->i.own b)\/∀b,f.own b->w.heap.size<=b):Mem w0 w' (is.set k f):=by
 have s:=bf d;refine⟨⟨B.trans m.ext.os,y.trans m.ext.tape,v.trans m.ext.output,be m.ext.size hs,λb p=>(g b (gw p m.ext.size) λe=>?_).trans (Below.block m.ext b p)⟩,λj c=>?_,λj c b a=>?_,adV is k m.nd d λx z t b h1 h2=>?_⟩
 . have:=m.ge i s b e
   omega
 . obtain⟨q,hq,e⟩:=lx c
   rw[List.getElem_set] at e;split at e
   .subst e;exact u
   rename_i A
   rw[List.length_set] at hq;have n:j∈is:=e▸gj hq;have C:is[q]? = X4 j:=by rw[<-e];exact am hq
   refine j.st w w' (m.all j n) hs λb a=>g b (j.lt w b (m.all j n) a) λl=>?_;have r:k<is.length:=(ao.1 d).1;have o:is[k]=i:=(ao.1 d).2;rcases Nat.lt_or_gt_of_ne A with h | h
   . have:=ix.1 m.nd k q r hq h
     rw[o,e] at this;exact this b l a
   have:=ix.1 m.nd q k hq r h
   rw[o,e] at this;exact this b a l
 . rcases jp c with c | rfl
   .exact m.ge j c b a
   rcases hid with hid | hid
   .exact m.ge i s b (hid b a)
   exact be m.ext.size (hid b a)
 rcases hid with hid | hid
 .exact t b (hid b h1) h2
 have:=hid b h1
 have:=x.lt w b (m.all x z) h2;omega
def Mem.re(m:Mem w0 w is)(k:Nat){g:Nat}{cs a:List aj}(c:is[k]? = X4 (bI g cs t))(b:fQ w g a t):Mem w0 w (is.set k (bI g a t)) :=
 m.put k c rfl rfl rfl (ar _) (λ_ _ _=>rfl) b (.inl λ_ h=>h)
def Mem.reO(m:Mem w0 w is)(k:Nat){n' a:Nat}{xs b:List aj}(e:is[k]? = X4 (oI E c A n cap xs))(h:Ow w0 w [] E c A n' a b):Mem w0 w (is.set k (oI E c A n' a b)):=by
 refine m.put k e O O O (ar _) (λ_ _ _=>rfl) ?_ (.inl λ_ h=>h);refine⟨h.own.1,?_⟩;rcases h.cases with ⟨rfl,rfl,rfl,_⟩ | ⟨g,f,rfl,_,h2,d⟩
 .exact .inl ⟨O,O⟩
 exact .inr ⟨g,a,f,O,bn _,h2,d⟩
def Mem.own(m:Mem w0 w is)(k:Nat){g:Nat}{cs:List aj}(a:is[k]? = X4 (bI g cs t))(b:cs.length=n*c)(d:n<=maxLen):Mem w0 w (is.set k (oI t c (X4 ⟨g,0,X5⟩) n n cs)):=by
 obtain⟨i,rfl,h⟩:=m.toO k a b d;exact m.put k a O O O (ar _) (λ_ _ _=>rfl) h (.inl λ_ h=>h)
def gS{a b:Nat}(h:Nat.ble a b=Z):a<=b:=Nat.le_of_ble_eq_true h
def fN{us:List aj}(h:(us.all (·.oneCell'))=Z):∀u∈us,u.oneCell'=Z:=λu a=>fe.1 h u a
end
section
variable {P:bt} {ds:List ej} {l:List aj} {x y:b_} {T ty:ba}
variable {ops:Array Oper} {Q:Exit->Act->ak->Prop} {rest:List Oper} {d:Nat} {pos:String} {after:Array Edge} {w w0:ak} {is:List It}
def at2{cs:List aj}(m:Mem w0 w is)(c:(ev l x).cells=cs.toArray)(h:∀g u,Mem w0 u (bI g cs T::is)->az P ops Q rest (Fr (l.set d (.pointer (X4 ⟨g,0,X5⟩))) ds) u) :
 az P ops Q (bu (X4 d) (.box T x) ty pos after X5::rest) (Fr l ds) w:=aiN c λu g e b a=>h g u (m.newB e b a)
def mH{cs:List aj}{z:aj}(m:Mem w0 w is)(b:nJ P T z)(f:z.cells=cs.toArray)(h:∀g u,Mem w0 u (bI g cs T::is)->az P ops Q rest (Fr (l.set d (.pointer (X4 ⟨g,0,X5⟩))) ds) u) :
 az P ops Q (bu (X4 d) (.alloc T) ty pos after X5::rest) (Fr l ds) w:=Er b f λu g e c a=>h g u (m.newB e c a)
def ai9{g off:Nat}{cs us:List aj}{t:ba}(m:Mem w0 w is)(k:Nat)(c:is[k]? = X4 (bI g cs t))(i:ev l x=.pointer (X4 ⟨g,off,X5⟩))(f:(ev l y).cells=us.toArray)(hc:dO P T us.length)(n:off+us.length<=cs.length)(h1:(us.all (·.oneCell'))=Z)
 (h:∀u,Mem w0 u (is.set k (bI g (over cs off us) t))->az P ops Q rest (Fr l ds) u):az P ops Q (bu X5 (.store T x y) ty pos after X5::rest) (Fr l ds) w :=
 yY i f hc (m.b k c) n (fN h1) λu a d=>h u (m.put k c a.os a.tape a.output (by rw[a.size];exact ar _) (λb _ j=>a.block b λe=>j (by rw[e];rfl)) d (.inl λ_ h=>h))
def Jb{g off:Nat}{us xs:List aj}{E:ba}{c n cap:Nat}(m:Mem w0 w is)(k:Nat)(f:is[k]? = X4 (oI E c (X4 ⟨g,0,X5⟩) n cap xs))(q:ev l x=.pointer (X4 ⟨g,off,X5⟩))(p:(ev l y).cells=us.toArray)(hc:dO P T us.length)(t:off+us.length<=n*c)(h1:(us.all (·.oneCell'))=Z)
 (h:∀u,Mem w0 u (is.set k (oI E c (X4 ⟨g,0,X5⟩) n cap (over xs off us)))->az P ops Q rest (Fr l ds) u):az P ops Q (bu X5 (.store T x y) ty pos after X5::rest) (Fr l ds) w :=
 ai8 q p hc (m.o k f) t (fN h1) λu a d=>h u (m.put k f a.os a.tape a.output a.size (λb j s=>a.block b j s) (by
  refine⟨d.own.1,?_⟩;rcases d.cases with ⟨e,_⟩ | ⟨g,r,e,_,h2,i⟩
  .cases e
  cases e;exact .inr ⟨_,cap,r,O,bn _,h2,i⟩) (.inl λ_ h=>h))
def jG{v:aj}{f:FuncId}{a:b_}{xs:Array b_}{args:List aj}{first cap:Array aj}{a0:Array ba}(m:Mem w0 w is)(b:ev l a=.func (.func f) first cap)(c:first.toList++xs.toList.map (ev l)++cap.toList=args)(hc:dF P f args v)
 (h:∀u,Mem w0 u is->az P ops Q rest (Fr (l.set d v) ds) u):az P ops Q (bu (X4 d) (.call { callee:=.value a,args:=xs,argTypes:=a0 }) ty pos after X5::rest) (Fr l ds) w :=
 aaa b c hc λu e=>h u (m.ext' e)
def cK{f:FuncId}{a:b_}{xs:Array b_}{args:List aj}{first cap:Array aj}{a0:Array ba}{R:aj->ak->Prop}(m:Mem w0 w is)(c:ev l a=.func (.func f) first cap)(g:first.toList++xs.toList.map (ev l)++cap.toList=args)(hc:cY P f args w R)
 (h:∀v u,Mem w0 u is->R v u->az P ops Q rest (Fr (l.set d v) ds) u):az P ops Q (bu (X4 d) (.call { callee:=.value a,args:=xs,argTypes:=a0 }) ty pos after X5::rest) (Fr l ds) w :=
 bF c g hc λv u e b=>h v u (m.ext' e) b
def OR(E:ba)(c:Nat)(R:List aj->Prop)(w:ak)(v:aj)(w':ak):Prop:=∃A n cap xs,v=.slice A n cap/\Ow w w' [] E c A n cap xs/\R xs
def bN{E:ba}{c n cap b f mcap:Nat}{A B:Option Addr}{z:aj}{xs s:List aj}{a0:Array ba}(m:Mem w0 w is)(k:Nat)(D:is[k]? = X4 (oI E c A n cap xs))(G:a0 = #[T,T])(J:P.underlying T=X4 (.slice E))(H:(P.info? E).map (λi=>(i.size,i.bytes,i.zero))=X4 (c,b,X4 z))(L:z.cells.size=c)(hc:0<c)
 (hs:ev l x=.slice A n cap) (K:ev l y=.slice B f mcap) (I:s.length=f*c) (S:∀j u,s[j]? = X4 u->∃a,B=X4 a/\w.cell? (a.add j)=X4 u) (h1:∀u∈s,u.oneCell'=Z) (N:n+f<=9223372036854775807) (U:(n+f)*b<=140737488355328)
 (h:∀p r u,Mem w0 u (is.set k (oI E c p (n+f) r (xs++s)))->az P ops Q rest (Fr (l.set d (.slice p (n+f) r)) ds) u) :
 az P ops Q (bu (X4 d) (.call { callee:=.builtin .append,args:=#[x,y],argTypes:=a0 }) ty pos after X5::rest) (Fr l ds) w :=
 Xe G J H L hc m.ext hs (m.o k D) K I S h1 N U λp r u C q hF=>h p r u (m.put k D q.os q.tape q.output q.size (λb t R=>q.block b t R) (by
  refine⟨C.own.1,?_⟩;rcases C.cases with ⟨rfl,v,rfl,_⟩ | ⟨g,M,rfl,_,h2,F⟩
  .exact .inl ⟨by rw[v],v⟩
  .exact .inr ⟨g,r,M,O,bn _,h2,F⟩) (by
  rcases hF with rfl | hF
  .exact .inl λ_ h=>h
  exact .inr λb t=>by
   have e:Oe p=X4 b:=t;rw[hF] at e;cases e;exact ar _))
def Xf{cs:List aj}(m:Mem w0 w is)(a:ev l x=.agg cs.toArray)(h:∀g u,Mem w0 u (bI g cs T::is)->az P ops Q rest (Fr (l.set d (.pointer (X4 ⟨g,0,X5⟩))) ds) u) :
 az P ops Q (bu (X4 d) (.box T x) ty pos after X5::rest) (Fr l ds) w:=at2 m (by rw[a];rfl) h
def at3{v:aj}(m:Mem w0 w is)(a:ev l x=v)(h1:v.cells = #[v])(h:∀g u,Mem w0 u (bI g [v] T::is)->az P ops Q rest (Fr (l.set d (.pointer (X4 ⟨g,0,X5⟩))) ds) u) :
 az P ops Q (bu (X4 d) (.box T x) ty pos after X5::rest) (Fr l ds) w:=at2 m (by rw[a,h1]) h
def bP{g off:Nat}{cs us:List aj}{t:ba}(m:Mem w0 w is)(k:Nat)(a:is[k]? = X4 (bI g cs t))(c:ev l x=.pointer (X4 ⟨g,off,X5⟩))(b:ev l y=.agg us.toArray)(hc:dO P T us.length)(d:off+us.length<=cs.length)(h1:(us.all (·.oneCell'))=Z)
 (h:∀u,Mem w0 u (is.set k (bI g (over cs off us) t))->az P ops Q rest (Fr l ds) u):az P ops Q (bu X5 (.store T x y) ty pos after X5::rest) (Fr l ds) w:=ai9 m k a c (by rw[b];rfl) hc d h1 h
def dD{g off:Nat}{cs:List aj}{v:aj}{t:ba}(m:Mem w0 w is)(k:Nat)(a:is[k]? = X4 (bI g cs t))(c:ev l x=.pointer (X4 ⟨g,off,X5⟩))(b:ev l y=v)(hc:dO P T 1)(d:off+1<=cs.length)(h1:v.oneCell'=Z/\v.cells = #[v])
 (h:∀u,Mem w0 u (is.set k (bI g (over cs off [v]) t))->az P ops Q rest (Fr l ds) u):az P ops Q (bu X5 (.store T x y) ty pos after X5::rest) (Fr l ds) w:=ai9 (us:=[v]) m k a c (by rw[b,h1.2]) hc d (by simp[h1.1]) h
def fQ.full{g:Nat}{cs:List aj}{t:ba}(h:fQ w g cs t)(a:eX P T Z)(hc:dO P T cs.length):dQ P w T ⟨g,0,X5⟩ (.agg cs.toArray):=by
 have:=h.row 0;rw[nt] at this;exact this.lies a hc
def Mem.s01{w0 w:ak}{i j:It}{is:List It}(m:Mem w0 w (i::j::is)):Mem w0 w (j::i::is):=by
 have h1:=bv.1 m.nd;have h2:=bv.1 h1.2;refine⟨m.ext,λx hx=>m.all x ?_,λx hx=>m.ge x ?_,bv.2 ⟨λx hx=>?_,bv.2 ⟨λx hx=>h1.1 x (bp _ hx),h2.2⟩⟩⟩
 .simp only[ap] at hx ⊢;rcases hx with h | h | h <;> simp[h]
 .simp only[ap] at hx ⊢;rcases hx with h | h | h <;> simp[h]
 rcases ap.1 hx with rfl | hx
 .exact (h1.1 _ (br ..)).symm
 exact h2.1 x hx
/-! ### Regions -/
def cI{id:Nat}{a:Act}{l:List Oper}(m:Mem w0 w is)(n:Nat)(d:P.follows .mixedOrders=Z)(c:Region.lexTailB .any l.toArray n=Z)
 (h:cw P l.toArray (λu=>Mem w0 u is) (λb=>∀u,Mem w0 u is->az P l.toArray Q (l.drop n) b u) (l.take n) a):(Code.region id l.toArray Z).wp P Q a w :=
 sB (C:=λu=>Mem w0 u is) n d c (m.ext' (fJ.refl w).drawn) h
def mq{id:Nat}{a:Act}{l:List Oper}(m:Mem w0 w is)(d:P.follows .mixedOrders=Z)(c:Region.lexB .any l.toArray=Z)
 (h:cw P l.toArray (λu=>Mem w0 u is) (λb=>∀u,Mem w0 u is->Q .normal b u) l a):(Code.region id l.toArray Z).wp P Q a w :=
 wp_region_quiet (C:=λu=>Mem w0 u is) d c (m.ext' (fJ.refl w).drawn) (by simpa using h)
def mh{id:Nat}{a:Act}{l:List Oper}(m:Mem w0 w is)(bs:List Bool)(o:List (Nat × Bool))(g:P.follows .mixedOrders=Z)(b:(Region.noSelect l.toArray&&decide (o.length=l.length)&&Zy .any l.toArray o (gv l.toArray.size X3))=Z)
 (f:∀c d v a w,Q (.panic c) (Act.put a d v) w->Q (.panic c) a w) {ol:List (Oper × Bool)} (i:(o.map λx=>((l.toArray[x.1]?).getD default,x.2))=ol)
 (h:∀u,Mem w0 u is->bX P l.toArray (λu=>Mem w0 u (qG bs is)) Q ol a u):(Code.region id l.toArray Z).wp P Q a w :=
 Bp o g b f i λu e=>⟨λu=>Mem w0 u (qG bs is),(m.ext' e).sel bs,h u (m.ext' e)⟩
def mhe{id:Nat}{a:Act}{l:List Oper}(m:Mem w0 w is)(bs:List Bool)(o:List (Nat × Bool))(g:P.follows .mixedOrders=Z)(b:(Region.noSelect l.toArray&&decide (o.length=l.length)&&Zy .any l.toArray o (gv l.toArray.size X3))=Z)
 (f:∀c d v a w,Q (.panic c) (Act.put a d v) w->Q (.panic c) a w) {ol:List (Oper × Bool)} (i:(o.map λx=>((l.toArray[x.1]?).getD default,x.2))=ol)
 (h:∀u,fJ w u->Mem w0 u is->bX P l.toArray (λu=>Mem w0 u (qG bs is)) Q ol a u):(Code.region id l.toArray Z).wp P Q a w :=
 Bp o g b f i λu e=>⟨λu=>Mem w0 u (qG bs is),(m.ext' e).sel bs,h u e (m.ext' e)⟩
def Xg{id:Nat}{a:Act}{l:List Oper}(m:Mem w0 w is)(bs:List Bool)(t:rB)(g:P.follows .mixedOrders=Z)(b:(Region.noSelect l.toArray&&t.ok .any l.toArray l.toArray.size (gv l.toArray.size X3))=Z)
 (f:∀c d v a w,Q (.panic c) (Act.put a d v) w->Q (.panic c) a w)
 (h:∀u,Mem w0 u is->cP P l.toArray (λu=>Mem w0 u (qG bs is)) Q t a u):(Code.region id l.toArray Z).wp P Q a w :=
 Rk t g b f λu e=>⟨λu=>Mem w0 u (qG bs is),(m.ext' e).sel bs,h u (m.ext' e)⟩
def mf1{tl:List Oper}{i d:Nat}{T:ba}{cs:List aj}(m:Mem w0 w is)(h:∀g u,Mem w0 u (bI g cs T::is)->az P ops Q tl (Fr (l.set d (.pointer (X4 ⟨g,0,X5⟩))) ds) u) :
 ∀E w',fJ w w'->Lx w.heap.size E [⟨i,d,T,cs⟩] w'->(∀x∈[(⟨i,d,T,cs⟩:Al)],∃v,E x.i=X4 v)->az P ops Q tl (fT E [⟨i,d,T,cs⟩] (Fr l ds)) w' :=
 aqH λu g e b a=>h g u (m.newB e b a)
def Mem.newB2{w w':ak}{is:List It}{g a:Nat}{cs c:List aj}{t t2:ba}(m:Mem w0 w is)(e:fJ w w')(h:w.heap.size<=g)(k:w.heap.size<=a)(d:fQ w' g cs t)(i:fQ w' a c t2)(l:a≠g):Mem w0 w' (bI a c t2::bI g cs t::is):=by
 have m1:=m.newB e h d;refine⟨m1.ext,λj hj=>?_,λj hj=>?_,bv.2 ⟨λj hj b h1 h2=>?_,m1.nd⟩⟩
 . rcases ap.1 hj with rfl | hj
   .exact i
   exact m1.all j hj
 . rcases ap.1 hj with rfl | hj
   .exact λb f=>by cases f;exact be m.ext.size k
   exact m1.ge j hj
 cases h1
 rcases ap.1 hj with rfl | hj
 .cases h2;exact l O
 have:=j.lt w _ (m.all j hj) h2
 omega
def mf2{tl:List Oper}{i d j e:Nat}{T U:ba}{cs us:List aj}(m:Mem w0 w is)(n:i≠j)(h:∀g k u,Mem w0 u (bI k us U::bI g cs T::is)->az P ops Q tl (Fr ((l.set d (.pointer (X4 ⟨g,0,X5⟩))).set e (.pointer (X4 ⟨k,0,X5⟩))) ds) u) :
 ∀E w',fJ w w'->Lx w.heap.size E [⟨i,d,T,cs⟩,⟨j,e,U,us⟩] w'->(∀x∈[(⟨i,d,T,cs⟩:Al),⟨j,e,U,us⟩],∃v,E x.i=X4 v)->az P ops Q tl (fT E [⟨i,d,T,cs⟩,⟨j,e,U,us⟩] (Fr l ds)) w' :=
 aqI n λu g k e c f a b o=>h g k u (m.newB2 e c f a b o)
def at4{c:Code}{a:Act}{l:Nat->Nat->List aj}{c1 c2:List aj}{T1 T2:ba}(m:Mem w0 w is)(h1:c.wp P (λe b u=>e=.normal/\∃g k,b=Fr (l g k) ds/\Mem w0 u (bI k c2 T2::bI g c1 T1::is)) a w)
 (h2:∀g k u,Mem w0 u (bI k c2 T2::bI g c1 T1::is)->Q .normal (Fr (l g k) ds) u):c.wp P Q a w:=by
 refine Code.wp_mono ?_ h1;rintro e b u ⟨rfl,g,k,rfl,d⟩;exact h2 g k u d
end
section
variable {P:bt} {w0:ak} {is:List It} {l:List aj} {x y:b_} {T ty:ba}
variable {ops:Array Oper} {Q:Act->Prop} {rest:List Oper} {d:Nat} {pos:String} {after:Array Edge} {v:aj} {ds:List ej}
def ql(c:ev l x=.pointer (X4 a))(b:∀u,Mem w0 u is->dQ P u T a v)(h:cw P ops (λu=>Mem w0 u is) Q rest (Fr (l.set d v) ds)):cw P ops (λu=>Mem w0 u is) Q (bu (X4 d) (.load T x) ty pos after X5::rest) (Fr l ds) :=
 kC (λu m=>bD c (b u m)) h
def qc{f:FuncId}{b:b_}{xs:Array b_}{args:List aj}{first cap:Array aj}{a0:Array ba}(i:ev l b=.func (.func f) first cap)(j:first.toList++xs.toList.map (ev l)++cap.toList=args)(hc:∀u,Mem w0 u is->cY P f args u λx _=>x=v)
 (h:cw P ops (λu=>Mem w0 u is) Q rest (Fr (l.set d v) ds)):cw P ops (λu=>Mem w0 u is) Q (bu (X4 d) (.call { callee:=.value b,args:=xs,argTypes:=a0 }) ty pos after X5::rest) (Fr l ds):=by
 refine wpQuiet_step λK g=>?_;rw[J (by simp[Region.wanted])];refine⟨v,λw' a=>?_,?_⟩
 . unfold ml
   rw[jY,pT (hc w' a).1 i j _ rfl];refine⟨O,(hc w' a).2.mono ?_⟩;rintro e k ⟨u,rfl,c,rfl⟩;exact⟨O,a.ext' c⟩
 show K ((Fr l ds).put (X4 d) v)
 rw[gI];exact g _ h
def eH{f:FuncId}{a:b_}{xs:Array b_}{args:List aj}{first cap:Array aj}{a0:Array ba}(b:ev l a=.func (.func f) first cap)(c:first.toList++xs.toList.map (ev l)++cap.toList=args)(hc:dF P f args v)
 (h:cw P ops (λu=>Mem w0 u is) Q rest (Fr (l.set d v) ds)):cw P ops (λu=>Mem w0 u is) Q (bu (X4 d) (.call { callee:=.value a,args:=xs,argTypes:=a0 }) ty pos after X5::rest) (Fr l ds):=qc b c (λu _=>hc u) h
end
structure GX(w w':ak):Prop where
 ext:fJ w w'
 dr:w.drawn<=w'.drawn
def GX.grow{w':ak}(h:GX w w'):∃q os,w'=Sort.grow (w.drewN q) os:=by
 refine⟨w'.drawn-w.drawn,w'.heap.extract w.heap.size w'.heap.size,?_⟩;have b:w.heap++w'.heap.extract w.heap.size w'.heap.size=w'.heap:=by
  apply li;intro i;rw[Array.getElem?_append];split
  . rename_i a
    exact (Below.block h.ext i a).symm
  rename_i a
  rw[Array.getElem?_extract];have:=h.ext.size;split
  .congr 1;omega
  rw[mn (by omega)]
 have c:w.drawn+(w'.drawn-w.drawn)=w'.drawn:=by have:=h.dr;omega
 have h1:=h.ext.os;have h2:=h.ext.tape;have d:=h.ext.output;cases w;cases w';simp only[Sort.grow,World.drewN] at *
 subst h1 h2 d;rw[b,c]
structure iC(w0 w:ak)(is:List It):Prop where
 ext:GX w0 w
 mem:Mem w0 w is
def tN(P:bt)(f:FuncId)(args:List aj)(v:aj):Prop:=∀w,Entr P f/\Calls P f args.toArray w λe w'=>∃u,e=.returned u/\GX w w'/\u=v
def tN.pure{P:bt}{f:FuncId}{args:List aj}{v:aj}(h:tN P f args v):dF P f args v:=λw=>⟨(h w).1,(h w).2.mono λ_ _ ⟨u,b,a,c⟩=>⟨u,b,a.ext,c⟩⟩
section
variable {w0 w w':ak} {is:List It}
def iC.refl(w:ak):iC w w []:=⟨⟨fJ.refl w,ar _⟩,Mem.refl w⟩
def iC.go(m:iC w0 w is){a:List It}(h:Mem w0 w' a)(d:w.drawn<=w'.drawn):iC w0 w' a:=⟨⟨h.ext,be m.ext.dr d⟩,h⟩
def iC.ext' (m:iC w0 w is)(e:GX w w'):iC w0 w' is:=m.go (m.mem.ext' e.ext) e.dr
def iC.b(m:iC w0 w is)(k:Nat){g:Nat}{cs:List aj}(a:is[k]? = X4 (bI g cs t)):fQ w g cs t:=m.mem.b k a
end
section
variable {P:bt} {ds:List ej} {l:List aj} {x y:b_} {T ty:ba}
variable {ops:Array Oper} {Q:Exit->Act->ak->Prop} {rest:List Oper} {d:Nat} {pos:String} {after:Array Edge} {w w0:ak} {is:List It} {v:aj}
def at5{cs:List aj}(m:iC w0 w is)(b:(ev l x).cells=cs.toArray)(h:∀g u,iC w0 u (bI g cs T::is)->az P ops Q rest (Fr (l.set d (.pointer (X4 ⟨g,0,X5⟩))) ds) u) :
 az P ops Q (bu (X4 d) (.box T x) ty pos after X5::rest) (Fr l ds) w :=
 mG (w':=w.alloc (.cells cs.toArray T)) (v:=.pointer (X4 ⟨w.heap.size,0,X5⟩)) (λo a _=>by simp[dw,a,cN,Instr.box,newVar,newRow,b,newObj,Sem.run]) (h _ _ (m.go (m.mem.newB ((fJ.refl w).alloc _) (ar _) (iV w cs T)) (ar _)))
def oX{cs:List aj}(m:iC w0 w is)(a:ev l x=.agg cs.toArray)(h:∀g u,iC w0 u (bI g cs T::is)->az P ops Q rest (Fr (l.set d (.pointer (X4 ⟨g,0,X5⟩))) ds) u) :
 az P ops Q (bu (X4 d) (.box T x) ty pos after X5::rest) (Fr l ds) w:=at5 m (by rw[a];rfl) h
def anv{cs:List aj}{z:aj}(m:iC w0 w is)(a:nJ P T z)(e:z.cells=cs.toArray)(h:∀g u,iC w0 u (bI g cs T::is)->az P ops Q rest (Fr (l.set d (.pointer (X4 ⟨g,0,X5⟩))) ds) u) :
 az P ops Q (bu (X4 d) (.alloc T) ty pos after X5::rest) (Fr l ds) w:=by
 obtain⟨i,b,f⟩:=a;exact mG (w':=w.alloc (.cells cs.toArray T)) (v:=.pointer (X4 ⟨w.heap.size,0,X5⟩)) (λo c _=>by simp[dw,c,Instr.alloc,zeroValue,typeInfo,b,f,newVar,newRow,e,newObj,Sem.run]) (h _ _ (m.go (m.mem.newB ((fJ.refl w).alloc _) (ar _) (iV w cs T)) (ar _)))
def anw{g off:Nat}{cs us:List aj}{t:ba}(m:iC w0 w is)(k:Nat)(d:is[k]? = X4 (bI g cs t))(j:ev l x=.pointer (X4 ⟨g,off,X5⟩))(i:(ev l y).cells=us.toArray)(hc:dO P T us.length)(p:off+us.length<=cs.length)(h1:(us.all (·.oneCell'))=Z)
 (h:∀u,iC w0 u (is.set k (bI g (over cs off us) t))->az P ops Q rest (Fr l ds) u):az P ops Q (bu X5 (.store T x y) ty pos after X5::rest) (Fr l ds) w:=by
 have c:=m.b k d;have a:=Qx w g (over cs off us).toArray;exact Io (w':=w.setRow g (over cs off us).toArray) (λo f=>by simp[dw,f,cN,j,Instr.storeAt,Instr.sureAddr,Ip hc i c p (fN h1)])
  (h _ (m.go (m.mem.put k d a.os a.tape a.output (by rw[a.size];exact ar _) (λb _ n=>a.block b λe=>n (by rw[e];rfl)) (setRow_heap w g cs.toArray _ t _ c) (.inl λ_ h=>h)) (ar _)))
def aja{g off:Nat}{cs us:List aj}{t:ba}(m:iC w0 w is)(k:Nat)(a:is[k]? = X4 (bI g cs t))(c:ev l x=.pointer (X4 ⟨g,off,X5⟩))(b:ev l y=.agg us.toArray)(hc:dO P T us.length)(d:off+us.length<=cs.length)(h1:(us.all (·.oneCell'))=Z)
 (h:∀u,iC w0 u (is.set k (bI g (over cs off us) t))->az P ops Q rest (Fr l ds) u):az P ops Q (bu X5 (.store T x y) ty pos after X5::rest) (Fr l ds) w:=anw m k a c (by rw[b];rfl) hc d h1 h
def Pv{f:FuncId}{a:b_}{xs:Array b_}{args:List aj}{first cap:Array aj}{a0:Array ba}(m:iC w0 w is)(g:ev l a=.func (.func f) first cap)(i:first.toList++xs.toList.map (ev l)++cap.toList=args)(hc:tN P f args v)
 (h:∀u,iC w0 u is->az P ops Q rest (Fr (l.set d v) ds) u):az P ops Q (bu (X4 d) (.call { callee:=.value a,args:=xs,argTypes:=a0 }) ty pos after X5::rest) (Fr l ds) w:=by
 refine wpList_plain O λK c=>?_;unfold nf;rw[jY,pT (hc w).1 g i _ rfl];refine (hc w).2.mono ?_;rintro e w' ⟨u,rfl,b,rfl⟩;show K ((Fr l ds).put (X4 d) u) w'
 rw[gI];exact c _ _ (h w' (m.ext' b))
def iC.drew(m:iC w0 w is):iC w0 { w with drawn:=w.drawn+1 } is:=m.ext' ⟨(fJ.refl w).drawn,Nat.le_succ _⟩
def Rp{id:Nat}{a:Act}{l:List Oper}(m:iC w0 w is)(n:Nat)(d:P.follows .mixedOrders=Z)(c:Region.lexTailB .any l.toArray n=Z)
 (h:cw P l.toArray (λu=>iC w0 u is) (λb=>∀u,iC w0 u is->az P l.toArray Q (l.drop n) b u) (l.take n) a):(Code.region id l.toArray Z).wp P Q a w :=
 sB (C:=λu=>iC w0 u is) n d c m.drew h
def Gmq{id:Nat}{a:Act}{l:List Oper}(m:iC w0 w is)(d:P.follows .mixedOrders=Z)(c:Region.lexB .any l.toArray=Z)
 (h:cw P l.toArray (λu=>iC w0 u is) (λb=>∀u,iC w0 u is->Q .normal b u) l a):(Code.region id l.toArray Z).wp P Q a w :=
 wp_region_quiet (C:=λu=>iC w0 u is) d c m.drew (by simpa using h)
end
section
variable {P:bt} {w0:ak} {is:List It} {l:List aj} {x y:b_} {T ty:ba}
variable {ops:Array Oper} {Q:Act->Prop} {rest:List Oper} {d:Nat} {pos:String} {after:Array Edge} {v:aj} {ds:List ej}
def Vo(c:ev l x=.pointer (X4 a))(b:∀u,iC w0 u is->dQ P u T a v)(h:cw P ops (λu=>iC w0 u is) Q rest (Fr (l.set d v) ds)):cw P ops (λu=>iC w0 u is) Q (bu (X4 d) (.load T x) ty pos after X5::rest) (Fr l ds) :=
 kC (λu m=>bD c (b u m)) h
def Jc{f:FuncId}{a:b_}{xs:Array b_}{args:List aj}{first cap:Array aj}{a0:Array ba}(g:ev l a=.func (.func f) first cap)(j:first.toList++xs.toList.map (ev l)++cap.toList=args)(hc:tN P f args v)
 (h:cw P ops (λu=>iC w0 u is) Q rest (Fr (l.set d v) ds)):cw P ops (λu=>iC w0 u is) Q (bu (X4 d) (.call { callee:=.value a,args:=xs,argTypes:=a0 }) ty pos after X5::rest) (Fr l ds):=by
 refine wpQuiet_step λK c=>?_;rw[J (by simp[Region.wanted])];refine⟨v,λw' i=>?_,?_⟩
 . unfold ml
   rw[jY,pT (hc w').1 g j _ rfl];refine⟨O,(hc w').2.mono ?_⟩;rintro e k ⟨u,rfl,b,rfl⟩;exact⟨O,i.ext' b⟩
 show K ((Fr l ds).put (X4 d) v)
 rw[gI];exact c _ h
end
def H.Lt(p q:H):Prop:=p.x<q.x\/p.x=q.x/\(p.y<q.y\/p.y=q.y/\p.z<q.z)
variable{q:H}
instance (p q:H):Decidable (p.Lt q):=by unfold H.Lt;infer_instance
def rC(p q:H):Int:=if p.Lt q then -1 else if q.Lt p then 1 else 0
theorem H.eq{p:H}(h1:p.x=q.x)(h2:p.y=q.y)(a:p.z=q.z):p=q:=by
 cases p;cases q;simp_all
instance:DecidableEq H:=λp q=>if h:p.x=q.x/\p.y=q.y/\p.z=q.z then isTrue (H.eq h.1 h.2.1 h.2.2) else isFalse λe=>h (by subst e;exact⟨rfl,rfl,rfl⟩)
def H.lt_irrefl(p:H):¬p.Lt p:=by unfold H.Lt;omega
def H.lt_trans{p r:H}(h:p.Lt q)(k:q.Lt r):p.Lt r:=by unfold H.Lt at *;omega
def H.lt_tri(p q:H):p.Lt q\/p=q\/q.Lt p:=by
 by_cases h1:p.x=q.x
 . by_cases h2:p.y=q.y
   . by_cases a:p.z=q.z
     .exact .inr (.inl (H.eq h1 h2 a))
     unfold H.Lt;omega
   unfold H.Lt;omega
 unfold H.Lt;omega
def H.lt_x{p:H}(h:¬p.x=q.x):p.Lt q↔p.x<q.x:=by unfold H.Lt;omega
def H.lt_y{p:H}(h:p.x=q.x)(h2:¬p.y=q.y):p.Lt q↔p.y<q.y:=by unfold H.Lt;omega
def H.lt_z{p:H}(h:p.x=q.x)(h2:p.y=q.y):p.Lt q↔p.z<q.z:=by unfold H.Lt;omega
@[irreducible] def Rq(c:Bool)(v:aj):aj:=if c then v else undef
def iM{v:aj}:Rq Z v=v:=by simp[Rq]
def Cy{v:aj}:Rq X3 v=undef:=by simp[Rq]
def bL{c:Bool}{u v:aj}(a:c=Z)(h:u=Rq c v):u=v:=by rw[h,a,iM]
section
variable {P:bt} {ds:List ej} {l:List aj} {x y:b_} {T ty:ba} {b c:Bool} {v:aj}
def eE{z:b_}(e:ev l z=.bool b)(a:ev l x=Rq b (.bool c))(d:ev l y=.bool X3):iB P l (.pick z x y) ty (.bool (b&&c)):=by
 have:=Zz (P:=P) (ty:=ty) (x:=x) (y:=y) e;cases b with
 | false=>simpa[d] using this
 | true=>simpa[a,iM] using this
def gJ{z:b_}(e:ev l z=.bool b)(a:ev l x=.bool Z)(d:ev l y=Rq (!b) (.bool c)):iB P l (.pick z x y) ty (.bool (b||c)):=by
 have:=Zz (P:=P) (ty:=ty) (x:=x) (y:=y) e;cases b with
 | false=>simpa[d,iM] using this
 | true=>simpa[a] using this
end
section
variable {P:bt} {ops:Array Oper} {Q:Exit->Act->ak->Prop} {rest:List Oper} {d j:Nat} {op:Op} {ty:ba} {pos:String} {after:Array Edge} {v:aj} {b:Bool} {ds:List ej} {l:List aj} {w w0:ak} {is:List It}
def jH(a:yielded ops l.toArray j=X4 b)(hr:b=Z->Cb P l op ty v w)(h:az P ops Q rest (Fr (l.set d (Rq b v)) ds) w):az P ops Q (bu (X4 d) op ty pos after (X4 (j,Z))::rest) (Fr l ds) w:=by
 cases b with
 | false=>rw[Cy] at h;exact pQ a h
 | true=>rw[iM] at h;exact eP a (fI (hr O) h)
def dW(a:yielded ops l.toArray j=X4 b)(hr:(!b)=Z->Cb P l op ty v w)(h:az P ops Q rest (Fr (l.set d (Rq (!b) v)) ds) w):az P ops Q (bu (X4 d) op ty pos after (X4 (j,X3))::rest) (Fr l ds) w:=by
 cases b with
 | true=>rw[f_,Cy] at h;exact Ps a h
 | false=>rw[gd,iM] at h;exact eP a (fI (hr O) h)
def jI(a:yielded ops l.toArray j=X4 b)(hr:b=Z->iB P l op ty v)(h:az P ops Q rest (Fr (l.set d (Rq b v)) ds) w):az P ops Q (bu (X4 d) op ty pos after (X4 (j,Z))::rest) (Fr l ds) w:=jH a (λe=>hr e w) h
def cW(a:yielded ops l.toArray j=X4 b)(hr:(!b)=Z->iB P l op ty v)(h:az P ops Q rest (Fr (l.set d (Rq (!b) v)) ds) w):az P ops Q (bu (X4 d) op ty pos after (X4 (j,X3))::rest) (Fr l ds) w:=dW a (λe=>hr e w) h
def afQ{f:FuncId}{a:b_}{xs:Array b_}{args:List aj}{first cap:Array aj}{a0:Array ba}(m:Mem w0 w is)(c:yielded ops l.toArray j=X4 b)(e:ev l a=.func (.func f) first cap)(g:b=Z->first.toList++xs.toList.map (ev l)++cap.toList=args)(hc:b=Z->dF P f args v)
 (h:∀u,Mem w0 u is->az P ops Q rest (Fr (l.set d (Rq b v)) ds) u):az P ops Q (bu (X4 d) (.call { callee:=.value a,args:=xs,argTypes:=a0 }) ty pos after (X4 (j,Z))::rest) (Fr l ds) w:=by
 cases b with
 | false=>simp only[Cy] at h;exact pQ c (h w m)
 | true=>simp only[iM] at h;exact eP c (jG m e (g O) (hc O) h)
def Ad{f:FuncId}{a:b_}{xs:Array b_}{args:List aj}{first cap:Array aj}{a0:Array ba}(m:Mem w0 w is)(c:yielded ops l.toArray j=X4 b)(e:ev l a=.func (.func f) first cap)(g:(!b)=Z->first.toList++xs.toList.map (ev l)++cap.toList=args)(hc:(!b)=Z->dF P f args v)
 (h:∀u,Mem w0 u is->az P ops Q rest (Fr (l.set d (Rq (!b) v)) ds) u):az P ops Q (bu (X4 d) (.call { callee:=.value a,args:=xs,argTypes:=a0 }) ty pos after (X4 (j,X3))::rest) (Fr l ds) w:=by
 cases b with
 | true=>simp only[f_,Cy] at h;exact Ps c (h w m)
 | false=>simp only[gd,iM] at h;exact eP c (jG m e (g O) (hc O) h)
end
section
variable {P:bt} {ops:Array Oper} {Q:Act->Prop} {C:ak->Prop} {rest:List Oper} {d j:Nat} {op:Op} {ty:ba} {pos:String} {after:Array Edge} {v:aj} {b:Bool} {ds:List ej} {l:List aj} {w0:ak} {is:List It}
def eM(a:yielded ops l.toArray j=X4 b)(hr:b=Z->∀u,C u->Cb P l op ty v u)(h:cw P ops C Q rest (Fr (l.set d (Rq b v)) ds)):cw P ops C Q (bu (X4 d) op ty pos after (X4 (j,Z))::rest) (Fr l ds):=by
 cases b with
 | false=>rw[Cy] at h;exact pR a h
 | true=>rw[iM] at h;exact fL a (kC (hr O) h)
def uC(a:yielded ops l.toArray j=X4 b)(hr:(!b)=Z->∀u,C u->Cb P l op ty v u)(h:cw P ops C Q rest (Fr (l.set d (Rq (!b) v)) ds)):cw P ops C Q (bu (X4 d) op ty pos after (X4 (j,X3))::rest) (Fr l ds):=by
 cases b with
 | true=>rw[f_,Cy] at h;exact Ik a h
 | false=>rw[gd,iM] at h;exact fL a (kC (hr O) h)
def cQ(a:yielded ops l.toArray j=X4 b)(hr:b=Z->iB P l op ty v)(h:cw P ops C Q rest (Fr (l.set d (Rq b v)) ds)):cw P ops C Q (bu (X4 d) op ty pos after (X4 (j,Z))::rest) (Fr l ds):=eM a (λe u _=>hr e u) h
def lN(a:yielded ops l.toArray j=X4 b)(hr:(!b)=Z->iB P l op ty v)(h:cw P ops C Q rest (Fr (l.set d (Rq (!b) v)) ds)):cw P ops C Q (bu (X4 d) op ty pos after (X4 (j,X3))::rest) (Fr l ds):=uC a (λe u _=>hr e u) h
def Jd{f:FuncId}{a:b_}{xs:Array b_}{args:List aj}{first cap:Array aj}{a0:Array ba}(c:yielded ops l.toArray j=X4 b)(e:ev l a=.func (.func f) first cap)(g:b=Z->first.toList++xs.toList.map (ev l)++cap.toList=args)(hc:b=Z->dF P f args v)
 (h:cw P ops (λu=>Mem w0 u is) Q rest (Fr (l.set d (Rq b v)) ds)):cw P ops (λu=>Mem w0 u is) Q (bu (X4 d) (.call { callee:=.value a,args:=xs,argTypes:=a0 }) ty pos after (X4 (j,Z))::rest) (Fr l ds):=by
 cases b with
 | false=>rw[Cy] at h;exact pR c h
 | true=>rw[iM] at h;exact fL c (eH e (g O) (hc O) h)
def afR{f:FuncId}{a:b_}{xs:Array b_}{args:List aj}{first cap:Array aj}{a0:Array ba}(c:yielded ops l.toArray j=X4 b)(e:ev l a=.func (.func f) first cap)(g:(!b)=Z->first.toList++xs.toList.map (ev l)++cap.toList=args)(hc:(!b)=Z->dF P f args v)
 (h:cw P ops (λu=>Mem w0 u is) Q rest (Fr (l.set d (Rq (!b) v)) ds)):cw P ops (λu=>Mem w0 u is) Q (bu (X4 d) (.call { callee:=.value a,args:=xs,argTypes:=a0 }) ty pos after (X4 (j,X3))::rest) (Fr l ds):=by
 cases b with
 | true=>rw[f_,Cy] at h;exact Ik c h
 | false=>rw[gd,iM] at h;exact fL c (eH e (g O) (hc O) h)
end
section
variable {P:bt} {ops:Array Oper} {S:ak->Prop} {Q:Exit->Act->ak->Prop} {rest:List (Oper × Bool)} {d j:Nat} {op:Op} {ty:ba} {pos:String} {after:Array Edge} {v:aj} {b:Bool} {ds:List ej} {l:List aj} {w:ak}
def Pw(a:yielded ops l.toArray j=X4 b)(hr:b=Z->∀u,S u->Cb P l op ty v u)(h:bX P ops S Q rest (Fr (l.set d (Rq b v)) ds) w):bX P ops S Q ((bu (X4 d) op ty pos after (X4 (j,Z)),Z)::rest) (Fr l ds) w:=by
 cases b with
 | false=>rw[Cy] at h;exact uA a h
 | true=>rw[iM] at h;exact wY a (aah (hr O) h)
def nV(a:yielded ops l.toArray j=X4 b)(hr:b=Z->iB P l op ty v)(h:bX P ops S Q rest (Fr (l.set d (Rq b v)) ds) w):bX P ops S Q ((bu (X4 d) op ty pos after (X4 (j,Z)),Z)::rest) (Fr l ds) w:=Pw a (λe u _=>hr e u) h
end
end
section
open Go.RowKit Go.ChangeShapes
variable {H:Type} {enc:ba × aj->H} {P:bt} {w:ak} {base:Nat} {spare:Nat->Bool} {held:Bool}
def vC(P:bt):Nat->ba->Bool
 | 0,_=>X3
 | n+1,t=>match P.underlying t with
  | some (.int .i64)=>decide (P.cellsOf t=1)
  | some (.struct fs)=>(fs.toList.all λf=>vC P n f.type)&&(ke (P.cellsOf t)).all λi=>fs.toList.any λf=>decide (f.offset<=i)&&decide (i<f.offset+P.cellsOf f.type)
  | some (.array m e)=>vC P n e&&decide (P.cellsOf t=m*P.cellsOf e)
  | _=>X3
def aqK{n:Int}(h:(Lit.int .i64 n).wf=Z):rS n:=by
 have:=bounds_i64 h;exact⟨by omega,by omega⟩
def Ae:∀(n:Nat) (t:ba) (m:Nat) (cs:List aj) (x:DataW H × List MemPlace),vC P n t=Z->DataW.trod enc P w base spare held m t cs=X4 x ->
 cs.length=P.cellsOf t/\∀v∈cs,∃z,v=X6 z/\rS z
 | 0,t,m,cs,x,h,_=>by cases h
 | n+1,t,m,cs,x,h,l=>by
  unfold vC at h;split at h
  . rename_i c
    obtain⟨z,rfl,_,s⟩:=DataW.trod_int c l;refine⟨by rw[Y3 h];rfl,λv d=>⟨z,by simpa using d,aqK s⟩⟩
  . rename_i fs c
    simp only[bg,fe,et,R,kf] at h;obtain⟨ys,k,_,_,b,o,g⟩:=DataW.trod_struct c l;refine⟨b,λv d=>?_⟩;obtain⟨i,a,rfl⟩:=lx d;obtain⟨f,u,h1,h2⟩:=h.2 i (by rw[<-b];exact a);obtain⟨j,p,rfl⟩:=lx u;have r:j<fs.size:=by simpa using p
    have:=g j fs[j] (ii r);rw[am (by rw[o];exact r)] at this;have hr:=(Ae n _ _ _ _ (h.1 _ (gj p)) this).2;refine hr _ ?_;simp only[Array.getElem_toList] at h1 h2;refine bf (i:=i-fs[j].offset) ?_;rw[d_,J (by omega),dl,show fs[j].offset+(i-fs[j].offset)=i by omega];exact am a
  . rename_i q e c
    simp only[bg,R] at h;obtain⟨ys,k,_,_,b,o,g⟩:=DataW.trod_array c l;refine⟨b,λv d=>?_⟩;obtain⟨i,a,rfl⟩:=lx d;rw[b,h.2] at a;have hc:0<P.cellsOf e:=by
     rcases ji (P.cellsOf e) with h0 | h0
     .rw[h0] at a;omega
     exact h0
    have hq:i / P.cellsOf e<q:=Nat.div_lt_of_lt_mul (by rw[rn];exact a);have:=g _ hq;rw[am (by rw[o];exact hq)] at this;have hr:=(Ae n _ _ _ _ h.1 this).2;refine hr _ (bf (i:=i%P.cellsOf e) ?_);rw[d_,J (lh _ hc),dl,rn,Nat.div_add_mod];exact am _
  cases h
def Xh:∀(n:Nat) (cs:List aj),cs.length=n->(∀v∈cs,∃z,v=X6 z/\rS z)->∃zs:List Int,zs.length=n/\cs=zs.map (.int .i64 ·)/\∀z∈zs,rS z
 | 0,[],_,_=>⟨[],rfl,rfl,λ_ h=>by cases h⟩
 | n+1,v::vs,h,a=>by
  obtain⟨zs,h1,h2,b⟩:=Xh n vs (by simpa using h) (λu hu=>a u (by simp[hu]));obtain⟨z,rfl,c⟩:=a v (by simp);exact⟨z::zs,by simp[h1],by simp[h2],λu hu=>by rcases ap.1 hu with rfl | hu;exact c;exact b _ hu⟩
def adW{a:Addr}{n:Nat}{cs:List aj}(h:w.cells? base a n=X4 cs):kV w a cs/\base<=a.block:=by
 unfold World.cells? at h;split at h
 . rename_i d
   refine⟨λj u b=>?_,d⟩;have e:=mapM_some_length h;have c:j<cs.length:=(ao.1 b).1;rw[e] at c;have:=mapM_some_get h j j (am c▸by simp);rw[this,b]
 cases h
def aha{n m:Nat}{t e:ba}{v:Nat}{cs:List aj}{x:DataW H × List MemPlace}(r:P.underlying t=X4 (.slice e))(b:vC P n e=Z)(hc:P.cellsOf e=m)(h:DataW.trod enc P w base spare held v t cs=X4 x) :
 ∃(A:Option Addr) (len cap:Nat),cs=[.slice A len cap]/\len<=cap/\cap<=maxLen/\(A=X5->len=0)/\∀i,i<len->∃(a:Addr) (zs:List Int),A=X4 a/\base<=a.block/\kV w (a.add (i*m)) (zs.map (my .i64 ·))/\zs.length=m/\∀z∈zs,rS z:=by
 rcases Deep.open_slice r h with ⟨rfl,_⟩ | ⟨a,len,cap,k,q,D,y,rfl,j,o,p,l,_,s⟩
 .exact⟨X5,0,0,O,ar _,bn _,λ_=>rfl,λi b=>Z8 b (Nat.not_lt_zero _)⟩
 refine⟨X4 a,len,cap,rfl,o,p,λh=>(by cases h),λi B=>?_⟩
 obtain⟨u,h1,h2⟩:=s i (by rw[l];split <;> omega);obtain⟨c,d⟩:=Ae n e q _ _ b h2;obtain⟨zs,f,rfl,g⟩:=Xh m u (by rw[<-hc];exact c) d;rw[hc] at h1;exact⟨a,zs,O,j,(adW h1).1,f,g⟩
def Of{α:Type}{p:Nat->α->Prop}:∀(n:Nat),(∀i,i<n->∃x,p i x)->∃l:List α,l.length=n/\∀i x,l[i]? = X4 x->p i x
 | 0,_=>⟨[],rfl,λi x h=>by simp at h⟩
 | n+1,h=>by
  obtain⟨l,h1,h2⟩:=Of n (λi hi=>h i (by omega));obtain⟨x,c⟩:=h n (by omega);refine⟨l++[x],by simp[h1],λi y a=>?_⟩;rcases ow i n with hi | hi | hi
  .exact h2 i y (by rwa [c_ (by omega)] at a)
  . subst hi
    rw[dm (by omega),h1,Nat.sub_self] at a;cases a;exact c
  rw[dm (by omega),h1] at a
  have:i-n≠0:=by omega
  cases b:i-n with
  | zero=>omega
  | succ j=>rw[b] at a;simp at a
structure ajb(w:ak)(A:Option Addr)(n:Nat)(zs:List Int):Prop where
 len:zs.length=n
 it:∀z∈zs,rS z
 row:∀i z,zs[i]? = X4 z->∃a,A=X4 a/\w.cell? (a.add i)=X4 (X6 z)
def adX{n:Nat}{t e:ba}{m:Nat}{cs:List aj}{x:DataW H × List MemPlace}(l:P.underlying t=X4 (.slice e))(b:vC P n e=Z)(hc:P.cellsOf e=1)(h:DataW.trod enc P w base spare held m t cs=X4 x) :
 ∃(A:Option Addr) (len cap:Nat) (zs:List Int),cs=[.slice A len cap]/\len<=cap/\cap<=maxLen/\(A=X5->len=0)/\ajb w A len zs:=by
 obtain⟨A,len,cap,rfl,h1,h2,f,g⟩:=aha l b hc h;obtain⟨zs,j,d⟩:=Of (p:=λi (z:Int)=>rS z/\∃a,A=X4 a/\w.cell? (a.add i)=X4 (X6 z)) len (λi b=>by
  obtain⟨a,zs,rfl,_,hr,k,c⟩:=g i b
  match zs,k with
  | [z],_=>exact⟨z,c _ (by simp),a,rfl,by have:=hr 0 _ rfl;rwa [dt,jD,ka] at this⟩)
 refine⟨A,len,cap,zs,O,h1,h2,f,j,λz c=>?_,λi z c=>(d i z c).2⟩;obtain⟨i,b,rfl⟩:=lx c;exact (d i _ (am b)).1
end
section
open Go.RowKit
variable{n k c:Nat}{E:ba}{α:Type}{w:ak}{x q y u s:H}
def apI{n m:Int}(a:0<m) : -m<n.tmod m/\n.tmod m<m:=by
 have h1:=Int.tmod_lt_of_pos n a;have h2:=Int.tmod_lt_of_pos (-n) a;rw[Int.neg_tmod] at h2;omega
def anx{n m:Int}(b:0<m):(n.tmod m+m).tmod m=n%m:=by
 have c:=apI (n:=n) b;rw[jj (by omega)];rcases Int.le_total 0 n with h | h
 . rw[jj h]
   simp
 have e:n.tmod m = -((-n)%m):=by
  rw[<-jj (show 0 <= -n by omega),Int.neg_tmod,rr]
 rw[e,Int.add_emod_right];have h2:=Int.emod_add_mul_ediv (-n) m;have a : -((-n)%m)=n+m*(-n / m):=by omega
 rw[a,Int.add_mul_emod_self_left]
/-! ### Hills -/
def Og{α β:Type}{f:α->List β}{k:Nat}:∀(l:List α),(∀x∈l,(f x).length=k)->(l.flatMap f).length=l.length*k
 | [],_=>by simp
 | x::l,h=>by
  rw[bx,aq,h x (by simp),Og l (λy a=>h y (by simp[a])),ay,ku,po,ny]
/-! ### Cubes -/
/-! ### What the walks ask for -/
def apJ  : (k:Int).tmod (c:Int)=((k%c:Nat):Int):=rfl
def atI(ts:List T3)(k:Nat):(ts.take k).flatMap aL=(ts.flatMap aL).take (k*9):=by
 induction ts generalizing k with
 | nil=>simp
 | cons t ts ih =>
  cases k with
  | zero=>simp
  | succ k =>
   rw[lw,bx,bx,ih,oa,dS,au (l:=aL t) (by rw[dS];omega),show (k+1)*9-9=k*9 by omega]
def ajc{ts:List T3}{t u:T3}(h:ts[k]? = X4 t):over (ts.flatMap aL) (k*9) (aL u)=(ts.set k u).flatMap aL:=by
 induction ts generalizing k with
 | nil=>cases h
 | cons v ts ih =>
  cases k with
  | zero =>
   unfold over;rw[Nat.zero_mul,kx,bz,iy,bx,bx,dS,ai,n_,dS,gq (l:=aL v) (by rw[dS];omega)];rfl
  | succ k =>
   have:=ih (k:=k) h;unfold over at this ⊢;rw[gn,bx,bx,<-this,dS];rw[oa,dS,au (l:=aL v) (by rw[dS];omega),show (k+1)*9-9=k*9 by omega,n_,dS,gq (l:=aL v) (by rw[dS];omega),show (k+1)*9+9-9=k*9+9 by omega];simp only[cn,bz]
def T3.cor(t:T3)(c:Nat):H:=if c=0 then t.a else if c=1 then t.b else t.c
def T3.setC(t:T3)(c:Nat)(p:H):T3:=if c=0 then ⟨p,t.b,t.c⟩ else if c=1 then ⟨t.a,p,t.c⟩ else ⟨t.a,t.b,p⟩
def anz{t:T3}{p:H}(hc:c<3):over (aL t) (c*3) [X6 p.x,X6 p.y,X6 p.z]=aL (t.setC c p):=by
 have:c=0\/c=1\/c=2:=by omega
 rcases this with rfl | rfl | rfl <;> rfl
def ahb{cs us:List aj}{off d:Nat}(h:off+k<=cs.length)(f:us.length+d<=k):over cs (off+d) us=over cs off (over ((cs.drop off).take k) d us):=by
 have a:((cs.drop off).take k).length=k:=by rw[bj,gg];omega
 have c:(over ((cs.drop off).take k) d us).length=k:=by rw[Cj (by omega)];exact a
 unfold over at c ⊢;rw[c];apply fz;intro j;simp only[cn];rcases eh j off with h1 | h1
 .rw[c_ (by rw[bj];omega),c_ (by rw[bj];omega),d_,d_,J (by omega),J h1]
 rw[dm (l₁:=cs.take off) (by rw[bj];omega)]
 have e:(cs.take off).length=off:=by rw[bj];omega
 have b:(cs.take (off+d)).length=off+d:=by rw[bj];omega
 rw[e];rcases eh j (off+d) with h2 | h2
 .rw[c_ (by rw[b];exact h2),c_ (by rw[bj,a];omega),d_,d_,d_,dl,J h2,J (by omega),J (by omega),show off+(j-off)=j by omega]
 rw[dm (by rw[b];exact h2),b,dm (l₁:=((cs.drop off).take k).take d) (by rw[bj,a];omega),bj (l:=(cs.drop off).take k),a,ij (by omega),show j-off-d=j-(off+d) by omega]
 rcases eh (j-(off+d)) us.length with h3 | h3
 .rw[c_ h3,c_ h3]
 rw[dm h3,dm h3]
 rcases eh j (off+k) with h4 | h4
 . rw[c_ (by rw[gg,a];omega),dl,dl,d_,dl,J (by omega)]
   congr 1
   omega
 rw[dm (by rw[gg,a];omega),dl,dl,gg,a]
 congr 1
 omega
def ajd{ts:List T3}{t:T3}{p:H}(h:ts[k]? = X4 t)(hc:c<3):over (ts.flatMap aL) (k*9+c*3) [X6 p.x,X6 p.y,X6 p.z]=(ts.set k (t.setC c p)).flatMap aL:=by
 have b:k<ts.length:=(ao.1 h).1;have a:=Ew ts k t h;rw[ahb (k:=9) (by rw[Ex];omega) (by show 3+_<=9;omega),a,oa,dS,au (l:=aL t) (by rw[dS];omega),show 9-9=0 from rfl,kx,fb,anz hc,ajc h]
section
variable {w0 w:ak} {S:List (Option Nat)} {E:ba} {n cap:Nat} {A:Option Addr} {ts:List T3}
def kV.cor{a:Addr}{t:T3}{c:Nat}(h:kV w a (aL t))(hc:c<3):kV w (a.add (c*3)) [X6 (t.cor c).x,X6 (t.cor c).y,X6 (t.cor c).z]:=by
 have:=(h.sub (c*3)).take 3;have e:c=0\/c=1\/c=2:=by omega
 rcases e with rfl | rfl | rfl <;> exact this
def bW.take{N k:Nat}(h:bW w A N ts)(b:k<=N):bW w A k (ts.take k) :=
 ⟨by rw[bj,h.len];omega,λt a=>h.it t (nj a),λi t a=>h.row i t (by rw[d_] at a;split at a;exact a;cases a)⟩
end
section
variable {α:Type} {enc:α->List aj} {c:Nat} {w w':ak} {A:Option Addr} {n:Nat} {xs:List α}
structure uD(enc:α->List aj)(c:Nat)(w:ak)(A:Option Addr)(n:Nat)(xs:List α):Prop where
 len:xs.length=n
 row:∀i x,xs[i]? = X4 x->∃a,A=X4 a/\kV w (a.add (i*c)) (enc x)
def uD.ext(h:uD enc c w A n xs)(b:fJ w w'):uD enc c w' A n xs:=⟨h.len,λi x d=>let ⟨a,e,hr⟩:=h.row i x d;⟨a,e,hr.ext b⟩⟩
def uD.get(h:uD enc c w A n xs){i:Nat}(d:i<n):∃x,xs[i]? = X4 x/\∃a,A=X4 a/\kV w (a.add (i*c)) (enc x):=by
 have b:i<xs.length:=by rw[h.len];exact d
 exact⟨xs[i],am b,h.row i _ (am b)⟩
def uD.at{a:Addr}(h:uD enc c w (X4 a) n xs){i:Nat}{x:α}(d:xs[i]? = X4 x):kV w (a.add (i*c)) (enc x):=by
 obtain⟨b,e,hr⟩:=h.row i x d;cases e;exact hr
def uD.take(h:uD enc c w A n xs){k:Nat}(b:k<=n):uD enc c w A k (xs.take k) :=
 ⟨by rw[bj,h.len];omega,λi x a=>h.row i x (by rw[d_] at a;split at a;exact a;cases a)⟩
def iX(hc:∀x,(enc x).length=c):∀xs:List α,(xs.flatMap enc).length=xs.length*c
 | []=>by simp
 | x::xs=>by rw[bx,aq,hc,iX hc xs,ay,ku,po,ny]
def vD(hc:∀x,(enc x).length=c):∀(xs:List α) (k:Nat),(xs.drop k).flatMap enc=(xs.flatMap enc).drop (k*c)
 | xs,0=>by simp
 | [],k+1=>by simp
 | x::xs,k+1=>by
  rw[List.drop_succ_cons,bx,vD hc xs k,n_,hc,gq (l:=enc x) (by rw[hc,ku];omega),ku,po,im,bz]
def Hi(hc:∀x,(enc x).length=c):∀(xs:List α) (k:Nat),(xs.take k).flatMap enc=(xs.flatMap enc).take (k*c)
 | xs,0=>by simp
 | [],k+1=>by simp
 | x::xs,k+1=>by
  rw[lw,bx,bx,Hi hc xs k,oa,hc,au (l:=enc x) (by rw[hc,ku];omega),ku,po,im]
def Rr(hc:∀x,(enc x).length=c){xs:List α}{i:Nat}{x:α}(h:xs[i]? = X4 x):(xs.flatMap enc).drop (i*c)=enc x++(xs.drop (i+1)).flatMap enc:=by
 rw[<-vD hc,fj (ao.1 h).1,bx,(ao.1 h).2]
def Ow.at{w0:ak}{S:List (Option Nat)}{cap g i:Nat}{x:α}(hc:∀x,(enc x).length=c)(h:Ow w0 w S E c (mj ⟨g,0,X5⟩) n cap (xs.flatMap enc))(b:xs[i]? = mj x):kV w ((⟨g,0,X5⟩:Addr).add (i*c)) (enc x):=by
 intro j u a;have d:j<(enc x).length:=(ao.1 a).1;rw[jD];refine h.rows _ _ ?_;rw[<-dl,Rr hc b,c_ d];exact a
def Ow.num{w0:ak}{S:List (Option Nat)}{cap:Nat}(hc:∀x,(enc x).length=c)(a:0<c)(h:Ow w0 w S E c A n cap (xs.flatMap enc)):xs.length=n:=by
 have:=h.own.1;rw[iX hc] at this;exact Nat.eq_of_mul_eq_mul_right a this
def Ow.lat{w0:ak}{S:List (Option Nat)}{cap:Nat}(hc:∀x,(enc x).length=c)(a:0<c)(h:Ow w0 w S E c A n cap (xs.flatMap enc)):uD enc c w A n xs :=
 ⟨h.num hc a,λi x b=>by
  have d:=(ao.1 b).1;have e:=h.num hc a;obtain⟨g,rfl⟩:=h.some (by omega);exact⟨_,O,h.at hc b⟩⟩
def uD.cells(hc:∀x,(enc x).length=c)(d:0<c)(h:uD enc c w A n xs):∀j u,(xs.flatMap enc)[j]? = X4 u->∃a,A=X4 a/\w.cell? (a.add j)=X4 u:=λj u b=>by
 have g:=(ao.1 b).1;rw[iX hc] at g;have f:j / c<xs.length:=(Nat.div_lt_iff_lt_mul d).2 g;obtain⟨a,rfl,hr⟩:=h.row (j / c) _ (am f);refine⟨a,O,?_⟩;have i:=lh j d;have e:j=j / c*c+j%c:=by rw[rn];exact (Nat.div_add_mod j c).symm
 have:=hr (j%c) u (by
  rw[e,<-dl,Rr hc (am f),c_ (by rw[hc];exact i)] at b;exact b)
 rw[jD,<-e] at this;exact this
def uD.cellsD(hc:∀x,(enc x).length=c)(d:0<c)(h:uD enc c w A n xs){cap q:Nat}(g:n<=cap):∀j u,((xs.drop q).flatMap enc)[j]? = X4 u->∃a,(if cap=q then A else A.map (·.add (q*c)))=X4 a/\w.cell? (a.add j)=X4 u:=λj u b=>by
 rw[vD hc,dl] at b;have e:=(ao.1 b).1;rw[iX hc,h.len] at e;obtain⟨a,rfl,f⟩:=h.cells hc d _ _ b;have:q<n:=by
  refine Nat.lt_of_mul_lt_mul_right (a:=c) ?_;omega
 rw[X (by omega)];exact⟨_,O,by rw[jD];exact f⟩
end
def bV{ps:List α}{p:α}(h:ps[k]? = X4 p):ps.take (k+1)=ps.take k++[p]:=by
 rw[nh,h];rfl
abbrev E3:=H × H
variable{es:List E3}
def cJ(e:E3):List aj:=[X6 e.1.x,X6 e.1.y,X6 e.1.z,X6 e.2.x,X6 e.2.y,X6 e.2.z]
def ed(e:E3):aj:=.agg #[X6 e.1.x,X6 e.1.y,X6 e.1.z,X6 e.2.x,X6 e.2.y,X6 e.2.z]
def iD(p:H):List aj:=[X6 p.x,X6 p.y,X6 p.z]
def bW.lat{A:Option Addr}{ts:List T3}(h:bW w A n ts):uD aL 9 w A n ts:=⟨h.len,h.row⟩
def aap(es:List E3):∀u∈es.flatMap cJ,u.oneCell'=Z:=λu a=>by
 obtain⟨e,_,h⟩:=ff.1 a;simp only[cJ,ap,cd,Z9] at h;rcases h with rfl | rfl | rfl | rfl | rfl | rfl <;> rfl
def Rs(ps:List H):∀u∈ps.flatMap iD,u.oneCell'=Z:=λu a=>by
 obtain⟨e,_,h⟩:=ff.1 a;simp only[iD,ap,cd,Z9] at h;rcases h with rfl | rfl | rfl <;> rfl
def anA(t:T3):(aL t).length=9:=rfl
def Ly(e:E3):(cJ e).length=6:=rfl
def Ag(p:H):(iD p).length=3:=rfl
def aX(ts:List T3):List E3:=ts.flatMap λt=>[(t.a,t.b),(t.b,t.c),(t.c,t.a)]
def vE{ts:List T3}{t:T3}(h:ts[k]? = X4 t):aX (ts.take (k+1))=aX (ts.take k)++[(t.a,t.b),(t.b,t.c),(t.c,t.a)]:=by
 unfold aX;rw[bV h,aw];simp
def pG(ts:List T3):(aX ts).length=ts.length*3:=Og ts λ_ _=>rfl
def jO(es:List E3)(e:E3):Nat:=(es.filter λx=>decide (x=e)).length
def abS{x e:E3}(h:es[k]? = X4 x):jO (es.take (k+1)) e=jO (es.take k) e+if x=e then 1 else 0:=by
 unfold jO;rw[bV h,List.filter_append,aq];by_cases a:x=e <;> simp[a]
def aqL{e:E3}:jO es e<=es.length:=List.length_filter_le _ _
def aqM{is:List α}{i:α}(h:is[k]? = X4 i):is.set k i=is:=by
 apply fz;intro j;rw[je];split
 . rename_i e
   subst e;rw[J (ao.1 h).1,h]
 rfl
def Lz{α:Type}:∀(l:List α) (j:Nat) (x:α),l[j]? = X4 x->(x::l.eraseIdx j).Perm l
 | [],j,x,h=>by cases h
 | y::l,0,x,h=>by cases h;exact .refl _
 | y::l,j+1,x,h=>((List.Perm.swap y x _)).trans ((Lz l j x h).cons y)
def Mem.pull{w0:ak}{is:List It}(m:Mem w0 w is)(j:Nat){x:It}(d:is[j]? = X4 x):Mem w0 w (x::is.eraseIdx j):=by
 have hp:=Lz is j x d;exact⟨m.ext,λi c=>m.all i (hp.mem_iff.1 c),λi c=>m.ge i (hp.mem_iff.1 c),(hp.pairwise_iff (λ{a b} (h:Ap a b)=>h.symm)).2 m.nd⟩
def Mem.mv{w0:ak}{is:List It}{y:It}(m:Mem w0 w (y::is))(k:Nat){x:It}(c:is[k]? = X4 x):Mem w0 w (is.set k y):=by
 obtain⟨h1,h2⟩:=bv.1 m.nd;have b:∀i∈is.set k y,i∈y::is:=λi a=>(jp a).elim (bp _) (λe=>e▸br);exact⟨m.ext,λi a=>m.all i (b i a),λi a=>m.ge i (b i a),adV is k h2 c λx d _=>h1 x d⟩
def dZ{a:α}{l:List α}:(a::l).eraseIdx 0=l:=rfl
def eA{a:α}{l:List α}  : (a::l).eraseIdx (n+1)=a::l.eraseIdx n:=rfl
def SL(E:ba)(c:Nat)(cs:List aj)(n:Nat)(w:ak)(v:aj)(w':ak):Prop:=∃A cap n',n'=n/\v=.slice A n' cap/\Ow w w' [] E c A n' cap cs
/-! ### Points put into a sorted list -/
def abT(ps:List H)(p:H):Nat:=(ps.takeWhile λx=>decide (x.Lt p)).length
def gT(ps:List H)(p:H):List H:=if ps[abT ps p]? = X4 p then ps else ps.take (abT ps p)++[p]++ps.drop (abT ps p)
def aQ(ts:List T3):List H:=ts.foldl (λps t=>gT (gT (gT ps t.a) t.b) t.c) []
def Je{ts:List T3}{t:T3}(h:ts[k]? = X4 t):aQ (ts.take (k+1))=gT (gT (gT (aQ (ts.take k)) t.a) t.b) t.c:=by
 unfold aQ;rw[bV h,ir];rfl
def xX(ps:List H)(p:H):(gT ps p).length<=ps.length+1:=by
 unfold gT;split
 .omega
 simp;omega
def wK(ts:List T3):(aQ ts).length<=ts.length*3:=by
 have:∀(ts:List T3) (ps:List H),(ts.foldl (λps t=>gT (gT (gT ps t.a) t.b) t.c) ps).length<=ps.length+ts.length*3:=by
  intro ts
  induction ts with
  | nil=>intro ps;simp
  | cons t ts ih =>
   intro ps;have h1:=ih (gT (gT (gT ps t.a) t.b) t.c);have h2:=xX ps t.a;have d:=xX (gT ps t.a) t.b;have e:=xX (gT (gT ps t.a) t.b) t.c;rw[jx,ay];omega
 have:=this ts [];simpa[aQ] using this
section
variable {α:Type} {p:α->Bool} {l:List α} {k:Nat}
def apK(h:∀j x,j<k->l[j]? = X4 x->p x=Z)(a:k<=l.length):k<=(l.takeWhile p).length:=by
 induction l generalizing k with
 | nil=>simp at a;omega
 | cons x l ih =>
  cases k with
  | zero=>omega
  | succ k =>
   have b:=h 0 x (by omega) rfl;rw[ly,J b,ay];have:=ih (k:=k) (λj y d c=>h (j+1) y (by omega) (by simpa using c)) (by simp at a;omega);omega
def at6{x:α}(a:l[k]? = X4 x)(h:p x=X3):(l.takeWhile p).length<=k:=by
 induction l generalizing k with
 | nil=>cases a
 | cons y l ih =>
  rw[ly];split
  . cases k with
    | zero =>
     rename_i b;cases a;rw[h] at b;cases b
    | succ k =>
     rw[ay];have:=ih (k:=k) (by simpa using a);omega
  simp
def aqN:(l.takeWhile p).length<=l.length:=(List.takeWhile_sublist p).length_le
def apL{x:α}(h:∀j x,j<k->l[j]? = X4 x->p x=Z)(a:l[k]? = X4 x)(h2:p x=X3):(l.takeWhile p).length=k:=rj (at6 a h2) (apK h (Nat.le_of_lt (ao.1 a).1))
def aje(h:∀j x,j<l.length->l[j]? = X4 x->p x=Z):(l.takeWhile p).length=l.length:=rj aqN (apK h (ar _))
def Pre(p:α->Bool)(l:List α)(k:Nat):Prop:=∀j x,j<k->l[j]? = X4 x->p x=Z
def Pre.zero:Pre p l 0:=λj _ a=>by omega
def Pre.step{x:α}(h:Pre p l k)(b:l[k]? = X4 x)(hp:p x=Z):Pre p l (k+1):=λj y c a=>by
 rcases eh j k with h1 | h1
 .exact h j y h1 a
 obtain rfl:j=k:=by omega
 rw[b] at a;cases a;exact hp
end
/-! ### The border -/
def ltE(a b:E3):Bool:=if a.1≠b.1 then decide (a.1.Lt b.1) else decide (a.2.Lt b.2)
def ahc(es:List E3)(e:E3):Nat:=(es.takeWhile λx=>ltE x e).length
def adY(es:List E3)(e:E3):List E3:=es.take (ahc es e)++[e]++es.drop (ahc es e)
def qH(all:List E3)(a:List E3)(e:E3):List E3:=if 0<jO all (e.2,e.1)\/0<jO a e then a else adY a e
def bB(ts:List T3):List E3:=(aX ts).foldl (qH (aX ts)) []
def ahd{all:List E3}{e:E3}(h:es[k]? = X4 e):(es.take (k+1)).foldl (qH all) []=qH all ((es.take k).foldl (qH all) []) e:=by
 rw[bV h,ir];rfl
def Jf{all:List E3}:∀(es a:List E3),(es.foldl (qH all) a).length<=a.length+es.length
 | [],a=>by simp
 | e::es,a=>by
  have h1:=Jf (all:=all) es (qH all a e);have h2:(qH all a e).length<=a.length+1:=by
   unfold qH adY;split
   .omega
   simp;omega
  rw[jx,ay];omega
/-! ### Pinched corners -/
def T3.fnd(t:T3)(p q:H):Option H:=if t.a=p/\t.b=q then X4 t.c else if t.b=p/\t.c=q then X4 t.a else if t.c=p/\t.a=q then X4 t.b else X5
variable{ts ms:List T3}{t:T3}
def cC:List T3->H->H->Option H
 | [],_,_=>X5
 | t::ts,p,q=>match t.fnd p q with
  | some x=>X4 x
  | none=>cC ts p q
def wL{p:H}(h:ts[k]? = X4 t)(a:cC (ts.take k) p q=X5):cC (ts.take (k+1)) p q=t.fnd p q:=by
 rw[bV h];clear h;generalize ts.take k=us at a ⊢
 induction us with
 | nil=>simp only[bz,cC];cases t.fnd p q <;> rfl
 | cons u us ih =>
  rw[cq];simp only[cC] at a ⊢;cases b:u.fnd p q with
  | some x=>rw[b] at a;cases a
  | none=>rw[b] at a;exact ih a
def Cz{p:H}(h:cC (ts.take k) p q=X4 x):cC ts p q=X4 x:=by
 induction ts generalizing k with
 | nil=>simp[cC] at h
 | cons u us ih =>
  cases k with
  | zero=>simp[cC] at h
  | succ k =>
   rw[lw] at h;unfold cC at h ⊢;cases a:u.fnd p q with
   | some y=>rw[a] at h;exact h
   | none=>rw[a] at h;exact ih h
def Rt(p:H)(t:T3)(c:Nat):List T3:=if t.cor c=p then [t] else []
def xY(p:H)(t:T3)(c:Nat):List T3:=(ke c).flatMap (Rt p t)
def oG(ts:List T3)(p:H):List T3:=ts.flatMap λt=>xY p t 3
def Ru(p:H)(t:T3)(c:Nat):List H:=if t.cor c=p then [t.cor ((c+1)%3)] else []
def Da(p:H)(t:T3)(c:Nat):List H:=(ke c).flatMap (Ru p t)
def vF(ts:List T3)(p:H):List H:=ts.flatMap λt=>Da p t 3
def Rv(p:H)(t:T3)(c:Nat):xY p t (c+1)=xY p t c++Rt p t c:=by simp[xY,List.range_succ]
def Oh(p:H)(t:T3)(c:Nat):Da p t (c+1)=Da p t c++Ru p t c:=by simp[Da,List.range_succ]
def ahe{p:H}(h:ts[k]? = X4 t):oG (ts.take (k+1)) p=oG (ts.take k) p++xY p t 3:=by
 unfold oG;rw[bV h,aw];simp
def adZ{p:H}(h:ts[k]? = X4 t):vF (ts.take (k+1)) p=vF (ts.take k) p++Da p t 3:=by
 unfold vF;rw[bV h,aw];simp
def Gm(ts:List T3)(p:H)(k:Nat)(t:T3)(c:Nat):List T3:=oG (ts.take k) p++xY p t c
def xA(ts:List T3)(p:H)(k:Nat)(t:T3)(c:Nat):List H:=vF (ts.take k) p++Da p t c
def ahf{p:H}(h:t.cor c=p):Gm ts p k t (c+1)=Gm ts p k t c++[t]:=by
 unfold Gm;rw[Rv,Rt,J h,cn]
def ajf{p:H}(h:¬t.cor c=p):Gm ts p k t (c+1)=Gm ts p k t c:=by
 unfold Gm;rw[Rv,Rt,X h,fb]
def ad0{p:H}(h:t.cor c=p):xA ts p k t (c+1)=xA ts p k t c++[t.cor ((c+1)%3)]:=by
 unfold xA;rw[Oh,Ru,J h,cn]
def ahg{p:H}(h:¬t.cor c=p):xA ts p k t (c+1)=xA ts p k t c:=by
 unfold xA;rw[Oh,Ru,X h,fb]
def anC{p:H}   : Gm ts p k t 0=oG (ts.take k) p:=by simp[Gm,xY]
def ajg{p:H}   : xA ts p k t 0=vF (ts.take k) p:=by simp[xA,Da]
def anD{p:H}(h:ts[k]? = X4 t):Gm ts p k t 3=oG (ts.take (k+1)) p:=by rw[ahe h];rfl
def ajh{p:H}(h:ts[k]? = X4 t):xA ts p k t 3=vF (ts.take (k+1)) p:=by rw[adZ h];rfl
def Ah  : (x.x=y.x/\x.y=y.y/\x.z=y.z)↔x=y:=⟨λh=>H.eq h.1 h.2.1 h.2.2,λh=>by rw[h];exact⟨rfl,rfl,rfl⟩⟩
def Px{v:H}:(decide (x.x=y.x/\x.y=y.y/\x.z=y.z)&&decide (u.x=v.x/\u.y=v.y/\u.z=v.z))=Z↔x=y/\u=v:=by
 rw[bg,R,R,Ah,Ah]
def ad1{v:H}(h:(decide (x.x=y.x/\x.y=y.y/\x.z=y.z)&&decide (u.x=v.x/\u.y=v.y/\u.z=v.z))=X3):¬(x=y/\u=v):=λk=>by
 rw[Px.2 k] at h;cases h
def avy{p:H}(h:t.cor 0=p/\t.cor 1=q):t.fnd p q=X4 (t.cor 2):=J h
def avz{p:H}(a:¬(t.cor 0=p/\t.cor 1=q))(h:t.cor 1=p/\t.cor 2=q):t.fnd p q=X4 (t.cor 0):=(X a).trans (J h)
def avA{p:H}(a:¬(t.cor 0=p/\t.cor 1=q))(h1:¬(t.cor 1=p/\t.cor 2=q))(h:t.cor 2=p/\t.cor 0=q):t.fnd p q=X4 (t.cor 1):=(X a).trans ((X h1).trans (J h))
def avB{p:H}(a:¬(t.cor 0=p/\t.cor 1=q))(h1:¬(t.cor 1=p/\t.cor 2=q))(h2:¬(t.cor 2=p/\t.cor 0=q)):t.fnd p q=X5:=(X a).trans ((X h1).trans (X h2))
def oH(ms:List T3)(p s:H):Nat->H->Bool
 | 0,_=>X3
 | n+1,a=>match cC ms p a with
  | none=>X3
  | some x=>if x=s then Z else oH ms p s n x
def Xi{p:H}(h:cC ms p x=X5):oH ms p s n x=X3:=by
 cases n with
 | zero=>rfl
 | succ n=>simp only[oH,h]
def abU{p:H}(h:cC ms p x=X4 s):oH ms p s (n+1) x=Z:=by simp[oH,h]
def Xj{p:H}(h:cC ms p x=X4 y)(a:¬y=s):oH ms p s (n+1) x=oH ms p s n y:=by simp[oH,h,a]
def Jg(ts:List T3)(p:H):Bool:=(vF ts p).any λs=>oH (oG ts p) p s ((oG ts p).length-1) s
def xB(t:T3):Bool:=decide (t.a=t.b)||decide (t.b=t.c)||decide (t.c=t.a)
def aaq  : (decide (t.a.x=t.b.x/\t.a.y=t.b.y/\t.a.z=t.b.z)||decide (t.b.x=t.c.x/\t.b.y=t.c.y/\t.b.z=t.c.z)||decide (t.c.x=t.a.x/\t.c.y=t.a.y/\t.c.z=t.a.z))=xB t:=by
 simp only[Ah,xB]
def fO(op:Bool)(ts:List T3):Int :=
 if ts.any xB then 20 else if (aX ts).any (λe=>decide (1<jO (aX ts) e)) then 21
 else if !op&&decide (0<(bB ts).length) then 22 else if (aQ ts).any (Jg ts) then 23 else 0
def xZ{p:α->Bool}{l:List α}{x:α}(a:l[k]? = X4 x):(l.take (k+1)).any p=((l.take k).any p||p x):=by
 rw[bV a,List.any_append];simp
def Jh{p:α->Bool}{l:List α}{x:α}(a:l[k]? = X4 x)(h:p x=Z):l.any p=Z:=et.2 ⟨x,bf a,h⟩
def iR(w:ak)(g:Nat)(es:Array cu)(c:Nat):Prop:=w.heap[g]? = X4 (.map es c)
def sG(w:ak)(r g s:Nat)(seen:Array Nat)(c:Nat):Prop:=w.heap[r]? = X4 (.mapIter (X4 g) s seen c)
def iR.ext{w':ak}{g:Nat}{es:Array cu}(h:iR w g es c)(a:fJ w w'):iR w' g es c:=a.block h
def sG.ext{w':ak}{r g s:Nat}{seen:Array Nat}(h:sG w r g s seen c)(a:fJ w w'):sG w' r g s seen c:=a.block h
def iR.lt{g:Nat}{es:Array cu}(h:iR w g es c):g<w.heap.size:=(el.1 h).1
def sG.lt{r g s:Nat}{seen:Array Nat}(h:sG w r g s seen c):r<w.heap.size:=(el.1 h).1
section
variable {P:bt} {ds:List ej} {l:List aj} {x:b_} {T ty:ba} {ops:Array Oper} {Q:Exit->Act->ak->Prop} {rest:List Oper} {d:Nat} {pos:String} {after:Array Edge} {w:ak}
def ahh(h:∀w' g,fJ w w'->w.heap.size<=g->iR w' g #[] 0->az P ops Q rest (Fr (l.set d (.map (X4 g))) ds) w'):az P ops Q (bu (X4 d) (.makeMap T X5) ty pos after X5::rest) (Fr l ds) w :=
 mG (w':=w.alloc (.map #[] 0)) (v:=.map (X4 w.heap.size)) (λo a _=>by simp[dw,a,Instr.makeMap,newObj,Sem.run]) (h _ _ ((fJ.refl w).alloc _) (ar _) (heap_alloc_new w _))
def afT{k e:ba}{g c:Nat}{es:Array cu}(f:P.underlying T=X4 (.map k e))(i:ev l x=.map (X4 g))(a:iR w g es c)(h:∀w' r,fJ w w'->w.heap.size<=r->sG w' r g c #[] c->az P ops Q rest (Fr (l.set d (.pointer (X4 ⟨r,0,X5⟩))) ds) w') :
 az P ops Q (bu (X4 d) (.range T x) ty pos after X5::rest) (Fr l ds) w :=
 mG (w':=w.alloc (.mapIter (X4 g) c #[] c)) (v:=.pointer (X4 ⟨w.heap.size,0,X5⟩)) (λo b _=>by
  unfold iR at a;simp[dw,b,cN,i,Instr.range,cl f,getObj,a,newObj,Sem.run]) (h _ _ ((fJ.refl w).alloc _) (ar _) (heap_alloc_new w _))
end
end
section
open Go.RowKit Go.ChangeMaps Go.MapKept
/-! ### Lists of pairs -/
section
variable {K V:Type} [DecidableEq K]
def fP:List (K × V)->K->V->List (K × V)
 | [],k,v=>[(k,v)]
 | x::D,k,v=>if x.1=k then (k,v)::D else x::fP D k v
def cG:List (K × V)->K->Option V
 | [],_=>X5
 | x::D,k=>if x.1=k then X4 x.2 else cG D k
def Db:List (K × V)->K->List (K × V)
 | [],_=>[]
 | x::D,k=>if x.1=k then D else x::Db D k
def rG:List (K × V)->K->Nat->Option (Nat × V)
 | [],_,_=>X5
 | x::D,k,i=>if x.1=k then X4 (i,x.2) else rG D k (i+1)
def rK:∀(D:List (K × V)) (k:K) (i:Nat),rG D k i=X5->cG D k=X5/\(∀u,fP D k u=D++[(k,u)])/\Db D k=D
 | [],_,_,_=>⟨rfl,λ_=>rfl,rfl⟩
 | x::D,k,i,h=>by
  unfold rG at h;by_cases e:x.1=k
  .rw[J e] at h;cases h
  rw[X e] at h
  obtain⟨h1,h2,a⟩:=rK D k (i+1) h;exact⟨by simp[cG,e,h1],λu=>by simp[fP,e,h2],by simp[Db,e,a]⟩
def mX:∀(D:List (K × V)) (k:K) (i j:Nat) (v:V),rG D k i=X4 (j,v)->∃p,j=i+p/\D[p]? = X4 (k,v)/\cG D k=X4 v/\(∀u,fP D k u=D.set p (k,u))/\Db D k=D.eraseIdx p
 | [],_,_,_,_,h=>by cases h
 | x::D,k,i,j,v,h=>by
  unfold rG at h;by_cases e:x.1=k
  . rw[J e] at h
    cases h;obtain⟨a,b⟩:=x;obtain rfl:a=k:=e;exact⟨0,O,O,by simp[cG],λu=>by simp[fP],by simp[Db]⟩
  rw[X e] at h
  obtain⟨p,h1,h2,c,d,f⟩:=mX D k (i+1) j v h;exact⟨p+1,by omega,by simpa using h2,by simp[cG,e,c],λu=>by simp[fP,e,d],by simp[Db,e,f]⟩
def jP:∀(D:List (K × V)) (k a:K) (v:V),cG (fP D k v) a=if k=a then X4 v else cG D a
 | [],k,a,v=>by simp[fP,cG]
 | x::D,k,a,v=>by
  unfold fP;by_cases e:x.1=k
  . rw[J e]
    subst e;by_cases b:x.1=a <;> simp[cG,b]
  rw[X e]
  unfold cG;rw[jP D k a v];by_cases b:x.1=a
  .rw[J b,J b,X (λh=>e (b.trans h.symm))]
  rw[X b,X b]
def sH:∀{D:List (K × V)} {k:K} {v:V},cG D k=X4 v->(k,v)∈D
 | [],_,_,h=>by cases h
 | x::D,k,v,h=>by
  unfold cG at h;split at h
  .rename_i e;cases h;subst e;exact br ..
  exact bp _ (sH h)
def kZ:∀{D:List (K × V)} {k:K},cG D k=X5↔k∉D.map (·.1)
 | [],_=>by simp[cG]
 | x::D,k=>by
  unfold cG;split
  .rename_i e;simp[e]
  rename_i e
  rw[kZ (D:=D)];simp only[bi,ap,not_or];exact⟨λh=>⟨λa=>e a.symm,h⟩,λh=>h.2⟩
def pH:∀{D:List (K × V)} {k:K} {v:V},(D.map (·.1)).Nodup->(k,v)∈D->cG D k=X4 v
 | [],_,_,_,h=>by cases h
 | x::D,k,v,b,h=>by
  have a:=g_.1 b;unfold cG;rcases ap.1 h with rfl | h
  .simp
  rw[X λe=>a.1 (by show x.1∈_;rw[e];exact dj.2 ⟨_,h,O⟩)]
  exact pH a.2 h
def uQ:∀(D:List (K × V)) (k:K) (v:V),(fP D k v).map (·.1)=if k∈D.map (·.1) then D.map (·.1) else D.map (·.1)++[k]
 | [],k,v=>by simp[fP]
 | x::D,k,v=>by
  unfold fP;by_cases e:x.1=k
  .simp[e]
  have a:¬k=x.1:=λh=>e h.symm
  simp only[X e,bi,uQ D k v,ap,a,false_or];split <;> simp
def vG{D:List (K × V)}(h:(D.map (·.1)).Nodup)(k:K)(v:V):((fP D k v).map (·.1)).Nodup:=by
 rw[uQ];split
 .exact h
 rename_i f
 exact ky.2 ⟨h,by simp,λa c b d e=>by rw[a_.1 d] at e;exact f (e▸c)⟩
def Xk:∀{D:List (K × V)} (k b:K),(D.map (·.1)).Nodup->cG (Db D k) b=if k=b then X5 else cG D b
 | [],k,b,_=>by simp[Db,cG]
 | x::D,k,b,d=>by
  have c:=g_.1 d;unfold Db;by_cases e:x.1=k
  . rw[J e]
    by_cases a:k=b
    . rw[J a]
      exact kZ.2 (by rw[<-a,<-e];exact c.1)
    rw[X a]
    simp[cG,e,a]
  rw[X e]
  unfold cG;rw[Xk k b c.2];by_cases a:x.1=b
  .rw[J a,J a,X (λh=>e (a.trans h.symm))]
  rw[X a,X a]
def abV:∀(D:List (K × V)) (k:K),(Db D k).Sublist D
 | [],_=>List.Sublist.refl _
 | x::D,k=>by
  unfold Db;split
  .exact List.sublist_cons_self _ _
  exact (abV D k).cons_cons x
def ad2{D:List (K × V)}(h:(D.map (·.1)).Nodup)(k:K):((Db D k).map (·.1)).Nodup:=h.sublist ((abV D k).map _)
end
/-! ### A map's entries -/
def Vw(e:cu):aj × aj:=(e.key,e.val)
structure bY{K V:Type}(ek:K->aj)(ev:V->aj)(D:List (K × V))(es:Array cu)(c:Nat):Prop where
 cells:es.toList.map Vw=D.map λx=>(ek x.1,ev x.2)
 born:∀e∈es.toList,e.born<c
 nd:(es.toList.map (·.born)).Nodup
def bY.nil{K V:Type}(ek:K->aj)(ev:V->aj):bY ek ev ([]:List (K × V)) #[] 0:=⟨rfl,λ_ h=>by simp at h,by simp⟩
structure tA{K:Type}[DecidableEq K](P:bt)(T:ba)(ek:K->aj):Prop where
 chk:∀e k w,(Instr.checkKey e 10000 T (ek k)).run P w=.ok () w
 now:∃t,P.underlying T=X4 t/\∀a b,Instr.sameNow t (ek a) (ek b)=X5\/Instr.sameNow t (ek a) (ek b)=X4 (decide (a=b))
 eq:∀a b w,(Op.equal T (ek a) (ek b)).run P w=.ok (decide (a=b)) w
 bits:∀a,Instr.sameBits 10000 (ek a) (ek a)=Z
section
variable {K V:Type} [DecidableEq K] {P:bt} {T:ba} {ek:K->aj} {ev:V->aj}
def Oi(b:tA P T ek)(k:K)(w:ak):∀(L:List cu) (D:List (K × V)) (i:Nat),L.map Vw=D.map (λx=>(ek x.1,ev x.2)) ->
 (Instr.findAsking T (ek k) L i).run P w=.ok ((rG D k i).map λp=>(p.1,ev p.2)) w
 | [],D,i,h=>by
  obtain rfl:D=[]:=by simpa using h.symm
  simp[Instr.findAsking,rG]
 | e::L,[],i,h=>by simp at h
 | e::L,x::D,i,h=>by
  simp only[bi,mr,Vw,gl] at h;obtain⟨⟨h1,h2⟩,c⟩:=h;have ih:=Oi b k w L D (i+1) c;unfold Instr.findAsking rG;rw[h1,h2];simp only[Sem.run_bind,b.eq,Result.andThen];by_cases a:x.1=k
  . rw[J (Y0 a.symm),J a]
    rfl
  rw[X (by rw[Y (Ne.symm a)];exact Bool.false_ne_true),X a]
  exact ih
def abW(t:TypeDesc)(k:K)(d:∀a b:K,Instr.sameNow t (ek a) (ek b)=X5\/Instr.sameNow t (ek a) (ek b)=X4 (decide (a=b))):∀(L:List cu) (D:List (K × V)) (i:Nat),L.map Vw=D.map (λx=>(ek x.1,ev x.2)) ->
 Instr.findNow t (ek k) L i=X5\/Instr.findNow t (ek k) L i=X4 ((rG D k i).map λp=>(p.1,ev p.2))
 | [],D,i,h=>by
  obtain rfl:D=[]:=by simpa using h.symm
  simp[Instr.findNow,rG]
 | e::L,[],i,h=>by simp at h
 | e::L,x::D,i,h=>by
  simp only[bi,mr,Vw,gl] at h;obtain⟨⟨h1,h2⟩,f⟩:=h;have ih:=abW t k d L D (i+1) f;unfold Instr.findNow rG;rw[h1,h2];rcases d k x.1 with e0 | e0
  .left;rw[e0]
  rw[e0]
  by_cases c:x.1=k
  .right;simp[c]
  rw[show decide (k=x.1)=X3 from Y (Ne.symm c)]
  simpa[c] using ih
def vH(a:tA P T ek)(k:K)(w:ak){es:Array cu}{D:List (K × V)}{c:Nat}(h:bY ek ev D es c):(Instr.findKey T (ek k) es.toList).run P w=.ok ((rG D k 0).map λp=>(p.1,ev p.2)) w:=by
 obtain⟨t,d,b⟩:=a.now;unfold Instr.findKey;simp only[Sem.run_bind,cl d,Result.andThen];rcases abW t k b es.toList D 0 h.cells with e | e
 . rw[e]
   exact Oi a k w es.toList D 0 h.cells
 rw[e]
 rfl
end
section
variable {K V:Type} [DecidableEq K] {P:bt} {T M E ty:ba} {ek:K->aj} {ev:V->aj} {w w0:ak} {g c:Nat} {es:Array cu} {D:List (K × V)}
def Oj{v0:V}(l:P.underlying M=X4 (.map T E))(f:tA P T ek)(d:iR w g es c)(h:bY ek ev D es c)(a:nJ P E (ev v0))(k:K)(b:Bool) :
 (Instr.lookup M (.map (X4 g)) (ek k) b).run P w=.ok (if b then .tuple #[ev ((cG D k).getD v0),.bool (cG D k).isSome] else ev ((cG D k).getD v0)) w:=by
 unfold iR at d;obtain⟨n,i,a⟩:=a;have m:(zeroValue E).run P w=.ok (ev v0) w:=by simp[zeroValue,typeInfo,program,Sem.run,i,a]
 simp only[Instr.lookup,Sem.run_bind,cl l,Result.andThen,getObj,Sem.run,d,Sem.run_pure,f.chk,vH f k w h];cases e:rG D k 0 with
 | none =>
  obtain⟨h1,_⟩:=rK D k 0 e;rw[h1];simp only[rk,Sem.run_bind,m,Result.andThen,Sem.run_pure];cases b <;> rfl
 | some p =>
  obtain⟨j,v⟩:=p;obtain⟨_,_,_,h1,_⟩:=mX D k 0 j v e;rw[h1];simp only[gh,Sem.run_pure,Result.andThen];cases b <;> rfl
def jM{g:Nat}{o o':Obj}(a:w.heap[g]? = X4 o):(setBlock w g o').heap[g]? = X4 o':=by
 have:=(el.1 a).1;simp[setBlock,this]
def qI{g:Nat}(o:Obj):Chg w (setBlock w g o) g:=⟨rfl,rfl,rfl,by simp[setBlock],λk a=>by simp[setBlock,jh (Ne.symm a)]⟩
def Rw{α β:Type}(f:α->β)(L:List α)(i:Nat)(x:α)(g:α->α)(a:L[i]? = X4 x):(L.modify i g).map f=(L.map f).set i (f (g x)):=by
 apply fz;intro j;simp only[fi,List.getElem?_modify,je,cj];by_cases e:i=j
 . subst e
   rw[a];have:=(ao.1 a).1;simp[this]
 simp[e]
def bY.set(a:bY ek ev D es c){p:Nat}{k:K}{v:V}(hp:D[p]? = X4 (k,v))(u:V):bY ek ev (D.set p (k,u)) (es.modify p λe=>{ e with key:=ek k,val:=ev u }) c:=by
 have l:es.toList.length=D.length:=by have:=C List.length a.cells;simpa using this
 have f:p<es.toList.length:=by rw[l];exact (ao.1 hp).1
 have b:es.toList[p]? = X4 es.toList[p]:=am f;have d:(es.modify p λe=>{ e with key:=ek k,val:=ev u }).toList.map (·.born)=es.toList.map (·.born):=by
  rw[p_,Rw _ _ _ _ _ b];apply fz;intro j;rw[je];split
  .rename_i e;subst e;rw[J (by simpa using f),fi,b];rfl
  rfl
 refine⟨?_,λe h=>?_,by rw[d];exact a.nd⟩
 . rw[p_,Rw _ _ _ _ _ b,a.cells,List.map_set]
   rfl
 have:e.born∈(es.modify p λe=>{ e with key:=ek k,val:=ev u }).toList.map (·.born):=dj.2 ⟨e,h,rfl⟩
 rw[d] at this;obtain⟨g,m,i⟩:=dj.1 this;rw[<-i];exact a.born g m
def bY.push(d:bY ek ev D es c)(k:K)(u:V):bY ek ev (D++[(k,u)]) (es.push { key:=ek k,val:=ev u,born:=c }) (c+1):=by
 refine⟨by simp[d.cells,Vw],λe he=>?_,?_⟩
 . rw[ox] at he
   rcases bh.1 he with he | he
   .exact Nat.lt_succ_of_lt (d.born e he)
   rw[a_.1 he];exact Nat.lt_succ_self _
 rw[ox,de]
 refine ky.2 ⟨d.nd,by simp,λa g b h e=>?_⟩;obtain⟨f,i,rfl⟩:=dj.1 g;have:b=c:=by simpa using h
 have:=d.born f i;omega
def bY.erase(a:bY ek ev D es c)(p:Nat):bY ek ev (D.eraseIdx p) (es.eraseIdxIfInBounds p) c:=by
 have e:(es.eraseIdxIfInBounds p).toList=es.toList.eraseIdx p:=by
  by_cases h:p<es.size
  .simp[lu,h]
  simp only[lu,h,dite_false]
  exact (List.eraseIdx_of_length_le (by simpa using i_ h)).symm
 refine⟨?_,λx b=>a.born x ?_,?_⟩
 .rw[e,map_eraseIdx,a.cells,map_eraseIdx]
 .rw[e] at b;exact List.mem_of_mem_eraseIdx b
 rw[e];exact a.nd.sublist ((List.eraseIdx_sublist _ _).map _)
def abX(h:P.underlying M=X4 (.map T E))(e:tA P T ek)(b:iR w g es c)(a:bY ek ev D es c)(k:K)(u:V) :
 ∃i f,(Instr.mapUpdate M (.map (X4 g)) (ek k) (ev u)).run P w=.ok () (setBlock w g (.map i f))/\bY ek ev (fP D k u) i f:=by
 unfold iR at b;cases d:rG D k 0 with
 | none =>
  obtain⟨_,h1,_⟩:=rK D k 0 d;refine⟨_,_,?_,h1 u▸a.push k u⟩;simp only[Instr.mapUpdate,Sem.run_bind,cl h,Result.andThen,getObj,Sem.run,b,Sem.run_pure,e.chk,vH e k w a,d,rk];exact run_setObj_map _ b
 | some p =>
  obtain⟨j,v⟩:=p;obtain⟨p,rfl,hp,_,h1,_⟩:=mX D k 0 j v d;rw[ai] at d;have n:es.toList.length=D.length:=by have:=C List.length a.cells;simpa using this
  have o:p<es.toList.length:=by rw[n];exact (ao.1 hp).1
  have m:((es[p]?).map (·.key)).getD (ek k)=ek k:=by
   have h2:=C (λL=>L[p]?) a.cells;simp only[fi,hp,gh] at h2;rw[gm] at h2;cases l:es[p]? with
   | none=>rfl
   | some x =>
    rw[l] at h2;simp only[gh,ik,Vw,gl] at h2;simpa using h2.1
  refine⟨_,_,?_,h1 u▸a.set hp u⟩;simp only[Instr.mapUpdate,Sem.run_bind,cl h,Result.andThen,getObj,Sem.run,b,Sem.run_pure,e.chk,vH e k w a,d,gh,m,Instr.keyThatStays,e.bits,K0];exact run_setObj_map _ b
/-! ### Ranges -/
def oJ(ek:K->aj)(ev:V->aj)(D:List (K × V))(es:Array cu)(seen:Array Nat)(b rs:List (K × V)):Prop :=
 (b++rs).Perm D/\∃a c:List cu,seen.toList=a.map (·.born)/\(a++c).Perm es.toList/\a.map Vw=b.map (λx=>(ek x.1,ev x.2))/\c.map Vw=rs.map (λx=>(ek x.1,ev x.2))
def oJ.start(a:bY ek ev D es c):oJ ek ev D es #[] [] D:=⟨oy _,[],es.toList,rfl,oy _,rfl,a.cells⟩
def oJ.done{seen:Array Nat}{a:List (K × V)}(h:oJ ek ev D es seen a []):a.Perm D:=by simpa using h.1
def Nxt(ek:K->aj)(ev:V->aj)(D:List (K × V))(es:Array cu)(c rs:List (K × V))(b:Bool)(d e:aj)(f:Array Nat):Prop :=
 (b=X3/\rs=[])\/(b=Z/\∃k v a,rs.Perm ((k,v)::a)/\d=ek k/\e=ev v/\oJ ek ev D es f (c++[(k,v)]) a)
def Gn(b:Bool)(k v:aj):aj:=.tuple (if b then #[.bool Z,k,v] else #[.bool X3])
def Xl{r s:Nat}{seen:Array Nat}{n rs:List (K × V)}(l:sG w r g c seen c)(G:iR w g es c)(o:bY ek ev D es c)(H:oJ ek ev D es seen n rs) :
 ∃b p q z a,(a=w\/a=w.drew)/\(Instr.next (.pointer (X4 ⟨r,0,X5⟩)) X3 ty).run P w=.ok (Gn b p q) (setBlock a r (.mapIter (X4 g) c z c))/\Nxt ek ev D es n rs b p q z:=by
 obtain⟨hp,m,f,h1,h2,F,j⟩:=H;have u:((m++f).map (·.born)).Nodup:=(h2.map (·.born)).nodup_iff.2 o.nd;rw[de,ky] at u;have y:∀e,e∈(leftOf es seen).toList↔e∈f:=λe=>by
  unfold leftOf;simp only[Array.toList_filter,ct,fp,Array.contains_eq_mem,Y1];rw[<-Array.mem_toList_iff (xs:=seen),h1,<-h2.mem_iff,bh];constructor
  . rintro⟨h | h,L⟩
    .exact Z8 (dj.2 ⟨e,h,O⟩) L
    exact h
  intro h
  exact⟨.inr h,λJ=>u.2.2 _ J _ (dj.2 ⟨e,h,O⟩) O⟩
 rcases run_next_at (P:=P) w ty r g c c seen es c l G o.born (ar _) with ⟨E,hr⟩ | ⟨e,I,a,M,hr⟩
 . refine⟨X3,default,default,seen,w,.inl O,?_,.inl ⟨O,?_⟩⟩
   . rw[hr]
     have:setBlock w r (.mapIter (X4 g) c seen c)=w:=by
      unfold setBlock;have R:=(el.1 l).1;have:w.heap.setIfInBounds r (.mapIter (X4 g) c seen c)=w.heap:=by
       apply li;intro i;rw[Array.getElem?_setIfInBounds];split
       .rename_i e;subst e;exact l.symm
       rfl
      rw[this]
     rw[this];rfl
   cases rs with
   | nil=>rfl
   | cons x rs =>
    cases f with
    | nil=>simp at j
    | cons e f =>
     have:=(y e).2 (br ..);rw[l_ E] at this;simp at this
 obtain⟨s,t,rfl⟩:=List.append_of_mem ((y e).1 I)
 rw[de,bi] at j;obtain⟨N,S,rfl,A,B⟩:=mo.1 j.symm;obtain⟨x,Q,rfl,d,C⟩:=nw.1 B;obtain⟨k,v⟩:=x;simp only[Vw,gl] at d;refine⟨Z,e.key,e.val,seen.push e.born,a,M,hr,.inr ⟨O,k,v,N++Q,List.perm_middle,d.1.symm,d.2.symm,?_,m++[e],s++t,?_,?_,?_,?_⟩⟩
 . refine pw ?_ hp
   simp only[cn,cq,bz];exact nc _ List.perm_middle.symm
 .simp[h1]
 . refine pw ?_ h2
   simp only[cn,cq,bz];exact nc _ List.perm_middle.symm
 .simp[F,Vw,d]
 simp[A,C]
def ad3{r:Nat}{seen:Array Nat}{f rs:List (K × V)}{k:K}{v:V}(d:sG w r g c seen c)(l:iR w g es c)(j:bY ek ev D es c)(m:oJ ek ev D es seen (f++[(k,v)]) rs) :
 (Instr.entry (.pointer (X4 ⟨r,0,X5⟩))).run P w=.ok (.tuple #[ek k,ev v]) w:=by
 obtain⟨hp,o,s,h1,h2,b,q⟩:=m;rw[de,bi,List.map_nil] at b;obtain⟨d1,d2,rfl,p,h⟩:=mo.1 b;obtain⟨e,d3,rfl,a,i⟩:=nw.1 h;obtain rfl:d3=[]:=by simpa using i
 simp only[Vw,gl] at a;have hs:seen=(d1.map (·.born)).toArray.push e.born:=by
  apply Array.toList_inj.1;rw[h1];simp
 have n:e∈es.toList:=h2.mem_iff.1 (by simp);rw[hs] at d;have:=run_entry_at (P:=P) w r g c _ es c e d l n j.nd;rw[this,a.1,a.2]
end
/-! ### Things in memory -/
def mI(g:Nat)(es:Array cu)(c:Nat):It where
 own b:=X4 g=X4 b
 P w:=iR w g es c
 lt w b h e:=by cases e;exact h.lt
 st w w' h _ k:=(k g rfl).trans h
def iI(r g c:Nat)(seen:Array Nat):It where
 own b:=X4 r=X4 b
 P w:=sG w r g c seen c
 lt w b h e:=by cases e;exact h.lt
 st w w' h _ k:=(k r rfl).trans h
def Mem.p{w0 w:ak}{is:List It}(m:Mem w0 w is)(k:Nat){g c:Nat}{es:Array cu}(a:is[k]? = X4 (mI g es c)):iR w g es c:=m.get k a
def Mem.r{w0 w:ak}{is:List It}(m:Mem w0 w is)(k:Nat){r g c:Nat}{seen:Array Nat}(a:is[k]? = X4 (iI r g c seen)):sG w r g c seen c:=m.get k a
section
variable {K V:Type} [DecidableEq K] {P:bt} {T M E ty:ba} {ek:K->aj} {ev:V->aj} {w w0:ak} {g c:Nat} {es:Array cu} {D:List (K × V)} {is:List It}
variable {ds:List ej} {l:List aj} {x y z:b_} {ops:Array Oper} {Q:Exit->Act->ak->Prop} {rest:List Oper} {d:Nat} {pos:String} {after:Array Edge}
def lU(m:Mem w0 w is)(h:∀g u,Mem w0 u (mI g #[] 0::is)->az P ops Q rest (Fr (l.set d (.map (X4 g))) ds) u):az P ops Q (bu (X4 d) (.makeMap M X5) ty pos after X5::rest) (Fr l ds) w :=
 ahh λu g e c a=>h g u (m.new (i:=mI g #[] 0) e a λb h=>by cases h;exact c)
def xC(m:Mem w0 w is)(j:P.underlying M=X4 (.map T E))(k:Go.Lith.ev l x=.map (X4 g))(f:iR w g es c)(h:∀r u,Mem w0 u (iI r g c #[]::is)->az P ops Q rest (Fr (l.set d (.pointer (X4 ⟨r,0,X5⟩))) ds) u) :
 az P ops Q (bu (X4 d) (.range M x) ty pos after X5::rest) (Fr l ds) w :=
 afT j k f λu r e hr a=>h r u (m.new (i:=iI r g c #[]) e a λb h=>by cases h;exact hr)
end
section
variable {K V:Type} [DecidableEq K] {P:bt} {T M E ty:ba} {ek:K->aj} {en:V->aj} {w w0:ak} {g c:Nat} {es:Array cu} {D:List (K × V)} {is:List It}
variable {ds:List ej} {l:List aj} {x y z:b_} {ops:Array Oper} {Q:Exit->Act->ak->Prop} {rest:List Oper} {d:Nat} {pos:String} {after:Array Edge}
def eN{v0:V}{k:K}(e:P.underlying M=X4 (.map T E))(i:nJ P E (en v0))(j:tA P T ek)(f:ev l x=.map (X4 g))(h:ev l y=ek k)(b:iR w g es c)(a:bY ek en D es c):Cb P l (.lookup M x y X3) ty (en ((cG D k).getD v0)) w:=λo d _=>by
 have:=Oj e j b a i k X3;simp only[oq,Y4] at this;simp[dw,d,cN,f,h,this]
def Xm{v0:V}{k:K}(e:P.underlying M=X4 (.map T E))(i:nJ P E (en v0))(j:tA P T ek)(f:ev l x=.map (X4 g))(h:ev l y=ek k)(b:iR w g es c)(a:bY ek en D es c):Cb P l (.lookup M x y Z) ty (.tuple #[en ((cG D k).getD v0),.bool (cG D k).isSome]) w:=λo d _=>by
 have:=Oj e j b a i k Z;simp only[K0] at this;simp[dw,d,cN,f,h,this]
def nM{v:V}{a:K}(m:Mem w0 w is)(k:Nat)(n:is[k]? = X4 (mI g es c))(s:P.underlying M=X4 (.map T E))(C:tA P T ek)(t:ev l x=.map (X4 g))(A:ev l y=ek a)(B:ev l z=en v)(q:bY ek en D es c)
 (h:∀f d u,Mem w0 u (is.set k (mI g f d))->bY ek en (fP D a v) f d->az P ops Q rest (Fr l ds) u):az P ops Q (bu X5 (.mapUpdate M x y z) ty pos after X5::rest) (Fr l ds) w:=by
 have j:=m.p k n;obtain⟨f,d,hr,F⟩:=abX s C j q a v;have i:=qI (w:=w) (g:=g) (.map f d);refine Io (w':=setBlock w g (.map f d)) (λo r=>by simp[dw,r,cN,t,A,B,hr]) (h f d _ ?_ F);exact m.put k n i.os i.tape i.output (by rw[i.size];exact ar _) (λb _ G=>i.block b λe=>G (by rw[e];rfl)) (jM j) (.inl λ_ h=>h)
def Ol{r:Nat}{seen:Array Nat}{p rs:List (K × V)}(m:Mem w0 w is)(k:Nat)(t:is[k]? = X4 (iI r g c seen))(F:ev l x=.pointer (X4 ⟨r,0,X5⟩))(A:iR w g es c)(z:bY ek en D es c)(C:oJ ek en D es seen p rs)
 (h:∀b i j n u,Mem w0 u (is.set k (iI r g c n))->Nxt ek en D es p rs b i j n->az P ops Q rest (Fr (l.set d (Gn b i j)) ds) u) :
 az P ops Q (bu (X4 d) (.next x X3) ty pos after X5::rest) (Fr l ds) w:=by
 have q:=m.r k t;obtain⟨b,i,j,n,f,I,hr,B⟩:=Xl (P:=P) (ty:=ty) (s:=0) q A z C;refine mG (w':=setBlock f r (.mapIter (X4 g) c n c)) (v:=Gn b i j) (λo E H=>by simp[dw,E,cN,F,H,hr]) (h b i j n _ ?_ B);have a:f.heap=w.heap/\f.os=w.os/\f.tape=w.tape/\f.output=w.output:=by rcases I with rfl | rfl <;> exact⟨rfl,rfl,rfl,rfl⟩
 refine m.put k t a.2.1 a.2.2.1 a.2.2.2 (by simp[setBlock,a.1]) (λy _ G=>?_) ?_ (.inl λ_ h=>h)
 . have:y≠r:=λe=>G (by rw[e];rfl)
   simp only[setBlock,a.1];exact jh (Ne.symm this)
 exact jM (w:=f) (o:=.mapIter (X4 g) c seen c) (by rw[a.1];exact q)
def qJ{b:Bool}{d e:aj}(c:ev l x=Gn b d e):iB P l (.extract x 0) ty (.bool b):=λw o a _=>by
 cases b <;> simp[dw,a,cN,c,Gn,Instr.extract]
def uE{r:Nat}{seen:Array Nat}{a rs:List (K × V)}{k:K}{v:V}(i:ev l x=.pointer (X4 ⟨r,0,X5⟩))(d:sG w r g c seen c)(e:iR w g es c)(b:bY ek en D es c)(f:oJ ek en D es seen (a++[(k,v)]) rs) :
 Cb P l (.entry x) ty (.tuple #[ek k,en v]) w:=λo h _=>by
 have:=ad3 (P:=P) d e b f;simp[dw,h,cN,i,this]
def mJ{f:FuncId}{a:b_}{xs:Array b_}{args:List aj}{first cap:Array aj}{a0:Array ba}{R:aj->It->Prop}(m:Mem w0 w is)(k:Nat)(b:Entr P f)(n:ev l a=.func (.func f) first cap)(o:first.toList++xs.toList.map (ev l)++cap.toList=args)
 (hc:Mem w0 w is->Calls P f args.toArray w λe w'=>∃v i,e=.returned v/\Mem w0 w' (is.set k i)/\R v i) (h:∀v i u,Mem w0 u (is.set k i)->R v i->az P ops Q rest (Fr (l.set d v) ds) u) :
 az P ops Q (bu (X4 d) (.call { callee:=.value a,args:=xs,argTypes:=a0 }) ty pos after X5::rest) (Fr l ds) w:=by
 refine wpList_plain O λK c=>?_;unfold nf;rw[jY,pT b n o _ rfl];refine (hc m).mono ?_;rintro e w' ⟨v,i,rfl,g,j⟩;show K ((Fr l ds).put (X4 d) v) w'
 rw[gI];exact c _ _ (h v i w' g j)
end
def cL{P:bt}{Q:Exit->Act->ak->Prop}{l:List aj}{ds:List ej}{c1 c2:Code}{w:ak}{x:b_}{b:Bool}(d:ev l x=.bool b)(c:b=Z->c1.wp P Q (Fr l ds) w)(a:b=X3->c2.wp P Q (Fr l ds) w):(Code.cond x c1 c2).wp P Q (Fr l ds) w:=gF d c a
def Rx{α:Type}{is:List α}{k:Nat}{i:α}(h:is[k]? = X4 i):is.set k i=is:=by
 apply fz;intro j;rw[je];split
 . rename_i e;subst e
   have:=(ao.1 h).1;rw[J this,h]
 rfl
def Ma{K V:Type}[DecidableEq K]:∀{D:List (K × V)} {k:K} {v:V},cG D k=X4 v->fP D k v=D
 | [],_,_,h=>by cases h
 | x::D,k,v,h=>by
  unfold cG at h;unfold fP;split at h
  .rename_i e;cases h;subst e;rw[J rfl]
  rename_i e;rw[X e,Ma h]
/-! ### Keys -/
def xP(P:bt)(e:Bool)(d:Nat)(T:ba)(x:aj):Prop:=∀w,(Instr.checkKey e d T x).run P w=.ok () w
section
variable {P:bt} {e:Bool} {d:Nat} {T E:ba}
def tC{β:Type}{w:ak}(g:β->PUnit->Sem (ForInStep PUnit)):∀(L:List β),(∀x∈L,(g x ⟨⟩).run P w=.ok (.yield ⟨⟩) w)->(forIn L PUnit.unit g:Sem PUnit).run P w=.ok ⟨⟩ w
 | [],_=>by simp
 | x::L,h=>by
  simp only[List.forIn_cons,Sem.run_bind,h x (br ..),Result.andThen_ok];exact tC g L λy a=>h y (bp _ a)
def xP.int{k b:IntKind}{n:Int}(a:P.underlying T=X4 (.int b)):xP P e (d+1) T (.int k n):=λw=>by
 unfold Instr.checkKey;simp[cl a]
def xP.struct{fs:Array Field}{cs:Array aj}(c:P.underlying T=X4 (.struct fs))(h:∀f∈fs.toList,∃v,(∀w,(part f.type cs f.offset).run P w=.ok v w)/\xP P e d f.type v):xP P e (d+1) T (.agg cs):=λw=>by
 unfold Instr.checkKey;simp only[Sem.run_bind,cl c,Result.andThen_ok];rw[<-Array.forIn_toList];refine (C (λr=>Result.andThen r _) (tC _ fs.toList λf b=>?_)).trans (by rfl);obtain⟨v,h1,h2⟩:=h f b;by_cases a:f.name = "_"
 .simp[a]
 simp[a,h1 w,h2 w]
def xP.array{n c:Nat}{cs:Array aj}(b:P.underlying T=X4 (.array n E))(hc:dO P E c)(h:∀i,i<n->∃v,(∀w,(part E cs (i*c)).run P w=.ok v w)/\xP P e d E v):xP P e (d+1) T (.agg cs):=λw=>by
 unfold Instr.checkKey;simp only[Sem.run_bind,cl b,Result.andThen_ok];simp only[Std.Legacy.Range.forIn_eq_forIn_range',Std.Legacy.Range.size,Nat.sub_zero,Nat.add_one_sub_one,Nat.div_one];refine (C (λr=>Result.andThen r _) (tC _ (List.range' 0 n) λi a=>?_)).trans (by rfl);obtain⟨v,h1,h2⟩:=h i (by simpa using a);simp[dY hc,h1 w,h2 w]
def tA.agg{K:Type}[DecidableEq K]{ek:K->aj}{cs:K->Array aj}(ha:∀k,ek k=.agg (cs k)){t:TypeDesc}(ht:P.underlying T=X4 t)(hc:∀e k,xP P e 10000 T (ek k))(he:∀a b,sZ P 10000 T (ek a) (ek b) (a=b))(hb:∀a,Instr.sameBits 10000 (ek a) (ek a)=Z):tA P T ek where
 chk e k w:=hc e k w
 now:=⟨t,ht,λa b=>.inl (by rw[ha,ha];cases t <;> rfl)⟩
 eq a b w:=Aa (he a b) w
 bits:=hb
end
end
section
open Go.RowKit Go.Proofs Go.Sort Go.Shelf
def aji{α:Type}{enc:α->List aj}{k:Nat}(a:∀x,(enc x).length=k)(b:0<k):∀(L:List α) (t:Nat),(L.flatMap enc)[t]? = (L[t / k]?).bind λx=>(enc x)[t%k]?
 | [],t=>by simp
 | x::L,t=>by
  rw[bx,List.getElem?_append];by_cases h:t<k
  . rw[J (by rw[a];exact h),Nat.div_eq_of_lt h,lg h]
    rfl
  rw[X (by rw[a];exact h),a,aji a b L (t-k)]
  have c:t / k=(t-k) / k+1:=by rw[Nat.div_eq t k,J ⟨b,i_ h⟩]
  have d:t%k=(t-k)%k:=Nat.mod_eq_sub_mod (i_ h);rw[c,d,List.getElem?_cons_succ]
def Ai{α:Type}[Inhabited α]{enc:α->List aj}{k:Nat}(b:∀x,(enc x).length=k)(c:0<k)(L:List α):(flatK enc k L.toArray).toList=L.flatMap enc:=by
 have f:(L.flatMap enc).length=L.length*k:=by
  induction L with
  | nil=>simp
  | cons x L ih=>rw[bx,aq,ih,b,ay,ku];omega
 apply fz;intro t;by_cases a:t<L.length*k
 . have d:t / k<L.length:=by
    rw[Nat.div_lt_iff_lt_mul c];exact a
   have e:t%k<k:=lh _ c;have h1:=get_flatK enc k L.toArray t (by simpa using a);rw[getElem!_pos _ t (by simpa using a)] at h1;rw[aji b c,am d,ja,gm,ii (by simpa using a),h1,am (show t%k<(enc L[t / k]).length by rw[b];exact e)]
   congr 1
   rw[getElem!_pos L.toArray _ (by simpa using d),List.getElem_toArray,getElem!_pos _ _ (by rw[b];exact e)]
 rw[cg (by simpa using i_ a),cg (by rw[f];exact i_ a)]
section
variable {α:Type} [Inhabited α] {P:bt} {ρ:Ren} {enc:α->List aj} {c:Nat} {E:ba} {w w0:ak} {is:List It} {A:Option Addr} {n cap:Nat}
def ahi{g:Nat}{xs:List α}{b:Array aj}(i:∀x,(enc x).length=c)(f:0<c)(d:w.heap[g]? = X4 (.cells b E (0,0)))(h:b.toList.take (xs.length*c)=xs.flatMap enc):HoldsK enc c w g 0 xs.toArray:=by
 intro j a;have k:=Ai i f xs;have l:j<xs.length*c:=by simpa using a
 have e:(flatK enc c xs.toArray)[j]? = b[j]?:=by
  rw[<-gm,k,<-h,d_,J l,gm]
 rw[ii a] at e;refine⟨?_,?_⟩
 . simp only[World.cell?,d,ai,Option.isSome_none,oq,Y4]
   rw[<-e,getElem!_pos _ j a];rfl
 simp[World.frozen?,d]
def Vx{g:Nat}{xs ys:List α}{b:Array aj}{q:Nat}{os:Array Obj}(i:∀x,(enc x).length=c)(f:0<c)(e:w.heap[g]? = X4 (.cells b E (0,0)))(j:xs.length*c<=b.size)(l:ys.length=xs.length) :
 ∃d:Array aj,(sortWorldK enc c w g 0 q ys.toArray os).heap[g]? = X4 (.cells d E (0,0))/\d.size=b.size/\d.toList.take (xs.length*c)=ys.flatMap enc:=by
 have k:g<w.heap.size:=(el.1 e).1;refine⟨putCells id 0 (flatK enc c ys.toArray) b,?_,by simp[putCells],?_⟩
 . unfold sortWorldK putRowK putRow mapBlock grow
   simp only;rw[Array.getElem?_append_left (by simpa[ahead] using k),kn];simp[ahead,e,onCells]
 have h:=Ai i f ys
 apply fz;intro t;rw[d_,<-h,gm,gm];have hs:(flatK enc c ys.toArray).size=xs.length*c:=by simp[l]
 split
 . rename_i a
   have:t<b.size:=gw a j;simp only[putCells,Array.getElem?_mapIdx,ii this,gh,bn,ai,X2,Nat.sub_zero,hs,a,K0];rw[ii (by rw[hs];exact a),getElem!_pos _ t (by rw[hs];exact a)];rfl
 rename_i a
 rw[mn (by rw[hs];exact i_ a)]
def Dd(L:SlLaysF0.n6 P ρ)(N:∀w,(isAgg (ρ.t 24)).run P w=.ok Z w)(zE:∀w,(Go.sizeOf (ρ.t 24)).run P w=.ok c w)(p:∀x,(enc x).length=c)(l:0<c)(h1:∀x,∀v∈enc x,v.oneCell'=Z)
 (cf:α->α->Int) (U:SWO (ltOf cf)) {f:FuncId} (I:∀x y,tN P f [.agg (enc x).toArray,.agg (enc y).toArray] (X6 (cf x y))) {xs:List α} (m:Mem w0 w is) (k:Nat) (o:is[k]? = X4 (oI E c A n cap (xs.flatMap enc))) (ah:n<4611686018427387904) :
 Calls P (ρ.f 6) #[.slice A n cap,.func (.func f) #[] #[]] w λe w'=>∃v i,e=.returned v/\Mem w0 w' (is.set k i)/\(v=.tuple #[]/\∃ys:List α,i=oI E c A n cap (ys.flatMap enc)/\ys.Perm xs/\ys.Pairwise λa b=>ltOf cf b a=X3):=by
 have h:w.ownsRow 0 E c (.slice A n cap) n (xs.flatMap enc):=m.get k o;have ak:(xs.flatMap enc).length=xs.length*c:=by
  have:=Ai p l xs;rw[<-this];simp
 have d:xs.length=n:=by
  have:=h.1;rw[ak] at this;exact Nat.eq_of_mul_eq_mul_right l this
 have am:=λb z=>m.ge _ (bf o) b z;rcases oF h with ⟨rfl,rfl,rfl,C⟩ | ⟨g,Y,rfl,_,B,H,al,K,M⟩
 . refine (AnyF.slices_SortFunc_none L X5 0 _ w).mono ?_
   rintro e w' ⟨rfl,rfl⟩;obtain rfl:xs=[]:=ft d;refine⟨_,oI E c X5 0 0 [],O,?_,O,[],O,oy _,.nil⟩;have:is.set k (oI E c X5 0 0 [])=is:=by
    apply fz;intro j;rw[je];split
    . rename_i e;subst e
      have:=(ao.1 o).1;rw[J this,o];rfl
    rfl
   rw[this];exact m
 have af:g<w.heap.size:=(el.1 B).1
 rw[<-d] at M;have T:=ahi (xs:=xs) p l B M;have C:=AnyQ.slices_SortFunc L c N zE enc p h1 cf U f #[] g 0 cap xs.toArray w (λargs w'=>tY (I default default w').1) (λF os D _ x y=>by
  have:=((I x y (sortWorldK enc c w g 0 F D os)).2.mono λe w' h=>(show e=.returned (X6 (cf x y))/\∃q ai,w'=grow ((sortWorldK enc c w g 0 F D os).drewN q) ai from by obtain⟨u,rfl,V,rfl⟩:=h;exact⟨O,V.grow⟩))
  simpa using this) T af (by simpa[d] using ah)
 have es:xs.toArray.size=n:=by simpa using d
 rw[es] at C;refine C.mono ?_;rintro e w' ⟨rfl,s,q,os,hp,hs,rfl⟩;have W:s.size=n:=by rw[hp.1];exact es
 obtain⟨ys,rfl⟩:∃ys:List α,s=ys.toArray:=⟨s.toList,by simp⟩
 have r:ys.length=n:=by simpa using W
 have ab:xs.length*c<=Y.size:=by rw[d,K];exact nq _ H
 obtain⟨aj,Q,R,S⟩:=Vx (q:=q) (os:=os) (ys:=ys) p l B ab (by rw[r,d]);refine⟨_,oI E c (X4 ⟨g,0,X5⟩) n cap (ys.flatMap enc),O,?_,O,ys,O,?_,?_⟩
 . refine m.put k o O O O ?_ (λb z ag=>?_) ?_ (.inl λ_ h=>h)
   .simp[sortWorldK,putRowK,putRow,mapBlock,grow,ahead]
   . have aa:g≠b:=λe=>ag (by rw[e];rfl)
     unfold sortWorldK putRowK putRow mapBlock grow;simp only;rw[Array.getElem?_append_left (by simpa[ahead] using z),kn,X aa];rfl
   refine⟨?_,.inr ⟨g,cap,aj,O,bn _,Q,H,al,by rw[R,K],?_⟩⟩
   . have:=Ai p l ys
     rw[<-this];simp[r]
   rw[<-d];exact S
 . have:=hp.2.2
   simpa[r,d,au (Nat.le_of_eq r),au (Nat.le_of_eq d),List.extract_eq_take_drop] using this
 rw[ix]
 intro i j ad G ae;have:=hs i j (bn _) ae (by rw[<-r];exact G);rw[getElem!_pos _ i (by simpa using ad),getElem!_pos _ j (by simpa using G)] at this;simpa using this
end
end
section
open Go.RowKit Go.Sort
variable{K:Type}
instance:Inhabited H:=⟨⟨0,0,0⟩⟩
def bH(p:H):List aj:=[X6 p.x,X6 p.y,X6 p.z]
def Om(p:H):∀v∈bH p,v.oneCell'=Z:=λv h=>by
 simp only[bH,ap,cd,Z9] at h;rcases h with rfl | rfl | rfl <;> rfl
def lV(p q:H):(rC p q<0)↔p.Lt q:=by
 unfold rC;split
 .simp[*]
 split <;> simp[*]
def abY:SWO (Go.Proofs.ltOf rC) where
 irrefl x:=by simp[Go.Proofs.ltOf,lV,H.lt_irrefl]
 trans x y z h1 h2:=by
  simp only[Go.Proofs.ltOf,R,lV] at *
  exact H.lt_trans h1 h2
 ntrans x y z h1 h2:=by
  simp only[Go.Proofs.ltOf,Y1,lV] at *
  unfold H.Lt at *
  omega
def oJ.len{V:Type}[DecidableEq K]{ek:K->aj}{en:V->aj}{D a rs:List (K × V)}{es:Array cu}{seen:Array Nat}(h:oJ ek en D es seen a rs):a.length+rs.length=D.length:=by
 have:=h.1.length_eq;simpa using this
def Ji{V:Type}[DecidableEq K]{ek:K->aj}{en:V->aj}{D c rs:List (K × V)}{es:Array cu}{b:Bool}{d f:aj}{e:Array Nat}(a:b=X3)(h:Nxt ek en D es c rs b d f e):rs=[]:=by
 rcases h with ⟨_,h⟩ | ⟨h,_⟩
 .exact h
 rw[h] at a;cases a
def Jj{K V:Type}[DecidableEq K]{ek:K->aj}{en:V->aj}{D c rs:List (K × V)}{es:Array cu}{b:Bool}{f g:aj}{e:Array Nat}(d:b=Z)(h:Nxt ek en D es c rs b f g e) :
 ∃k v a,rs.Perm ((k,v)::a)/\oJ ek en D es e (c++[(k,v)]) a:=by
 rcases h with ⟨h,_⟩ | ⟨_,k,v,a,h1,_,_,h2⟩
 .rw[h] at d;cases d
 exact⟨k,v,a,h1,h2⟩
def De(D:List (H × Bool))(ps:List H):List (H × Bool):=ps.foldl (λD p=>fP D p Z) D
def abZ{V:Type}[DecidableEq K](D:List (K × V))(k a:K)(v:V):a∈(fP D k v).map (·.1)↔a∈D.map (·.1)\/a=k:=by
 rw[uQ];split
 .exact⟨.inl,λh=>h.elim id (λe=>e▸‹_›)⟩
 simp
def Xn:∀(ps:List H) (D:List (H × Bool)) (a:H),a∈(De D ps).map (·.1)↔a∈D.map (·.1)\/a∈ps
 | [],D,a=>by simp[De]
 | p::ps,D,a=>by
  have:=Xn ps (fP D p Z) a;unfold De at this ⊢;rw[jx,this,abZ,ap,X0]
def On:∀(ps:List H) (D:List (H × Bool)),(D.map (·.1)).Nodup->((De D ps).map (·.1)).Nodup
 | [],_,h=>h
 | p::ps,D,h=>On ps (fP D p Z) (vG h p Z)
def wM{K V:Type}[DecidableEq K]:∀(D:List (K × V)) (k:K) (v:V),(fP D k v).length<=D.length+1
 | [],_,_=>by simp[fP]
 | x::D,k,v=>by
  unfold fP;split
  .simp
  simp only[ay]
  exact Nat.succ_le_succ (wM D k v)
def Jk:∀(ps:List H) (D:List (H × Bool)),(De D ps).length<=D.length+ps.length
 | [],D=>ar _
 | p::ps,D=>be (Jk ps (fP D p Z)) (by
  have:=wM D p Z;simp only[ay];omega)
def ahj(D:List (H × Bool))(ps a:List H):De D (ps++a)=De (De D ps) a:=ir ..
def cF(ts:List T3):List H:=ts.flatMap λt=>[t.a,t.b,t.c]
def tD(ps:List H):Prop:=ps.Pairwise λa b=>a.Lt b
def ahk{ps:List H}(c:ps.Nodup)(h:ps.Pairwise λa b=>¬b.Lt a):tD ps:=by
 have:=c.and h;exact this.imp λ{a b} h=>(H.lt_tri a b).resolve_right (by rintro (e | e);exact h.1 e;exact h.2 e)
end
section
open Go.RowKit
variable{k n cap:Nat}{a:E3}{es:List E3}{x y z q s:H}{w:ak}{xs os ys:List Nat}
def Xo{α:Type}{ps:List α}{p:α}(h:ps[k]? = X4 p):ps.take (k+1)=ps.take k++[p]:=by
 rw[nh,h];rfl
def Ry{ts:List T3}{t:T3}(h:ts[k]? = X4 t):cF (ts.take (k+1))=cF (ts.take k)++[t.a,t.b,t.c]:=by
 unfold cF;rw[Xo h,aw];simp
def ad4{ts:List T3}{t:T3}(h:ts[k]? = X4 t):De [] (cF (ts.take (k+1)))=fP (fP (fP (De [] (cF (ts.take k))) t.a Z) t.b Z) t.c Z:=by
 rw[Ry h,ahj];rfl
def qK(ts:List T3):(cF ts).length=ts.length*3:=by
 unfold cF
 induction ts with
 | nil=>rfl
 | cons t ts ih=>rw[bx,aq,ih];simp only[ay,bm];omega
def ajj{ps:List H}:(ps.flatMap bH).length=ps.length*3:=by
 induction ps with
 | nil=>rfl
 | cons p ps ih=>rw[bx,aq,ih,show (bH p).length=3 from rfl,ay];omega
def vI{α:Type}{R:α->α->Prop}(f:∀a,¬R a a)(tr:∀a b c,R a b->R b c->R a c):∀{l m:List α},l.Pairwise R->m.Pairwise R->(∀a,a∈l↔a∈m)->l=m
 | [],[],_,_,_=>rfl
 | [],y::m,_,_,h=>Z8 ((h y).2 (br ..)) (by simp)
 | x::l,[],_,_,h=>Z8 ((h x).1 (br ..)) (by simp)
 | x::l,y::m,i,j,h=>by
  obtain⟨h1,h2⟩:=bv.1 i;obtain⟨g,n⟩:=bv.1 j;have e:x=y:=by
   rcases ap.1 ((h x).1 (br ..)) with e | hx
   .exact e
   rcases ap.1 ((h y).2 (br ..)) with e | hy
   .exact e.symm
   exact Z8 (tr _ _ _ (h1 y hy) (g x hx)) (f x)
  subst e;rw[vI f tr h2 n λa=>⟨λd=>?_,λd=>?_⟩]
  . rcases ap.1 ((h a).1 (bp _ d)) with rfl | k
    .exact Z8 (h1 a d) (f a)
    exact k
  rcases ap.1 ((h a).2 (bp _ d)) with rfl | k
  .exact Z8 (g a d) (f a)
  exact k
/-! ### Edges in order -/
def Lm(a b:E3):Prop:=a.1.Lt b.1\/a.1=b.1/\a.2.Lt b.2
def afU{b:E3}:ltE a b=Z↔Lm a b:=by
 unfold ltE Lm;by_cases h:a.1=b.1
 . rw[X (not_not_intro h),R]
   exact⟨λk=>.inr ⟨h,k⟩,λk=>k.elim (λk=>Z8 (h▸k) (H.lt_irrefl _)) (·.2)⟩
 rw[J h,R]
 exact⟨.inl,λk=>k.elim id (λk=>Z8 k.1 h)⟩
def Lm.irrefl(a:E3):¬Lm a a:=λh=>h.elim (H.lt_irrefl _) λh=>H.lt_irrefl _ h.2
def Lm.trans{b c:E3}(h:Lm a b)(k:Lm b c):Lm a c:=by
 rcases h with h | ⟨h,d⟩
 . rcases k with k | ⟨k,_⟩
   .exact .inl (H.lt_trans h k)
   exact .inl (k▸h)
 rcases k with k | ⟨k,e⟩
 .exact .inl (h▸k)
 exact .inr ⟨h.trans k,H.lt_trans d e⟩
def Lm.tri(a b:E3):Lm a b\/a=b\/Lm b a:=by
 rcases H.lt_tri a.1 b.1 with h | h | h
 .exact .inl (.inl h)
 . rcases H.lt_tri a.2 b.2 with k | k | k
   .exact .inl (.inr ⟨h,k⟩)
   .exact .inr (.inl (pq h k))
   exact .inr (.inr (.inr ⟨h.symm,k⟩))
 exact .inr (.inr (.inl h))
def oQ(es:List E3):Prop:=es.Pairwise Lm
def Oo{fs:List E3}(h:oQ es)(k:oQ fs)(e:∀a,a∈es↔a∈fs):es=fs:=vI Lm.irrefl (λ_ _ _=>Lm.trans) h k e
def aar{α:Type}{p:α->Bool}:∀(l:List α),l.take (l.takeWhile p).length=l.takeWhile p
 | []=>rfl
 | x::l=>by
  rw[ly];split
  .rw[ay,lw,aar l]
  rfl
def aas{α:Type}{p:α->Bool}:∀(l:List α),l.drop (l.takeWhile p).length=l.dropWhile p
 | []=>rfl
 | x::l=>by
  rw[ly,od];split
  .rw[ay,List.drop_succ_cons,aas l]
  rfl
def afV(es:List E3)(e:E3):adY es e=es.takeWhile (λx=>ltE x e)++[e]++es.dropWhile (λx=>ltE x e):=by
 unfold adY ahc;rw[aar,aas]
def ajk{e x:E3}:x∈adY es e↔x=e\/x∈es:=by
 rw[afV]
 conv=>rhs;rw[<-lv (p:=λx=>ltE x e) (l:=es)]
 simp only[bh,a_];exact⟨λh=>h.elim (λh=>h.elim (λh=>.inr (.inl h)) .inl) (λh=>.inr (.inr h)),λh=>h.elim (λh=>.inl (.inr h)) (λh=>h.elim (λh=>.inl (.inl h)) .inr)⟩
def apM{e:E3}:∀{es:List E3},oQ es->e∉es->∀x∈es.dropWhile (λx=>ltE x e),Lm e x
 | [],_,_,x,h=>by cases h
 | y::ys,hs,a,x,h=>by
  obtain⟨h1,h2⟩:=bv.1 hs;rw[od] at h;split at h
  .exact apM h2 (λk=>a (bp _ k)) x h
  rename_i c
  have b:Lm e y:=by
   rcases Lm.tri y e with k | k | k
   .exact Z8 (afU.2 k) c
   .exact Z8 (k▸br ..) a
   exact k
  rcases ap.1 h with rfl | h
  .exact b
  exact b.trans (h1 x h)
def ad5{α:Type}{p:α->Bool}{x:α}:∀{l:List α},x∈l.takeWhile p->p x=Z
 | [],h=>by cases h
 | y::l,h=>by
  rw[ly] at h;split at h
  . rename_i a
    rcases ap.1 h with rfl | h
    .exact a
    exact ad5 h
  cases h
def aua{e:E3}  : ∀x∈es.takeWhile (λx=>ltE x e),Lm x e:=λx h=>afU.1 (ad5 (p:=λx=>ltE x e) h)
def ab0{e:E3}(hs:oQ es)(d:e∉es):oQ (adY es e):=by
 rw[afV];have b:=hs;rw[oQ,<-lv (p:=λx=>ltE x e) (l:=es)] at b;obtain⟨h1,h2,c⟩:=fu.1 b;refine fu.2 ⟨fu.2 ⟨h1,List.pairwise_singleton _ _,λx hx y a=>?_⟩,h2,λx hx y a=>?_⟩
 .rw[a_.1 a];exact aua x hx
 rcases bh.1 hx with hx | hx
 .exact c x hx y a
 rw[a_.1 hx];exact apM hs d y a
def oK{e:E3}:0<jO es e↔e∈es:=by
 unfold jO;rw[List.length_pos_iff_exists_mem];simp
def Mb{all:List E3}:∀(es a:List E3),oQ a->oQ (es.foldl (qH all) a)/\∀x,x∈es.foldl (qH all) a↔x∈a\/x∈es/\(x.2,x.1)∉all
 | [],a,h=>⟨h,λx=>by simp⟩
 | e::es,a,h=>by
  have key:oQ (qH all a e)/\∀x,x∈qH all a e↔x∈a\/x=e/\(x.2,x.1)∉all:=by
   unfold qH;split
   . rename_i hc
     refine⟨h,λx=>⟨.inl,λk=>k.elim id λq=>?_⟩⟩;obtain⟨rfl,q⟩:=q;exact hc.elim (λhc=>Z8 (oK.1 hc) q) (λhc=>oK.1 hc)
   rename_i hc
   have h1:e∉a:=λk=>hc (.inr (oK.2 k));have h2:(e.2,e.1)∉all:=λk=>hc (.inl (oK.2 k));refine⟨ab0 h h1,λx=>ajk.trans ⟨λk=>k.elim (λk=>.inr ⟨k,k▸h2⟩) .inl,λk=>k.elim .inr λk=>.inl k.1⟩⟩
  obtain⟨b,c⟩:=Mb es (qH all a e) key.1;refine⟨b,λx=>?_⟩;rw[jx,c,key.2,ap,X0];refine or_congr Iff.rfl ⟨λk=>k.elim (λk=>⟨.inl k.1,k.2⟩) (λk=>⟨.inr k.1,k.2⟩),λk=>k.1.elim (λh=>.inl ⟨h,k.2⟩) (λh=>.inr ⟨h,k.2⟩)⟩
def rT(ts:List T3):oQ (bB ts):=(Mb (all:=aX ts) (aX ts) [] la).1
def Rz{ts:List T3}{e:E3}:e∈bB ts↔e∈aX ts/\(e.2,e.1)∉aX ts:=by
 have:=(Mb (all:=aX ts) (aX ts) [] la).2 e;unfold bB;rw[this];simp
/-! ### Keys put into a set -/
section
variable {K:Type} [DecidableEq K]
def gA(D:List (K × Bool))(a:List K):List (K × Bool):=a.foldl (λD k=>fP D k Z) D
def vJ:∀(b:List K) (D:List (K × Bool)) (a:K),a∈(gA D b).map (·.1)↔a∈D.map (·.1)\/a∈b
 | [],D,a=>by simp[gA]
 | k::b,D,a=>by
  have:=vJ b (fP D k Z) a;unfold gA at this ⊢;rw[jx,this,abZ,ap,X0]
def Hj:∀(a:List K) (D:List (K × Bool)),(D.map (·.1)).Nodup->((gA D a).map (·.1)).Nodup
 | [],_,h=>h
 | k::a,D,h=>Hj a (fP D k Z) (vG h k Z)
def pI:∀(a:List K) (D:List (K × Bool)),(gA D a).length<=D.length+a.length
 | [],_=>ar _
 | k::a,D=>by
  have h1:=pI a (fP D k Z);have h2:=wM D k Z;show (gA (fP D k Z) a).length<=_
  rw[ay];omega
def Sa:∀(b:List K) (D:List (K × Bool)) (a:K),cG (gA D b) a=if a∈b then X4 Z else cG D a
 | [],D,a=>by simp[gA]
 | k::b,D,a=>by
  have h:=Sa b (fP D k Z) a;show cG (gA (fP D k Z) b) a=_
  rw[h,jP];by_cases h1:a∈b
  .rw[J h1,J (bp _ h1)]
  rw[X h1]
  by_cases h2:k=a
  .rw[J h2,J (h2▸br ..)]
  rw[X h2,X (λc=>(ap.1 c).elim (λe=>h2 e.symm) h1)]
def ajl(D:List (K × Bool))(a b:List K):gA D (a++b)=gA (gA D a) b:=ir ..
def sJ(b:List K)(a:K):(cG (gA [] b) a).getD X3=decide (a∈b):=by
 rw[Sa];by_cases h:a∈b
 .rw[J h,Y0 h];rfl
 rw[X h,Y h];rfl
def ab1{b:List K}{a:K}:(cG (gA [] b) a).getD X3=Z↔a∈b:=by
 rw[Sa];by_cases h:a∈b
 .rw[J h];exact⟨λ_=>h,λ_=>rfl⟩
 rw[X h];exact⟨λk=>(by cases k),λk=>Z8 k h⟩
end
/-! ### No edge twice -/
def nN{x e:E3}  : jO (x::es) e=(if x=e then 1 else 0)+jO es e:=by
 unfold jO;by_cases h:x=e
 .rw[ma (by simpa using h),ay,J h];omega
 rw[mb (by simpa using h),X h];omega
def Ey:∀{es:List E3},es.Nodup↔∀e,jO es e<=1
 | []=>by simp[jO]
 | x::es=>by
  rw[g_,Ey (es:=es)];constructor
  . rintro⟨h1,h2⟩ e
    rw[nN];by_cases h:x=e
    . have:¬0<jO es e:=λk=>h1 (h▸oK.1 k)
      rw[J h];omega
    rw[X h];have:=h2 e;omega
  intro h
  refine⟨λk=>?_,λe=>?_⟩
  . have h1:=h x
    rw[nN,J rfl] at h1;have:=oK.2 k;omega
  have:=h e
  rw[nN] at this;omega
def Jl  : (es.any λe=>decide (1<jO es e))=decide (¬es.Nodup):=by
 rw[Bool.eq_iff_iff,et,R,Ey];constructor
 . rintro⟨e,_,h⟩ k
   have:=k e;simp only[R] at h;omega
 intro h
 obtain⟨e,a⟩:=Classical.not_forall.1 h;exact⟨e,oK.1 (by omega),by simpa using Nat.not_le.1 a⟩
def rL{α:Type}{es:List α}{e:α}:(es++[e]).Nodup↔es.Nodup/\e∉es:=by
 rw[ky];constructor
 . rintro⟨h1,_,d⟩
   exact⟨h1,λk=>d e k e (by simp) O⟩
 rintro⟨h1,h2⟩
 exact⟨h1,by simp,λa f b g c=>h2 (by rw[<-a_.1 g,<-c];exact f)⟩
section
variable {K V:Type} [DecidableEq K]
def Gb(D:List (K × V))(xs:List (K × V)):List (K × V):=xs.foldl (λD x=>fP D x.1 x.2) D
def ab2:∀(xs D:List (K × V)) (k:K),(xs.map (·.1)).Nodup->cG (Gb D xs) k=match cG xs k with | some v=>X4 v | none=>cG D k
 | [],D,k,_=>rfl
 | (a,v)::xs,D,k,h=>by
  rw[bi,g_] at h;have ih:=ab2 xs (fP D a v) k h.2;show cG (Gb (fP D a v) xs) k=_
  rw[ih,jP,cG];by_cases e:a=k
  . rw[J e,J e]
    have:cG xs k=X5:=kZ.2 (e▸h.1);rw[this]
  rw[X e,X e]
def ajm(D xs ys:List (K × V)):Gb D (xs++ys)=Gb (Gb D xs) ys:=ir ..
def xD(D:List (K × Nat))(a:List K):List (K × Nat):=a.foldl (λD k=>fP D k ((cG D k).getD 0+1)) D
def wF(b:List K)(a:K):Nat:=(b.filter λx=>decide (x=a)).length
def Ez{x a:K}{b:List K}:wF (x::b) a=(if x=a then 1 else 0)+wF b a:=by
 unfold wF;by_cases h:x=a
 .rw[ma (by simpa using h),ay,J h];omega
 rw[mb (by simpa using h),X h];omega
def ajn{a:K}{b c:List K}:wF (b++c) a=wF b a+wF c a:=by simp[wF]
def ab3:∀(b:List K) (D:List (K × Nat)) (a:K),(cG (xD D b) a).getD 0=(cG D a).getD 0+wF b a
 | [],D,a=>rfl
 | k::b,D,a=>by
  have h:=ab3 b (fP D k ((cG D k).getD 0+1)) a;show (cG (xD (fP D k ((cG D k).getD 0+1)) b) a).getD 0=_
  rw[h,jP,Ez];by_cases e:k=a
  . subst e
    rw[J rfl,J rfl,dx];omega
  rw[X e,X e];omega
def ajo(D:List (K × Nat))(a b:List K):xD D (a++b)=xD (xD D a) b:=ir ..
def oY:∀{l m:List K},l.Nodup->(∀a∈l,a∈m)->l.length<=m.length
 | [],_,_,_=>bn _
 | x::l,m,h,k=>by
  rw[g_] at h;have c:=k x (br ..);have h1:=oY (m:=m.erase x) h.2 λa b=>(List.mem_erase_of_ne (λ(e:a=x)=>h.1 (e▸b))).2 (k a (bp _ b));rw[List.length_erase_of_mem c] at h1;have:=List.length_pos_of_mem c;rw[ay];omega
end
/-! ### What lies behind an edge -/
def kL(ts:List T3):List (E3 × H):=ts.flatMap λt=>[((t.a,t.b),t.c),((t.b,t.c),t.a),((t.c,t.a),t.b)]
def mY:∀ts:List T3,(kL ts).map (·.1)=aX ts
 | []=>rfl
 | t::ts=>by
  have:=mY ts;unfold kL aX at this ⊢;rw[bx,de,this];rfl
def ad6{ts:List T3}{t:T3}(h:ts[k]? = X4 t):kL (ts.take (k+1))=kL (ts.take k)++[((t.a,t.b),t.c),((t.b,t.c),t.a),((t.c,t.a),t.b)]:=by
 unfold kL;rw[bV h,aw];simp
def Aj(p q:H):∀ts:List T3,cC ts p q=cG (kL ts) (p,q)
 | []=>rfl
 | t::ts=>by
  have ih:=Aj p q ts;have e:kL (t::ts)=((t.a,t.b),t.c)::((t.b,t.c),t.a)::((t.c,t.a),t.b)::kL ts:=rfl;rw[e,cC,cG,cG,cG,<-ih,T3.fnd];by_cases h1:t.a=p/\t.b=q
  .rw[J h1,J (pq h1.1 h1.2)]
  rw[X h1,X (λe=>h1 ⟨C qu e,C qv e⟩)]
  by_cases h2:t.b=p/\t.c=q
  .rw[J h2,J (pq h2.1 h2.2)]
  rw[X h2,X (λe=>h2 ⟨C qu e,C qv e⟩)]
  by_cases d:t.c=p/\t.a=q
  .rw[J d,J (pq d.1 d.2)]
  rw[X d,X (λe=>d ⟨C qu e,C qv e⟩)]
def Jm{ts:List T3}(h:(aX ts).Nodup)(p q:H):cG (Gb [] (kL ts)) (p,q)=cC ts p q:=by
 rw[ab2 _ _ _ (by rw[mY];exact h),Aj];cases cG (kL ts) (p,q) <;> rfl
def vK{ts:List T3}(h:((x,y),z)∈kL ts):((y,z),x)∈kL ts:=by
 obtain⟨t,b,a⟩:=ff.1 h;refine ff.2 ⟨t,b,?_⟩;simp only[ap,cd,Z9,gl] at a ⊢;rcases a with ⟨⟨rfl,rfl⟩,rfl⟩ | ⟨⟨rfl,rfl⟩,rfl⟩ | ⟨⟨rfl,rfl⟩,rfl⟩
 .exact .inr (.inl ⟨⟨O,O⟩,O⟩)
 .exact .inr (.inr ⟨⟨O,O⟩,O⟩)
 exact .inl ⟨⟨O,O⟩,O⟩
def vL{ts:List T3}(h:(aX ts).Nodup){e:E3}(h1:(e,x)∈kL ts)(h2:(e,y)∈kL ts):x=y:=by
 have k:((kL ts).map (·.1)).Nodup:=by rw[mY];exact h
 have a:=pH k h1;rw[pH k h2] at a;exact (fc a).symm
def vM{ts:List T3}{p:H}(h:cC ts p q=X4 x):((p,q),x)∈kL ts:=sH (by rw[<-Aj];exact h)
def wN{ts:List T3}{p:H}(h:cC ts p q=X4 x):(p,q)∈aX ts:=by
 rw[<-mY];exact dj.2 ⟨_,vM h,O⟩
def Df{ts:List T3}{p:H}(h:(p,q)∈aX ts):∃x,cC ts p q=X4 x:=by
 rw[Aj];cases e:cG (kL ts) (p,q) with
 | some x=>exact⟨x,rfl⟩
 | none =>
  have:=kZ.1 e;rw[mY] at this;exact Z8 h this
def ad7{ts:List T3}(h:(aX ts).Nodup){p:H}(h1:cC ts p x=X4 z)(h2:cC ts p y=X4 z):x=y :=
 vL h (vK (vK (vM h1))) (vK (vK (vM h2)))
def rM(ts:List T3)(p:H):Nat->H->Option H
 | 0,x=>X4 x
 | n+1,x=>(cC ts p x).bind (rM ts p n)
def Dg{ts:List T3}{p:H}:∀(n:Nat) (x:H),rM ts p (n+1) x=(rM ts p n x).bind (cC ts p)
 | 0,x=>by simp[rM]
 | n+1,x=>by
  rw[rM];cases h:cC ts p x with
  | none=>simp[rM,h]
  | some y =>
   rw[ja,Dg n y,rM,h];rfl
def Sb{ms:List T3}{p s:H}:∀(n:Nat) (x:H),oH ms p s n x=Z↔∃j,1<=j/\j<=n/\rM ms p j x=X4 s
 | 0,x=>⟨λh=>(by cases h),λ⟨j,h1,h2,_⟩=>by omega⟩
 | n+1,x=>by
  cases h:cC ms p x with
  | none =>
   rw[Xi h];refine⟨λk=>(by cases k),λ⟨j,h1,_,a⟩=>?_⟩;obtain⟨i,rfl⟩:∃i,j=i+1:=⟨j-1,by omega⟩
   rw[rM,h] at a;cases a
  | some y =>
   by_cases e:y=s
   . subst e
     rw[abU h];exact⟨λ_=>⟨1,ar _,by omega,by simp[rM,h]⟩,λ_=>rfl⟩
   rw[Xj h e,Sb n y]
   constructor
   . rintro⟨j,h1,h2,a⟩
     exact⟨j+1,by omega,by omega,by rw[rM,h];exact a⟩
   rintro⟨j,h1,h2,a⟩
   obtain⟨i,rfl⟩:∃i,j=i+1:=⟨j-1,by omega⟩
   rw[rM,h,ja] at a;cases i with
   | zero=>exact Z8 (fc a) e
   | succ i=>exact⟨i+1,by omega,by omega,a⟩
def Dh(nx:H->Option H)(s:H):Nat->H->Nat->H × Nat
 | 0,a,z=>(a,z)
 | n+1,a,z=>if a=s then (a,z) else match nx a with | none=>(a,z) | some b=>Dh nx s n b (z+1)
def ajp{nx:H->Option H}{z:Nat}:Dh nx s n s z=(s,z):=by
 cases n with
 | zero=>rfl
 | succ n=>rw[Dh,J rfl]
def aat{ts:List T3}{p s:H}{M:Nat}:∀(n:Nat) (a:H) (z:Nat),n=M+1-z->((Dh (cC ts p) s n a z).1=s/\(Dh (cC ts p) s n a z).2<M↔∃j,z<=j/\j<M/\rM ts p (j-z) a=X4 s)
 | 0,a,z,h=>by
  rw[Dh];refine⟨λk=>?_,λ⟨j,h1,h2,_⟩=>?_⟩
  .have:=k.2;simp only at this;omega
  omega
 | n+1,a,z,h=>by
  rw[Dh];by_cases e:a=s
  . rw[J e]
    refine⟨λk=>⟨z,ar _,k.2,by rw[Nat.sub_self,rM,e]⟩,λ⟨j,h1,h2,_⟩=>⟨e,by simp only;omega⟩⟩
  rw[X e]
  cases d:cC ts p a with
  | none =>
   refine⟨λk=>Z8 k.1 e,λ⟨j,h1,h2,c⟩=>?_⟩;cases f:j-z with
   | zero=>rw[f,rM] at c;exact Z8 (fc c) e
   | succ i=>rw[f,rM,d] at c;cases c
  | some b =>
   rw[aat n b (z+1) (by omega)];constructor
   . rintro⟨j,h1,h2,c⟩
     refine⟨j,by omega,h2,?_⟩;rw[show j-z=(j-(z+1))+1 by omega,rM,d];exact c
   rintro⟨j,h1,h2,c⟩
   rcases eh z j with hz | hz
   . refine⟨j,by omega,h2,?_⟩
     rw[show j-z=(j-(z+1))+1 by omega,rM,d] at c;exact c
   rw[show j-z=0 by omega,rM] at c
   exact Z8 (fc c) e
/-! ### The triangles of a corner -/
def anE{t:T3}{p:H}(h:t.fnd p q=X4 x):∃c,c<3/\t.cor c=p:=by
 unfold T3.fnd at h;split at h
 .rename_i a;exact⟨0,by decide,a.1⟩
 split at h
 .rename_i a;exact⟨1,by decide,a.1⟩
 split at h
 .rename_i a;exact⟨2,by decide,a.1⟩
 cases h
def ad8{ts us:List T3}{p:H}:cC (ts++us) p q=match cC ts p q with | some x=>X4 x | none=>cC us p q:=by
 induction ts with
 | nil=>rfl
 | cons t ts ih =>
  rw[cq,cC,cC];cases t.fnd p q with
  | some x=>rfl
  | none=>exact ih
def ahl{t u:T3}{p:H}(h:u∈xY p t 3):u=t/\∃c,c<3/\t.cor c=p:=by
 obtain⟨c,hc,h⟩:=ff.1 h;unfold Rt at h;split at h
 . rename_i e
   exact⟨a_.1 h,c,kf.1 hc,e⟩
 cases h
def ad9{t:T3}{p:H}{c:Nat}(hc:c<3)(h:t.cor c=p):t∈xY p t 3 :=
 ff.2 ⟨c,kf.2 hc,by rw[Rt,J h];exact a_.2 O⟩
def Sc{t:T3}{p q:H}:∀us:List T3,(∀u∈us,u=t)->cC us p q=if us=[] then X5 else t.fnd p q
 | [],_=>rfl
 | u::us,h=>by
  have e:=h u (br ..);have ih:=Sc (p:=p) (q:=q) us λv b=>h v (bp _ b);rw[cC,e,X (by simp)];cases a:t.fnd p q with
  | some x=>rfl
  | none =>
   simp only;rw[ih];split
   .rfl
   exact a
def Oq(p q:H):∀ts:List T3,cC (oG ts p) p q=cC ts p q
 | []=>rfl
 | t::ts=>by
  have e:oG (t::ts) p=xY p t 3++oG ts p:=by simp[oG]
  rw[e,ad8,Oq p q ts,cC,Sc (t:=t) _ (λu b=>(ahl b).1)];by_cases h:xY p t 3=[]
  . rw[J h]
    cases a:t.fnd p q with
    | none=>rfl
    | some x =>
     obtain⟨c,hc,k⟩:=anE a;have:=ad9 hc k;rw[h] at this;cases this
  rw[X h] <;> rfl
def Jn(ts:List T3)(p:H):∀(n:Nat) (x:H),rM (oG ts p) p n x=rM ts p n x
 | 0,_=>rfl
 | n+1,x=>by
  rw[rM,rM,Oq];cases cC ts p x with
  | none=>rfl
  | some y=>exact Jn ts p n y
def Sd(p:H):∀ts:List T3,(oG ts p).length=wF (cF ts) p
 | []=>rfl
 | t::ts=>by
  have ih:=Sd p ts;have e:oG (t::ts) p=xY p t 3++oG ts p:=by simp[oG]
  have d:cF (t::ts)=[t.a,t.b,t.c]++cF ts:=rfl;rw[e,d,aq,ajn,ih]
  congr 1
  have g:ke 3=[0,1,2]:=rfl;unfold xY;rw[g];simp only[bx,mc,fb,aq,Rt];rw[Ez,Ez,Ez];have k:∀(c:Nat) (x:H),t.cor c=x->(if t.cor c=p then [t] else []).length=if x=p then 1 else 0:=λc x f=>by
   subst f;split <;> rfl
  rw[k 0 t.a rfl,k 1 t.b rfl,k 2 t.c rfl];rfl
def Xp{p:H}{ts:List T3}:s∈vF ts p↔(p,s)∈aX ts:=by
 unfold vF aX;rw[ff,ff];refine Y5 λt=>and_congr Iff.rfl ?_;unfold Da;rw[show ke 3=[0,1,2] from rfl];simp only[bx,mc,fb,bh,Ru,ap,cd,Z9,gl];have k:∀(c:Nat) (x y:H),t.cor c=x->t.cor ((c+1)%3)=y->(s∈(if t.cor c=p then [t.cor ((c+1)%3)] else [])↔p=x/\s=y):=λc x y d f=>by
  subst d;subst f;split
  .rename_i h;rw[a_];exact⟨λe=>⟨h.symm,e⟩,λe=>e.2⟩
  rename_i h;exact⟨λe=>(by cases e),λe=>Z8 e.1.symm h⟩
 rw[k 0 t.a t.b rfl rfl,k 1 t.b t.c rfl rfl,k 2 t.c t.a rfl rfl]
def Mc{ps:List H}{p:H}:x∈gT ps p↔x=p\/x∈ps:=by
 unfold gT;split
 . rename_i h
   exact⟨.inr,λk=>k.elim (λe=>e▸bf h) id⟩
 conv=>rhs;rw[<-m_ (abT ps p) ps]
 simp only[bh,a_];exact⟨λh=>h.elim (λh=>h.elim (λh=>.inr (.inl h)) .inl) (λh=>.inr (.inr h)),λh=>h.elim (λh=>.inl (.inr h)) (λh=>h.elim (λh=>.inl (.inl h)) .inr)⟩
def gU{ts:List T3}:x∈aQ ts↔x∈cF ts:=by
 have:∀(ts:List T3) (ps:List H),x∈ts.foldl (λps t=>gT (gT (gT ps t.a) t.b) t.c) ps↔x∈ps\/x∈cF ts:=by
  intro ts
  induction ts with
  | nil=>intro ps;simp[cF]
  | cons t ts ih =>
   intro ps;rw[jx,ih,Mc,Mc,Mc];have e:cF (t::ts)=[t.a,t.b,t.c]++cF ts:=rfl;rw[e];simp only[bh,ap,cd,Z9];constructor
   . rintro ((h | h | h | h) | h)
     .exact .inr (.inl (.inr (.inr h)))
     .exact .inr (.inl (.inr (.inl h)))
     .exact .inr (.inl (.inl h))
     .exact .inl h
     exact .inr (.inr h)
   rintro (h | (h | h | h) | h)
   .exact .inl (.inr (.inr (.inr h)))
   .exact .inl (.inr (.inr (.inl h)))
   .exact .inl (.inr (.inl h))
   .exact .inl (.inl h)
   exact .inr h
 have:=this ts [];simpa[aQ] using this
def Fa{ts:List T3}{e:E3}(h:e∈aX ts):e.1∈cF ts/\e.2∈cF ts:=by
 obtain⟨t,f,d⟩:=ff.1 h;have key:∀x,x=t.a\/x=t.b\/x=t.c->x∈cF ts:=λx d=>ff.2 ⟨t,f,by simpa using d⟩;simp only[ap,cd,Z9] at d;rcases d with rfl | rfl | rfl
 .exact⟨key _ (.inl O),key _ (.inr (.inl O))⟩
 .exact⟨key _ (.inr (.inl O)),key _ (.inr (.inr O))⟩
 exact⟨key _ (.inr (.inr O)),key _ (.inl O)⟩
def aau(ts:List T3)(e:E3):Prop:=∃x,cC ts e.1 e.2=X4 x/\(Dh (cC ts e.1) e.2 (wF (cF ts) e.1+1-1) x 1).1=e.2/\(Dh (cC ts e.1) e.2 (wF (cF ts) e.1+1-1) x 1).2<wF (cF ts) e.1
def Se{ts:List T3}{e:E3}:aau ts e↔e∈aX ts/\oH (oG ts e.1) e.1 e.2 ((oG ts e.1).length-1) e.2=Z:=by
 rw[Sb,Sd];constructor
 . rintro⟨x,a,h⟩
   obtain⟨j,h1,h2,b⟩:=(aat (M:=wF (cF ts) e.1) _ x 1 (by omega)).1 h;refine⟨wN a,j,h1,by omega,?_⟩;rw[Jn,show j=(j-1)+1 by omega,rM,a];exact b
 rintro⟨c,j,h1,h2,b⟩
 obtain⟨x,a⟩:=Df c;refine⟨x,a,(aat (M:=wF (cF ts) e.1) _ x 1 (by omega)).2 ⟨j,h1,by omega,?_⟩⟩;rw[Jn,show j=(j-1)+1 by omega,rM,a] at b;exact b
def pinned{ts:List T3}:(aQ ts).any (Jg ts)=Z↔∃e,aau ts e:=by
 rw[et];constructor
 . rintro⟨p,_,h⟩
   obtain⟨s,hs,hr⟩:=et.1 h;exact⟨(p,s),Se.2 ⟨Xp.1 hs,hr⟩⟩
 rintro⟨e,h⟩
 obtain⟨a,hr⟩:=Se.1 h;exact⟨e.1,gU.2 (Fa a).1,et.2 ⟨e.2,Xp.2 a,hr⟩⟩
/-! ### The ends of fans -/
def Br(ts:List T3):Prop:=∀t∈ts,xB t=X3
def aqO{t:T3}(h:xB t=X3):t.a≠t.b/\t.b≠t.c/\t.c≠t.a:=by
 unfold xB at h;simp only[Bool.or_eq_false_iff,Y1] at h;exact⟨h.1.1,h.1.2,h.2⟩
def aav{ts:List T3}{p:H}:∀(i j:Nat) (a:H),rM ts p (i+j) a=(rM ts p i a).bind (rM ts p j)
 | 0,j,a=>by simp[rM]
 | i+1,j,a=>by
  rw[show i+1+j=(i+j)+1 by omega,rM,rM];cases cC ts p a with
  | none=>rfl
  | some y=>rw[ja,ja];exact aav i j y
/-! ### As the reference says it -/
abbrev Mv:=H × H
def ajq:List Mv->H->H
 | [],p=>p
 | m::ms,p=>if m.1=p then m.2 else ajq ms p
def T3.has(t:T3)(p:H):Bool:=decide (t.a=p)||decide (t.b=p)||decide (t.c=p)
def aqP(ts:List T3)(p:H):Bool:=ts.any λt=>t.has p
def kU(ts:List T3)(p q:H):Bool:=ts.any λt=>t.has p&&t.has q
def Bt(rim:List E3)(p:H):Bool:=rim.any λe=>decide (e.1=p)||decide (e.2=p)
def dB(t:T3):T3:=if t.c.Lt t.a/\(t.c.Lt t.b\/¬t.b.Lt t.a) then ⟨t.c,t.a,t.b⟩ else if t.b.Lt t.a then ⟨t.b,t.c,t.a⟩ else t
def Di{t u:T3}(h1:t.a=u.a)(h2:t.b=u.b)(d:t.c=u.c):t=u:=by
 cases t;cases u;simp only at h1 h2 d;subst h1;subst h2;subst d;rfl
instance:DecidableEq T3:=λt u=>decidable_of_iff (t.a=u.a/\t.b=u.b/\t.c=u.c) ⟨λh=>Di h.1 h.2.1 h.2.2,λh=>by rw[h];exact⟨rfl,rfl,rfl⟩⟩
def T3.img(ms:List Mv)(t:T3):T3:=⟨ajq ms t.a,ajq ms t.b,ajq ms t.c⟩
def T3.nd(t:T3):Bool:=decide (t.a≠t.b)&&decide (t.b≠t.c)&&decide (t.c≠t.a)
variable{ts:List T3}{t:T3}
/-! ### Corners and edges -/
def eF{p:H}:t.has p=Z↔p=t.a\/p=t.b\/p=t.c:=by
 unfold T3.has;simp only[fh,R,X0];exact or_congr ⟨Eq.symm,Eq.symm⟩ (or_congr ⟨Eq.symm,Eq.symm⟩ ⟨Eq.symm,Eq.symm⟩)
def ajr{p:H}:aqP ts p=Z↔p∈cF ts:=by
 unfold aqP cF;rw[et,ff];exact Y5 λt=>and_congr Iff.rfl (by rw[eF];simp)
def kM{p:H}:kU ts p q=Z↔∃t∈ts,t.has p=Z/\t.has q=Z:=by
 unfold kU;rw[et];exact Y5 λt=>and_congr Iff.rfl (by rw[bg])
def iY{p:H}(h:kU ts p q=Z):kU ts q p=Z:=by
 obtain⟨t,a,h1,h2⟩:=kM.1 h;exact kM.2 ⟨t,a,h2,h1⟩
def Xq{p:H}:kU ts p p=Z↔p∈cF ts:=by
 rw[kM,<-ajr,aqP,et];exact Y5 λt=>and_congr Iff.rfl ⟨λh=>h.1,λh=>⟨h,h⟩⟩
def ahm{p:H}(h:kU ts p q=Z):kU ts p p=Z:=by
 obtain⟨t,a,h1,_⟩:=kM.1 h;exact kM.2 ⟨t,a,h1,h1⟩
def aea{e:E3}(h:e∈aX ts):kU ts e.1 e.2=Z:=by
 obtain⟨t,b,a⟩:=ff.1 h;refine kM.2 ⟨t,b,?_,?_⟩ <;> rw[eF] <;> (simp only[ap,cd,Z9] at a;rcases a with rfl | rfl | rfl <;> simp)
def aeb{p:H}(h:kU ts p q=Z)(d:p≠q):(p,q)∈aX ts\/(q,p)∈aX ts:=by
 obtain⟨t,g,h1,h2⟩:=kM.1 h;have key:∀e,e=(t.a,t.b)\/e=(t.b,t.c)\/e=(t.c,t.a)->e∈aX ts:=λe f=>ff.2 ⟨t,g,by simpa using f⟩;rcases eF.1 h1 with rfl | rfl | rfl <;> rcases eF.1 h2 with rfl | rfl | rfl
 .exact Z8 O d
 .exact .inl (key _ (.inl O))
 .exact .inr (key _ (.inr (.inr O)))
 .exact .inr (key _ (.inl O))
 .exact Z8 O d
 .exact .inl (key _ (.inr (.inl O)))
 .exact .inl (key _ (.inr (.inr O)))
 .exact .inr (key _ (.inr (.inl O)))
 exact Z8 O d
/-! ### The border -/
/-! ### The ends of fans -/
def oQ.nodup(h:oQ es):es.Nodup:=List.Pairwise.imp (λ{a b} (k:Lm a b) (e:a=b)=>Lm.irrefl b (e▸k)) h
/-! ### Moves -/
/-! ### Covers -/
def aub(ms:List Mv)(ts:List T3):List T3:=(ts.filter λt=>(t.img ms).nd).map λt=>dB (t.img ms)
abbrev sK(x:Nat):aj:=X6 (x:Int)
structure gC(w:ak)(b:Nat)(A:Option Addr)(n cap:Nat)(xs:List Nat):Prop where
 eq:n=xs.length
 row:∀(i x:Nat),xs[i]? = X4 x->∃a,A=X4 a/\a.block<b/\w.cell? (a.add i)=X4 (X6 (x:Int))
 le:xs.length<=cap
 cap:cap<=9223372036854775807
 len:xs.length<=17592186044416
 digs:eS 65536 xs
section
variable {w w':ak} {b:Nat} {A:Option Addr} {n cap:Nat} {xs:List Nat}
def gC.ext(h:gC w b A n cap xs)(c:fJ w w'):gC w' b A n cap xs :=
 ⟨h.eq,λi x f=>let ⟨a,e,d,hc⟩:=h.row i x f;⟨a,e,d,c.cell hc⟩,h.le,h.cap,h.len,h.digs⟩
def gC.here(h:gC w b A n cap xs):gC w w.heap.size A n cap xs :=
 ⟨h.eq,λi x c=>by
  obtain⟨a,e,_,hc⟩:=h.row i x c;have:=World.block_lt_of_cell? _ _ hc;rw[Es] at this;exact⟨a,e,this,hc⟩,h.le,h.cap,h.len,h.digs⟩
def gC.take(h:gC w b A n cap xs)(k:Nat):gC w b A (xs.take k).length cap (xs.take k) :=
 ⟨rfl,λi x a=>h.row i x (by rw[d_] at a;split at a;exact a;cases a),be (by simp;omega) h.le,h.cap,be (by simp;omega) h.len,h.digs.take k⟩
def gC.get(h:gC w b A n cap xs){i:Nat}(c:i<xs.length):∃a,A=X4 a/\w.cell? (a.add i)=X4 (X6 ((xs[i]:Nat):Int))/\xs[i]<65536:=by
 obtain⟨a,e,_,hc⟩:=h.row i xs[i] (am c);exact⟨a,e,hc,h.digs _ (gj c)⟩
def gC.at{a:Addr}(h:gC w b (X4 a) n cap xs){i:Nat}(c:i<xs.length):w.cell? (a.add i)=X4 (X6 ((xs[i]:Nat):Int)):=by
 obtain⟨d,e,hc,_⟩:=h.get c;cases e;exact hc
def gC.lt(h:gC w b A n cap xs){i:Nat}(a:i<xs.length):xs[i]<65536:=h.digs _ (gj a)
def gC.nil(w:ak)(b:Nat):gC w b X5 0 0 []:=⟨rfl,λi x a=>by simp at a,ar _,by omega,by simp,λx c=>by cases c⟩
def gC.of_blk{g:Nat}{os:List Nat}{t:ba}(h:fQ w g (os.map sK) t)(a:eS 65536 os)(c:n=os.length)(d:n<=17592186044416):gC w w.heap.size (X4 ⟨g,0,X5⟩) n n os :=
 ⟨c,λi x b=>⟨_,rfl,h.lt,by rw[cS,ai];exact h.cell (by simp[b])⟩,by omega,by omega,by omega,a⟩
def gC.of_owns{base:Nat}{v:aj}{E:ba}(h:aiT w base E 1 v n (xs.map sK))(k:n=xs.length)(d:eS 65536 xs)(m:n<=17592186044416):∃A c,v=.slice A n c/\gC w w.heap.size A n c xs/\∀a,A=X4 a->base<=a.block:=by
 rcases h.row with ⟨rfl,rfl,l⟩ | ⟨g,cap,rfl,b,h1,h2,f,hr⟩
 . obtain rfl:xs=[]:=by simpa using l
   exact⟨X5,0,rfl,gC.nil _ _,λ_ e=>by cases e⟩
 exact⟨_,cap,rfl,⟨k,λi x j=>⟨_,rfl,f,hr i _ (by simp[j])⟩,by omega,h2,by omega,d⟩,λa e=>by cases e;exact b⟩
end
def xE(n:Nat)(v:aj)(w:ak):Prop:=∃A cap,v=.slice A (digs 65536 n).length cap/\gC w w.heap.size A (digs 65536 n).length cap (digs 65536 n)
def aqQ(n k:Nat)(v:aj)(w:ak):Prop:=∃A cap os,v=.slice A os.length cap/\gC w w.heap.size A os.length cap os/\val 65536 os=n/\os.length<=k
def xE.of_trim{b:Nat}{A:Option Addr}(h:gC w b A k cap xs)(a:val 65536 xs=n):xE n (.slice A (trim xs).length cap) w:=by
 have e:trim xs=digs 65536 n:=pZ (by omega) h.digs a;refine⟨A,cap,by rw[e],?_⟩;rw[<-e];have:=(h.take (trim xs).length).here;rwa [<-kJ] at this
def xE.self{b:Nat}{A:Option Addr}(h:gC w b A k cap xs)(t:gZ xs):xE (val 65536 xs) (.slice A k cap) w:=by
 have e:xs=digs 65536 (val 65536 xs):=by rw[<-pZ (by omega) h.digs rfl,t]
 refine⟨A,cap,by rw[h.eq,<-e],?_⟩;rw[<-e,<-h.eq];exact h.here
def Vy(n:Nat):di n (my .i64 0)=(di n 0).map sK:=by simp[sK]
def Jo{i d:Nat}(a:i<os.length):over (os.map sK) i [sK d]=(os.set i d).map sK:=by
 simp only[over,ic];apply fz;intro j;rcases ow j i with h | h | h
 . rw[c_ (by simp;omega),c_ (by simp;omega)]
   simp[h,lo (Nat.ne_of_gt h)]
 . subst h
   rw[c_ (by simp;omega),dm (by simp;omega)];have e:j-min j os.length=0:=by omega
   simp[a,e]
 rw[dm (by simp;omega)]
 simp only[aq,bj,cj,ic,dl,fi];rw[lo (by omega)]
 congr 2
 omega
def fQ.digit{g:Nat}{t:ba}(h:fQ w g (os.map sK) t){i:Nat}(a:i<os.length):w.cell? ⟨g,i,X5⟩=X4 (X6 ((os[i]:Nat):Int)) :=
 h.cell (by simp[a])
def iZ(n:Nat):val 65536 (digs 65536 n)=n:=sD (by omega) n
def Dj(n:Nat):gZ (digs 65536 n):=pY (by omega) n
def ab4(n:Nat):eS 65536 (digs 65536 n):=uP (by omega) n
def Jp{m:Nat}(h:m<=n):(digs 65536 m).length<=(digs 65536 n).length:=by
 refine kX (by omega) (oo h ?_);have:=Gz (ab4 n);rwa [iZ] at this
def yA{V:Nat}(h:V<2^k):(digs 65536 V).length<=k:=by
 refine kX (by omega) (gw h ?_);rw[show (65536:Nat)=2^16 from rfl,<-pk];exact jz (by omega) (by omega)
section
variable {P:bt} {ds:List ej} {l:List aj} {T ty:ba}
variable {ops:Array Oper} {Q:Exit->Act->ak->Prop} {rest:List Oper} {d:Nat} {pos:String} {after:Array Edge} {w:ak}
end
theorem Ak{os xs ys:List Nat}{i c s:Nat}(d:os.length=i)(g:val 65536 os+65536^i*c=val 65536 (xs.take i)+val 65536 (ys.take i))(b:eS 65536 os)
 (hs:s=c+xs[i]?.getD 0+ys[i]?.getD 0) :
 val 65536 (os++[s%65536])+65536^(i+1)*(s / 65536)=val 65536 (xs.take (i+1))+val 65536 (ys.take (i+1))/\eS 65536 (os++[s%65536]):=by
 refine⟨?_,b.append (xT (lh _ (by omega)) (mV _))⟩;have a:∀l:List Nat,val 65536 (l.take (i+1))=val 65536 (l.take i)+65536^i*l[i]?.getD 0:=λl=>by
  rcases eh i l.length with h | h
  .rw[eL h,am h];rfl
  rw[au (by omega),au h,cg h];simp
 rw[a xs,a ys,kP,d];simp only[val,lq,ka];have e:s=s%65536+65536*(s / 65536):=by omega
 rw[jn];generalize s / 65536=q at *
 generalize s%65536=r at *
 generalize 65536^i=p at *
 generalize xs[i]?.getD 0=x at *
 generalize ys[i]?.getD 0=y at *
 subst hs;have f:p*(c+x+y)=p*r+p*65536*q:=by rw[e];grind
 grind
theorem wO{os xs ys:List Nat}{i c s b:Nat}(d:i<xs.length)(e:os.length=i)(k:val 65536 os+val 65536 (ys.take i)=val 65536 (xs.take i)+65536^i*c)(a:eS 65536 os)
 (hs:s+ys[i]?.getD 0+c=xs[i]+65536*b) (g:s<65536) :
 val 65536 (os++[s])+val 65536 (ys.take (i+1))=val 65536 (xs.take (i+1))+65536^(i+1)*b/\eS 65536 (os++[s]):=by
 refine⟨?_,a.append (xT g (mV _))⟩;have f:val 65536 (ys.take (i+1))=val 65536 (ys.take i)+65536^i*ys[i]?.getD 0:=by
  rcases eh i ys.length with h | h
  .rw[eL h,am h];rfl
  rw[au (by omega),au h,cg h];simp
 rw[f,eL d,kP,e];simp only[val,lq,ka];rw[jn];generalize 65536^i=p at *
 generalize ys[i]?.getD 0=y at *
 generalize xs[i]=x at *
 have j:p*(s+y+c)=p*x+p*65536*b:=by rw[hs];grind
 grind
def ahn{c:Nat}(e:ys.length<=xs.length)(b:os.length=xs.length)(a:eS 65536 os)(d:val 65536 os+val 65536 (ys.take xs.length)=val 65536 (xs.take xs.length)+65536^xs.length*c)(f:val 65536 ys<=val 65536 xs):val 65536 os=val 65536 xs-val 65536 ys:=by
 rw[fq,au e] at d;have h1:=Gz a;rw[b] at h1;rcases ji c with h | h
 .subst h;omega
 have:65536^xs.length*1<=65536^xs.length*c:=lc _ h
 omega
theorem aec{os:List Nat}{i d c a s t T:Nat}(b:i<os.length)(hs:os[i]+s+c=d+65536*a)(f:val 65536 os+65536^i*c=T)(g:T+65536^i*s=t) :
 val 65536 (os.set i d)+65536^(i+1)*a=t:=by
 have h:=wJ (B:=65536) (d:=d) b;rw[jn];generalize 65536^i=p at *
 have e:p*(os[i]+s+c)=p*d+p*65536*a:=by rw[hs];grind
 grind
theorem ab5{os xs ys:List Nat}{i k c s:Nat}(d:i<xs.length)(a:k<ys.length)(e:os.length=xs.length+ys.length)(b:val 65536 os+65536^(i+k)*c=val 65536 (xs.take i)*val 65536 ys+65536^i*(xs[i]*val 65536 (ys.take k)))
 (hs:s=os[i+k]+xs[i]*ys[k]+c):val 65536 (os.set (i+k) (s%65536))+65536^(i+(k+1))*(s / 65536)=val 65536 (xs.take i)*val 65536 ys+65536^i*(xs[i]*val 65536 (ys.take (k+1))):=by
 refine aec (s:=xs[i]*ys[k]) (i:=i+k) (by omega) (by omega) b ?_;rw[eL a,pj]
 grind
theorem aho{os xs ys:List Nat}{i c:Nat}(a:i<xs.length)(j:os.length=xs.length+ys.length)(b:val 65536 os+65536^(i+ys.length)*c=val 65536 (xs.take i)*val 65536 ys+65536^i*(xs[i]*val 65536 (ys.take ys.length)))(e:os.drop (i+ys.length)=di (xs.length-i) 0) :
 val 65536 (os.set (i+ys.length) c)=val 65536 (xs.take (i+1))*val 65536 ys/\(os.set (i+ys.length) c).drop (i+1+ys.length)=di (xs.length-(i+1)) 0:=by
 obtain⟨f,g⟩:=oE e (by omega);have h:=wJ (B:=65536) (d:=c) (show i+ys.length<os.length by omega);rw[f] at h;rw[fq] at b;refine⟨?_,?_⟩
 . rw[eL a]
   grind
 rw[show i+1+ys.length=i+ys.length+1 by omega,rR,g]
 congr 1
def ab6{x y:Nat}(a:x<65536)(b:y<65536):x*y<=4294836225:=by
 have:=lz (nl a) (nl b);omega
def ahp{x y:Nat}(a:x<65536)(b:y<65536):(0:Int)<=(x:Int)*(y:Int)/\(x:Int)*(y:Int)<=4294836225:=by
 have:=ab6 a b;rw[<-mw];omega
def ab7(b:eS 65536 xs)(e:0<k)(c:k-1<xs.length)(d:k-1<ys.length)(a:xs.drop k=ys.drop k)(h:((xs[k-1]:Nat):Int)<((ys[k-1]:Nat):Int)):val 65536 xs<val 65536 ys :=
 Gi (by omega) b c d (by rw[show k-1+1=k by omega];exact a) (by omega)
def ajs(d:0<k)(b:k-1<xs.length)(c:k-1<ys.length)(a:xs.drop k=ys.drop k)(h1:((xs[k-1]:Nat):Int)=((ys[k-1]:Nat):Int)):xs.drop (k-1)=ys.drop (k-1):=by
 rw[fj b,fj c,show k-1+1=k by omega,a,show xs[k-1]=ys[k-1] by omega]
def aqR(k:Nat):(65536:Nat)^k=256^(2*k):=by rw[show (65536:Nat)=256^2 from rfl,<-pk]
theorem Jq{os bs:List Nat}{k d:Nat}(c:os.length=k)(g:val 65536 os=val 256 (bs.take (2*k)))(h:2*k<bs.length)(b:d=bs[2*k]+256*(bs[2*k+1]?.getD 0))(a:eS 256 bs)(e:eS 65536 os) :
 val 65536 (os++[d])=val 256 (bs.take (2*(k+1)))/\eS 65536 (os++[d]):=by
 have h1:=a _ (gj h);have h2:bs[2*k+1]?.getD 0<256:=by
  rcases eh (2*k+1) bs.length with h | h
  .rw[am h];exact a _ (gj h)
  rw[cg h];decide
 refine⟨?_,e.append (xT (by omega) (mV _))⟩;have f:val 256 (bs.take (2*k+1+1))=val 256 (bs.take (2*k+1))+256^(2*k+1)*bs[2*k+1]?.getD 0:=by
  rcases eh (2*k+1) bs.length with h | h
  .rw[eL h,am h];rfl
  rw[au (by omega),au h,cg h];simp
 rw[show 2*(k+1)=2*k+1+1 by omega,f,eL h,kP,c,g,aqR,jn];simp only[val,lq,ka];subst b;generalize 256^(2*k)=p
 grind
def wb2(x:Nat):List UInt8:=[fa (x / 256),fa x]
def Sf(ys:List Nat)(h:eS 65536 ys):val 256 (((ys.reverse.flatMap wb2).reverse).map jq)=val 65536 ys/\eS 256 (((ys.reverse.flatMap wb2).reverse).map jq):=by
 induction ys with
 | nil=>exact⟨rfl,λ_ h=>by cases h⟩
 | cons y ys ih =>
  have d:=h y (by simp);obtain⟨b,c⟩:=ih (λx a=>h x (by simp[a]));have e:(((y::ys).reverse.flatMap wb2).reverse).map jq=[y%256,y / 256%256]++(((ys.reverse.flatMap wb2).reverse).map jq):=by
   simp[aw,wb2,jy]
  rw[e];refine⟨?_,?_⟩
  . rw[kP,b]
    simp only[val,ay,bm];omega
  refine eS.append ?_ c
  intro x a;simp at a;omega
def ab8(h:eS 65536 ys)(neg:Bool):nS (iW (ys.reverse.flatMap wb2))=eC (Vs neg (val 65536 ys)):=by
 obtain⟨h1,h2⟩:=Sf ys h;rw[Od,pZ (by omega) h2 h1,eC,He,mO];rfl
def oL(ys:List Nat)(k:Nat):List UInt8:=iW ((ys.drop k).reverse.flatMap wb2)
def aaw{l m:List UInt8}(h:iW l≠[]):iW (l++m)=iW l++m:=by
 induction l with
 | nil=>exact Z8 rfl h
 | cons b l ih =>
  by_cases a:b=0
  . subst a
    have e:iW (0::l)=iW l:=by simp[iW]
    have c:iW ((0::l)++m)=iW (l++m):=by simp[iW]
    rw[e] at h;rw[e,c,ih h]
  simp[iW,a]
def aee(b:0<k)(a:k-1<ys.length)(h:oL ys k≠[]):oL ys (k-1)=oL ys k++[fa (ys[k-1] / 256)]++[fa (ys[k-1]%256)]/\oL ys (k-1)≠[]:=by
 have e:oL ys (k-1)=oL ys k++[fa (ys[k-1] / 256)]++[fa (ys[k-1]%256)]:=by
  unfold oL at *
  rw[fj a,show k-1+1=k by omega,qn,aw,aaw h];have:fa (ys[k-1]%256)=fa (ys[k-1]):=by
   apply oh.1;simp[jy]
  rw[this];simp[wb2]
 exact⟨e,by rw[e];simp⟩
def ab9{ys:List Nat}(f:ys.length-1<ys.length)(i:0<ys[ys.length-1])(k:ys[ys.length-1]<65536) :
 oL ys (ys.length-1)=(if 256<=ys[ys.length-1] then [fa (ys[ys.length-1] / 256)] else [])++[fa (ys[ys.length-1]%256)]/\oL ys (ys.length-1)≠[]:=by
 have e:oL ys (ys.length-1)=iW (wb2 (ys[ys.length-1])):=by
  unfold oL;rw[fj f,show ys.length-1+1=ys.length by omega,me];simp
 generalize ys[ys.length-1]=x at *
 have d:fa (x%256)=fa x:=by
  apply oh.1;simp[jy]
 have a:∀y:Nat,y<256->(fa y=0↔y=0):=λy j=>by
  rw[<-oh];simp only[jy,UInt8.toNat_zero];rw[lg (by omega)]
 have c:iW (wb2 x)=(if 256<=x then [fa (x / 256)] else [])++[fa (x%256)]:=by
  split
  . rename_i h
    have b:¬fa (x / 256)=0:=λe=>by have:=(a _ (by omega)).1 e;omega
    rw[d];simp[iW,wb2,b]
  rename_i h
  have g:fa (x / 256)=0:=(a _ (by omega)).2 (by omega);have b:¬fa x=0:=λe=>by have:=(a _ (by omega)).1 e;omega
  rw[d];simp[iW,wb2,g,b]
 exact⟨e.trans c,by rw[e,c];simp⟩
def Xr(ys:List Nat):oL ys ys.length=[]:=by unfold oL;rw[me];rfl
def aef(h:eS 65536 ys)(neg:Bool):nS (oL ys 0)=eC (Vs neg (val 65536 ys)):=by
 unfold oL;rw[nt];exact ab8 h neg
def ahq(ys:List Nat)(k:Nat):(oL ys k).length<=2*ys.length:=by
 have h1:∀l:List UInt8,(iW l).length<=l.length:=λl=>by
  induction l with
  | nil=>simp[iW]
  | cons b l ih =>
   unfold iW at *
   rw[od];split
   .simp;omega
   simp
 have h2:∀l:List Nat,(l.flatMap wb2).length=2*l.length:=λl=>by
  induction l with
  | nil=>rfl
  | cons x l ih=>rw[bx,aq,ih];simp[wb2];omega
 refine be (h1 _) ?_;rw[h2];simp;omega
def Dk{x:Nat}(h:x<256):IntKind.u8.wrap (x:Int)=(x:Int):=afD (by omega) (by omega)
theorem Sg{os:List Nat}{m V:Nat}(f:val 65536 os+65536^os.length*m=V)(a:eS 65536 os)(h2:m<2^(64-os.length))(c:os.length<=64)(b:0<m) :
 val 65536 (os++[m%65536])+65536^(os++[m%65536]).length*(m / 65536)=V/\eS 65536 (os++[m%65536])/\m / 65536<2^(64-(os++[m%65536]).length)/\(os++[m%65536]).length<=64:=by
 have d:os.length<64:=by
  rcases eh os.length 64 with h | h
  .exact h
  rw[show 64-os.length=0 by omega] at h2;omega
 refine⟨?_,a.append (xT (lh _ (by omega)) (mV _)),?_,by simp;omega⟩
 . rw[kP,aq,ic,jn]
   simp only[val,lq,ka];have e:m=m%65536+65536*(m / 65536):=by omega
   generalize m / 65536=q at *
   generalize m%65536=r at *
   generalize 65536^os.length=p at *
   subst e
   grind
 rw[aq,ic]
 have e:2^(64-os.length)=2*2^(64-(os.length+1)):=by rw[<-Nat.pow_succ'];congr 1;omega
 rw[e] at h2;omega
instance (a:Int):Decidable (rS a):=inferInstanceAs (Decidable (_/\_))
/-! ### What CheckOpen says -/
def aca(h:fO Z ts=0):Br ts/\(aX ts).Nodup:=by
 unfold fO at h;split at h
 .cases h
 rename_i h1
 split at h
 .cases h
 rename_i h2
 refine⟨λt b=>?_,?_⟩
 . cases a:xB t with
   | false=>rfl
   | true=>exact Z8 (et.2 ⟨t,b,a⟩) h1
 rw[Jl] at h2
 exact Decidable.not_not.1 λk=>h2 (Y0 k)
def auc(t:T3):List E3:=[(t.a,t.b),(t.b,t.c),(t.c,t.a)]
def nd_of(h:xB t=X3):t.nd=Z:=by
 obtain⟨h1,h2,a⟩:=aqO h;simp[T3.nd,h1,h2,a]
/-! ### One far move -/
end
end Go.Lith
