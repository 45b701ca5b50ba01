/-
 Texts of one claim, laid together: Ext, Ops, Ops2, Upd, Held, Tree, Fresh, Fresh2, Ops4, Nat, Nat2, Nat3, Nat4, Nat5, Nat6, Eq, Nat7, Nat8, Ops3, Nat9, Nat10, Nat11, Nat12, Geo, Geo2, Geo3, Geo4, Geo5, Own, Al, Mem, Round, Grow, Pts, Guard, Geo6, Open, Surf, Surf2, Lat, Chk, Nest, Hr.
-/
import Derived.WalkKit
import Derived.StillTail
import Derived.Deep.Quiet
import Derived.BigQuiet
import Derived.Laws.Rows
import Derived.Laws.IdiomCopy
import Derived.Laws.CopyRow
import Derived.OrdersHeld
import Derived.Laws.StructEq
import Derived.ChangeKeysEq
import Derived.Laws.IdiomStrings
import Derived.Laws.BytesArg
import Derived.RangeFuncBox
import Derived.RangeFuncLeaves
import Derived.LoopN
import Derived.RangeFuncNested
import Derived.OrdersIn
import Derived.RangeFuncCalls
import Derived.Sort.Grow
import Derived.Deep.Draws
import Derived.OpenShut
import Derived.Lib.SmallJoins
import Derived.Deep.Slices
import Derived.Sort.LoopGhostIn
import Derived.LoopNIn
open Int renaming toNat_natCast->ab,fdiv_eq_ediv_of_nonneg->gl,natCast_mul->la,gcd->ml,ofNat_tdiv->no,tdiv_eq_ediv_of_nonneg->np,tmod_eq_emod_of_nonneg->nq,neg_neg->ot,lt_trichotomy->oz,natAbs_tdiv->pi,tdiv_neg->qg,ofNat_tmod->qj,neg_tdiv->qo,neg_tmod->qp,not_lt->qw
open Nat renaming zero_add->ae,le_trans->ay,lt_of_lt_of_le->bc,le_refl->bg,mul_one->bi,zero_le->bm,min_eq_left->de,lt_or_ge->ej,eq_zero_or_pos->et,mul_le_mul_left->fp,pow_le_pow_right->fq,lt_of_le_of_lt->fr,mul_le_mul_right->ft,pow_succ->gd,add_zero->gi,add_mul->gw,add_sub_cancel->g_,mul_comm->iw,mul_zero->ja,mul_le_mul->jd,div_lt_iff_lt_mul->jr,div_le_self->jt,mod_lt->kd,le_mul_of_pos_left->kf,pow_add->kh,mul_add->ki,pow_pos->kj,one_mul->kl,mod_eq_of_lt->kp,add_comm->lh,lt_of_mul_lt_mul_right->ll,add_sub_cancel_left->ma,two_pow_pos->mr,div_add_mod->mx,mul_lt_mul_of_pos_right->ni,le_sub_one_of_lt->nk,lt_of_mul_lt_mul_left->n_,add_assoc->od,exists_eq_add_of_le->ou,lt_trichotomy->oy,pow_succ'->pf,pow_mul->pg,mul_assoc->pv
open List renaming getElem?_eq_getElem->ah,mem_of_getElem?->ak,take_of_length_le->ap,flatMap_append->au,getElem?_eq_some_iff->av,set_cons_succ->e,set_cons_zero->ax,length_append->a_,length_take->bf,length_cons->bh,mem_cons->bl,replicate->bn,mem_cons_of_mem->br,mem_cons_self->bv,mem_append->bz,pairwise_cons->b_,mem_singleton->cr,getElem?_eq_none->ct,nil_append->cv,flatMap_cons->da,getElem?_append_left->db,getElem?_map->dc,map_cons->df,append_assoc->di,getElem?_append_right->dj,getElem?_drop->dn,mem_map->du,drop_eq_getElem_cons->dw,cons_append->dx,length_drop->ef,toList_toArray->eo,eq_of_mem_replicate->ep,getElem?_take->fa,eq_nil_of_length_eq_zero->fd,getElem_mem->fe,mem_flatMap->ff,mem_map_of_mem->fg,range->fh,take_append_drop->fi,not_mem_nil->fk,drop_of_length_le->fl,append_nil->fw,ext_getElem?->fy,take_length->ga,mem_of_mem_take->gj,pairwise_append->gm,mem_append_right->gv,size_toArray->gy,take_succ_cons->ic,filter_cons->ii,any_eq_true->il,take_zero->im,mem_or_eq_of_mem_set->iv,take_add_one->jb,mem_range->jc,mem_append_left->jf,getElem?_set->jm,all_eq_true->jy,drop_append->jz,length_replicate->km,mem_of_mem_drop->kq,drop_zero->kv,map_congr_left->lf,getElem_of_mem->lg,getElem_set_self->lp,foldl_cons->lq,getElem?_set_ne->lx,foldl_append->ly,getElem_set_ne->lz,takeWhile_cons->l_,getElem?_toArray->mz,take_append->ny,pairwise_iff_getElem->oa,all_cons->oe,nodup_cons->og,drop_drop->ox,nil_sublist->qd,take_take->qk
open Go renaming Value->am,World->an,TypeId->ba,wpList->be,Program->B,Operand->cw,wpQuiet->c_,run_underlying->dg,Deferred->d_,execOp->eh
open Go.Oper renaming mk->cj,quietAt->mf,wp->nt,upon->po,semAt->qn
open Bool renaming and_eq_true->ck,not_false->ik,not_eq_true'->ip,not_true->iq,false_or->li
open Option renaming getD_some->dt,isSome_iff_exists->fb,map_some->fu,some->me
open BitVec renaming ofInt->el,toNat_ofInt->pq
open UInt8 renaming ofNat->eu,toNat->jo,toNat_ofNat'->jv,toNat_inj->oh
open Array renaming getElem?_eq_some_iff->fx,getElem?_eq_getElem->ie,replicate->ig,getElem?_eq_none->mj,getD_eq_getD_getElem?->nh,setIfInBounds_comm->oc,range->pu,ext'->qf,map->qr,ext->qt
open Prod.mk renaming injEq->iy
open Option.some renaming injEq->jn
open Rat renaming divInt->kg
open Go.IntKind renaming signed->lk,wrap->mg,bits->mi
open List.cons renaming injEq->ph
set_option linter.unusedSimpArgs false
set_option linter.defProp false
set_option linter.unusedVariables false
set_option linter.unusedSectionVars false
open Bool renaming true->N,false->X7
open Option renaming some->H,none->X8
namespace Go
def Z9:=@if_pos
def K0:=@if_neg
def Y0:=@absurd
def Y1:=@congrArg
def Y2:=@decide_eq_true_eq
def Y3:=@or_false
def Y4:=@if_true
def Y5:=@decide_eq_true
def Y6:=@decide_eq_false
def Y7:=@decide_eq_false_iff_not
def Y8:=@and_true
def Y9:=@of_decide_eq_true
def X0:=@if_false
def X1:=@exists_congr
def X2:=@propext
def X3:=@inferInstance
def X4:=@and_assoc
def X5:=@of_decide_eq_false
def X6:=@true_and
abbrev U:=Value.int .i64
end Go
def O{α:Sort _}{a:α}:a=a:=rfl
namespace Go.Lith
section
open Go.RowKit
variable{w w':an}{g n i:Nat}{cs l:List am}{t T:ba}{a:Addr}{c:Bool}{f:FuncId}{fn:Func}{x:cw}{r:ResultVar}{op:Op}
def eR(w w':an):Prop:=Below w.heap.size w w'
def eR.refl(w:an):eR w w:=Below.refl _ _
def eR.size(h:eR w w'):w.heap.size<=w'.heap.size:=Below.size h
def eR.trans{a b c:an}(h:eR a b)(k:eR b c):eR a c:=Below.trans h (Below.mono k h.size)
def eR.drawn{w w':an}(h:eR w w'):eR w { w' with drawn:=w'.drawn+1 }:=Below.drew h
def eR.alloc(h:eR w w')(o:Obj):eR w (w'.alloc o):=Below.alloc h h.size o
def eR.block(h:eR w w'){k:Nat}{o:Obj}(a:w.heap[k]? = H o):w'.heap[k]? = H o:=
 (Below.block h k (fx.1 a).1).trans a
def eR.cell(h:eR w w'){p:Addr}{v:am}(a:w.cell? p=H v):w'.cell? p=H v:=
 (Below.cell h (World.block_lt_of_cell? _ _ a)).trans a
section
variable{P:B}{ops:Array Oper}{md:Region.Mode}{C:an->Prop}
def Nu(P:B)(md:Region.Mode)(ops:Array Oper)(C:an->Prop)(n:Nat)(L:Array Bool->Act->Prop):Nat->Array Bool->Act->Prop
 |0,b,a=>L b a
 |f+1,b,a=>
  Region.ready md ops b≠[]/\∀i∈Region.ready md ops b,i<n/\qOp P ops C i (Nu P md ops C n L f (b.setIfInBounds i N)) a
def Av{n g:Nat}{L:Array Bool->Act->Prop}{Q':Exit->Act->an->Prop}(d:∀b a,L b a->∀w,C w->wpAny P md ops Q' g b a w) :
 ∀(f:Nat)(b:Array Bool)(a:Act)(w:an),C w->Nu P md ops C n L f b a->wpAny P md ops Q' (f+g) b a w
 |0,b,a,w,c,h=>by rw[ae];exact d _ _ h w c
 |f+1,b,a,w,c,h=>by
  rw[show f+1+g=(f+g)+1 by omega];exact⟨λk=>Y0 k h.1,λi l=>wpOp_of_qOp c (λe w' m j=>Av d f _ e w' m j) (h.2 i l).2⟩
def Vx{n i:Nat}{q:Oper}{v:am}{L:Array Bool->Act->Prop}(x:ops[i]? = H q)(I:∀(j:Nat) (o:Oper) cs b,ops[j]? = H o->o.op≠.select cs b)
 (D:Region.sinkB md ops n=N) (A:Region.chainB md ops n=N) (B:n<ops.size) (E:i<n)
 (Z:∀c a,L c a->∀j∈Region.ready md ops c,n<=j) :
 ∀(f:Nat)(c:Array Bool)(a:Act),HeadInv md ops n c ->
  (∀j m,ops[j]? = H m->j≠i->c.getD j N=X7->(∀e∈m.after,Region.binds md e=N->e.on≠i)->q.apart ops m=N) ->
  i∈Region.ready md ops c->YieldsIn P ops C q v a ->
  Nu P md ops C n L f (c.setIfInBounds i N) (a.put q.dst v)->Nu P md ops C n L (f+1) c a:=by
 intro f
 induction f with
 |zero=>
  intro c a w _ d t r;have p:=(mem_ready.1 d).1;refine⟨λh=>(by rw[h] at d;cases d),λj l=>?_⟩;have u:j<n:=by
   rcases ej j n with h|h
   .exact h
   exact Y0 l (tail_waits D A B w _ i O E p j h)
  refine⟨u,?_⟩;by_cases g:j=i
  .subst g;exact t.qOp x r
  have:=Z _ _ r j (ready_mono l g)
  omega
 |succ f ih=>
  intro c a w J d t r;have p:=(mem_ready.1 d).1;refine⟨λh=>(by rw[h] at d;cases d),λj l=>?_⟩;have u:j<n:=by
   rcases ej j n with h|h
   .exact h
   exact Y0 l (tail_waits D A B w _ i O E p j h)
  refine⟨u,?_⟩;by_cases g:j=i
  .subst g;exact t.qOp x r
  have s:=(r.2 j (ready_mono l g)).2
  obtain⟨G,m,y,X⟩:=mem_ready.1 l;have Y:∀e∈m.after,Region.binds md e=N->e.on≠i:=λe S Q U=>by
   have s:=X e S Q;rw[U,getD_both p] at s;cases s
  have M:=qOp_put y (J j m y g G Y) (λcs b=>I i q cs b x) (λcs b=>I j m cs b y) t s;have aa:∀k ok,ops[k]? = H ok->k≠i->(c.setIfInBounds j N).getD k N=X7 ->
   (∀e∈ok.after,Region.binds md e=N->e.on≠i)->q.apart ops ok=N:=λk ok T V p W=>by
   refine J k ok T V ?_ W;by_cases F:j=k
   .subst F;exact G
   rw[getD_set_ne N F] at p;exact p
  refine qOp_mono (λK z=>ih (c.setIfInBounds j N) K (w.set l u) aa (ready_mono d (Ne.symm g)) z.1 ?_) M;rw[oc _ _ g];exact z.2
def Nv{n g:Nat}{f:Act->Prop}(w:Region.noSelect ops=N)(r:Region.sinkB md ops n=N)(m:Region.chainB md ops n=N)(q:n<ops.size) :
 ∀(l:List Oper)(k:Nat)(b:Array Bool)(a:Act),(∀j,j<l.length->l[j]? = ops[k+j]?)->k+l.length=n->HeadInv md ops n b ->
 Region.lexHead md ops g l.length k b=N->c_ P ops C f l a ->
 Nu P md ops C n (λx i=>Region.seqB md ops g n x=N/\f i) l.length b a
 | [],k,b,a,_,e,_,d,h=>by
  have:k=n:=by simpa using e
  subst this;exact⟨by simpa[Region.lexHead] using d,h⟩
 |o::l,k,b,a,p,e,u,d,h=>by
  have c:ops[k]? = H o:=by simpa using (p 0 (by simp)).symm
  simp only[bh,Region.lexHead,ck] at d;obtain⟨⟨B,A⟩,E⟩:=d;have s:k<n:=by simp only[bh] at e;omega
  have t:k∈Region.ready md ops b:=by simpa using B
  have F:qOp P ops C k (c_ P ops C f l) a:=by unfold qOp;simp only[c];exact h
  obtain⟨v,D,y⟩:=yieldsIn_of_qOp c F;exact Vx c (Region.noSelect_spec w) r m q s (λx i z=>seqB_ready z.1) l.length b a u (Region.free_spec c A) t D
   (Nv w r m q l (k+1) _ _ (λj G=>by have:=p (j+1) (by simp;omega);simpa[od,lh 1 j] using this) (by simp only[bh] at e;omega) (u.set t s) E y)
def rM{id:Nat}{Q:Exit->Act->an->Prop}{a:Act}{w:an}{l:List Oper}(n:Nat)(r:P.follows .mixedOrders=N)(d:Region.lexTailB .any l.toArray n=N)
 (p:C { w with drawn:=w.drawn+1 })
 (h:c_ P l.toArray C (λc=>∀w',C w'->be P l.toArray Q (l.drop n) c w') (l.take n) a):(Code.region id l.toArray N).wp P Q a w:=by
 simp only[Region.lexTailB,ck,Y2] at d;obtain⟨⟨⟨⟨z,k⟩,s⟩,q⟩,y⟩:=d;have E:n<l.length:=by simpa using k
 have b:(l.take n).length=n:=by simp;omega
 have m:(l.drop n).length=l.toArray.size-n:=by simp
 have A:HeadInv .any l.toArray n (ig l.toArray.size X7):=
  ⟨by simp,λj D _ i=>(by rw[getD_replicate_false] at i;cases i),λt _ u=>getD_in (by simpa using u) (getD_replicate_false _ _)⟩
 have o:=Nv (md:=.any) (g:=l.toArray.size-n) z s q k (l.take n) 0 _ a (λj f=>by
  have v:j<n:=by rw[b] at f;exact f
  simp[v]) (by simpa using b) A (by rw[b];exact y) h
 refine wp_region_any r ?_;have:=Av (Q':=Q) (g:=l.toArray.size-n) (λB c e w' x=>by
  have:=wpAny_of_seq (md:=.any) (Q':=Q) (l.drop n) n B c w' (λj=>by simp[dn]) (by rw[m];exact e.1) (e.2 w' x);rwa [m] at this) _ _ _ _ p o
 rw[b,show n+(l.toArray.size-n)=l.toArray.size by omega] at this;exact this
def Sk{id:Nat}{Q:Exit->Act->an->Prop}{a:Act}{w:an}{l:List Oper}(d:P.follows .mixedOrders=N)(c:Region.lexB .any l.toArray=N)
 (h:c_ P l.toArray (eR w) (λb=>∀w',eR w w'->Q .normal b w') l a):(Code.region id l.toArray N).wp P Q a w:=
 wp_region_quiet (C:=eR w) d c (eR.refl w).drawn (by simpa using h)
def Vy(md:Region.Mode)(ops:Array Oper):List (Nat×Bool)->Array Bool->Bool
 | [],a=>(Region.ready md ops a).isEmpty
 |(i,N)::r,a=>(ops[i]?).isSome&&Region.free md ops a i&&(Region.ready md ops a).contains i&&Vy md ops r (a.setIfInBounds i N)
 |(i,X7)::r,a=>(ops[i]?).isSome&&decide (Region.ready md ops a=[i])&&Vy md ops r (a.setIfInBounds i N)
def fS(P:B)(ops:Array Oper)(Q:Exit->Act->an->Prop):List (Oper×Bool)->Act->an->Prop
 | [],a,w=>Q .normal a w
 |(o,N)::r,a,w=>∃v,Yields P ops o v a/\fS P ops Q r (a.put o.dst v) w
 |(o,X7)::r,a,w=>be P ops (Exit.then (fS P ops Q r) Q) [o] a w
end
abbrev Fr(l:List am)(ds:List d_:=[]):Act:={ tmps:=l.toArray,defers:=ds }
def fQ(w:an)(g:Nat)(cs:List am)(t:ba):Prop:=w.heap[g]? = H (.cells cs.toArray t (0,0))
structure Chg(w w':an)(g:Nat):Prop where
 os:w'.os=w.os
 tape:w'.tape=w.tape
 output:w'.output=w.output
 size:w'.heap.size=w.heap.size
 block:∀k,k≠g->w'.heap[k]? = w.heap[k]?
def iX(w:an)(a:Addr)(cs:List am):Prop:=∀j u,cs[j]? = H u->w.cell? (a.add j)=H u
def fQ.lt(h:fQ w g cs t):g<w.heap.size:=(fx.1 h).1
def fQ.ext(h:fQ w g cs t)(a:eR w w'):fQ w' g cs t:=a.block h
def fQ.chg{a:Nat}(h:fQ w g cs t)(b:Chg w w' a)(c:g≠a):fQ w' g cs t:=(b.block g c).trans h
def eR.chg{w0:an}(h:eR w0 w)(a:Chg w w' g)(c:w0.heap.size<=g):eR w0 w':=
 ⟨a.os.trans h.os,a.tape.trans h.tape,a.output.trans h.output,by rw[a.size];exact h.size,λk b=>(a.block k (by omega)).trans (Below.block h k b)⟩
def iX.ext(h:iX w a cs)(b:eR w w'):iX w' a cs:=λj u c=>b.cell (h j u c)
theorem cA(g off j:Nat):(⟨g,off,X8⟩:Addr).add j=⟨g,off+j,X8⟩:=by unfold Addr.add;split<;>simp_all
def gQ(a:Addr)(i j:Nat):(a.add i).add j=a.add (i+j):=by
 unfold Addr.add;by_cases b:i=0<;>by_cases c:j=0<;>simp[b,c,od]
def fQ.row(h:fQ w g cs t)(off:Nat):iX w ⟨g,off,X8⟩ (cs.drop off):=by
 intro j u a;rw[cA,cell_of_row w g (off+j) cs.toArray t (0,0) h];simpa[dn] using a
def iX.sub(h:iX w a cs)(i:Nat):iX w (a.add i) (cs.drop i):=by
 intro j u b;rw[gQ];exact h (i+j) u (by simpa[dn] using b)
def iX.take(h:iX w a cs)(n:Nat):iX w a (cs.take n):=by
 intro j u b;refine h j u ?_;rw[fa] at b;split at b
 .exact b
 cases b
section
variable{P:B}{ds:List d_}{l:List am}
theorem anD(t:Nat):(Fr l).eval (.tmp t)=l.getD t undef:=by
 show l.toArray.getD t undef=_
 simp[Array.getD,List.getD];split<;>simp_all
def jO{ds:List d_}:(Fr l ds).eval=(Fr l).eval:=rfl
def iK{ds:List d_}(d:Nat)(v:am):(Fr l ds).put (H d) v=Fr (l.set d v) ds:=by simp[Act.put,Fr]
def dW(P:B)(T:ba)(n:Nat):Prop:=∃a,P.info? T=H a/\a.size=n
def oB(P:B)(T:ba)(z:am):Prop:=∃a,P.info? T=H a/\a.zero=H z
def Cs:TypeDesc->Bool
 |.struct _|.array _ _=>N
 |_=>X7
def fG(P:B)(T:ba)(b:Bool):Prop:=∃a,P.underlying T=H a/\Cs a=b
def dL(h:(P.info? T).map (·.size)=H n):dW P T n:=by
 cases a:P.info? T with
 |none=>rw[a] at h;cases h
 |some i=>rw[a] at h;exact⟨i,a,by simpa using h⟩
def iQ{z:am}(h:(P.info? T).bind (·.zero)=H z):oB P T z:=by
 cases a:P.info? T with
 |none=>rw[a] at h;cases h
 |some i=>rw[a] at h;exact⟨i,a,by simpa using h⟩
def dS{b:Bool}(a:TypeDesc)(h:P.underlying T=H a)(c:Cs a=b):fG P T b:=⟨a,h,c⟩
def ev(l:List am):cw->am
 |.tmp t=>l.getD t undef
 |.const v=>v
 |.global g=>.pointer (H ⟨g,0,X8⟩)
 |.func f=>.func (.func f) #[] #[]
def cJ(t:Nat):ev l (.tmp t)=l.getD t undef:=rfl
def bL(v:am):ev l (.const v)=v:=rfl
def bZ(f:Nat):ev l (.func f)=.func (.func f) #[] #[]:=rfl
def dM(x:cw):(Fr l).eval x=ev l x:=by
 cases x with
 |tmp t=>exact anD t
 |const=>rfl
 |global=>rfl
 |func=>rfl
def Eo(P:B)(l:List am)(op:Op)(ty:ba)(v:am)(w:an):Prop:=
 ∀o:Oper,o.op=op->o.type=ty->(eh (Fr l).eval o).run P w=.ok (.value v) w
def gX(P:B)(l:List am)(op:Op)(ty:ba)(v:am):Prop:=∀w,Eo P l op ty v w
section
variable{ops:Array Oper}{Q:Exit->Act->an->Prop}{w:an}{rest:List Oper}{d:Nat}{op:Op}{ty:ba}{pos:String}{after:Array Edge}{v:am}
def pV(b:Eo P l op ty v w)(h:be P ops Q rest (Fr (l.set d v) ds) w):be P ops Q (cj (H d) op ty pos after X8::rest) (Fr l ds) w:=by
 refine wpList_plain O λK a=>?_;unfold nt;rw[jO,b _ rfl rfl];show K ((Fr l ds).put (H d) v) w
 rw[iK];exact a _ _ h
def aA(a:gX P l op ty v)(h:be P ops Q rest (Fr (l.set d v) ds) w):be P ops Q (cj (H d) op ty pos after X8::rest) (Fr l ds) w:=pV (a w) h
def S(h:Q .normal (Fr l ds) w):be P ops Q [] (Fr l ds) w:=h
def bQ{j:Nat}{b:Bool}(a:yielded ops l.toArray j=H b)(h:be P ops Q (cj (H d) op ty pos after X8::rest) (Fr l ds) w):be P ops Q (cj (H d) op ty pos after (H (j,b))::rest) (Fr l ds) w:=by
 unfold be at h ⊢;rw[Z9 (by simp[Region.wanted])] at h;rw[Z9 (by simp[Region.wanted,a])];exact h
def age{j:Nat}{b:Bool}(a:yielded ops l.toArray j=H c)(e:(c == b)=X7)(h:be P ops Q rest (Fr (l.set d undef) ds) w):be P ops Q (cj (H d) op ty pos after (H (j,b))::rest) (Fr l ds) w:=by
 unfold be;rw[K0 (by simp[Region.wanted,a];simpa using e)];show be P ops Q rest ((Fr l ds).put (H d) undef) w
 rw[iK];exact h
def eF{j:Nat}(a:yielded ops l.toArray j=H X7)(h:be P ops Q rest (Fr (l.set d undef) ds) w):be P ops Q (cj (H d) op ty pos after (H (j,N))::rest) (Fr l ds) w:=age a rfl h
def dB{j:Nat}(a:yielded ops l.toArray j=H N)(h:be P ops Q rest (Fr (l.set d undef) ds) w):be P ops Q (cj (H d) op ty pos after (H (j,X7))::rest) (Fr l ds) w:=age a rfl h
def eP{j:Nat}{b:Bool}(a:yielded ops l.toArray j=X8)(h:be P ops Q rest (Fr (l.set d undef) ds) w):be P ops Q (cj (H d) op ty pos after (H (j,b))::rest) (Fr l ds) w:=by
 unfold be;rw[K0 (by simp[Region.wanted,a])];show be P ops Q rest ((Fr l ds).put (H d) undef) w
 rw[iK];exact h
end
section
variable{ops:Array Oper}{Q:Act->Prop}{C:an->Prop}{rest:List Oper}{d:Nat}{op:Op}{ty:ba}{pos:String}{after:Array Edge}{v:am}
def Ep(b:∀w,C w->Eo P l op ty v w)(h:c_ P ops C Q rest (Fr (l.set d v) ds)):c_ P ops C Q (cj (H d) op ty pos after X8::rest) (Fr l ds):=by
 refine wpQuiet_step λK a=>?_;rw[Z9 (by simp[Region.wanted])];refine⟨v,λw c=>?_,?_⟩
 . unfold mf
   rw[jO,b w c _ rfl rfl];exact⟨O,O⟩
 show K ((Fr l ds).put (H d) v)
 rw[iK];exact a _ h
def aK(a:gX P l op ty v)(h:c_ P ops C Q rest (Fr (l.set d v) ds)):c_ P ops C Q (cj (H d) op ty pos after X8::rest) (Fr l ds):=Ep (λw _=>a w) h
def bD(h:Q (Fr l ds)):c_ P ops C Q [] (Fr l ds):=h
def bU{j:Nat}{b:Bool}(a:yielded ops l.toArray j=H b)(h:c_ P ops C Q (cj (H d) op ty pos after X8::rest) (Fr l ds)):c_ P ops C Q (cj (H d) op ty pos after (H (j,b))::rest) (Fr l ds):=by
 unfold c_ at h ⊢;rw[Z9 (by simp[Region.wanted])] at h;rw[Z9 (by simp[Region.wanted,a])];exact h
def agf{j:Nat}{b:Bool}(a:yielded ops l.toArray j=H c)(e:(c == b)=X7)(h:c_ P ops C Q rest (Fr (l.set d undef) ds)):c_ P ops C Q (cj (H d) op ty pos after (H (j,b))::rest) (Fr l ds):=by
 unfold c_;rw[K0 (by simp[Region.wanted,a];simpa using e)];show c_ P ops C Q rest ((Fr l ds).put (H d) undef)
 rw[iK];exact h
def dY{j:Nat}(a:yielded ops l.toArray j=H X7)(h:c_ P ops C Q rest (Fr (l.set d undef) ds)):c_ P ops C Q (cj (H d) op ty pos after (H (j,N))::rest) (Fr l ds):=agf a rfl h
def oX{j:Nat}(a:yielded ops l.toArray j=H N)(h:c_ P ops C Q rest (Fr (l.set d undef) ds)):c_ P ops C Q (cj (H d) op ty pos after (H (j,X7))::rest) (Fr l ds):=agf a rfl h
end
/-! ### Values -/
section
variable{x y:cw}{T T' ty:ba}{k:IntKind}{m n r:Int}
def aF:gX P l (.move x) ty (ev l x):=λw o a _=>by simp[eh,a,dM]
def aI:gX P l (.assign x) ty (ev l x):=λw o a _=>by simp[eh,a,dM]
def Vz{c:cw}{b:Bool}(a:ev l c=.bool b):gX P l (.pick c x y) ty (if b then ev l x else ev l y):=λw o d _=>by
 simp[eh,d,dM,a,asBool]
def eH(c:ev l x=.int k m)(d:ev l y=.int k n)(b:k.wrap (m+n)=r):gX P l (.binOp .add T x y T') ty (.int k r):=λw o a _=>by
 simp[eh,a,dM,c,d,eqGuard,binOp,Op.intArith,b]
def pW(c:ev l x=.int k m)(d:ev l y=.int k n)(b:k.wrap (m-n)=r):gX P l (.binOp .sub T x y T') ty (.int k r):=λw o a _=>by
 simp[eh,a,dM,c,d,eqGuard,binOp,Op.intArith,b]
def lT(c:ev l x=.int k m)(d:ev l y=.int k n)(b:k.wrap (m*n)=r):gX P l (.binOp .mul T x y T') ty (.int k r):=λw o a _=>by
 simp[eh,a,dM,c,d,eqGuard,binOp,Op.intArith,b]
def oJ(b:ev l x=.int k m)(c:ev l y=.int k n):gX P l (.binOp .lss T x y T') ty (.bool (decide (m<n))):=λw o a _=>by
 simp[eh,a,dM,b,c,eqGuard,binOp,Op.intCmp]
def Aw(b:ev l x=.int k m)(c:ev l y=.int k n):gX P l (.binOp .leq T x y T') ty (.bool (decide (m<=n))):=λw o a _=>by
 simp[eh,a,dM,b,c,eqGuard,binOp,Op.intCmp]
def Tp(b:ev l x=.int k m)(c:ev l y=.int k n):gX P l (.binOp .gtr T x y T') ty (.bool (decide (n<m))):=λw o a _=>by
 simp[eh,a,dM,b,c,eqGuard,binOp,Op.intCmp]
def zY(b:ev l x=.int k m)(c:ev l y=.int k n):gX P l (.binOp .geq T x y T') ty (.bool (decide (n<=m))):=λw o a _=>by
 simp[eh,a,dM,b,c,eqGuard,binOp,Op.intCmp]
theorem Ld(b:ev l x=.int k m)(c:ev l y=.int k n):gX P l (.binOp .eql T x y T') ty (.bool (decide (m=n))):=λw o a _=>by
 simp[eh,a,dM,b,c,eqGuard,binOp,Op.intCmp];cases h:(m == n)<;>simp_all
theorem sS(b:ev l x=.int k m)(c:ev l y=.int k n):gX P l (.binOp .neq T x y T') ty (.bool (decide (m≠n))):=λw o a _=>by
 simp[eh,a,dM,b,c,eqGuard,binOp,Op.intCmp];cases h:(m != n)<;>simp_all
def gL(d:ev l x=.int k m)(e:ev l y=.int k n)(a:n≠0)(c:k.wrap (m.tdiv n)=r):gX P l (.binOp .quo T x y T') ty (.int k r):=λw o b _=>by
 simp[eh,b,dM,d,e,eqGuard,binOp,Op.intDiv,a,c]
def cS(d:ev l x=.int k m)(e:ev l y=.int k n)(a:n≠0)(c:m.tmod n=r):gX P l (.binOp .rem T x y T') ty (.int k r):=λw o b _=>by
 simp[eh,b,dM,d,e,eqGuard,binOp,Op.intDiv,a,c]
def mD(c:ev l x=.int k m)(d:ev l y=.int k n)(b:k.wrap ((el k.bits m &&& el k.bits n).toNat:Int)=r):gX P l (.binOp .and T x y T') ty (.int k r):=λw o a _=>by
 subst b;simp[eh,a,dM,c,d,eqGuard,binOp,Op.intBits]
def abU(c:ev l x=.int k m)(d:ev l y=.int k n)(b:k.wrap ((el k.bits m ||| el k.bits n).toNat:Int)=r):gX P l (.binOp .or T x y T') ty (.int k r):=λw o a _=>by
 subst b;simp[eh,a,dM,c,d,eqGuard,binOp,Op.intBits]
def mW{f:IntKind}(d:ev l x=.int k m)(e:ev l y=.int f n)(a:0<=n)(c:k.wrap (m*2^(min n.toNat k.bits))=r):gX P l (.binOp .shl T x y T') ty (.int k r):=λw o b _=>by
 subst c;simp[eh,b,dM,d,e,eqGuard,binOp,Op.shift,qw.2 a]
def lH{f:IntKind}(d:ev l x=.int k m)(e:ev l y=.int f n)(a:0<=n)(c:m.fdiv (2^(min n.toNat k.bits))=r):gX P l (.binOp .shr T x y T') ty (.int k r):=λw o b _=>by
 subst c;simp[eh,b,dM,d,e,eqGuard,binOp,Op.shift,qw.2 a]
def sT{b:Bool}(c:ev l x=.bool b):gX P l (.unOp .not T x) ty (.bool (!b)):=λw o a _=>by
 simp[eh,a,dM,c,Op.unary]
def sU(c:ev l x=.int k m)(b:k.wrap (0-m)=r):gX P l (.unOp .neg T x) ty (.int k r):=λw o a _=>by
 subst b;simp[eh,a,dM,c,Op.unary,Op.intArith]
def iU(b:P.underlying T'=H (.int k)){g:IntKind}{a:TypeDesc}(e:P.underlying T=H a)(f:ev l x=.int g m)(d:k.wrap m=r):gX P l (.convert T T' x) ty (.int k r):=λw o c _=>by
 subst d;simp[eh,c,dM,f,convert,dg e,dg b,Conv.intToInt]
def dU{vs:Array am}{v:am}(c:ev l x=.tuple vs)(a:vs[i]? = H v):gX P l (.extract x i) ty v:=λw o b _=>by
 simp[eh,b,dM,c,Instr.extract,a]
def lX{fn:Fn}{first a:Array cw}:gX P l (.makeFunc fn first a) ty (.func fn (first.map (ev l)) (a.map (ev l))):=λw o b _=>by
 have e:(Fr l).eval=ev l:=funext dM;simp[eh,b,e,Instr.makeFunc]
def iL{E:ba}{A:Option Addr}{n c:Nat}{a0:Array ba}(a:a0 = #[T])(d:P.underlying T=H (.slice E))(e:ev l x=.slice A n c):gX P l (.call { callee:=.builtin .len,args:=#[x],argTypes:=a0 }) ty (U n):=λw o b _=>by
 subst a;simp[eh,b,resolve,invoke,builtin,Builtin.len_,dM,e,dg d,goInt]
def tP{s:ByteArray}{a0:Array ba}(a:a0 = #[T])(c:P.underlying T=H .string)(d:ev l x=.string s):gX P l (.call { callee:=.builtin .len,args:=#[x],argTypes:=a0 }) ty (U s.size):=λw o b _=>by
 subst a;simp[eh,b,resolve,invoke,builtin,Builtin.len_,dM,d,dg c,goInt]
def adn{a0:Array ba}(c:ev l x=.int k m)(d:ev l y=.int k n)(b:(if n<m then n else m)=r):gX P l (.call { callee:=.builtin .min,args:=#[x,y],argTypes:=a0 }) ty (.int k r):=λw o a _=>by
 subst b;simp[eh,a,resolve,invoke,builtin,Builtin.min_,Builtin.min2,dM,c,d]
def sV{a0:Array ba}(c:ev l x=.int k m)(d:ev l y=.int k n)(b:(if m<n then n else m)=r):gX P l (.call { callee:=.builtin .max,args:=#[x,y],argTypes:=a0 }) ty (.int k r):=λw o a _=>by
 subst b;simp[eh,a,resolve,invoke,builtin,Builtin.max_,Builtin.max2,dM,c,d]
end
/-! ### Addresses -/
section
variable{x y:cw}{T T' ty:ba}{k:IntKind}{m n r:Int}
def aO{fs:Array Field}{i c:Nat}{f:Field}{a b:Addr}(k:P.underlying T=H (.struct fs))(g:fs[i]? = H f)(e:dW P f.type (c+1))(m:ev l x=.pointer (H a))(d:a.add f.offset=b) :
 gX P l (.fieldAddr T x i) ty (.pointer (H b)):=λw o j _=>by
 subst d;obtain⟨p,h,q⟩:=e;have n:¬p.size=0:=by omega
 simp[eh,j,dM,m,Instr.fieldAt,dg k,g,Instr.sureAddr,fieldPlace,sizeOf,typeInfo,h,n]
def aR{E:ba}{len:Nat}{c:Nat}{a b:Addr}(j:P.underlying T=H (.array len E))(g:dW P E c)(n:ev l x=.pointer (H a))(p:ev l y=.int k m)(d:0<=m)(e:m<len)(f:a.add (m.toNat*c)=b) :
 gX P l (.indexAddr T x y) ty (.pointer (H b)):=λw o i _=>by
 subst f;obtain⟨q,h,rfl⟩:=g;simp[eh,i,dM,n,p,Instr.indexAt,asIntOf,dg j,Instr.sureAddr,sizeOf,typeInfo,h,d,e]
def aN{E:ba}{len cap:Nat}{c:Nat}{a b:Addr}(j:P.underlying T=H (.slice E))(g:dW P E c)(n:ev l x=.slice (H a) len cap)(p:ev l y=.int k m)(d:0<=m)(e:m<len)(f:a.add (m.toNat*c)=b) :
 gX P l (.indexAddr T x y) ty (.pointer (H b)):=λw o i _=>by
 subst f;obtain⟨q,h,rfl⟩:=g;simp[eh,i,dM,n,p,Instr.indexAt,asIntOf,dg j,sizeOf,typeInfo,h,d,e]
end
/-! ### Memory -/
section
variable{x y:cw}{T T' ty:ba}{w:an}
def eZ(P:B)(w:an)(T:ba)(a:Addr)(v:am):Prop:=(loadVar T a).run P w=.ok v w
theorem iX.lies{cs:List am}(h:iX w a cs)(c:fG P T N)(d:dW P T cs.length):eZ P w T a (.agg cs.toArray):=by
 obtain⟨b,i,m⟩:=c;obtain⟨n,e,g⟩:=d;have f:=run_loadCells_list (P:=P) w a cs (λj v k=>h j v k);have l:(isAgg T).run P w=.ok N w:=by
  unfold isAgg;rw[Sem.run_bind,dg i w];cases b<;>simp_all [Cs]
 unfold eZ;simp[loadVar,Sem.run_bind,l,sizeOf,typeInfo,e,g,f]
theorem lies1{v:am}(h:w.cell? a=H v)(c:fG P T X7):eZ P w T a v:=by
 obtain⟨b,d,f⟩:=c;have e:(isAgg T).run P w=.ok X7 w:=by
  unfold isAgg;rw[Sem.run_bind,dg d w];cases b<;>simp_all [Cs]
 unfold eZ;simp[loadVar,Sem.run_bind,e,load,Sem.run,h]
def fQ.cell{cs:List am}{t:ba}(h:fQ w g cs t){v:am}(a:cs[i]? = H v):w.cell? ⟨g,i,X8⟩=H v:=by
 rw[cell_of_row w g i cs.toArray t (0,0) h];simpa using a
def fQ.lies1{cs:List am}{t:ba}{v:am}(h:fQ w g cs t)(a:fG P T X7)(b:cs[i]? = H v):eZ P w T ⟨g,i,X8⟩ v:=Lith.lies1 (h.cell b) a
def fQ.lies{cs us:List am}{t:ba}(h:fQ w g cs t)(a:fG P T N)(b:dW P T n)(d:(cs.drop i).take n=us)(c:us.length=n):eZ P w T ⟨g,i,X8⟩ (.agg us.toArray):=by
 subst d;exact ((h.row i).take n).lies a (by rw[c];exact b)
def cT{v:am}(d:ev l x=.pointer (H a))(b:eZ P w T a v):Eo P l (.load T x) ty v w:=λo c _=>by
 unfold eZ at b;simp[eh,c,dM,d,Instr.loadAt,Instr.sureAddr,b]
variable{ops:Array Oper}{Q:Exit->Act->an->Prop}{rest:List Oper}{d:Nat}{op:Op}{pos:String}{after:Array Edge}{v:am}
def bA(c:ev l x=.pointer (H a))(b:eZ P w T a v)(h:be P ops Q rest (Fr (l.set d v) ds) w):be P ops Q (cj (H d) (.load T x) ty pos after X8::rest) (Fr l ds) w:=
 pV (cT c b) h
def Wa{w':an}(b:∀o:Oper,o.op=op->(eh (Fr l).eval o).run P w=.ok .skip w')(h:be P ops Q rest (Fr l ds) w'):be P ops Q (cj X8 op ty pos after X8::rest) (Fr l ds) w:=by
 refine wpList_plain O λK a=>?_;unfold nt;rw[jO,b _ rfl];exact a _ _ h
def pC{w':an}(b:∀o:Oper,o.op=op->o.type=ty->(eh (Fr l).eval o).run P w=.ok (.value v) w')(h:be P ops Q rest (Fr (l.set d v) ds) w'):be P ops Q (cj (H d) op ty pos after X8::rest) (Fr l ds) w:=by
 refine wpList_plain O λK a=>?_;unfold nt;rw[jO,b _ rfl rfl];show K ((Fr l ds).put (H d) v) w'
 rw[iK];exact a _ _ h
def kM(w:an)(cs:List am)(t:ba):fQ (w.alloc (.cells cs.toArray t)) w.heap.size cs t:=heap_alloc_new w _
def zZ{cs:List am}(b:(ev l x).cells=cs.toArray)(h:∀w' g,eR w w'->w.heap.size<=g->fQ w' g cs T->be P ops Q rest (Fr (l.set d (.pointer (H ⟨g,0,X8⟩))) ds) w') :
 be P ops Q (cj (H d) (.box T x) ty pos after X8::rest) (Fr l ds) w:=
 pC (w':=w.alloc (.cells cs.toArray T)) (v:=.pointer (H ⟨w.heap.size,0,X8⟩)) (λo a _=>by simp[eh,a,dM,Instr.box,newVar,newRow,b,newObj,Sem.run]) (h _ _ ((eR.refl w).alloc _) (bg _) (kM w cs T))
def kX{cs:List am}{z:am}(a:oB P T z)(e:z.cells=cs.toArray)(h:∀w' g,eR w w'->w.heap.size<=g->fQ w' g cs T->be P ops Q rest (Fr (l.set d (.pointer (H ⟨g,0,X8⟩))) ds) w') :
 be P ops Q (cj (H d) (.alloc T) ty pos after X8::rest) (Fr l ds) w:=by
 obtain⟨i,b,f⟩:=a;exact pC (w':=w.alloc (.cells cs.toArray T)) (v:=.pointer (H ⟨w.heap.size,0,X8⟩)) (λo c _=>by simp[eh,c,Instr.alloc,zeroValue,typeInfo,b,f,newVar,newRow,e,newObj,Sem.run]) (h _ _ ((eR.refl w).alloc _) (bg _) (kM w cs T))
def over(cs:List am)(off:Nat)(us:List am):List am:=cs.take off++us++cs.drop (off+us.length)
def uS{cs us:List am}{off:Nat}(h:off+us.length<=cs.length):(over cs off us).length=cs.length:=by simp[over];omega
def xH(w:an)(g:Nat)(cs:Array am):Chg w (w.setRow g cs) g:=⟨rfl,rfl,rfl,by simp,λk a=>setRow_other w g k cs a⟩
def Gh{g off:Nat}{cs us:List am}{t:ba}(d:dW P T us.length)(h:v.cells=us.toArray)(c:fQ w g cs t)(i:off+us.length<=cs.length)(b:∀u∈us,u.oneCell'=N) :
 (storeVar T ⟨g,off,X8⟩ v).run P w=.ok () (w.setRow g (over cs off us).toArray):=by
 obtain⟨j,e,f⟩:=d;have a:=run_storeCells_at P g off t us 0 cs.toArray w c (by simpa using i) b;simp only[gi,eo] at a;simp[storeVar,h,sizeOf,typeInfo,e,f,a,over]
def kH{g off:Nat}{cs us:List am}{t:ba}(f:ev l x=.pointer (H ⟨g,off,X8⟩))(e:(ev l y).cells=us.toArray)(c:dW P T us.length)(a:fQ w g cs t)(i:off+us.length<=cs.length)(b:∀u∈us,u.oneCell'=N)
 (h:∀w',Chg w w' g->fQ w' g (over cs off us) t->be P ops Q rest (Fr l ds) w'):be P ops Q (cj X8 (.store T x y) ty pos after X8::rest) (Fr l ds) w:=
 Wa (w':=w.setRow g (over cs off us).toArray) (λo d=>by simp[eh,d,dM,f,Instr.storeAt,Instr.sureAddr,Gh c e a i b]) (h _ (xH w g _) (setRow_heap w g cs.toArray _ t _ a))
/-! ### Calls -/
def Entr(P:B)(f:FuncId):Prop:=∃fn,P.funcs[f]? = H fn/\(fn.name == "runtime.NumGoroutine")=X7/\fn.body.isNone=X7
def bP{P:B}(h:P.funcs[f]? = H fn) (a:(!(fn.name == "runtime.NumGoroutine") && !fn.body.isNone)=N):Entr P f:=by
 simp only[ck,ip] at a;exact⟨fn,h,a.1,a.2⟩
def cX(P:B)(f:FuncId)(args:List am)(w:an)(R:am->an->Prop):Prop:=
 Entr P f/\Calls P f args.toArray w λe w'=>∃v,e=.returned v/\eR w w'/\R v w'
def dO(P:B)(f:FuncId)(args:List am)(v:am):Prop:=∀w,cX P f args w λu _=>u=v
def cX.mono{args:List am}{R a:am->an->Prop}(h:cX P f args w R)(e:∀v w',eR w w'->R v w'->a v w'):cX P f args w a:=
 ⟨h.1,h.2.mono λ_ _ ⟨v,d,b,c⟩=>⟨v,d,b,e _ _ b c⟩⟩
def xI{args:Array am}(h:Entr P f):(callFunc f args).run P w=.ok (.enter f args) w:=by
 obtain⟨fn,b,c,a⟩:=h;have e:¬fn.name = "runtime.NumGoroutine" := by simpa using c
 have d:¬fn.body=X8:=by intro h;rw[h] at a;cases a
 simp[callFunc,b,e,d]
def pX{f:FuncId}{a:cw}{xs:Array cw}{args:List am}{first cap:Array am}{a0:Array ba}(h:Entr P f)(c:ev l a=.func (.func f) first cap)(g:first.toList++xs.toList.map (ev l)++cap.toList=args)(o:Oper)(d:o.op=.call { callee:=.value a,args:=xs,argTypes:=a0 }) :
 (eh (Fr l).eval o).run P w=.ok (.enter f args.toArray) w:=by
 have e:(Fr l).eval=ev l:=funext dM;have b:args.toArray=first++xs.map (ev l)++cap:=by
  rw[<-g];apply qf;simp
 simp[eh,d,resolve,e,c,Deferred.ofValue,invoke,xI h,b]
def bB{f:FuncId}{a:cw}{xs:Array cw}{args:List am}{first cap:Array am}{a0:Array ba}{R:am->an->Prop}(j:ev l a=.func (.func f) first cap)(k:first.toList++xs.toList.map (ev l)++cap.toList=args)(b:cX P f args w R)
 (h:∀v w',eR w w'->R v w'->be P ops Q rest (Fr (l.set d v) ds) w'):be P ops Q (cj (H d) (.call { callee:=.value a,args:=xs,argTypes:=a0 }) ty pos after X8::rest) (Fr l ds) w:=by
 refine wpList_plain O λK g=>?_;unfold nt;rw[jO,pX b.1 j k _ rfl];refine b.2.mono ?_;rintro e w' ⟨v,rfl,c,i⟩;show K ((Fr l ds).put (H d) v) w'
 rw[iK];exact g _ _ (h v w' c i)
def oY{f:FuncId}{a:cw}{xs:Array cw}{args:List am}{first cap:Array am}{a0:Array ba}(g:ev l a=.func (.func f) first cap)(i:first.toList++xs.toList.map (ev l)++cap.toList=args)(e:dO P f args v)
 (h:∀w',eR w w'->be P ops Q rest (Fr (l.set d v) ds) w'):be P ops Q (cj (H d) (.call { callee:=.value a,args:=xs,argTypes:=a0 }) ty pos after X8::rest) (Fr l ds) w:=
 bB g i (e w) λ_ w' b c=>c▸h w' b
end
section
variable{x y:cw}{T T' ty:ba}{w:an}
variable{ops:Array Oper}{Q:Act->Prop}{rest:List Oper}{d:Nat}{op:Op}{pos:String}{after:Array Edge}{v:am}
def Wb(e:ev l x=.pointer (H a))(c:∀w',eR w w'->eZ P w' T a v)(h:c_ P ops (eR w) Q rest (Fr (l.set d v) ds)):c_ P ops (eR w) Q (cj (H d) (.load T x) ty pos after X8::rest) (Fr l ds):=
 Ep (λ_ b=>cT e (c _ b)) h
def aku{f:FuncId}{b:cw}{xs:Array cw}{args:List am}{first cap:Array am}{a0:Array ba}(j:ev l b=.func (.func f) first cap)(k:first.toList++xs.toList.map (ev l)++cap.toList=args)(c:∀w',eR w w'->cX P f args w' λu _=>u=v)
 (h:c_ P ops (eR w) Q rest (Fr (l.set d v) ds)):c_ P ops (eR w) Q (cj (H d) (.call { callee:=.value b,args:=xs,argTypes:=a0 }) ty pos after X8::rest) (Fr l ds):=by
 refine wpQuiet_step λK i=>?_;rw[Z9 (by simp[Region.wanted])];refine⟨v,λw' a=>?_,?_⟩
 . unfold mf
   rw[jO,pX (c w' a).1 j k _ rfl];refine⟨O,(c w' a).2.mono ?_⟩;rintro e m ⟨u,rfl,g,rfl⟩;exact⟨O,a.trans g⟩
 show K ((Fr l ds).put (H d) v)
 rw[iK];exact i _ h
def Wc{f:FuncId}{a:cw}{xs:Array cw}{args:List am}{first cap:Array am}{a0:Array ba}(c:ev l a=.func (.func f) first cap)(e:first.toList++xs.toList.map (ev l)++cap.toList=args)(b:dO P f args v)
 (h:c_ P ops (eR w) Q rest (Fr (l.set d v) ds)):c_ P ops (eR w) Q (cj (H d) (.call { callee:=.value a,args:=xs,argTypes:=a0 }) ty pos after X8::rest) (Fr l ds):=
 aku c e (λw' _=>b w') h
end
/-! ### Code -/
section
variable{Q:Exit->Act->an->Prop}{w:an}{c c1 c2:Code}
def L{a:Act}(h:∀K:Act->an->Prop,(∀a w,c2.wp P Q a w->K a w)->c1.wp P (Exit.then K Q) a w):(Code.seq c1 c2).wp P Q a w:=wp_seq_k h
def iY{b:Bool}(d:ev l x=.bool b)(c:b=N->c1.wp P Q (Fr l ds) w)(a:b=X7->c2.wp P Q (Fr l ds) w):(Code.cond x c1 c2).wp P Q (Fr l ds) w:=
 wp_cond_split (by rw[jO,dM];exact d) c a
def aZ{p:Prop}[Decidable p](c:ev l x=.bool (decide p))(b:p->c1.wp P Q (Fr l ds) w)(a:¬p->c2.wp P Q (Fr l ds) w):(Code.cond x c1 c2).wp P Q (Fr l ds) w:=
 iY c (λh=>b (Y9 h)) (λh=>a (X5 h))
def mX(b:ev l x=.bool N)(a:c1.wp P Q (Fr l ds) w):(Code.cond x c1 c2).wp P Q (Fr l ds) w:=iY b (λ_=>a) (λh=>by cases h)
def Aj(b:ev l x=.bool X7)(a:c2.wp P Q (Fr l ds) w):(Code.cond x c1 c2).wp P Q (Fr l ds) w:=iY b (λh=>by cases h) (λ_=>a)
def Res(P:B)(l:List am)(w:an):ResultVar->am->Prop
 |.tmp t,v=>l.getD t undef=v
 |.cell t T,v=>∃a,l.getD t undef=.pointer (H a)/\eZ P w T a v
def tG{v:am}(h:Res P l w r v):(∃t,r=.tmp t/\l[t]?.getD undef=v)\/(∃t T a,r=.cell t T/\l[t]?.getD undef=.pointer (H a)/\(loadVar T a).run P w=.ok v w):=by
 cases r with
 |tmp t=>exact .inl ⟨t,rfl,by simpa[Res] using h⟩
 |cell t T=>
  obtain⟨a,b,c⟩:=h;exact .inr ⟨t,T,a,O,by simpa using b,c⟩
def aS{R:Ending->an->Prop}{v:am}(d:fn.results = #[r])(h:Res P l w r v)(c:R (.returned v) w):bodyPost P fn R .ret (Fr l) w:=by
 refine⟨O,v,?_,c⟩;unfold results;rw[d];rcases tG h with ⟨t,rfl,b⟩|⟨t,T,a,rfl,b,e⟩<;>simp[*,asAddr]
def kN{R:Ending->an->Prop}{b:ResultVar}{v v':am}(f:fn.results = #[r,b])(h:Res P l w r v)(c:Res P l w b v')(e:R (.returned (.tuple #[v,v'])) w):bodyPost P fn R .ret (Fr l) w:=by
 refine⟨O,_,?_,e⟩;unfold results;rw[f];rcases tG h with ⟨t,rfl,d⟩|⟨t,T,a,rfl,d,k⟩<;>rcases tG c with ⟨g,rfl,i⟩|⟨g,T',j,rfl,i,m⟩<;>simp[*,asAddr]
def ar6{R:Ending->an->Prop}{b c:ResultVar}{v v' d:am}(i:fn.results = #[r,b,c])(h:Res P l w r v)(e:Res P l w b v')(k:Res P l w c d)(g:R (.returned (.tuple #[v,v',d])) w):bodyPost P fn R .ret (Fr l) w:=by
 refine⟨O,_,?_,g⟩;unfold results;rw[i];rcases tG h with ⟨t,rfl,f⟩|⟨t,T,a,rfl,f,q⟩<;>rcases tG e with ⟨j,rfl,m⟩|⟨j,T',p,rfl,m,x⟩<;>rcases tG k with ⟨n,rfl,o⟩|⟨n,s,u,rfl,o,y⟩<;>simp[*,asAddr]
end
end
/-! ### Numbers,loops,further values -/
def bN{x:Int}(a : -9223372036854775808<=x)(b:x<9223372036854775808):IntKind.i64.wrap x=x:=by
 simp[mg,mi,lk];split<;>omega
def oK{x:Int}(a:0<=x)(b:x<18446744073709551616):IntKind.u64.wrap x=x:=by
 simp[mg,mi,lk];omega
def Zy{x:Int}(a:0<=x)(b:x<4294967296):IntKind.u32.wrap x=x:=by
 simp[mg,mi,lk];omega
def agh{x:Int}(a : -2147483648<=x)(b:x<2147483648):IntKind.i32.wrap x=x:=by
 simp[mg,mi,lk];split<;>omega
def ado{x:Int}(a:0<=x)(b:x<256):IntKind.u8.wrap x=x:=by
 simp[mg,mi,lk];omega
def eG:List am->List Nat->List am->List am
 |l,t::ts,v::vs=>eG (l.set t v) ts vs
 |l,_,_=>l
def Wd{t:Nat}{ts:List Nat}{v:am}{vs:List am}:eG l (t::ts) (v::vs)=eG (l.set t v) ts vs:=rfl
def Ax{vs:List am}:eG l [] vs=l:=by cases vs<;>rfl
def Zz{t:Nat}:l.set t (l.getD t undef)=l:=by
 apply fy;intro i;rw[jm];split
 . rename_i h;subst h
   split
   .rename_i h;simp[h]
   rename_i h;simp at h;simp[h]
 rfl
def pY:∀(ts:List Nat)(l:List am),eG l ts (ts.map (l.getD · undef))=l
 | [],l=>Ax
 |t::ts,l=>by
  simp only[df,Wd,Zz];exact pY ts l
def xJ{p:Nat->Prop}(h:∃n,p n):∃n,p n/\∀m,p m->n<=m:=by
 obtain⟨n,c⟩:=h
 induction n using Nat.strongRecOn with
 |_ n ih=>
  by_cases b:∃m,m<n/\p m
  .obtain⟨m,a,d⟩:=b;exact ih m a d
  exact⟨n,c,λm a=>Nat.le_of_not_lt λe=>b ⟨m,e,a⟩⟩
noncomputable def Nw(p:Nat->Prop)(h:∃n,p n):Nat:=(xJ h).choose
def aaa{p:Nat->Prop}(h:∃n,p n):p (Nw p h):=(xJ h).choose_spec.1
def aeD{p:Nat->Prop}(h:∃n,p n){m:Nat}(a:p m):Nw p h<=m:=(xJ h).choose_spec.2 m a
section
variable{P:B}{ds:List d_}{l:List am}
end
/-! ### Parts of values,slices,new slices -/
section
variable{P:B}{ds:List d_}{l:List am}{x y:cw}{T T' ty:ba}{k:IntKind}{m n r:Int}
theorem xK{b:Bool}(h:fG P T b)(w:an):(isAgg T).run P w=.ok b w:=by
 obtain⟨a,c,d⟩:=h;unfold isAgg;rw[Sem.run_bind,dg c w];cases a<;>simp_all [Cs]
def fO{c:Nat}(h:dW P T c)(w:an):(sizeOf T).run P w=.ok c w:=by
 obtain⟨b,a,rfl⟩:=h;simp[sizeOf,typeInfo,a]
def eT(cs:Array am):(Value.agg cs).cells=cs:=rfl
def iA{parts:Array (Nat×cw)}{vs:Array (Nat×am)}{v:am}(b:(parts.map λ(i,x)=>(i,ev l x))=vs)(h:∀w,(Instr.build T vs).run P w=.ok v w):gX P l (.build T parts) ty v:=λw o a _=>by
 have e:(Fr l).eval=ev l:=funext dM;subst b;simp only[eh,a,e];rw[Sem.run_bind,h w];rfl
def dP{fs:Array Field}{places:Array (Nat×Nat)}{z:am}{cells:Array am}{vs:Array (Nat×am)}(d:P.underlying T=H (.struct fs))(e:oB P T z)
 (g:∀w,(fs.mapM λf=>do pure (f.offset,<-sizeOf f.type):Sem (Array (Nat×Nat))).run P w=.ok places w) (b:Instr.fill (places[·]?) z.cells vs.toList=H cells) (w:an):(Instr.build T vs).run P w=.ok (.agg cells) w:=by
 obtain⟨h,c,a⟩:=e;simp only[Instr.build,zeroValue,typeInfo];simp[c,a,dg d];have:=g w;simp at this;simp[this,b]
def fT{E:ba}{n c:Nat}{z:am}{cells:Array am}{vs:Array (Nat×am)}(f:P.underlying T=H (.array n E))(g:oB P T z)(b:dW P E c)
 (d:Instr.fill (λi=>H (i*c,c)) z.cells vs.toList=H cells) (w:an):(Instr.build T vs).run P w=.ok (.agg cells) w:=by
 obtain⟨h,e,a⟩:=g;simp only[Instr.build,zeroValue,typeInfo];simp[e,a,dg f,fO b,d]
def agi{fs:Array Field}{i:Nat}{f:Field}{cs:Array am}{v:am}(d:P.underlying T=H (.struct fs))(b:fs[i]? = H f)(a:fG P f.type X7)(g:ev l x=.agg cs)(e:cs[f.offset]? = H v) :
 gX P l (.field T x i) ty v:=λw o c _=>by
 simp[eh,c,dM,g,Instr.field,dg d,b,asAgg,part,xK a,e]
def agj{fs:Array Field}{i c:Nat}{f:Field}{cs us:Array am}(g:P.underlying T=H (.struct fs))(d:fs[i]? = H f)(a:fG P f.type N)(b:dW P f.type c)(j:ev l x=.agg cs)(h:cs.extract f.offset (f.offset+c)=us) :
 gX P l (.field T x i) ty (.agg us):=λw o e _=>by
 subst h;simp[eh,e,dM,j,Instr.field,dg g,d,asAgg,part,xK a,fO b]
def kB{E:ba}{len c:Nat}{cs:Array am}{v:am}(g:P.underlying T=H (.array len E))(d:fG P E X7)(e:dW P E c)(i:ev l x=.agg cs)(j:ev l y=.int k m)(a:0<=m)(b:m<len)(h:cs[m.toNat*c]? = H v) :
 gX P l (.index T x y) ty v:=λw o f _=>by
 simp[eh,f,dM,i,j,Instr.index,asIntOf,dg g,a,b,part,xK d,fO e,h]
def wI{E:ba}{len c:Nat}{cs us:Array am}(g:P.underlying T=H (.array len E))(d:fG P E N)(e:dW P E c)(i:ev l x=.agg cs)(j:ev l y=.int k m)(a:0<=m)(b:m<len)(h:cs.extract (m.toNat*c) (m.toNat*c+c)=us) :
 gX P l (.index T x y) ty (.agg us):=λw o f _=>by
 subst h;simp[eh,f,dM,i,j,Instr.index,asIntOf,dg g,a,b,part,xK d,fO e]
def pD{s:ByteArray}{b:UInt8}(e:P.underlying T=H .string)(f:ev l x=.string s)(g:ev l y=.int k m)(a:0<=m)(c:s[m.toNat]? = H b) :
 gX P l (.index T x y) ty (.int .u8 b.toNat):=λw o d _=>by
 simp[eh,d,dM,f,g,Instr.index,asIntOf,dg e,a,c]
def gR{E:ba}{A:Option Addr}{len cap c:Nat}(i:P.underlying T=H (.slice E))(f:dW P E c){q:Nat}(j:ev l x=.slice A len cap)(n:ev l y=.int k m)(h:m.toNat=q)(b:0<=m)(d:m<=cap) :
 gX P l (.slice T x X8 (H y) X8) ty (.slice A q cap):=λw o g _=>by
 subst h;have e:(if cap=0 then A else Option.map (λa=>a.add 0) A)=A:=by
  split
  .rfl
  cases A<;>simp[Addr.add]
 have p:¬(m.toNat:Int)>cap:=by omega
 simp[eh,g,dM,j,n,Instr.sliceAt,Instr.slice,Instr.sliceBounds,Instr.sliceBound,asIntOf,dg i,b,d,fO f];intro _;cases A<;>simp[Addr.add]
def gS{E:ba}{A a:Option Addr}{len cap c:Nat}(i:P.underlying T=H (.slice E))(f:dW P E c){q:Nat}(j:ev l x=.slice A len cap)(n:ev l y=.int k m)(h:m.toNat=q)(b:0<=m)(d:m<=len)(e:(if cap=q then A else A.map (·.add (q*c)))=a) :
 gX P l (.slice T x (H y) X8 X8) ty (.slice a (len-q) (cap-q)):=λw o g _=>by
 subst h;subst e;simp[eh,g,dM,j,n,Instr.sliceAt,Instr.slice,Instr.sliceBounds,Instr.sliceBound,asIntOf,dg i,b,d,fO f]
def Le{z:cw}{B:IntKind}{E:ba}{A a:Option Addr}{len cap c:Nat}(s:P.underlying T=H (.slice E))(j:dW P E c){q b:Nat}(t:ev l x=.slice A len cap)(u:ev l y=.int k m)(v:ev l z=.int B n)(r:m.toNat=q)(C:n.toNat=b)(f:0<=m)(g:m<=n)(h:n<=cap)(i:(if cap=q then A else A.map (·.add (q*c)))=a) :
 gX P l (.slice T x (H y) (H z) X8) ty (.slice a (b-q) (cap-q)):=λw o p _=>by
 subst r;subst C;subst i;have d:(0:Int)<=n:=by omega
 have e:m<=max n 0:=by omega
 simp[eh,p,dM,t,u,v,Instr.sliceAt,Instr.slice,Instr.sliceBounds,Instr.sliceBound,asIntOf,dg s,f,g,h,d,e,fO j]
def agk{s:ByteArray}(d:P.underlying T=H .string)(e:ev l x=.string s)(f:ev l y=.int k m)(a:0<=m)(b:m<=s.size) :
 gX P l (.slice T x (H y) X8 X8) ty (.string (s.extract m.toNat s.size)):=λw o c _=>by
 simp[eh,c,dM,e,f,Instr.sliceAt,Instr.slice,Instr.sliceBounds,Instr.sliceBound,asIntOf,dg d,a,b]
variable{ops:Array Oper}{Q:Exit->Act->an->Prop}{rest:List Oper}{d:Nat}{pos:String}{after:Array Edge}{w:an}
def jW{E:ba}{b:Nat}{j:IntKind}{z:am}(D:P.underlying T=H (.slice E))(a:(P.info? E).map (λi=>(i.size,i.bytes,i.zero))=H (1,b,H z))(J:z.cells = #[z]){q e:Nat}(F:ev l x=.int k m)(G:ev l y=.int j n)(c:m.toNat=q)(I:n.toNat=e)(t:0<=m)(u:m<=n)(B:n<=9223372036854775807)(v:(b:Int)*n<=281474976710656)
 (h:∀w' g,eR w w'->w.heap.size<=g->fQ w' g (bn e z) E->be P ops Q rest (Fr (l.set d (.slice (H ⟨g,0,X8⟩) q e)) ds) w') :
 be P ops Q (cj (H d) (.makeSlice T x y) ty pos after X8::rest) (Fr l ds) w:=by
 subst c;subst I;cases c:P.info? E with
 |none=>rw[c] at a;cases a
 |some i=>
  rw[c] at a;simp only[fu,jn,iy] at a;obtain⟨p,r,s⟩:=a;subst r;have f:=run_make (P:=P) w T E i z D c s k j m n t u v B;have A:madeCells z.cells (n.toNat*i.size)=(bn n.toNat z).toArray:=by
   rw[p,J,bi];apply qf;rw[toList_madeCells_one]
  rw[A] at f;exact pC (λo C _=>by simp[eh,C,dM,F,G,f]) (h _ _ ((eR.refl w).alloc _) (bg _) (kM w _ E))
def wJ(w:an)(base:Nat)(e:ba)(size:Nat)(v:am)(n:Nat)(xs:List am):Prop:=w.ownsRow base e size v n xs
structure Nx(w w':an)(base:Nat):Prop where
 os:w'.os=w.os
 tape:w'.tape=w.tape
 output:w'.output=w.output
 size:w.heap.size<=w'.heap.size
 block:∀k,k<base->w'.heap[k]? = w.heap[k]?
def Nx.refl(w:an)(base:Nat):Nx w w base:=⟨rfl,rfl,rfl,bg _,λ_ _=>rfl⟩
def eR.grew{w w':an}(h:eR w w'){base:Nat}(a:base<=w.heap.size):Nx w w' base:=⟨h.os,h.tape,h.output,h.size,λk b=>Below.block h k (by omega)⟩
def fQ.grew{w w':an}{g base:Nat}{cs:List am}{t:ba}(h:fQ w g cs t)(a:Nx w w' base)(b:g<base):fQ w' g cs t:=(a.block g b).trans h
def eR.grown{w0 w w':an}{base:Nat}(h:eR w0 w)(a:Nx w w' base)(c:w0.heap.size<=base):eR w0 w':=
 ⟨a.os.trans h.os,a.tape.trans h.tape,a.output.trans h.output,ay h.size a.size,λk b=>(a.block k (by omega)).trans (Below.block h k b)⟩
def abV{w:an}{base:Nat}{e:ba}{size:Nat}{v:am}{n:Nat}{xs:List am}(h:w.ownsRow base e size v n xs){w':an}(a:w.grownBy w' v.ownBlock)(c:base<=w.heap.size):Nx w w' base:=by
 refine⟨a.os,a.tape,a.output,a.size,λk d=>a.block k (by omega) λb=>?_⟩;rcases h.2 with ⟨rfl,_⟩|⟨g,cap,cur,rfl,f,_⟩
 .cases b
 simp[Value.ownBlock] at b
 omega
def wJ.row{w:an}{base:Nat}{e:ba}{size:Nat}{v:am}{n:Nat}{xs:List am}(h:wJ w base e size v n xs):(v=.slice X8 0 0/\n=0/\xs=[])\/∃g cap,v=.slice (H ⟨g,0,X8⟩) n cap/\base<=g/\n<=cap/\cap<=maxLen/\g<w.heap.size/\iX w ⟨g,0,X8⟩ xs:=by
 rcases h.2 with ⟨rfl,rfl⟩|⟨g,cap,cur,rfl,i,b,c,d,k,f⟩
 .exact .inl ⟨O,O,fd (by simpa using h.1)⟩
 refine .inr ⟨g,cap,O,i,c,d,(fx.1 b).1,λj u a=>?_⟩
 rw[cA,ae,cell_of_row w g j cur e (0,0) b];rw[<-f,fa] at a;split at a
 .simpa using a
 cases a
def aab{s0 j:cw}{base c b nn a cap:Nat}{E:ba}{z v:am}{xs news:List am}{f:Addr}{a0:Array ba}(r:a0 = #[T,T])(C:P.underlying T=H (.slice E))(e:(P.info? E).map (λi=>(i.size,i.bytes,i.zero))=H (c,b,H z))(F:z.cells.size=c)(s:0<c)
 (B:ev l s0=v) (k:wJ w base E c v nn xs) (D:ev l j=.slice (H f) a cap) (x:news.length=a*c) (I:iX w f news) (q:∀u∈news,u.oneCell'=N) (G:nn+a<=9223372036854775807) (J:(nn+a)*b<=140737488355328) (m:base<=w.heap.size)
 (h:∀v' w',wJ w' base E c v' (nn+a) (xs++news)->Nx w w' base->(v'=.slice X8 0 0↔v=.slice X8 0 0/\a=0)->be P ops Q rest (Fr (l.set d v') ds) w') :
 be P ops Q (cj (H d) (.call { callee:=.builtin .append,args:=#[s0,j],argTypes:=a0 }) ty pos after X8::rest) (Fr l ds) w:=by
 subst r;cases g:P.info? E with
 |none=>rw[g] at e;cases e
 |some i=>
  rw[g] at e;simp only[fu,jn,iy] at e;obtain⟨n,o,p⟩:=e;refine wpList_append_own w O s0 j T O base E i z c b C g p n o F s v nn xs (by rw[jO,dM];exact B) k f a cap news (by rw[jO,dM];exact D) x I q (by simpa[maxLen] using G) J m ?_;intro v' w' A t y;show be P ops Q rest ((Fr l ds).put (H d) v') w'
  rw[iK];exact h v' w' A (abV k t m) y
def aeE{s0 n:cw}{base c b nn cap:Nat}{E:ba}{z v:am}{xs:List am}{a0:Array ba}(q:a0 = #[T,T])(k:P.underlying T=H (.slice E))(e:(P.info? E).map (λi=>(i.size,i.bytes,i.zero))=H (c,b,H z))
 (j:ev l s0=v) (r:wJ w base E c v nn xs) (m:ev l n=.slice X8 0 cap)
 (h:be P ops Q rest (Fr (l.set d v) ds) w) :
 be P ops Q (cj (H d) (.call { callee:=.builtin .append,args:=#[s0,n],argTypes:=a0 }) ty pos after X8::rest) (Fr l ds) w:=by
 subst q;cases a:P.info? E with
 |none=>rw[a] at e;cases e
 |some i=>
  refine pC (w':=w) (λo f _=>?_) h;rcases r.2 with ⟨rfl,rfl⟩|⟨g,s,cur,rfl,A,y,p,t,u,x⟩
  .simp[eh,f,resolve,invoke,builtin,dM,j,m,Builtin.append_,dg k,sizeOf,typeInfo,a,Builtin.lenOf,Builtin.firstCells]
  simp[eh,f,resolve,invoke,builtin,dM,j,m,Builtin.append_,dg k,sizeOf,typeInfo,a,Builtin.lenOf,Builtin.firstCells,p,storeCells]
end
section
variable{P:B}{ds:List d_}{l:List am}{x y:cw}{T T' ty:ba}{k:IntKind}{m n r:Int}
def oC(a:ev l x=.int k m)(b:ev l y=.int k n)(h:m<n):gX P l (.binOp .lss T x y T') ty (.bool N):=by
 have:=oJ (P:=P) (T:=T) (T':=T') (ty:=ty) a b;rwa [Y5 h] at this
def vR(a:ev l x=.int k m)(b:ev l y=.int k n)(h:¬m<n):gX P l (.binOp .lss T x y T') ty (.bool X7):=by
 have:=oJ (P:=P) (T:=T) (T':=T') (ty:=ty) a b;rwa [Y6 h] at this
def anE(a:ev l x=.int k m)(b:ev l y=.int k n)(h:m<=n):gX P l (.binOp .leq T x y T') ty (.bool N):=by
 have:=Aw (P:=P) (T:=T) (T':=T') (ty:=ty) a b;rwa [Y5 h] at this
def anF(a:ev l x=.int k m)(b:ev l y=.int k n)(h:¬m<=n):gX P l (.binOp .leq T x y T') ty (.bool X7):=by
 have:=Aw (P:=P) (T:=T) (T':=T') (ty:=ty) a b;rwa [Y6 h] at this
def anG(a:ev l x=.int k m)(b:ev l y=.int k n)(h:n<m):gX P l (.binOp .gtr T x y T') ty (.bool N):=by
 have:=Tp (P:=P) (T:=T) (T':=T') (ty:=ty) a b;rwa [Y5 h] at this
def xL(a:ev l x=.int k m)(b:ev l y=.int k n)(h:n<=m):gX P l (.binOp .geq T x y T') ty (.bool N):=by
 have:=zY (P:=P) (T:=T) (T':=T') (ty:=ty) a b;rwa [Y5 h] at this
def Ay(a:ev l x=.int k m)(b:ev l y=.int k n)(h:¬n<=m):gX P l (.binOp .geq T x y T') ty (.bool X7):=by
 have:=zY (P:=P) (T:=T) (T':=T') (ty:=ty) a b;rwa [Y6 h] at this
def Er(a:ev l x=.int k m)(b:ev l y=.int k n)(h:m=n):gX P l (.binOp .eql T x y T') ty (.bool N):=by
 have:=Ld (P:=P) (T:=T) (T':=T') (ty:=ty) a b;rwa [Y5 h] at this
def Es(a:ev l x=.int k m)(b:ev l y=.int k n)(h:¬m=n):gX P l (.binOp .eql T x y T') ty (.bool X7):=by
 have:=Ld (P:=P) (T:=T) (T':=T') (ty:=ty) a b;rwa [Y6 h] at this
def anH(a:ev l x=.int k m)(b:ev l y=.int k n)(h:m≠n):gX P l (.binOp .neq T x y T') ty (.bool N):=by
 have:=sS (P:=P) (T:=T) (T':=T') (ty:=ty) a b;rwa [Y5 h] at this
def anI(a:ev l x=.int k m)(b:ev l y=.int k n)(h:¬m≠n):gX P l (.binOp .neq T x y T') ty (.bool X7):=by
 have:=sS (P:=P) (T:=T) (T':=T') (ty:=ty) a b;rwa [Y6 h] at this
def dT{c:cw}(a:ev l c=.bool N):gX P l (.pick c x y) ty (ev l x):=Vz a
def gD{c:cw}(a:ev l c=.bool X7):gX P l (.pick c x y) ty (ev l y):=Vz a
def Sn{v u:am}(h:gX P l op ty v)(e:v=u):gX P l op ty u:=e▸h
def xM{b:Bool}(h:b=c):Value.bool b=Value.bool c:=by rw[h]
end
def lI:List am->List Nat->(Nat->am)->List am
 |l,t::ts,g=>lI (l.set t (g t)) ts g
 |l,[],_=>l
def aeF{t:Nat}{ts:List Nat}{g:Nat->am}:lI l (t::ts) g=lI (l.set t (g t)) ts g:=rfl
def aqv{g:Nat->am}:lI l [] g=l:=rfl
def Cu:∀(ts:List Nat)(l:List am),lI l ts (l.getD · undef)=l:=by
 intro ts;have key:∀(ts:List Nat)(l:List am)(g:Nat->am),(∀t,l.set t (g t)=l)->lI l ts g=l:=by
  intro ts
  induction ts with
  |nil=>intro l g _;rfl
  |cons t ts ih=>intro l g h;rw[aeF,h t];exact ih l g h
 exact λl=>key ts l _ λt=>Zz
section
variable{P:B}{ds:List d_}{l:List am}
def uT{c:Code}{Q:Exit->Act->an->Prop}{w:an}(ts ss:List Nat)(I:Nat->List am->an->Prop)(k:∃n,I n (ts.map (l.getD · undef)) w)
 (s:∀n vs w,I n vs w->∀g:Nat->am,c.wp P (Exit.then (λo w'=>∃d b,d<n/\o=Fr b/\lI (eG l ts (ts.map (b.getD · undef))) ss (b.getD · undef)=b/\I d (ts.map (b.getD · undef)) w') Q) (Fr (lI (eG l ts vs) ss g)) w):(Code.loop c).wp P Q (Fr l) w:=by
 obtain⟨t,k⟩:=k
 let J:Nat->Act->an->Prop:=λn a w=>∃vs g,a=Fr (lI (eG l ts vs) ss g)/\I n vs w
 have x:∃n,J n (Fr l) w:=⟨t,_,(l.getD · undef),by rw[pY,Cu],k⟩
 let i:Act->an->Nat:=λa w=>@dite _ (∃n,J n a w) (Classical.propDecidable _) (λh=>Nw (λn=>J n a w) h) (λ_=>0)
 refine wp_loop (λa w=>∃n,J n a w) i x ?_;intro a w m;obtain⟨vs,g,rfl,v⟩:=aaa m;refine Code.wp_mono ?_ (s _ vs w v g);intro e o w' f;cases e with
 |normal=>
  obtain⟨d,b,y,rfl,r,u⟩:=f;have j:J d (Fr b) w':=⟨_,(b.getD · undef),by rw[r],u⟩
  refine⟨⟨d,j⟩,?_⟩;have p:i (Fr b) w'=Nw (λn=>J n (Fr b) w') ⟨d,j⟩:=by simp only[i];rw[dif_pos ⟨d,j⟩]
  have q:i (Fr (lI (eG l ts vs) ss g)) w=Nw (λn=>J n (Fr (lI (eG l ts vs) ss g)) w) m:=by simp only[i];rw[dif_pos m]
  rw[p,q];exact fr (aeD _ j) y
 |exit id=>exact f
 |goto id=>exact f
 |ret=>exact f
 |panic z=>exact f
 |outgrown=>exact f
end
section
variable{P:B}{ds:List d_}{l:List am}{ops:Array Oper}{Q:Exit->Act->an->Prop}{w:an}{rest:List (Oper×Bool)}{d:Nat}{op:Op}{ty:ba}{pos:String}{after:Array Edge}{v:am}
def bR{Q:Exit->Act->an->Prop}(h:∀c (t:Array am) ds (e:Array am) w,Q (.panic c) { tmps:=t,defers:=ds } w->Q (.panic c) { tmps:=e,defers:=ds } w):∀c d v a w,Q (.panic c) (Act.put a d v) w->Q (.panic c) a w:=by
 intro c d v a w b;cases d with
 |none=>exact b
 |some d=>exact h c _ _ _ w b
end
section
variable{P:B}{ds:List d_}{l:List am}{x y z0:cw}{T T' ty:ba}
def agl{A:Option Addr}{c:Nat}{E:ba}(d:P.underlying T=H (.slice E))(e:ev l x=.slice A n c)(f:ev l y=.slice X8 0 0):gX P l (.binOp .eql T x y T') ty (.bool A.isNone):=λw o b _=>by
 obtain⟨D,a⟩:∃D,Op.maxDepth=D+1:=⟨9999,rfl⟩
 cases A<;>simp[eh,b,dM,e,f,eqGuard,binOp,Op.equal,a,Op.equalIn,dg d]
variable{ops:Array Oper}{Q:Exit->Act->an->Prop}{rest:List Oper}{d:Nat}{pos:String}{after:Array Edge}{w:an}
def akv{v:am}{w':an}(b:∀o:Oper,o.op=op->(eh (Fr l).eval o).run P w=.ok (.value v) w')(h:be P ops Q rest (Fr l ds) w'):be P ops Q (cj X8 op ty pos after X8::rest) (Fr l ds) w:=by
 refine wpList_plain O λK a=>?_;unfold nt;rw[jO,b _ rfl];exact a _ _ h
def We:qr (λ(_:Nat)=>(default:am)) (pu 0) = #[]:=Array.eq_empty_of_size_eq_zero (by simp)
def Wf(z v:am):(qr (λx=>[z][x%1]?.getD default) (pu 1)).setIfInBounds 0 v = #[v]:=by
 apply qt (by simp);intro i b a;obtain rfl:i=0:=by simpa using a
 simp
def Wg(z v a:am):((qr (λx=>[z][x%1]?.getD default) (pu 2)).setIfInBounds 0 v).setIfInBounds 1 a = #[v,a]:=by
 apply qt (by simp);intro i c b;have d:i<2:=by simpa using b
 rcases ej i 1 with h|h
 . obtain rfl:i=0:=by omega
   simp
 obtain rfl:i=1:=by omega
 simp
def wK{E:ba}{c:Nat}(f:P.underlying T=H (.slice E))(a:(P.info? E).map (λi=>i.size)=H c)
 (h:∀w' g,eR w w'->w.heap.size<=g->fQ w' g [] E->be P ops Q rest (Fr (l.set d (.slice (H ⟨g,0,X8⟩) 0 0)) ds) w') :
 be P ops Q (cj (H d) (.buildSlice T 0 #[]) ty pos after X8::rest) (Fr l ds) w:=by
 cases b:P.info? E with
 |none=>rw[b] at a;cases a
 |some i=>
  exact pC (w':=w.alloc (.cells #[] E)) (v:=.slice (H ⟨w.heap.size,0,X8⟩) 0 0) (λo e _=>by simp[eh,e,Instr.buildSlice,dg f,sizeOf,typeInfo,b,Instr.fill,newRow,newObj,Sem.run,We]) (h _ _ ((eR.refl w).alloc _) (bg _) (kM w [] E))
def cO{E:ba}{z:am}(j:P.underlying T=H (.slice E))(a:(P.info? E).map (λi=>(i.size,i.zero))=H (1,H z))(n:z.cells = #[z]){v:am}(m:ev l x=v)(k:v.cells = #[v])
 (h:∀w' g,eR w w'->w.heap.size<=g->fQ w' g [v] E->be P ops Q rest (Fr (l.set d (.slice (H ⟨g,0,X8⟩) 1 1)) ds) w') :
 be P ops Q (cj (H d) (.buildSlice T 1 #[(0,x)]) ty pos after X8::rest) (Fr l ds) w:=by
 cases b:P.info? E with
 |none=>rw[b] at a;cases a
 |some i=>
  rw[b] at a;simp only[fu,jn,iy] at a;obtain⟨c,e⟩:=a;exact pC (w':=w.alloc (.cells #[v] E)) (v:=.slice (H ⟨w.heap.size,0,X8⟩) 1 1) (λo f _=>by simp[eh,f,Instr.buildSlice,dg j,sizeOf,typeInfo,zeroValue,b,c,e,n,dM,m,k,Instr.fill,newRow,newObj,Sem.run,Wf]) (h _ _ ((eR.refl w).alloc _) (bg _) (kM w [v] E))
def aac{E:ba}{z:am}(k:P.underlying T=H (.slice E))(b:(P.info? E).map (λi=>(i.size,i.zero))=H (1,H z))(q:z.cells = #[z]){v a:am}(n:ev l x=v)(m:v.cells = #[v])(p:ev l y=a)(r:a.cells = #[a])
 (h:∀w' g,eR w w'->w.heap.size<=g->fQ w' g [v,a] E->be P ops Q rest (Fr (l.set d (.slice (H ⟨g,0,X8⟩) 2 2)) ds) w') :
 be P ops Q (cj (H d) (.buildSlice T 2 #[(0,x),(1,y)]) ty pos after X8::rest) (Fr l ds) w:=by
 cases c:P.info? E with
 |none=>rw[c] at b;cases b
 |some i=>
  rw[c] at b;simp only[fu,jn,iy] at b;obtain⟨e,f⟩:=b;exact pC (w':=w.alloc (.cells #[v,a] E)) (v:=.slice (H ⟨w.heap.size,0,X8⟩) 2 2) (λo j _=>by simp[eh,j,Instr.buildSlice,dg k,sizeOf,typeInfo,zeroValue,c,e,f,q,dM,n,m,p,r,Instr.fill,newRow,newObj,Sem.run,Wg]) (h _ _ ((eR.refl w).alloc _) (bg _) (kM w [v,a] E))
def akw{E:ba}{z:am}{g o n cap:Nat}{cs:List am}{t:ba}{a0:Array ba}(p:a0 = #[T])(c:P.underlying T=H (.slice E))(a:(P.info? E).map (λi=>(i.size,i.zero))=H (1,H z))(s:z.cells = #[z])(r:ev l x=.slice (H ⟨g,o,X8⟩) n cap)(D:0<n)(e:fQ w g cs t)(A:o+n<=cs.length)(d:z.oneCell'=N)
 (h:∀w',Chg w w' g->fQ w' g (over cs o (bn n z)) t->be P ops Q rest (Fr l ds) w') :
 be P ops Q (cj X8 (.call { callee:=.builtin .clear,args:=#[x],argTypes:=a0 }) ty pos after X8::rest) (Fr l ds) w:=by
 subst p;cases b:P.info? E with
 |none=>rw[b] at a;cases a
 |some i=>
  rw[b] at a;simp only[fu,jn,iy] at a;obtain⟨B,k⟩:=a;have y:(Builtin.zeroCells z.cells n).toList=bn n z:=by
   rw[s];apply List.ext_getElem
   .simp[Builtin.zeroCells]
   intro j d C
   simp[Builtin.zeroCells,Nat.mod_one]
  have f:=run_storeCells_at P g o t (bn n z) 0 cs.toArray w e (by simpa using A) (λu c=>by rw[ep c];exact d);simp only[gi,eo] at f;obtain⟨n,rfl⟩:∃m,n=m+1:=⟨n-1,by omega⟩
  refine akv (v:=.tuple #[]) (w':=w.setRow g (over cs o (bn (n+1) z)).toArray) (λo' q=>?_) (h _ (xH w g _) (setRow_heap w g cs.toArray _ t _ e));simp[eh,q,resolve,invoke,builtin,dM,r,Builtin.clear_,dg c,zeroValue,typeInfo,b,k,y,f,over]
def agm{cs:List am}{off:Nat}:over cs off []=cs:=by simp[over]
end
def anJ{P:B}{R:Ending->an->Prop}(b:fn.results = #[])(a:R (.returned (.tuple #[])) w):bodyPost P fn R .ret (Fr l) w:=by
 refine⟨O,_,?_,a⟩;unfold results;rw[b];simp
def Ny{P:B}{R:Ending->an->Prop}(b:fn.results = #[])(a:R (.returned (.tuple #[])) w):bodyPost P fn R .normal (Fr l) w:=anJ b a
structure Upd(w w':an)(g:Nat):Prop where
 os:w'.os=w.os
 tape:w'.tape=w.tape
 output:w'.output=w.output
 size:w.heap.size<=w'.heap.size
 block:∀k,k<w.heap.size->k≠g->w'.heap[k]? = w.heap[k]?
def eR.upd(h:eR w w')(g:Nat):Upd w w' g:=⟨h.os,h.tape,h.output,h.size,λk a _=>Below.block h k a⟩
def Upd.chg{b:an}{k:Nat}(h:Upd w w' g)(a:Chg w' b k)(e:w.heap.size<=k\/k=g):Upd w b g:=
 ⟨a.os.trans h.os,a.tape.trans h.tape,a.output.trans h.output,by rw[a.size];exact h.size,λj c d=>(a.block j (by omega)).trans (h.block j c d)⟩
def agn(P:B)(f:FuncId)(args:List am)(w:an)(g:Nat)(R:am->an->Prop):Prop:=
 Entr P f/\Calls P f args.toArray w λe w'=>∃v,e=.returned v/\Upd w w' g/\R v w'
section
variable{P:B}{ds:List d_}{l:List am}{x y:cw}{ty:ba}{w:an}
variable{ops:Array Oper}{Q:Exit->Act->an->Prop}{rest:List Oper}{d:Nat}{pos:String}{after:Array Edge}
def akx{T:ba}{E:ba}{g o n cap m i:Nat}{A:Option Addr}{cs us:List am}{t:ba}{T':ba}{a0:Array ba}(C:a0 = #[T,T'])(q:P.underlying T=H (.slice E))(k:(P.info? E).map (·.size)=H 1)(r:ev l x=.slice (H ⟨g,o,X8⟩) n cap)(s:ev l y=.slice A m i)(p:us.length=Nat.min m n)
 (z:∀j v,us[j]? = H v->∃a,A=H a/\w.cell? (a.add j)=H v) (c:fQ w g cs t) (G:o+us.length<=cs.length) (B:∀v∈us,v.oneCell'=N)
 (h:∀w',Chg w w' g->fQ w' g (over cs o us) t->be P ops Q rest (Fr (l.set d (U (us.length:Int))) ds) w') :
 be P ops Q (cj (H d) (.call { callee:=.builtin .copy,args:=#[x,y],argTypes:=a0 }) ty pos after X8::rest) (Fr l ds) w:=by
 subst C;cases us with
 |nil=>
  refine pC (v:=U 0) (w':=w) (λo' f _=>?_) (h w ⟨O,O,O,O,λ_ _=>rfl⟩ (by rw[agm];exact c));have b:=run_copy_none (P:=P) w T T' o'.type E (H ⟨g,o,X8⟩) A n cap m i q k p.symm;simp[eh,f,resolve,invoke,builtin,dM,r,s,b,goInt]
 |cons u us=>
  obtain⟨a,rfl,_⟩:=z 0 u rfl;refine pC (v:=U ((u::us).length:Int)) (w':=w.setRow g (over cs o (u::us)).toArray) (λo' f _=>?_) (h _ (xH w g _) (setRow_heap w g cs.toArray _ t _ c));have b:=run_copy_row (P:=P) w T T' o'.type E g o n cap a m i cs.toArray t (u::us) q k c p (λj v F=>let ⟨I,e,D⟩:=z j v F;by cases e;exact D) (by simpa using G) B;simp only[eo] at b;simp[eh,f,resolve,invoke,builtin,dM,r,s,b,over,goInt]
end
def So(w:an)(S:an->Prop):Prop:=S w
def So.nil  : So w (λ_=>True):=trivial
def So.blk{S:an->Prop}(h:fQ w g cs t)(k:So w S):So w (λw=>fQ w g cs t/\S w):=⟨h,k⟩
section
variable{P:B}{ops:Array Oper}{md:Region.Mode}{S:an->Prop}
def cE(P:B)(ops:Array Oper)(S:an->Prop)(Q:Exit->Act->an->Prop):List (Oper×Bool)->Act->an->Prop
 | [],a,w=>Q .normal a w
 |(o,N)::r,a,w=>∃v,YieldsIf P ops S o v a/\cE P ops S Q r (a.put o.dst v) w
 |(o,X7)::r,a,w=>be P ops (Exit.then (λa w=>S w/\cE P ops S Q r a w) Q) [o] a w
def vS{Q:Exit->Act->an->Prop}(A:Region.noSelect ops=N)(t:∀c d v a w,Q (.panic c) (Act.put a d v) w->Q (.panic c) a w):∀(l:List (Nat×Bool)) (f:Array Bool) (a:Act) (w:an),
 Vy md ops l f=N->S w->cE P ops S Q (l.map λx=>((ops[x.1]?).getD default,x.2)) a w->wpAnyH P md ops Q S l.length f a w
 | [],f,a,w,b,_,h=>⟨by simpa[Vy] using b,h⟩
 |(i,N)::r,f,a,w,b,u,h=>by
  simp only[Vy,ck] at b;obtain⟨⟨⟨p,q⟩,C⟩,s⟩:=b;obtain⟨o,g⟩:=fb.1 p;simp only[df,cE,g,dt] at h;obtain⟨v,I,G⟩:=h;exact wpAnyH_take g A q C (λc a w=>t c _ v a w) I u (vS A t r _ _ _ s u G)
 |(i,X7)::r,f,a,w,b,u,h=>by
  simp only[Vy,ck,Y2] at b;obtain⟨⟨p,q⟩,s⟩:=b;obtain⟨o,g⟩:=fb.1 p;refine wpAnyH_all q (by simp) λj E=>?_;obtain rfl:j=i:=by simpa using E
  simp only[df,cE,g,dt] at h;have key:∀k w',Exit.then (λa w=>S w/\cE P ops S Q (r.map λx=>((ops[x.1]?).getD default,x.2)) a w) Q .normal k w'->S w'/\wpAnyH P md ops Q S r.length (f.setIfInBounds j N) k w':=λk w' z=>⟨z.1,vS A t r _ k w' s z.1 z.2⟩
  unfold wpOp;simp only[g];simp only[be] at h;split
  . rename_i B
    rw[Z9 B] at h;rcases h with h|⟨D,x,y,F⟩
    . refine .inl ?_
      unfold nt at h ⊢;generalize (eh a.eval o).run P w=J at *
      cases J with
      |ok n w'=>
       cases n<;>simp only[po] at h ⊢ <;>
        first
         |exact key _ _ h
         |exact Calls.mono h (λe K m=>by cases e<;>first|exact key _ _ m|exact m)
         |exact Rows.mono h (λ_ _ m=>key _ _ m)
      |halt x w'=>cases x<;>simp only[po] at h ⊢<;>exact h
    exact .inr ⟨D,x,y,F⟩
  rename_i B
  rw[K0 B] at h;exact key _ _ h
def sL{id:Nat}{Q:Exit->Act->an->Prop}{a:Act}{w:an}{l:List Oper}(o:List (Nat×Bool))(g:P.follows .mixedOrders=N)(b:(Region.noSelect l.toArray&&decide (o.length=l.length)&&Vy .any l.toArray o (ig l.toArray.size X7))=N)
 (e:∀c d v a w,Q (.panic c) (Act.put a d v) w->Q (.panic c) a w) {ol:List (Oper×Bool)} (i:(o.map λx=>((l.toArray[x.1]?).getD default,x.2))=ol)
 (h:∀w',eR w w'->∃S,So w' S/\cE P l.toArray S Q ol a w'):(Code.region id l.toArray N).wp P Q a w:=by
 simp only[ck,Y2] at b;subst i;obtain⟨S,f,h⟩:=h _ (eR.refl w).drawn;refine wp_region_held (S:=S) g ?_;have:=vS (md:=.any) b.1.1 e o _ a { w with drawn:=w.drawn+1 } b.2 f h;rwa [b.1.2] at this
variable{ds:List d_}{l:List am}{Q:Exit->Act->an->Prop}{w:an}{rest:List (Oper×Bool)}{d:Nat}{op:Op}{ty:ba}{pos:String}{after:Array Edge}{v:am}
def Wh(a:∀w,S w->Eo P l op ty v w)(h:cE P ops S Q rest (Fr (l.set d v) ds) w):cE P ops S Q ((cj (H d) op ty pos after X8,N)::rest) (Fr l ds) w:=by
 refine⟨v,.inl ⟨by simp[Region.wanted],λw b=>a w b _ O O⟩,?_⟩;show cE P ops S Q rest ((Fr l ds).put (H d) v) w
 rw[iK];exact h
def aV(a:gX P l op ty v)(h:cE P ops S Q rest (Fr (l.set d v) ds) w):cE P ops S Q ((cj (H d) op ty pos after X8,N)::rest) (Fr l ds) w:=Wh (λw _=>a w) h
def eK{T:ba}(e:ev l x=.pointer (H a))(c:∀w',S w'->eZ P w' T a v)(h:cE P ops S Q rest (Fr (l.set d v) ds) w):cE P ops S Q ((cj (H d) (.load T x) ty pos after X8,N)::rest) (Fr l ds) w:=
 Wh (λ_ b=>cT e (c _ b)) h
def vT{j:Nat}{b:Bool}(e:yielded ops l.toArray j=H b)(h:cE P ops S Q ((cj (H d) op ty pos after X8,N)::rest) (Fr l ds) w):cE P ops S Q ((cj (H d) op ty pos after (H (j,b)),N)::rest) (Fr l ds) w:=by
 obtain⟨v,a,h⟩:=h;refine⟨v,?_,h⟩;rcases a with ⟨_,a⟩|⟨c,_⟩
 .exact .inl ⟨by simp[Region.wanted,e],a⟩
 simp[Region.wanted] at c
def ago{j:Nat}{b c:Bool}(a:yielded ops l.toArray j=H c)(e:(c == b)=X7)(h:cE P ops S Q rest (Fr (l.set d undef) ds) w):cE P ops S Q ((cj (H d) op ty pos after (H (j,b)),N)::rest) (Fr l ds) w:=by
 refine⟨undef,.inr ⟨by simp[Region.wanted,a];simpa using e,rfl⟩,?_⟩;show cE P ops S Q rest ((Fr l ds).put (H d) undef) w
 rw[iK];exact h
def aky{j:Nat}(a:yielded ops l.toArray j=H X7)(h:cE P ops S Q rest (Fr (l.set d undef) ds) w):cE P ops S Q ((cj (H d) op ty pos after (H (j,N)),N)::rest) (Fr l ds) w:=ago a rfl h
def Wi{j:Nat}(a:yielded ops l.toArray j=H N)(h:cE P ops S Q rest (Fr (l.set d undef) ds) w):cE P ops S Q ((cj (H d) op ty pos after (H (j,X7)),N)::rest) (Fr l ds) w:=ago a rfl h
def aT(h:Q .normal (Fr l ds) w):cE P ops S Q [] (Fr l ds) w:=h
def bX{o:Oper}(h:be P ops (Exit.then (λa w=>S w/\cE P ops S Q rest a w) Q) [o] (Fr l ds) w):cE P ops S Q ((o,X7)::rest) (Fr l ds) w:=h
end
inductive pZ where
 |nil:pZ
 |take:Nat->pZ->pZ
 |one:Nat->pZ->pZ
 |two:Nat->pZ->Nat->pZ->pZ
 |three:Nat->pZ->Nat->pZ->Nat->pZ->pZ
section
variable{P:B}{ops:Array Oper}{md:Region.Mode}{S:an->Prop}
def pZ.ok(md:Region.Mode)(ops:Array Oper):pZ->Nat->Array Bool->Bool
 |.nil,f,a=>f == 0&&(Region.ready md ops a).isEmpty
 |.take i t,f,a=>decide (0<f)&&(ops[i]?).isSome&&Region.free md ops a i&&(Region.ready md ops a).contains i&&t.ok md ops (f-1) (a.setIfInBounds i N)
 |.one i t,f,a=>decide (0<f)&&(ops[i]?).isSome&&decide (Region.ready md ops a=[i])&&t.ok md ops (f-1) (a.setIfInBounds i N)
 |.two i t j u,f,a=>decide (0<f)&&(ops[i]?).isSome&&(ops[j]?).isSome&&decide (Region.ready md ops a=[i,j])&&t.ok md ops (f-1) (a.setIfInBounds i N)&&u.ok md ops (f-1) (a.setIfInBounds j N)
 |.three i t j u k v,f,a=>decide (0<f)&&(ops[i]?).isSome&&(ops[j]?).isSome&&(ops[k]?).isSome&&decide (Region.ready md ops a=[i,j,k])&&t.ok md ops (f-1) (a.setIfInBounds i N)&&u.ok md ops (f-1) (a.setIfInBounds j N)&&v.ok md ops (f-1) (a.setIfInBounds k N)
def cP(P:B)(ops:Array Oper)(S:an->Prop)(Q:Exit->Act->an->Prop):pZ->Act->an->Prop
 |.nil,a,w=>Q .normal a w
 |.take i t,a,w=>cE P ops S (λ_ a w=>cP P ops S Q t a w) [((ops[i]?).getD default,N)] a w
 |.one i t,a,w=>be P ops (Exit.then (λa w=>S w/\cP P ops S Q t a w) Q) [(ops[i]?).getD default] a w
 |.two i t j u,a,w=>be P ops (Exit.then (λa w=>S w/\cP P ops S Q t a w) Q) [(ops[i]?).getD default] a w/\be P ops (Exit.then (λa w=>S w/\cP P ops S Q u a w) Q) [(ops[j]?).getD default] a w
 |.three i t j u k v,a,w=>be P ops (Exit.then (λa w=>S w/\cP P ops S Q t a w) Q) [(ops[i]?).getD default] a w/\be P ops (Exit.then (λa w=>S w/\cP P ops S Q u a w) Q) [(ops[j]?).getD default] a w/\be P ops (Exit.then (λa w=>S w/\cP P ops S Q v a w) Q) [(ops[k]?).getD default] a w
def kI{Q:Exit->Act->an->Prop}{K:Act->an->Prop}{o:Oper}(g:ops[i]? = H o){a:Act}{w:an}(h:be P ops (Exit.then K Q) [o] a w):wpOp P ops Q i K a w:=by
 unfold wpOp;simp only[g];simp only[be] at h;split
 . rename_i c
   rw[Z9 c] at h;rcases h with h|⟨d,x,y,f⟩
   . refine .inl ?_
     unfold nt at h ⊢;generalize (eh a.eval o).run P w=j at *
     cases j with
     |ok n w'=>
      cases n<;>simp only[po] at h ⊢ <;>
       first
        |exact h
        |exact Calls.mono h (λe k b=>by cases e<;>exact b)
        |exact Rows.mono h (λ_ _ b=>b)
     |halt x w'=>cases x<;>simp only[po] at h ⊢<;>exact h
   exact .inr ⟨d,x,y,f⟩
 rename_i c
 rw[K0 c] at h;exact h
def jS{Q:Exit->Act->an->Prop}(r:Region.noSelect ops=N)(q:∀c d v a w,Q (.panic c) (Act.put a d v) w->Q (.panic c) a w):∀(t:pZ)(f:Nat)(y:Array Bool)(a:Act)(w:an),
 t.ok md ops f y=N->S w->cP P ops S Q t a w->wpAnyH P md ops Q S f y a w
 |.nil,f,y,a,w,e,_,h=>by
  simp only[pZ.ok,ck,beq_iff_eq] at e;obtain⟨rfl,p⟩:=e;exact⟨by simpa using p,h⟩
 |.take i t,f,y,a,w,e,z,h=>by
  simp only[pZ.ok,ck,Y2] at e;obtain⟨⟨⟨⟨B,s⟩,p⟩,F⟩,x⟩:=e;obtain⟨o,n⟩:=fb.1 s;simp only[cP,cE,n,dt] at h;obtain⟨v,M,L⟩:=h;obtain⟨f,rfl⟩:∃g,f=g+1:=⟨f-1,by omega⟩
  exact wpAnyH_take n r p F (λc a w=>q c _ v a w) M z (jS r q t f _ _ _ x z L)
 |.one i t,f,y,a,w,e,z,h=>by
  simp only[pZ.ok,ck,Y2] at e;obtain⟨⟨⟨B,s⟩,p⟩,x⟩:=e;obtain⟨o,n⟩:=fb.1 s;obtain⟨f,rfl⟩:∃g,f=g+1:=⟨f-1,by omega⟩
  refine wpAnyH_all p (by simp) λj I=>?_;obtain rfl:j=i:=by simpa using I
  simp only[cP,n,dt] at h;exact wpOp_mono (λl w' b=>⟨b.1,jS r q t f _ l w' x b.1 b.2⟩) (kI n h)
 |.two i t j u,f,y,a,w,e,z,h=>by
  simp only[pZ.ok,ck,Y2] at e;obtain⟨⟨⟨⟨⟨B,s⟩,D⟩,p⟩,x⟩,C⟩:=e;obtain⟨o,n⟩:=fb.1 s;obtain⟨o',A⟩:=fb.1 D;obtain⟨f,rfl⟩:∃g,f=g+1:=⟨f-1,by omega⟩
  simp only[cP,n,A,dt] at h;refine wpAnyH_all p (by simp) λk J=>?_;have O:k=i\/k=j:=by simpa using J
  rcases O with rfl|rfl
  .exact wpOp_mono (λl w' b=>⟨b.1,jS r q t f _ l w' x b.1 b.2⟩) (kI n h.1)
  exact wpOp_mono (λl w' b=>⟨b.1,jS r q u f _ l w' C b.1 b.2⟩) (kI A h.2)
 |.three i t j u k v,f,y,a,w,e,z,h=>by
  simp only[pZ.ok,ck,Y2] at e;obtain⟨⟨⟨⟨⟨⟨⟨B,s⟩,D⟩,U⟩,p⟩,x⟩,C⟩,G⟩:=e;obtain⟨o,n⟩:=fb.1 s;obtain⟨o',A⟩:=fb.1 D;obtain⟨V,E⟩:=fb.1 U;obtain⟨f,rfl⟩:∃g,f=g+1:=⟨f-1,by omega⟩
  simp only[cP,n,A,E,dt] at h;refine wpAnyH_all p (by simp) λm K=>?_;have T:m=i\/m=j\/m=k:=by simpa using K
  rcases T with rfl|rfl|rfl
  .exact wpOp_mono (λl w' b=>⟨b.1,jS r q t f _ l w' x b.1 b.2⟩) (kI n h.1)
  .exact wpOp_mono (λl w' b=>⟨b.1,jS r q u f _ l w' C b.1 b.2⟩) (kI A h.2.1)
  exact wpOp_mono (λl w' b=>⟨b.1,jS r q v f _ l w' G b.1 b.2⟩) (kI E h.2.2)
def Az{id:Nat}{Q:Exit->Act->an->Prop}{a:Act}{w:an}{l:List Oper}(t:pZ)(g:P.follows .mixedOrders=N)(b:(Region.noSelect l.toArray&&t.ok .any l.toArray l.toArray.size (ig l.toArray.size X7))=N)
 (e:∀c d v a w,Q (.panic c) (Act.put a d v) w->Q (.panic c) a w)
 (h:∀w',eR w w'->∃S,So w' S/\cP P l.toArray S Q t a w'):(Code.region id l.toArray N).wp P Q a w:=by
 simp only[ck] at b;obtain⟨S,f,h⟩:=h _ (eR.refl w).drawn;exact wp_region_held (S:=S) g (jS (md:=.any) b.1 e t _ _ a _ b.2 f h)
variable{Q:Exit->Act->an->Prop}{a:Act}{w:an}{o o':Oper}{i j:Nat}{t u:pZ}
def qU(h:Q .normal a w):cP P ops S Q .nil a w:=h
def dG(b:(ops[i]?).getD default=o)(h:cE P ops S (λ_ a w=>cP P ops S Q t a w) [(o,N)] a w):cP P ops S Q (.take i t) a w:=by subst b;exact h
def fL(b:(ops[i]?).getD default=o)(h:be P ops (Exit.then (λa w=>S w/\cP P ops S Q t a w) Q) [o] a w):cP P ops S Q (.one i t) a w:=by subst b;exact h
def Gi(c:(ops[i]?).getD default=o)(d:(ops[j]?).getD default=o')(h:be P ops (Exit.then (λa w=>S w/\cP P ops S Q t a w) Q) [o] a w)(b:be P ops (Exit.then (λa w=>S w/\cP P ops S Q u a w) Q) [o'] a w):cP P ops S Q (.two i t j u) a w:=by
 subst c;subst d;exact⟨h,b⟩
def akz{b:Oper}{k:Nat}{v:pZ}(d:(ops[i]?).getD default=o)(f:(ops[j]?).getD default=o')(g:(ops[k]?).getD default=b)(h:be P ops (Exit.then (λa w=>S w/\cP P ops S Q t a w) Q) [o] a w)(c:be P ops (Exit.then (λa w=>S w/\cP P ops S Q u a w) Q) [o'] a w)(e:be P ops (Exit.then (λa w=>S w/\cP P ops S Q v a w) Q) [b] a w):cP P ops S Q (.three i t j u k v) a w:=by
 subst d;subst f;subst g;exact⟨h,c,e⟩
end
section
variable{P:B}{ops:Array Oper}{md:Region.Mode}{w0:an}
def YE(P:B)(ops:Array Oper)(w0:an)(o:Oper)(v:am)(a:Act):Prop:=
 (Region.wanted o (yielded ops a.tmps)=N/\∀w,eR w0 w->o.quietAt P a (eR w) w v)\/(Region.wanted o (yielded ops a.tmps)=X7/\v=undef)
def YE.of_same{o:Oper}{v:am}{a b:Act}(e:YE P ops w0 o v a)(c:eh b.eval o=eh a.eval o)
 (d:Region.wanted o (yielded ops b.tmps)=Region.wanted o (yielded ops a.tmps)):YE P ops w0 o v b:=by
 unfold YE mf at *
 rw[c,d];exact e
def qE(P:B)(ops:Array Oper)(w0:an)(i:Nat)(K:Act->Prop)(a:Act):Prop:=∃o v,ops[i]? = H o/\YE P ops w0 o v a/\K (a.put o.dst v)
def akA{a:Act}{K b:Act->Prop}(h:∀a,K a->b a)(f:qE P ops w0 i K a):qE P ops w0 i b a:=
 let ⟨o,v,c,d,e⟩:=f;⟨o,v,c,d,h _ e⟩
def anK{j:Nat}{c d:Oper}{v:am}(i:ops[j]? = H d)(q:c.apart ops d=N)(r:∀cs b,c.op≠.select cs b)(s:∀cs b,d.op≠.select cs b){K:Act->Prop}{a:Act}
 (p:YE P ops w0 c v a) (h:qE P ops w0 j K (a.put c.dst v)):qE P ops w0 j (λe=>YE P ops w0 c v e/\K (e.put c.dst v)) a:=by
 obtain⟨f,l,g⟩:=Oper.apart_spec q;obtain⟨o,u,k,n,m⟩:=h;rw[i] at k;cases k;refine⟨d,u,i,n.of_same (execOp_put d s a c.dst v f).symm (wanted_put d a c.dst v f).symm,p.of_same (execOp_put c r a d.dst u g) (wanted_put c a d.dst u g),?_⟩;rw[<-Act.put_comm a v u l];exact m
def Nz(P:B)(md:Region.Mode)(ops:Array Oper)(w0:an)(n:Nat)(L:Array Bool->Act->Prop):Nat->Array Bool->Act->Prop
 |0,b,a=>L b a
 |f+1,b,a=>Region.ready md ops b≠[]/\∀i∈Region.ready md ops b,i<n/\qE P ops w0 i (Nz P md ops w0 n L f (b.setIfInBounds i N)) a
def Wj{n i:Nat}{g:Oper}{v:am}{L:Array Bool->Act->Prop}(x:ops[i]? = H g)(G:∀(j:Nat) (o:Oper) cs b,ops[j]? = H o->o.op≠.select cs b)
 (C:Region.sinkB md ops n=N) (A:Region.chainB md ops n=N) (B:n<ops.size) (D:i<n)
 (Y:∀c a,L c a->∀j∈Region.ready md ops c,n<=j) :
 ∀(f:Nat)(c:Array Bool)(a:Act),HeadInv md ops n c ->
  (∀j p,ops[j]? = H p->j≠i->c.getD j N=X7->(∀e∈p.after,Region.binds md e=N->e.on≠i)->g.apart ops p=N) ->
  i∈Region.ready md ops c->YE P ops w0 g v a ->
  Nz P md ops w0 n L f (c.setIfInBounds i N) (a.put g.dst v)->Nz P md ops w0 n L (f+1) c a:=by
 intro f
 induction f with
 |zero=>
  intro c a w _ d t r;have q:=(mem_ready.1 d).1;refine⟨λh=>(by rw[h] at d;cases d),λj m=>?_⟩;have u:j<n:=by
   rcases ej j n with h|h
   .exact h
   exact Y0 m (tail_waits C A B w _ i O D q j h)
  refine⟨u,?_⟩;by_cases l:j=i
  .subst l;exact⟨g,v,x,t,r⟩
  have:=Y _ _ r j (ready_mono m l)
  omega
 |succ f ih=>
  intro c a w I d t r;have q:=(mem_ready.1 d).1;refine⟨λh=>(by rw[h] at d;cases d),λj m=>?_⟩;have u:j<n:=by
   rcases ej j n with h|h
   .exact h
   exact Y0 m (tail_waits C A B w _ i O D q j h)
  refine⟨u,?_⟩;by_cases l:j=i
  .subst l;exact⟨g,v,x,t,r⟩
  have s:=(r.2 j (ready_mono m l)).2
  obtain⟨F,p,y,W⟩:=mem_ready.1 m;have X:∀e∈p.after,Region.binds md e=N->e.on≠i:=λe Q M T=>by
   have s:=W e Q M;rw[T,getD_both q] at s;cases s
  have K:=anK y (I j p y l F X) (λcs b=>G i g cs b x) (λcs b=>G j p cs b y) t s;have Z:∀k ok,ops[k]? = H ok->k≠i->(c.setIfInBounds j N).getD k N=X7 ->
   (∀e∈ok.after,Region.binds md e=N->e.on≠i)->g.apart ops ok=N:=λk ok S U q V=>by
   refine I k ok S U ?_ V;by_cases E:j=k
   .subst E;exact F
   rw[getD_set_ne N E] at q;exact q
  refine akA (λJ z=>ih (c.setIfInBounds j N) J (w.set m u) Z (ready_mono d (Ne.symm l)) z.1 ?_) K;rw[oc _ _ l];exact z.2
def Ba(P:B)(ops:Array Oper)(w0:an)(L:Act->Prop):List Oper->Act->Prop
 | [],a=>L a
 |o::r,a=>∃v,YE P ops w0 o v a/\Ba P ops w0 L r (a.put o.dst v)
def agp(md:Region.Mode)(ops:Array Oper)(g n:Nat):List Nat->Array Bool->Bool
 | [],a=>Region.seqB md ops g n a
 |i::r,a=>(ops[i]?).isSome&&decide (i<n)&&(Region.ready md ops a).contains i&&Region.free md ops a i&&agp md ops g n r (a.setIfInBounds i N)
def Oa{n g:Nat}{L:Act->Prop}(r:Region.noSelect ops=N)(m:Region.sinkB md ops n=N)(j:Region.chainB md ops n=N)(k:n<ops.size) :
 ∀(l:List Nat)(b:Array Bool)(a:Act),HeadInv md ops n b->agp md ops g n l b=N->Ba P ops w0 L (l.map λi=>(ops[i]?).getD default) a ->
 Nz P md ops w0 n (λs e=>Region.seqB md ops g n s=N/\L e) l.length b a
 | [],b,a,_,c,h=>⟨by simpa[agp] using c,h⟩
 |i::l,b,a,q,c,h=>by
  simp only[agp,ck,Y2] at c;obtain⟨⟨⟨⟨t,f⟩,u⟩,w⟩,x⟩:=c;obtain⟨o,d⟩:=fb.1 t;simp only[df,Ba,d,dt] at h;obtain⟨v,A,z⟩:=h;have p:i∈Region.ready md ops b:=by simpa using u
  exact Wj d (Region.noSelect_spec r) m j k f (λs e y=>seqB_ready y.1) l.length b a q (Region.free_spec d w) p A (Oa r m j k l _ _ (q.set p f) x z)
structure Al where
 i:Nat
 d:Nat
 T:ba
 cs:List am
def xN(P:B)(md:Region.Mode)(ops:Array Oper)(x:Al):Prop:=
 ∃ty pos after,ops[x.i]? = H (cj (H x.d) (.alloc x.T) ty pos after X8)/\(after.all λe=>!Region.binds md e)=N/\∃z,oB P x.T z/\z.cells=x.cs.toArray
def gY(E:Nat->Option am):List Al->Act->Act
 | [],a=>a
 |x::r,a=>match E x.i with
  |some v=>gY E r (a.put (H x.d) v)
  |none=>gY E r a
def xO(ops:Array Oper)(o:Oper)(al:List Al):Bool:=al.all λx=>!(o.looksAt ops).contains x.d&&o.dst != H x.d
def Bb{E:Nat->Option am}{o:Oper}(f:∀cs b,o.op≠.select cs b):∀{al:List Al},xO ops o al=N->∀a,eh (gY E al a).eval o=eh a.eval o/\Region.wanted o (yielded ops (gY E al a).tmps)=Region.wanted o (yielded ops a.tmps)
 | [],_,a=>⟨rfl,rfl⟩
 |x::r,c,a=>by
  simp only[xO,oe,ck,ip] at c;have h:xO ops o r=N:=by simp only[xO,ck,ip] ;simpa using c.2
  have g:x.d∉o.looksAt ops:=by simpa using c.1.1
  unfold gY;split
  . obtain⟨i,j⟩:=Bb (E:=E) f h (a.put (H x.d) _)
    rename_i v _;exact⟨i.trans (execOp_put o f a (H x.d) v (λd e=>by cases e;exact g)),j.trans (wanted_put o a (H x.d) v (λd e=>by cases e;exact g))⟩
  exact Bb f h a
def Et{E:Nat->Option am}{o:Oper}{v:am}:∀{al:List Al},xO ops o al=N->∀a,(gY E al a).put o.dst v=gY E al (a.put o.dst v)
 | [],_,a=>rfl
 |x::r,b,a=>by
  simp only[xO,oe,ck,ip,bne_iff_ne,ne_eq] at b;have c:xO ops o r=N:=by simp only[xO,ck,ip] ;simpa using b.2
  unfold gY;split
  . rename_i u _
    rw[Et c,Act.put_comm a u v (λd e=>by cases e;exact b.1.2)]
  exact Et c a
def Oc{E:Nat->Option am}{x:Al}{v:am}:∀{al:List Al},(al.map (·.i)).Nodup->(al.map (·.d)).Nodup->x∈al->E x.i=X8->∀a,(gY E al a).put (H x.d) v=gY (λj=>if j=x.i then H v else E j) al a
 | [],_,_,hx,_,_=>by cases hx
 |y::r,c,f,hx,g,a=>by
  simp only[df,og] at c f;have k:∀(l:List Al),x.i∉l.map (·.i)->∀a,gY (λj=>if j=x.i then H v else E j) l a=gY E l a:=by
   intro l
   induction l with
   |nil=>intro _ a;rfl
   |cons z l ih=>
    intro b a;simp only[df,bl,not_or] at b;unfold gY;simp only[Ne.symm b.1,X0];split<;>exact ih b.2 _
  have push:∀(l:List Al),x.d∉l.map (·.d)->∀a,(gY E l a).put (H x.d) v=gY E l (a.put (H x.d) v):=by
   intro l
   induction l with
   |nil=>intro _ a;rfl
   |cons z l ih=>
    intro b a;simp only[df,bl,not_or] at b;unfold gY;split
    . rename_i u _
      rw[ih b.2,Act.put_comm a u v (λd e=>by cases e;simp;exact b.1)]
    exact ih b.2 _
  rcases bl.1 hx with rfl|hx
  . unfold gY
    simp only[g,Y4];rw[push r f.1,k r c.1]
  have h:y.i≠x.i:=λe=>c.1 (by rw[e];exact fg hx)
  unfold gY;simp only[h,X0];split<;>exact Oc c.2 f.2 hx g _
def cnt(E:Nat->Option am)(al:List Al):Nat:=(al.filter λx=>(E x.i).isNone).length
def Gj{E:Nat->Option am}{x:Al}{v:am}:∀{al:List Al},(al.map (·.i)).Nodup->x∈al->E x.i=X8->cnt E al=cnt (λj=>if j=x.i then H v else E j) al+1
 | [],_,hx,_=>by cases hx
 |y::r,a,hx,c=>by
  simp only[df,og] at a;have f:∀(l:List Al),x.i∉l.map (·.i)->cnt (λj=>if j=x.i then H v else E j) l=cnt E l:=by
   intro l
   induction l with
   |nil=>intro _;rfl
   |cons z l ih=>
    intro b;simp only[df,bl,not_or] at b;have:=ih b.2;unfold cnt at *
    rw[ii,ii];simp only[Ne.symm b.1,X0];split<;>simp[this]
  rcases bl.1 hx with rfl|hx
  . have:=f r a.1
    unfold cnt at *
    rw[ii,ii];simp[c,this]
  have d:y.i≠x.i:=λe=>a.1 (by rw[e];exact fg hx)
  have:=Gj (v:=v) a.2 hx c;unfold cnt at *
  rw[ii,ii];simp only[d,X0];split<;>simp[this]
def aad{E:Nat->Option am}{al:List Al}(h:cnt E al=0):∀x∈al,∃v,E x.i=H v:=λx b=>by
 unfold cnt at h;have:=List.filter_eq_nil_iff.1 (fd h) x b;cases a:E x.i with
 |none=>simp[a] at this
 |some v=>exact⟨v,rfl⟩
def akB{E:Nat->Option am}{al:List Al}(h:0<cnt E al):∃x∈al,E x.i=X8:=by
 unfold cnt at h;obtain⟨x,c⟩:=List.length_pos_iff_exists_mem.1 h;obtain⟨a,b⟩:=List.mem_filter.1 c;exact⟨x,a,by simpa using b⟩
def Iy(base:Nat)(E:Nat->Option am)(al:List Al)(w:an):Prop:=
 (∀x∈al,∀v,E x.i=H v->∃g,v=.pointer (H ⟨g,0,X8⟩)/\base<=g/\fQ w g x.cs x.T) /\
 (∀x∈al,∀y∈al,x.i≠y.i->∀g a,E x.i=H (.pointer (H ⟨g,0,X8⟩))->E y.i=H (.pointer (H ⟨a,0,X8⟩))->g≠a)
def Iy.ext{base:Nat}{E:Nat->Option am}{al:List Al}{w w':an}(h:Iy base E al w)(b:eR w w'):Iy base E al w':=
 ⟨λx f v d=>let ⟨g,e,c,a⟩:=h.1 x f v d;⟨g,e,c,a.ext b⟩,h.2⟩
def Iy.new{base:Nat}{E:Nat->Option am}{al:List Al}{w:an}(h:Iy base E al w){x:Al}(o:x∈al)(l:(al.map (·.i)).Nodup)(B:E x.i=X8)(u:base<=w.heap.size) :
 Iy base (λj=>if j=x.i then H (.pointer (H ⟨w.heap.size,0,X8⟩)) else E j) al (w.alloc (.cells x.cs.toArray x.T)):=by
 have A:∀y∈al,y.i=x.i->y=x:=by
  intro y a e;clear h
  induction al with
  |nil=>cases o
  |cons z r ih=>
   simp only[df,og] at l;rcases bl.1 o with rfl|hx'
   . rcases bl.1 a with rfl|hy'
     .rfl
     exact Y0 (by rw[<-e];exact fg hy') l.1
   rcases bl.1 a with rfl|hy'
   .exact Y0 (by rw[e];exact fg hx') l.1
   exact ih hx' l.2 hy'
 refine⟨λy a v m=>?_,λy a z p q g s b c=>?_⟩
 . by_cases e:y.i=x.i
   . obtain rfl:=A y a e
     simp only[Y4] at m;cases m;exact⟨_,O,u,kM w _ _⟩
   simp only[e,X0] at m
   obtain⟨g,d,n,f⟩:=h.1 y a v m;exact⟨g,d,n,f.ext ((eR.refl w).alloc _)⟩
 by_cases e:y.i=x.i
 . have k:z.i≠x.i:=λn=>q (e.trans n.symm)
   simp only[e,Y4] at b;simp only[k,X0] at c;cases b;obtain⟨t,d,_,f⟩:=h.1 z p _ c;cases d;exact Nat.ne_of_gt f.lt
 by_cases k:z.i=x.i
 . simp only[e,X0] at b
   simp only[k,Y4] at c;cases c;obtain⟨t,d,_,f⟩:=h.1 y a _ b;cases d;exact Nat.ne_of_lt f.lt
 simp only[e,X0] at b
 simp only[k,X0] at c;exact h.2 y a z p q g s b c
def Wk(md:Region.Mode)(ops:Array Oper)(n:Nat)(al:List Al):Bool:=
 decide ((al.map (·.i)).Nodup)&&decide ((al.map (·.d)).Nodup)&&(al.all λx=>decide (x.i<n)) &&
 ((fh n).all λj=>(al.any λx=>x.i == j)||match ops[j]? with
  |some o=>xO ops o al&&o.after.all λe=>!Region.binds md e || !(al.any λx=>x.i == e.on)
  |none=>N)
def sim{n g:Nat}{al:List Al}{L:Act->Prop}{Q':Exit->Act->an->Prop}{tl:List Oper}(aV:Region.noSelect ops=N)(hs:Region.sinkB md ops n=N)(hc:Region.chainB md ops n=N)(hn:n<ops.size)
 (au:∀x∈al,xN P md ops x) (hB:Wk md ops n al=N) (aJ:∀j,tl[j]? = ops[n+j]?) (av:tl.length=g)
 (hL:∀a E w,eR w0 w->Iy w0.heap.size E al w->(∀x∈al,∃v,E x.i=H v)->L a->be P ops Q' tl (gY E al a) w) :
 ∀(k f:Nat)(E:Nat->Option am)(c s:Array Bool)(a:Act)(w:an),k=f+cnt E al->HeadInv md ops n c->s.size=c.size->(∀j,s.getD j X7=(c.getD j X7||al.any λx=>x.i == j)) ->
  (∀x∈al,(E x.i=X8↔c.getD x.i X7=X7))->eR w0 w->Iy w0.heap.size E al w ->
  Nz P md ops w0 n (λaY a'=>Region.seqB md ops g n aY=N/\L a') f s a->wpAny P md ops Q' (k+g) c (gY E al a) w:=by
 simp only[Wk,ck,Y2,jy,jc] at hB;obtain⟨⟨⟨aj,aF⟩,aE⟩,ad⟩:=hB;intro k
 induction k with
 |zero=>
  intro f E c s a w hk A M t C J aa I;obtain rfl:f=0:=by omega
  have h0:cnt E al=0:=by omega
  have ab:=aad h0;have aA:s=c:=by
   apply qt M;intro j m W;have p:=t j;simp only[nh,ie m,ie W,dt] at p;rw[p];cases aD:c[j] with
   |true=>rfl
   |false=>
    rw[li];cases aP:al.any λx=>x.i == j with
    |false=>rfl
    |true=>
     obtain⟨x,l,G⟩:=il.1 aP;have ao:x.i=j:=by simpa using G
     obtain⟨v,F⟩:=ab x l;have:c.getD x.i X7=X7:=by
      rw[ao,nh,ie W];simpa using aD
     rw[(C x l).2 this] at F;cases F
  subst aA;obtain⟨H1,H2⟩:=I;rw[ae,<-av];exact wpAny_of_seq (md:=md) tl n s _ w aJ (by rw[av];exact H1) (hL a E w J aa ab H2)
 |succ k ih=>
  intro f E c s a w hk A M t C J aa I;have ay:∀j,j<ops.size->c.getD j X7=X7->c.getD j N=X7:=λj Y h=>getD_in (by rw[A.size];exact Y) h
  -- some head operation is not listed
  have aX:∃j,j∈Region.ready md ops c/\j<n:=by
   rcases et (cnt E al) with h0|h0
   . obtain⟨f,rfl⟩:∃q,f=q+1:=⟨f-1,by omega⟩
     obtain⟨aG,hr⟩:=I;obtain⟨j,Y⟩:=List.exists_mem_of_ne_nil _ aG;have aB:=(hr j Y).1;refine⟨j,?_,aB⟩;have ab:=aad h0;obtain⟨aC,oj,aH,aq⟩:=mem_ready.1 Y;refine mem_ready.2 ⟨?_,oj,aH,λe D S=>?_⟩
     . have m:=t j
       rw[getD_both aC] at m;have W:c.getD j X7=X7:=by
        cases h:c.getD j X7 with
        |false=>rfl
        |true=>rw[h] at m;simp at m
       exact ay j (by omega) W
     have m:=t e.on
     rw[aq e D S] at m;cases h:c.getD e.on X7 with
     |true=>rfl
     |false=>
      rw[h,li] at m;obtain⟨x,l,G⟩:=il.1 m.symm;have ao:x.i=e.on:=by simpa using G
      obtain⟨v,F⟩:=ab x l;rw[(C x l).2 (by rw[ao];exact h)] at F;cases F
   obtain⟨x,l,G⟩:=akB h0
   obtain⟨ty,pos,after,ak,ar,_⟩:=au x l;have aK:x.i<n:=by simpa using aE x l
   refine⟨x.i,mem_ready.2 ⟨ay _ (by omega) ((C x l).1 G),_,ak,λe D S=>?_⟩,aK⟩;have:=Array.all_eq_true_iff_forall_mem.1 ar e D;simp[S] at this
  obtain⟨j0,ai,aS⟩:=aX;have aT:=(mem_ready.1 ai).1;rw[show k+1+g=(k+g)+1 by omega];refine⟨λh=>(by rw[h] at ai;cases ai),λi X=>?_⟩;have ah:i<n:=by
   rcases ej i n with h|h
   .exact h
   exact Y0 X (tail_waits hs hc hn A _ j0 O aS aT i h)
  obtain⟨aw,U,V,aq⟩:=mem_ready.1 X;by_cases ag:al.any (λx=>x.i == i)=N
  . -- an allocation
    obtain⟨x,l,G⟩:=il.1 ag;obtain rfl:x.i=i:=by simpa using G
    obtain⟨ty,pos,after,ak,ar,z,hz,aN⟩:=au x l;have af:E x.i=X8:=(C x l).2 (getD_both aw);obtain⟨a0,aQ,aR⟩:=hz;unfold wpOp;simp only[ak];rw[Z9 (by simp[Region.wanted])];refine .inl ?_;have aU:∀ρ:cw->am,(eh ρ (cj (H x.d) (.alloc x.T) ty pos after X8)).run P w=.ok (.value (.pointer (H ⟨w.heap.size,0,X8⟩))) (w.alloc (.cells x.cs.toArray x.T)):=λρ=>by
     simp[eh,Instr.alloc,zeroValue,typeInfo,aQ,aR,newVar,newRow,aN,newObj,Sem.run]
    unfold nt;rw[aU];show wpAny P md ops Q' (k+g) (c.setIfInBounds x.i N) ((gY E al a).put (H x.d) (.pointer (H ⟨w.heap.size,0,X8⟩))) _
    rw[Oc aj aF l af];have aZ:=Gj (v:=.pointer (H ⟨w.heap.size,0,X8⟩)) aj l af;have aL:x.i<c.size:=by rw[A.size];omega
    refine ih f _ _ s a _ (by omega) (A.set X ah) (by simp[M]) (λj=>?_) (λy K=>?_) (J.alloc _) (aa.new l aj af J.size) I
    . rw[t j]
      by_cases e:x.i=j
      . subst e
        rw[ag];simp
      rw[getD_set_ne X7 e]
    by_cases e:x.i=y.i
    . rw[<-e]
      simp[aL]
    rw[getD_set_ne X7 e]
    simp only[Ne.symm e,X0];exact C y K
  -- an operation that computes
  have ap:al.any (λx=>x.i == i)=X7:=by simpa using ag
  have Z:=ad i ah;rw[ap,li,V] at Z;simp only[ck] at Z;have az:i∈Region.ready md ops s:=by
   refine mem_ready.2 ⟨?_,U,V,λe D S=>by rw[t,aq e D S];rfl⟩;have m:=t i;rw[getD_both aw,ap] at m;exact getD_in (by rw[M,A.size];omega) (by simpa using m)
  cases f with
  |zero=>
   obtain⟨H1,H2⟩:=I;have:=seqB_ready H1 i az;omega
  |succ f=>
   obtain⟨_,o,v,ho,K,hK⟩:=I.2 i az;rw[V] at ho;cases ho;have aI:∀cs b,U.op≠.select cs b:=λcs b=>Region.noSelect_spec aV i U cs b V;obtain⟨B,Q⟩:=Bb (E:=E) aI Z.1 a;have aM:=K.of_same B Q;have key:∀w',eR w w'->wpAny P md ops Q' (k+g) (c.setIfInBounds i N) ((gY E al a).put U.dst v) w':=λw' ax=>by
    rw[Et Z.1];refine ih f E _ _ _ w' (by omega) (A.set X ah) (by simp[M]) (λj=>?_) (λy K=>?_) (J.trans ax) (aa.ext ax) hK
    . by_cases e:i=j
      . subst e
        have m:i<c.size:=by rw[A.size];omega
        simp[m,M]
      rw[getD_set_ne X7 e,getD_set_ne X7 e,t j]
    have e:i≠y.i:=λe=>by
     have:al.any (λx=>x.i == i)=N:=il.2 ⟨y,K,by simp[e]⟩;rw[ap] at this;cases this
    rw[getD_set_ne X7 e];exact C y K
   unfold wpOp;simp only[V];rcases aM with ⟨hw,F⟩|⟨hw,rfl⟩
   . rw[Z9 hw]
     refine .inl ?_;have p:=F w J;unfold mf at p;unfold nt;generalize (eh (gY E al a).eval U).run P w=r at *
     cases r with
     |ok nx w'=>
      cases nx<;>simp only[Oper.quietUpon] at p<;>simp only[po]
      case value u=>
       obtain⟨B,Q⟩:=p;rw[B,Q];exact key w (eR.refl w)
      case skip=>
       obtain⟨B,Q⟩:=p;rw[B,<-Q];exact key w (eR.refl w)
      case enter f' args=>
       obtain⟨B,ad⟩:=p;rw[B];exact ad.mono λe aO ⟨D,aW⟩=>by subst D;exact key aO aW
     |halt x w'=>simp only[Oper.quietUpon] at p
   rw[K0 (by rw[hw];simp)]
   exact key w (eR.refl w)
def dR{id:Nat}{Q:Exit->Act->an->Prop}{a:Act}{w:an}{l:List Oper}(n:Nat)(f:List Nat)(al:List Al)(hm:P.follows .mixedOrders=N)
 (A:(Region.noSelect l.toArray&&decide (n<l.length)&&Region.sinkB .any l.toArray n&&Region.chainB .any l.toArray n&&Wk .any l.toArray n al&&decide (n=f.length+al.length) &&
  agp .any l.toArray (l.length-n) n f (al.foldl (λs x=>s.setIfInBounds x.i N) (ig l.toArray.size X7)))=N)
 (G:∀x∈al,xN P .any l.toArray x) {ol:List Oper} (ag:(f.map λi=>(l.toArray[i]?).getD default)=ol)
 (h:∀b,eR w b->Ba P l.toArray b (λX=>∀E w',eR b w'->Iy b.heap.size E al w'->(∀x∈al,∃v,E x.i=H v)->be P l.toArray Q (l.drop n) (gY E al X) w') ol a):(Code.region id l.toArray N).wp P Q a w:=by
 simp only[ck,Y2] at A;obtain⟨⟨⟨⟨⟨⟨V,hn⟩,D⟩,B⟩,C⟩,am⟩,U⟩:=A;subst ag;have K:n<l.toArray.size:=by simpa using hn
 have I:=C;simp only[Wk,ck,Y2,jy,jc] at I;obtain⟨⟨⟨av,au⟩,J⟩,ar⟩:=I;generalize ae:al.foldl (λs x=>s.setIfInBounds x.i N) (ig l.toArray.size X7)=d at U;have aq:∀(r:List Al)(s:Array Bool),(r.foldl (λs x=>s.setIfInBounds x.i N) s).size=s.size/\∀j,j<s.size->(r.foldl (λs x=>s.setIfInBounds x.i N) s).getD j X7=(s.getD j X7||r.any λx=>x.i == j):=by
  intro r
  induction r with
  |nil=>intro s;exact⟨O,λj _=>by simp⟩
  |cons x r ih=>
   intro s;obtain⟨k,m⟩:=ih (s.setIfInBounds x.i N);refine⟨by rw[lq,k];simp,λj hj=>?_⟩;rw[lq,m j (by simpa using hj),List.any_cons];by_cases e:x.i=j
   . subst e
     simp[hj]
   have Y:(x.i == j)=X7:=by simpa using e
   rw[getD_set_ne X7 e,Y,li]
 obtain⟨M,T⟩:=aq al (ig l.toArray.size X7);rw[ae] at M T;have z:d.size=l.toArray.size:=by rw[M];simp
 have u:∀j,d.getD j X7=al.any λx=>x.i == j:=λj=>by
  rcases ej j l.toArray.size with hj|hj
  .rw[T j (by simpa using hj),getD_replicate_false,li]
  have k:d.getD j X7=X7:=by rw[nh,mj (by omega)];rfl
  rw[k]
  symm
  rw[Bool.eq_false_iff];intro m;obtain⟨x,c,p⟩:=il.1 m;have q:x.i=j:=by simpa using p
  have:x.i<n:=by simpa using J x c
  omega
 have ao:HeadInv .any l.toArray n (ig l.toArray.size X7):=
  ⟨by simp,λj oj _ o=>(by rw[getD_replicate_false] at o;cases o),λt _ F=>getD_in (by simpa using F) (getD_replicate_false _ _)⟩
 have ap:HeadInv .any l.toArray n d:=by
  refine⟨z,λj oj af o e he hb=>?_,λt F ah=>getD_in (by rw[z];exact ah) ?_⟩
  . rw[u] at o
    obtain⟨x,c,p⟩:=il.1 o;have q:x.i=j:=by simpa using p
    obtain⟨ty,pos,after,L,aa,_⟩:=G x c;rw[q,af] at L;cases L;have:=Array.all_eq_true_iff_forall_mem.1 aa e he;simp[hb] at this
  rw[u,Bool.eq_false_iff]
  intro m;obtain⟨x,c,p⟩:=il.1 m;have q:x.i=t:=by simpa using p
  have:x.i<n:=by simpa using J x c
  omega
 refine wp_region_any hm ?_;obtain⟨b,S⟩:∃b,b=({ w with drawn:=w.drawn+1 }:an):=⟨_,rfl⟩
 rw[<-S];have c:eR w b:=by rw[S];exact (eR.refl w).drawn
 have W:=Oa (md:=.any) (g:=l.length-n) V D B K f d a ap U (h b c);have ak:cnt (λ_=>X8) al=al.length:=by
  unfold cnt;simp
 have key:=sim (md:=.any) (P:=P) (ops:=l.toArray) (w0:=b) (Q':=Q) (tl:=l.drop n) (g:=l.length-n) (al:=al) V D B K G C (λj=>by simp[dn]) (by simp) (λa E w' ai ad aj Z=>Z E w' ai ad aj)
  (f.length+al.length) f.length (λ_=>X8) (ig l.toArray.size X7) d a b (by rw[ak]) ao (by rw[z];simp) (λj=>by rw[getD_replicate_false,li];exact u j)
  (λx _=>⟨λ_=>getD_replicate_false _ _,λ_=>rfl⟩) (eR.refl b) ⟨λx _ v hv=>(by cases hv),λx _ y _ _ g g' k _=>(by cases k)⟩ W
 have ab:∀r:List Al,gY (λ_=>X8) r a=a:=by
  intro r
  induction r with
  |nil=>rfl
  |cons x r ih=>exact ih
 rw[ab,<-am] at key;have e:n+(l.length-n)=l.toArray.size:=by rw[gy];omega
 rwa [e] at key
end
section
variable{P:B}{ops:Array Oper}{w0:an}{L:Act->Prop}{ds:List d_}{l:List am}{rest:List Oper}{d:Nat}{op:Op}{ty:ba}{pos:String}{after:Array Edge}{v:am}{x y:cw}{T:ba}
def agq(a:∀w,eR w0 w->Eo P l op ty v w)(h:Ba P ops w0 L rest (Fr (l.set d v) ds)):Ba P ops w0 L (cj (H d) op ty pos after X8::rest) (Fr l ds):=by
 refine⟨v,.inl ⟨by simp[Region.wanted],λw b=>?_⟩,?_⟩
 . unfold mf
   rw[jO,a w b _ rfl rfl];exact⟨O,O⟩
 show Ba P ops w0 L rest ((Fr l ds).put (H d) v)
 rw[iK];exact h
def gA(a:gX P l op ty v)(h:Ba P ops w0 L rest (Fr (l.set d v) ds)):Ba P ops w0 L (cj (H d) op ty pos after X8::rest) (Fr l ds):=agq (λw _=>a w) h
def dA(e:ev l x=.pointer (H a))(c:∀w',eR w0 w'->eZ P w' T a v)(h:Ba P ops w0 L rest (Fr (l.set d v) ds)):Ba P ops w0 L (cj (H d) (.load T x) ty pos after X8::rest) (Fr l ds):=
 agq (λ_ b=>cT e (c _ b)) h
def adp{f:FuncId}{a:cw}{xs:Array cw}{args:List am}{first cap:Array am}{a0:Array ba}(i:ev l a=.func (.func f) first cap)(j:first.toList++xs.toList.map (ev l)++cap.toList=args)(b:∀w',eR w0 w'->cX P f args w' λu _=>u=v)
 (h:Ba P ops w0 L rest (Fr (l.set d v) ds)):Ba P ops w0 L (cj (H d) (.call { callee:=.value a,args:=xs,argTypes:=a0 }) ty pos after X8::rest) (Fr l ds):=by
 refine⟨v,.inl ⟨by simp[Region.wanted],λw c=>?_⟩,?_⟩
 . unfold mf
   rw[jO,pX (b w c).1 i j _ rfl];refine⟨O,(b w c).2.mono ?_⟩;rintro e k ⟨u,rfl,g,rfl⟩;exact⟨O,g⟩
 show Ba P ops w0 L rest ((Fr l ds).put (H d) v)
 rw[iK];exact h
def cY{f:FuncId}{a:cw}{xs:Array cw}{args:List am}{first cap:Array am}{a0:Array ba}(c:ev l a=.func (.func f) first cap)(e:first.toList++xs.toList.map (ev l)++cap.toList=args)(b:dO P f args v)
 (h:Ba P ops w0 L rest (Fr (l.set d v) ds)):Ba P ops w0 L (cj (H d) (.call { callee:=.value a,args:=xs,argTypes:=a0 }) ty pos after X8::rest) (Fr l ds):=
 adp c e (λw' _=>b w') h
def rN(h:L (Fr l ds)):Ba P ops w0 L [] (Fr l ds):=h
def al1{md:Region.Mode}{x:Al}(h:xN P md ops x):∀y∈[x],xN P md ops y:=λy hy=>by
 rcases bl.1 hy with rfl|hy
 .exact h
 cases hy
def al2{md:Region.Mode}{x y:Al}(h:xN P md ops x)(k:xN P md ops y):∀z∈[x,y],xN P md ops z:=λz hz=>by
 rcases bl.1 hz with rfl|hz
 .exact h
 exact al1 k z hz
variable{Q:Exit->Act->an->Prop}{tl:List Oper}
def anL{i d:Nat}{T:ba}{cs:List am}(h:∀w' g,eR w0 w'->w0.heap.size<=g->fQ w' g cs T->be P ops Q tl (Fr (l.set d (.pointer (H ⟨g,0,X8⟩))) ds) w') :
 ∀E w',eR w0 w'->Iy w0.heap.size E [⟨i,d,T,cs⟩] w'->(∀x∈[(⟨i,d,T,cs⟩:Al)],∃v,E x.i=H v)->be P ops Q tl (gY E [⟨i,d,T,cs⟩] (Fr l ds)) w':=λE w' c f a=>by
 obtain⟨v,a⟩:=a ⟨i,d,T,cs⟩ (by simp);obtain⟨g,rfl,j,b⟩:=f.1 ⟨i,d,T,cs⟩ (by simp) v a;have e:gY E [⟨i,d,T,cs⟩] (Fr l ds)=Fr (l.set d (.pointer (H ⟨g,0,X8⟩))) ds:=by
  simp only[gY,a];exact iK _ _
 rw[e];exact h w' g c j b
def anM{i d j e:Nat}{T U:ba}{cs us:List am}(s:i≠j)(h:∀w' g k,eR w0 w'->w0.heap.size<=g->w0.heap.size<=k->fQ w' g cs T->fQ w' k us U->k≠g->be P ops Q tl (Fr ((l.set d (.pointer (H ⟨g,0,X8⟩))).set e (.pointer (H ⟨k,0,X8⟩))) ds) w') :
 ∀E w',eR w0 w'->Iy w0.heap.size E [⟨i,d,T,cs⟩,⟨j,e,U,us⟩] w'->(∀x∈[(⟨i,d,T,cs⟩:Al),⟨j,e,U,us⟩],∃v,E x.i=H v)->be P ops Q tl (gY E [⟨i,d,T,cs⟩,⟨j,e,U,us⟩] (Fr l ds)) w':=λE w' o c f=>by
 obtain⟨v,a⟩:=f ⟨i,d,T,cs⟩ (by simp);obtain⟨u,b⟩:=f ⟨j,e,U,us⟩ (by simp);obtain⟨g,rfl,q,n⟩:=c.1 ⟨i,d,T,cs⟩ (by simp) v a;obtain⟨k,rfl,r,p⟩:=c.1 ⟨j,e,U,us⟩ (by simp) u b;have m:gY E [⟨i,d,T,cs⟩,⟨j,e,U,us⟩] (Fr l ds)=Fr ((l.set d (.pointer (H ⟨g,0,X8⟩))).set e (.pointer (H ⟨k,0,X8⟩))) ds:=by
  simp only[gY,a,b];rw[iK,iK]
 rw[m];exact h w' g k o q r n p (Ne.symm (c.2 ⟨i,d,T,cs⟩ (by simp) ⟨j,e,U,us⟩ (by simp) s g k a b))
end
end
section
section
variable{P:B}{ops:Array Oper}{w0:an}{ds:List d_}{l:List am}{Q:Exit->Act->an->Prop}{tl:List Oper}
end
end
section
open Go.RowKit
section
variable{P:B}{ds:List d_}{l:List am}{T ty:ba}{ops:Array Oper}{Q:Exit->Act->an->Prop}{rest:List Oper}{d:Nat}{pos:String}{after:Array Edge}{w:an}
def kC{E:ba}{c n:Nat}{z:am}{parts:Array (Nat×cw)}{vs:Array (Nat×am)}{base:Array am}{cs:List am}(s:P.underlying T=H (.slice E))(a:(P.info? E).map (λi=>(i.size,i.zero))=H (c,H z))(m:n*c≠0)(u:n*c<=16777216)
 (p:((pu (n*c)).map λi=>z.cells[i%z.cells.size]!)=base) (r:(parts.map λ(i,x)=>(i,ev l x))=vs) (f:Instr.fill (λi=>H (i*c,c)) base vs.toList=H cs.toArray)
 (h:∀w' g,eR w w'->w.heap.size<=g->fQ w' g cs E->be P ops Q rest (Fr (l.set d (.slice (H ⟨g,0,X8⟩) n n)) ds) w') :
 be P ops Q (cj (H d) (.buildSlice T n parts) ty pos after X8::rest) (Fr l ds) w:=by
 subst p;subst r;cases b:P.info? E with
 |none=>rw[b] at a;cases a
 |some i=>
  rw[b] at a;simp only[fu,jn,iy] at a;obtain⟨j,k⟩:=a;have e:(Fr l).eval=ev l:=funext dM;have t:¬16777216<n*c:=by omega
  refine pC (w':=w.alloc (.cells cs.toArray E)) (v:=.slice (H ⟨w.heap.size,0,X8⟩) n n) (λo q _=>?_) (h _ _ ((eR.refl w).alloc _) (bg _) (kM w cs E));simp only[eh,q,e];simp[Instr.buildSlice,dg s,sizeOf,typeInfo,zeroValue,b,j,k,t,newRow,newObj,Sem.run] at f ⊢;rw[K0 m];simp[f];rfl
end
end
section
variable{B x i n k a m d g cap off c s q r P vd two top two3 v2 sh sec a3:Nat}{xs ys os us vs:List Nat}{w:an}{A:Option Addr}
/-! ### Digits -/
def val(B:Nat):List Nat->Nat
 | []=>0
 |x::xs=>x+B*val B xs
def trim:List Nat->List Nat
 | []=>[]
 |x::xs=>if trim xs=[]/\x=0 then [] else x::trim xs
def G(B:Nat)(xs:List Nat):Prop:=∀x∈xs,x<B
theorem fI(B:Nat):∀xs ys:List Nat,val B (xs++ys)=val B xs+B^xs.length*val B ys
 | [],ys=>by simp[val]
 |x::xs,ys=>by simp only[dx,val,fI B xs ys,bh,gd];grind
theorem kJ{B:Nat}:∀{xs:List Nat},G B xs->val B xs<B^xs.length
 | [],_=>by simp[val]
 |x::xs,h=>by
  have d:x<B:=h x (by simp);have a:=kJ (xs:=xs) λy c=>h y (by simp[c]);simp only[val,bh,gd];have b:val B xs+1<=B^xs.length:=a;have:=fp B b
  grind
def kY(B:Nat):∀xs:List Nat,val B (trim xs)=val B xs
 | []=>rfl
 |x::xs=>by
  have ih:=kY B xs;simp only[trim];split
  .rename_i h;rw[h.1] at ih;simp only[val] at ih ⊢;rw[<-ih,h.2];simp
  simp only[val,ih]
def jP:∀xs:List Nat,trim xs=xs.take (trim xs).length
 | []=>rfl
 |x::xs=>by
  simp only[trim];split
  .rfl
  simp only[bh,ic];rw[<-jP xs]
def G.take(h:G B xs)(n:Nat):G B (xs.take n):=λx a=>h x (gj a)
def G.drop(h:G B xs)(n:Nat):G B (xs.drop n):=λx a=>h x (kq a)
def G.trim{B:Nat}{xs:List Nat}(h:G B xs):G B (trim xs):=by rw[jP];exact h.take _
def G.append(h:G B xs)(k:G B ys):G B (xs++ys):=λx a=>by
 rcases bz.1 a with h'|h'
 .exact h x h'
 exact k x h'
def mE(B:Nat):G B []:=λ_ h=>by cases h
def nQ(a:x<B)(h:G B xs):G B (x::xs):=λy b=>by
 rcases bl.1 b with rfl|h'
 .exact a
 exact h y h'
def G.set(h:G B xs)(b:x<B):G B (xs.set i x):=λy c=>by
 rcases iv c with a|rfl
 .exact h y a
 exact b
def G.get(h:G B xs)(a:xs[i]? = H x):x<B:=h x (ak a)
def iI(xs:List Nat):Prop:=trim xs=xs
def Tq:∀xs:List Nat,trim (trim xs)=trim xs
 | []=>rfl
 |x::xs=>by
  have ih:=Tq xs;simp only[trim];split
  .rfl
  rename_i h;simp only[trim,ih];rw[K0 h]
def lY(xs:List Nat):iI (trim xs):=Tq xs
def iI.tail(h:iI (x::xs)):iI xs:=by
 unfold iI at *
 simp only[trim] at h;split at h
 .cases h
 simpa using h
def Gk{B:Nat}(a:0<B):∀{xs:List Nat},iI xs->xs≠[]->0<val B xs
 | [],_,h=>Y0 rfl h
 |x::xs,b,_=>by
  simp only[val];by_cases c:xs=[]
  . subst c
    have:x≠0:=by
     rintro rfl;simp[iI,trim] at b
    omega
  have:=Nat.mul_pos a (Gk a b.tail c)
  omega
def uU{B:Nat}(i:1<B):∀{xs ys:List Nat},G B xs->G B ys->iI xs->iI ys->val B xs=val B ys->xs=ys
 | [],[],_,_,_,_,_=>rfl
 | [],y::ys,_,_,_,b,h=>by have:=Gk (B:=B) (by omega) b (by simp);rw[<-h] at this;simp[val] at this
 |x::xs,[],_,_,a,_,h=>by have:=Gk (B:=B) (by omega) a (by simp);rw[h] at this;simp[val] at this
 |x::xs,y::ys,a,b,j,ty,h=>by
  simp only[val] at h;have f:x<B:=a x (by simp);have g:y<B:=b y (by simp);have d:x=y:=by
   have:=Y1 (· % B) h;simpa[Nat.add_mul_mod_self_left,kp f,kp g] using this
  subst d;have e:val B xs=val B ys:=by
   have:B*val B xs=B*val B ys:=by omega
   exact Nat.eq_of_mul_eq_mul_left (by omega) this
  rw[uU i (λz c=>a z (by simp[c])) (λz c=>b z (by simp[c])) j.tail ty.tail e]
def Tr(B:Nat):Nat->Nat->List Nat
 |0,_=>[]
 |f+1,n=>if n=0 then [] else (n%B)::Tr B f (n / B)
def digs(B n:Nat):List Nat:=Tr B n n
def xP{B:Nat}(c:1<B):∀(f n:Nat),n<=f->val B (Tr B f n)=n/\G B (Tr B f n)/\iI (Tr B f n)
 |0, n, h=> by
  obtain rfl:n=0:= by omega
  exact⟨O,mE B,O⟩
 |f+1,n,h=>by
  simp only[Tr];split
  .rename_i b;exact⟨by simp[val,b],mE B,O⟩
  rename_i b
  have j:n / B<=f:=by
   have:=Nat.div_lt_self (Nat.pos_of_ne_zero b) c;omega
  obtain⟨a,d,e⟩:=xP c f (n / B) j;refine⟨by simp only[val,a];exact Nat.mod_add_div n B,nQ (kd _ (by omega)) d,?_⟩;unfold iI at *
  simp only[trim,e];rw[K0];rintro⟨g,i⟩;rw[g] at a;simp only[val] at a;have:=Nat.mod_add_div n B;rw[i,<-a] at this;omega
def rO(a:1<B)(n:Nat):val B (digs B n)=n:=(xP a n n (bg _)).1
def tH(a:1<B)(n:Nat):G B (digs B n):=(xP a n n (bg _)).2.1
def qA(a:1<B)(n:Nat):iI (digs B n):=(xP a n n (bg _)).2.2
def nR(a:1<B)(h:G B xs)(b:val B xs=n):trim xs=digs B n:=
 uU a h.trim (tH a n) (lY xs) (qA a n) (by rw[kY,rO a,b])
def pM(a:1<B):digs B n=[]↔n=0:=by
 constructor
 .intro h;rw[<-rO a n,h];rfl
 rintro rfl;rfl
theorem eQ(b:1<B)(h:n<B^k):(digs B n).length<=k:=by
 rcases ej k (digs B n).length with d|hge
 . exfalso
   have g:(digs B n)≠[]:=by intro f;rw[f] at d;simp at d
   -- the greatest digit is not 0
   have key:∀xs:List Nat,iI xs->xs≠[]->B^(xs.length-1)<=val B xs:=by
    intro xs
    induction xs with
    |nil=>intro _ h;exact Y0 O h
    |cons x xs ih=>
     intro c _;by_cases a:xs=[]
     . subst a
       have:=Gk (B:=B) (by omega) c (by simp);simp[val] at this ⊢;omega
     have:=ih c.tail a
     have i:xs.length≠0:=by simpa using a
     simp only[bh,val,g_];have e:xs.length=(xs.length-1)+1:=by omega
     rw[e,gd];have:=fp B this
     grind
   have:=key _ (qA b n) g;rw[rO b] at this;have j:B^k<=B^((digs B n).length-1):=fq (by omega) (by omega);omega
 exact hge
/-! ### Numbers as values -/
def cQ(n:Int):Bool:=decide (n<0)
def mY(n:Nat):List UInt8:=(digs 256 n).reverse.map eu
def dQ(n:Int):ByteArray:=⟨(mY n.natAbs).toArray⟩
def W(n:Int):am:=.agg #[.bool (cQ n),.string (dQ n)]
def Bd(k:Nat)(n:Int):Prop:=n.natAbs<2^k
def Bd.mono{b:Nat}{n:Int}(h:Bd a n)(c:a<=b):Bd b n:=bc h (fq (by omega) c)
def Bd.neg{n:Int}(h:Bd a n):Bd a (-n):=by unfold Bd at *;rwa [Int.natAbs_neg]
def Bd.add{b:Nat}{m n:Int}(h:Bd a m)(k:Bd b n):Bd (max a b+1) (m+n):=by
 unfold Bd at *
 have c:(m+n).natAbs<=m.natAbs+n.natAbs:=Int.natAbs_add_le m n;have d:2^a<=2^max a b:=fq (by omega) (Nat.le_max_left a b);have e:2^b<=2^max a b:=fq (by omega) (Nat.le_max_right a b);rw[gd];omega
def Bd.sub{b:Nat}{m n:Int}(h:Bd a m)(k:Bd b n):Bd (max a b+1) (m-n):=by rw[Int.sub_eq_add_neg];exact h.add k.neg
def Bd.mul{b:Nat}{m n:Int}(h:Bd a m)(k:Bd b n):Bd (a+b) (m*n):=by
 unfold Bd at *
 rw[Int.natAbs_mul,kh];exact Nat.mul_lt_mul_of_lt_of_lt h k
def Bd.of_i64{n:Int}(a : -9223372036854775808<=n)(b:n<=9223372036854775807):Bd 64 n:=by
 unfold Bd;omega
def Cv(k:Nat):Bd k 0:=by unfold Bd;exact mr k
def Bd.of_le{m n:Int}(h:Bd a n)(b:m.natAbs<=n.natAbs):Bd a m:=fr b h
def Ts(n:Int):(dQ n).size=(digs 256 n.natAbs).length:=by simp[dQ,ByteArray.size,mY]
def Wl{n:Int}(h:Bd k n):(dQ n).size<=k:=by
 rw[Ts];refine eQ (by omega) (bc h ?_);rw[show 256=2^8 from rfl,<-pg];exact fq (by omega) (by omega)
def aae(h:mY m=mY n):m=n:=by
 have key:∀k,val 256 (((mY k).map jo).reverse)=k:=by
  intro k;have e:((mY k).map jo).reverse=digs 256 k:=by
   unfold mY;rw[List.map_map,<-List.map_reverse,List.reverse_reverse];have:∀x∈digs 256 k,(jo∘eu) x=x:=by
    intro x a;have:=tH (B:=256) (by omega) k x a;simp;omega
   exact (lf this).trans (List.map_id' _)
  rw[e,rO (by omega)]
 rw[<-key m,<-key n,h]
def aqx{m n:Int}(h:W m=W n):m=n:=by
 simp only[W,Value.agg.injEq,Array.mk.injEq,ph,Value.bool.injEq,Value.string.injEq,Y8] at h;obtain⟨a,b⟩:=h;have c:m.natAbs=n.natAbs:=by
  have:mY m.natAbs=mY n.natAbs:=by simpa[dQ] using b
  exact aae this
 unfold cQ at a;have:(m<0)↔(n<0):=by simpa using a
 omega
structure dX(w:an)(A:Option Addr)(n cap:Nat)(xs:List Nat):Prop where
 eq:n=xs.length
 row:∀(i x:Nat),xs[i]? = H x->∃a,A=H a/\w.cell? (a.add i)=H (.int .u64 (x:Int))
 le:xs.length<=cap
 cap:cap<=9223372036854775807
 len:xs.length<=17592186044416
 digs:G 4294967296 xs
section
variable{w:an}{A:Option Addr}{n cap:Nat}{xs:List Nat}
def dX.ext{w':an}(h:dX w A n cap xs)(b:eR w w'):dX w' A n cap xs:=
 ⟨h.eq,λi x d=>let ⟨a,e,c⟩:=h.row i x d;⟨a,e,b.cell c⟩,h.le,h.cap,h.len,h.digs⟩
def dX.take(h:dX w A n cap xs)(k:Nat):dX w A (xs.take k).length cap (xs.take k):=
 ⟨rfl,λi x a=>h.row i x (by rw[fa] at a;split at a;exact a;cases a),ay (by simp;omega) h.le,h.cap,ay (by simp;omega) h.len,h.digs.take k⟩
def dX.get(h:dX w A n cap xs){i:Nat}(b:i<xs.length):∃a,A=H a/\w.cell? (a.add i)=H (.int .u64 ((xs[i]:Nat):Int))/\xs[i]<4294967296:=
 let ⟨a,e,c⟩:=h.row i xs[i] (ah b);⟨a,e,c,h.digs _ (fe b)⟩
def dX.as(h:dX w A n cap xs){ys:List Nat}(e:xs=ys):dX w A n cap ys:=e▸h
end
def qB:∀ys:List Nat,trim (ys++[0])=trim ys
 | []=>by simp[trim]
 |y::ys=>by simp only[dx,trim,qB ys]
def rG{x:Nat}(a:x≠0):∀ys:List Nat,trim (ys++[x])=ys++[x]
 | []=>by simp[trim,a]
 |y::ys=>by simp only[dx,trim,rG a ys];rw[K0 (by simp)]
def Iz(a:0<k)(h:k-1<xs.length):xs.take k=xs.take (k-1)++[xs[k-1]]:=by
 have e:k=(k-1)+1:=by omega
 conv=>lhs;rw[e]
 rw[List.take_succ_eq_append_getElem h]
def Tt(a:0<k)(h:k-1<xs.length)(c:((xs[k-1]:Nat):Int)=0)(b:trim (xs.take k)=trim xs):trim (xs.take (k-1))=trim xs:=by
 rw[<-b,Iz a h,show xs[k-1]=0 by omega,qB]
def aaf(a:0<k)(h:k-1<xs.length)(c:¬((xs[k-1]:Nat):Int)=0)(b:trim (xs.take k)=trim xs):k=(trim xs).length:=by
 rw[<-b,Iz a h,rG (by omega)];simp;omega
def aag(a:trim (xs.take 0)=trim xs):0=(trim xs).length:=by rw[<-a];rfl
/-! ### Words in a block -/
abbrev lZ(x:Nat):am:=.int .u64 (x:Int)
def iN(a:i<os.length):over (os.map lZ) i [lZ d]=(os.set i d).map lZ:=by
 unfold over;rw[List.set_eq_take_append_cons_drop,Z9 a];simp[List.map_take,List.map_drop]
def iW(n:Nat):bn n (Value.int .u64 0)=(bn n 0).map lZ:=by simp[lZ]
def fQ.word{t:ba}(h:fQ w g (os.map lZ) t)(a:i<os.length):w.cell? ⟨g,i,X8⟩=H (.int .u64 ((os[i]:Nat):Int)):=
 h.cell (by simp[a])
def fQ.nat{t:ba}(h:fQ w g (os.map lZ) t)(a:G 4294967296 os)(c:n=os.length)(d:n<=17592186044416):dX w (H ⟨g,0,X8⟩) n n os:=
 ⟨c,λi x b=>⟨_,rfl,by rw[cA,ae];exact h.cell (by simp[b])⟩,by omega,by omega,by omega,a⟩
def jF(n:Nat)(v:am)(w:an):Prop:=∃A cap,v=.slice A (digs 4294967296 n).length cap/\dX w A (digs 4294967296 n).length cap (digs 4294967296 n)
def jF.of_trim(h:dX w A k cap xs)(b:val 4294967296 xs=n):jF n (.slice A (trim xs).length cap) w:=by
 have e:trim xs=digs 4294967296 n:=nR (by omega) h.digs b;refine⟨A,cap,by rw[e],?_⟩;have a:=h.take (trim xs).length;rw[<-jP,e] at a;exact a
def wL(w:an)(v:am):Prop:=∀a n c,v=.slice (H a) n c->w.heap.size<=a.block
def wL.of_blk(h:w.heap.size<=g):wL w (.slice (H ⟨g,off,X8⟩) n c):=λa b c' e=>by cases e;exact h
def tI(a:Addr)(i:Nat):(a.add i).block=a.block:=by unfold Addr.add;split<;>rfl
def Chg.cell{w':an}(h:Chg w w' g){a:Addr}(b:a.block≠g):w'.cell? a=w.cell? a:=by
 unfold World.cell?;rw[h.block _ b]
def dX.chg{w':an}(h:dX w A n cap xs)(b:Chg w w' g)(f:∀a,A=H a->a.block≠g):dX w' A n cap xs:=
 ⟨h.eq,λi x d=>let ⟨a,e,c⟩:=h.row i x d;⟨a,e,by rw[b.cell (by rw[tI];exact f a e)];exact c⟩,h.le,h.cap,h.len,h.digs⟩
/-! ### Sums of digits -/
theorem mZ{B:Nat}:∀{os:List Nat}{j d:Nat}(a:j<os.length),val B (os.set j d)+B^j*os[j]=val B os+B^j*d
 |x::xs,0,d,_=>by simp[val];omega
 |x::xs,j+1,d,h=>by
  have ih:=mZ (B:=B) (os:=xs) (j:=j) (d:=d) (by simpa using h);simp only[e,val,List.getElem_cons_succ,gd];have:=Y1 (B * ·) ih;simp only[ki] at this
  grind
def fZ(B n:Nat):val B (bn n 0)=0:=by
 induction n with
 |zero=>rfl
 |succ n ih=>simp[List.replicate_succ,val,ih]
def dF(a:i<xs.length):val B (xs.take (i+1))=val B (xs.take i)+B^i*xs[i]:=by
 rw[List.take_succ_eq_append_getElem a,fI,bf,de (by omega)];simp[val]
def pN(a:xs.length<=i):val B (xs.take i)=val B xs:=by rw[ap a]
def lC   : (os.set i d).drop (i+1)=os.drop (i+1):=by
 apply fy;intro j;simp only[dn];rw[lx (by omega)]
def jQ(h:os.drop i=bn n 0)(a:i<os.length):os[i]=0/\os.drop (i+1)=bn (n-1) 0:=by
 rw[dw a] at h;cases n with
 |zero=>cases h
 |succ n=>simp only[List.replicate_succ,ph] at h;exact⟨h.1,by simpa using h.2⟩
theorem aah{B:Nat}{os:List Nat}{i d c c' s t T:Nat}(b:i<os.length)(e:os[i]+s+c=d+B*c')(g:val B os+B^i*c=T)(h:T+B^i*s=t) :
 val B (os.set i d)+B^(i+1)*c'=t:=by
 have f:=mZ (B:=B) (d:=d) b;have a:=Y1 (B^i * ·) e;simp only[ki] at a;rw[gd]
 grind
/-! ### Order -/
def Wm(a b:Nat):Int:=if a<b then -1 else if b<a then 1 else 0
def Ea(j:1<B)(f:G B xs)(g:k<xs.length)(i:k<ys.length)(e:xs.drop (k+1)=ys.drop (k+1))(h:xs[k]<ys[k]):val B xs<val B ys:=by
 have a:val B xs=val B (xs.take (k+1))+B^(k+1)*val B (xs.drop (k+1)):=by
  conv=>lhs;rw[<-fi (k+1) xs]
  rw[fI,bf,de (by omega)]
 have b:val B ys=val B (ys.take (k+1))+B^(k+1)*val B (ys.drop (k+1)):=by
  conv=>lhs;rw[<-fi (k+1) ys]
  rw[fI,bf,de (by omega)]
 rw[a,b,e,dF g,dF i];have c:=kJ (f.take k);rw[bf,de (by omega)] at c;have d:B^k*(xs[k]+1)<=B^k*ys[k]:=fp _ h;rw[ki] at d;omega
def lJ(a:1<B)(d:G B xs)(f:G B ys)(ty:iI ys)(h:xs.length<ys.length):val B xs<val B ys:=by
 rcases ej (val B xs) (val B ys) with g|hge
 .exact g
 exfalso
 have e:ys=digs B (val B ys):=uU a f (tH a _) ty (qA a _) (by rw[rO a]);have b:val B ys<B^xs.length:=fr hge (kJ d);have c:=eQ a b;rw[<-e] at c;omega
/-! ### The machine's numbers -/
def lD(x:Int):IntKind.u64.wrap x=x%18446744073709551616:=by simp[mg,mi,lk]
def rP{s:Int}(c:0<=s)(d:s<18446744073709551616):IntKind.u64.wrap ((el IntKind.u64.bits s &&& el IntKind.u64.bits 4294967295).toNat:Int)=s%4294967296:=by
 obtain⟨n,rfl⟩:=Int.eq_ofNat_of_zero_le c;have f:n<18446744073709551616:=by omega
 have e:(el 64 (n:Int) &&& el 64 4294967295).toNat=n%4294967296:=by
  rw[BitVec.toNat_and];have a:(el 64 (n:Int)).toNat=n:=by simp[pq];omega
  have b:(el 64 4294967295).toNat=2^32-1:=by decide
  rw[a,b,Nat.and_two_pow_sub_one_eq_mod]
 show IntKind.u64.wrap ((el 64 (n:Int) &&& el 64 4294967295).toNat:Int)=_
 rw[e,oK (by omega) (by omega)];omega
def Tu{s:Int}(a:0<=s):s.fdiv (2^(min (32:Int).toNat IntKind.u64.bits))=s / 4294967296:=by
 show s.fdiv (2^32)=_
 rw[gl _ (by decide)];rfl
def amL{s:Int}(a:0<=s):s.fdiv (2^(min (63:Int).toNat IntKind.u64.bits))=s / 9223372036854775808:=by
 show s.fdiv (2^63)=_
 rw[gl _ (by decide)];rfl
/-! ### Addresses of words -/
def lK{a:Addr}{m:Int}(h:m.toNat=q):a.add (m.toNat*1)=a.add q:=by rw[h,bi]
def kV{a:Addr}{m:Int}(h:m.toNat=q):a.add (m.toNat*c)=a.add (q*c):=by rw[h]
def mQ{m:Int}(h:m.toNat=q):(⟨g,0,X8⟩:Addr).add (m.toNat*1)=⟨g,q,X8⟩:=by rw[h,bi,cA,ae]
def Eu{m:Int}(h:m.toNat=q):(⟨g,0,X8⟩:Addr).add (m.toNat*c)=⟨g,q*c,X8⟩:=by rw[h,cA,ae]
def dX.at{a:Addr}(h:dX w (H a) n cap xs)(c:i<xs.length):w.cell? (a.add i)=H (.int .u64 ((xs[i]:Nat):Int)):=by
 obtain⟨d,e,b⟩:=h.row i xs[i] (ah c);cases e;exact b
/-! ### Rounds -/
def agr(b:G 4294967296 xs)(e:0<k)(c:k-1<xs.length)(d:k-1<ys.length)(a:xs.drop k=ys.drop k)(h:((xs[k-1]:Nat):Int)<((ys[k-1]:Nat):Int)):val 4294967296 xs<val 4294967296 ys:=
 Ea (by omega) b c d (by rw[show k-1+1=k by omega];exact a) (by omega)
def aeG(f:0<k)(b:k-1<xs.length)(c:k-1<ys.length)(a:xs.drop k=ys.drop k)(d:¬((xs[k-1]:Nat):Int)<((ys[k-1]:Nat):Int))(e:¬((ys[k-1]:Nat):Int)<((xs[k-1]:Nat):Int)):xs.drop (k-1)=ys.drop (k-1):=by
 rw[dw b,dw c,show k-1+1=k by omega,a,show xs[k-1]=ys[k-1] by omega]
def Cw{os xs ys:List Nat}{i c s:Nat}(d:i<xs.length)(n:os.length=xs.length+1)(e:val 4294967296 os+4294967296^i*c=val 4294967296 (xs.take i)+val 4294967296 (ys.take i))(f:os.drop i=bn (xs.length+1-i) 0)(b:G 4294967296 os)(j:c<=1)
 (k:s=xs[i]+c+ys[i]?.getD 0) (l:xs[i]<4294967296) (m:ys[i]?.getD 0<4294967296) :
 val 4294967296 (os.set i (s%4294967296))+4294967296^(i+1)*(s / 4294967296)=val 4294967296 (xs.take (i+1))+val 4294967296 (ys.take (i+1))/\(os.set i (s%4294967296)).drop (i+1)=bn (xs.length+1-(i+1)) 0/\G 4294967296 (os.set i (s%4294967296))/\s / 4294967296<=1:=by
 obtain⟨g,h⟩:=jQ f (by omega);refine⟨?_,?_,b.set (kd _ (by omega)),by omega⟩
 . refine aah (s:=xs[i]+ys[i]?.getD 0) (by omega) (by rw[g];omega) e ?_
   rw[dF d];by_cases a:i<ys.length
   . rw[dF a,ah a]
     simp only[dt,ki];omega
   rw[ct (by omega),pN (xs:=ys) (i:=i+1) (by omega),pN (xs:=ys) (i:=i) (by omega)]
   simp;omega
 rw[lC,h]
 congr 1
def Mp{os xs ys:List Nat}{c:Nat}(f:ys.length<=xs.length)(g:os.length=xs.length+1)(a:val 4294967296 os+4294967296^xs.length*c=val 4294967296 (xs.take xs.length)+val 4294967296 (ys.take xs.length))(b:os.drop xs.length=bn (xs.length+1-xs.length) 0) :
 val 4294967296 (os.set xs.length c)=val 4294967296 xs+val 4294967296 ys:=by
 obtain⟨e,_⟩:=jQ b (by omega);have h:=mZ (B:=4294967296) (d:=c) (show xs.length<os.length by omega);rw[e] at h;rw[ga,pN f] at a;omega
theorem Tv{os xs ys:List Nat}{i c s:Nat}(h:i<xs.length)(r:os.length=xs.length)(o:val 4294967296 os+val 4294967296 (ys.take i)=val 4294967296 (xs.take i)+4294967296^i*c)(j:os.drop i=bn (xs.length-i) 0)(g:G 4294967296 os)(m:c<=1)
 (n:(s:Int)=((xs[i]:Nat)-(c:Nat)-(ys[i]?.getD 0:Nat):Int)%18446744073709551616) (p:xs[i]<4294967296) (q:ys[i]?.getD 0<4294967296) :
 val 4294967296 (os.set i (s%4294967296))+val 4294967296 (ys.take (i+1))=val 4294967296 (xs.take (i+1))+4294967296^(i+1)*(s / 9223372036854775808)/\(os.set i (s%4294967296)).drop (i+1)=bn (xs.length-(i+1)) 0/\G 4294967296 (os.set i (s%4294967296))/\s / 9223372036854775808<=1:=by
 obtain⟨k,l⟩:=jQ j (by omega);have key:xs[i]+4294967296*(s / 9223372036854775808)=s%4294967296+c+ys[i]?.getD 0:=by omega
 refine⟨?_,?_,g.set (kd _ (by omega)),by omega⟩
 . have b:=mZ (B:=4294967296) (d:=s%4294967296) (show i<os.length by omega)
   rw[k] at b;have e:=Y1 (4294967296^i * ·) key;simp only[ki] at e;rw[dF h,gd];have f:val 4294967296 (ys.take (i+1))=val 4294967296 (ys.take i)+4294967296^i*ys[i]?.getD 0:=by
    by_cases a:i<ys.length
    .rw[dF a,ah a];rfl
    rw[ct (by omega),pN (xs:=ys) (i:=i+1) (by omega),pN (xs:=ys) (i:=i) (by omega)];rfl
   rw[f]
   grind
 rw[lC,l]
 congr 1
def akC{os xs ys:List Nat}{c:Nat}(e:ys.length<=xs.length)(f:os.length=xs.length)(b:G 4294967296 os)(d:val 4294967296 os+val 4294967296 (ys.take xs.length)=val 4294967296 (xs.take xs.length)+4294967296^xs.length*c)(g:val 4294967296 ys<=val 4294967296 xs) :
 val 4294967296 os=val 4294967296 xs-val 4294967296 ys:=by
 rw[ga,pN e] at d;have h:=kJ b;rw[f] at h;have a:c=0:=by
  rcases et c with h0|h0
  .exact h0
  have:=fp (4294967296^xs.length) h0
  omega
 subst a;omega
theorem aeH{os xs ys:List Nat}{i k c s:Nat}(d:i<xs.length)(a:k<ys.length)(f:os.length=xs.length+ys.length)(b:val 4294967296 os+4294967296^(i+k)*c=val 4294967296 (xs.take i)*val 4294967296 ys+4294967296^i*(xs[i]*val 4294967296 (ys.take k)))
 (e:s=os[i+k]+xs[i]*ys[k]+c):val 4294967296 (os.set (i+k) (s%4294967296))+4294967296^(i+(k+1))*(s / 4294967296)=val 4294967296 (xs.take i)*val 4294967296 ys+4294967296^i*(xs[i]*val 4294967296 (ys.take (k+1))):=by
 refine aah (s:=xs[i]*ys[k]) (i:=i+k) (by omega) (by omega) b ?_;rw[dF a,kh]
 grind
def rQ{j:Nat}(h:i<j):(os.set i d).drop j=os.drop j:=by
 apply fy;intro m;simp only[dn];rw[lx (by omega)]
theorem akD{os xs ys:List Nat}{i c:Nat}(a:i<xs.length)(j:os.length=xs.length+ys.length)(b:val 4294967296 os+4294967296^(i+ys.length)*c=val 4294967296 (xs.take i)*val 4294967296 ys+4294967296^i*(xs[i]*val 4294967296 (ys.take ys.length)))(e:os.drop (i+ys.length)=bn (xs.length-i) 0) :
 val 4294967296 (os.set (i+ys.length) c)=val 4294967296 (xs.take (i+1))*val 4294967296 ys/\(os.set (i+ys.length) c).drop (i+1+ys.length)=bn (xs.length-(i+1)) 0:=by
 obtain⟨f,g⟩:=jQ e (by omega);have h:=mZ (B:=4294967296) (d:=c) (show i+ys.length<os.length by omega);rw[f] at h;rw[ga] at b;refine⟨?_,?_⟩
 . rw[dF a]
   grind
 rw[show i+1+ys.length=i+ys.length+1 by omega,lC,g]
 congr 1
def ags{y:Nat}(a:x<4294967296)(b:y<4294967296):x*y<=18446744065119617025:=by
 have:=jd (nk a) (nk b);omega
def akE{y:Nat}(a:x<4294967296)(b:y<4294967296):(0:Int)<=(x:Int)*(y:Int)/\(x:Int)*(y:Int)<=18446744065119617025:=by
 have h:=ags a b;have e:((x*y:Nat):Int)=(x:Int)*(y:Int):=la x y;rw[<-e];omega
/-! ### Shifts,divisions by a word -/
def xQ(b:n<64)(h:m*2^n<18446744073709551616):IntKind.u64.wrap ((m:Int)*2^(min (n:Int).toNat IntKind.u64.bits))=((m*2^n:Nat):Int):=by
 have e:min (n:Int).toNat IntKind.u64.bits=n:=by
  show min (n:Int).toNat 64=n
  rw[ab];omega
 rw[e];have a:((m:Int)*2^n)=((m*2^n:Nat):Int):=by simp
 rw[a];exact oK (by omega) (by omega)
def akF(a:n<64):(m:Int).fdiv (2^(min (n:Int).toNat IntKind.u64.bits))=((m / 2^n:Nat):Int):=by
 have e:min (n:Int).toNat IntKind.u64.bits=n:=by
  show min (n:Int).toNat 64=n
  rw[ab];omega
 rw[e,gl _ (by exact Int.le_of_lt (Int.pow_pos (by decide)))];simp
def Wn{b:Nat}(g:a<2^s)(i:b=2^s*c)(h:a+b<18446744073709551616):IntKind.u64.wrap ((el IntKind.u64.bits (a:Int) ||| el IntKind.u64.bits (b:Int)).toNat:Int)=((a+b:Nat):Int):=by
 have e:(el 64 (a:Int) ||| el 64 (b:Int)).toNat=a+b:=by
  rw[BitVec.toNat_or];have d:(el 64 (a:Int)).toNat=a:=by simp[pq];omega
  have f:(el 64 (b:Int)).toNat=b:=by simp[pq];omega
  rw[d,f,Nat.or_comm,i,<-Nat.two_pow_add_eq_or_of_lt g];omega
 show IntKind.u64.wrap ((el 64 (a:Int) ||| el 64 (b:Int)).toNat:Int)=_
 rw[e];exact oK (by omega) (by omega)
def Mq{b:Nat}(d:a<2^s)(e:b=2^s*c)(h:a+b<18446744073709551616):IntKind.u64.wrap ((el IntKind.u64.bits (b:Int) ||| el IntKind.u64.bits (a:Int)).toNat:Int)=((a+b:Nat):Int):=by
 have:=Wn d e h;rwa [BitVec.or_comm] at this
def Mr(h:s<18446744073709551616):IntKind.u64.wrap ((el IntKind.u64.bits (s:Int) &&& el IntKind.u64.bits 4294967295).toNat:Int)=((s%4294967296:Nat):Int):=by
 rw[rP (by omega) (by omega)];omega
def Ms(h:m<18446744073709551616):IntKind.u64.wrap ((m:Int).tdiv (n:Int))=((m / n:Nat):Int):=by
 rw[<-no];have:m / n<=m:=jt m n;generalize m / n=q at *
 exact oK (by omega) (by omega)
def nS  : (m:Int).tmod (n:Int)=((m%n:Nat):Int):=(qj m n).symm
def oL(a:0<k)(h:k-1<xs.length):val B (xs.drop (k-1))=xs[k-1]+B*val B (xs.drop k):=by
 rw[dw h,show k-1+1=k by omega];rfl
theorem aai{os xs:List Nat}{k d r:Nat}(a:0<k)(j:k<=xs.length)(l:os.length=xs.length)(g:val 4294967296 (xs.drop k)=d*val 4294967296 (os.drop k)+r)(f:r<d)(h:G 4294967296 os)(i:xs[k-1]<4294967296) :
 val 4294967296 (xs.drop (k-1))=d*val 4294967296 ((os.set (k-1) ((xs[k-1]+r*4294967296) / d)).drop (k-1))+(xs[k-1]+r*4294967296)%d/\G 4294967296 (os.set (k-1) ((xs[k-1]+r*4294967296) / d))/\(xs[k-1]+r*4294967296)%d<d:=by
 refine⟨?_,h.set ?_,kd _ (by omega)⟩
 . have b:=oL (B:=4294967296) a (show k-1<xs.length by omega)
   have c:=oL (B:=4294967296) (xs:=os.set (k-1) ((xs[k-1]+r*4294967296) / d)) a (by simp;omega);have e:(os.set (k-1) ((xs[k-1]+r*4294967296) / d)).drop k=os.drop k:=rQ (by omega);rw[b,c,e,lp,g];have:=mx (xs[k-1]+r*4294967296) d
   grind
 have:(xs[k-1]+r*4294967296) / d<4294967296:=by
  rw[jr (by omega)];have:(r+1)*4294967296<=d*4294967296:=ft _ f;omega
 exact this
def Od(c:0<d)(b:r<d)(h:a=d*q+r):q=a / d/\r=a%d:=by
 subst h;constructor
 .rw[Nat.mul_add_div c,Nat.div_eq_of_lt b,gi]
 rw[Nat.mul_add_mod,kp b]
def Wo  : (m:Int).fdiv (2^(min (32:Int).toNat IntKind.u64.bits))=((m / 4294967296:Nat):Int):=by
 rw[Tu (by omega)];omega
def anN  : (m:Int).fdiv (2^(min (31:Int).toNat IntKind.u64.bits))=((m / 2147483648:Nat):Int):=by
 show (m:Int).fdiv (2^31)=_
 rw[gl _ (by decide)];omega
def Mt(a:n<=32):x*2^n%4294967296=2^n*(x%2^(32-n)):=by
 have e:(4294967296:Nat)=2^n*2^(32-n):=by rw[<-kh,show n+(32-n)=32 by omega]
 rw[iw,e,Nat.mul_mod_mul_left]
def wM(a:n<=32):(4294967296:Nat)=2^n*2^(32-n):=by rw[<-kh,show n+(32-n)=32 by omega]
def abW(b:n<=32)(d:x<4294967296):x*2^n<18446744073709551616:=by
 have a:2^n<=2^32:=fq (by omega) b;have c:x*2^n<=x*2^32:=fp _ a;omega
def Mu(b:n<=32)(e:a<2^n):a+x*2^n%4294967296<4294967296:=by
 rw[Mt b];have c:x%2^(32-n)<2^(32-n):=kd _ (kj (by omega));have d:2^n*(x%2^(32-n)+1)<=2^n*2^(32-n):=fp _ c;rw[<-wM b,ki] at d;omega
def akG(a:x<4294967296):x*2^n / 4294967296<2^n:=by
 rw[jr (by omega),iw (2^n)];exact ni a (kj (by omega))
theorem aaj{os xs:List Nat}{i n:Nat}(v:n<=31)(l:i<xs.length)(z:os.length=xs.length+1)(y:val 4294967296 os=2^n*val 4294967296 (xs.take i))(p:os.drop (i+1)=bn (xs.length-i) 0)(j:G 4294967296 os)(f:i<os.length)(g:os[i]<2^n)(o:xs[i]<4294967296) :
 val 4294967296 ((os.set i (os[i]+xs[i]*2^n%4294967296)).set (i+1) (xs[i]*2^n / 4294967296))=2^n*val 4294967296 (xs.take (i+1))/\((os.set i (os[i]+xs[i]*2^n%4294967296)).set (i+1) (xs[i]*2^n / 4294967296)).drop (i+1+1)=bn (xs.length-(i+1)) 0/\G 4294967296 ((os.set i (os[i]+xs[i]*2^n%4294967296)).set (i+1) (xs[i]*2^n / 4294967296))/\(∀h:i+1<((os.set i (os[i]+xs[i]*2^n%4294967296)).set (i+1) (xs[i]*2^n / 4294967296)).length,((os.set i (os[i]+xs[i]*2^n%4294967296)).set (i+1) (xs[i]*2^n / 4294967296))[i+1]<2^n):=by
 obtain⟨q,s⟩:=jQ p (by omega);have m:=akG (n:=n) o;have k:=Mu (x:=xs[i]) (by omega) g;have w:2^n<=2^32:=fq (by omega) (by omega);refine⟨?_,?_,(j.set k).set (by omega),?_⟩
 . have b:=mZ (B:=4294967296) (d:=os[i]+xs[i]*2^n%4294967296) f
   have a:=mZ (B:=4294967296) (os:=os.set i (os[i]+xs[i]*2^n%4294967296)) (d:=xs[i]*2^n / 4294967296) (show i+1<_ by simp;omega);rw[lz (by omega),q] at a;rw[dF l];have c:=mx (xs[i]*2^n) 4294967296;generalize xs[i]*2^n / 4294967296=t at *
   generalize u:xs[i]*2^n%4294967296=r at *
   rw[gd] at a;have e:=Y1 (4294967296^i * ·) c;simp only[ki] at e b
   grind
 . rw[lC,rQ (by omega),s]
   congr 1
 intro h
 rw[lp];exact m
def agt(a:n<=32)(b:x<4294967296):x / 2^n<2^(32-n):=by
 rw[jr (kj (by omega)),iw,<-wM a];exact b
def Sq{os xs:List Nat}{n:Nat}(j:n<=32)(e:0<xs.length)(k:os.length=xs.length)(b:val 4294967296 os=val 4294967296 (xs.take 0) / 2^n)(g:os.drop 0=bn (xs.length-0) 0)(c:G 4294967296 os)(f:xs[0]<4294967296) :
 val 4294967296 (os.set 0 (xs[0] / 2^n))=val 4294967296 (xs.take (0+1)) / 2^n/\(os.set 0 (xs[0] / 2^n)).drop (0+1)=bn (xs.length-(0+1)) 0/\G 4294967296 (os.set 0 (xs[0] / 2^n)):=by
 obtain⟨h,i⟩:=jQ g (by omega);refine⟨?_,?_,c.set (fr (jt _ _) f)⟩
 . have a:=mZ (B:=4294967296) (d:=xs[0] / 2^n) (show 0<os.length by omega)
   rw[h] at a;rw[dF e];simp only[im,val,Nat.pow_zero,kl,ae] at b a ⊢;rw[Nat.zero_div] at b;omega
 rw[lC,i]
 congr 1
theorem Sr{V:Nat}(b:V<4294967296^(i+1))(a:n<=32):(V+4294967296^(i+1)*x) / 2^n=V / 2^n+4294967296^i*(2^(32-n)*x):=by
 have e:4294967296^(i+1)*x=2^n*(4294967296^i*(2^(32-n)*x)):=by
  rw[gd];have:=wM a;generalize 2^n=p at *
  generalize 2^(32-n)=q at *
  rw[this]
  grind
 rw[e,Nat.add_mul_div_left _ _ (kj (by omega))]
theorem Ss{os xs:List Nat}{j n:Nat}(f:n<=32)(e:j+1<xs.length)(z:os.length=xs.length)(o:val 4294967296 os=val 4294967296 (xs.take (j+1)) / 2^n)(u:os.drop (j+1)=bn (xs.length-(j+1)) 0)(l:G 4294967296 os)(g:G 4294967296 xs)(y:j<os.length)(k:os[j]<2^(32-n)) :
 val 4294967296 ((os.set (j+1) (xs[j+1] / 2^n)).set j (os[j]+xs[j+1]*2^(32-n)%4294967296))=val 4294967296 (xs.take (j+1+1)) / 2^n/\((os.set (j+1) (xs[j+1] / 2^n)).set j (os[j]+xs[j+1]*2^(32-n)%4294967296)).drop (j+1+1)=bn (xs.length-(j+1+1)) 0/\G 4294967296 ((os.set (j+1) (xs[j+1] / 2^n)).set j (os[j]+xs[j+1]*2^(32-n)%4294967296)):=by
 obtain⟨v,w⟩:=jQ u (by omega);have s:xs[j+1]<4294967296:=g _ (fe e);have m:=Mu (x:=xs[j+1]) (n:=32-n) (by omega) k;refine⟨?_,?_,(l.set (fr (jt _ _) s)).set m⟩
 . have a:=mZ (B:=4294967296) (d:=xs[j+1] / 2^n) (show j+1<os.length by omega)
   have b:=mZ (B:=4294967296) (os:=os.set (j+1) (xs[j+1] / 2^n)) (j:=j) (d:=os[j]+xs[j+1]*2^(32-n)%4294967296) (by simp;omega);rw[lz (by omega)] at b;rw[v] at a;have c:=kJ (g.take (j+1));rw[bf,de (by omega)] at c;rw[dF e,Sr c f,<-o];have h:2^(32-n)*xs[j+1]=4294967296*(xs[j+1] / 2^n)+xs[j+1]*2^(32-n)%4294967296:=by
    rw[Mt (by omega),show 32-(32-n)=n by omega];have i:=mx xs[j+1] (2^n);have:=wM f;generalize 2^n=p at *
    generalize 2^(32-n)=q at *
    conv=>lhs;rw[<-i]
    rw[this]
    grind
   rw[h,ki];generalize xs[j+1]*2^(32-n)%4294967296=r at *
   generalize xs[j+1] / 2^n=t at *
   rw[gd] at a;simp only[ki] at b
   grind
 rw[rQ (by omega),lC,w]
 congr 1
/-! ### Slices of words -/
def dX.nil(w:an):dX w X8 0 0 []:=⟨rfl,λi x a=>by simp at a,bg _,by omega,by simp,λx b=>by cases b⟩
def dX.drop{a:Addr}(h:dX w (H a) n cap xs)(r:k<=xs.length)(d:m=n-k):dX w (H (a.add k)) m (cap-k) (xs.drop k):=by
 have s:=h.len;have q:=h.cap;have c:=h.eq;have u:=h.le;refine⟨by rw[d,c];simp,λi x b=>⟨_,rfl,?_⟩,by simp;omega,by omega,by simp;omega,λx f=>h.digs x (kq f)⟩;obtain⟨p,e,o⟩:=h.row (k+i) x (by rw[dn] at b;exact b);cases e;rw[show (a.add k).add i=a.add (k+i) from ?_]
 .exact o
 obtain⟨g,off,t⟩:=a
 by_cases l:k=0<;>by_cases j:i=0<;>simp[Addr.add,l,j,od]
def dX.head(h:dX w A n cap xs)(a:k<=xs.length):dX w A k cap (xs.take k):=by
 have:=h.take k;rwa [bf,de a] at this
def dX.of_owns{base:Nat}{v:am}{E:ba}(h:wJ w base E 1 v n (xs.map lZ))(j:n=xs.length)(d:G 4294967296 xs)(m:n<=17592186044416):∃A c,v=.slice A n c/\dX w A n c xs:=by
 rcases h.row with ⟨rfl,a,b⟩|⟨g,cap,rfl,_,l,f,_,k⟩
 . subst a
   have:xs=[]:=by simpa using b
   subst this;exact⟨_,_,O,dX.nil w⟩
 refine⟨_,_,O,j,λi x e=>⟨_,O,k i (lZ x) (by rw[dc,e];rfl)⟩,by omega,f,by omega,d⟩
def dX.none{w:an}{n cap:Nat}{xs:List Nat}(h:dX w X8 n cap xs):xs=[]:=by
 cases xs with
 |nil=>rfl
 |cons x xs=>obtain⟨a,e,_⟩:=h.row 0 x rfl;cases e
def akH(xs:List Nat)(v:am)(w:an):Prop:=∃A c,v=.slice A xs.length c/\dX w A xs.length c xs
def agu{b:Nat}:decide (Wm a b<0)=decide (a<b):=by
 unfold Wm;split
 .simp[*]
 split<;>simp[*]
def dX.src(h:dX w A n cap xs):∀(j:Nat)(v:am),(xs.map lZ)[j]? = H v->∃a,A=H a/\w.cell? (a.add j)=H v:=by
 intro j v b;rw[dc] at b;cases c:xs[j]? with
 |none=>rw[c] at b;cases b
 |some x=>
  rw[c] at b;cases b;exact h.row j x c
def agv  : ∀u∈xs.map lZ,u.oneCell'=N:=λu a=>by obtain⟨x,_,rfl⟩:=du.1 a;rfl
def cR(n:Nat):val 4294967296 (digs 4294967296 n)=n:=rO (by omega) n
def fJ(n:Nat):iI (digs 4294967296 n):=qA (by omega) n
def pO(n:Nat):G 4294967296 (digs 4294967296 n):=tH (by omega) n
def tQ(d:Nat):val 4294967296 [d]=d:=by simp[val]
def wN(h:d<4294967296):G 4294967296 [d]:=λx a=>by simp at a;omega
def kP(xs:List Nat):(trim xs).length<=xs.length:=by rw[jP];simp;omega
def sM(h:G 4294967296 xs):(digs 4294967296 (val 4294967296 xs)).length<=xs.length:=eQ (by omega) (kJ h)
def Md(h:G 4294967296 xs)(a:d<4294967296):(digs 4294967296 (val 4294967296 xs*d)).length<=xs.length+1:=by
 refine eQ (by omega) ?_;rw[gd];exact Nat.mul_lt_mul'' (kJ h) a
def laid(os:List Nat)(off n m:Nat):List Nat:=os.take off++(digs 4294967296 m++bn (n-(digs 4294967296 m).length) 0)++os.drop (off+n)
def aak(h:off+n<=os.length)(a:(digs 4294967296 m).length<=n):(laid os off n m).length=os.length:=by
 simp[laid];omega
def Cx(a:G 4294967296 os):G 4294967296 (laid os off n m):=
 ((a.take _).append ((pO m).append λx b=>by rw[ep b];decide)).append (a.drop _)
theorem agw{os:List Nat}{off n m:Nat}(h:off+n<=os.length)(c:(digs 4294967296 m).length<=n) :
 val 4294967296 (laid os off n m)+4294967296^off*val 4294967296 ((os.drop off).take n)=val 4294967296 os+4294967296^off*m:=by
 have a:val 4294967296 os=val 4294967296 (os.take off)+4294967296^off*(val 4294967296 ((os.drop off).take n)+4294967296^n*val 4294967296 (os.drop (off+n))):=by
  have e:os=os.take off++((os.drop off).take n++os.drop (off+n)):=by
   rw[<-ox,fi,fi]
  conv=>lhs;rw[e]
  rw[fI,fI];simp only[bf,ef];rw[de (by omega),de (by omega)]
 have b:val 4294967296 (laid os off n m)=val 4294967296 (os.take off)+4294967296^off*(m+4294967296^n*val 4294967296 (os.drop (off+n))):=by
  unfold laid;rw[di,fI,fI,fI,fZ,cR];simp only[bf,a_,km];rw[de (by omega),show (digs 4294967296 m).length+(n-(digs 4294967296 m).length)=n by omega];simp
 rw[a,b]
 grind
def aeI{cs us vs:List am}(h:off+us.length<=cs.length)(b:vs.length<=us.length):over (over cs off us) off vs=cs.take off++(vs++us.drop vs.length)++cs.drop (off+us.length):=by
 have a:(cs.take off).length=off:=by simp;omega
 unfold over;generalize cs.take off=A at *
 generalize cs.drop (off+us.length)=C at *
 subst a;rw[di A us C,List.take_left' rfl,jz,List.drop_eq_nil_of_le (by omega),ma,List.drop_append_of_le_length b];simp
def aeJ{os:List Nat}{off n m:Nat}(h:off+n<=os.length)(a:(digs 4294967296 m).length<=n) :
 over (over (os.map lZ) off (bn n (.int .u64 0))) off ((digs 4294967296 m).map lZ)=(laid os off n m).map lZ:=by
 rw[aeI (by simpa using h) (by simpa using a)];simp[laid,List.drop_replicate,lZ,List.map_take,List.map_drop]
def vU(xs:List Nat)(a:k<=xs.length):val B xs=val B (xs.take k)+B^k*val B (xs.drop k):=by
 conv=>lhs;rw[<-fi k xs]
 rw[fI,bf,de a]
def agx{V:Nat}(e:0<P)(f:vd<(two+1)*P)(b:top*P<=V)(g:q*V<=vd)(c:0<top):q<=two / top:=by
 rw[Nat.le_div_iff_mul_le c];have d:q*(top*P)<=q*V:=fp _ b;have a:(q*top)*P<(two+1)*P:=by rw[pv];omega
 have:=ll a;omega
def agy{V:Nat}(e:0<P)(f:vd<(two3+1)*P)(b:v2*P<=V)(i:q*V<=vd)(h:two3<g*v2):q<g:=by
 rcases ej q g with c|hge
 .exact c
 exfalso
 have d:g*(v2*P)<=q*V:=jd hge b;have a:(g*v2)*P<(two3+1)*P:=by rw[pv];omega
 have:=ll a;omega
def aal{V:Nat}(i:two3*P<=vd)(c:V<(v2+1)*P)(k:vd<(q+1)*V)(h:g*v2<=two3)(j:g<=v2):g<=q+1:=by
 rcases ej (q+1) g with l|hge
 . exfalso
   obtain⟨e,rfl⟩:∃e,g=e+1:=⟨g-1,by omega⟩
   have d:(q+1)*V<=e*V:=ft _ (by omega);have f:e*V<=e*((v2+1)*P):=fp _ (Nat.le_of_lt c);have a:two3*P<(e*(v2+1))*P:=by rw[pv];omega
   have b:=ll a;rw[ki] at b;rw[gw] at h;omega
 exact hge
def Tw{V:Nat}(d:q*V<=vd)(e:vd<(q+1)*V)(b:q<=g)(c:g<=q+1):(vd<V*g->g-1=q)/\(¬vd<V*g->g=q):=by
 constructor
 . intro h
   rcases ej q g with a|hge
   .omega
   have:V*g<=V*q:=fp _ hge
   rw[iw V q] at this;omega
 intro h
 rcases ej q g with a|hge
 . have:(q+1)*V<=g*V:=ft _ a
   rw[iw V g] at h;omega
 omega
def St(h:off+n<=os.length)(b:(digs 4294967296 m).length<=n):val 4294967296 ((laid os off n m).drop off)=m+4294967296^n*val 4294967296 (os.drop (off+n)):=by
 have a:(os.take off).length=off:=by simp;omega
 unfold laid;rw[di,jz,List.drop_eq_nil_of_le (by omega),a,Nat.sub_self,kv,cv,fI,fI,fZ,cR];simp only[a_,km];rw[show (digs 4294967296 m).length+(n-(digs 4294967296 m).length)=n by omega];simp
def Tx(b:G 4294967296 vs)(e:i+vs.length+1<=us.length)(d:val 4294967296 (us.drop (i+1))<val 4294967296 vs):val 4294967296 (us.drop (i+(vs.length+1)))=0:=by
 have c:=kJ b;have a:=vU (B:=4294967296) (us.drop (i+1)) (k:=vs.length) (by simp;omega);rw[ox,show i+1+vs.length=i+(vs.length+1) by omega] at a;rcases et (val 4294967296 (us.drop (i+(vs.length+1)))) with h|h
 .exact h
 have:=fp (4294967296^vs.length) h
 omega
def Gl(c:G 4294967296 vs)(d:i+vs.length+1<=us.length)(b:val 4294967296 (us.drop (i+1))<val 4294967296 vs):val 4294967296 (us.drop i)=val 4294967296 ((us.drop i).take (vs.length+1)):=by
 have a:=vU (B:=4294967296) (us.drop i) (k:=vs.length+1) (by simp;omega);rw[ox,Tx c d b,ja,gi] at a;exact a
def akI(b:G 4294967296 us)(a:i<us.length)(c:val 4294967296 (us.drop (i+1))<val 4294967296 vs):val 4294967296 (us.drop i)<4294967296*val 4294967296 vs:=by
 have e:=oL (B:=4294967296) (xs:=us) (k:=i+1) (by omega) (by simpa using a);simp only[g_] at e;have:=b us[i] (fe a);omega
theorem agz{us:List Nat}{j n:Nat}(h:G 4294967296 us)(m:2<=n)(k:j+n<us.length) :
 val 4294967296 ((us.drop j).take (n+1))=(us[j+n]*4294967296+us[j+n-1])*4294967296^(n-1)+us[j+n-2]*4294967296^(n-2)+val 4294967296 ((us.drop j).take (n-2))/\val 4294967296 ((us.drop j).take (n-2))<4294967296^(n-2):=by
 have l:(us.drop j).length=us.length-j:=by simp
 have c:=dF (B:=4294967296) (xs:=us.drop j) (i:=n) (by omega);have a:=dF (B:=4294967296) (xs:=us.drop j) (i:=n-1) (by omega);have b:=dF (B:=4294967296) (xs:=us.drop j) (i:=n-2) (by omega);rw[show n-1+1=n by omega] at a;rw[show n-2+1=n-1 by omega] at b;simp only[List.getElem_drop] at c a b;have f:us[j+(n-1)]=us[j+n-1]:=getElem_congr rfl (by omega) _;have g:us[j+(n-2)]=us[j+n-2]:=getElem_congr rfl (by omega) _;rw[f] at a;rw[g] at b;have e:(4294967296:Nat)^n=4294967296*4294967296^(n-1):=by rw[<-pf];congr 1;omega
 have d:=kJ ((h.drop j).take (n-2));rw[bf,de (by omega)] at d;refine⟨?_,d⟩;rw[c,a,b,e]
 grind
def xR{b:Nat}:Wm a b<0↔a<b:=by
 have:=@agu a b;simpa using this
def jF.self(h:dX w A n c xs)(t:iI xs):jF (val 4294967296 xs) (.slice A n c) w:=by
 have:=jF.of_trim h rfl;rw[t] at this;rw[h.eq];exact this
def jF.zero(w:an):jF 0 (.slice X8 0 0) w:=⟨X8,0,rfl,dX.nil w⟩
def Bc(t:iI xs)(h:0<xs.length):0<xs[xs.length-1]:=by
 rcases et (xs[xs.length-1]) with h0|h0
 . exfalso
   have e:=Iz (xs:=xs) (k:=xs.length) h (by omega);rw[ga,h0] at e;have t2:trim xs=trim (xs.take (xs.length-1)):=by conv=>lhs;rw[e,qB]
   have t3:(trim xs).length=xs.length:=by rw[t]
   have t4:=kP (xs.take (xs.length-1));rw[<-t2,t3] at t4;simp at t4;omega
 exact h0
def rR(h:fQ w g (os.map lZ) 99)(a:G 4294967296 os)(b:os.length<=17592186044416):dX w (H ⟨g,0,X8⟩) (trim os).length os.length (trim os):=by
 have:=(h.nat a rfl b).take (trim os).length;rwa [<-jP] at this
def Wp(h:0<ys.length):val 4294967296 ys=val 4294967296 (ys.take (ys.length-1))+4294967296^(ys.length-1)*ys[ys.length-1]:=by
 have e:=dF (B:=4294967296) (xs:=ys) (i:=ys.length-1) (by omega);rw[show ys.length-1+1=ys.length by omega,ga] at e;exact e
theorem aeK(b:G 4294967296 vs)(f:val 4294967296 vs=2^sh*val 4294967296 ys)(v:G 4294967296 ys)(h:0<ys.length)(c:ys[ys.length-1]*2^sh<4294967296)(s:0<ys[ys.length-1])(A:sh<=31):(trim vs).length=ys.length:=by
 have e:trim vs=digs 4294967296 (2^sh*val 4294967296 ys):=nR (by omega) b f;have u:=Wp h;have r:=kJ (v.take (ys.length-1));rw[bf,de (by omega)] at r;have a:0<2^sh:=kj (by omega);have d:=wM (n:=sh) (by omega);have p:(4294967296:Nat)^ys.length=4294967296^(ys.length-1)*4294967296:=by rw[<-gd];congr 1;omega
 have q:(trim vs).length<ys.length->(4294967296:Nat)^(trim vs).length<=4294967296^(ys.length-1):=λh=>fq (by omega) (by omega);generalize 4294967296^(ys.length-1)=Q at *
 generalize ys[ys.length-1]=t at *
 generalize val 4294967296 (ys.take (ys.length-1))=l at *
 have g:t+1<=2^(32-sh):=by
  rw[d,iw] at c;exact n_ c
 have i:2^sh*(t+1)<=4294967296:=by rw[d];exact fp _ g
 have j:val 4294967296 ys<Q*(t+1):=by rw[u,ki];omega
 have k:2^sh*val 4294967296 ys<4294967296^ys.length:=by
  rw[p]
  calc 2^sh*val 4294967296 ys<2^sh*(Q*(t+1)):=Nat.mul_lt_mul_of_pos_left j a
   _=Q*(2^sh*(t+1)):=by grind
   _<=Q*4294967296:=fp _ i
 have m:=eQ (by omega) k;rw[<-e] at m;rcases ej (trim vs).length ys.length with w|hge
 . exfalso
   have o:=kJ b.trim;rw[kY,f] at o;have x:=q w;have y:Q*1<=Q*t:=fp _ s;have z:1*val 4294967296 ys<=2^sh*val 4294967296 ys:=ft _ a;omega
 omega
theorem aeL(h:0<ys.length)(c:2147483648<=ys[ys.length-1]*2^sh):2147483648*4294967296^(ys.length-1)<=2^sh*val 4294967296 ys:=by
 rw[Wp h];generalize 4294967296^(ys.length-1)=Q at *
 generalize ys[ys.length-1]=t at *
 have a:2147483648*Q<=t*2^sh*Q:=ft _ c;rw[ki];have b:2^sh*(Q*t)=t*2^sh*Q:=by grind
 rw[b];exact ay a (Nat.le_add_left _ _)
theorem agA{l V:Nat}(g:G 4294967296 xs)(q:us.length=xs.length+1)(r:val 4294967296 us=2^sh*val 4294967296 xs)(o:l<=xs.length)(m:0<l)(f:sh<=31)(c:2147483648*4294967296^(l-1)<=V):val 4294967296 (us.drop (xs.length+1-l))<V:=by
 have e:=vU (B:=4294967296) us (k:=xs.length+1-l) (by omega);have p:=kJ g;have d:(4294967296:Nat)^xs.length=4294967296^(xs.length+1-l)*4294967296^(l-1):=by rw[<-kh];congr 1;omega
 have i:2^sh<=2^31:=fq (by omega) f;rcases ej (val 4294967296 (us.drop (xs.length+1-l))) V with h|h
 .exact h
 exfalso
 generalize val 4294967296 (us.drop (xs.length+1-l))=D at *
 generalize val 4294967296 (us.take (xs.length+1-l))=T at *
 have a:4294967296^(xs.length+1-l)*(2147483648*4294967296^(l-1))<=4294967296^(xs.length+1-l)*D:=fp _ (ay c h);have b:4294967296^(xs.length+1-l)*(2147483648*4294967296^(l-1))=2147483648*4294967296^xs.length:=by rw[d];grind
 have n:2^sh*val 4294967296 xs<=2147483648*val 4294967296 xs:=ft _ i;generalize 4294967296^(xs.length+1-l)*D=Z at *
 rw[b] at a;generalize (4294967296:Nat)^xs.length=j at *
 omega
theorem agB{X Y p u:Nat}(b:0<p)(h:u+q*(p*Y)=p*X)(k:u<p*Y):q=X / Y/\u / p=X%Y:=by
 have i:0<Y:=by
  rcases et Y with h0|h0
  .subst h0;omega
  exact h0
 have j:p∣u:=by
  have c:p∣u+q*(p*Y):=h▸Nat.dvd_mul_right p X;have d:p∣q*(p*Y):=⟨q*Y,by grind⟩
  exact (Nat.dvd_add_iff_left d).2 c
 obtain⟨r,rfl⟩:=j;have e:p*(r+q*Y)=p*X:=by rw[<-h];grind
 have f:=Nat.eq_of_mul_eq_mul_left b e;have g:=n_ k;rw[Nat.mul_div_cancel_left _ b];have:=Od (a:=X) (q:=q) (r:=r) i g (by rw[<-f];grind);exact this
theorem anO(d:G 4294967296 vs)(h:2<=vs.length):val 4294967296 vs=(vs[vs.length-1]*4294967296+vs[vs.length-2])*4294967296^(vs.length-2)+val 4294967296 (vs.take (vs.length-2))/\val 4294967296 (vs.take (vs.length-2))<4294967296^(vs.length-2):=by
 have c:=Wp (ys:=vs) (by omega);have a:=dF (B:=4294967296) (xs:=vs) (i:=vs.length-2) (by omega);rw[show vs.length-2+1=vs.length-1 by omega] at a;have b:=kJ (d.take (vs.length-2));rw[bf,de (by omega)] at b;refine⟨?_,b⟩;have e:(4294967296:Nat)^(vs.length-1)=4294967296*4294967296^(vs.length-2):=by rw[<-pf];congr 1;omega
 rw[c,a,e]
 grind
theorem aeM{us ds:List Nat}{i two top sec a3 vd:Nat}(b:G 4294967296 us)(l:G 4294967296 ds)(e:2<=ds.length)(o:i+ds.length<us.length)(f:val 4294967296 (us.drop (i+1))<val 4294967296 ds)
 (s:two=us[i+ds.length-1]+us[i+ds.length]*4294967296) (r:top=ds[ds.length-1]) (q:sec=ds[ds.length-2]) (k:a3=us[i+ds.length-2]) (g:vd=val 4294967296 (us.drop i)) :
 ∃P,0<P/\vd<(two+1)*(4294967296*P)/\top*(4294967296*P)<=val 4294967296 ds/\vd<(two*4294967296+a3+1)*P/\(two*4294967296+a3)*P<=vd/\(top*4294967296+sec)*P<=val 4294967296 ds/\val 4294967296 ds<(top*4294967296+sec+1)*P/\vd<4294967296*val 4294967296 ds:=by
 obtain⟨c,v⟩:=agz b e o;obtain⟨a,w⟩:=anO l e;have j:=akI b (by omega) f;rw[<-Gl l (by omega) f,<-g] at c;rw[<-g] at j;have p:(4294967296:Nat)^(ds.length-1)=4294967296*4294967296^(ds.length-2):=by rw[<-pf];congr 1;omega
 have h:us[i+ds.length-2]<4294967296:=b _ (fe _);rw[p,<-k] at c;rw[<-k] at h;rw[<-r,<-q] at a;rw[lh (us[i+ds.length]*4294967296),<-s] at c;refine⟨4294967296^(ds.length-2),kj (by decide),?_⟩;generalize (4294967296:Nat)^(ds.length-2)=P at *
 generalize val 4294967296 ((us.drop i).take (ds.length-2))=u at *
 generalize val 4294967296 (ds.take (ds.length-2))=t at *
 generalize val 4294967296 ds=V at *
 have n:(a3+1)*P<=4294967296*P:=ft _ h;have d:(two*4294967296+a3)*P=two*(4294967296*P)+a3*P:=by grind
 have m:(top*4294967296+sec)*P=top*(4294967296*P)+sec*P:=by grind
 rw[gw,kl] at n;refine⟨?_,?_,?_,?_,?_,?_,j⟩
 .rw[gw,kl];omega
 .rw[a,m];omega
 .rw[gw,d];omega
 .rw[d];omega
 .rw[a];omega
 rw[a,gw (top*4294967296+sec)];omega
def akJ{b:Nat}(h:a*b<18446744073709551616):IntKind.u64.wrap ((a:Int)*(b:Int))=((a*b:Nat):Int):=by
 rw[<-la];generalize a*b=c at *
 exact oK (by omega) (by omega)
theorem abX(h:g*top+r=two)(a:a3+r*4294967296<g*sec):two*4294967296+a3<g*(top*4294967296+sec):=by
 subst h;have:g*(top*4294967296+sec)=g*top*4294967296+g*sec:=by grind
 rw[this,gw];omega
theorem Oe(h:g*top+r=two)(a:g*sec<=a3+r*4294967296):g*(top*4294967296+sec)<=two*4294967296+a3:=by
 subst h;have:g*(top*4294967296+sec)=g*top*4294967296+g*sec:=by grind
 rw[this,gw];omega
def agC(c:g<4294967296)(e:s<4294967296)(d:4294967296<=r):g*s<=a+r*4294967296:=by
 have b:g*s<=4294967296*4294967296:=jd (by omega) (by omega);omega
def Cy(h:¬cap=q):(if cap=q then H (⟨g,0,X8⟩:Addr) else (H (⟨g,0,X8⟩:Addr)).map (·.add (q*1)))=H ⟨g,q,X8⟩:=by
 rw[K0 h];simp[cA]
theorem Cz{us a ds:List Nat}{i q vd S:Nat}(p:G 4294967296 ds)(w:G 4294967296 us)(z:i+ds.length<us.length)(k:val 4294967296 (us.drop (i+1))<val 4294967296 ds)(c:vd=val 4294967296 (us.drop i))(A:q*val 4294967296 ds<=vd)(x:vd<(q+1)*val 4294967296 ds)(u:val 4294967296 us+val 4294967296 a*val 4294967296 ds=S)(o:a.take (i+1)=bn (i+1) 0)(s:i<a.length) :
 val 4294967296 (laid us i (ds.length+1) (val 4294967296 ((us.drop i).take (ds.length+1))-val 4294967296 ds*q))+val 4294967296 (a.set i q)*val 4294967296 ds=S/\val 4294967296 ((laid us i (ds.length+1) (val 4294967296 ((us.drop i).take (ds.length+1))-val 4294967296 ds*q)).drop i)<val 4294967296 ds/\(a.set i q).take i=bn i 0/\(laid us i (ds.length+1) (val 4294967296 ((us.drop i).take (ds.length+1))-val 4294967296 ds*q)).length=us.length:=by
 have f:=Gl p (by omega) k;rw[<-f,<-c];have e:(digs 4294967296 (vd-val 4294967296 ds*q)).length<=ds.length+1:=by
  refine eQ (by omega) (fr (Nat.sub_le _ _) ?_);have h:=kJ ((w.drop i).take (ds.length+1));rw[bf,de (by simp;omega),<-f,<-c] at h;exact h
 have C:q*val 4294967296 ds=val 4294967296 ds*q:=iw _ _;refine⟨?_,?_,?_,aak (by omega) e⟩
 . have b:=agw (os:=us) (off:=i) (n:=ds.length+1) (m:=vd-val 4294967296 ds*q) (by omega) e
   rw[<-f,<-c] at b;have g:=mZ (B:=4294967296) (os:=a) (j:=i) (d:=q) s;have t:a[i]=0:=by
    have h:=Y1 (λl=>l[i]?) o;simp only[fa] at h;rw[Z9 (by omega),ah s,List.getElem?_replicate,Z9 (by omega)] at h;exact Option.some.inj h
   rw[t,ja,gi] at g;rw[g,<-u];obtain⟨r,v⟩:∃r,vd=val 4294967296 ds*q+r:=⟨vd-val 4294967296 ds*q,by omega⟩
   rw[v] at b ⊢;rw[ma] at b ⊢;generalize val 4294967296 (laid us i (ds.length+1) r)=L at *
   generalize (4294967296:Nat)^i=Q at *
   generalize val 4294967296 ds=V at *
   generalize val 4294967296 us=y at *
   generalize val 4294967296 a=Z at *
   grind
 . rw[St (by omega) e,Tx p (by omega) k,ja,gi]
   rw[gw,kl] at x;omega
 rw[List.take_set_of_le (bg i)]
 have h:=Y1 (List.take i) o;rw[qk,de (by omega),List.take_replicate,de (by omega)] at h;exact h
def Wq(h:r<=4):(4294967296:Nat)=256^r*256^(4-r):=by rw[<-kh,show r+(4-r)=4 by omega]
def Of(r:Nat):(256:Nat)^r=2^(8*r):=by rw[show 256=2^8 from rfl,<-pg]
def agD{b:Nat}(l:r<4)(a:x<4294967296)(i:256^(r+1)∣x)(h:b<256):x+b*256^r<4294967296:=by
 obtain⟨c,rfl⟩:=i;have e:=Wq (r:=r+1) (by omega);rw[e] at a ⊢;have d:=n_ a;have f:256^(r+1)*(c+1)<=256^(r+1)*256^(4-(r+1)):=fp _ d;rw[ki,bi] at f;have g:(b+1)*256^r<=256*256^r:=ft _ h;have j:(256:Nat)^(r+1)=256*256^r:=pf;have k:0<(256:Nat)^r:=kj (by omega);rw[gw,kl] at g;generalize 256^(r+1)*256^(4-(r+1))=Z at *
 generalize 256^(r+1)*c=Y at *
 omega
theorem aeN{os bs:List Nat}{p j r:Nat}(g:p<bs.length)(u:p=4*j+r)(q:r<4)(b:j<os.length)(o:G 4294967296 os)(n:G 256 bs)(m:∀(i:Nat)(h:i<os.length),256^(p+1-4*i)∣os[i])(l:val 4294967296 os=256^(p+1)*val 256 (bs.drop (p+1))) :
 os[j]+bs[p]*256^r<4294967296/\256^(r+1)∣os[j]/\(∀(i:Nat) (h:i<(os.set j (os[j]+bs[p]*256^r)).length),256^(p-4*i)∣(os.set j (os[j]+bs[p]*256^r))[i])/\val 4294967296 (os.set j (os[j]+bs[p]*256^r))=256^p*val 256 (bs.drop p):=by
 have a:=m j b;rw[show p+1-4*j=r+1 by omega] at a;have s:=o _ (fe b);have t:=n _ (fe g);refine⟨agD q s a t,a,?_,?_⟩
 . intro i h
   by_cases e:i=j
   . subst e
     rw[lp,show p-4*i=r by omega];exact Nat.dvd_add (Nat.dvd_trans (Nat.pow_dvd_pow 256 (by omega)) a) (Nat.dvd_mul_left _ _)
   rw[lz (by omega)]
   exact Nat.dvd_trans (Nat.pow_dvd_pow 256 (by omega)) (m i (by simpa using h))
 have v:=mZ (B:=4294967296) (os:=os) (j:=j) (d:=os[j]+bs[p]*256^r) b
 have c:=oL (B:=256) (xs:=bs) (k:=p+1) (by omega) (by simpa using g);simp only[g_] at c;have f:(4294967296:Nat)^j*256^r=256^p:=by
  rw[show (4294967296:Nat)=256^4 from rfl,<-pg,<-kh,u]
 rw[c,<-f];rw[gd,<-f] at l;generalize (4294967296:Nat)^j=Q at *
 generalize (256:Nat)^r=R at *
 generalize val 256 (bs.drop (p+1))=D at *
 generalize val 4294967296 (os.set j (os[j]+bs[p]*R))=L at *
 generalize val 4294967296 os=M at *
 subst l
 grind
end
section
open Go.RowKit
variable{a:ByteArray}{xs ys:Array am}
def tR(P:B)(d:Nat)(T:ba)(x y:am)(p:Prop):Prop:=∀w,∃b:Bool,(Op.equalIn d T x y).run P w=.ok b w/\(b=N↔p)
section
variable{P:B}{d:Nat}{T:ba}
def tR.int{k b:IntKind}{m n:Int}(a:P.underlying T=H (.int b)):tR P (d+1) T (.int k m) (.int k n) (m=n):=λw=>⟨m == n,by unfold Op.equalIn;simp[dg a],by simp⟩
def tR.bool{a b:Bool}(c:P.underlying T=H .bool):tR P (d+1) T (.bool a) (.bool b) (a=b):=λw=>⟨a == b,by unfold Op.equalIn;simp[dg c],by simp⟩
def Og{b:ByteArray}(h:a.toList=b.toList):a=b:=by
 rw[ByteArray.toList_eq,ByteArray.toList_eq] at h;cases a;cases b;simp at h;rw[h]
def Ws(a b:ByteArray):(a.toList == b.toList)=decide (a=b):=by
 by_cases h:a=b
 .subst h;simp
 rw[Y6 h];exact beq_eq_false_iff_ne.2 λe=>h (Og e)
def tR.str{b:ByteArray}(c:P.underlying T=H .string):tR P (d+1) T (.string a) (.string b) (a=b):=λw=>⟨a == b,by unfold Op.equalIn;simp[dg c],by rw[beq_toListBytes,Ws];simp⟩
def Dt(P:B)(d:Nat)(xs ys:Array am)(fs:List Field)(p:Prop):Prop:=∀w,∃b:Bool,(Op.eqFields d xs ys fs).run P w=.ok b w/\(b=N↔p)
def Dt.nil  : Dt P d xs ys [] True:=λw=>⟨N,by simp[Op.eqFields],by simp⟩
def Dt.cons{xs ys:Array am}{f:Field}{fs:List Field}{x y:am}{p q:Prop} (g:f.name ≠ "_") (i:∀w,(part f.type xs f.offset).run P w=.ok x w) (j:∀w,(part f.type ys f.offset).run P w=.ok y w)
 (h:tR P d f.type x y p) (k:Dt P d xs ys fs q):Dt P d xs ys (f::fs) (p/\q):=λw=>by
 obtain⟨b,e,a⟩:=h w;obtain⟨c,l,m⟩:=k w;cases b
 .exact⟨X7,by simp[Op.eqFields,g,i,j,e],by simp at a ⊢;intro h;exact Y0 h a⟩
 exact⟨c,by simp[Op.eqFields,g,i,j,e,l],by simp at a;simp[a,m]⟩
def vV(P:B)(d:Nat)(E:ba)(n:Nat)(xs ys:Array am)(is:List Nat)(p:Prop):Prop:=∀w,∃b:Bool,(Op.eqItems d E n xs ys is).run P w=.ok b w/\(b=N↔p)
def vV.nil{E:ba}{n:Nat}  : vV P d E n xs ys [] True:=λw=>⟨N,by simp[Op.eqItems],by simp⟩
def vV.cons{E:ba}{n i:Nat}{is:List Nat}{xs ys:Array am}{x y:am}{p q:Prop}(f:∀w,(part E xs (i*n)).run P w=.ok x w)(g:∀w,(part E ys (i*n)).run P w=.ok y w)
 (h:tR P d E x y p) (k:vV P d E n xs ys is q):vV P d E n xs ys (i::is) (p/\q):=λw=>by
 obtain⟨b,e,a⟩:=h w;obtain⟨c,j,l⟩:=k w;cases b
 .exact⟨X7,by simp[Op.eqItems,f,g,e],by simp at a ⊢;intro h;exact Y0 h a⟩
 exact⟨c,by simp[Op.eqItems,f,g,e,j],by simp at a;simp[a,l]⟩
def tR.struct{fs:Array Field}{p:Prop}(b:P.underlying T=H (.struct fs))(c:P.stoodInHeld T=X7)(h:Dt P d xs ys fs.toList p):tR P (d+1) T (.agg xs) (.agg ys) p:=λw=>by
 have a:P.fieldsOf T=fs:=by simp[Program.fieldsOf,b]
 rw[run_equalIn_struct w d T xs ys (by rw[a];exact b) c,a];exact h w
def tR.array{n c:Nat}{E:ba}{p:Prop}(f:P.underlying T=H (.array n E))(e:dW P E c)(h:vV P d E c xs ys (fh n) p):tR P (d+1) T (.agg xs) (.agg ys) p:=λw=>by
 obtain⟨i,a,rfl⟩:=e;have b:P.cellsOf E=i.size:=by simp[Program.cellsOf,a]
 rw[run_equalIn_array w d xs ys f a,b];exact h w
def tR.iff{x y:am}{p q:Prop}(h:tR P d T x y p)(e:p↔q):tR P d T x y q:=λw=>let ⟨b,a,c⟩:=h w;⟨b,a,c.trans e⟩
def kD{off:Nat}{v:am}(a:fG P T X7)(b:xs[off]? = H v)(w:an):(part T xs off).run P w=.ok v w:=by simp[part,xK a,b]
def iO{us:Array am}{off c:Nat}(a:fG P T N)(b:dW P T c)(d:xs.extract off (off+c)=us)(w:an):(part T xs off).run P w=.ok (.agg us) w:=by
 subst d;simp[part,xK a,fO b]
variable{l:List am}{x y:cw}{T' ty:ba}
def xS{u v:am}{p:Prop}[Decidable p](h:tR P 10000 T u v p)(w:an):(Op.equal T u v).run P w=.ok (decide p) w:=by
 obtain⟨b,c,a⟩:=h w;rw[Op.equal,show Op.maxDepth=10000 from rfl,c]
 congr 1
 cases b
 .exact (Y6 (by simpa using a)).symm
 exact (Y5 (by simpa using a)).symm
def Ev{xs ys:Array am}{p:Prop}[Decidable p](a:P.eqGuardType P.depth T=X7)(c:ev l x=.agg xs)(d:ev l y=.agg ys)(h:tR P 10000 T (.agg xs) (.agg ys) p):gX P l (.binOp .eql T x y T') ty (.bool (decide p)):=λw o b _=>by
 simp[eh,b,dM,c,d,eqGuard,binOp,a,xS h]
def abY{xs ys:Array am}{p:Prop}[Decidable p](a:P.eqGuardType P.depth T=X7)(c:ev l x=.agg xs)(d:ev l y=.agg ys)(h:tR P 10000 T (.agg xs) (.agg ys) p):gX P l (.binOp .neq T x y T') ty (.bool (decide (¬p))):=λw o b _=>by
 simp[eh,b,dM,c,d,eqGuard,binOp,a,xS h]
def agE{a b:Bool}(e:P.underlying T=H .bool)(f:ev l x=.bool a)(g:ev l y=.bool b):gX P l (.binOp .eql T x y T') ty (.bool (decide (a=b))):=λw o c _=>by
 have h:=xS (tR.bool (d:=9999) (a:=a) (b:=b) e) w;simp[eh,c,dM,f,g,eqGuard,binOp,h]
def mR{a b:Bool}(e:P.underlying T=H .bool)(f:ev l x=.bool a)(g:ev l y=.bool b):gX P l (.binOp .neq T x y T') ty (.bool (decide (¬a=b))):=λw o c _=>by
 have h:=xS (tR.bool (d:=9999) (a:=a) (b:=b) e) w;simp[eh,c,dM,f,g,eqGuard,binOp,h]
def abZ{b:ByteArray}(e:P.underlying T=H .string)(f:ev l x=.string a)(g:ev l y=.string b):gX P l (.binOp .eql T x y T') ty (.bool (decide (a=b))):=λw o c _=>by
 have h:=xS (tR.str (d:=9999) (a:=a) (b:=b) e) w;simp[eh,c,dM,f,g,eqGuard,binOp,h,Op.stringOp,Ws]
def anP{b:ByteArray}(e:P.underlying T=H .string)(f:ev l x=.string a)(g:ev l y=.string b):gX P l (.binOp .neq T x y T') ty (.bool (decide (¬a=b))):=λw o c _=>by
 have h:=xS (tR.str (d:=9999) (a:=a) (b:=b) e) w;simp[eh,c,dM,f,g,eqGuard,binOp,h,Op.stringOp,Ws]
end
end
section
def pE(s:ByteArray):List Nat:=s.data.toList.reverse.map jo
def akK(s:ByteArray):Nat:=val 256 (pE s)
def Be(s:ByteArray):s.data.toList.length=s.size:=Array.length_toList
def vW(s:ByteArray):(pE s).length=s.size:=by simp only[pE,List.length_map,List.length_reverse,Be]
def Lf(s:ByteArray):G 256 (pE s):=λx a=>by
 obtain⟨b,_,rfl⟩:=du.1 a;exact b.toNat_lt
def Eb(s:ByteArray)(i:Nat):s[i]? = s.data.toList[i]?:=by
 by_cases h:i<s.size
 . rw[getElem?_pos s i h,ah (by rw[Be];omega)]
   rfl
 rw[getElem?_neg s i h,ct (by rw[Be];omega)]
def Ew{s:ByteArray}{i p:Nat}(h:p+1+i=s.size):∃b,s[i]? = H b/\∃c:p<(pE s).length,(pE s)[p]=b.toNat:=by
 have d:=Be s;have a:i<s.data.toList.length:=by omega
 refine⟨s.data.toList[i],by rw[Eb];exact ah a,by rw[vW];omega,?_⟩;simp only[pE,List.getElem_map,List.getElem_reverse]
 congr 2
 omega
def gT(n:Int):akK (dQ n)=n.natAbs:=by
 have e:pE (dQ n)=digs 256 n.natAbs:=by
  simp only[pE,dQ,mY,List.reverse_reverse,<-List.map_reverse,List.map_map];have a:G 256 (digs 256 n.natAbs):=tH (by omega) _;have:∀l:List Nat,G 256 l->l.map (jo∘eu)=l:=by
   intro l b;refine (lf λx c=>?_).trans (List.map_id l);simp only[Function.comp_apply,id_eq,jv];exact kp (b x c)
  exact this _ a
 rw[akK,e,rO (by omega)]
def oZ{m n:Nat}(h:m<9223372036854775808):IntKind.i64.wrap ((m:Int).tdiv (n:Int))=((m / n:Nat):Int):=by
 rw[<-no];have:m / n<=m:=jt m n;exact bN (by have:=Int.natCast_nonneg (m / n);omega) (by omega)
def agF{xs:List Nat}{n:Nat}(h:xs.length<=n):val 256 (xs.drop n)=0:=by rw[fl h];rfl
def nZ(l:List UInt8):ByteArray:=⟨l.toArray⟩
def qD(l:List UInt8):(nZ l).data.toList=l:=by simp[nZ]
def aeO{l k:List UInt8}(h:nZ l=nZ k):l=k:=by rw[<-qD l,h,qD]
def Ex(l:List UInt8):(nZ l).size=l.length:=by rw[<-Be,qD]
def aeP(l:List UInt8)(i:Nat):(nZ l)[i]? = l[i]?:=by rw[Eb,qD]
def ab0(l:List UInt8)(n:Nat):(nZ l).extract n (nZ l).size=nZ (l.drop n):=by
 apply ByteArray.ext;rw[ByteArray.data_extract];apply qf;rw[Array.toList_extract,qD,Ex];simp only[nZ,List.extract_eq_take_drop,eo];exact ap (by simp)
def aam(l:List UInt8):(nZ l=⟨#[]⟩)=(l=[]):=by
 apply X2;constructor
 . intro h
   exact aeO (k:=[]) h
 rintro rfl;rfl
def jX(l:List UInt8):List UInt8:=l.dropWhile (· == 0)
def ab1{l:List UInt8}{b:UInt8}(h:l[0]? = H b)(a:b.toNat=0):jX (l.drop 1)=jX l:=by
 cases l with
 |nil=>cases h
 |cons c l=>
  simp at h;subst h;have:c=0:=oh.1 a;subst this;simp[jX]
def ab2{l:List UInt8}{b:UInt8}(h:l[0]? = H b)(a:¬b.toNat=0):jX l=l:=by
 cases l with
 |nil=>rfl
 |cons c l=>
  simp at h;subst h;have:¬c=0:=λe=>a (by rw[e];rfl);simp[jX,this]
def aeQ:jX []=[]:=rfl
end
section
open Go.RowKit
variable{w:an}{D g:Nat}
section
variable{P:B}{ds:List d_}{l:List am}{x y z0:cw}{T T' ty:ba}
abbrev u8v(b:UInt8):am:=.int .u8 (b.toNat:Int)
def Oh{w:an}{base n:Nat}{E:ba}{v:am}{bs:List UInt8}(d:P.underlying T=H (.slice E))(b:P.underlying E=H (.int .u8))(a:P.underlying T'=H .string)(e:ev l x=v)(f:wJ w base E 1 v n (bs.map u8v)) :
 Eo P l (.convert T T' x) ty (.string (nZ bs)) w:=λo c _=>by
 have k:bs.length=n:=by have:=f.1;simpa using this
 rcases f.row with ⟨rfl,rfl,h⟩|⟨g,cap,rfl,_,_,_,_,m⟩
 . obtain rfl:bs=[]:=by simpa using h
   simp only[eh,c,dM,e];rw[Sem.run_bind,run_convert_bytes_nil w T E d b 0 0 T' a];rfl
 subst k
 have:=run_convert_bytes_back (P:=P) w T T' E ⟨g,0,X8⟩ cap bs d b a (λj i=>m j _ (by simp[i]));simp only[eh,c,dM,e];rw[Sem.run_bind,this];rfl
end
structure Mw(w:an)(D:Nat):Prop where
 h:w.heap[D]? = H (.deferred (H []))
def Mw.ext{w':an}(h:Mw w D)(a:eR w w'):Mw w' D:=⟨a.block h.h⟩
def Mw.ne{cs:List am}{t:ba}(h:Mw w D)(a:fQ w g cs t):D≠g:=λe=>by
 subst e;have:=h.h;rw[a] at this;cases this
def Mw.chg{w':an}(h:Mw w D)(a:Chg w w' g)(b:D≠g):Mw w' D:=⟨(a.block D b).trans h.h⟩
def fQ.putD{cs:List am}{t:ba}(a:fQ w g cs t)(h:Mw w D){o:Obj}:fQ (w.putObj D o) g cs t:=(World.putObj_heap_other (Ne.symm (h.ne a))).trans a
def eR.putD{w0:an}(a:eR w0 w)(c:w0.heap.size<=D){o:Obj}:eR w0 (w.putObj D o):=
 ⟨a.os,a.tape,a.output,by rw[World.putObj_size];exact a.size,λk b=>(World.putObj_heap_other (by omega)).trans (Below.block a k b)⟩
def Ey{P:B}{l:List am}{n:Nat}{a:Func}{R:Ending->an->Prop}{D:Nat}{w:an}(b:Mw w D)(h:bodyPost P a R .ret (Fr l) (w.putObj D (.deferred X8))) :
 bodyPostM Fence.wide n P a R .ret (Fr l [{ target:=.collected D,args:=#[] }]) w:=by
 refine⟨by simp,.inl ⟨D,_,O,run_takeDeferred b.h,?_⟩⟩;obtain⟨_,v,d,c⟩:=h;exact⟨v,d,c⟩
end
section
variable{n a d:Int}{r k m X:Nat}
def wb(x:Nat):List UInt8:=[eu (x / 16777216),eu (x / 65536),eu (x / 256),eu x]
def wbs(l:List (Nat×Nat)):List UInt8:=l.flatMap λx=>wb x.2
def agG(l:List (Nat×Nat))(x:Nat×Nat):wbs (l++[x])=wbs l++wb x.2:=by simp[wbs]
def Oi(l:List (Nat×Nat)):(wbs l).length=4*l.length:=by
 induction l with
 |nil=>rfl
 |cons x l ih=>rw[wbs,da,a_];rw[wbs] at ih;rw[ih];simp[wb];omega
def Oj(neg:Bool)(n:Nat):Int:=if neg then -(n:Int) else n
def Ez(neg:Bool)(n:Nat):(Oj neg n).natAbs=n:=by cases neg<;>simp[Oj]
def Wt(neg:Bool)(n:Nat):cQ (Oj neg n)=(neg&&decide (n≠0)):=by
 cases neg
 .simp[Oj,cQ]
 rcases et n with h|h
 .subst h;rfl
 have a:n≠0:=by omega
 simp[Oj,cQ,h,a]
def Su(ys:List Nat)(h:G 4294967296 ys):val 256 (((ys.reverse.flatMap wb).reverse).map jo)=val 4294967296 ys/\G 256 (((ys.reverse.flatMap wb).reverse).map jo):=by
 induction ys with
 |nil=>exact⟨rfl,λ_ h=>by cases h⟩
 |cons y ys ih=>
  have d:=h y (by simp);obtain⟨b,c⟩:=ih (λx a=>h x (by simp[a]));have e:(((y::ys).reverse.flatMap wb).reverse).map jo=[y%256,y / 256%256,y / 65536%256,y / 16777216%256]++(((ys.reverse.flatMap wb).reverse).map jo):=by
   simp[au,wb,jv]
  rw[e];refine⟨?_,?_⟩
  . rw[fI,b]
    simp only[val,bh,List.length_nil];omega
  refine G.append ?_ c
  intro x a;simp at a;omega
def Lg{l:List UInt8}:jX l=((trim ((l.reverse).map jo)).reverse).map eu:=by
 induction l with
 |nil=>rfl
 |cons b l ih=>
  have c:∀k:List Nat,∀x:Nat,trim (k++[x])=if x=0 then trim k else k++[x]:=λk x=>by
   split
   .rename_i h;subst h;exact qB k
   rename_i h;exact rG h k
  rw[List.reverse_cons,List.map_append,df,List.map_nil,c];by_cases a:b=0
  . subst a
    rw[Z9 (show jo 0=0 from rfl),<-ih];simp[jX]
  have d:¬b.toNat=0:=λe=>a (oh.1 e)
  rw[K0 d];simp[jX,a,Function.comp_def]
def ab3{ys:List Nat}(h:G 4294967296 ys)(neg:Bool):nZ (jX (ys.reverse.flatMap wb))=dQ (Oj neg (val 4294967296 ys)):=by
 obtain⟨a,b⟩:=Su ys h;rw[Lg,nR (by omega) b a,dQ,Ez,mY];rfl
def Ol{neg:Bool}{n:Nat}:(dQ (Oj neg n)=⟨#[]⟩)↔n=0:=by
 constructor
 . intro h
   have:=Ts (Oj neg n);rw[h,Ez] at this;have a:digs 256 n=[]:=fd this.symm;exact (pM (by omega)).1 a
 rintro rfl
 cases neg<;>rfl
class K(k:outParam Nat)(n:Int):Prop where
 h:Bd k n
instance {a b:Nat}{m n:Int}[x:K a m][y:K b n]:K (max a b+1) (m+n):=⟨x.h.add y.h⟩
instance {a b:Nat}{m n:Int}[x:K a m][y:K b n]:K (max a b+1) (m-n):=⟨x.h.sub y.h⟩
instance {a b:Nat}{m n:Int}[x:K a m][y:K b n]:K (a+b) (m*n):=⟨x.h.mul y.h⟩
instance:K 1 0:=⟨Cv 1⟩
def Da(h:cQ n=N):n<0:=Y9 h
def Fa(h:cQ n=X7):0<=n:=qw.1 (X5 h)
def natAbs_neg(h:cQ n=N):(n.natAbs:Int) = -n:=by have:=Da h;omega
def iP(h:cQ n=X7):(n.natAbs:Int)=n:=by have:=Fa h;omega
def wO(n:Nat):Oj N n = -(n:Int):=rfl
def nT(n:Nat):Oj X7 n=(n:Int):=rfl
def Gm(a:Int):Oj (cQ a) a.natAbs=a:=by
 cases h:cQ a
 .rw[nT,iP h]
 rw[wO,natAbs_neg h];omega
def adq(a:Int):Oj (!cQ a) a.natAbs = -a:=by
 cases h:cQ a
 .rw[ik,wO,iP h]
 rw[iq,nT,natAbs_neg h]
def adr{b:Int}(h:cQ a=cQ b):Oj (cQ a) (a.natAbs+b.natAbs)=a+b:=by
 cases c:cQ a<;>rw[c] at h
 .have d:=iP c;have e:=iP h.symm;rw[nT];omega
 have d:=natAbs_neg c;have e:=natAbs_neg h.symm;rw[wO];omega
def agH{b:Int}(h:¬cQ a=cQ b)(g:a.natAbs<b.natAbs):Oj (cQ b) (b.natAbs-a.natAbs)=a+b:=by
 cases c:cQ a<;>cases d:cQ b<;>rw[c,d] at h
 .exact Y0 O h
 .have e:=iP c;have f:=natAbs_neg d;rw[wO];omega
 .have e:=natAbs_neg c;have f:=iP d;rw[nT];omega
 exact Y0 O h
def agI{b:Int}(h:¬cQ a=cQ b)(g:b.natAbs<=a.natAbs):Oj (cQ a) (a.natAbs-b.natAbs)=a+b:=by
 cases c:cQ a<;>cases d:cQ b<;>rw[c,d] at h
 .exact Y0 O h
 .have e:=iP c;have f:=natAbs_neg d;rw[nT];omega
 .have e:=natAbs_neg c;have f:=iP d;rw[wO];omega
 exact Y0 O h
def ads{b:Int}:Oj (decide (¬cQ a=cQ b)) (a.natAbs*b.natAbs)=a*b:=by
 cases e:cQ a<;>cases f:cQ b
 . have c:=iP e;have d:=iP f
   show ((a.natAbs*b.natAbs:Nat):Int)=_
   rw[la,c,d]
 . have c:=iP e;have d:=natAbs_neg f
   show -((a.natAbs*b.natAbs:Nat):Int)=_
   rw[la,c,d,Int.mul_neg,ot]
 . have c:=natAbs_neg e;have d:=iP f
   show -((a.natAbs*b.natAbs:Nat):Int)=_
   rw[la,c,d,Int.neg_mul,ot]
 have c:=natAbs_neg e;have d:=natAbs_neg f
 show ((a.natAbs*b.natAbs:Nat):Int)=_
 rw[la,c,d,Int.neg_mul_neg]
def akM{b:Int}:Oj (decide (¬cQ a=cQ b)) (a.natAbs / b.natAbs)=a.tdiv b:=by
 cases e:cQ a<;>cases f:cQ b
 . have c:=iP e;have d:=iP f
   show ((a.natAbs / b.natAbs:Nat):Int)=_
   rw[no,c,d]
 . have c:=iP e;have d:=natAbs_neg f
   show -((a.natAbs / b.natAbs:Nat):Int)=_
   rw[no,c,d,qg,ot]
 . have c:=natAbs_neg e;have d:=iP f
   show -((a.natAbs / b.natAbs:Nat):Int)=_
   rw[no,c,d,qo,ot]
 have c:=natAbs_neg e;have d:=natAbs_neg f
 show ((a.natAbs / b.natAbs:Nat):Int)=_
 rw[no,c,d,qo,qg,ot]
def akN{b:Int}:Oj (cQ a) (a.natAbs%b.natAbs)=a.tmod b:=by
 have e:a.tmod b=a.tmod (b.natAbs:Int):=by
  rcases Int.natAbs_eq b with h|h
  .rw[<-h]
  have:(b.natAbs:Int) = -b:=by omega
  rw[this,Int.tmod_neg]
 rw[e];cases d:cQ a
 . have c:=iP d
   rw[nT,qj,c]
 have c:=natAbs_neg d
 rw[wO,qj,c,qp,ot]
def bV(n:Int):Int:=if n<0 then -1 else if 0<n then 1 else 0
def tJ(h:n<0):bV n = -1:=by rw[bV,Z9 h]
def qX(h:0<n):bV n=1:=by rw[bV,K0 (by omega),Z9 h]
def eS:Nat->Nat
 |0=>0
 |n+1=>if (eS n+1)*(eS n+1)<=n+1 then eS n+1 else eS n
theorem tS:∀n,eS n*eS n<=n/\n<(eS n+1)*(eS n+1)
 |0=>by simp[eS]
 |n+1=>by
  obtain⟨a,b⟩:=tS n;simp only[eS];split
  . rename_i h
    refine⟨h,?_⟩;have:(eS n+1+1)*(eS n+1+1)=(eS n+1)*(eS n+1)+2*eS n+3:=by grind
    omega
  rename_i h
  exact⟨by omega,by omega⟩
def xT{n:Nat}(c:r*r<=n)(d:n<(r+1)*(r+1)):r=eS n:=by
 obtain⟨a,b⟩:=tS n;rcases oy r (eS n) with h|h|h
 .have:=jd (show r+1<=eS n from h) (show r+1<=eS n from h);omega
 .exact h
 have:=jd (show eS n+1<=r from h) (show eS n+1<=r from h);omega
def tT{V:Nat}(h:V<2^k):(digs 4294967296 V).length<=k:=by
 refine eQ (by omega) (bc h ?_);rw[show (4294967296:Nat)=2^32 from rfl,<-pg];exact fq (by omega) (by omega)
def gU(h:Bd 1000000 n):(dQ n).size<=1000000000000:=ay (Wl h) (by decide)
def aeR{b:Int}(c:Bd k a)(d:Bd k b):(digs 4294967296 (a.natAbs+b.natAbs)).length<=k+1:=tT (by unfold Bd at c d;rw[gd];omega)
def sN(h:Bd k n):(digs 4294967296 n.natAbs).length<=k:=tT h
def Om{n:Nat}(h:m<=n):(digs 4294967296 m).length<=(digs 4294967296 n).length:=by
 refine eQ (by omega) (fr h ?_);have:=kJ (pO n);rwa [cR] at this
def Wu  : (((digs 4294967296 a.natAbs).length:Int)=0)↔a=0:=by
 constructor
 . intro h
   have b:digs 4294967296 a.natAbs=[]:=fd (by omega);have:=(pM (by omega)).1 b;omega
 rintro rfl;rfl
def gF(n:Int):Prop:=-9223372036854775808<=n/\n<9223372036854775808
def gF.bd(h:gF n):Bd 64 n:=Bd.of_i64 h.1 (by have:=h.2;omega)
def agJ(h:gF n)(a:0<=n):IntKind.u64.wrap n=(n.natAbs:Int):=by
 rw[lD];have:=h.2;omega
def adt(h:gF n)(a:n<0):IntKind.u64.wrap n=((18446744073709551616-n.natAbs:Nat):Int):=by
 rw[lD];have:=h.1;omega
def Ty(h:m<=9223372036854775808)(a:0<m):IntKind.u64.wrap (0-((18446744073709551616-m:Nat):Int))=(m:Int):=by
 rw[lD];omega
def Tz  : val 4294967296 [m%4294967296,m / 4294967296]=m:=by simp[val];omega
def On(h:m<18446744073709551616):G 4294967296 [m%4294967296,m / 4294967296]:=λx a=>by simp at a;omega
def gF.natAbs(h:gF n):n.natAbs<=9223372036854775808:=by have:=h.1;have:=h.2;omega
def agK{Y:Nat}:Nat.gcd Y (X%Y)=Nat.gcd X Y:=by rw[Nat.gcd_comm X Y,Nat.gcd_rec Y X,Nat.gcd_comm]
theorem aeS(a:0<r):X<((r+X / r) / 2+1)*((r+X / r) / 2+1):=by
 generalize b:X / r=q;have c:X<r*(q+1):=by
  have:=Nat.lt_mul_div_succ X a;rw[b] at this;exact this
 generalize k:(r+q) / 2=s;have f:r+q+1<=2*(s+1):=by omega
 have g:(r+(q+1))*(r+(q+1))<=(2*(s+1))*(2*(s+1)):=jd (by omega) (by omega);have i:4*(r*(q+1))<=(r+(q+1))*(r+(q+1)):=by
  generalize q+1=p;rcases Nat.le_total r p with h|h
  . obtain⟨d,rfl⟩:=ou h
    have e:(r+(r+d))*(r+(r+d))=4*(r*(r+d))+d*d:=by grind
    omega
  obtain⟨d,rfl⟩:=ou h
  have e:(p+d+p)*(p+d+p)=4*((p+d)*p)+d*d:=by grind
  omega
 have j:(2*(s+1))*(2*(s+1))=4*((s+1)*(s+1)):=by grind
 omega
def aeT(a:0<r)(c:X<(r+1)*(r+1))(h:r<=(r+X / r) / 2):r=eS X:=by
 refine xT ?_ c;have b:r<=X / r:=by omega
 exact (Nat.le_div_iff_mul_le a).1 b
def Ua(h:¬r<=(r+X / r) / 2):(r+X / r) / 2<r:=by omega
theorem ab4{n:Nat}(h:X<4294967296^n):X<(4294967296^((n+1) / 2)+1)*(4294967296^((n+1) / 2)+1):=by
 have a:4294967296^n<=4294967296^((n+1) / 2)*4294967296^((n+1) / 2):=by
  rw[<-kh];exact fq (by omega) (by omega)
 generalize 4294967296^((n+1) / 2)=p at *
 generalize 4294967296^n=m at *
 have:(p+1)*(p+1)=p*p+2*p+1:=by grind
 omega
def agL(n:Nat):eS n<=n:=by
 have h:=(tS n).1;rcases et (eS n) with h0|h0
 .omega
 exact ay (kf _ h0) h
def Qc(n d:Int):Go.Value:=.agg #[.bool (cQ n),.string (dQ n),.bool (cQ d),.string (dQ d)]
def Q(q:Rat):Go.Value:=Qc q.num q.den
def aao(h:d≠0):d.tdiv ((ml n d:Int)*bV d)=((kg n d).den:Int)/\(ml n d:Int)*bV d≠0:=by
 have a:(ml n d:Int)≠0:=by
  intro e;have:=Int.gcd_eq_zero_iff.1 (show ml n d=0 by omega);exact h this.2
 have b:(ml n d:Int)∣d:=Int.gcd_dvd_right ..;rw[Rat.den_divInt,K0 h,Int.gcd_comm d n];obtain⟨c,f⟩:=b;generalize (ml n d)=g at *
 rcases oz d 0 with h0|h0|h0
 . rw[tJ h0]
   refine⟨?_,by omega⟩;rw[show (g:Int) * -1 = -(g:Int) by omega,qg,<-qo];rw[Int.natCast_ediv,show (d.natAbs:Int) = -d by omega];exact np (by omega)
 .exact Y0 h0 h
 rw[qX h0,Int.mul_one]
 refine⟨?_,a⟩;rw[Int.natCast_ediv,show (d.natAbs:Int)=d by omega];exact np (by omega)
def aap(h:d≠0):n.tdiv ((ml n d:Int)*bV d)=(kg n d).num:=by
 rw[Rat.num_divInt,Int.gcd_comm d n];have f:(ml n d:Int)∣n:=Int.gcd_dvd_left ..;obtain⟨c,b⟩:=f;have a:(ml n d:Int)≠0:=by
  intro e;have:=Int.gcd_eq_zero_iff.1 (show ml n d=0 by omega);exact h this.2
 generalize (ml n d)=g at *
 subst b;rcases oz d 0 with h0|h0|h0
 .rw[tJ h0,Int.sign_eq_neg_one_of_neg h0,show (g:Int) * -1 = -(g:Int) by omega,qg,Int.mul_tdiv_cancel_left _ a,Int.neg_one_mul,Int.neg_ediv_of_dvd (Int.dvd_mul_right ..),Int.mul_ediv_cancel_left _ a]
 .exact Y0 h0 h
 rw[qX h0,Int.sign_eq_one_of_pos h0,Int.mul_one,Int.mul_tdiv_cancel_left _ a,Int.one_mul,Int.mul_ediv_cancel_left _ a]
def anQ(h:d≠0):(kg n d).num.natAbs<=n.natAbs:=by
 rw[<-aap h,pi];exact jt ..
def anR(h:d≠0):(kg n d).den<=d.natAbs:=by
 have:=(aao (n:=n) h).1;have e:((kg n d).den:Int).natAbs<=d.natAbs:=by rw[<-this,pi];exact jt ..
 simpa using e
class Bq(k:outParam Nat)(q:Rat):Prop where
 n:Bd k q.num
 d:Bd k (q.den:Int)
theorem Bq.mk' {a b:Nat}(x:Bd a n)(y:Bd b d)(h:d≠0):Bq (max a b) (kg n d):=
 ⟨(x.of_le (anQ h)).mono (Nat.le_max_left ..),(y.of_le (by have:=anR (n:=n) h;simpa using this)).mono (Nat.le_max_right ..)⟩
def anS(p q:Rat):Int:=bV (p.num*q.den-q.num*p.den)
def uV{p q:Rat}:anS p q<0↔p<q:=by
 rw[Rat.lt_iff,anS];generalize p.num*q.den=a;generalize q.num*p.den=b;simp only[bV];split
 .simp;omega
 split<;>simp<;>omega
end
section
open Go.RowKit
variable{w w':an}{base g n cap i k m c:Nat}{E:ba}{A:Option Addr}{a s:Int}{l:List am}{x:cw}{α β:Type}
def wJ.full{cs:List am}(b:fQ w g cs E)(c:base<=g)(a:cs.length=n)(d:n<=9223372036854775807):wJ w base E 1 (.slice (H ⟨g,0,X8⟩) n n) n cs:=by
 refine⟨by simpa using a,.inr ⟨g,n,cs.toArray,O,c,b,bg _,d,by simpa using a,?_⟩⟩;simp[<-a]
def eR.refl_of{cs:List am}{t:ba}(_:fQ w g cs t):eR w w:=eR.refl w
def eR.ext{a b c:an}(h:eR a b)(k:eR b c):eR a c:=h.trans k
def dX.grew{w0:an}{xs:List Nat}(h:dX w0 A n cap xs)(f:eR w0 w)(g:Nx w w' base)(j:w0.heap.size<=base):dX w' A n cap xs:=
 ⟨h.eq,λi x k=>by
  obtain⟨a,e,b⟩:=h.row i x k;have c:=World.block_lt_of_cell? _ _ b;have d:=f.cell b;exact⟨a,e,(World.cell?_of_block (g.block _ (bc c j))).trans d⟩,h.le,h.cap,h.len,h.digs⟩
def Ub(n:Nat):bn n 0++[1]=digs 4294967296 (4294967296^n):=by
 refine uU (B:=4294967296) (by omega) ?_ (pO _) (rG (by omega) _) (fJ _) ?_
 . intro x a
   simp at a;omega
 rw[fI,fZ,cR,km]
 simp[val]
def anT{a b j:Nat}(g:a<4294967296^i)(h:b<4294967296^j):a+b<4294967296^(i+j+1):=by
 rw[gd,kh];have c:0<4294967296^i:=kj (by omega);have d:0<4294967296^j:=kj (by omega);generalize 4294967296^i=p at *
 generalize 4294967296^j=q at *
 have e:p<=p*q:=Nat.le_mul_of_pos_right _ d;have f:q<=p*q:=kf _ c;generalize p*q=m at *
 omega
def xU{a b:Nat}:0<=Wm a b↔b<=a:=by
 unfold Wm;split
 .omega
 split<;>omega
def agM{X r:Nat}(a:0<r)(c:X<(r+1)*(r+1))(b:0<X):0<(r+X / r) / 2:=by
 rcases ej r 2 with h|h
 . obtain rfl:r=1:=by omega
   rw[Nat.div_one];omega
 generalize X / r=q;omega
structure Y where
 x:Int
 y:Int
 z:Int
structure T3 where
 a:Y
 b:Y
 c:Y
namespace Y
def sub(p q:Y):Y:=⟨p.x-q.x,p.y-q.y,p.z-q.z⟩
def dot(p q:Y):Int:=p.x*q.x+p.y*q.y+p.z*q.z
def cross(u v:Y):Y:=⟨u.y*v.z-u.z*v.y,u.z*v.x-u.x*v.z,u.x*v.y-u.y*v.x⟩
end Y
def T3.normal(t:T3):Y:=(t.b.sub t.a).cross (t.c.sub t.a)
def pt(p:Y):Go.Value:=.agg #[U p.x,U p.y,U p.z]
def tr(t:T3):Go.Value:=.agg #[U t.a.x,U t.a.y,U t.a.z,U t.b.x,U t.b.y,U t.b.z,U t.c.x,U t.c.y,U t.c.z]
def wv(v:Y):Go.Value:=.agg #[.bool (cQ v.x),.string (dQ v.x),.bool (cQ v.y),.string (dQ v.y),.bool (cQ v.z),.string (dQ v.z)]
def K.up{n:Int}[x:K k n](h:k<=m:=by decide):Bd m n:=x.h.mono h
def Uc:dQ 0=⟨#[]⟩:=by
 have:mY 0=[]:=by
  unfold mY;rw[(pM (B:=256) (by omega)).2 rfl];rfl
 simp only[dQ,Int.natAbs_zero,this]
def agN:W 0=.agg #[.bool X7,.string ⟨#[]⟩]:=by simp only[W,Uc];rfl
class Iw(n:Int):Prop where
 h:gF n
class I3(p:Y):Prop where
 x:gF p.x
 y:gF p.y
 z:gF p.z
class IT(t:T3):Prop where
 a:I3 t.a
 b:I3 t.b
 c:I3 t.c
instance {p:Y}[h:I3 p]:Iw p.x:=⟨h.x⟩
instance {p:Y}[h:I3 p]:Iw p.y:=⟨h.y⟩
instance {p:Y}[h:I3 p]:Iw p.z:=⟨h.z⟩
instance {t:T3}[h:IT t]:I3 t.a:=h.a
instance {t:T3}[h:IT t]:I3 t.b:=h.b
instance {t:T3}[h:IT t]:I3 t.c:=h.c
instance {n:Int}[h:Iw n]:K 64 n:=⟨h.h.bd⟩
class Bv(k:outParam Nat)(v:Y):Prop where
 x:Bd k v.x
 y:Bd k v.y
 z:Bd k v.z
instance {k:Nat}{v:Y}[h:Bv k v]:K k v.x:=⟨h.x⟩
instance {k:Nat}{v:Y}[h:Bv k v]:K k v.y:=⟨h.y⟩
instance {k:Nat}{v:Y}[h:Bv k v]:K k v.z:=⟨h.z⟩
theorem Bv.mono{v:Y}(h:Bv k v)(a:k<=m):Bv m v:=⟨h.x.mono a,h.y.mono a,h.z.mono a⟩
theorem Bv.of{v:Y}[h:Bv k v](a:k<=m:=by decide):Bv m v:=h.mono a
instance {p q:Y}[a:I3 p][b:I3 q]:Bv 65 (p.sub q):=⟨a.x.bd.sub b.x.bd,a.y.bd.sub b.y.bd,a.z.bd.sub b.z.bd⟩
def Wv{l:Nat}{b c d:Int}(e:Bd k a)(f:Bd l b)(g:Bd k c)(h:Bd l d):Bd (k+l+1) (a*b-c*d):=by
 have:=(e.mul f).sub (g.mul h);exact this.mono (by omega)
def agO{l:Nat}{b c d:Int}(e:Bd k a)(f:Bd l b)(g:Bd k c)(h:Bd l d):Bd (k+l+1) (a*b+c*d):=by
 have:=(e.mul f).add (g.mul h);exact this.mono (by omega)
instance {k l:Nat}{u v:Y}[a:Bv k u][b:Bv l v]:Bv (k+l+1) (u.cross v):=⟨Wv a.y b.z a.z b.y,Wv a.z b.x a.x b.z,Wv a.x b.y a.y b.x⟩
instance {k l:Nat}{u v:Y}[a:Bv k u][b:Bv l v]:K (k+l+2) (u.dot v):=⟨((agO a.x b.x a.y b.y).add (a.z.mul b.z)).mono (by omega)⟩
instance {t:T3}[h:IT t]:Bv 131 t.normal:=inferInstanceAs (Bv 131 ((t.b.sub t.a).cross (t.c.sub t.a)))
def Y.dot0{u v:Y}:0+u.x*v.x+u.y*v.y+u.z*v.z=u.dot v:=by simp only[Y.dot,Int.zero_add]
section
variable{P:B}{Q:Exit->Act->an->Prop}{a:Act}{w:an}{c:Code}{n:Nat}
def Bf(h:c.wp P (Exit.then (Code.rounds P c Q n) Q) a w):Code.rounds P c Q (n+1) a w:=h
def jD(h:c.wp P (Exit.then (Code.rounds P c Q n) Q) a w):Exit.then (Code.rounds P c Q (n+1)) Q .normal a w:=h
end
def nv(v:Y):Go.Value:=.agg #[U v.x,U v.y,U v.z]
def sg(v:Y):Go.Value:=.agg #[U (bV v.x),U (bV v.y),U (bV v.z)]
class S3(p:Y):Prop where
 x:p.x.natAbs<262144
 y:p.y.natAbs<262144
 z:p.z.natAbs<262144
class N3(p:Y):Prop where
 x:p.x.natAbs<524288
 y:p.y.natAbs<524288
 z:p.z.natAbs<524288
instance {p q:Y}[a:S3 p][b:S3 q]:N3 (p.sub q):=⟨by have:=a.x;have:=b.x;simp only[Y.sub];omega,by have:=a.y;have:=b.y;simp only[Y.sub];omega,by have:=a.z;have:=b.z;simp only[Y.sub];omega⟩
def Me{b:Int}(c:a.natAbs<524288)(d:b.natAbs<524288) : -274877906944<a*b/\a*b<274877906944:=by
 have h:(a*b).natAbs<=524287*524287:=by rw[Int.natAbs_mul];exact jd (by omega) (by omega)
 omega
def anU{x y:Int}(h : -274877906944<x/\x<274877906944)(k : -274877906944<y/\y<274877906944):IntKind.i64.wrap (x-y)=x-y:=bN (by omega) (by omega)
def Ud{x:Int}(h : -274877906944<x/\x<274877906944):IntKind.i64.wrap x=x:=bN (by omega) (by omega)
def Aa{v:Int}(h:gF v):IntKind.u64.wrap (if v<IntKind.i64.wrap (0-v) then IntKind.i64.wrap (0-v) else v)=(v.natAbs:Int):=by
 obtain⟨a,b⟩:=h;rcases Int.lt_or_le (-9223372036854775808) v with h3|h3
 . rw[bN (x:=0-v) (by omega) (by omega),lD]
   split<;>omega
 obtain rfl:v = -9223372036854775808:=by omega
 decide
def akO:ByteArray:=⟨#[0,1,2,2,3,3,3,3,4,4,4,4,4,4,4,4,5,5,5,5,5,5,5,5,5,5,5,5,5,5,5,5,6,6,6,6,6,6,6,6,6,6,6,6,6,6,6,6,6,6,6,6,6,6,6,6,6,6,6,6,6,6,6,6,7,7,7,7,7,7,7,7,7,7,7,7,7,7,7,7,7,7,7,7,7,7,7,7,7,7,7,7,7,7,7,7,7,7,7,7,7,7,7,7,7,7,7,7,7,7,7,7,7,7,7,7,7,7,7,7,7,7,7,7,7,7,7,7,8,8,8,8,8,8,8,8,8,8,8,8,8,8,8,8,8,8,8,8,8,8,8,8,8,8,8,8,8,8,8,8,8,8,8,8,8,8,8,8,8,8,8,8,8,8,8,8,8,8,8,8,8,8,8,8,8,8,8,8,8,8,8,8,8,8,8,8,8,8,8,8,8,8,8,8,8,8,8,8,8,8,8,8,8,8,8,8,8,8,8,8,8,8,8,8,8,8,8,8,8,8,8,8,8,8,8,8,8,8,8,8,8,8,8,8,8,8,8,8,8,8,8,8,8,8,8,8]⟩
def aeU:∀i,i<256->∃b:UInt8,akO[i]? = H b/\b.toNat<=8/\(b.toNat<=2->i<4):=by
 have h:(fh 256).all (λi=>match akO[i]? with
  |some b=>decide (b.toNat<=8)&&(decide (2<b.toNat)||decide (i<4))
  |none=>X7)=N:=by decide +kernel
 intro i c;have:=jy.1 h i (jc.2 c);cases a:akO[i]? with
 |none=>rw[a] at this;cases this
 |some b=>
  rw[a] at this;simp only[ck,Bool.or_eq_true,Y2] at this;exact⟨b,O,this.1,λh=>by omega⟩
section
variable{P:B}{ds:List d_}{l:List am}{x y:cw}{T ty:ba}{ops:Array Oper}{Q:Exit->Act->an->Prop}{rest:List Oper}{d:Nat}{pos:String}{after:Array Edge}{w:an}{k:IntKind}
def Bg{Y:Nat}(g:P.underlying T=H .string)(i:ev l x=.string akO)(j:ev l y=.int k (Y:Int))(e:Y<256)(h:∀b:Nat,b<=8->(b<=2->Y<4)->be P ops Q rest (Fr (l.set d (.int .u8 (b:Int))) ds) w) :
 be P ops Q (cj (H d) (.index T x y) ty pos after X8::rest) (Fr l ds) w:=by
 obtain⟨b,f,a,c⟩:=aeU Y e;exact aA (pD g i j (by omega) (by rw[ab];exact f)) (h b.toNat a c)
end
def agP  : (m:Int).fdiv (2^(min (16:Int).toNat IntKind.u64.bits))=((m / 65536:Nat):Int):=by
 show (m:Int).fdiv (2^16)=_
 rw[gl _ (by decide)];omega
def adu  : (m:Int).fdiv (2^(min (8:Int).toNat IntKind.u64.bits))=((m / 256:Nat):Int):=by
 show (m:Int).fdiv (2^8)=_
 rw[gl _ (by decide)];omega
def Ja(x p q:Y):Rat:=
 if (q.sub p).dot (x.sub p)<=0 then kg ((x.sub p).dot (x.sub p)) 1
 else if (q.sub p).dot (q.sub p)<=(q.sub p).dot (x.sub p) then kg ((q.sub x).dot (q.sub x)) 1
 else kg ((x.sub p).dot (x.sub p)*(q.sub p).dot (q.sub p)-(q.sub p).dot (x.sub p)*(q.sub p).dot (x.sub p)) ((q.sub p).dot (q.sub p))
def anV(n a b x:Y):Int:=n.dot ((b.sub a).cross (x.sub a))
def ins(x:Y)(t:T3):Prop:=0<=anV t.normal t.a t.b x/\0<=anV t.normal t.b t.c x/\0<=anV t.normal t.c t.a x
instance (x:Y)(t:T3):Decidable (ins x t):=inferInstanceAs (Decidable (_/\_/\_))
def T3.flat(t:T3):Prop:=t.normal.x=0/\t.normal.y=0/\t.normal.z=0
variable{t:T3}{ts:List T3}{f:T3->Int}
instance (t:T3):Decidable t.flat:=inferInstanceAs (Decidable (_/\_/\_))
def Oo(m q:Rat):Rat:=if q<m then q else m
def Oq(x:Y)(t:T3):Rat:=Oo (Oo (Ja x t.a t.b) (Ja x t.b t.c)) (Ja x t.c t.a)
def amM(x:Y)(t:T3):Rat:=kg (t.normal.dot (x.sub t.a)*t.normal.dot (x.sub t.a)) (t.normal.dot t.normal)
def Du(x:Y)(t:T3):Rat:=if ¬t.flat/\ins x t then amM x t else Oq x t
def Jb(x:Y):List T3->Rat
 | []=>0
 |t::ts=>ts.foldl (λm u=>Oo m (Du x u)) (Du x t)
def cK{n:Int}:bV n=0↔n=0:=by
 unfold bV;constructor
 . intro h
   split at h
   .cases h
   split at h
   .cases h
   omega
 rintro rfl;rfl
def rS{n:Int}:0<=bV n↔0<=n:=by
 unfold bV;split
 .constructor<;>intro h<;>omega
 split<;>constructor<;>intro h<;>omega
def agQ{n:Int}:0<bV n↔0<n:=by
 unfold bV;split
 .constructor<;>intro h<;>omega
 split<;>constructor<;>intro h<;>omega
def wP{n:Int}:bV n<=0↔n<=0:=by
 have:=@agQ n;omega
def Ot  : (bV t.normal.x=0/\bV t.normal.y=0/\bV t.normal.z=0)↔t.flat:=by
 simp only[cK,T3.flat]
def Ue(a:Int):0<=a*a:=by
 rcases Int.le_total 0 a with h|h
 .exact Int.mul_nonneg h h
 exact Int.mul_nonneg_of_nonpos_of_nonpos h h
def ab5(h:a≠0):0<a*a:=by
 rcases Int.lt_or_gt_of_ne h with h|h
 .exact Int.mul_pos_of_neg_of_neg h h
 exact Int.mul_pos h h
def ab6(u:Y):0<=u.dot u:=by
 have:=Ue u.x;have:=Ue u.y;have:=Ue u.z;simp only[Y.dot];omega
def akP{u:Y}:0<u.dot u↔¬(u.x=0/\u.y=0/\u.z=0):=by
 have d:=Ue u.x;have e:=Ue u.y;have f:=Ue u.z;constructor
 . rintro h ⟨a,b,c⟩
   simp[Y.dot,a,b,c] at h
 intro h
 simp only[Y.dot];by_cases a:u.x=0
 . by_cases b:u.y=0
   . by_cases c:u.z=0
     .exact Y0 ⟨a,b,c⟩ h
     have:=ab5 c;omega
   have:=ab5 b;omega
 have:=ab5 a;omega
def aaq  : 0<t.normal.dot t.normal↔¬t.flat:=akP
theorem Bq.mono{q:Rat}(h:Bq k q)(a:k<=m):Bq m q:=⟨h.n.mono a,h.d.mono a⟩
def adv:Bd 1 1:=by
 show Int.natAbs 1<2^1
 decide
def anW  : Bd (k+1) 1:=adv.mono (by omega)
theorem Mx{x p q:Y}[I3 x][I3 p][I3 q]:Bq 1000 (Ja x p q):=by
 unfold Ja;split
 .exact (Bq.mk' (a:=200) (b:=1) K.up adv (by decide)).mono (by decide)
 split
 .exact (Bq.mk' (a:=200) (b:=1) K.up adv (by decide)).mono (by decide)
 exact (Bq.mk' (a:=400) (b:=200) K.up K.up (by rename_i c d;have:=ab6 (q.sub p);omega)).mono (by decide)
theorem Ww{m q:Rat}(h:Bq 1000 m)(k:Bq 1000 q):Bq 1000 (Oo m q):=by
 unfold Oo;split
 .exact k
 exact h
theorem Wx{x:Y}[I3 x][IT t]:Bq 1000 (Du x t):=by
 unfold Du;split
 . rename_i h
   have:=aaq.2 h.1;exact (Bq.mk' (a:=500) (b:=300) K.up K.up (by omega)).mono (by decide)
 exact Ww (Ww Mx Mx) Mx
theorem aar{x:Y}[I3 x]:∀(ts:List T3)(m:Rat),(∀t∈ts,IT t)->Bq 1000 m->Bq 1000 (ts.foldl (λm u=>Oo m (Du x u)) m)
 | [],m,_,h=>h
 |t::ts,m,a,h=>by
  haveI:=a t (by simp);exact aar ts _ (λu b=>a u (by simp[b])) (Ww h Wx)
def wQ{x:Y}(h:¬(¬t.flat/\ins x t)):Oq x t=Du x t:=by rw[Du,K0 h]
def wR{x:Y}(h:¬t.flat/\ins x t):amM x t=Du x t:=by rw[Du,Z9 h]
def no0{x:Y}(h:X7 = !decide (bV t.normal.x=0/\bV t.normal.y=0/\bV t.normal.z=0)):¬(¬t.flat/\ins x t):=λ⟨a,_⟩=>by
 rw[Y6 (λe=>a (Ot.1 e))] at h;cases h
def ar7(h:N = !decide (bV t.normal.x=0/\bV t.normal.y=0/\bV t.normal.z=0)):¬t.flat:=λe=>by
 rw[Y5 (Ot.2 e)] at h;cases h
def Wy{n:Int}(h:X7=decide (0<=bV n)):¬0<=n:=λe=>X5 h.symm (rS.2 e)
def Ou{n:Int}(h:N=decide (0<=bV n)):0<=n:=rS.1 (Y9 h.symm)
theorem Bq.up{q:Rat}[h:Bq k q](a:k<=m:=by decide):Bq m q:=h.mono a
instance {x p q:Y}[I3 x][I3 p][I3 q]:Bq 1000 (Ja x p q):=Mx
instance {x:Y}{t:T3}[I3 x][IT t]:Bq 1000 (Du x t):=Wx
theorem akQ{x:Y}[I3 x](h:∀t∈ts,IT t):Bq 1000 (Jb x ts):=by
 cases ts with
 |nil=>exact⟨(Cv 1000),by show Bd 1000 1;exact anW⟩
 |cons t ts=>
  haveI:=h t (by simp);exact aar ts _ (λu a=>h u (by simp[a])) Wx
def agR{x:Y}(h:ts[0]? = H t):Jb x (ts.take 1)=Du x t:=by
 cases ts with
 |nil=>cases h
 |cons u ts=>cases h;rfl
def Uf{x:Y}(a:k≠0)(h:ts[k]? = H t):Jb x (ts.take (k+1))=Oo (Jb x (ts.take k)) (Du x t):=by
 cases ts with
 |nil=>cases h
 |cons u ts=>
  obtain⟨k,rfl⟩:∃j,k=j+1:=⟨k-1,by omega⟩
  rw[ic,ic,jb];simp only[List.getElem?_cons_succ] at h;rw[h];simp[Jb,ly]
structure cI(w:an)(A:Option Addr)(n:Nat)(ts:List T3):Prop where
 len:ts.length=n
 it:∀t∈ts,IT t
 row:∀i t,ts[i]? = H t->∃a,A=H a/\iX w (a.add (i*9)) [U t.a.x,U t.a.y,U t.a.z,U t.b.x,U t.b.y,U t.b.z,U t.c.x,U t.c.y,U t.c.z]
def cI.ext(h:cI w A n ts)(b:eR w w'):cI w' A n ts:=
 ⟨h.len,h.it,λi t c=>let ⟨a,e,d⟩:=h.row i t c;⟨a,e,d.ext b⟩⟩
def cI.nil(w:an)(A:Option Addr):cI w A 0 []:=⟨rfl,λt h=>(by cases h),λi t h=>(by cases h)⟩
def cI.get(h:cI w A n ts)(e:i<n):∃t,ts[i]? = H t/\IT t/\∃a,A=H a/\iX w (a.add (i*9)) [U t.a.x,U t.a.y,U t.a.z,U t.b.x,U t.b.y,U t.b.z,U t.c.x,U t.c.y,U t.c.z]:=by
 have d:i<ts.length:=by rw[h.len];exact e
 refine⟨ts[i],ah d,h.it _ (fe d),h.row i _ (ah d)⟩
def fA(f:T3->Int)(ts:List T3):Int:=(ts.map f).sum
def mO(h:ts[k]? = H t):fA f (ts.take (k+1))=fA f (ts.take k)+f t:=by
 unfold fA;rw[jb,h];simp
def Ov{f:T3->Int}{m:Nat}:∀(ts:List T3),(∀t∈ts,Bd m (f t))->(fA f ts).natAbs<=ts.length*2^m
 | [],_=>by simp[fA]
 |t::ts,h=>by
  have c:=Ov ts (λu b=>h u (by simp[b]));have a:=h t (by simp);unfold Bd at a;have e:fA f (t::ts)=f t+fA f ts:=by simp[fA]
  rw[e,bh,gw,kl];omega
def uW(h:∀t∈ts,Bd m (f t))(b:ts.length<2^64):Bd (64+m) (fA f ts):=by
 have a:=Ov ts h;unfold Bd;rw[kh];exact fr a (ni b (mr m))
def rT(h:∀t∈ts,Bd m (f t))(a:ts.length<2^64):Bd (64+m) (fA f (ts.take k)):=
 uW (λt b=>h t (gj b)) (fr (by rw[bf];exact Nat.min_le_right ..) a)
def nn(t:T3):Int:=t.normal.dot t.normal
def vX(t:T3):Int:=(eS (nn t).natAbs:Int)
def tU(t:T3):Int:=vX t+if vX t*vX t=nn t then 0 else 1
def Wz[IT t]:Bd 300 (vX t):=by
 have h:Bd 300 (nn t):=(K.up:Bd 300 (t.normal.dot t.normal))
 refine h.of_le ?_;simp only[vX,Int.natAbs_natCast];exact agL _
def agS[IT t]:Bd 301 (tU t):=by
 refine (Wz (t:=t)).add ?_ |>.mono (by decide:max 300 1+1<=301)
 split
 .exact Cv 1
 exact adv
instance {t:T3}[IT t]:K 300 (vX t):=⟨Wz⟩
def qR(t:T3):Int:=t.a.dot (t.b.cross t.c)
theorem akR{a b c:Y}  : s+a.x*(b.y*c.z)+a.y*(b.z*c.x)+a.z*(b.x*c.y)-a.x*(b.z*c.y)-a.y*(b.x*c.z)-a.z*(b.y*c.x)=s+qR ⟨a,b,c⟩:=by
 simp only[qR,Y.dot,Y.cross]
 grind
theorem agT{p:Y}[h:I3 p]:Bv 64 p:=⟨h.x.bd,h.y.bd,h.z.bd⟩
def tV[IT t]:Bd 200 (qR t):=by
 haveI:=agT (p:=t.a);haveI:=agT (p:=t.b);haveI:=agT (p:=t.c);exact (K.up:Bd 200 (t.a.dot (t.b.cross t.c)))
instance {t:T3}[IT t]:K 200 (qR t):=⟨tV⟩
def My(f:Y->Int)(t:T3):Int:=qR t*f t.a+qR t*f t.b+qR t*f t.c
def agU   : s+t.a.x*(t.b.y*t.c.z)+t.a.y*(t.b.z*t.c.x)+t.a.z*(t.b.x*t.c.y)-t.a.x*(t.b.z*t.c.y)-t.a.y*(t.b.x*t.c.z)-t.a.z*(t.b.y*t.c.x)=s+qR t:=akR
def tW   : fA f [t]=f t:=by simp[fA]
def Ox{f:Y->Int}   : s+qR t*f t.a+qR t*f t.b+qR t*f t.c=s+My f t:=by
 simp only[My,Int.add_assoc]
def Jc{f:Y->Int}[IT t](d:Bd 64 (f t.a))(e:Bd 64 (f t.b))(g:Bd 64 (f t.c)):Bd 300 (My f t):=
 (((tV.mul d).add (tV.mul e)).add (tV.mul g)).mono (by decide)
def aas{b:Int}:(cQ a=cQ b/\dQ a=dQ b)↔a=b:=by
 constructor
 . rintro⟨c,d⟩
   exact aqx (by simp only[W,c,d])
 rintro rfl;exact⟨O,O⟩
def cI.one{T:ba}[h:IT t](e:fQ w g [U t.a.x,U t.a.y,U t.a.z,U t.b.x,U t.b.y,U t.b.z,U t.c.x,U t.c.y,U t.c.z] T):cI w (H ⟨g,0,X8⟩) 1 [t]:=by
 refine⟨O,λu f=>?_,λi u d=>?_⟩
 . obtain rfl:=cr.1 f
   exact h
 cases i with
 |zero=>
  cases d;exact⟨_,O,e.row 0⟩
 |succ i=>cases d
def cq(m v:Int):Rat:=if v=0 then 0 else kg m (v*4)
def fv(a b c:Rat):Go.Value:=.agg #[.bool (cQ a.num),.string (dQ a.num),.bool (cQ (a.den:Int)),.string (dQ (a.den:Int)),.bool (cQ b.num),.string (dQ b.num),.bool (cQ (b.den:Int)),.string (dQ (b.den:Int)),.bool (cQ c.num),.string (dQ c.num),.bool (cQ (c.den:Int)),.string (dQ (c.den:Int))]
def agV(h:¬vX t*vX t=nn t):s+tU t=s+vX t+1:=by rw[tU,K0 h,Int.add_assoc]
def agW(h:vX t*vX t=nn t):s+tU t=s+vX t:=by rw[tU,Z9 h,Int.add_zero]
def aP(t:T3):List Go.Value:=[U t.a.x,U t.a.y,U t.a.z,U t.b.x,U t.b.y,U t.b.z,U t.c.x,U t.c.y,U t.c.z]
def iX.pre{a:Addr}{xs ys:List Go.Value}(h:iX w a (xs++ys)):iX w a xs:=λj u b=>h j u (by
 have c:j<xs.length:=(av.1 b).1;rw[db c];exact b)
def eC(t:T3):(aP t).length=9:=rfl
def wS:∀(ts:List T3)(i:Nat)(t:T3),ts[i]? = H t->(ts.flatMap aP).drop (i*9)=aP t++(ts.drop (i+1)).flatMap aP
 | [],i,t,h=>by cases h
 |u::ts,0,t,h=>by
  cases h;rfl
 |u::ts,i+1,t,h=>by
  rw[da,show (i+1)*9=(aP u).length+i*9 by rw[eC];omega,jz,fl (by omega),cv];rw[show (aP u).length+i*9-(aP u).length=i*9 by omega];exact wS ts i t h
def cI.of_cells{T:ba}{cs:List Go.Value}(a:fQ w g cs T)(b:cs=ts.flatMap aP)(d:ts.length=n)(c:∀t∈ts,IT t):cI w (H ⟨g,0,X8⟩) n ts:=by
 subst b;refine⟨d,c,λi t e=>⟨_,O,?_⟩⟩;rw[cA,ae];have:=a.row (i*9);rw[wS ts i t e] at this;exact this.pre
instance {a b c:Int}[x:Iw a][y:Iw b][z:Iw c]:I3 ⟨a,b,c⟩:=⟨x.h,y.h,z.h⟩
instance {a b c:Y}[x:I3 a][y:I3 b][z:I3 c]:IT ⟨a,b,c⟩:=⟨x,y,z⟩
abbrev Oy(A:Option Addr):Option Nat:=A.map (·.block)
structure Ow(w0 w:an)(S:List (Option Nat))(E:ba)(c:Nat)(A:Option Addr)(n cap:Nat)(xs:List am):Prop where
 own:w.ownsRow w0.heap.size E c (.slice A n cap) n xs
 sep:∀b,Oy A=H b->H b∉S
 bd:∀b,H b∈S->b<w.heap.size
structure Wr(w w':an)(A:Option Addr):Prop where
 os:w'.os=w.os
 tape:w'.tape=w.tape
 output:w'.output=w.output
 size:w.heap.size<=w'.heap.size
 block:∀k,k<w.heap.size->Oy A≠H k->w'.heap[k]? = w.heap[k]?
def oM{w:an}{base c n cap:Nat}{E:ba}{A:Option Addr}{xs:List am}(h:w.ownsRow base E c (.slice A n cap) n xs) :
 (A=X8/\n=0/\cap=0/\xs=[])\/∃g cur,A=H ⟨g,0,X8⟩/\base<=g/\w.heap[g]? = H (.cells cur E (0,0))/\n<=cap/\cap<=maxLen/\cur.size=cap*c/\cur.toList.take (n*c)=xs:=by
 rcases h.2 with ⟨b,a⟩|⟨g,k,cur,b,a,d,e,f,i,j⟩
 . cases b
   exact .inl ⟨O,a,O,fd (by rw[h.1,a,Nat.zero_mul])⟩
 cases b
 exact .inr ⟨g,cur,O,a,d,e,f,i,j⟩
section
variable{w0 w w':an}{S:List (Option Nat)}{E:ba}{c n cap:Nat}{A:Option Addr}{xs:List am}
def Ow.cases(h:Ow w0 w S E c A n cap xs):(A=X8/\n=0/\cap=0/\xs=[])\/∃g cur,A=H ⟨g,0,X8⟩/\w0.heap.size<=g/\w.heap[g]? = H (.cells cur E (0,0))/\n<=cap/\cap<=maxLen/\cur.size=cap*c/\cur.toList.take (n*c)=xs:=oM h.own
def Ow.ge(h:Ow w0 w S E c A n cap xs):∀b,Oy A=H b->w0.heap.size<=b:=λb a=>by
 rcases h.cases with ⟨rfl,_⟩|⟨g,cur,rfl,d,_⟩
 .cases a
 cases a
 exact d
def Ow.le(h:Ow w0 w S E c A n cap xs):n<=cap:=by
 rcases h.cases with ⟨_,rfl,rfl,_⟩|⟨g,cur,_,_,_,a,_⟩
 .exact bg _
 exact a
def Ow.some(h:Ow w0 w S E c A n cap xs)(a:0<n):∃g,A=H ⟨g,0,X8⟩:=by
 rcases h.cases with ⟨_,rfl,_⟩|⟨g,cur,rfl,_⟩
 .omega
 exact⟨g,O⟩
def Ow.row(h:Ow w0 w S E c A n cap xs):∀j u,xs[j]? = me u->∃a,A=me a/\w.cell? (a.add j)=me u:=λj u b=>by
 rcases h.cases with ⟨_,_,_,rfl⟩|⟨g,cur,rfl,_,e,_,_,_,d⟩
 .cases b
 refine⟨_,O,?_⟩
 rw[cA,ae,cell_of_row w g j cur E (0,0) e];rw[<-d,fa] at b;split at b
 .simpa using b
 cases b
def Ow.rows{g:Nat}(h:Ow w0 w S E c (me ⟨g,0,X8⟩) n cap xs):iX w ⟨g,0,X8⟩ xs:=λj u d=>by
 obtain⟨a,e,b⟩:=h.row j u d;cases e;exact b
def Ow.nil(w0 w:an)(E:ba)(c:Nat):Ow w0 w [] E c X8 0 0 []:=⟨World.ownsRow_nil w _ E c,λ_ h=>(by cases h),λ_ h=>(by cases h)⟩
def Ow.mk' {g:Nat}{cs:List am}(b:fQ w g cs E)(d:w0.heap.size<=g)(a:cs.length=n*c)(e:n<=maxLen):Ow w0 w [] E c (me ⟨g,0,X8⟩) n n cs:=
 ⟨⟨a,.inr ⟨g,n,_,rfl,d,b,bg _,e,by simpa using a,by simp[<-a]⟩⟩,λ_ _ h=>(by cases h),λ_ h=>(by cases h)⟩
def Ow.take(h:Ow w0 w S E c A n cap xs){k:Nat}(a:k<=n):Ow w0 w S E c A k cap (xs.take (k*c)):=by
 have j:(xs.take (k*c)).length=k*c:=by
  rw[bf,h.own.1];exact de (ft _ a)
 refine⟨⟨j,?_⟩,h.sep,h.bd⟩;rcases h.cases with ⟨rfl,rfl,rfl,_⟩|⟨g,cur,rfl,b,d,l,e,f,i⟩
 . obtain rfl:k=0:=by omega
   exact .inl ⟨O,O⟩
 refine .inr ⟨g,cap,cur,O,b,d,by omega,e,f,?_⟩
 rw[<-i,qk,de (ft _ a)]
def Ow.as{ys:List am}(h:Ow w0 w S E c A n cap xs)(e:xs=ys):Ow w0 w S E c A n cap ys:=e▸h
end
section
variable{P:B}{ds:List d_}{l:List am}{x y:cw}{T ty:ba}
variable{ops:Array Oper}{Q:Exit->Act->an->Prop}{rest:List Oper}{d:Nat}{pos:String}{after:Array Edge}{w w0:an}{S:List (Option Nat)}{E:ba}{c n cap m mcap:Nat}{A B:Option Addr}{xs news:List am}
def Wr.refl(w:an)(A:Option Addr):Wr w w A:=⟨rfl,rfl,rfl,bg _,λ_ _ _=>rfl⟩
def Sv{t:ba}{i:TypeInfo}{z:am}{bytes:Nat}(s:P.underlying t=H (.slice E))(q:P.info? E=H i)(L:i.zero=H z)(an:i.size=c)(ad:i.bytes=bytes)(aj:z.cells.size=c)(ai:0<c)
 (d:Ow w0 w S E c A n cap xs) (l:news.length=m*c) (I:∀j u,news[j]? = H u->∃a,B=H a/\w.cell? (a.add j)=H u) (X:∀u∈news,u.oneCell'=N)
 (M:n+m<=maxLen) (U:(n+m)*bytes<=140737488355328) (al:w0.heap.size<=w.heap.size) :
 ∃v T w',(Builtin.append_ #[t,t] ty #[.slice A n cap,.slice B m mcap]).run P w=.ok (.slice v (n+m) T) w'/\Ow w0 w' S E c v (n+m) T (xs++news)/\Wr w w' A/\(v=A\/Oy v=H w.heap.size):=by
 subst an;subst ad;have ap:n+m<=9223372036854775807:=by simp only[maxLen] at M;omega
 have y:(xs++news).length=(n+m)*i.size:=by rw[a_,d.own.1,l,gw]
 have grown:∀(f:Nat),f<n+m ->
  Ow w0 (w.drew.alloc (.cells (xs.toArray++news.toArray++Builtin.zeroCells z.cells (grownCap w (n+m) f E-(n+m))) E)) S E i.size
   (H ⟨w.heap.size,0,X8⟩) (n+m) (grownCap w (n+m) f E) (xs++news) /\
  Wr w (w.drew.alloc (.cells (xs.toArray++news.toArray++Builtin.zeroCells z.cells (grownCap w (n+m) f E-(n+m))) E)) A:=by
  intro f ho;have ag:=grownCap_ge w (n+m) f E;have G:grownCap w (n+m) f E<=maxLen:=grownCap_le_maxLen w (n+m) f E M;refine⟨⟨⟨y,.inr ⟨w.heap.size,_,_,O,al,heap_alloc_new w.drew _,ag,G,?_,?_⟩⟩,λb o x=>?_,λb o=>?_⟩,⟨O,O,O,by simp,λk D _=>heap_alloc_old w.drew _ (h:=D)⟩⟩
  . simp only[Array.size_append,gy,size_zeroCells,aj,d.own.1,l,<-gw]
    congr 1
    omega
  . simp only[Array.toList_append,di]
    rw[<-di,<-y];exact List.take_left
  . have aa:w.heap.size=b:=by simpa using o
    subst aa;exact Y0 (d.bd _ x) (Nat.lt_irrefl _)
  have:=d.bd _ o
  have Y:(w.drew.alloc (.cells (xs.toArray++news.toArray++Builtin.zeroCells z.cells (grownCap w (n+m) f E-(n+m))) E)).heap.size=w.heap.size+1:=by simp
  rw[Y];omega
 have Q:B=X8->m=0/\news=[]:=λZ=>by
  have F:news=[]:=by
   cases news with
   |nil=>rfl
   |cons u us=>obtain⟨a,e,_⟩:=I 0 u rfl;rw[Z] at e;cases e
  subst F;refine⟨?_,O⟩;rcases et m with h0|h0
  .exact h0
  have:=Nat.mul_pos h0 ai;simp at l;omega
 rcases d.cases with ⟨rfl,rfl,rfl,rfl⟩|⟨g,cur,rfl,ab,K,ah,G,af,ao⟩
 . by_cases x:m=0
   . subst x
     have F:news=[]:=fd (by simpa using l);subst F;refine⟨X8,0,w,?_,by simpa using d,Wr.refl _ _,.inl O⟩;cases B<;>simp[Builtin.append_,dg s,sizeOf,typeInfo,q,Builtin.lenOf,Builtin.firstCells,loadCells,loadCellsFrom]
   cases B with
   |none=>exact Y0 (Q rfl).1 x
   |some a=>
    have r:=run_append_nil (P:=P) w t ty E i z s q L a m mcap news l (λj u C=>by obtain⟨W,e,h⟩:=I j u C;cases e;exact h) (by omega) (by omega) (by have o:=U;simp only[ae] at o;omega);have p:=grown 0 (by omega);simp only[ae,cv,Array.empty_append] at p ⊢;exact⟨_,_,_,r,p.1,p.2,.inr O⟩
 cases B with
 |none=>
  obtain⟨rfl,rfl⟩:=Q rfl;refine⟨H ⟨g,0,X8⟩,cap,w,?_,by simpa using d,Wr.refl _ _,.inl O⟩;simp[Builtin.append_,dg s,sizeOf,typeInfo,q,Builtin.lenOf,Builtin.firstCells,ah,storeCells]
 |some a=>
  have V:∀j u,news[j]? = H u->w.cell? (a.add j)=H u:=λj u C=>by obtain⟨W,e,h⟩:=I j u C;cases e;exact h
  by_cases J:n+m<=cap
  . have ak:n*i.size+news.length<=cur.size:=by rw[l,af,<-gw];exact ft _ J
    have r:=run_append_room (P:=P) w t ty E i s q g n cap cur K a m mcap news l V X J ak;refine⟨_,_,_,r,⟨⟨y,.inr ⟨g,cap,_,O,ab,setRow_heap w g cur _ E _ K,J,G,?_,?_⟩⟩,d.sep,λb o=>by simpa using d.bd b o⟩,⟨O,O,O,by simp,λk _ D=>setRow_other w g k _ (λe=>D (by rw[e];rfl))⟩,.inl rfl⟩
    . simp only[gy,a_,bf,ef,Array.length_toList]
      omega
    rw[ao,<-y]
    exact List.take_left
  have r:=run_append_grow (P:=P) w t ty E i z s q L ⟨g,0,X8⟩ n cap xs d.own.1 d.rows a m mcap news l V (by omega) (by omega) (growslice_fits (by omega) U)
  have p:=grown cap (by omega);exact⟨_,_,_,r,p.1,p.2,.inr O⟩
def aeV{b:Nat}{z:am}{a0:Array ba}(F:a0 = #[T,T])(M:P.underlying T=H (.slice E))(f:(P.info? E).map (λi=>(i.size,i.bytes,i.zero))=H (c,b,H z))(U:z.cells.size=c)(G:0<c)(D:eR w0 w)
 (L:ev l x=.slice A n cap) (X:Ow w0 w S E c A n cap xs) (O:ev l y=.slice B m mcap) (I:news.length=m*c) (Y:∀j u,news[j]? = H u->∃a,B=H a/\w.cell? (a.add j)=H u) (s:∀u∈news,u.oneCell'=N) (V:n+m<=9223372036854775807) (Z:(n+m)*b<=140737488355328)
 (h:∀e g w',Ow w0 w' S E c e (n+m) g (xs++news)->Wr w w' A->(e=A\/Oy e=H w.heap.size)->be P ops Q rest (Fr (l.set d (.slice e (n+m) g)) ds) w') :
 be P ops Q (cj (H d) (.call { callee:=.builtin .append,args:=#[x,y],argTypes:=a0 }) ty pos after X8::rest) (Fr l ds) w:=by
 subst F;cases k:P.info? E with
 |none=>rw[k] at f;cases f
 |some i=>
  rw[k] at f;simp only[fu,jn,iy] at f;obtain⟨p,q,r⟩:=f;obtain⟨e,g,w',K,t,v,C⟩:=Sv (P:=P) (w:=w) (ty:=ty) (mcap:=mcap) M k r p q U G X I Y s (by simpa[maxLen] using V) Z D.size;exact pC (λo J W=>by simp[eh,J,W,resolve,invoke,builtin,dM,L,O,K]) (h e g w' t v C)
def Sw{cur:Array am}{xs us:List am}{off k:Nat}(e:cur.toList.take k=xs)(d:xs.length=k)(f:off+us.length<=k):(over cur.toList off us).take k=over xs off us:=by
 subst e;have g:k<=cur.toList.length:=by rw[bf] at d;omega
 unfold over;apply fy;intro j;rw[fa];have c:(cur.toList.take off).length=off:=by rw[bf];omega
 have a:((cur.toList.take k).take off).length=off:=by rw[bf,bf];omega
 simp only[di];by_cases b:j<k
 . rw[Z9 b]
   rcases ej j off with h1|h1
   .rw[db (by omega),db (by omega),qk,de (by omega)]
   rw[dj (l₁:=cur.toList.take off) (by omega),dj (l₁:=(cur.toList.take k).take off) (by omega),c,a]
   rcases ej (j-off) us.length with h2|h2
   .rw[db h2,db h2]
   rw[dj h2,dj h2,dn,dn,fa,Z9 (by omega)]
 rw[K0 b]
 symm
 apply ct;simp only[a_,a,ef,bf];omega
def agX{g off:Nat}{us:List am}(z:ev l x=.pointer (H ⟨g,off,X8⟩))(v:(ev l y).cells=us.toArray)(q:dW P T us.length)(d:Ow w0 w S E c (H ⟨g,0,X8⟩) n cap xs)(j:off+us.length<=n*c)(m:∀u∈us,u.oneCell'=N)
 (h:∀w',Wr w w' (H ⟨g,0,X8⟩)->Ow w0 w' S E c (H ⟨g,0,X8⟩) n cap (over xs off us)->be P ops Q rest (Fr l ds) w'):be P ops Q (cj X8 (.store T x y) ty pos after X8::rest) (Fr l ds) w:=by
 rcases d.cases with ⟨e,_⟩|⟨G,cur,e,B,r,i,C,D,F⟩
 .cases e
 cases e
 have f:off+us.length<=cur.toList.length:=by
  have:=ft c i;simp;omega
 have o:fQ w g cur.toList E:=by unfold fQ;simpa using r
 refine kH (cs:=cur.toList) (t:=E) z v q o f m λw' a A=>h w' ⟨a.os,a.tape,a.output,by rw[a.size];exact bg _,λk _ s=>a.block k (λe=>s (by rw[e];rfl))⟩ ?_;refine⟨⟨?_,.inr ⟨g,cap,_,O,B,A,i,C,?_,?_⟩⟩,d.sep,λb p=>by rw[a.size];exact d.bd b p⟩
 .rw[uS (by rw[d.own.1];exact j)];exact d.own.1
 .simp only[gy];rw[uS f];simpa using D
 show ((over cur.toList off us).toArray.toList).take (n*c)=_
 simp only[eo];exact Sw F d.own.1 j
end
def tA(ts:List T3):(ts.flatMap aP).length=ts.length*9:=by
 induction ts with
 |nil=>rfl
 |cons t ts ih=>rw[da,a_,ih,eC,bh];omega
def Ow.tris{w0:an}{S:List (Option Nat)}(h:Ow w0 w S E 9 A n cap (ts.flatMap aP))(g:∀t∈ts,IT t):cI w A n ts:=by
 refine⟨?_,g,λi t k=>?_⟩
 .have:=h.own.1;rw[tA] at this;omega
 have d:∀j u,(aP t)[j]? = me u->(ts.flatMap aP)[i*9+j]? = me u:=λj u b=>by
  have l:j<(aP t).length:=(av.1 b).1;rw[<-dn,wS ts i t k,db l];exact b
 obtain⟨a,e,_⟩:=h.row _ _ (d 0 _ rfl);refine⟨a,e,λj u b=>?_⟩;obtain⟨m,c,f⟩:=h.row _ _ (d j u b);rw[e] at c;cases c;rw[gQ];exact f
def cI.cells(h:cI w A n ts):∀j u,(ts.flatMap aP)[j]? = H u->∃a,A=H a/\w.cell? (a.add j)=H u:=λj u b=>by
 have k:j<ts.length*9:=by
  have:=(av.1 b).1;rwa [tA] at this
 have f:j / 9<ts.length:=by omega
 have c:=ah f;obtain⟨a,e,g⟩:=h.row _ _ c;refine⟨a,e,?_⟩;have d:=wS ts (j / 9) _ c;have i:(aP ts[j / 9])[j%9]? = H u:=by
  have:((ts.flatMap aP).drop (j / 9*9))[j%9]? = H u:=by rw[dn,show j / 9*9+j%9=j by omega];exact b
  rw[d,db (by rw[eC];omega)] at this;exact this
 have:=g _ _ i;rwa [gQ,show j / 9*9+j%9=j by omega] at this
def akS:∀(t:T3),∀u∈aP t,u.oneCell'=N:=λt u a=>by
 simp only[aP,bl,fk,Y3] at a;rcases a with rfl|rfl|rfl|rfl|rfl|rfl|rfl|rfl|rfl<;>rfl
def qF(ts:List T3):∀u∈ts.flatMap aP,u.oneCell'=N:=λu a=>by
 obtain⟨t,_,h⟩:=ff.1 a;exact akS t u h
def fQ.rowsO{cs:List am}{t:ba}(h:fQ w g cs t):∀j u,cs[j]? = H u->∃a,H (⟨g,0,X8⟩:Addr)=H a/\w.cell? (a.add j)=H u:=λj u b=>⟨_,rfl,by have:=h.row 0;rw[kv] at this;exact this j u b⟩
section
variable{w0 w w':an}{S:List (Option Nat)}{E:ba}{c n cap:Nat}{A:Option Addr}{xs:List am}
end
/-! ### Names that are short -/
def zA(t:Nat):ev l (.tmp t)=l.getD t undef:=rfl
def zB(v:am):ev l (.const v)=v:=rfl
def zC(f:Nat):ev l (.func f)=.func (.func f) #[] #[]:=rfl
def zD{x:α}{xs:List α}{d:α}:(x::xs).getD (n+1) d=xs.getD n d:=rfl
def zE{x:α}{xs:List α}{d:α}:(x::xs).getD 0 d=x:=rfl
def zF{x:α}{xs:List α}{a:α}:(x::xs).set (n+1) a=x::xs.set n a:=rfl
def zG{x:α}{xs:List α}{a:α}:(x::xs).set 0 a=a::xs:=rfl
def zH{x:α}{xs:List α}  : (x::xs).take (n+1)=x::xs.take n:=rfl
def zI{xs:List α}:xs.take 0=[]:=im
def zJ{x:α}{xs:List α}  : (x::xs).drop (n+1)=xs.drop n:=rfl
def zK{xs:List α}:xs.drop 0=xs:=rfl
def zL{x:α}{xs ys:List α}:(x::xs)++ys=x::(xs++ys):=rfl
def zM{ys:List α}:[]++ys=ys:=rfl
def zN{ys:List α}:ys++[]=ys:=fw ys
def zO{x:α}{xs:List α}:(x::xs).length=xs.length+1:=rfl
def zP  : ([]:List α).length=0:=rfl
def zQ{f:α->β}{x:α}{xs:List α}:(x::xs).map f=f x::xs.map f:=rfl
def zR{f:α->β}:([]:List α).map f=[]:=rfl
def zS{l:List α}  : l.toArray[i]? = l[i]?:=mz
def zT{x:α}{xs:List α}  : (x::xs)[n+1]? = xs[n]?:=rfl
def zU{x:α}{xs:List α}:(x::xs)[0]? = H x:=rfl
def zV{x d:α}:(H x).getD d=x:=rfl
def J:(∀(l:List Go.Value)(t:Nat), ev l (.tmp t)=l.getD t undef)/\(∀(l:List Go.Value)(v:Go.Value), ev l (.const v)=v)/\(∀(l:List Go.Value)(f:Nat), ev l (.func f)=.func (.func f) #[] #[])/\(∀{α:Type}(x:α)(xs:List α)(n:Nat)(d:α), (x::xs).getD (n+1) d=xs.getD n d)/\(∀{α:Type}(x:α)(xs:List α)(d:α), (x::xs).getD 0 d=x)/\(∀{α:Type}(x:α)(xs:List α)(n:Nat)(a:α), (x::xs).set (n+1) a=x::xs.set n a)/\(∀{α:Type}(x:α)(xs:List α)(a:α), (x::xs).set 0 a=a::xs):= ⟨λ_ _=> rfl, λ_ _=> rfl, λ_ _=> rfl, λ_ _ _ _=> rfl, λ_ _ _=> rfl, λ_ _ _ _=> rfl, λ_ _ _=> rfl⟩
def zy:(∀{α:Type}(x:α)(xs:List α)(n:Nat), (x::xs).take (n+1)=x::xs.take n)/\(∀{α:Type}(xs:List α), xs.take 0=[])/\(∀{α:Type}(x:α)(xs:List α)(n:Nat), (x::xs).drop (n+1)=xs.drop n)/\(∀{α:Type}(xs:List α), xs.drop 0=xs):= ⟨λ_ _ _=> rfl, λ_=> im, λ_ _ _=> rfl, λ_=> rfl⟩
def zx:(∀{α:Type}(x:α)(xs ys:List α), (x::xs)++ys=x::(xs++ys))/\(∀{α:Type}(ys:List α), []++ys=ys)/\(∀{α:Type}(ys:List α), ys++[]=ys)/\(∀{α:Type}(x:α)(xs:List α), (x::xs).length=xs.length+1)/\(∀{α:Type}, ([]:List α).length=0):= ⟨λ_ _ _=> rfl, λ_=> rfl, λ_=> fw _, λ_ _=> rfl, rfl⟩
def zw:(∀{α:Type}(l:List α)(i:Nat), l.toArray[i]? = l[i]?)/\(∀{α:Type}(x:α)(xs:List α)(n:Nat), (x::xs)[n+1]? = xs[n]?)/\(∀{α:Type}(x:α)(xs:List α), (x::xs)[0]? = H x)/\(∀{α:Type}(x d:α), (H x).getD d=x):= ⟨λ_ _=> mz, λ_ _ _=> rfl, λ_ _=> rfl, λ_ _=> rfl⟩
def zu:(∀(l:List Go.Value)(t:Nat)(ts:List Nat)(v:Go.Value)(vs:List Go.Value), eG l (t::ts) (v::vs)=eG (l.set t v) ts vs)/\(∀(l vs:List Go.Value), eG l [] vs=l)/\(∀(l:List Go.Value)(t:Nat)(ts:List Nat)(g:Nat->Go.Value), lI l (t::ts) g=lI (l.set t (g t)) ts g)/\(∀(l:List Go.Value)(g:Nat->Go.Value), lI l [] g=l):= ⟨λ_ _ _ _ _=> rfl, λ_ _=> Ax, λ_ _ _ _=> rfl, λ_ _=> rfl⟩
def zv:(∀{α β:Type}(f:α->β)(x:α)(xs:List α), (x::xs).map f=f x::xs.map f)/\(∀{α β:Type}(f:α->β), ([]:List α).map f=[])/\(∀(l:List Go.Value)(t:Nat)(ts:List Nat)(v:Go.Value)(vs:List Go.Value), eG l (t::ts) (v::vs)=eG (l.set t v) ts vs)/\(∀(l vs:List Go.Value), eG l [] vs=l)/\(∀(l:List Go.Value)(t:Nat)(ts:List Nat)(g:Nat->Go.Value), lI l (t::ts) g=lI (l.set t (g t)) ts g)/\(∀(l:List Go.Value)(g:Nat->Go.Value), lI l [] g=l):= ⟨λ_ _ _=> rfl, λ_=> rfl, λ_ _ _ _ _=> rfl, λ_ _=> Ax, λ_ _ _ _=> rfl, λ_ _=> rfl⟩
structure It where
 own:Nat->Prop
 P:an->Prop
 lt:∀w b,P w->own b->b<w.heap.size
 st:∀w w',P w->w.heap.size<=w'.heap.size->(∀b,own b->w'.heap[b]? = w.heap[b]?)->P w'
 bk:Option (Nat×List am×ba):=X8
 bkP:∀x,bk=H x->(∀b,own b↔b=x.1)/\∀w,P w->fQ w x.1 x.2.1 x.2.2:=by intro _ h;cases h
def bI(g:Nat)(cs:List am)(t:ba):It where
 own b:=H g=H b
 P w:=fQ w g cs t
 lt w b h e:=by cases e;exact h.lt
 st w w' h _ k:=(k g rfl).trans h
 bk:=H (g,cs,t)
 bkP x h:=by cases h;exact⟨λb=>⟨λe=>by cases e;rfl,λe=>by rw[e]⟩,λ_ h=>h⟩
def oI(E:ba)(c:Nat)(A:Option Addr)(n cap:Nat)(xs:List am):It where
 own b:=Oy A=H b
 P w:=w.ownsRow 0 E c (.slice A n cap) n xs
 lt w b h e:=by
  rcases oM h with ⟨rfl,_⟩|⟨g,cur,rfl,_,hg,_⟩
  .cases e
  cases e;exact (fx.1 hg).1
 st w w' h _ k:=by
  refine⟨h.1,?_⟩;rcases oM h with ⟨rfl,rfl,rfl,_⟩|⟨g,cur,rfl,h1,h2,h3⟩
  .exact .inl ⟨O,O⟩
  exact .inr ⟨g,cap,cur,O,h1,(k g O).trans h2,h3⟩
def Ap(i j:It):Prop:=∀b,i.own b->j.own b->False
def Ap.symm{i j:It}(h:Ap i j):Ap j i:=λb a c=>h b c a
structure Mem(w0 w:an)(is:List It):Prop where
 ext:eR w0 w
 all:∀i∈is,i.P w
 ge:∀i∈is,∀b,i.own b->w0.heap.size<=b
 nd:is.Pairwise Ap
def pS:List Bool->List It->List It
 |true::bs,i::is=>i::pS bs is
 |false::bs,_::is=>pS bs is
 |_,_=>[]
def Bh:∀(bs:List Bool)(is:List It),(pS bs is).Sublist is
 |true::bs,i::is=>(Bh bs is).cons_cons i
 |false::bs,i::is=>(Bh bs is).cons i
 | [],is=>qd _
 |true::bs,[]=>qd _
 |false::bs,[]=>qd _
section
variable{w0 w w':an}{is:List It}
def Mem.refl(w:an):Mem w w []:=⟨eR.refl w,λ_ h=>(by cases h),λ_ h=>(by cases h),.nil⟩
def Mem.ext' (m:Mem w0 w is)(e:eR w w'):Mem w0 w' is:=
 ⟨m.ext.trans e,λi a=>i.st w w' (m.all i a) e.size λb c=>Below.block e b (i.lt w b (m.all i a) c),m.ge,m.nd⟩
def Mem.sel(m:Mem w0 w is)(bs:List Bool):Mem w0 w (pS bs is):=
 ⟨m.ext,λi a=>m.all i ((Bh bs is).subset a),λi a=>m.ge i ((Bh bs is).subset a),m.nd.sublist (Bh bs is)⟩
def Mem.tl{i:It}(m:Mem w0 w (i::is)):Mem w0 w is:=⟨m.ext,λj a=>m.all j (br _ a),λj a=>m.ge j (br _ a),(b_.1 m.nd).2⟩
def Mem.get(m:Mem w0 w is)(k:Nat){i:It}(a:is[k]? = H i):i.P w:=m.all i (ak a)
def Mem.b(m:Mem w0 w is)(k:Nat){cs:List am}{t:ba}(a:is[k]? = H (bI g cs t)):fQ w g cs t:=m.get k a
def Mem.o(m:Mem w0 w is)(k:Nat){xs:List am}(a:is[k]? = H (oI E c A n cap xs)):Ow w0 w [] E c A n cap xs:=by
 have h:w.ownsRow 0 E c (.slice A n cap) n xs:=m.get k a;refine⟨⟨h.1,?_⟩,λ_ _ h=>(by cases h),λ_ h=>(by cases h)⟩;rcases oM h with ⟨rfl,rfl,rfl,_⟩|⟨g,cur,rfl,_,b,d⟩
 .exact .inl ⟨O,O⟩
 exact .inr ⟨g,cap,cur,O,m.ge _ (ak a) g O,b,d⟩
def Mem.bo(m:Mem w0 w is)(k:Nat){cs:List am}{t:ba}(a:is[k]? = H (bI g cs t))(d:cs.length=n*c)(e:n<=maxLen):Ow w0 w [] t c (H ⟨g,0,X8⟩) n n cs:=
 Ow.mk' (m.b k a) (m.ge _ (ak a) g rfl) d e
def Mem.toO(m:Mem w0 w is)(k:Nat){cs:List am}{t:ba}(d:is[k]? = H (bI g cs t))(a:cs.length=n*c)(e:n<=maxLen):∃i,i=oI t c (H ⟨g,0,X8⟩) n n cs/\i.P w:=⟨_,rfl,(m.bo k d a e).own.1,.inr ⟨g,n,_,rfl,bm _,m.b k d,bg _,e,by simpa using a,by simp[<-a]⟩⟩
def Mem.new{i:It}(m:Mem w0 w is)(e:eR w w')(h:i.P w')(c:∀b,i.own b->w.heap.size<=b):Mem w0 w' (i::is):=by
 have a:=m.ext' e;refine⟨a.ext,λj hj=>?_,λj hj=>?_,b_.2 ⟨λj hj b d f=>?_,a.nd⟩⟩
 . rcases bl.1 hj with rfl|hj
   .exact h
   exact a.all j hj
 . rcases bl.1 hj with rfl|hj
   .exact λb g=>ay m.ext.size (c b g)
   exact a.ge j hj
 have:=j.lt w b (m.all j hj) f
 have:=c b d;omega
def Mem.newB{cs:List am}{t:ba}(m:Mem w0 w is)(e:eR w w')(c:w.heap.size<=g)(a:fQ w' g cs t):Mem w0 w' (bI g cs t::is):=m.new e a (λb h=>by cases h;exact c)
def Mem.newO{S:List (Option Nat)}{xs:List am}(m:Mem w0 w is)(e:eR w w')(h:Ow w w' S E c A n cap xs):Mem w0 w' (oI E c A n cap xs::is):=by
 refine m.new e (i:=oI E c A n cap xs) ?_ h.ge;refine⟨h.own.1,?_⟩;rcases h.cases with ⟨rfl,rfl,rfl,_⟩|⟨g,cur,rfl,_,a,b⟩
 .exact .inl ⟨O,O⟩
 exact .inr ⟨g,cap,cur,O,bm _,a,b⟩
def Mem.nilO(m:Mem w0 w is)(E:ba)(c:Nat):Mem w0 w (oI E c X8 0 0 []::is):=m.newO (eR.refl w) (Ow.nil w w E c)
def ab7{i g:It}:∀(is:List It)(k:Nat),is.Pairwise Ap->is[k]? = H i->(∀x∈is,Ap i x->Ap g x)->(is.set k g).Pairwise Ap
 | [],_,_,h,_=>by cases h
 |j::is,0,c,h,b=>by
  cases h;rw[ax];have:=b_.1 c;exact b_.2 ⟨λx a=>b x (br _ a) (this.1 x a),this.2⟩
 |j::is,k+1,c,h,b=>by
  rw[e];have d:=b_.1 c;have f:is[k]? = H i:=h;refine b_.2 ⟨λx a=>?_,ab7 is k d.2 f λx a=>b x (br _ a)⟩;rcases iv a with a|rfl
  .exact d.1 x a
  exact (b j (bv ..) (d.1 i (ak f)).symm).symm
def Mem.put{i g:It}(m:Mem w0 w is)(k:Nat)(f:is[k]? = H i)(F:w'.os=w.os)(C:w'.tape=w.tape)(B:w'.output=w.output)(p:w.heap.size<=w'.heap.size)(o:∀b,b<w.heap.size->¬i.own b->w'.heap[b]? = w.heap[b]?)
 (A:g.P w') (hid:(∀b,g.own b->i.own b)\/∀b,g.own b->w.heap.size<=b):Mem w0 w' (is.set k g):=by
 have y:=ak f;refine⟨⟨F.trans m.ext.os,C.trans m.ext.tape,B.trans m.ext.output,ay m.ext.size p,λb u=>(o b (bc u m.ext.size) λe=>?_).trans (Below.block m.ext b u)⟩,λj c=>?_,λj c b a=>?_,ab7 is k m.nd f λx D z b l n=>?_⟩
 . have:=m.ge i y b e
   omega
 . obtain⟨q,d,e⟩:=lg c
   rw[List.getElem_set] at e;split at e
   .subst e;exact A
   rename_i E
   rw[List.length_set] at d;have s:j∈is:=e▸fe d;have G:is[q]? = H j:=by rw[<-e];exact ah d
   refine j.st w w' (m.all j s) p λb a=>o b (j.lt w b (m.all j s) a) λr=>?_;have v:k<is.length:=(av.1 f).1;have t:is[k]=i:=(av.1 f).2;rcases Nat.lt_or_gt_of_ne E with h|h
   . have:=oa.1 m.nd k q v d h
     rw[t,e] at this;exact this b r a
   have:=oa.1 m.nd q k d v h
   rw[t,e] at this;exact this b a r
 . rcases iv c with c|rfl
   .exact m.ge j c b a
   rcases hid with hid|hid
   .exact m.ge i y b (hid b a)
   exact ay m.ext.size (hid b a)
 rcases hid with hid|hid
 .exact z b (hid b l) n
 have:=hid b l
 have:=x.lt w b (m.all x D) n;omega
def Mem.re(m:Mem w0 w is)(k:Nat){cs a:List am}{t:ba}(c:is[k]? = H (bI g cs t))(b:fQ w g a t):Mem w0 w (is.set k (bI g a t)):=
 m.put k c rfl rfl rfl (bg _) (λ_ _ _=>rfl) b (.inl λ_ h=>h)
def Mem.reO(m:Mem w0 w is)(k:Nat){b a:Nat}{xs d:List am}(i:is[k]? = H (oI E c A n cap xs))(h:Ow w0 w [] E c A b a d):Mem w0 w (is.set k (oI E c A b a d)):=by
 refine m.put k i O O O (bg _) (λ_ _ _=>rfl) ?_ (.inl λ_ h=>h);refine⟨h.own.1,?_⟩;rcases h.cases with ⟨rfl,rfl,rfl,_⟩|⟨g,cur,rfl,_,e,f⟩
 .exact .inl ⟨O,O⟩
 exact .inr ⟨g,a,cur,O,bm _,e,f⟩
def Mem.own(m:Mem w0 w is)(k:Nat){cs:List am}{t:ba}(a:is[k]? = H (bI g cs t))(b:cs.length=n*c)(d:n<=maxLen):Mem w0 w (is.set k (oI t c (H ⟨g,0,X8⟩) n n cs)):=by
 obtain⟨i,rfl,h⟩:=m.toO k a b d;exact m.put k a O O O (bg _) (λ_ _ _=>rfl) h (.inl λ_ h=>h)
def eU{a b:Nat}(h:Nat.ble a b=N):a<=b:=Nat.le_of_ble_eq_true h
def fU{us:List am}(h:(us.all (·.oneCell'))=N):∀u∈us,u.oneCell'=N:=λu a=>jy.1 h u a
end
section
variable{P:B}{ds:List d_}{l:List am}{x y:cw}{T ty:ba}
variable{ops:Array Oper}{Q:Exit->Act->an->Prop}{rest:List Oper}{d:Nat}{pos:String}{after:Array Edge}{w w0:an}{is:List It}
def aqy{cs:List am}(m:Mem w0 w is)(c:(ev l x).cells=cs.toArray)(h:∀g u,Mem w0 u (bI g cs T::is)->be P ops Q rest (Fr (l.set d (.pointer (H ⟨g,0,X8⟩))) ds) u) :
 be P ops Q (cj (H d) (.box T x) ty pos after X8::rest) (Fr l ds) w:=zZ c λu g e b a=>h g u (m.newB e b a)
def fV{cs:List am}{z:am}(m:Mem w0 w is)(b:oB P T z)(f:z.cells=cs.toArray)(h:∀g u,Mem w0 u (bI g cs T::is)->be P ops Q rest (Fr (l.set d (.pointer (H ⟨g,0,X8⟩))) ds) u) :
 be P ops Q (cj (H d) (.alloc T) ty pos after X8::rest) (Fr l ds) w:=kX b f λu g e c a=>h g u (m.newB e c a)
def agY{g off:Nat}{cs us:List am}{t:ba}(m:Mem w0 w is)(k:Nat)(c:is[k]? = H (bI g cs t))(n:ev l x=.pointer (H ⟨g,off,X8⟩))(j:(ev l y).cells=us.toArray)(i:dW P T us.length)(p:off+us.length<=cs.length)(d:(us.all (·.oneCell'))=N)
 (h:∀u,Mem w0 u (is.set k (bI g (over cs off us) t))->be P ops Q rest (Fr l ds) u):be P ops Q (cj X8 (.store T x y) ty pos after X8::rest) (Fr l ds) w:=
 kH n j i (m.b k c) p (fU d) λu a f=>h u (m.put k c a.os a.tape a.output (by rw[a.size];exact bg _) (λb _ o=>a.block b λe=>o (by rw[e];rfl)) f (.inl λ_ h=>h))
def kR{g off:Nat}{us xs:List am}{E:ba}{c n cap:Nat}(m:Mem w0 w is)(k:Nat)(f:is[k]? = H (oI E c (H ⟨g,0,X8⟩) n cap xs))(t:ev l x=.pointer (H ⟨g,off,X8⟩))(s:(ev l y).cells=us.toArray)(r:dW P T us.length)(z:off+us.length<=n*c)(i:(us.all (·.oneCell'))=N)
 (h:∀u,Mem w0 u (is.set k (oI E c (H ⟨g,0,X8⟩) n cap (over xs off us)))->be P ops Q rest (Fr l ds) u):be P ops Q (cj X8 (.store T x y) ty pos after X8::rest) (Fr l ds) w:=
 agX t s r (m.o k f) z (fU i) λu a d=>h u (m.put k f a.os a.tape a.output a.size (λb q v=>a.block b q v) (by
  refine⟨d.own.1,?_⟩;rcases d.cases with ⟨e,_⟩|⟨g,cur,e,_,j,p⟩
  .cases e
  cases e;exact .inr ⟨_,cap,cur,O,bm _,j,p⟩) (.inl λ_ h=>h))
def eV{v:am}{f:FuncId}{a:cw}{xs:Array cw}{args:List am}{first cap:Array am}{a0:Array ba}(m:Mem w0 w is)(c:ev l a=.func (.func f) first cap)(g:first.toList++xs.toList.map (ev l)++cap.toList=args)(b:dO P f args v)
 (h:∀u,Mem w0 u is->be P ops Q rest (Fr (l.set d v) ds) u):be P ops Q (cj (H d) (.call { callee:=.value a,args:=xs,argTypes:=a0 }) ty pos after X8::rest) (Fr l ds) w:=
 oY c g b λu e=>h u (m.ext' e)
def bY{f:FuncId}{a:cw}{xs:Array cw}{args:List am}{first cap:Array am}{a0:Array ba}{R:am->an->Prop}(m:Mem w0 w is)(g:ev l a=.func (.func f) first cap)(i:first.toList++xs.toList.map (ev l)++cap.toList=args)(c:cX P f args w R)
 (h:∀v u,Mem w0 u is->R v u->be P ops Q rest (Fr (l.set d v) ds) u):be P ops Q (cj (H d) (.call { callee:=.value a,args:=xs,argTypes:=a0 }) ty pos after X8::rest) (Fr l ds) w:=
 bB g i c λv u e b=>h v u (m.ext' e) b
def bJ{E:ba}{c n cap b f mcap:Nat}{A B:Option Addr}{z:am}{xs news:List am}{a0:Array ba}(m:Mem w0 w is)(k:Nat)(C:is[k]? = H (oI E c A n cap xs))(I:a0 = #[T,T])(S:P.underlying T=H (.slice E))(K:(P.info? E).map (λi=>(i.size,i.bytes,i.zero))=H (c,b,H z))(V:z.cells.size=c)(J:0<c)
 (M:ev l x=.slice A n cap) (U:ev l y=.slice B f mcap) (L:news.length=f*c) (Y:∀j u,news[j]? = H u->∃a,B=H a/\w.cell? (a.add j)=H u) (D:∀u∈news,u.oneCell'=N) (W:n+f<=9223372036854775807) (Z:(n+f)*b<=140737488355328)
 (h:∀p r u,Mem w0 u (is.set k (oI E c p (n+f) r (xs++news)))->be P ops Q rest (Fr (l.set d (.slice p (n+f) r)) ds) u) :
 be P ops Q (cj (H d) (.call { callee:=.builtin .append,args:=#[x,y],argTypes:=a0 }) ty pos after X8::rest) (Fr l ds) w:=
 aeV I S K V J m.ext M (m.o k C) U L Y D W Z λp r u v q hF=>h p r u (m.put k C q.os q.tape q.output q.size (λb s X=>q.block b s X) (by
  refine⟨v.own.1,?_⟩;rcases v.cases with ⟨rfl,t,rfl,_⟩|⟨g,cur,rfl,_,F,G⟩
  .exact .inl ⟨by rw[t],t⟩
  .exact .inr ⟨g,r,cur,O,bm _,F,G⟩) (by
  rcases hF with rfl|hF
  .exact .inl λ_ h=>h
  exact .inr λb s=>by
   have e:Oy p=H b:=s;rw[hF] at e;cases e;exact bg _))
def aqz{cs:List am}(m:Mem w0 w is)(a:ev l x=.agg cs.toArray)(h:∀g u,Mem w0 u (bI g cs T::is)->be P ops Q rest (Fr (l.set d (.pointer (H ⟨g,0,X8⟩))) ds) u) :
 be P ops Q (cj (H d) (.box T x) ty pos after X8::rest) (Fr l ds) w:=aqy m (by rw[a];rfl) h
def Ug{v:am}(m:Mem w0 w is)(b:ev l x=v)(a:v.cells = #[v])(h:∀g u,Mem w0 u (bI g [v] T::is)->be P ops Q rest (Fr (l.set d (.pointer (H ⟨g,0,X8⟩))) ds) u) :
 be P ops Q (cj (H d) (.box T x) ty pos after X8::rest) (Fr l ds) w:=aqy m (by rw[b,a]) h
def aX{g off:Nat}{cs us:List am}{t:ba}(m:Mem w0 w is)(k:Nat)(c:is[k]? = H (bI g cs t))(e:ev l x=.pointer (H ⟨g,off,X8⟩))(d:ev l y=.agg us.toArray)(b:dW P T us.length)(f:off+us.length<=cs.length)(a:(us.all (·.oneCell'))=N)
 (h:∀u,Mem w0 u (is.set k (bI g (over cs off us) t))->be P ops Q rest (Fr l ds) u):be P ops Q (cj X8 (.store T x y) ty pos after X8::rest) (Fr l ds) w:=agY m k c e (by rw[d];rfl) b f a h
def cH{g off:Nat}{cs:List am}{v:am}{t:ba}(m:Mem w0 w is)(k:Nat)(c:is[k]? = H (bI g cs t))(e:ev l x=.pointer (H ⟨g,off,X8⟩))(d:ev l y=v)(b:dW P T 1)(f:off+1<=cs.length)(a:v.oneCell'=N/\v.cells = #[v])
 (h:∀u,Mem w0 u (is.set k (bI g (over cs off [v]) t))->be P ops Q rest (Fr l ds) u):be P ops Q (cj X8 (.store T x y) ty pos after X8::rest) (Fr l ds) w:=agY (us:=[v]) m k c e (by rw[d,a.2]) b f (by simp[a.1]) h
def fQ.full{g:Nat}{cs:List am}{t:ba}(h:fQ w g cs t)(a:fG P T N)(b:dW P T cs.length):eZ P w T ⟨g,0,X8⟩ (.agg cs.toArray):=by
 have:=h.row 0;rw[kv] at this;exact this.lies a b
def Mem.s01{w0 w:an}{i j:It}{is:List It}(m:Mem w0 w (i::j::is)):Mem w0 w (j::i::is):=by
 have a:=b_.1 m.nd;have b:=b_.1 a.2;refine⟨m.ext,λx hx=>m.all x ?_,λx hx=>m.ge x ?_,b_.2 ⟨λx hx=>?_,b_.2 ⟨λx hx=>a.1 x (br _ hx),b.2⟩⟩⟩
 .simp only[bl] at hx ⊢;rcases hx with h|h|h<;>simp[h]
 .simp only[bl] at hx ⊢;rcases hx with h|h|h<;>simp[h]
 rcases bl.1 hx with rfl|hx
 .exact (a.1 _ (bv ..)).symm
 exact b.1 x hx
def Mem.s12{w0 w:an}{h i j:It}{is:List It}(m:Mem w0 w (h::i::j::is)):Mem w0 w (h::j::i::is):=by
 have b:=b_.1 m.nd;have c:=m.tl.s01;refine⟨m.ext,λx a=>m.all x ?_,λx a=>m.ge x ?_,b_.2 ⟨λx a=>b.1 x ?_,c.nd⟩⟩
 .simp only[bl] at a ⊢;rcases a with h|h|h|h<;>simp[h]
 .simp only[bl] at a ⊢;rcases a with h|h|h|h<;>simp[h]
 simp only[bl] at a ⊢;rcases a with h|h|h<;>simp[h]
/-! ### Regions -/
def cC{id:Nat}{a:Act}{l:List Oper}(m:Mem w0 w is)(n:Nat)(d:P.follows .mixedOrders=N)(c:Region.lexTailB .any l.toArray n=N)
 (h:c_ P l.toArray (λu=>Mem w0 u is) (λb=>∀u,Mem w0 u is->be P l.toArray Q (l.drop n) b u) (l.take n) a):(Code.region id l.toArray N).wp P Q a w:=
 rM (C:=λu=>Mem w0 u is) n d c (m.ext' (eR.refl w).drawn) h
def mq{id:Nat}{a:Act}{l:List Oper}(m:Mem w0 w is)(d:P.follows .mixedOrders=N)(c:Region.lexB .any l.toArray=N)
 (h:c_ P l.toArray (λu=>Mem w0 u is) (λb=>∀u,Mem w0 u is->Q .normal b u) l a):(Code.region id l.toArray N).wp P Q a w:=
 wp_region_quiet (C:=λu=>Mem w0 u is) d c (m.ext' (eR.refl w).drawn) (by simpa using h)
def mh{id:Nat}{a:Act}{l:List Oper}(m:Mem w0 w is)(bs:List Bool)(o:List (Nat×Bool))(g:P.follows .mixedOrders=N)(b:(Region.noSelect l.toArray&&decide (o.length=l.length)&&Vy .any l.toArray o (ig l.toArray.size X7))=N)
 (f:∀c d v a w,Q (.panic c) (Act.put a d v) w->Q (.panic c) a w) {ol:List (Oper×Bool)} (i:(o.map λx=>((l.toArray[x.1]?).getD default,x.2))=ol)
 (h:∀u,Mem w0 u is->cE P l.toArray (λu=>Mem w0 u (pS bs is)) Q ol a u):(Code.region id l.toArray N).wp P Q a w:=
 sL o g b f i λu e=>⟨λu=>Mem w0 u (pS bs is),(m.ext' e).sel bs,h u (m.ext' e)⟩
def mhe{id:Nat}{a:Act}{l:List Oper}(m:Mem w0 w is)(bs:List Bool)(o:List (Nat×Bool))(g:P.follows .mixedOrders=N)(b:(Region.noSelect l.toArray&&decide (o.length=l.length)&&Vy .any l.toArray o (ig l.toArray.size X7))=N)
 (f:∀c d v a w,Q (.panic c) (Act.put a d v) w->Q (.panic c) a w) {ol:List (Oper×Bool)} (i:(o.map λx=>((l.toArray[x.1]?).getD default,x.2))=ol)
 (h:∀u,eR w u->Mem w0 u is->cE P l.toArray (λu=>Mem w0 u (pS bs is)) Q ol a u):(Code.region id l.toArray N).wp P Q a w:=
 sL o g b f i λu e=>⟨λu=>Mem w0 u (pS bs is),(m.ext' e).sel bs,h u e (m.ext' e)⟩
def Oz{id:Nat}{a:Act}{l:List Oper}(m:Mem w0 w is)(bs:List Bool)(t:pZ)(g:P.follows .mixedOrders=N)(b:(Region.noSelect l.toArray&&t.ok .any l.toArray l.toArray.size (ig l.toArray.size X7))=N)
 (f:∀c d v a w,Q (.panic c) (Act.put a d v) w->Q (.panic c) a w)
 (h:∀u,Mem w0 u is->cP P l.toArray (λu=>Mem w0 u (pS bs is)) Q t a u):(Code.region id l.toArray N).wp P Q a w:=
 Az t g b f λu e=>⟨λu=>Mem w0 u (pS bs is),(m.ext' e).sel bs,h u (m.ext' e)⟩
def mf1{tl:List Oper}{i d:Nat}{T:ba}{cs:List am}(m:Mem w0 w is)(h:∀g u,Mem w0 u (bI g cs T::is)->be P ops Q tl (Fr (l.set d (.pointer (H ⟨g,0,X8⟩))) ds) u) :
 ∀E w',eR w w'->Iy w.heap.size E [⟨i,d,T,cs⟩] w'->(∀x∈[(⟨i,d,T,cs⟩:Al)],∃v,E x.i=H v)->be P ops Q tl (gY E [⟨i,d,T,cs⟩] (Fr l ds)) w':=
 anL λu g e b a=>h g u (m.newB e b a)
def Mem.newB2{w w':an}{is:List It}{g a:Nat}{cs f:List am}{t t2:ba}(m:Mem w0 w is)(e:eR w w')(l:w.heap.size<=g)(o:w.heap.size<=a)(i:fQ w' g cs t)(n:fQ w' a f t2)(p:a≠g):Mem w0 w' (bI a f t2::bI g cs t::is):=by
 have c:=m.newB e l i;refine⟨c.ext,λj hj=>?_,λj hj=>?_,b_.2 ⟨λj hj b h d=>?_,c.nd⟩⟩
 . rcases bl.1 hj with rfl|hj
   .exact n
   exact c.all j hj
 . rcases bl.1 hj with rfl|hj
   .exact λb k=>by cases k;exact ay m.ext.size o
   exact c.ge j hj
 cases h
 rcases bl.1 hj with rfl|hj
 .cases d;exact p O
 have:=j.lt w _ (m.all j hj) d
 omega
def mf2{tl:List Oper}{i d j e:Nat}{T U:ba}{cs us:List am}(m:Mem w0 w is)(n:i≠j)(h:∀g k u,Mem w0 u (bI k us U::bI g cs T::is)->be P ops Q tl (Fr ((l.set d (.pointer (H ⟨g,0,X8⟩))).set e (.pointer (H ⟨k,0,X8⟩))) ds) u) :
 ∀E w',eR w w'->Iy w.heap.size E [⟨i,d,T,cs⟩,⟨j,e,U,us⟩] w'->(∀x∈[(⟨i,d,T,cs⟩:Al),⟨j,e,U,us⟩],∃v,E x.i=H v)->be P ops Q tl (gY E [⟨i,d,T,cs⟩,⟨j,e,U,us⟩] (Fr l ds)) w':=
 anM n λu g k e c f a b o=>h g k u (m.newB2 e c f a b o)
def aqA{c:Code}{a:Act}{l:Nat->Nat->Nat->List am}{d f h:List am}{T1 T2 T3:ba}(m:Mem w0 w is)(i:c.wp P (λe b u=>e=.normal/\∃g k p,b=Fr (l g k p) ds/\Mem w0 u (bI p h T3::bI k f T2::bI g d T1::is)) a w)
 (j:∀g k p u,Mem w0 u (bI p h T3::bI k f T2::bI g d T1::is)->Q .normal (Fr (l g k p) ds) u):c.wp P Q a w:=by
 refine Code.wp_mono ?_ i;rintro e b u ⟨rfl,g,k,p,rfl,n⟩;exact j g k p u n
end
section
variable{P:B}{w0:an}{is:List It}{l:List am}{x y:cw}{T ty:ba}
variable{ops:Array Oper}{Q:Act->Prop}{rest:List Oper}{d:Nat}{pos:String}{after:Array Edge}{v:am}{ds:List d_}
def ql{a:Addr}(c:ev l x=.pointer (H a))(b:∀u,Mem w0 u is->eZ P u T a v)(h:c_ P ops (λu=>Mem w0 u is) Q rest (Fr (l.set d v) ds)):c_ P ops (λu=>Mem w0 u is) Q (cj (H d) (.load T x) ty pos after X8::rest) (Fr l ds):=
 Ep (λu m=>cT c (b u m)) h
def qc{f:FuncId}{b:cw}{xs:Array cw}{args:List am}{first cap:Array am}{a0:Array ba}(j:ev l b=.func (.func f) first cap)(k:first.toList++xs.toList.map (ev l)++cap.toList=args)(c:∀u,Mem w0 u is->cX P f args u λx _=>x=v)
 (h:c_ P ops (λu=>Mem w0 u is) Q rest (Fr (l.set d v) ds)):c_ P ops (λu=>Mem w0 u is) Q (cj (H d) (.call { callee:=.value b,args:=xs,argTypes:=a0 }) ty pos after X8::rest) (Fr l ds):=by
 refine wpQuiet_step λK i=>?_;rw[Z9 (by simp[Region.wanted])];refine⟨v,λw' a=>?_,?_⟩
 . unfold mf
   rw[jO,pX (c w' a).1 j k _ rfl];refine⟨O,(c w' a).2.mono ?_⟩;rintro e m ⟨u,rfl,g,rfl⟩;exact⟨O,a.ext' g⟩
 show K ((Fr l ds).put (H d) v)
 rw[iK];exact i _ h
def X{f:FuncId}{a:cw}{xs:Array cw}{args:List am}{first cap:Array am}{a0:Array ba}(c:ev l a=.func (.func f) first cap)(e:first.toList++xs.toList.map (ev l)++cap.toList=args)(b:dO P f args v)
 (h:c_ P ops (λu=>Mem w0 u is) Q rest (Fr (l.set d v) ds)):c_ P ops (λu=>Mem w0 u is) Q (cj (H d) (.call { callee:=.value a,args:=xs,argTypes:=a0 }) ty pos after X8::rest) (Fr l ds):=qc c e (λu _=>b u) h
end
def aat(o:Oper):Bool:=match o.op with|.defer _=>X7|_=>N
def agZ{o:Oper}(h:aat o=N):∀c,o.op≠.defer c:=λc e=>by unfold aat at h;rw[e] at h;cases h
section
variable{P:B}{Q:Exit->Act->an->Prop}{r n:Nat}
def Xa{row:String}{args:Array am}{w:an}{R:am->an->Prop}(h:Rows P row args w R):RowsIn (Fence.wide.inRound r) n P row args w R:=
 λc cs _=>let ⟨v,w',q,s⟩:=h c cs;⟨v,w',q,stepsIn_wide.2 s⟩
def Sx{f:FuncId}{args:Array am}{w:an}{R:Ending->an->Prop}(h:Calls P f args w R):CallsIn (Fence.wide.inRound r) n P f args w R:=
 (callsIn_wide (n:=n)).2 h
def Oper.wpIn_of{o:Oper}{a:Act}{w:an}{K:Act->an->Prop}(c:aat o=N)(h:o.wp P a w K Q):o.wpIn (Fence.wide.inRound r) n P a w K Q:=by
 unfold nt at h;refine⟨λ_ _=>trivial,?_⟩;rw[Oper.semAt_eq _ _ _ (agZ c)];generalize (eh a.eval o).run P w=z at *
 have b:(Fence.wide.inRound r).depth.isSome=N->1<=n:=λh=>by cases h
 cases z with
 |ok x w'=>cases x<;>simp only[po,Oper.uponIn] at h ⊢<;>first|exact h|exact⟨b,Sx h⟩|exact⟨b,Xa h⟩|exact h.elim
 |halt x w'=>cases x<;>simp only[po,Oper.uponIn] at h ⊢<;>exact h
def Bi{ops:Array Oper}(c:¬LetsOut Q):∀(l:List Oper)(a:Act)(w:an),l.all aat=N->be P ops Q l a w->wpListIn (Fence.wide.inRound r) n P ops Q l a w
 | [],a,w,_,h=>h
 |o::l,a,w,b,h=>by
  simp only[oe,ck] at b;simp only[be] at h;simp only[wpListIn];split
  . rename_i d
    rw[Z9 d] at h;rcases h with h|⟨_,h⟩
    .exact Oper.wpIn_of b.1 (Oper.wp_mono (λa w k=>Bi c l a w b.2 k) h)
    exact Y0 h c
  rename_i d
  rw[K0 d] at h;exact⟨λ_ _=>trivial,Bi c l _ w b.2 h⟩
class Lh(Q:Exit->Act->an->Prop):Prop where
 h:¬LetsOut Q
instance {K:Act->an->Prop}[q:Lh Q]:Lh (Exit.then K Q):=⟨λ⟨a,w,k⟩=>q.h ⟨a,w,k⟩⟩
instance {id:Nat}[q:Lh Q]:Lh (Exit.inBlock id Q):=⟨λ⟨a,w,k⟩=>q.h ⟨a,w,k⟩⟩
instance {α:Type}{B:Nat}{Kp:an->an->Prop}{I:List α->an->Prop}{Ix:Code->List α->an->Prop}{xs:List α}{W:an}:Lh (ownPostG B Kp I Ix xs W):=⟨λ⟨_,_,k⟩=>k⟩
instance:Lh (λ_ _ _=>False):=⟨λ⟨_,_,k⟩=>k⟩
def bF{id:Nat}{l:List Oper}{a:Act}{w:an}[c:Lh Q](h:be P l.toArray Q l a w)(b:l.all aat=N:=by rfl):(Code.region id l.toArray X7).wpIn (Fence.wide.inRound r) n P Q a w:=wpIn_region_lit (Bi c.h l a w b h)
def eM{b c:Code}{a:Act}{w:an}(h:∀K:Act->an->Prop,(∀a w,c.wpIn (Fence.wide.inRound r) n P Q a w->K a w)->b.wpIn (Fence.wide.inRound r) n P (Exit.then K Q) a w):(Code.seq b c).wpIn (Fence.wide.inRound r) n P Q a w:=wpIn_seq_k h
variable{l:List am}{ds:List d_}{w:an}{c1 c2:Code}
def Mz{b:Bool}(d:ev l x=.bool b)(c:b=N->c1.wpIn (Fence.wide.inRound r) n P Q (Fr l ds) w)(a:b=X7->c2.wpIn (Fence.wide.inRound r) n P Q (Fr l ds) w):(Code.cond x c1 c2).wpIn (Fence.wide.inRound r) n P Q (Fr l ds) w:=by
 refine wpIn_cond (t:=b) (by rw[jO,dM];exact d) ?_;cases b with
 |false=>exact a rfl
 |true=>exact c rfl
def ag0{p:Prop}[Decidable p](c:ev l x=.bool (decide p))(b:p->c1.wpIn (Fence.wide.inRound r) n P Q (Fr l ds) w)(a:¬p->c2.wpIn (Fence.wide.inRound r) n P Q (Fr l ds) w):(Code.cond x c1 c2).wpIn (Fence.wide.inRound r) n P Q (Fr l ds) w:=
 Mz c (λh=>b (Y9 h)) (λh=>a (X5 h))
def Jd(b:ev l x=.bool N)(a:c1.wpIn (Fence.wide.inRound r) n P Q (Fr l ds) w):(Code.cond x c1 c2).wpIn (Fence.wide.inRound r) n P Q (Fr l ds) w:=Mz b (λ_=>a) (λh=>by cases h)
def adw(b:ev l x=.bool X7)(a:c2.wpIn (Fence.wide.inRound r) n P Q (Fr l ds) w):(Code.cond x c1 c2).wpIn (Fence.wide.inRound r) n P Q (Fr l ds) w:=Mz b (λh=>by cases h) (λ_=>a)
def jY{id:Nat}{c:Code}{a:Act}(h:c.wpIn (Fence.wide.inRound r) n P (Exit.inBlock id Q) a w):(Code.block id c).wpIn (Fence.wide.inRound r) n P Q a w:=wpIn_block h
def mF{a:Act}(h:Q .normal a w):Code.skip.wpIn (Fence.wide.inRound r) n P Q a w:=wpIn_skip h
def Db{a:Act}(h:Q .ret a w):Code.ret.wpIn (Fence.wide.inRound r) n P Q a w:=wpIn_ret h
section
variable{W w0:an}{is:List It}{ops:Array Oper}{rest:List Oper}{d:Nat}{ty T:ba}{pos:String}{after:Array Edge}{x y:cw}{v:am}
variable{Qq:Act->Prop}
end
end
/-! ### Within the fence that bars nothing: a head of quiet operations,then a tail that may yield -/
section
variable{P:B}{Q:Exit->Act->an->Prop}{n:Nat}{C:an->Prop}{ops:Array Oper}{md:Region.Mode}
def adx{l:List am}{ds:List d_}{w:an}{y d:Nat}{f:FuncId}{a:cw}{xs:Array cw}{args:List am}{a0:Array ba}{ty:ba}{pos:String}{after:Array Edge}{g:List Oper}{tmps:Array am}{assign c:Code}{R:Ending->an->Prop}
 (m:ev l a=.func (.yield y) #[] #[]) (q:xs.toList.map (ev l)=args) (b:(Instr.yield y args.toArray).run P w=.ok (.round y f tmps assign c) w) (k:RoundIn Fence.wide (n-1) P y f tmps assign c w R)
 (h:∀e w',R e w'->∃v,e=.returned v/\wpListIn Fence.wide n P ops Q g (Fr (l.set d v) ds) w') :
 wpListIn Fence.wide n P ops Q (cj (H d) (.call { callee:=.value a,args:=xs,argTypes:=a0 }) ty pos after X8::g) (Fr l ds) w:=by
 refine wpListIn_plain O λK j=>?_;refine⟨λ_ _=>trivial,?_⟩;have e:(Fr l ds).eval=ev l:=funext dM;have i:args.toArray = #[]++xs.map (ev l) ++ #[]:=by
  rw[<-q];apply qf;simp
 have er:(eh (Fr l ds).eval (cj (H d) (.call { callee:=.value a,args:=xs,argTypes:=a0 }) ty pos after X8)).run P w=.ok (.round y f tmps assign c) w:=by
  rw[i] at b;simp[eh,resolve,e,m,Deferred.ofValue,invoke] at b ⊢;exact b
 rw[show qn Fence.wide.round=qn X8 from rfl,Oper.semAt_none,er];refine⟨λ(h:Fence.wide.depth.isSome=N)=>(by cases h),k.mono λe w' p=>?_⟩;obtain⟨v,rfl,o⟩:=h e w' p;exact j _ _ (by rw[iK];exact o)
def pF{ds:List d_}{w:an}{d:Nat}{op:Op}{ty:ba}{pos:String}{after:Array Edge}{a:List Oper}{v:am}(c:Eo P l op ty v w)(h:wpListIn Fence.wide n P ops Q a (Fr (l.set d v) ds) w):wpListIn Fence.wide n P ops Q (cj (H d) op ty pos after X8::a) (Fr l ds) w:=by
 refine wpListIn_plain O λK b=>?_;refine⟨λ_ _=>trivial,?_⟩;rw[show qn Fence.wide.round=qn X8 from rfl,Oper.semAt_none,jO,c _ rfl rfl];show K ((Fr l ds).put (H d) v) w
 rw[iK];exact b _ _ h
end
def akT(B:Nat)(g:β->Nat)(cs:β->List am)(t:ba):OwnFrom B λs W=>fQ W (g s) (cs s) t:=λs X Y row d b c=>by
 have a:X.heap[g s]? = H (.cells (cs s).toArray t (0,0)):=d;show Y.heap[g s]? = _
 rw[grownBy_keeps_cells b (λr e=>(c r e).2) a rfl];exact a
def akU{B:Nat}(h:w.heap.size<=B):OwnFrom B λ(_:β) W=>eR w W:=ownFrom_below (bg _) h
structure GX(w w':an):Prop where
 ext:eR w w'
 dr:w.drawn<=w'.drawn
def GX.grow(h:GX w w'):∃q os,w'=Sort.grow (w.drewN q) os:=by
 refine⟨w'.drawn-w.drawn,w'.heap.extract w.heap.size w'.heap.size,?_⟩;have b:w.heap++w'.heap.extract w.heap.size w'.heap.size=w'.heap:=by
  apply Array.ext_getElem?;intro i;rw[Array.getElem?_append];split
  . rename_i a
    exact (Below.block h.ext i a).symm
  rename_i a
  rw[Array.getElem?_extract];have:=h.ext.size;split
  .congr 1;omega
  rw[mj (by omega)]
 have c:w.drawn+(w'.drawn-w.drawn)=w'.drawn:=by have:=h.dr;omega
 have d:=h.ext.os;have e:=h.ext.tape;have f:=h.ext.output;cases w;cases w';simp only[Sort.grow,World.drewN] at *
 subst d e f;rw[b,c]
structure kE(w0 w:an)(is:List It):Prop where
 ext:GX w0 w
 mem:Mem w0 w is
def Ab(P:B)(f:FuncId)(args:List am)(v:am):Prop:=∀w,Entr P f/\Calls P f args.toArray w λe w'=>∃u,e=.returned u/\GX w w'/\u=v
def Ab.pure{P:B}{f:FuncId}{args:List am}{v:am}(h:Ab P f args v):dO P f args v:=λw=>⟨(h w).1,(h w).2.mono λ_ _ ⟨u,b,a,c⟩=>⟨u,b,a.ext,c⟩⟩
section
variable{w0 w w':an}{is:List It}
def kE.refl(w:an):kE w w []:=⟨⟨eR.refl w,bg _⟩,Mem.refl w⟩
def kE.go(m:kE w0 w is){a:List It}(h:Mem w0 w' a)(d:w.drawn<=w'.drawn):kE w0 w' a:=⟨⟨h.ext,ay m.ext.dr d⟩,h⟩
def kE.ext' (m:kE w0 w is)(e:GX w w'):kE w0 w' is:=m.go (m.mem.ext' e.ext) e.dr
def kE.b(m:kE w0 w is)(k:Nat){cs:List am}{t:ba}(a:is[k]? = H (bI g cs t)):fQ w g cs t:=m.mem.b k a
end
section
variable{P:B}{ds:List d_}{l:List am}{x y:cw}{T ty:ba}
variable{ops:Array Oper}{Q:Exit->Act->an->Prop}{rest:List Oper}{d:Nat}{pos:String}{after:Array Edge}{w w0:an}{is:List It}{v:am}
def aqB{cs:List am}(m:kE w0 w is)(b:(ev l x).cells=cs.toArray)(h:∀g u,kE w0 u (bI g cs T::is)->be P ops Q rest (Fr (l.set d (.pointer (H ⟨g,0,X8⟩))) ds) u) :
 be P ops Q (cj (H d) (.box T x) ty pos after X8::rest) (Fr l ds) w:=
 pC (w':=w.alloc (.cells cs.toArray T)) (v:=.pointer (H ⟨w.heap.size,0,X8⟩)) (λo a _=>by simp[eh,a,dM,Instr.box,newVar,newRow,b,newObj,Sem.run]) (h _ _ (m.go (m.mem.newB ((eR.refl w).alloc _) (bg _) (kM w cs T)) (bg _)))
def xV{cs:List am}(m:kE w0 w is)(a:ev l x=.agg cs.toArray)(h:∀g u,kE w0 u (bI g cs T::is)->be P ops Q rest (Fr (l.set d (.pointer (H ⟨g,0,X8⟩))) ds) u) :
 be P ops Q (cj (H d) (.box T x) ty pos after X8::rest) (Fr l ds) w:=aqB m (by rw[a];rfl) h
def akV{cs:List am}{z:am}(m:kE w0 w is)(a:oB P T z)(e:z.cells=cs.toArray)(h:∀g u,kE w0 u (bI g cs T::is)->be P ops Q rest (Fr (l.set d (.pointer (H ⟨g,0,X8⟩))) ds) u) :
 be P ops Q (cj (H d) (.alloc T) ty pos after X8::rest) (Fr l ds) w:=by
 obtain⟨i,b,f⟩:=a;exact pC (w':=w.alloc (.cells cs.toArray T)) (v:=.pointer (H ⟨w.heap.size,0,X8⟩)) (λo c _=>by simp[eh,c,Instr.alloc,zeroValue,typeInfo,b,f,newVar,newRow,e,newObj,Sem.run]) (h _ _ (m.go (m.mem.newB ((eR.refl w).alloc _) (bg _) (kM w cs T)) (bg _)))
def akW{g off:Nat}{cs us:List am}{t:ba}(m:kE w0 w is)(k:Nat)(d:is[k]? = H (bI g cs t))(p:ev l x=.pointer (H ⟨g,off,X8⟩))(n:(ev l y).cells=us.toArray)(i:dW P T us.length)(r:off+us.length<=cs.length)(f:(us.all (·.oneCell'))=N)
 (h:∀u,kE w0 u (is.set k (bI g (over cs off us) t))->be P ops Q rest (Fr l ds) u):be P ops Q (cj X8 (.store T x y) ty pos after X8::rest) (Fr l ds) w:=by
 have c:=m.b k d;have a:=xH w g (over cs off us).toArray;exact Wa (w':=w.setRow g (over cs off us).toArray) (λo j=>by simp[eh,j,dM,p,Instr.storeAt,Instr.sureAddr,Gh i n c r (fU f)])
  (h _ (m.go (m.mem.put k d a.os a.tape a.output (by rw[a.size];exact bg _) (λb _ q=>a.block b λe=>q (by rw[e];rfl)) (setRow_heap w g cs.toArray _ t _ c) (.inl λ_ h=>h)) (bg _)))
def ag1{g off:Nat}{cs us:List am}{t:ba}(m:kE w0 w is)(k:Nat)(c:is[k]? = H (bI g cs t))(e:ev l x=.pointer (H ⟨g,off,X8⟩))(d:ev l y=.agg us.toArray)(b:dW P T us.length)(f:off+us.length<=cs.length)(a:(us.all (·.oneCell'))=N)
 (h:∀u,kE w0 u (is.set k (bI g (over cs off us) t))->be P ops Q rest (Fr l ds) u):be P ops Q (cj X8 (.store T x y) ty pos after X8::rest) (Fr l ds) w:=akW m k c e (by rw[d];rfl) b f a h
def Xb{f:FuncId}{a:cw}{xs:Array cw}{args:List am}{first cap:Array am}{a0:Array ba}(m:kE w0 w is)(i:ev l a=.func (.func f) first cap)(j:first.toList++xs.toList.map (ev l)++cap.toList=args)(b:Ab P f args v)
 (h:∀u,kE w0 u is->be P ops Q rest (Fr (l.set d v) ds) u):be P ops Q (cj (H d) (.call { callee:=.value a,args:=xs,argTypes:=a0 }) ty pos after X8::rest) (Fr l ds) w:=by
 refine wpList_plain O λK g=>?_;unfold nt;rw[jO,pX (b w).1 i j _ rfl];refine (b w).2.mono ?_;rintro e w' ⟨u,rfl,c,rfl⟩;show K ((Fr l ds).put (H d) u) w'
 rw[iK];exact g _ _ (h w' (m.ext' c))
def kE.drew(m:kE w0 w is):kE w0 { w with drawn:=w.drawn+1 } is:=m.ext' ⟨(eR.refl w).drawn,Nat.le_succ _⟩
def ag2{id:Nat}{a:Act}{l:List Oper}(m:kE w0 w is)(n:Nat)(d:P.follows .mixedOrders=N)(c:Region.lexTailB .any l.toArray n=N)
 (h:c_ P l.toArray (λu=>kE w0 u is) (λb=>∀u,kE w0 u is->be P l.toArray Q (l.drop n) b u) (l.take n) a):(Code.region id l.toArray N).wp P Q a w:=
 rM (C:=λu=>kE w0 u is) n d c m.drew h
def Gmq{id:Nat}{a:Act}{l:List Oper}(m:kE w0 w is)(d:P.follows .mixedOrders=N)(c:Region.lexB .any l.toArray=N)
 (h:c_ P l.toArray (λu=>kE w0 u is) (λb=>∀u,kE w0 u is->Q .normal b u) l a):(Code.region id l.toArray N).wp P Q a w:=
 wp_region_quiet (C:=λu=>kE w0 u is) d c m.drew (by simpa using h)
end
section
variable{P:B}{w0:an}{is:List It}{l:List am}{x y:cw}{T ty:ba}
variable{ops:Array Oper}{Q:Act->Prop}{rest:List Oper}{d:Nat}{pos:String}{after:Array Edge}{v:am}{ds:List d_}
def Gql{a:Addr}(c:ev l x=.pointer (H a))(b:∀u,kE w0 u is->eZ P u T a v)(h:c_ P ops (λu=>kE w0 u is) Q rest (Fr (l.set d v) ds)):c_ P ops (λu=>kE w0 u is) Q (cj (H d) (.load T x) ty pos after X8::rest) (Fr l ds):=
 Ep (λu m=>cT c (b u m)) h
def Xc{f:FuncId}{a:cw}{xs:Array cw}{args:List am}{first cap:Array am}{a0:Array ba}(i:ev l a=.func (.func f) first cap)(k:first.toList++xs.toList.map (ev l)++cap.toList=args)(b:Ab P f args v)
 (h:c_ P ops (λu=>kE w0 u is) Q rest (Fr (l.set d v) ds)):c_ P ops (λu=>kE w0 u is) Q (cj (H d) (.call { callee:=.value a,args:=xs,argTypes:=a0 }) ty pos after X8::rest) (Fr l ds):=by
 refine wpQuiet_step λK g=>?_;rw[Z9 (by simp[Region.wanted])];refine⟨v,λw' j=>?_,?_⟩
 . unfold mf
   rw[jO,pX (b w').1 i k _ rfl];refine⟨O,(b w').2.mono ?_⟩;rintro e m ⟨u,rfl,c,rfl⟩;exact⟨O,j.ext' c⟩
 show K ((Fr l ds).put (H d) v)
 rw[iK];exact g _ h
end
def Y.Lt(p q:Y):Prop:=p.x<q.x\/p.x=q.x/\(p.y<q.y\/p.y=q.y/\p.z<q.z)
variable{q:Y}
instance (p q:Y):Decidable (p.Lt q):=by unfold Y.Lt;infer_instance
def Je(p q:Y):Int:=if p.Lt q then -1 else if q.Lt p then 1 else 0
theorem Y.eq{p:Y}(a:p.x=q.x)(b:p.y=q.y)(c:p.z=q.z):p=q:=by
 cases p;cases q;simp_all
instance:DecidableEq Y:=λp q=>if h:p.x=q.x/\p.y=q.y/\p.z=q.z then isTrue (Y.eq h.1 h.2.1 h.2.2) else isFalse λe=>h (by subst e;exact⟨rfl,rfl,rfl⟩)
def Y.lt_irrefl(p:Y):¬p.Lt p:=by unfold Y.Lt;omega
def Y.lt_trans{p r:Y}(h:p.Lt q)(k:q.Lt r):p.Lt r:=by unfold Y.Lt at *;omega
def Y.lt_tri(p q:Y):p.Lt q\/p=q\/q.Lt p:=by
 by_cases a:p.x=q.x
 . by_cases b:p.y=q.y
   . by_cases c:p.z=q.z
     .exact .inr (.inl (Y.eq a b c))
     unfold Y.Lt;omega
   unfold Y.Lt;omega
 unfold Y.Lt;omega
def Y.lt_x{p:Y}(h:¬p.x=q.x):p.Lt q↔p.x<q.x:=by unfold Y.Lt;omega
def Y.lt_y{p:Y}(h:p.x=q.x)(a:¬p.y=q.y):p.Lt q↔p.y<q.y:=by unfold Y.Lt;omega
def Y.lt_z{p:Y}(h:p.x=q.x)(a:p.y=q.y):p.Lt q↔p.z<q.z:=by unfold Y.Lt;omega
@[irreducible] def Uh(c:Bool)(v:am):am:=if c then v else undef
def lL{v:am}:Uh N v=v:=by simp[Uh]
def Li{v:am}:Uh X7 v=undef:=by simp[Uh]
def cG{c:Bool}{u v:am}(a:c=N)(h:u=Uh c v):u=v:=by rw[h,a,lL]
section
variable{P:B}{ds:List d_}{l:List am}{x y:cw}{T ty:ba}{b c:Bool}{v:am}
def fB{z:cw}(e:ev l z=.bool b)(a:ev l x=Uh b (.bool c))(d:ev l y=.bool X7):gX P l (.pick z x y) ty (.bool (b&&c)):=by
 have:=Vz (P:=P) (ty:=ty) (x:=x) (y:=y) e;cases b with
 |false=>simpa[d] using this
 |true=>simpa[a,lL] using this
def qG{z:cw}(e:ev l z=.bool b)(a:ev l x=.bool N)(d:ev l y=Uh (!b) (.bool c)):gX P l (.pick z x y) ty (.bool (b||c)):=by
 have:=Vz (P:=P) (ty:=ty) (x:=x) (y:=y) e;cases b with
 |false=>simpa[d,lL] using this
 |true=>simpa[a] using this
end
section
variable{P:B}{ops:Array Oper}{Q:Exit->Act->an->Prop}{rest:List Oper}{d j:Nat}{op:Op}{ty:ba}{pos:String}{after:Array Edge}{v:am}{b:Bool}{ds:List d_}{l:List am}{w w0:an}{is:List It}
def qH(a:yielded ops l.toArray j=H b)(c:b=N->Eo P l op ty v w)(h:be P ops Q rest (Fr (l.set d (Uh b v)) ds) w):be P ops Q (cj (H d) op ty pos after (H (j,N))::rest) (Fr l ds) w:=by
 cases b with
 |false=>rw[Li] at h;exact eF a h
 |true=>rw[lL] at h;exact bQ a (pV (c O) h)
def gV(a:yielded ops l.toArray j=H b)(c:(!b)=N->Eo P l op ty v w)(h:be P ops Q rest (Fr (l.set d (Uh (!b) v)) ds) w):be P ops Q (cj (H d) op ty pos after (H (j,X7))::rest) (Fr l ds) w:=by
 cases b with
 |true=>rw[iq,Li] at h;exact dB a h
 |false=>rw[ik,lL] at h;exact bQ a (pV (c O) h)
def kW(c:yielded ops l.toArray j=H b)(a:b=N->gX P l op ty v)(h:be P ops Q rest (Fr (l.set d (Uh b v)) ds) w):be P ops Q (cj (H d) op ty pos after (H (j,N))::rest) (Fr l ds) w:=qH c (λe=>a e w) h
def eO(c:yielded ops l.toArray j=H b)(a:(!b)=N->gX P l op ty v)(h:be P ops Q rest (Fr (l.set d (Uh (!b) v)) ds) w):be P ops Q (cj (H d) op ty pos after (H (j,X7))::rest) (Fr l ds) w:=gV c (λe=>a e w) h
def Na{f:FuncId}{a:cw}{xs:Array cw}{args:List am}{first cap:Array am}{a0:Array ba}(m:Mem w0 w is)(c:yielded ops l.toArray j=H b)(g:ev l a=.func (.func f) first cap)(i:(!b)=N->first.toList++xs.toList.map (ev l)++cap.toList=args)(e:(!b)=N->dO P f args v)
 (h:∀u,Mem w0 u is->be P ops Q rest (Fr (l.set d (Uh (!b) v)) ds) u):be P ops Q (cj (H d) (.call { callee:=.value a,args:=xs,argTypes:=a0 }) ty pos after (H (j,X7))::rest) (Fr l ds) w:=by
 cases b with
 |true=>simp only[iq,Li] at h;exact dB c (h w m)
 |false=>simp only[ik,lL] at h;exact bQ c (eV m g (i O) (e O) h)
end
section
variable{P:B}{ops:Array Oper}{Q:Act->Prop}{C:an->Prop}{rest:List Oper}{d j:Nat}{op:Op}{ty:ba}{pos:String}{after:Array Edge}{v:am}{b:Bool}{ds:List d_}{l:List am}{w0:an}{is:List It}
def jR(a:yielded ops l.toArray j=H b)(c:b=N->∀u,C u->Eo P l op ty v u)(h:c_ P ops C Q rest (Fr (l.set d (Uh b v)) ds)):c_ P ops C Q (cj (H d) op ty pos after (H (j,N))::rest) (Fr l ds):=by
 cases b with
 |false=>rw[Li] at h;exact dY a h
 |true=>rw[lL] at h;exact bU a (Ep (c O) h)
def Xd(a:yielded ops l.toArray j=H b)(c:(!b)=N->∀u,C u->Eo P l op ty v u)(h:c_ P ops C Q rest (Fr (l.set d (Uh (!b) v)) ds)):c_ P ops C Q (cj (H d) op ty pos after (H (j,X7))::rest) (Fr l ds):=by
 cases b with
 |true=>rw[iq,Li] at h;exact oX a h
 |false=>rw[ik,lL] at h;exact bU a (Ep (c O) h)
def cU(c:yielded ops l.toArray j=H b)(a:b=N->gX P l op ty v)(h:c_ P ops C Q rest (Fr (l.set d (Uh b v)) ds)):c_ P ops C Q (cj (H d) op ty pos after (H (j,N))::rest) (Fr l ds):=jR c (λe u _=>a e u) h
def xW(c:yielded ops l.toArray j=H b)(a:(!b)=N->gX P l op ty v)(h:c_ P ops C Q rest (Fr (l.set d (Uh (!b) v)) ds)):c_ P ops C Q (cj (H d) op ty pos after (H (j,X7))::rest) (Fr l ds):=Xd c (λe u _=>a e u) h
def ady{f:FuncId}{a:cw}{xs:Array cw}{args:List am}{first cap:Array am}{a0:Array ba}(c:yielded ops l.toArray j=H b)(g:ev l a=.func (.func f) first cap)(i:b=N->first.toList++xs.toList.map (ev l)++cap.toList=args)(e:b=N->dO P f args v)
 (h:c_ P ops (λu=>Mem w0 u is) Q rest (Fr (l.set d (Uh b v)) ds)):c_ P ops (λu=>Mem w0 u is) Q (cj (H d) (.call { callee:=.value a,args:=xs,argTypes:=a0 }) ty pos after (H (j,N))::rest) (Fr l ds):=by
 cases b with
 |false=>rw[Li] at h;exact dY c h
 |true=>rw[lL] at h;exact bU c (X g (i O) (e O) h)
end
section
variable{P:B}{ops:Array Oper}{S:an->Prop}{Q:Exit->Act->an->Prop}{rest:List (Oper×Bool)}{d j:Nat}{op:Op}{ty:ba}{pos:String}{after:Array Edge}{v:am}{b:Bool}{ds:List d_}{l:List am}{w:an}
def Nb(a:yielded ops l.toArray j=H b)(c:b=N->∀u,S u->Eo P l op ty v u)(h:cE P ops S Q rest (Fr (l.set d (Uh b v)) ds) w):cE P ops S Q ((cj (H d) op ty pos after (H (j,N)),N)::rest) (Fr l ds) w:=by
 cases b with
 |false=>rw[Li] at h;exact aky a h
 |true=>rw[lL] at h;exact vT a (Wh (c O) h)
def oD(c:yielded ops l.toArray j=H b)(a:b=N->gX P l op ty v)(h:cE P ops S Q rest (Fr (l.set d (Uh b v)) ds) w):cE P ops S Q ((cj (H d) op ty pos after (H (j,N)),N)::rest) (Fr l ds) w:=Nb c (λe u _=>a e u) h
end
end
section
open Go.RowKit Go.ChangeShapes
variable{ve:Type}{enc:ba×am->ve}{P:B}{w:an}{base:Nat}{spare:Nat->Bool}{held:Bool}
def qI(P:B):Nat->ba->Bool
 |0,_=>X7
 |n+1,t=>match P.underlying t with
  |some (.int .i64)=>decide (P.cellsOf t=1)
  |some (.struct fs)=>(fs.toList.all λf=>qI P n f.type)&&(fh (P.cellsOf t)).all λi=>fs.toList.any λf=>decide (f.offset<=i)&&decide (i<f.offset+P.cellsOf f.type)
  |some (.array m e)=>qI P n e&&decide (P.cellsOf t=m*P.cellsOf e)
  |_=>X7
def anY{n:Int}(h:(Lit.int .i64 n).wf=N):gF n:=by
 have:=bounds_i64 h;exact⟨by omega,by omega⟩
def tB:∀(n:Nat)(t:ba)(m:Nat)(cs:List am)(x:DataW ve×List MemPlace),qI P n t=N->DataW.trod enc P w base spare held m t cs=H x ->
 cs.length=P.cellsOf t/\∀v∈cs,∃z,v=U z/\gF z
 |0,t,m,cs,x,h,_=>by cases h
 |n+1,t,m,cs,x,h,o=>by
  unfold qI at h;split at h
  . rename_i c
    obtain⟨z,rfl,_,C⟩:=DataW.trod_int c o;refine⟨by rw[Y9 h];rfl,λv d=>⟨z,by simpa using d,anY C⟩⟩
  . rename_i fs c
    simp only[ck,jy,il,Y2,jc] at h;obtain⟨ys,k,_,_,b,p,g⟩:=DataW.trod_struct c o;refine⟨b,λv d=>?_⟩;obtain⟨i,a,rfl⟩:=lg d;obtain⟨f,D,y,A⟩:=h.2 i (by rw[<-b];exact a);obtain⟨j,r,rfl⟩:=lg D;have u:j<fs.size:=by simpa using r
    have:=g j fs[j] (ie u);rw[ah (by rw[p];exact u)] at this;have l:=(tB n _ _ _ _ (h.1 _ (fe r)) this).2;refine l _ ?_;simp only[Array.getElem_toList] at y A;refine ak (i:=i-fs[j].offset) ?_;rw[fa,Z9 (by omega),dn,show fs[j].offset+(i-fs[j].offset)=i by omega];exact ah a
  . rename_i q e c
    simp only[ck,Y2] at h;obtain⟨ys,k,_,_,b,p,g⟩:=DataW.trod_array c o;refine⟨b,λv d=>?_⟩;obtain⟨i,a,rfl⟩:=lg d;rw[b,h.2] at a;have B:0<P.cellsOf e:=by
     rcases et (P.cellsOf e) with h0|h0
     .rw[h0] at a;omega
     exact h0
    have s:i / P.cellsOf e<q:=Nat.div_lt_of_lt_mul (by rw[iw];exact a);have:=g _ s;rw[ah (by rw[p];exact s)] at this;have l:=(tB n _ _ _ _ h.1 this).2;refine l _ (ak (i:=i%P.cellsOf e) ?_);rw[fa,Z9 (kd _ B),dn,iw,mx];exact ah _
  cases h
def Jf:∀(n:Nat)(cs:List am),cs.length=n->(∀v∈cs,∃z,v=U z/\gF z)->∃a:List Int,a.length=n/\cs=a.map (.int .i64 ·)/\∀z∈a,gF z
 |0,[],_,_=>⟨[],rfl,rfl,λ_ h=>by cases h⟩
 |n+1,v::vs,h,b=>by
  obtain⟨a,c,d,e⟩:=Jf n vs (by simpa using h) (λu hu=>b u (by simp[hu]));obtain⟨z,rfl,f⟩:=b v (by simp);exact⟨z::a,by simp[c],by simp[d],λu hu=>by rcases bl.1 hu with rfl|hu;exact f;exact e _ hu⟩
def aeW{r:Reach}{c n m:Nat}{t:ba}{v:am}{d:DataW ve}{p:List MemPlace}(l:fG P t N)(u:qI P n t=N)(o:P.cellsOf t=m)(b:Value.okWide P w r c t v)(h:DataW.Trod enc P w base spare held t v d p) :
 ∃a:List Int,a.length=m/\v=.agg (a.map (.int .i64 ·)).toArray/\∀z∈a,gF z:=by
 obtain⟨e,x,q⟩:=l;obtain⟨y,s⟩:=h;unfold Value.okWide at b;rw[x] at b;have:∃cs,v=.agg cs:=by
  cases e<;>first|(obtain⟨cs,rfl,_⟩:=b;exact⟨cs,rfl⟩)|(cases q)
 obtain⟨cs,rfl⟩:=this;obtain⟨f,g⟩:=tB n t y _ _ u s;obtain⟨a,i,j,k⟩:=Jf m cs.toList (by rw[<-o];exact f) g;exact⟨a,i,by rw[<-j],k⟩
def ab9{a:Addr}{n:Nat}{cs:List am}(h:w.cells? base a n=H cs):iX w a cs/\base<=a.block:=by
 unfold World.cells? at h;split at h
 . rename_i d
   refine⟨λj u b=>?_,d⟩;have e:=mapM_some_length h;have c:j<cs.length:=(av.1 b).1;rw[e] at c;have:=mapM_some_get h j j (ah c▸by simp);rw[this,b]
 cases h
def aeX{n m:Nat}{t e:ba}{E:Nat}{cs:List am}{x:DataW ve×List MemPlace}(y:P.underlying t=H (.slice e))(c:qI P n e=N)(f:P.cellsOf e=m)(h:DataW.trod enc P w base spare held E t cs=H x) :
 ∃(A:Option Addr)(len cap:Nat),cs=[.slice A len cap]/\len<=cap/\cap<=maxLen/\(A=X8->len=0)/\∀i,i<len->∃(a:Addr)(b:List Int),A=H a/\base<=a.block/\iX w (a.add (i*m)) (b.map (Value.int .i64 ·))/\b.length=m/\∀z∈b,gF z:=by
 rcases Deep.open_slice y h with ⟨rfl,_⟩|⟨a,len,cap,k,q,D,F,rfl,r,u,v,s,_,B⟩
 .exact⟨X8,0,0,O,bg _,bm _,λ_=>rfl,λi c=>Y0 c (Nat.not_lt_zero _)⟩
 refine⟨H a,len,cap,rfl,u,v,λh=>(by cases h),λi G=>?_⟩
 obtain⟨C,d,g⟩:=B i (by rw[s];split<;>omega);obtain⟨j,l⟩:=tB n e q _ _ c g;obtain⟨b,o,rfl,p⟩:=Jf m C (by rw[<-f];exact j) l;rw[f] at d;exact⟨a,b,O,r,(ab9 d).1,o,p⟩
def Lj{α:Type}{p:Nat->α->Prop}:∀(n:Nat),(∀i,i<n->∃x,p i x)->∃l:List α,l.length=n/\∀i x,l[i]? = H x->p i x
 |0,_=>⟨[],rfl,λi x h=>by simp at h⟩
 |n+1,h=>by
  obtain⟨l,b,c⟩:=Lj n (λi hi=>h i (by omega));obtain⟨x,e⟩:=h n (by omega);refine⟨l++[x],by simp[b],λi y a=>?_⟩;rcases oy i n with hi|hi|hi
  .exact c i y (by rwa [db (by omega)] at a)
  . subst hi
    rw[dj (by omega),b,Nat.sub_self] at a;cases a;exact e
  rw[dj (by omega),b] at a
  have:i-n≠0:=by omega
  cases d:i-n with
  |zero=>omega
  |succ j=>rw[d] at a;simp at a
structure ag3(w:an)(A:Option Addr)(n:Nat)(zs:List Int):Prop where
 len:zs.length=n
 it:∀z∈zs,gF z
 row:∀i z,zs[i]? = H z->∃a,A=H a/\w.cell? (a.add i)=H (U z)
def aca{n:Nat}{t e:ba}{u:Nat}{cs:List am}{x:DataW ve×List MemPlace}(s:P.underlying t=H (.slice e))(b:qI P n e=N)(o:P.cellsOf e=1)(h:DataW.trod enc P w base spare held u t cs=H x) :
 ∃(A:Option Addr)(len cap:Nat)(d:List Int),cs=[.slice A len cap]/\len<=cap/\cap<=maxLen/\(A=X8->len=0)/\ag3 w A len d:=by
 obtain⟨A,len,cap,rfl,g,j,k,l⟩:=aeX s b o h;obtain⟨d,m,f⟩:=Lj (p:=λi (z:Int)=>gF z/\∃a,A=H a/\w.cell? (a.add i)=H (U z)) len (λi b=>by
  obtain⟨a,d,rfl,_,r,q,c⟩:=l i b
  match d,q with
  | [z],_=>exact⟨z,c _ (by simp),a,rfl,by have:=r 0 _ rfl;rwa [bi,gQ,gi] at this⟩)
 refine⟨A,len,cap,d,O,g,j,k,m,λz c=>?_,λi z c=>(f i z c).2⟩;obtain⟨i,b,rfl⟩:=lg c;exact (f i _ (ah b)).1
end
section
open Go.RowKit
variable{n k c D r:Nat}{E:ba}{α:Type}{w:an}{x:It}{P:B}{a:Act}
def amN{n m:Int}(a:0<m) : -m<n.tmod m/\n.tmod m<m:=by
 have c:=Int.tmod_lt_of_pos n a;have b:=Int.tmod_lt_of_pos (-n) a;rw[qp] at b;omega
def akX{n m:Int}(b:0<m):(n.tmod m+m).tmod m=n%m:=by
 have d:=amN (n:=n) b;rw[nq (by omega)];rcases Int.le_total 0 n with h|h
 . rw[nq h]
   simp
 have e:n.tmod m = -((-n)%m):=by
  rw[<-nq (show 0 <= -n by omega),qp,ot]
 rw[e,Int.add_emod_right];have c:=Int.emod_add_mul_ediv (-n) m;have a : -((-n)%m)=n+m*(-n / m):=by omega
 rw[a,Int.add_mul_emod_self_left]
/-! ### Hills -/
def Lk{α β:Type}{f:α->List β}{k:Nat}:∀(l:List α),(∀x∈l,(f x).length=k)->(l.flatMap f).length=l.length*k
 | [],_=>by simp
 |x::l,h=>by
  rw[da,a_,h x (by simp),Lk l (λy a=>h y (by simp[a])),bh,gw,kl,lh]
/-! ### Cubes -/
/-! ### What the walks ask for -/
def amO  : (k:Int).tmod (c:Int)=((k%c:Nat):Int):=rfl
def aql(ts:List T3)(k:Nat):(ts.take k).flatMap aP=(ts.flatMap aP).take (k*9):=by
 induction ts generalizing k with
 |nil=>simp
 |cons t ts ih=>
  cases k with
  |zero=>simp
  |succ k=>
   rw[ic,da,da,ih,ny,eC,ap (l:=aP t) (by rw[eC];omega),show (k+1)*9-9=k*9 by omega]
def ag4{ts:List T3}{t u:T3}(h:ts[k]? = H t):over (ts.flatMap aP) (k*9) (aP u)=(ts.set k u).flatMap aP:=by
 induction ts generalizing k with
 |nil=>cases h
 |cons v ts ih=>
  cases k with
  |zero=>
   unfold over;rw[Nat.zero_mul,im,cv,ax,da,da,eC,ae,jz,eC,fl (l:=aP v) (by rw[eC];omega)];rfl
  |succ k=>
   have:=ih (k:=k) h;unfold over at this ⊢;rw[e,da,da,<-this,eC];rw[ny,eC,ap (l:=aP v) (by rw[eC];omega),show (k+1)*9-9=k*9 by omega,jz,eC,fl (l:=aP v) (by rw[eC];omega),show (k+1)*9+9-9=k*9+9 by omega];simp only[di,cv]
def T3.cor(t:T3)(c:Nat):Y:=if c=0 then t.a else if c=1 then t.b else t.c
def T3.setC(t:T3)(c:Nat)(p:Y):T3:=if c=0 then ⟨p,t.b,t.c⟩ else if c=1 then ⟨t.a,p,t.c⟩ else ⟨t.a,t.b,p⟩
variable{ts:List T3}{t:T3}
def akY{p:Y}(a:c<3):over (aP t) (c*3) [U p.x,U p.y,U p.z]=aP (t.setC c p):=by
 have:c=0\/c=1\/c=2:=by omega
 rcases this with rfl|rfl|rfl<;>rfl
def aeY{cs us:List am}{off d:Nat}(h:off+k<=cs.length)(f:us.length+d<=k):over cs (off+d) us=over cs off (over ((cs.drop off).take k) d us):=by
 have a:((cs.drop off).take k).length=k:=by rw[bf,ef];omega
 have c:(over ((cs.drop off).take k) d us).length=k:=by rw[uS (by omega)];exact a
 unfold over at c ⊢;rw[c];apply fy;intro j;simp only[di];rcases ej j off with h1|h1
 .rw[db (by rw[bf];omega),db (by rw[bf];omega),fa,fa,Z9 (by omega),Z9 h1]
 rw[dj (l₁:=cs.take off) (by rw[bf];omega)]
 have e:(cs.take off).length=off:=by rw[bf];omega
 have b:(cs.take (off+d)).length=off+d:=by rw[bf];omega
 rw[e];rcases ej j (off+d) with h2|h2
 .rw[db (by rw[b];exact h2),db (by rw[bf,a];omega),fa,fa,fa,dn,Z9 h2,Z9 (by omega),Z9 (by omega),show off+(j-off)=j by omega]
 rw[dj (by rw[b];exact h2),b,dj (l₁:=((cs.drop off).take k).take d) (by rw[bf,a];omega),bf (l:=(cs.drop off).take k),a,de (by omega),show j-off-d=j-(off+d) by omega]
 rcases ej (j-(off+d)) us.length with h3|h3
 .rw[db h3,db h3]
 rw[dj h3,dj h3]
 rcases ej j (off+k) with h4|h4
 . rw[db (by rw[ef,a];omega),dn,dn,fa,dn,Z9 (by omega)]
   congr 1
   omega
 rw[dj (by rw[ef,a];omega),dn,dn,ef,a]
 congr 1
 omega
def ag5{p:Y}(h:ts[k]? = H t)(a:c<3):over (ts.flatMap aP) (k*9+c*3) [U p.x,U p.y,U p.z]=(ts.set k (t.setC c p)).flatMap aP:=by
 have d:k<ts.length:=(av.1 h).1;have b:=wS ts k t h;rw[aeY (k:=9) (by rw[tA];omega) (by show 3+_<=9;omega),b,ny,eC,ap (l:=aP t) (by rw[eC];omega),show 9-9=0 from rfl,im,fw,akY a,ag4 h]
section
variable{w0 w:an}{S:List (Option Nat)}{E:ba}{n cap:Nat}{A:Option Addr}{ts:List T3}
def iX.cor{a:Addr}{t:T3}{c:Nat}(h:iX w a (aP t))(b:c<3):iX w (a.add (c*3)) [U (t.cor c).x,U (t.cor c).y,U (t.cor c).z]:=by
 have:=(h.sub (c*3)).take 3;have e:c=0\/c=1\/c=2:=by omega
 rcases e with rfl|rfl|rfl<;>exact this
end
section
variable{α:Type}{enc:α->List am}{c:Nat}{w w':an}{A:Option Addr}{n:Nat}{xs:List α}
structure kO(enc:α->List am)(c:Nat)(w:an)(A:Option Addr)(n:Nat)(xs:List α):Prop where
 len:xs.length=n
 row:∀i x,xs[i]? = H x->∃a,A=H a/\iX w (a.add (i*c)) (enc x)
def kO.ext(h:kO enc c w A n xs)(b:eR w w'):kO enc c w' A n xs:=⟨h.len,λi x d=>let ⟨a,e,f⟩:=h.row i x d;⟨a,e,f.ext b⟩⟩
def kO.nil(w:an)(A:Option Addr):kO enc c w A 0 []:=⟨rfl,λi x h=>by cases h⟩
def kO.get(h:kO enc c w A n xs){i:Nat}(d:i<n):∃x,xs[i]? = H x/\∃a,A=H a/\iX w (a.add (i*c)) (enc x):=by
 have b:i<xs.length:=by rw[h.len];exact d
 exact⟨xs[i],ah b,h.row i _ (ah b)⟩
def kO.at{a:Addr}(h:kO enc c w (H a) n xs){i:Nat}{x:α}(f:xs[i]? = H x):iX w (a.add (i*c)) (enc x):=by
 obtain⟨b,e,d⟩:=h.row i x f;cases e;exact d
def kO.take(h:kO enc c w A n xs){k:Nat}(b:k<=n):kO enc c w A k (xs.take k):=
 ⟨by rw[bf,h.len];omega,λi x a=>h.row i x (by rw[fa] at a;split at a;exact a;cases a)⟩
def dZ(a:∀x,(enc x).length=c):∀xs:List α,(xs.flatMap enc).length=xs.length*c
 | []=>by simp
 |x::xs=>by rw[da,a_,a,dZ a xs,bh,gw,kl,lh]
def tX(a:∀x,(enc x).length=c):∀(xs:List α)(k:Nat),(xs.drop k).flatMap enc=(xs.flatMap enc).drop (k*c)
 |xs,0=>by simp
 | [],k+1=>by simp
 |x::xs,k+1=>by
  rw[List.drop_succ_cons,da,tX a xs k,jz,a,fl (l:=enc x) (by rw[a,gw];omega),gw,kl,g_,cv]
def tY(a:∀x,(enc x).length=c):∀(xs:List α)(k:Nat),(xs.take k).flatMap enc=(xs.flatMap enc).take (k*c)
 |xs,0=>by simp
 | [],k+1=>by simp
 |x::xs,k+1=>by
  rw[ic,da,da,tY a xs k,ny,a,ap (l:=enc x) (by rw[a,gw];omega),gw,kl,g_]
def Pa(a:∀x,(enc x).length=c){xs:List α}{i:Nat}{x:α}(h:xs[i]? = H x):(xs.flatMap enc).drop (i*c)=enc x++(xs.drop (i+1)).flatMap enc:=by
 rw[<-tX a,dw (av.1 h).1,da,(av.1 h).2]
def Ow.at{w0:an}{S:List (Option Nat)}{cap g i:Nat}{x:α}(b:∀x,(enc x).length=c)(h:Ow w0 w S E c (me ⟨g,0,X8⟩) n cap (xs.flatMap enc))(d:xs[i]? = me x):iX w ((⟨g,0,X8⟩:Addr).add (i*c)) (enc x):=by
 intro j u a;have e:j<(enc x).length:=(av.1 a).1;rw[gQ];refine h.rows _ _ ?_;rw[<-dn,Pa b d,db e];exact a
def Ow.num{w0:an}{S:List (Option Nat)}{cap:Nat}(b:∀x,(enc x).length=c)(a:0<c)(h:Ow w0 w S E c A n cap (xs.flatMap enc)):xs.length=n:=by
 have:=h.own.1;rw[dZ b] at this;exact Nat.eq_of_mul_eq_mul_right a this
def Ow.lat{w0:an}{S:List (Option Nat)}{cap:Nat}(a:∀x,(enc x).length=c)(b:0<c)(h:Ow w0 w S E c A n cap (xs.flatMap enc)):kO enc c w A n xs:=
 ⟨h.num a b,λi x d=>by
  have e:=(av.1 d).1;have f:=h.num a b;obtain⟨g,rfl⟩:=h.some (by omega);exact⟨_,O,h.at a d⟩⟩
def Ow.latK{w0:an}{S:List (Option Nat)}{cap k:Nat}(a:∀x,(enc x).length=c)(d:0<c)(h:Ow w0 w S E c A n cap (xs.flatMap enc))(b:k<=n):Ow w0 w S E c A k cap ((xs.take k).flatMap enc):=(h.take b).as (tY a xs k).symm
def kO.cells(b:∀x,(enc x).length=c)(f:0<c)(h:kO enc c w A n xs):∀j u,(xs.flatMap enc)[j]? = H u->∃a,A=H a/\w.cell? (a.add j)=H u:=λj u d=>by
 have i:=(av.1 d).1;rw[dZ b] at i;have g:j / c<xs.length:=(jr f).2 i;obtain⟨a,rfl,l⟩:=h.row (j / c) _ (ah g);refine⟨a,O,?_⟩;have k:=kd j f;have e:j=j / c*c+j%c:=by rw[iw];exact (mx j c).symm
 have:=l (j%c) u (by
  rw[e,<-dn,Pa b (ah g),db (by rw[b];exact k)] at d;exact d)
 rw[gQ,<-e] at this;exact this
def kO.cellsD(b:∀x,(enc x).length=c)(e:0<c)(h:kO enc c w A n xs){cap q:Nat}(i:n<=cap):∀j u,((xs.drop q).flatMap enc)[j]? = H u->∃a,(if cap=q then A else A.map (·.add (q*c)))=H a/\w.cell? (a.add j)=H u:=λj u d=>by
 rw[tX b,dn] at d;have f:=(av.1 d).1;rw[dZ b,h.len] at f;obtain⟨a,rfl,g⟩:=h.cells b e _ _ d;have:q<n:=by
  refine ll (a:=c) ?_;omega
 rw[K0 (by omega)];exact⟨_,O,by rw[gQ];exact g⟩
end
def cZ{ps:List α}{p:α}(h:ps[k]? = H p):ps.take (k+1)=ps.take k++[p]:=by
 rw[jb,h];rfl
abbrev E3:=Y×Y
variable{e:E3}
def dE(e:E3):List am:=[U e.1.x,U e.1.y,U e.1.z,U e.2.x,U e.2.y,U e.2.z]
def ed(e:E3):am:=.agg #[U e.1.x,U e.1.y,U e.1.z,U e.2.x,U e.2.y,U e.2.z]
def kS(p:Y):List am:=[U p.x,U p.y,U p.z]
def cI.lat{A:Option Addr}(h:cI w A n ts):kO aP 9 w A n ts:=⟨h.len,h.row⟩
def Jg(es:List E3):∀u∈es.flatMap dE,u.oneCell'=N:=λu a=>by
 obtain⟨e,_,h⟩:=ff.1 a;simp only[dE,bl,fk,Y3] at h;rcases h with rfl|rfl|rfl|rfl|rfl|rfl<;>rfl
def Bj(ps:List Y):∀u∈ps.flatMap kS,u.oneCell'=N:=λu a=>by
 obtain⟨e,_,h⟩:=ff.1 a;simp only[kS,bl,fk,Y3] at h;rcases h with rfl|rfl|rfl<;>rfl
def Pb(t:T3):(aP t).length=9:=rfl
def Bk(e:E3):(dE e).length=6:=rfl
def xG(p:Y):(kS p).length=3:=rfl
def jT(ts:List T3):List E3:=ts.flatMap λt=>[(t.a,t.b),(t.b,t.c),(t.c,t.a)]
def Fb(h:ts[k]? = H t):jT (ts.take (k+1))=jT (ts.take k)++[(t.a,t.b),(t.b,t.c),(t.c,t.a)]:=by
 unfold jT;rw[cZ h,au];simp
def Dc(ts:List T3):(jT ts).length=ts.length*3:=Lk ts λ_ _=>rfl
def Gn(es:List E3)(e:E3):Nat:=(es.filter λx=>decide (x=e)).length
def aau{es:List E3}{x:E3}(h:es[k]? = H x):Gn (es.take (k+1)) e=Gn (es.take k) e+if x=e then 1 else 0:=by
 unfold Gn;rw[cZ h,List.filter_append,a_];by_cases a:x=e<;>simp[a]
def anZ{es:List E3}  : Gn es e<=es.length:=List.length_filter_le _ _
def an0{is:List α}{i:α}(h:is[k]? = H i):is.set k i=is:=by
 apply fy;intro j;rw[jm];split
 . rename_i e
   subst e;rw[Z9 (av.1 h).1,h]
 rfl
def Jh{α:Type}:∀(l:List α)(j:Nat)(x:α),l[j]? = H x->(x::l.eraseIdx j).Perm l
 | [],j,x,h=>by cases h
 |y::l,0,x,h=>by cases h;exact .refl _
 |y::l,j+1,x,h=>((List.Perm.swap y x _)).trans ((Jh l j x h).cons y)
def Mem.pull{w0:an}{is:List It}(m:Mem w0 w is)(j:Nat)(e:is[j]? = H x):Mem w0 w (x::is.eraseIdx j):=by
 have d:=Jh is j x e;exact⟨m.ext,λi c=>m.all i (d.mem_iff.1 c),λi c=>m.ge i (d.mem_iff.1 c),(d.pairwise_iff (λ{a b}(h:Ap a b)=>h.symm)).2 m.nd⟩
def Mem.mv{w0:an}{is:List It}{y:It}(m:Mem w0 w (y::is))(k:Nat)(f:is[k]? = H x):Mem w0 w (is.set k y):=by
 obtain⟨c,d⟩:=b_.1 m.nd;have b:∀i∈is.set k y,i∈y::is:=λi a=>(iv a).elim (br _) (λe=>e▸bv);exact⟨m.ext,λi a=>m.all i (b i a),λi a=>m.ge i (b i a),ab7 is k d f λx g _=>c x g⟩
def bG{a:α}{l:List α}:(a::l).eraseIdx 0=l:=rfl
def bH{a:α}{l:List α}  : (a::l).eraseIdx (n+1)=a::l.eraseIdx n:=rfl
def SL(E:ba)(c:Nat)(cs:List am)(n:Nat)(w:an)(v:am)(w':an):Prop:=∃A cap a,a=n/\v=.slice A a cap/\Ow w w' [] E c A a cap cs
/-! ### Points put into a sorted list -/
def aav(ps:List Y)(p:Y):Nat:=(ps.takeWhile λx=>decide (x.Lt p)).length
def jE(ps:List Y)(p:Y):List Y:=if ps[aav ps p]? = H p then ps else ps.take (aav ps p)++[p]++ps.drop (aav ps p)
def bM(ts:List T3):List Y:=ts.foldl (λps t=>jE (jE (jE ps t.a) t.b) t.c) []
def Gq(h:ts[k]? = H t):bM (ts.take (k+1))=jE (jE (jE (bM (ts.take k)) t.a) t.b) t.c:=by
 unfold bM;rw[cZ h,ly];rfl
def wT(ps:List Y)(p:Y):(jE ps p).length<=ps.length+1:=by
 unfold jE;split
 .omega
 simp;omega
def uX(ts:List T3):(bM ts).length<=ts.length*3:=by
 have:∀(ts:List T3)(ps:List Y),(ts.foldl (λps t=>jE (jE (jE ps t.a) t.b) t.c) ps).length<=ps.length+ts.length*3:=by
  intro ts
  induction ts with
  |nil=>intro ps;simp
  |cons t ts ih=>
   intro ps;have d:=ih (jE (jE (jE ps t.a) t.b) t.c);have e:=wT ps t.a;have f:=wT (jE ps t.a) t.b;have g:=wT (jE (jE ps t.a) t.b) t.c;rw[lq,bh];omega
 have:=this ts [];simpa[bM] using this
section
variable{α:Type}{p:α->Bool}{l:List α}{k:Nat}
def amP(h:∀j x,j<k->l[j]? = H x->p x=N)(a:k<=l.length):k<=(l.takeWhile p).length:=by
 induction l generalizing k with
 |nil=>simp at a;omega
 |cons x l ih=>
  cases k with
  |zero=>omega
  |succ k=>
   have b:=h 0 x (by omega) rfl;rw[l_,Z9 b,bh];have:=ih (k:=k) (λj y d c=>h (j+1) y (by omega) (by simpa using c)) (by simp at a;omega);omega
def aqC{x:α}(a:l[k]? = H x)(h:p x=X7):(l.takeWhile p).length<=k:=by
 induction l generalizing k with
 |nil=>cases a
 |cons y l ih=>
  rw[l_];split
  . cases k with
    |zero=>
     rename_i b;cases a;rw[h] at b;cases b
    |succ k=>
     rw[bh];have:=ih (k:=k) (by simpa using a);omega
  simp
def an1:(l.takeWhile p).length<=l.length:=(List.takeWhile_sublist p).length_le
def aqD{x:α}(h:∀j x,j<k->l[j]? = H x->p x=N)(a:l[k]? = H x)(b:p x=X7):(l.takeWhile p).length=k:=Nat.le_antisymm (aqC a b) (amP h (Nat.le_of_lt (av.1 a).1))
def an2(h:∀j x,j<l.length->l[j]? = H x->p x=N):(l.takeWhile p).length=l.length:=Nat.le_antisymm an1 (amP h (bg _))
def Pre(p:α->Bool)(l:List α)(k:Nat):Prop:=∀j x,j<k->l[j]? = H x->p x=N
def Pre.zero:Pre p l 0:=λj _ a=>by omega
def Pre.step{x:α}(h:Pre p l k)(c:l[k]? = H x)(b:p x=N):Pre p l (k+1):=λj y d a=>by
 rcases ej j k with h1|h1
 .exact h j y h1 a
 obtain rfl:j=k:=by omega
 rw[c] at a;cases a;exact b
end
/-! ### The border -/
def ltE(a b:E3):Bool:=if a.1≠b.1 then decide (a.1.Lt b.1) else decide (a.2.Lt b.2)
/-! ### Pinched corners -/
def ag6(p:Y)(t:T3)(c:Nat):List Y:=if t.cor c=p then [t.cor ((c+1)%3)] else []
def ag7(p:Y)(t:T3)(c:Nat):List Y:=(fh c).flatMap (ag6 p t)
def ag8(ts:List T3)(p:Y):List Y:=ts.flatMap λt=>ag7 p t 3
def Bl{x y:Y}:(x.x=y.x/\x.y=y.y/\x.z=y.z)↔x=y:=⟨λh=>Y.eq h.1 h.2.1 h.2.2,λh=>by rw[h];exact⟨rfl,rfl,rfl⟩⟩
def Gs{p:α->Bool}{l:List α}{x:α}(a:l[k]? = H x):(l.take (k+1)).any p=((l.take k).any p||p x):=by
 rw[cZ a,List.any_append];simp
def Xe{p:α->Bool}{l:List α}{x:α}(a:l[k]? = H x)(h:p x=N):l.any p=N:=il.2 ⟨x,ak a,h⟩
def fN(js:List It):It where
 own b:=∃j∈js,j.own b
 P w:=(∀j∈js,j.P w)/\js.Pairwise Ap
 lt w b h hb:=by
  obtain⟨j,hj,hb⟩:=hb;exact j.lt w b (h.1 j hj) hb
 st w w' h hs k:=⟨λj hj=>j.st w w' (h.1 j hj) hs λb hb=>k b ⟨j,hj,hb⟩,h.2⟩
section
variable{w0 w:an}{is js ks:List It}
def Mem.bagPerm(m:Mem w0 w (fN js::is))(h:js.Perm ks):Mem w0 w (fN ks::is):=by
 obtain⟨e,f⟩:=b_.1 m.nd;have P:=m.all _ (bv ..);refine⟨m.ext,λx hx=>?_,λx hx b c=>?_,b_.2 ⟨λx hx b ⟨y,d,c⟩ i=>?_,f⟩⟩
 . rcases bl.1 hx with rfl|hx
   .exact⟨λj g=>P.1 j (h.mem_iff.2 g),(h.pairwise_iff (λ{a b}(h:Ap a b)=>h.symm)).1 P.2⟩
   exact m.all x (br _ hx)
 . rcases bl.1 hx with rfl|hx
   . obtain⟨y,d,c⟩:=c
     exact m.ge _ (bv ..) b ⟨y,h.mem_iff.2 d,c⟩
   exact m.ge x (br _ hx) b c
 exact e x hx b ⟨y,h.mem_iff.2 d,c⟩ i
def Mem.bagNil(m:Mem w0 w is):Mem w0 w (fN []::is):=
 ⟨m.ext,λi hi=>by
  rcases bl.1 hi with rfl|hi
  .exact⟨λj a=>(by cases a),List.Pairwise.nil⟩
  .exact m.all i hi,λi hi b c=>by
  rcases bl.1 hi with rfl|hi
  .obtain⟨j,a,_⟩:=c;cases a
  exact m.ge i hi b c,b_.2 ⟨λi _ b ⟨j,a,_⟩=>(by cases a),m.nd⟩⟩
def Mem.bagPull(m:Mem w0 w (fN js::is))(i:Nat){j:It}(k:js[i]? = H j):Mem w0 w (j::fN (js.eraseIdx i)::is):=by
 have l:=Jh js i j k;obtain⟨g,p⟩:=b_.1 m.nd;have P:=m.all _ (bv ..);have e:=ak k;have f:∀x∈js.eraseIdx i,x∈js:=λx hx=>l.mem_iff.1 (br _ hx);have n:=b_.1 ((l.pairwise_iff (λ{a b}(h:Ap a b)=>h.symm)).2 P.2);refine⟨m.ext,λx hx=>?_,λx hx b c=>?_,b_.2 ⟨λx hx b c o=>?_,b_.2 ⟨λx hx b ⟨y,d,c⟩=>g x hx b ⟨y,f y d,c⟩,p⟩⟩⟩
 . rcases bl.1 hx with rfl|hx
   .exact P.1 x e
   rcases bl.1 hx with rfl|hx
   .exact⟨λy d=>P.1 y (f y d),n.2⟩
   exact m.all x (br _ hx)
 . rcases bl.1 hx with rfl|hx
   .exact m.ge _ (bv ..) b ⟨x,e,c⟩
   rcases bl.1 hx with rfl|hx
   . obtain⟨y,d,c⟩:=c
     exact m.ge _ (bv ..) b ⟨y,f y d,c⟩
   exact m.ge x (br _ hx) b c
 rcases bl.1 hx with rfl|hx
 . obtain⟨y,d,q⟩:=o
   exact n.1 y d b c q
 exact g x hx b ⟨j,e,c⟩ o
def Mem.bagPush{j:It}(m:Mem w0 w (j::fN js::is)):Mem w0 w (fN (j::js)::is):=by
 obtain⟨c,f⟩:=b_.1 m.nd;obtain⟨g,h⟩:=b_.1 f;have P:=m.all (fN js) (br _ (bv ..));have e:=m.all j (bv ..);refine⟨m.ext,λx hx=>?_,λx hx b a=>?_,b_.2 ⟨λx hx b ⟨y,hy,a⟩ d=>?_,h⟩⟩
 . rcases bl.1 hx with rfl|hx
   . refine⟨λy hy=>?_,b_.2 ⟨λy hy b a i=>c _ (bv ..) b a ⟨y,hy,i⟩,P.2⟩⟩
     rcases bl.1 hy with rfl|hy
     .exact e
     exact P.1 y hy
   exact m.all x (br _ (br _ hx))
 . rcases bl.1 hx with rfl|hx
   . obtain⟨y,hy,a⟩:=a
     rcases bl.1 hy with rfl|hy
     .exact m.ge y (bv ..) b a
     exact m.ge (fN js) (br _ (bv ..)) b ⟨y,hy,a⟩
   exact m.ge x (br _ (br _ hx)) b a
 rcases bl.1 hy with rfl|hy
 .exact c x (br _ hx) b a d
 exact g x hx b ⟨y,hy,a⟩ d
end
def KB(n:Nat)(b:List Nat)(W a:an):Prop:=Below n W a/\∀k∈b,a.heap[k]? = W.heap[k]?
def KB.trans{a:List Nat}{A B C:an}(h:KB n a A B)(k:KB n a B C):KB n a A C:=⟨h.1.trans k.1,λb c=>(k.2 b c).trans (h.2 b c)⟩
def KB.blk{a:List Nat}{A B:an}{cs:List am}{t:ba}(h:KB n a A B)(c:k∈a)(b:fQ A k cs t):fQ B k cs t:=(h.2 k c).trans b
def dI(D:Nat)(o:Obj):It where
 own b:=H D=H b
 P w:=w.heap[D]? = H o
 lt w b h e:=by cases e;exact (fx.1 h).1
 st w w' h _ k:=(k D rfl).trans h
def rI(B:Nat)(W:an):It where
 own b:=B<=b/\∃o,W.heap[b]? = H o/\o.isCells=X7
 P w:=KeepsFrom B W w
 lt w b h e:=by
  obtain⟨_,o,ho,_⟩:=e;have:=(fx.1 ho).1;have:=h.size;omega
 st w w' h hs k:=⟨ay h.size hs,λb o hB hb ho=>(k b ⟨hB,o,hb,ho⟩).trans (h.same b o hB hb ho)⟩
section
variable{w0 w:an}{is:List It}
def Mem.putD{o o':Obj}(m:Mem w0 w is)(k:Nat)(a:is[k]? = H (dI D o)):Mem w0 (w.putObj D o') (is.set k (dI D o')):=by
 have c:D<w.heap.size:=(dI D o).lt w D (m.get k a) rfl;refine m.put k a O O O (by show _<=(w.heap.setIfInBounds D o').size;simp) (λb _ d=>World.putObj_heap_other (λe=>d (by rw[e];rfl))) ?_ (.inl λ_ h=>h);show (w.heap.setIfInBounds D o')[D]? = H o'
 simp[c]
def aaw{l:List am}{a:Func}{R:Ending->an->Prop}{w:an}(h:bodyPost P a R .ret (Fr l) w):bodyPostM Fence.wide n P a R .ret (Fr l) w:=by
 obtain⟨_,v,c,b⟩:=h;exact⟨v,c,b⟩
def Mem.addI{o:Obj}(m:Mem w0 w is)(h:w.heap[D]? = H o)(g:w0.heap.size<=D)(f:∀i∈is,¬i.own D):Mem w0 w (dI D o::is):=by
 refine⟨m.ext,λi hi=>?_,λi hi b a=>?_,b_.2 ⟨λj e b c d=>?_,m.nd⟩⟩
 . rcases bl.1 hi with rfl|hi
   .exact h
   exact m.all i hi
 . rcases bl.1 hi with rfl|hi
   .cases a;exact g
   exact m.ge i hi b a
 cases c
 exact f j e d
def Mem.frame{B:Nat}(m:Mem w0 w is)(g:w0.heap.size<=B)(h:∀i∈is,∀b,i.own b->B<=b->∀o,w.heap[b]? = H o->o.isCells=N):Mem w0 w (is++[rI B w]):=by
 refine⟨m.ext,λi hi=>?_,λi hi b a=>?_,gm.2 ⟨m.nd,List.pairwise_singleton _ _,λi hi j k b d e=>?_⟩⟩
 . rcases bz.1 hi with hi|hi
   .exact m.all i hi
   obtain rfl:=cr.1 hi
   exact KeepsFrom.refl B w
 . rcases bz.1 hi with hi|hi
   .exact m.ge i hi b a
   obtain rfl:=cr.1 hi
   exact ay g a.1
 obtain rfl:=cr.1 k
 obtain⟨f,o,l,c⟩:=e;rw[h i hi b d f o l] at c;cases c
def Mem.pre{b:List It}(m:Mem w0 w (is++b)):Mem w0 w is:=⟨m.ext,λi a=>m.all i (jf _ a),λi a=>m.ge i (jf _ a),(gm.1 m.nd).1⟩
def Mem.suf{b:List It}(m:Mem w0 w (b++is)):Mem w0 w is:=⟨m.ext,λi a=>m.all i (gv _ a),λi a=>m.ge i (gv _ a),(gm.1 m.nd).2.1⟩
def eR.kb{W u:an}{d:List Nat}(a:eR w W)(b:eR w u)(h:W.heap.size<=u.heap.size)(i:n<=w.heap.size)(g:∀k∈d,∃cs t,fQ W k cs t/\fQ u k cs t):KB n d W u:=
 ⟨⟨b.os.trans a.os.symm,b.tape.trans a.tape.symm,b.output.trans a.output.symm,h,λk c=>(Below.block b k (by omega)).trans (Below.block a k (by omega)).symm⟩,λk c=>by
  obtain⟨cs,t,e,f⟩:=g k c;exact (show u.heap[k]? = _ from f).trans (show W.heap[k]? = _ from e).symm⟩
def dls(a:List Nat):List d_:=a.map λD=>{ target:=.collected D,args:=#[] }
def ddI(a:List Nat):It:=fN (a.map λD=>dI D (.deferred (H [])))
def Mem.ddPush{d:List Nat}(m:Mem w0 w (dI D (.deferred (H []))::ddI d::is)):Mem w0 w (ddI (D::d)::is):=by
 obtain⟨g,k⟩:=b_.1 m.nd;obtain⟨l,n⟩:=b_.1 k;have i:=m.all _ (bv ..);have f:=m.all _ (br _ (bv ..));have o:∀j∈d.map (λD=>dI D (.deferred (H []))),Ap (dI D (.deferred (H []))) j:=λj hj b a c=>g _ (bv ..) b a ⟨j,hj,c⟩;refine⟨m.ext,λx hx=>?_,λx hx b h=>?_,b_.2 ⟨λx hx b ⟨j,hj,a⟩ c=>?_,n⟩⟩
 . rcases bl.1 hx with rfl|hx
   . exact⟨λj hj=>by
      rcases bl.1 hj with rfl|hj
      .exact i
      exact f.1 j hj,b_.2 ⟨o,f.2⟩⟩
   exact m.all x (br _ (br _ hx))
 . rcases bl.1 hx with rfl|hx
   . obtain⟨j,hj,e⟩:=h
     rcases bl.1 hj with rfl|hj
     .exact m.ge _ (bv ..) b e
     exact m.ge _ (br _ (bv ..)) b ⟨j,hj,e⟩
   exact m.ge x (br _ (br _ hx)) b h
 rcases bl.1 hj with rfl|hj
 .exact g x (br _ hx) b a c
 exact l x hx b ⟨j,hj,a⟩ c
def ag9{P:B}{l:List am}{n:Nat}{b:Func}{R:Ending->an->Prop}:∀(a:List Nat)(w:an),Mem w0 w (ddI a::is)->(∀u,Mem w0 u is->bodyPost P b R .ret (Fr l) u)->bodyPostM Fence.wide n P b R .ret (Fr l (dls a)) w
 | [],w,m,h=>by
  obtain⟨_,v,e,d⟩:=h w m.tl;exact⟨v,e,d⟩
 |D::a,w,m,h=>by
  have c:Mem w0 w (dI D (.deferred (H []))::ddI a::is):=Mem.bagPull m 0 rfl;have f:Mem w0 (w.putObj D (.deferred X8)) (ddI a::is):=(c.putD (o':=.deferred X8) 0 rfl).tl;exact⟨by simp,.inl ⟨D,_,O,run_takeDeferred (c.get 0 O),ag9 a _ f h⟩⟩
def aha{P:B}{l:List am}{c:Code}{Q:Exit->Act->an->Prop}(b:List Nat)(ts ss:List Nat)(I:Nat->List am->List Nat->an->Prop)(j:∃n,I n (ts.map (l.getD · undef)) b w)
 (p:∀k vs b w,I k vs b w->∀g:Nat->am,c.wp P (Exit.then (λm w'=>∃h d i,h<k/\m=Fr d (dls i)/\lI (eG l ts (ts.map (d.getD · undef))) ss (d.getD · undef)=d/\I h (ts.map (d.getD · undef)) i w') Q) (Fr (lI (eG l ts vs) ss g) (dls b)) w):(Code.loop c).wp P Q (Fr l (dls b)) w:=by
 obtain⟨q,j⟩:=j;refine (wpIn_wide (n:=0)).1 (wpIn_loop_ghost (λn a w=>∃vs g b,a=Fr (lI (eG l ts vs) ss g) (dls b)/\I n vs b w) q ⟨_,(l.getD · undef),b,by rw[pY,Cu],j⟩ ?_);rintro k a w ⟨vs,g,b,rfl,s⟩;refine wpIn_wide.2 (Code.wp_mono ?_ (p k vs b w s g));intro e m w' f;cases e with
 |normal=>
  obtain⟨h,d,i,t,rfl,o,r⟩:=f;exact⟨h,t,_,(d.getD · undef),i,by rw[o],r⟩
 |exit id=>exact f
 |goto id=>exact f
 |ret=>exact f
 |panic u=>exact f
 |outgrown=>exact f
def ahb{P:B}{l:List am}{ds:List d_}{c:Code}{Q:Exit->Act->an->Prop}(ts ss:List Nat)(I:Nat->List am->an->Prop)(h:∃n,I n (ts.map (l.getD · undef)) w)
 (m:∀k vs w,I k vs w->∀g:Nat->am,c.wp P (Exit.then (λi w'=>∃f b,f<k/\i=Fr b ds/\lI (eG l ts (ts.map (b.getD · undef))) ss (b.getD · undef)=b/\I f (ts.map (b.getD · undef)) w') Q) (Fr (lI (eG l ts vs) ss g) ds) w):(Code.loop c).wp P Q (Fr l ds) w:=by
 obtain⟨o,h⟩:=h;refine (wpIn_wide (n:=0)).1 (wpIn_loop_ghost (λn a w=>∃vs g,a=Fr (lI (eG l ts vs) ss g) ds/\I n vs w) o ⟨_,(l.getD · undef),by rw[pY,Cu],h⟩ ?_);rintro k a w ⟨vs,g,rfl,q⟩;refine wpIn_wide.2 (Code.wp_mono ?_ (m k vs w q g));intro e i w' d;cases e with
 |normal=>
  obtain⟨f,b,r,rfl,j,p⟩:=d;exact⟨f,r,_,(b.getD · undef),by rw[j],p⟩
 |exit id=>exact d
 |goto id=>exact d
 |ret=>exact d
 |panic s=>exact d
 |outgrown=>exact d
def Ac{Q:Exit->Act->an->Prop}{c:Code}(m:Nat)(h:Code.roundsIn (Fence.wide.inRound r) n P c Q m a w):(Code.loop c).wpIn (Fence.wide.inRound r) n P Q a w:=wpIn_loop_rounds m h
def Gu{Q:Exit->Act->an->Prop}{m:Nat}{c:Code}(h:c.wpIn (Fence.wide.inRound r) n P (Exit.then (Code.roundsIn (Fence.wide.inRound r) n P c Q m) Q) a w):Code.roundsIn (Fence.wide.inRound r) n P c Q (m+1) a w:=h
def tC{Q:Exit->Act->an->Prop}{m:Nat}{c:Code}(h:c.wpIn (Fence.wide.inRound r) n P (Exit.then (Code.roundsIn (Fence.wide.inRound r) n P c Q m) Q) a w):Exit.then (Code.roundsIn (Fence.wide.inRound r) n P c Q (m+1)) Q .normal a w:=h
def acb{Q:Exit->Act->an->Prop}{l:List am}{ds:List d_}{a c:Code}{x:cw}{b:Bool}(f:ev l x=.bool b)(e:b=N->a.wpIn (Fence.wide.inRound r) n P Q (Fr l ds) w)(d:b=X7->c.wpIn (Fence.wide.inRound r) n P Q (Fr l ds) w):(Code.cond x a c).wpIn (Fence.wide.inRound r) n P Q (Fr l ds) w:=Mz f e d
def Gv{Q:Exit->Act->an->Prop}{id:Nat}(h:Q (.exit id) a w):(Code.exit id).wpIn (Fence.wide.inRound r) n P Q a w:=wpIn_exit h
def aax{P:B}{l:List am}{r n:Nat}{c:Code}{Q:Exit->Act->an->Prop}(ts ss:List Nat)(I:Nat->List am->an->Prop)(h:∃n,I n (ts.map (l.getD · undef)) w)
 (m:∀k vs w,I k vs w->∀g:Nat->am,c.wpIn (Fence.wide.inRound r) n P (Exit.then (λi w'=>∃f b,f<k/\i=Fr b/\lI (eG l ts (ts.map (b.getD · undef))) ss (b.getD · undef)=b/\I f (ts.map (b.getD · undef)) w') Q) (Fr (lI (eG l ts vs) ss g)) w):(Code.loop c).wpIn (Fence.wide.inRound r) n P Q (Fr l) w:=by
 obtain⟨o,h⟩:=h;refine wpIn_loop_ghost (λn a w=>∃vs g,a=Fr (lI (eG l ts vs) ss g)/\I n vs w) o ⟨_,(l.getD · undef),by rw[pY,Cu],h⟩ ?_;rintro k a w ⟨vs,g,rfl,q⟩;refine wpIn_mono (m k vs w q g) ?_;intro e i w' d;cases e with
 |normal=>
  obtain⟨f,b,s,rfl,j,p⟩:=d;exact⟨f,s,_,(b.getD · undef),by rw[j],p⟩
 |exit id=>exact d
 |goto id=>exact d
 |ret=>exact d
 |panic t=>exact d
 |outgrown=>exact d
def xX:List am->List Nat->List am->List am
 |l,p::ps,v::vs=>xX (l.set p v) ps vs
 |l,_,_=>l
def adz:∀(ps:List Nat)(vs:List am)(l:List am),(ps.zip vs).foldl (λt (y:Tmp×am)=>t.setIfInBounds y.1 y.2) l.toArray=(xX l ps vs).toArray
 |p::ps,v::vs,l=>by
  rw[List.zip_cons_cons,lq,xX,<-adz ps vs];simp
 | [],_,_=>by simp[xX]
 |_::_,[],_=>by simp[xX]
abbrev bxs{α:Type}(a:α->Option (List am×ba))(x:α)(g:Nat):List It:=match a x with|some c=>[bI g c.1 c.2]|none=>[]
def Xf{α σ:Type}{P:B}{Q:Exit->Act->an->Prop}{L:List am}{dz:List d_}{go:cw}{gf ad n0:Nat}{lb:Array am}{ks:List Nat}{ps:List Nat}{assign ah:Code}{S Sp:List α->Prop}(vs:α->List am)(ds:List Nat)(es:α->Nat->List am)(U:α->Option (List am×ba))
 (hf:ev L go=.func (.func gf) #[] lb) (he:Lith.Entr P gf) (ap:SeqStopsK Fence.wide 3 P gf lb (λx=>(vs x).toArray) (KB n0 ks) S Sp ad w)
 (al:∀x,(vs x).length=ps.length) (ak:n0<=w0.heap.size)
 (F:σ->List It) (R Rr:List α->σ->Prop) (ab:∀s f,(F s).map (·.own)=(F f).map (·.own)) (ae:∀k∈ks,∃cs t,∀s,bI k cs t∈F s) {s0:σ} (m:Mem w0 w (F s0)) (hR:R [] s0)
 (aw:∀(r:Nat)(x:α)(s:σ)(W:an)(K:Act->an->Prop)(Z:It),Mem w0 W (F s++[Z])->(∀g u,Mem w0 u (bxs U x g++(F s++[Z]))->K (Fr (xX (xX L ps (vs x)) ds (es x g))) u) ->
  assign.wpIn (Fence.wide.inRound r) 2 P (Exit.then K (λ_ _ _=>False)) (Fr (xX L ps (vs x))) W)
 (ar:∀(r:Nat) (pre:List α) (x:α) (g:Nat) (s:σ) (W:an) (Q':Exit->Act->an->Prop) [Lh Q'] (Z:It),pre.length<ad->R pre s->Mem w0 W (bxs U x g++(F s++[Z])) ->
  (∀a u f,Mem w0 u (F f++[Z])->R (pre++[x]) f->Q' .normal a u)->(∀a u f,Mem w0 u (F f++[Z])->Rr (pre++[x]) f->Q' .ret a u) ->
  ah.wpIn (Fence.wide.inRound r) 2 P Q' (Fr (xX (xX L ps (vs x)) ds (es x g))) W)
 (au:∀(D:Nat)(xs:List α)(s:σ)(u:an),S xs->R xs s->Mem w0 u (dI D (.deferred (H []))::F s)->Q .normal (Fr L ({ target:=.collected D,args:=#[] }::dz)) u)
 (av:∀(D:Nat)(pre:List α)(s:σ)(u:an),Sp pre->Rr pre s->Mem w0 u (dI D (.deferred (H []))::F s)->Q .ret (Fr L ({ target:=.collected D,args:=#[] }::dz)) u) :
 (Code.rangeFunc go ps.toArray assign ah).wp P Q (Fr L dz) w:=by
 refine (wpIn_wide (n:=4)).1 ?_;have aa:=m.ext.size;have V:∀s,∀i∈F s,∀b,i.own b->b<w.heap.size:=λs i hi b d=>by
  have A:i.own∈(F s).map (·.own):=fg hi;rw[ab s s0] at A;obtain⟨j,z,e⟩:=du.1 A;exact j.lt w b (m.all j z) (by rw[show j.own=i.own from e];exact d)
 have oF:OwnFrom w.heap.size λs W=>Mem w0 W (F s):=λs W W' row q I M=>by
  refine⟨akU (β:=Unit) aa () W W' row q.ext I M,λi hi=>?_,q.ge,q.nd⟩;refine i.st W W' (q.all i hi) I.size λb d=>I.block b (i.lt W b (q.all i hi) d) λe=>?_;have:=(M b e.symm).1;have:=V s i hi b d;omega
 have oR:∀(T:List α->σ->Prop),OwnFrom w.heap.size λ(pre:List α) W=>∃s,T pre s/\Mem w0 W (F s):=λT pre X Y row ⟨s,q,p⟩ I M=>⟨s,q,oF s X Y row p I M⟩
 have af:∀(s:σ)(W:an),Mem w0 W (F s)->Mem w0 W (F s++[rI w.heap.size W]):=λs W h=>h.frame aa λi hi b d hB=>Y0 (V s i hi b d) (by omega);have ag:∀(s f:σ)(W u:an),Mem w0 W (F s)->Mem w0 u (F f)->W.heap.size<=u.heap.size->KB n0 ks W u:=λs f W u A E h3=>A.ext.kb E.ext h3 ak λk C=>by
  obtain⟨cs,t,d⟩:=ae k C;exact⟨cs,t,A.all _ (d s),E.all _ (d f)⟩
 refine wpIn_rangeFunc_ownH (F:=Fence.wide) O (by omega) (gf:=gf) (lb:=lb) (by rw[jO,dM];exact hf) trivial (λargs u=>xI he) ap KB.trans
  (λW l o o' hl J G _=>⟨⟨rfl,rfl,rfl,by show _<=(W.heap.setIfInBounds l o').size;simp,λk C=>World.putObj_heap_other (by omega)⟩,λk C=>World.putObj_heap_other (λe=>by
   obtain⟨cs,t,d⟩:=ae k C;have d:=(m.all _ (d s0)).lt;omega)⟩) (Below.refl _ _) (λx=>by simpa using al x)
  (λpre W=>∃s,R pre s/\Mem w0 W (F s)) (λc pre W=>c=.ret/\∃s,Rr pre s/\Mem w0 W (F s))
  (oR R) (λc=>OwnFrom.and (ownFrom_pure _ (λ_=>c=.ret)) (oR Rr)) ⟨s0,hR,m⟩
  (λx a' W=>∃g,a'=Fr (xX (xX L ps (vs x)) ds (es x g))/\∀c,U x=H c->fQ W g c.1 c.2/\(∀o∈(F s0).map (·.own),¬o g)/\w0.heap.size<=g)
  (λx a' _ X Y row q I M=>by
   obtain⟨g,e,A⟩:=q;exact⟨g,e,λc G=>⟨akT (β:=Unit) _ (λ_=>g) (λ_=>c.1) c.2 () X Y row (A c G).1 I M,(A c G).2⟩⟩)
  ?_ ?_ ?_ ?_
 . rintro r pre x W K ⟨s,q,p⟩ hK
   have:=aw r x s W K _ (af s W p) λg u v=>by
    have E:=v.suf;have C:KeepsFrom w.heap.size W u:=E.all _ (gv _ bv);refine hK _ _ C (ag s s W u p E.pre C.size) ⟨s,q,E.pre⟩ ⟨g,O,λc G=>?_⟩;unfold bxs at v;rw[G] at v;refine⟨v.all _ bv,λo J h=>?_,v.ge _ bv g O⟩;rw[ab s0 s] at J;obtain⟨i,hi,rfl⟩:=du.1 J;exact (b_.1 v.nd).1 i (gv [] (jf _ hi)) g O h
   have aq:(ps.toArray.zip (vs x).toArray).foldl (λt (y:Tmp×am)=>t.setIfInBounds y.1 y.2) L.toArray=(xX L ps (vs x)).toArray:=by rw[<-adz,<-Array.foldl_toList];simp
   exact (Y1 (λt=>Code.wpIn (Fence.wide.inRound r) 2 P assign (Exit.then K λ_ _ _=>False) { tmps:=t,defers:=[] } W) aq).mpr this
 . rintro r pre x a' W _ _ ⟨s,q,p⟩ ⟨g,rfl,A⟩ hN
   have ai:Mem w0 W (bxs U x g++(F s++[rI w.heap.size W])):=by
    unfold bxs;cases G:U x with
    |none=>exact af s W p
    |some c=>
     obtain⟨E,h3,h4⟩:=A c G;rw[ab s0 s] at h3;have aj:Mem w0 W (bI g c.1 c.2::F s):=by
      refine⟨p.ext,λi hi=>?_,λi hi b d=>?_,b_.2 ⟨λj z b e1 e2=>?_,p.nd⟩⟩
      . rcases bl.1 hi with rfl|hi
        .exact E
        exact p.all i hi
      . rcases bl.1 hi with rfl|hi
        .cases d;exact h4
        exact p.ge i hi b d
      cases e1
      exact h3 _ (fg z) e2
     exact aj.frame aa λi hi b d hB o J=>by
      rcases bl.1 hi with rfl|hi
      . cases d
        rw[show W.heap[g]? = _ from E] at J;cases J;rfl
      exact Y0 (V s i hi b d) (by omega)
   refine ar r pre x g s W _ _ hN q ai (λa u f v z=>?_) (λa u f v z=>?_)
   . have C:KeepsFrom w.heap.size W u:=v.all _ (gv _ bv)
     exact⟨C,ag s f W u p v.pre C.size,f,z,v.pre⟩
   exact⟨v.all _ (gv _ bv),O,f,z,v.pre⟩
 . rintro D xs W hD hS ⟨s,z,p⟩ hd
   exact au D xs s W hS z (p.addI hd (ay aa hD) λi hi h=>Y0 (V s i hi D h) (by omega))
 rintro D c pre W hD ao ⟨rfl,s,z,p⟩ hd
 exact wpIn_ret (av D pre s W ao z (p.addI hd (ay aa hD) λi hi h=>Y0 (V s i hi D h) (by omega)))
end
end
end Go.Lith
