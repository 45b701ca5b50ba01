/-
 Texts of one claim, laid together: Tail, K18, Nest, Nest2, K19, K20, K21, Mono, K24, K30, K31, K36, K37, K38, K85, K39, K40, Seq, K26, K25, Trav, K27, K28, K86, K41, K42, K43, K44, K45, K46, K47, K48.
-/
import Derived.RunT
import Derived.Test.YtfekpcimgncioaaGreatDoorCF4
open Nat renaming reduceAdd->aa,reduceMul->ag,zero_add->ai,le_refl->ar,le_trans->be,zero_le->bn,lt_or_ge->eh,lt_succ_self->fx,not_lt_zero->jm,le_succ->qo
open Int renaming reduceToNat->ad,toNat_natCast->ah,reduceAdd->an,toNat->kj
open Go renaming Value->aj,World->ak,wp_region_lit->av,wpList->az,TypeId->ba,Program->bt,MapEntry->cu,wpQuiet->cw,Deferred->ej
open List renaming getElem?_eq_getElem->am,getElem?_eq_some_iff->ao,mem_cons->ap,length_append->aq,take_of_length_le->au,flatMap_append->aw,length_cons->ay,mem_singleton->a_,mem_of_getElem?->bf,mem_append->bh,map_cons->bi,length_take->bj,length_nil->bm,mem_cons_of_mem->bp,mem_cons_self->br,pairwise_cons->bv,nil_append->bz,not_mem_nil->cd,length_map->cj,append_assoc->cn,cons_append->cq,mem_filter->ct,map_append->de,mem_iff_getElem?->df,map_nil->dh,mem_map->dj,getElem?_take->d_,toList_toArray->ee,any_eq_true->et,append_nil->fb,all_eq_true->fe,mem_flatMap->ff,getElem?_map->fi,mem_map_of_mem->fl,take_length->fq,length_filter_le->fw,any_eq_false->gi,drop_of_length_le->gq,map_toArray->gt,mem_append_right->gu,nodup_cons->g_,size_toArray->ib,mem_append_left->il,map_congr_left->io,foldl_append->ir,mem_zipIdx_iff_getElem?->iz,append_toArray->jd,push_toArray->jr,nodup_nil->kh,nodup_append->ky,map_eq_append_iff->mo,map_eq_cons_iff->nw,getElem_inj->ob,getElem?_zip_eq_some->oc,perm_cons->pa
open Bool renaming and_eq_true->bg,false_ne_true->fg,or_eq_true->fh,not_eq_true'->fp,eq_iff_iff->fy,or_eq_false_iff->iu,and_false->jk,false_and->ju,true_and->j_,and_true->lf,and_self->mz,not_not->pb
open Go.Oper renaming mk->bu
open Go.Value renaming bool->bw
open Go.Exit renaming inBlock->dq
open Option renaming getD_some->dx,isSome_iff_exists->ep,map_some->gh
open Array renaming getElem?_eq_some_iff->el,replicate->gv,replicate_succ->iv,replicate_zero->iw,getElem?_setIfInBounds_ne->jh,eraseIdxIfInBounds->lu,toList_push->ox
open Option.some renaming inj->fc,injEq->ik
open Prod.mk renaming injEq->gl
open List.Pairwise renaming nil->la
open List.Perm renaming append_left->nc,refl->oy
set_option maxHeartbeats 8000000
set_option linter.unusedSimpArgs false
set_option linter.defProp false
set_option linter.unusedVariables false
set_option linter.unusedSectionVars false
open And renaming intro->I0
open Bool renaming true->Z,false->X3
open Option renaming some->X4,none->X5
namespace Go.Lith
open Go.RowKit
section
variable {P:bt} {ops:Array Oper} {Q:Exit->Act->ak->Prop} {md:Region.Mode} {S:ak->Prop} {tl:List Nat}
def Ic(P:bt)(md:Region.Mode)(ops:Array Oper)(Q:Exit->Act->ak->Prop)(S:ak->Prop)(tl:List Nat):Nat->Array Bool->Act->ak->Prop
 | 0,b,a,w=>Region.ready md ops b=[]/\Q .normal a w
 | fuel+1,b,a,w =>
  (Region.ready md ops b=[]->Q .normal a w) /\
  ∀i∈Region.ready md ops b,wpOp P ops Q i (λc w'=>(i∉tl->S w->S w')/\Ic P md ops Q S tl fuel (b.setIfInBounds i Z) c w') a w
def Uu:∀(fuel:Nat) (b:Array Bool) (a:Act) (w:ak),Ic P md ops Q S tl fuel b a w->wpAny P md ops Q fuel b a w
 | 0,_,_,_,h=>h
 | fuel+1,_,_,_,h=>⟨h.1,λi e=>wpOp_mono (λc w' d=>Uu fuel _ c w' d.2) (h.2 i e)⟩
def afi(md:Region.Mode)(ops:Array Oper)(b:Array Bool):Prop:=∀j a,ops[j]? = X4 a->b.getD j X3=Z->∀e∈a.after,Region.binds md e=Z->b.getD e.on X3=Z
def Uv(md:Region.Mode)(ops:Array Oper):Nat->Nat->Nat->Bool
 | 0,_,_=>X3
 | f+1,j,i=>match ops[j]? with
  | none=>X3
  | some o=>o.after.any λe=>Region.binds md e&&(e.on == i||Uv md ops f e.on i)
def Le{c:Array Bool}(D:afi md ops c){i:Nat}:∀(f j:Nat),(∀a,ops[j]? = X4 a->∀e∈a.after,Region.binds md e=Z->c.getD e.on X3=Z)->Uv md ops f j i=Z->c.getD i X3=Z
 | 0,_,_,h=>by cases h
 | f+1,j,m,h=>by
  unfold Uv at h;split at h
  .cases h
  rename_i o p
  rw[Array.any_eq_true] at h;obtain⟨k,n,b⟩:=h;rw[bg,fh,beq_iff_eq] at b;have d:=m o p _ (Array.getElem_mem n) b.1;rcases b.2 with e | hn
  .rw[<-e];exact d
  exact Le D f _ (λa q e l g=>D _ a q d e l g) hn
def afi.set{b:Array Bool}(D:afi md ops b){i:Nat}(h:i∈Region.ready md ops b):afi md ops (b.setIfInBounds i Z):=λj l a g e f d=>by
 obtain⟨n,o,k,m⟩:=mem_ready.1 h;by_cases c:i=j
 . subst c
   rw[k] at a;cases a;exact getD_set_true (m e f d)
 rw[getD_set_ne X3 c] at g
 exact getD_set_true (D j l a g e f d)
def Lf{S':ak->Prop}{i:Nat}{l:Oper}{v:aj}(y:ops[i]? = X4 l)(J:∀(j:Nat) (o:Oper) cs b,ops[j]? = X4 o->o.op≠.select cs b)
 (M:∀c a w,Q (.panic c) (a.put l.dst v) w->Q (.panic c) a w) (r:(∀w,S' w)\/((∀w,S w->S' w)/\∀j∈tl,∃f,Uv md ops f j i=Z)) :
 ∀(p:Nat) (d:Array Bool) (a:Act) (w:ak),
  (∀j m,ops[j]? = X4 m->j≠i->d.getD j Z=X3->(∀e∈m.after,Region.binds md e=Z->e.on≠i)->l.apart ops m=Z) ->
  i∈Region.ready md ops d->afi md ops d->YieldsIf P ops S' l v a->(S w\/∀w,S' w) ->
  Ic P md ops Q S tl p (d.setIfInBounds i Z) (a.put l.dst v) w->Ic P md ops Q S tl (p+1) d a w:=by
 intro p;have A:∀w,(S w\/∀w,S' w)->S' w:=λw h=>by
  rcases h with h | h
  . rcases r with k | k
    .exact k w
    exact k.1 w h
  exact h w
 induction p with
 | zero =>
  intro d a w _ hr D s hS H;refine⟨λh=>(by rw[h] at hr;cases hr),λj n=>?_⟩;by_cases g:j=i
  .subst g;exact s.wpOp y (A w hS) ⟨λ_ h=>h,H⟩
  have:=ready_mono n g
  rw[H.1] at this;cases this
 | succ p ih =>
  intro d a w K hr D s hS H;refine⟨λh=>(by rw[h] at hr;cases hr),λj n=>?_⟩;by_cases g:j=i
  .subst g;exact s.wpOp y (A w hS) ⟨λ_ h=>h,H⟩
  have h1:=H.2 j (ready_mono n g)
  obtain⟨G,m,t,E⟩:=mem_ready.1 n;have F:d.getD i X3=Z->False:=λh1=>by
   have z:=(mem_ready.1 hr).1;rcases eh i d.size with h' | h'
   .simp[h'] at z h1;rw[z] at h1;cases h1
   simp[Array.getElem?_eq_none h'] at h1
  have V:∀e∈m.after,Region.binds md e=Z->e.on≠i:=λe x u R=>F (R▸E e x u);have h2:=wpOp_putIf t (K j m t g G V) (λcs b=>J i l cs b y) (λcs b=>J j m cs b t) M s h1;have X:∀k ok,ops[k]? = X4 ok->k≠i->(d.setIfInBounds j Z).getD k Z=X3 ->
   (∀e∈ok.after,Region.binds md e=Z->e.on≠i)->l.apart ops ok=Z:=λk ok r T C U=>by
   refine K k ok r T ?_ U;by_cases B:j=k
   .subst B;exact G
   rw[getD_set_ne Z B] at C;exact C
  have W:∀w',(j∉tl->S w->S w')->(S w'\/∀w,S' w):=λw' h=>by
   rcases r with k | k
   .exact .inr k
   rcases hS with hS | hS
   . refine .inl (h (λO=>?_) hS)
     obtain⟨f,N⟩:=k.2 j O;exact F (Le D f j (λY I e x u=>by rw[t] at I;cases I;exact E e x u) N)
   exact .inr hS
  refine wpOp_mono (λL w' q=>⟨q.2.1,ih (d.setIfInBounds j Z) L w' X (ready_mono hr (Ne.symm g)) (D.set n) q.1 (W w' q.2.1) ?_⟩) h2;rw[Array.setIfInBounds_comm _ _ g];exact q.2.2
def Uw{rs:List Nat}{c:Nat}{b:Array Bool}{a:Act}{w:ak}(hr:Region.ready md ops b=rs)(f:rs≠[])
 (h:∀i∈rs,wpOp P ops Q i (λd w'=>(i∉tl->S w->S w')/\Ic P md ops Q S tl c (b.setIfInBounds i Z) d w') a w):Ic P md ops Q S tl (c+1) b a w :=
 ⟨λe=>Z8 (hr▸e) f,hr▸h⟩
inductive xO where
 | nil:xO
 | take:Nat->xO->xO
 | move:Nat->xO->xO
 | one:Nat->xO->xO
 | two:Nat->xO->Nat->xO->xO
def xO.ok(md:Region.Mode)(ops:Array Oper)(tl:List Nat):xO->Nat->Array Bool->Bool->Bool
 | .nil,f,a,_=>f == 0&&(Region.ready md ops a).isEmpty
 | .take i t,f,a,b=>decide (0<f)&&(ops[i]?).isSome&&Region.free md ops a i&&(Region.ready md ops a).contains i&&b&&tl.all (λj=>Uv md ops 6 j i)&&t.ok md ops tl (f-1) (a.setIfInBounds i Z) b
 | .move i t,f,a,b=>decide (0<f)&&(ops[i]?).isSome&&Region.free md ops a i&&(Region.ready md ops a).contains i&&t.ok md ops tl (f-1) (a.setIfInBounds i Z) b
 | .one i t,f,a,b=>decide (0<f)&&(ops[i]?).isSome&&decide (Region.ready md ops a=[i])&&t.ok md ops tl (f-1) (a.setIfInBounds i Z) (b && !tl.contains i)
 | .two i t j u,f,a,b=>decide (0<f)&&(ops[i]?).isSome&&(ops[j]?).isSome&&decide (Region.ready md ops a=[i,j])&&t.ok md ops tl (f-1) (a.setIfInBounds i Z) (b && !tl.contains i)&&u.ok md ops tl (f-1) (a.setIfInBounds j Z) (b && !tl.contains j)
def iH(P:bt)(ops:Array Oper)(S:ak->Prop)(tl:List Nat)(Q:Exit->Act->ak->Prop):xO->Act->ak->Prop
 | .nil,a,w=>Q .normal a w
 | .take i t,a,w=>bX P ops S (λ_ a w=>iH P ops S tl Q t a w) [((ops[i]?).getD default,Z)] a w
 | .move i t,a,w=>bX P ops (λ_=>True) (λ_ a w=>iH P ops S tl Q t a w) [((ops[i]?).getD default,Z)] a w
 | .one i t,a,w=>az P ops (Exit.then (λa w=>(i∉tl->S w)/\iH P ops S tl Q t a w) Q) [(ops[i]?).getD default] a w
 | .two i t j u,a,w=>az P ops (Exit.then (λa w=>(i∉tl->S w)/\iH P ops S tl Q t a w) Q) [(ops[i]?).getD default] a w/\az P ops (Exit.then (λa w=>(j∉tl->S w)/\iH P ops S tl Q u a w) Q) [(ops[j]?).getD default] a w
def lE{Q:Exit->Act->ak->Prop}(hs:Region.noSelect ops=Z)(r:∀c d v a w,Q (.panic c) (Act.put a d v) w->Q (.panic c) a w):∀(t:xO) (f:Nat) (m:Array Bool) (b:Bool) (a:Act) (w:ak),
 t.ok md ops tl f m b=Z->afi md ops m->(b=Z->S w)->iH P ops S tl Q t a w->Ic P md ops Q S tl f m a w
 | .nil,f,m,b,a,w,e,_,_,h=>by
  simp only[xO.ok,bg,beq_iff_eq] at e;obtain⟨rfl,h2⟩:=e;exact⟨by simpa using h2,h⟩
 | .take i t,f,m,b,a,w,e,D,x,h=>by
  simp only[xO.ok,bg,R] at e;obtain⟨⟨⟨⟨⟨⟨A,h1⟩,h2⟩,B⟩,n⟩,s⟩,q⟩:=e;obtain⟨o,l⟩:=ep.1 h1;simp only[iH,bX,l,dx] at h;obtain⟨v,E,hr⟩:=h;obtain⟨f,rfl⟩:∃g,f=g+1:=⟨f-1,by omega⟩
  have z:i∈Region.ready md ops m:=by simpa using B
  refine Lf (S':=S) l (Region.noSelect_spec hs) (λc a w=>r c _ v a w) (.inr ⟨λ_ h=>h,λj C=>⟨6,fe.1 s j C⟩⟩) f m a w (Region.free_spec l h2) z D E (.inl (x n)) ?_;exact lE hs r t f _ b _ _ q (D.set z) x hr
 | .move i t,f,m,b,a,w,e,D,x,h=>by
  simp only[xO.ok,bg,R] at e;obtain⟨⟨⟨⟨A,h1⟩,h2⟩,B⟩,q⟩:=e;obtain⟨o,l⟩:=ep.1 h1;simp only[iH,bX,l,dx] at h;obtain⟨v,E,hr⟩:=h;obtain⟨f,rfl⟩:∃g,f=g+1:=⟨f-1,by omega⟩
  have z:i∈Region.ready md ops m:=by simpa using B
  refine Lf (S':=λ_=>True) l (Region.noSelect_spec hs) (λc a w=>r c _ v a w) (.inl λ_=>trivial) f m a w (Region.free_spec l h2) z D E (.inr λ_=>trivial) ?_;exact lE hs r t f _ b _ _ q (D.set z) x hr
 | .one i t,f,m,b,a,w,e,D,x,h=>by
  simp only[xO.ok,bg,R] at e;obtain⟨⟨⟨A,h1⟩,h2⟩,q⟩:=e;obtain⟨o,l⟩:=ep.1 h1;obtain⟨f,rfl⟩:∃g,f=g+1:=⟨f-1,by omega⟩
  refine Uw h2 (by simp) λj C=>?_;obtain rfl:j=i:=by simpa using C
  simp only[iH,l,dx] at h;refine wpOp_mono (λy w' p=>⟨λs _=>p.1 s,lE hs r t f _ _ y w' q (D.set (by rw[h2];exact a_.2 O)) (λn=>p.1 ?_) p.2⟩) (jF l h);simp only[bg,fp,List.contains_eq_mem,Y1] at n;exact n.2
 | .two i t j u,f,m,b,a,w,e,D,x,h=>by
  simp only[xO.ok,bg,R] at e;obtain⟨⟨⟨⟨⟨A,h1⟩,J⟩,h2⟩,q⟩,H⟩:=e;obtain⟨o,l⟩:=ep.1 h1;obtain⟨o',G⟩:=ep.1 J;obtain⟨f,rfl⟩:∃g,f=g+1:=⟨f-1,by omega⟩
  simp only[iH,l,G,dx] at h;have F:∀{k:Nat},(b && !tl.contains k)=Z->k∉tl:=λ{k} n=>by
   simp only[bg,fp,List.contains_eq_mem,Y1] at n;exact n.2
  refine Uw h2 (by simp) λk I=>?_;have K:k=i\/k=j:=by simpa using I
  rcases K with rfl | rfl
  .exact wpOp_mono (λy w' p=>⟨λs _=>p.1 s,lE hs r t f _ _ y w' q (D.set (by rw[h2];simp)) (λn=>p.1 (F n)) p.2⟩) (jF l h.1)
  exact wpOp_mono (λy w' p=>⟨λs _=>p.1 s,lE hs r u f _ _ y w' H (D.set (by rw[h2];simp)) (λn=>p.1 (F n)) p.2⟩) (jF G h.2)
def asX(md:Region.Mode)(ops:Array Oper)(n:Nat):afi md ops (gv n X3):=λj b _ a=>by
 rcases eh j n with h | h
 .simp[h] at a
 simp[Nat.not_lt.2 h] at a
variable {w w0:ak} {is:List It} {a:Act} {ds:List ej} {l:List aj}
def al8{id:Nat}{ol:List Oper}(m:Mem w0 w is)(bs:List Bool)(tl:List Nat)(t:xO)(g:P.follows .mixedOrders=Z)(b:(Region.noSelect ol.toArray&&t.ok .any ol.toArray tl ol.toArray.size (gv ol.toArray.size X3) Z)=Z)
 (f:∀c d v a w,Q (.panic c) (Act.put a d v) w->Q (.panic c) a w)
 (h:∀u,Mem w0 u is->iH P ol.toArray (λu=>Mem w0 u (qG bs is)) tl Q t a u):(Code.region id ol.toArray Z).wp P Q a w:=by
 simp only[bg] at b;have e:=m.ext' (fJ.refl w).drawn;exact wp_region_any g (Uu _ _ _ _ (lE (S:=λu=>Mem w0 u (qG bs is)) b.1 f t _ _ Z _ _ b.2 (asX _ _ _) (λ_=>e.sel bs) (h _ e)))
variable {o o':Oper} {i j:Nat} {t u:xO}
def ac2(h:Q .normal a w):iH P ops S tl Q .nil a w:=h
def eW(b:(ops[i]?).getD default=o)(h:bX P ops S (λ_ a w=>iH P ops S tl Q t a w) [(o,Z)] a w):iH P ops S tl Q (.take i t) a w:=by subst b;exact h
def Ie(b:(ops[i]?).getD default=o)(h:bX P ops (λ_=>True) (λ_ a w=>iH P ops S tl Q t a w) [(o,Z)] a w):iH P ops S tl Q (.move i t) a w:=by subst b;exact h
def qZ(b:(ops[i]?).getD default=o)(h:az P ops (Exit.then (λa w=>(i∉tl->S w)/\iH P ops S tl Q t a w) Q) [o] a w):iH P ops S tl Q (.one i t) a w:=by subst b;exact h
def aqh(c:(ops[i]?).getD default=o)(d:(ops[j]?).getD default=o')(h:az P ops (Exit.then (λa w=>(i∉tl->S w)/\iH P ops S tl Q t a w) Q) [o] a w)(b:az P ops (Exit.then (λa w=>(j∉tl->S w)/\iH P ops S tl Q u a w) Q) [o'] a w):iH P ops S tl Q (.two i t j u) a w:=by
 subst c;subst d;exact⟨h,b⟩
end
end Go.Lith
namespace Go.Proofs.YtfekpcimgncioaaGreatDoor
open Go.Proofs.Tryz
open Go.RowKit Go.Lith
set_option maxRecDepth 100000
attribute [local irreducible] az cw fW bX cP Code.wp
attribute [local congr] dK dL cR dJ
variable{u:H}{ts:List T3}{k:Nat}{t:T3}
def auQ{v:H}(h:ts[k]? = X4 t)(e:gX u v t=t):mT u v (ts.take (k+1))=mT u v (ts.take k)++[t]/\lB u v (ts.take (k+1))=lB u v (ts.take k):=by
 rw[bV h];unfold mT lB;simp[e]
def al9{v:H}(h:ts[k]? = X4 t)(e:¬gX u v t=t)(a:(gX u v t).nd=Z):lB u v (ts.take (k+1))=lB u v (ts.take k)++[t]/\mT u v (ts.take (k+1))=mT u v (ts.take k):=by
 rw[bV h];unfold mT lB;simp[e,a]
def auR{v:H}(h:ts[k]? = X4 t)(e:¬gX u v t=t)(a:(gX u v t).nd=X3):lB u v (ts.take (k+1))=lB u v (ts.take k)/\mT u v (ts.take (k+1))=mT u v (ts.take k):=by
 rw[bV h];unfold mT lB;simp[e,a]
def agO{v:H}{l m:List T3}(h:lB u v l=lB u v m):iS u v l=iS u v m:=by unfold iS;rw[h]
def afj{v:H}(h:lB u v (ts.take (k+1))=lB u v (ts.take k)++[t]):iS u v (ts.take (k+1))=iS u v (ts.take k)++[gX u v t]:=by unfold iS;rw[h,de];rfl
def ama(u v:H)(l:List T3):(mT u v l).length<=l.length:=fw ..
def afk(u v:H)(l:List T3):(lB u v l).length<=l.length:=fw ..
def abm(u v:H)(l:List T3):(iS u v l).length=(lB u v l).length:=cj ..
def amb{s:T3}:(s.a.x=t.a.x/\s.a.y=t.a.y/\s.a.z=t.a.z/\s.b.x=t.b.x/\s.b.y=t.b.y/\s.b.z=t.b.z/\s.c.x=t.c.x/\s.c.y=t.c.y/\s.c.z=t.c.z)↔s=t :=
 ⟨λ⟨h1,h2,d,e,f,g,i,j,k⟩=>Di (H.eq h1 h2 d) (H.eq e f g) (H.eq i j k),λh=>by rw[h];simp only[X1]⟩
def asY{g90 ga gf N cap ca:Nat}{A:Option Addr}{ea:Array cu}{D:List (H × Hd)}{p q:H}[I3 p][I3 q](w:ak)(V:fQ w g90 [.slice A N cap,.map (X4 ga),.map (X4 gf)] 109)(ae:iR w ga ea ca)(ad:bY pt Hd.v D ea ca)(P:∀p,bW w (pO D p).A (pO D p).n (ts.filter λt=>t.has p)/\(pO D p).n<=(pO D p).cap)(hT:bW w A N ts)(hN:ts.length<=10000000):cY prog 99 [.pointer (X4 ⟨g90,0,X5⟩),pt p,pt q] w (λv w'=>∃ab gx ex cx gy ey cy X S cm Y no co Ar T cr,v=.pointer (X4 ⟨ab,0,X5⟩)/\Mem w w' [bI ab [.pointer (X4 ⟨g90,0,X5⟩),X6 p.x,X6 p.y,X6 p.z,X6 q.x,X6 q.y,X6 q.z,.map (X4 gx),.map (X4 gy),.slice X S cm,.slice Y no co,.slice Ar T cr] 218,oI 39 9 Ar T cr ((mT p q ts).flatMap aL),oI 39 9 Y no co ((lB p q ts).flatMap aL),oI 39 9 X S cm ((iS p q ts).flatMap aL),mI gy ey cy,mI gx ex cx]/\bY pt bw (gA [] (nR ts p)) ex cx/\bY pt bw (gA [] (nR ts q)) ey cy/\S=(iS p q ts).length/\no=(lB p q ts).length/\T=(mT p q ts).length):=by
 refine⟨bJ func99 (by kernel_rfl),?_⟩;have m:=Mem.refl w;have ar:=hT.len
 go_enter func99,ntmps99
 apply gH 7 [0] m;simp only[↓U];intro g1 g2 u m;refine mh m [Z,Z] [(0,Z),(3,Z),(6,Z),(1,Z),(2,Z),(4,Z),(7,Z),(5,X3),(8,X3),(9,Z),(10,X3),(11,Z)] aB (by kernel_rfl) (bS (λ_ _ _ _ _ h=>h)) (ol:=?_) ?am ?_
 case am=>simp only[zw,zQ,zR];try rfl
 intro u m;refine Fq 7 [2,1,2,1] ?_;simp only[↓U,aP];refine bO (bF O O (abc (p:=p) _ (V.ext m.ext) (ae.ext m.ext) ad (λz=>⟨((P z).1).ext m.ext,(P z).2⟩) hN) ?_);rintro v u f ⟨qx,af,cx,rfl,F,aj⟩;replace m:=m.plus F;clear F;simp only[cq,bz] at m;refine aI ⟨m.sel [X3,Z,Z],?_⟩;refine bO ?_;simp only[G];refine bF O O (abc (p:=q) _ (V.ext m.ext) (ae.ext m.ext) ad (λz=>⟨((P z).1).ext m.ext,(P z).2⟩) hN) ?_;rintro v u f ⟨qy,ag,cy,rfl,F,al⟩;replace m:=m.plus F;clear F;simp only[cq,bz] at m;refine aI ⟨m.sel [X3,X3,Z,Z],?_⟩;refine bG (Cd O O O O O) (bO ?_);simp only[G];refine Xf m O ?_;intro g3 u m;refine aI ⟨m.sel [X3,X3,X3,Z,Z],?_⟩;refine bG aM (bR ?_);simp only[G];replace m:=m.nilO 39 9;replace m:=m.nilO 39 9;replace m:=m.nilO 39 9;replace m:=m.pull 3 O;simp only[dZ,eA,zF,zG] at m;apply aT 6 [0] m;simp only[↓U,akB,aa];refine bE O ((V.ext m.ext).lies1 tG O) ?_;simp only[G];apply aH 4 [0] m;simp only[↓U,gM];refine bT [28] [9,10,11,29,30,31,32,33,34,35,36,37,38,39,40,41,42,43,44,45,46,47,48,49,50,51,52,53,54,55,56,57,58,59,60,61,62,63,64,65,66,67,68,69,70,71,72,73,74,75] (λn vs wl=>∃(k:Nat) (r s M:Option Addr) (B C R:Nat),vs=[X6 (k:Int)]/\Mem w wl [bI g3 [.pointer (X4 ⟨g90,0,X5⟩),X6 p.x,X6 p.y,X6 p.z,X6 q.x,X6 q.y,X6 q.z,.map (X4 qx),.map (X4 qy),.slice r (iS p q (ts.take k)).length B,.slice s (lB p q (ts.take k)).length C,.slice M (mT p q (ts.take k)).length R] 218,oI 39 9 M (mT p q (ts.take k)).length R ((mT p q (ts.take k)).flatMap aL),oI 39 9 s (lB p q (ts.take k)).length C ((lB p q (ts.take k)).flatMap aL),oI 39 9 r (iS p q (ts.take k)).length B ((iS p q (ts.take k)).flatMap aL),mI qy ag cy,mI qx af cx,bI g2 [X6 q.x,X6 q.y,X6 q.z] 30,bI g1 [X6 p.x,X6 p.y,X6 p.z] 30]/\(k<=N)/\(n=N-k)) ?_ ?_
 .exact⟨_,0,_,_,_,_,_,_,O,m,bn _,O⟩
 intro n vs wr hI u K1 J
 obtain⟨k,r,s,M,B,C,R,rfl,m,hk,hn⟩:=hI;simp only[zu,zF,zG];apply L 5 [0,0] m;simp only[↓U];refine bC O ?_ ?_<;>intro ao
 .obtain⟨t,I,ap,a,hA,an⟩:=hT.get (i:=k) (by omega);subst hA;have W:=ama p q (ts.take k);have o:=afk p q (ts.take k);have E:=abm p q (ts.take k);rw[bj] at W o;apply xI 13 [0,1,0,1] m;simp only[↓U,fR,lL,dM,ah,ai,aa];refine⟨_,λu m=>((an.ext m.ext).lies cD aW),λg4=>⟨by omega,?_⟩⟩;intro u m;apply aT 2 [9,8,0] m;simp only[↓U,aP];refine lD m O O (ago (t:=t) (p:=p) (q:=q)) 13 [0,1,2] ?_;simp only[↓U,lL,dM,aa];refine λg5=>⟨_,akW,?_⟩
  intro u m;apply aT 2 [0] m;simp only[↓U];refine bC O ?_ ?_<;>intro K
  .refine al8 m [Z,Z,Z,X3,Z,Z,Z,Z,Z,Z] [10] (.take 0 (.take 1 (.take 2 (.take 3 (.take 4 (.take 5 (.one 6 (.one 7 (.take 8 (.take 9 (.one 10 .nil))))))))))) aB (by kernel_rfl) (bS (λ_ _ _ _ _ h=>h)) ?_;intro u m;refine eW (by simp only[zw];rfl) (bG aJ (bR (eW (by simp only[zw];rfl) (bG aJ (bR (eW (by simp only[zw];rfl) (bG (dT rfl) (bR (eW (by simp only[zw];rfl) (bG (aU (c:=0) nY rfl gL rfl rfl) ?_))))))))));simp only[G];refine bR (eW (by simp only[zw];rfl) (gW rfl (λu m=>((m.b 2 rfl).lies1 tG rfl)) ?_));simp only[G];refine bR (eW (by simp only[zw];rfl) (gW rfl (λu m=>((m.b 1 rfl).full cD aW)) ?_));simp only[G];refine bR (qZ (by simp only[zw];rfl) ?_);refine fE O ?_;intro u g6 f j l;replace m:=m.newB f j l;refine aI ⟨λ_=>m.sel [X3,Z,Z,Z,X3,Z,Z,Z,Z,Z,Z],?_⟩;refine qZ (by simp only[zw];rfl) ?_;simp only[G];refine bN m 4 O O fC iO O (by decide) O O O (m.b 0 O).rowsO (fN O) (by have:=W;omega) (by have:=W;omega) ?_;intro M R u m;simp only[zF,zG] at m;refine aI ⟨λ_=>m.sel [X3,Z,Z,Z,X3,Z,Z,Z,Z,Z,Z],?_⟩;refine eW (by simp only[zw];rfl) (bG (dT rfl) (bR (eW (by simp only[zw];rfl) (bG (aU (c:=0) nY rfl gL rfl rfl) (bR (qZ (by simp only[zw];rfl) ?_))))));simp only[G];refine dD (off:=11) m 3 O O O gL (gS O) ⟨O,O⟩ ?_;intro u m;simp only[G,zy,zx,over,aa] at m;refine aI ⟨λh=>Z8 (by decide) h,?_⟩;refine ac2 ?_;apply aT 6 [0] m;simp only[↓U];apply I0;omega;have d:=auQ (u:=p) (v:=q) I (amb.1 K);have g:=agO d.2;rw[show ((mT p q (ts.take k))).flatMap aL++_=(mT p q (ts.take (k+1))).flatMap aL by rw[d.1,aw];rfl,show ((mT p q (ts.take k))).length+1=(mT p q (ts.take (k+1))).length by rw[d.1,aq];rfl] at m;rw[<-d.2,<-g] at m;exact J (N-(k+1)) _ _ (by omega) (by kernel_rfl) ⟨k+1,_,_,_,_,_,_,O,(m.sel [X3,X3,X3,Z,Z,Z,Z,Z,Z,Z,Z]),by omega,O⟩
  apply L 5 [0] m;simp only[↓U];refine cL O ?_ ?_<;>intro Q
  .refine al8 m [Z,Z,Z,Z,X3,X3,Z,Z,Z,Z] [18,21] (.take 0 (.move 1 (.take 2 (.take 3 (.take 4 (.take 5 (.take 6 (.take 9 (.take 10 (.take 11 (.take 12 (.take 13 (.two 7 (.two 8 (.one 14 (.one 15 (.take 16 (.take 17 (.one 18 (.move 19 (.move 20 (.one 21 .nil)))))))) 14 (.one 8 (.one 15 (.take 16 (.take 17 (.one 18 (.move 19 (.move 20 (.one 21 .nil))))))))) 14 (.one 7 (.one 8 (.one 15 (.take 16 (.take 17 (.one 18 (.move 19 (.move 20 (.one 21 .nil)))))))))))))))))))))) aB (by kernel_rfl) (bS (λ_ _ _ _ _ h=>h)) ?_;intro u m;refine eW (by simp only[zw];rfl) (bG aJ (bR (Ie (by simp only[zw];rfl) (bG aJ (bR (eW (by simp only[zw];rfl) (bG aJ (bR (eW (by simp only[zw];rfl) (bG (dT rfl) ?_))))))))));simp only[G];refine bR (eW (by simp only[zw];rfl) (bG (aU (c:=0) nY rfl gL rfl rfl) (bR (eW (by simp only[zw];rfl) ?_))));simp only[G];refine gW O (λu m=>((m.b 2 O).lies1 tG O)) ?_;simp only[G];refine bR (eW (by simp only[zw];rfl) (gW rfl (λu m=>((m.b 0 rfl).full cD aW)) ?_));simp only[G];refine bR (eW (by simp only[zw];rfl) (bG aJ (bR (eW (by simp only[zw];rfl) (bG (dT rfl) (bR (eW (by simp only[zw];rfl) (bG (aU (c:=0) nY rfl gL rfl rfl) (bR (eW (by simp only[zw];rfl) ?_))))))))));simp only[G];refine gW O (λu m=>((m.b 2 O).lies1 tG O)) ?_;simp only[G];refine bR (eW (by simp only[zw];rfl) (gW rfl (λu m=>((m.b 1 rfl).full cD aW)) ?_));simp only[G];refine bR ?_;refine aqh (by simp only[zw];rfl) (by simp only[zw];rfl) ?_ ?_
   .refine fE O ?_;intro u g6 f j l;replace m:=m.newB f j l;refine aI ⟨λ_=>m.sel [X3,Z,Z,Z,Z,X3,X3,Z,Z,Z,Z],?_⟩;simp only[G];refine aqh (by simp only[zw];rfl) (by simp only[zw];rfl) ?_ ?_
    .refine bN m 6 O O fC iO O (by decide) O O O (m.b 0 O).rowsO (fN O) (by have:=E;omega) (by have:=E;omega) ?_;intro r B u m;simp only[zF,zG] at m;refine aI ⟨λ_=>m.sel [X3,Z,Z,Z,Z,X3,X3,Z,Z,Z,Z],?_⟩;refine qZ (by simp only[zw];rfl) ?_;simp only[G];refine fE O ?_;intro u g7 f j l;replace m:=m.newB f j l;refine aI ⟨λ_=>m.sel [X3,X3,Z,Z,Z,Z,X3,X3,Z,Z,Z,Z],?_⟩;refine qZ (by simp only[zw];rfl) ?_;simp only[G];refine bN m 6 O O fC iO O (by decide) O O O (m.b 0 O).rowsO (fN O) (by have:=o;omega) (by have:=o;omega) ?_;intro s C u m;simp only[zF,zG] at m;refine aI ⟨λ_=>m.sel [X3,X3,Z,Z,Z,Z,X3,X3,Z,Z,Z,Z],?_⟩;refine eW (by simp only[zw];rfl) (bG (dT rfl) (bR (eW (by simp only[zw];rfl) (bG (aU (c:=0) nY rfl gL rfl rfl) (bR (qZ (by simp only[zw];rfl) ?_))))));simp only[G];refine dD (off:=9) m 4 O O O gL (gS O) ⟨O,O⟩ ?_;intro u m;simp only[G,zy,zx,over,aa] at m;refine aI ⟨λh=>Z8 (by decide) h,?_⟩;refine Ie (by simp only[zw];rfl) (bG (dT rfl) (bR (Ie (by simp only[zw];rfl) (bG (aU (c:=0) nY rfl gL rfl rfl) (bR (qZ (by simp only[zw];rfl) ?_))))));simp only[G];refine dD (off:=10) m 4 O O O gL (gS O) ⟨O,O⟩ ?_;intro u m;simp only[G,zy,zx,over,aa] at m;refine aI ⟨λh=>Z8 (by decide) h,?_⟩;refine ac2 ?_;apply aT 6 [0] m;simp only[↓U];apply I0;omega;have d:=al9 (u:=p) (v:=q) I (λe=>K (amb.2 e)) Q;have g:=afj d.1;rw[show ((lB p q (ts.take k))).flatMap aL++_=(lB p q (ts.take (k+1))).flatMap aL by rw[d.1,aw];rfl,show ((lB p q (ts.take k))).length+1=(lB p q (ts.take (k+1))).length by rw[d.1,aq];rfl] at m;rw[show ((iS p q (ts.take k))).flatMap aL++_=(iS p q (ts.take (k+1))).flatMap aL by rw[g,aw];rfl,show ((iS p q (ts.take k))).length+1=(iS p q (ts.take (k+1))).length by rw[g,aq];rfl] at m;rw[<-d.2] at m;exact J (N-(k+1)) _ _ (by omega) (by kernel_rfl) ⟨k+1,_,_,_,_,_,_,O,(m.sel [X3,X3,X3,X3,Z,Z,Z,Z,Z,Z,Z,Z]),by omega,O⟩
    refine fE O ?_;intro u g7 f j l;replace m:=m.newB f j l;refine aI ⟨λ_=>m.sel [X3,X3,Z,Z,Z,Z,X3,X3,Z,Z,Z,Z],?_⟩;refine qZ (by simp only[zw];rfl) ?_;simp only[G];refine bN m 7 O O fC iO O (by decide) O O O (m.b 1 O).rowsO (fN O) (by have:=E;omega) (by have:=E;omega) ?_;intro r B u m;simp only[zF,zG] at m;refine aI ⟨λ_=>m.sel [X3,X3,Z,Z,Z,Z,X3,X3,Z,Z,Z,Z],?_⟩;refine qZ (by simp only[zw];rfl) ?_;simp only[G];refine bN m 6 O O fC iO O (by decide) O O O (m.b 0 O).rowsO (fN O) (by have:=o;omega) (by have:=o;omega) ?_;intro s C u m;simp only[zF,zG] at m;refine aI ⟨λ_=>m.sel [X3,X3,Z,Z,Z,Z,X3,X3,Z,Z,Z,Z],?_⟩;refine eW (by simp only[zw];rfl) (bG (dT rfl) (bR (eW (by simp only[zw];rfl) (bG (aU (c:=0) nY rfl gL rfl rfl) (bR (qZ (by simp only[zw];rfl) ?_))))));simp only[G];refine dD (off:=9) m 4 O O O gL (gS O) ⟨O,O⟩ ?_;intro u m;simp only[G,zy,zx,over,aa] at m;refine aI ⟨λh=>Z8 (by decide) h,?_⟩;refine Ie (by simp only[zw];rfl) (bG (dT rfl) (bR (Ie (by simp only[zw];rfl) (bG (aU (c:=0) nY rfl gL rfl rfl) (bR (qZ (by simp only[zw];rfl) ?_))))));simp only[G];refine dD (off:=10) m 4 O O O gL (gS O) ⟨O,O⟩ ?_;intro u m;simp only[G,zy,zx,over,aa] at m;refine aI ⟨λh=>Z8 (by decide) h,?_⟩;refine ac2 ?_;apply aT 6 [0] m;simp only[↓U];apply I0;omega;have d:=al9 (u:=p) (v:=q) I (λe=>K (amb.2 e)) Q;have g:=afj d.1;rw[show ((lB p q (ts.take k))).flatMap aL++_=(lB p q (ts.take (k+1))).flatMap aL by rw[d.1,aw];rfl,show ((lB p q (ts.take k))).length+1=(lB p q (ts.take (k+1))).length by rw[d.1,aq];rfl] at m;rw[show ((iS p q (ts.take k))).flatMap aL++_=(iS p q (ts.take (k+1))).flatMap aL by rw[g,aw];rfl,show ((iS p q (ts.take k))).length+1=(iS p q (ts.take (k+1))).length by rw[g,aq];rfl] at m;rw[<-d.2] at m;exact J (N-(k+1)) _ _ (by omega) (by kernel_rfl) ⟨k+1,_,_,_,_,_,_,O,(m.sel [X3,X3,X3,X3,Z,Z,Z,Z,Z,Z,Z,Z]),by omega,O⟩
   refine fE O ?_;intro u g6 f j l;replace m:=m.newB f j l;refine aI ⟨λ_=>m.sel [X3,Z,Z,Z,Z,X3,X3,Z,Z,Z,Z],?_⟩;refine qZ (by simp only[zw];rfl) ?_;simp only[G];refine fE O ?_;intro u g7 f j l;replace m:=m.newB f j l;refine aI ⟨λ_=>m.sel [X3,X3,Z,Z,Z,Z,X3,X3,Z,Z,Z,Z],?_⟩;refine qZ (by simp only[zw];rfl) ?_;simp only[G];refine bN m 7 O O fC iO O (by decide) O O O (m.b 0 O).rowsO (fN O) (by have:=E;omega) (by have:=E;omega) ?_;intro r B u m;simp only[zF,zG] at m;refine aI ⟨λ_=>m.sel [X3,X3,Z,Z,Z,Z,X3,X3,Z,Z,Z,Z],?_⟩;refine qZ (by simp only[zw];rfl) ?_;simp only[G];refine bN m 6 O O fC iO O (by decide) O O O (m.b 1 O).rowsO (fN O) (by have:=o;omega) (by have:=o;omega) ?_;intro s C u m;simp only[zF,zG] at m;refine aI ⟨λ_=>m.sel [X3,X3,Z,Z,Z,Z,X3,X3,Z,Z,Z,Z],?_⟩;refine eW (by simp only[zw];rfl) (bG (dT rfl) (bR (eW (by simp only[zw];rfl) (bG (aU (c:=0) nY rfl gL rfl rfl) (bR (qZ (by simp only[zw];rfl) ?_))))));simp only[G];refine dD (off:=9) m 4 O O O gL (gS O) ⟨O,O⟩ ?_;intro u m;simp only[G,zy,zx,over,aa] at m;refine aI ⟨λh=>Z8 (by decide) h,?_⟩;refine Ie (by simp only[zw];rfl) (bG (dT rfl) (bR (Ie (by simp only[zw];rfl) (bG (aU (c:=0) nY rfl gL rfl rfl) (bR (qZ (by simp only[zw];rfl) ?_))))));simp only[G];refine dD (off:=10) m 4 O O O gL (gS O) ⟨O,O⟩ ?_;intro u m;simp only[G,zy,zx,over,aa] at m;refine aI ⟨λh=>Z8 (by decide) h,?_⟩;refine ac2 ?_;apply aT 6 [0] m;simp only[↓U];apply I0;omega;have d:=al9 (u:=p) (v:=q) I (λe=>K (amb.2 e)) Q;have g:=afj d.1;rw[show ((lB p q (ts.take k))).flatMap aL++_=(lB p q (ts.take (k+1))).flatMap aL by rw[d.1,aw];rfl,show ((lB p q (ts.take k))).length+1=(lB p q (ts.take (k+1))).length by rw[d.1,aq];rfl] at m;rw[show ((iS p q (ts.take k))).flatMap aL++_=(iS p q (ts.take (k+1))).flatMap aL by rw[g,aw];rfl,show ((iS p q (ts.take k))).length+1=(iS p q (ts.take (k+1))).length by rw[g,aq];rfl] at m;rw[<-d.2] at m;exact J (N-(k+1)) _ _ (by omega) (by kernel_rfl) ⟨k+1,_,_,_,_,_,_,O,(m.sel [X3,X3,X3,X3,Z,Z,Z,Z,Z,Z,Z,Z]),by omega,O⟩
  apply L 7 [0] m;simp only[↓U];apply I0;omega;have d:=auR (u:=p) (v:=q) I (λe=>K (amb.2 e)) Q;have g:=agO d.1;rw[<-d.1,<-d.2,<-g] at m;exact J (N-(k+1)) _ _ (by omega) (by kernel_rfl) ⟨k+1,_,_,_,_,_,_,O,(m.sel [X3,X3,Z,Z,Z,Z,Z,Z,Z,Z]),by omega,O⟩
 obtain rfl:k=N:=by omega
 rw[show ts.take k=ts from au (by omega)] at m;apply L 7 [] m;simp only[↓U];exact aS O O ⟨_,O,m.ext,_,_,_,_,_,_,_,_,_,_,_,_,_,_,_,_,O,m.sel [Z,Z,Z,Z,Z,Z,X3,X3],aj,al,O,O,O⟩
end Go.Proofs.YtfekpcimgncioaaGreatDoor
namespace Go.Lith
section
open Go.RowKit
def If(js:List It):It where
 own b:=∃j∈js,j.own b
 P w:=(∀j∈js,j.P w)/\js.Pairwise Ap
 lt w b h hb:=by
  obtain⟨j,hj,hb⟩:=hb;exact j.lt w b (h.1 j hj) hb
 st w w' h hs k:=⟨λj hj=>j.st w w' (h.1 j hj) hs λb hb=>k b ⟨j,hj,hb⟩,h.2⟩
section
variable {w0 w:ak} {is js:List It}
def Mem.bagNil(m:Mem w0 w is):Mem w0 w (If []::is) :=
 ⟨m.ext,λi hi=>by
  rcases ap.1 hi with rfl | hi
  .exact⟨λj a=>(by cases a),la⟩
  .exact m.all i hi,λi hi b c=>by
  rcases ap.1 hi with rfl | hi
  .obtain⟨j,a,_⟩:=c;cases a
  exact m.ge i hi b c,bv.2 ⟨λi _ b ⟨j,a,_⟩=>(by cases a),m.nd⟩⟩
def Mem.bagPull(m:Mem w0 w (If js::is))(i:Nat){j:It}(g:js[i]? = X4 j):Mem w0 w (j::If (js.eraseIdx i)::is):=by
 have hp:=Lz js i j g;obtain⟨h1,h2⟩:=bv.1 m.nd;have P:=m.all _ (br ..);have e:=bf g;have f:∀x∈js.eraseIdx i,x∈js:=λx hx=>hp.mem_iff.1 (bp _ hx);have k:=bv.1 ((hp.pairwise_iff (λ{a b} (h:Ap a b)=>h.symm)).2 P.2);refine⟨m.ext,λx hx=>?_,λx hx b c=>?_,bv.2 ⟨λx hx b c l=>?_,bv.2 ⟨λx hx b ⟨y,d,c⟩=>h1 x hx b ⟨y,f y d,c⟩,h2⟩⟩⟩
 . rcases ap.1 hx with rfl | hx
   .exact P.1 x e
   rcases ap.1 hx with rfl | hx
   .exact⟨λy d=>P.1 y (f y d),k.2⟩
   exact m.all x (bp _ hx)
 . rcases ap.1 hx with rfl | hx
   .exact m.ge _ (br ..) b ⟨x,e,c⟩
   rcases ap.1 hx with rfl | hx
   . obtain⟨y,d,c⟩:=c
     exact m.ge _ (br ..) b ⟨y,f y d,c⟩
   exact m.ge x (bp _ hx) b c
 rcases ap.1 hx with rfl | hx
 . obtain⟨y,d,n⟩:=l
   exact k.1 y d b c n
 exact h1 x hx b ⟨j,e,c⟩ l
def Mem.bagPush{j:It}(m:Mem w0 w (j::If js::is)):Mem w0 w (If (j::js)::is):=by
 obtain⟨h1,h2⟩:=bv.1 m.nd;obtain⟨e,f⟩:=bv.1 h2;have P:=m.all (If js) (bp _ (br ..));have d:=m.all j (br ..);refine⟨m.ext,λx hx=>?_,λx hx b a=>?_,bv.2 ⟨λx hx b ⟨y,hy,a⟩ c=>?_,f⟩⟩
 . rcases ap.1 hx with rfl | hx
   . refine⟨λy hy=>?_,bv.2 ⟨λy hy b a g=>h1 _ (br ..) b a ⟨y,hy,g⟩,P.2⟩⟩
     rcases ap.1 hy with rfl | hy
     .exact d
     exact P.1 y hy
   exact m.all x (bp _ (bp _ hx))
 . rcases ap.1 hx with rfl | hx
   . obtain⟨y,hy,a⟩:=a
     rcases ap.1 hy with rfl | hy
     .exact m.ge y (br ..) b a
     exact m.ge (If js) (bp _ (br ..)) b ⟨y,hy,a⟩
   exact m.ge x (bp _ (bp _ hx)) b a
 rcases ap.1 hy with rfl | hy
 .exact h1 x (bp _ hx) b a c
 exact e x hx b ⟨y,hy,a⟩ c
end
end
section
open Go.RowKit Go.ChangeMaps
variable{t:T3}{c:H}
section
variable {w0 w:ak} {is js ks:List It}
def Mem.bagPerm(m:Mem w0 w (If js::is))(h:js.Perm ks):Mem w0 w (If ks::is):=by
 obtain⟨h1,h2⟩:=bv.1 m.nd;have P:=m.all _ (br ..);refine⟨m.ext,λx hx=>?_,λx hx b c=>?_,bv.2 ⟨λx hx b ⟨y,d,c⟩ f=>?_,h2⟩⟩
 . rcases ap.1 hx with rfl | hx
   .exact⟨λj e=>P.1 j (h.mem_iff.2 e),(h.pairwise_iff (λ{a b} (h:Ap a b)=>h.symm)).1 P.2⟩
   exact m.all x (bp _ hx)
 . rcases ap.1 hx with rfl | hx
   . obtain⟨y,d,c⟩:=c
     exact m.ge _ (br ..) b ⟨y,h.mem_iff.2 d,c⟩
   exact m.ge x (bp _ hx) b c
 exact h1 x hx b ⟨y,h.mem_iff.2 d,c⟩ f
def ac3{K V:Type}[DecidableEq K]{k:K}{v:V}{e:K × V}:∀{D:List (K × V)},(D.map (·.1)).Nodup->e∈fP D k v->e=(k,v)\/(e∈D/\e.1≠k)
 | [],_,h=>.inl (a_.1 h)
 | x::D,c,h=>by
  obtain⟨n1,n2⟩:=g_.1 c;unfold fP at h;split at h
  . rename_i a
    rcases ap.1 h with h | h
    .exact .inl h
    exact .inr ⟨bp _ h,λb=>n1 (dj.2 ⟨e,h,b.trans a.symm⟩)⟩
  rename_i a
  rcases ap.1 h with h | h
  .exact .inr ⟨h▸br ..,h▸a⟩
  rcases ac3 n2 h with h | h
  .exact .inl h
  exact .inr ⟨bp _ h.1,h.2⟩
variable {E:ba} {fs:H->List T3} {D:List (H × Hd)}
def sI(E:ba)(fs:H->List T3)(e:H × Hd):It:=oI E 9 e.2.A (fs e.1).length e.2.cap ((fs e.1).flatMap aL)
structure Np(D:List (H × Hd))(fs:H->List T3):Prop where
 nk:(D.map (·.1)).Nodup
 len:∀e∈D,e.2.n=(fs e.1).length
 no:∀p,p∉D.map (·.1)->fs p=[]
 yes:∀p,p∈D.map (·.1)->fs p≠[]
def Np.nil:Np [] λ_=>[]:=⟨kh,λ_ h=>(by cases h),λ_ _=>rfl,λ_ h=>(by cases h)⟩
def Np.iff(S:Np D fs){p:H}:p∈D.map (·.1)↔fs p≠[]:=⟨S.yes p,λh=>Classical.byContradiction λk=>h (S.no p k)⟩
def Np.take(S:Np D fs)(m:Mem w0 w (If (D.map (sI E fs))::is))(p:H) :
 ∃rest,Mem w0 w (oI E 9 (pO D p).A (pO D p).n (pO D p).cap ((fs p).flatMap aL)::If rest::is)/\(pO D p).n=(fs p).length /\
  ∀(b:Hd) (a:H->List T3),(∀q,q≠p->a q=fs q)->b.n=(a p).length->a p≠[]->(sI E a (p,b)::rest).Perm ((fP D p b).map (sI E a))/\Np (fP D p b) a:=by
 have v:∀(b:Hd) (a:H->List T3),(∀q,q≠p->a q=fs q)->b.n=(a p).length->a p≠[]->Np (fP D p b) a:=λb a hq g o =>
  ⟨vG S.nk p b,λe d=>by
   rcases ac3 S.nk d with rfl | ⟨d,M⟩
   .exact g
   .rw[hq _ M];exact S.len e d,λq c=>by
   rw[uQ] at c;have h1:q∉D.map (·.1)/\q≠p:=by
    split at c
    .rename_i hp;exact⟨c,λe=>c (e▸hp)⟩
    exact⟨λh=>c (il _ h),λe=>c (gu _ (by rw[e];exact a_.2 O))⟩
   rw[hq _ h1.2];exact S.no q h1.1,λq c=>by
   by_cases u:q=p
   .rw[u];exact o
   rw[hq _ u]
   refine S.yes q ?_;rw[uQ] at c;split at c
   .exact c
   exact (bh.1 c).elim id λh=>Z8 (a_.1 h) u⟩
 have F:∀{a:H->List T3} {L:List (H × Hd)},(∀q,q≠p->a q=fs q)->(∀e∈L,e.1≠p)->L.map (sI E a)=L.map (sI E fs):=λ{a L} hq K =>
  io λe d=>by unfold sI;rw[hq _ (K e d)]
 cases B:rG D p 0 with
 | none =>
  obtain⟨r,h1,_⟩:=rK D p 0 B;have t:=kZ.1 r;have f:pO D p=⟨X5,0,0⟩:=by unfold pO;rw[r];rfl
  refine⟨D.map (sI E fs),?_,?_,λb a hq g o=>⟨?_,v b a hq g o⟩⟩
  .rw[f,S.no p t];exact m.nilO E 9
  .rw[f,S.no p t];rfl
  rw[h1,de,F hq λe d k=>t (dj.2 ⟨e,d,k⟩)]
  exact (List.perm_append_singleton _ _).symm
 | some q =>
  obtain⟨j,h⟩:=q;obtain⟨i,_,s,r,h1,_⟩:=mX D p 0 j h B;have f:pO D p=h:=by unfold pO;rw[r];rfl
  have N:(p,h)∈D:=bf s;have C:=S.len _ N;have P:∀e∈D.eraseIdx i,e.1≠p:=λe d k=>by
   obtain⟨q,hq⟩:=df.1 d;rw[List.getElem?_eraseIdx] at hq;have key:∀{q:Nat},D[q]? = X4 e->q=i:=λ{q} hq=>by
    have G:(D.map (·.1))[q]? = X4 p:=by rw[fi,hq,<-k];rfl
    have I:(D.map (·.1))[i]? = X4 p:=by rw[fi,s];rfl
    obtain⟨Q,J⟩:=ao.1 G;obtain⟨c1,c2⟩:=ao.1 I;exact (ob S.nk).1 (J.trans c2.symm)
   split at hq
   .have:=key hq;omega
   have:=key hq;omega
  refine⟨(D.map (sI E fs)).eraseIdx i,?_,?_,λb a hq g o=>⟨?_,v b a hq g o⟩⟩
  . rw[f,show h.n=(fs p).length from C]
    exact m.bagPull i (j:=sI E fs (p,h)) (by rw[fi,s];rfl)
  .rw[f];exact C
  rw[h1,<-map_eraseIdx,<-F hq P]
  have hp:∀{l:List (H × Hd)} {i:Nat} {x y:H × Hd},l[i]? = X4 x->(l.set i y).Perm (y::l.eraseIdx i):=λ{l}=>by
   induction l with
   | nil=>intro i x y h;simp at h
   | cons z l ih =>
    intro i x y h;cases i with
    | zero=>exact .refl _
    | succ i=>exact ((ih (i:=i) (x:=x) (y:=y) (by simpa using h)).cons z).trans (.swap ..)
  exact ((hp (y:=(p,b)) s).map (sI E a)).symm
def Np.trisP(S:Np D fs)(d:(If (D.map (sI E fs))).P w)(e:∀p,∀t∈fs p,IT t)(p:H):bW w (pO D p).A (pO D p).n (fs p)/\(pO D p).n<=(pO D p).cap:=by
 unfold pO;cases a:cG D p with
 | none =>
  rw[S.no p (kZ.1 a)];exact⟨bW.nil _ _,ar _⟩
 | some h =>
  have b:=sH a;have f:=d.1 _ (dj.2 ⟨(p,h),b,rfl⟩);have c:Ow { w with heap:=#[] } w [] E 9 h.A (fs p).length h.cap ((fs p).flatMap aL):=⟨f,λ_ _ h=>(by cases h),λ_ h=>(by cases h)⟩
  have g:=S.len _ b;simp only[dx];rw[show h.n=(fs p).length from g];exact⟨c.tris (e p),c.le⟩
end
def Vq(l:List T3)(t:T3)(cs:List H)(p:H):List T3:=l.filter (λt=>t.has p)++if p∈cs then [t] else []
def ao1(l:List T3)(t:T3):Vq l t []=λp=>l.filter λt=>t.has p:=by
 funext p
 unfold Vq;simp
def asZ{l:List T3}{cs:List H}{q:H}(h:q≠c):Vq l t (cs++[c]) q=Vq l t cs q:=by
 unfold Vq;simp[h]
def as0{l:List T3}{cs:List H}(h:c∉cs):Vq l t (cs++[c]) c=Vq l t cs c++[t]:=by
 unfold Vq;simp[h]
def ao2{l:List T3}{k:Nat}(e:l[k]? = X4 t):Vq (l.take k) t [t.a,t.b,t.c]=λp=>(l.take (k+1)).filter λt=>t.has p:=by
 funext p
 unfold Vq;rw[bV e,List.filter_append]
 congr 1
 by_cases h:t.has p=Z
 . have:=eF.1 h
   simp[h,this]
 have d:¬(p=t.a\/p=t.b\/p=t.c):=λk=>h (eF.2 k)
 simp[h,d]
end
end Go.Lith
namespace Go.Proofs.YtfekpcimgncioaaGreatDoor
open Go.Proofs.Tryz
open Go.RowKit Go.Lith
set_option maxRecDepth 100000
attribute [local irreducible] az cw fW bX cP Code.wp
attribute [local congr] dK dL cR dJ
variable{g90 ga gf N cap ca cf j:Nat}{ts:List T3}{t:T3}{q:H}
structure Lg(T:ba)(w:ak)(g90 ga gf:Nat)(A:Option Addr)(N cap:Nat)(ea ef:Array cu)(ca cf:Nat)(D:List (H × Hd))(ts:List T3):Prop where
 b:fQ w g90 [.slice A N cap,.map (X4 ga),.map (X4 gf)] T
 a:iR w ga ea ca
 f:iR w gf ef cf
 t:∀p,bW w (pO D p).A (pO D p).n (ts.filter λt=>t.has p)/\(pO D p).n<=(pO D p).cap
def Lg.ext{T:ba}{w w':ak}{A:Option Addr}{ea ef:Array cu}{D:List (H × Hd)}(h:Lg T w g90 ga gf A N cap ea ef ca cf D ts)(e:fJ w w'):Lg T w' g90 ga gf A N cap ea ef ca cf D ts :=
 ⟨h.b.ext e,h.a.ext e,h.f.ext e,λp=>⟨(h.t p).1.ext e,(h.t p).2⟩⟩
structure Ux(ea ef:Array cu)(ca cf:Nat)(D:List (H × Hd))(F:List (H × Bool))(ts:List T3):Prop where
 a:bY pt Hd.v D ea ca
 f:bY pt bw F ef cf
 nk:(D.map (·.1)).Nodup
 k:∀p,p∈D.map (·.1)↔p∈cF ts
 b:∀p,(cG F p).getD X3=Bt (bB ts) p
def aif(es:List E3):List H:=es.flatMap λe=>[e.1,e.2]
def amc{es:List E3}{p:H}:decide (p∈aif es)=Bt es p:=by
 rw[fy,R];unfold aif Bt;rw[ff,et];constructor
 . rintro⟨e,a,hp⟩
   refine⟨e,a,?_⟩;simp only[ap,cd,Z9] at hp;rcases hp with rfl | rfl <;> simp
 rintro⟨e,a,hp⟩
 refine⟨e,a,?_⟩;simp only[fh,R] at hp;rcases hp with rfl | rfl <;> simp
def aig{es:List E3}{k:Nat}{e:E3}(h:es[k]? = X4 e):aif (es.take (k+1))=aif (es.take k)++[e.1]++[e.2]:=by
 rw[bV h];unfold aif;rw[aw,cn];rfl
def yT(t:T3):List H:=[t.a,t.b,t.c]
def abn(a:j<3):(yT t)[j]? = X4 (t.cor j):=by
 have h:j=0\/j=1\/j=2:=by omega
 rcases h with rfl | rfl | rfl <;> rfl
def Zk(a:j<3):(yT t).take (j+1)=(yT t).take j++[t.cor j]:=bV (abn a)
def amd(f:t.nd=Z)(e:j<3):t.cor j∉(yT t).take j:=λh=>by
 have d:(yT t).Nodup:=Ut f;obtain⟨i,a⟩:=df.1 h;rw[d_] at a;split at a
 . rename_i l
   obtain⟨g,b⟩:=ao.1 a;obtain⟨k,c⟩:=ao.1 (abn (t:=t) e);have:=(ob d).1 (b.trans c.symm);omega
 cases a
def as1{p:H}:(ts.filter λt=>t.has p)≠[]↔p∈cF ts:=by
 constructor
 . intro h
   obtain⟨t,d⟩:=List.exists_mem_of_ne_nil _ h;obtain⟨h1,h2⟩:=ct.1 d;exact oM h1 h2
 intro h e
 obtain⟨t,d,hp⟩:=ff.1 (show p∈ts.flatMap λt=>[t.a,t.b,t.c] from h);have:t∈ts.filter λt=>t.has p:=ct.2 ⟨d,eF.2 (by simpa using hp)⟩;rw[e] at this;cases this
def Lh{is:List It}{w:ak}(h:(Ed is).P w)(k:Nat){i:It}(a:is[k]? = X4 i):i.P w:=h.1 i (bf a)
def ao3(l:List T3)(t:T3)(cs:List H)(p:H){k:Nat}(h:l.length<=k):(Vq l t cs p).length<=k+1:=by
 have:=fw (λt=>T3.has t p) l;unfold Vq;rw[aq];split <;> simp <;> omega
def ame{A:Option Addr}(w:ak)(I:bW w A N ts)(aA:∀t∈ts,t.nd=Z)(hN:ts.length<=1000000):cY prog 50 [.slice A N cap] w (λv w'=>∃g90 ga gf ea ef ca cf D F K,v=.pointer (X4 ⟨g90,0,X5⟩)/\Mem w w' [K]/\(∀u,K.P u->Lg 109 u g90 ga gf A N cap ea ef ca cf D ts)/\Ux ea ef ca cf D F ts):=by
 refine⟨bJ func50 (by kernel_rfl),?_⟩;have m:=Mem.refl w;have aY:=I.len;have aM:(bB ts).length<=10000000:=by have h1:=Jf (all:=aX ts) (aX ts) [];have h2:=pG ts;simp only[bm] at h1;unfold bB;omega
 go_enter func50,ntmps50
 apply fF 7 [0] m;simp only[↓U];refine lU m ?_;intro g u m;have f:=bY.nil (K:=H) (V:=Hd) pt Hd.v;simp only[G];refine lU m ?_;intro l u m;have d:=bY.nil (K:=H) (V:=Bool) pt bw;apply lK 4 [] m;simp only[↓U,arS,aa];intro X u m;replace m:=m.bagNil;apply aT 8 [0] m;simp only[↓U,gM];refine bT [17] [5,7,18,19,20,21,22,23,24,25,26,27,28,29,30,31,32,33,34,35,36,37] (λn vs C=>∃(k:Nat) (ea:Array cu) (ca:Nat) (D:List (H × Hd)),vs=[X6 (k:Int)]/\Mem w C [If (D.map (sI 39 (λp=>(ts.take k).filter λt=>t.has p))),bI X [.slice A N cap,.map (X4 g),.map (X4 l)] 109,mI l #[] 0,mI g ea ca]/\(bY pt Hd.v D ea ca)/\(Np D (λp=>(ts.take k).filter λt=>t.has p))/\(k<=N)/\(n=N-k)) ?_ ?_
 .exact⟨_,0,_,_,[],O,m,f,Np.nil,bn _,O⟩
 intro n vs wr s u K1 an
 obtain⟨k,M,ca,D,rfl,m,f,r,hk,hn⟩:=s;simp only[zu,zF,zG];apply L 5 [0,0] m;simp only[↓U];refine bC O ?_ ?_<;>intro aN
 .obtain⟨t,J,aV,a,hA,aJ⟩:=I.get (i:=k) (by omega);subst hA;apply xI 16 [0,1,0,1,0] m;simp only[↓U,fR,lL,dM,ah,ai,aa];refine⟨_,λu m=>((aJ.ext m.ext).lies cD aW),λg4=>⟨by omega,?_⟩⟩;intro u m;refine bT [22] [7,23,24,25,26,27,28,29,30,31,32,33,34,35,36] (λn vs C=>∃(j:Nat) (ea:Array cu) (ca:Nat) (D:List (H × Hd)),vs=[X6 (j:Int)]/\Mem w C [bI g4 [X6 t.a.x,X6 t.a.y,X6 t.a.z,X6 t.b.x,X6 t.b.y,X6 t.b.z,X6 t.c.x,X6 t.c.y,X6 t.c.z] 39,If (D.map (sI 39 (Vq (ts.take k) t ((yT t).take j)))),bI X [.slice (X4 a) N cap,.map (X4 g),.map (X4 l)] 109,mI l #[] 0,mI g ea ca]/\(bY pt Hd.v D ea ca)/\(Np D (Vq (ts.take k) t ((yT t).take j)))/\(j<=3)/\(n=3-j)) ?_ ?_
  . rw[<-ao1 (ts.take k) t] at m r
    exact⟨_,0,_,_,D,O,m,f,r,bn _,O⟩
  intro n vs wr s u K2 ao
  obtain⟨j,M,ca,D,rfl,m,f,ab,hj,aR⟩:=s;simp only[zu,zF,zG];apply L 5 [0,0] m;simp only[↓U];refine bC O ?_ ?_<;>intro aO
  .have S:j<3:=by omega
   apply L 5 [0] m;simp only[↓U];refine aD ((acZ (t:=t) S O O)) ?_;apply lK 3 [0] m;simp only[↓U,fB,aP,aa];intro g5 u m;replace m:=m.pull 2 O;simp only[dZ,eA,zF,zG] at m;obtain⟨rest,m9,ae,ax⟩:=ab.take m (t.cor j);replace m:=m9;clear m9;have ay:((Vq (ts.take k) t ((yT t).take j)) (t.cor j)).length<=k+1:=ao3 _ _ _ _ (by rw[bj];omega);rw[<-ae] at ay;refine gc (mh m [X3,Z,Z,Z,Z,Z,X3] [(0,Z),(1,Z),(2,Z),(3,Z),(4,Z),(5,Z),(6,X3),(7,X3),(8,Z),(10,Z),(9,X3),(11,X3)] aB (by kernel_rfl) (bS (λ_ _ _ _ _ h=>h)) (ol:=?_) ?af ?_)
   case af=>simp only[zw,zQ,zR];try rfl
   intro u m;refine Fq 6 [4,2,3] ?_;simp only[↓U,Tk,arQ,aP,dM,aa];refine bO (fE O ?_);intro u g6 W Y k_;replace m:=m.newB W Y k_;refine aI ⟨m.sel [X3,X3,Z,Z,Z,Z,Z,X3],?_⟩;refine bO ?_;simp only[G];refine Ay (ek:=pt) (en:=Hd.v) (a:=t.cor j) (v0:=⟨X5,0,0⟩) m 7 O underlying106 af4 gD O O f ?_;intro M ca bs u m al B;simp only[zF,zG] at m;refine aI ⟨m.sel [X3,X3,Z,Z,Z,Z,Z,X3],?_⟩;refine bG (fG O O) (bG (fG O O) (bO ?_));simp only[G];refine bN m 1 O O fC iO O (by decide) O O O (m.b 0 O).rowsO (fN O) (by omega) (by omega) ?_;intro T aj u m;simp only[zF,zG] at m;refine aI ⟨m.sel [X3,X3,Z,Z,Z,Z,Z,X3],?_⟩;refine bO ?_;simp only[G];refine qT (ek:=pt) (en:=Hd.v) (a:=t.cor j) (v:=(⟨T,(pO D (t.cor j)).n+1,aj⟩:Hd)) m 7 O O O O B ?_;intro M u m f;simp only[zF,zG] at m;refine aI ⟨m.sel [X3,X3,Z,Z,Z,Z,Z,X3],?_⟩;refine bR ?_;replace m:=m.pull 2 O;simp only[dZ,eA,zF,zG] at m;replace m:=m.pull 2 O;simp only[dZ,eA,zF,zG] at m;have R:(Vq (ts.take k) t ((yT t).take (j+1))) (t.cor j)=(Vq (ts.take k) t ((yT t).take j)) (t.cor j)++[t]:=by rw[Zk S];exact as0 (amd (aA t (bf J)) S)
   obtain⟨aE,av⟩:=ax ⟨T,(pO D (t.cor j)).n+1,aj⟩ (Vq (ts.take k) t ((yT t).take (j+1))) (λq hq=>by rw[Zk S];exact asZ hq) (by rw[R,aq,ae];rfl) (by rw[R];simp);rw[show ((Vq (ts.take k) t ((yT t).take j)) (t.cor j)).flatMap aL++_=((Vq (ts.take k) t ((yT t).take (j+1))) (t.cor j)).flatMap aL by rw[R,aw];rfl,show (pO D (t.cor j)).n+1=((Vq (ts.take k) t ((yT t).take (j+1))) (t.cor j)).length by rw[R,aq,ae];rfl] at m;replace m:=(Mem.bagPush (j:=sI 39 (Vq (ts.take k) t ((yT t).take (j+1))) (t.cor j,⟨T,(pO D (t.cor j)).n+1,aj⟩)) m).bagPerm aE;replace m:=m.pull 3 O;simp only[dZ,eA,zF,zG] at m;apply aT 5 [0] m;simp only[↓U];apply I0;omega;exact ao (3-(j+1)) _ _ (by omega) (by kernel_rfl) ⟨j+1,_,_,_,O,(m.sel [Z,Z,X3,X3,Z,Z,Z]),f,av,by omega,O⟩
  obtain rfl:j=3:=by omega
  rw[show (yT t).take 3=[t.a,t.b,t.c] from rfl,ao2 J] at m ab;apply L 6 [0] m;simp only[↓U];apply I0;omega;exact an (N-(k+1)) _ _ (by omega) (by kernel_rfl) ⟨k+1,_,_,D,O,(m.sel [X3,Z,Z,Z,Z]),f,ab,by omega,O⟩
 obtain rfl:N=k:=by omega
 rw[show ts.take N=ts from au (by omega)] at m r;apply L 5 [0] m;simp only[↓U];refine bF O O (ahR _ (I.ext m.ext) (by omega)) ?_;rintro v u W ⟨A4,c4,n4,az,rfl,Y⟩;replace m:=m.newO W Y;subst az;apply aH 4 [0] m;simp only[↓U,Ys];refine bT [41] [9,42,43,44,45,46,47,48,49,50,51,52,53,54,55,56,57,58,59,60,61] (λn vs C=>∃(i:Nat) (ef:Array cu) (cf:Nat),vs=[X6 (i:Int)]/\Mem w C [oI 56 6 A4 (bB ts).length c4 ((bB ts).flatMap cJ),If (D.map (sI 39 (λp=>ts.filter λt=>t.has p))),bI X [.slice A N cap,.map (X4 g),.map (X4 l)] 109,mI l ef cf,mI g M ca]/\(bY pt bw (gA [] (aif ((bB ts).take i))) ef cf)/\(i<=(bB ts).length)/\(n=(bB ts).length-i)) ?_ ?_
 .exact⟨_,0,_,_,O,m,d,bn _,O⟩
 intro n vs wr s u K3 ap
 obtain⟨i,Q,cf,rfl,m,d,hi,aU⟩:=s;simp only[zu,zF,zG];apply L 5 [0,0] m;simp only[↓U];refine bC O ?_ ?_<;>intro aQ
 .obtain⟨e,he,aK,am,aG⟩:=((m.o 0 rfl).lat (enc:=cJ) (λ_=>rfl) (by decide)).get (i:=i) (by omega);subst am;apply L 6 [0] m;simp only[↓U,Ti,ah,ai];apply I0;omega;refine bE O (show dQ _ _ _ _ (.agg #[X6 e.1.x,X6 e.1.y,X6 e.1.z,X6 e.2.x,X6 e.2.y,X6 e.2.z]) from aG.lies Sz qN) ?_;simp only[G];apply lK 3 [0,0] m;simp only[↓U,Yt,Bz,aa];intro g4 u m;refine mh m [Z,Z,Z,Z,X3,Z] [(0,Z),(1,Z),(2,Z),(4,Z),(6,Z),(7,Z),(8,Z),(10,Z),(3,Z),(5,Z),(9,Z),(11,Z),(12,X3),(13,Z),(14,X3),(15,X3),(16,Z),(17,X3)] aB (by kernel_rfl) (bS (λ_ _ _ _ _ h=>h)) (ol:=?_) ?af ?_
  case af=>simp only[zw,zQ,zR];try rfl
  intro u m;refine Fq 12 [4,1,4,1] ?_;simp only[↓U,Tl,Ca,arR,aP,aa,ad,ag];apply I0;omega;refine bO (Ay (ek:=pt) (en:=bw) (a:=e.1) (v0:=X3) m 4 O nX pB gD O O d ?_);intro Q cf bs u m al B;simp only[zF,zG] at m;refine aI ⟨m.sel [Z,Z,Z,Z,X3,Z],?_⟩;refine bG (fG O O) (bO ?_);simp only[G];refine qT (ek:=pt) (en:=bw) (a:=e.1) (v:=Z) m 4 O O O O B ?_;intro Q u m d;simp only[zF,zG] at m;rw[<-mE] at d;refine aI ⟨m.sel [Z,Z,Z,Z,X3,Z],?_⟩;refine bO (Ay (ek:=pt) (en:=bw) (a:=e.2) (v0:=X3) m 4 O nX pB gD O O d ?_);intro Q cf bs u m al B;simp only[zF,zG] at m;refine aI ⟨m.sel [Z,Z,Z,Z,X3,Z],?_⟩;refine bG (fG O O) (bO ?_);simp only[G];refine qT (ek:=pt) (en:=bw) (a:=e.2) (v:=Z) m 4 O O O O B ?_;intro Q u m d;simp only[zF,zG] at m;rw[<-mE] at d;refine aI ⟨m.sel [Z,Z,Z,Z,X3,Z],?_⟩;refine bR ?_;apply aT 5 [0] m;simp only[↓U];apply I0;omega;exact ap ((bB ts).length-(i+1)) _ _ (by omega) (by kernel_rfl) ⟨i+1,_,_,O,(m.sel [X3,Z,Z,Z,Z,Z]),by rw[aig he];exact d,by omega,O⟩
 obtain rfl:i=(bB ts).length:=by omega
 rw[show (bB ts).take (bB ts).length=bB ts from au (ar _)] at d;apply L 7 [] m;simp only[↓U];exact aS O O ⟨_,O,m.ext,_,_,_,_,_,_,_,D,_,Ed [_,_,_,_],O,Mem.pack [] (m.sel [X3,Z,Z,Z,Z]),(λu E=>⟨by have h:=Lh E 1 O;exact h,by have h:=Lh E 3 O;exact h,by have h:=Lh E 2 O;exact h,λp=>r.trisP (Lh E 0 O) (λp t J=>I.it t (ct.1 J).1) p⟩),⟨f,d,r.nk,λp=>by rw[r.iff];exact as1,λp=>by rw[sJ];exact amc⟩⟩
section
variable {ts:List T3} {p q:H} {F:List (H × Bool)}
def aih(hF:∀z,(cG F z).getD X3=Bt (bB ts) z):((cG (gA [] (nR ts p)) q).getD X3 && !(cG F p).getD X3)=rV ts p q:=by
 rw[hF,sJ];unfold rV
 congr 1
 rw[fy,R,sT]
def aii:decide (Hx (gA [] (nR ts q)) (gA [] (nR ts p))=2)=wR ts p q:=by
 unfold wR
 congr 2
 unfold Hx;have hp:((gA [] (nR ts p)).map (·.1)).Perm (nbL ts p):=by
  refine (List.perm_ext_iff_of_nodup (Hj _ [] kh) ?_).2 λx=>?_
  .exact (mF ts).sublist (List.filter_sublist ..)
  rw[vJ,rX,sT];simp
 have e:(λk=>(cG (gA [] (nR ts q)) k).getD X3)=Gd ts q:=funext λk=>by
  rw[sJ,fy,R,sT]
 rw[e];exact (hp.filter _).length_eq
def amf(hF:∀z,(cG F z).getD X3=Bt (bB ts) z):abe (gA [] (nR ts p)) (gA [] (nR ts q)) F q=Aq ts p q:=by
 unfold abe Aq;rw[hF]
 congr 1
 rw[fy,fe,fe];have key:∀k,(!ah8 F (gA [] (nR ts q)) q k)=(decide (k=q) || !Bt (bB ts) k||Gd ts q k):=λk=>by
  unfold ah8;have b:decide (¬(k.x=q.x/\k.y=q.y/\k.z=q.z)) = !decide (k=q):=by
   rw[<-decide_not];exact decide_eq_decide.2 ⟨λh e=>h (by rw[e];exact⟨O,O,O⟩),λh e=>h (H.eq e.1 e.2.1 e.2.2)⟩
  have c:(cG (gA [] (nR ts q)) k).getD X3=Gd ts q k:=by rw[sJ,fy,R,sT]
  rw[b,c,hF];cases decide (k=q) <;> cases Bt (bB ts) k <;> cases Gd ts q k <;> rfl
 constructor
 . intro h k a
   rw[<-key];exact h k ((vJ _ _ _).2 (.inr (sT.2 (rX.1 a))))
 intro h k a
 rw[key];exact h k (rX.2 (sT.1 (((vJ _ _ _).1 a).elim (λh=>(by cases h)) id)))
def afl:afg (lB p q ts) (iS p q ts)=vR ts p q:=by
 unfold afg vR iS;rw[List.zip_map_right,List.all_map];rw[fy,fe,fe];constructor
 . intro h t b
   obtain⟨i,a⟩:=df.1 b;exact h (t,t) (bf (i:=i) (by rw[oc];exact⟨a,a⟩))
 rintro h ⟨x,y⟩ c
 obtain⟨i,a⟩:=df.1 c;rw[oc] at a;obtain rfl:x=y:=fc (a.1.symm.trans a.2);exact h x (bf a.1)
def Uy(ts:List T3)(p:H):(nR ts p).length<=3*ts.length:=by
 have h1:=fw (λt=>T3.has t p) ts;unfold nR;rw[List.length_flatMap];have h2:∀L:List T3,(L.map λt=>(nbT p t).length).sum<=3*L.length:=λL=>by
  induction L with
  | nil=>exact ar _
  | cons t L ih =>
   have:(nbT p t).length<=3:=by
    unfold nbT nbK;rw[aq,aq];split <;> split <;> split <;> simp
   simp only[bi,List.sum_cons,ay];omega
 exact be (h2 _) (by omega)
def amg:aie (iS p q ts) (mT p q ts)=Hn ts p q:=rfl
def auS(b:∀t∈ts,t.nd=Z):∀t∈iS p q ts++mT p q ts,t.nd=Z:=λt a=>by
 rcases bh.1 a with h | h
 . obtain⟨s,hs,rfl⟩:=dj.1 h
   have:=(ct.1 hs).2;rw[bg] at this;exact this.2
 exact b t (ct.1 h).1
def Zl[I3 q](e:∀t∈ts,IT t):(∀t∈iS p q ts,IT t)/\(∀t∈lB p q ts,IT t)/\∀t∈mT p q ts,IT t :=
 ⟨λt d=>by
  obtain⟨s,hs,rfl⟩:=dj.1 d;have:=e s (ct.1 hs).1;exact⟨Bi Y7 this.a,Bi Y7 this.b,Bi Y7 this.c⟩,λt d=>e t (ct.1 d).1,λt d=>e t (ct.1 d).1⟩
def as2(p q:H)(ts:List T3):(iS p q ts).length+(mT p q ts).length<=ts.length+ts.length:=by
 have h1:=ama p q ts;have h2:=afk p q ts;have a:=abm p q ts;omega
end
def Zm{A:Option Addr}{ea ef:Array cu}{D:List (H × Hd)}{F:List (H × Bool)}{p:H}[I3 p][I3 q](w:ak)(d:Lg 109 w g90 ga gf A N cap ea ef ca cf D ts)(i:Ux ea ef ca cf D F ts)(e:bW w A N ts)(x:∀t∈ts,t.nd=Z)(M:ts.length<=1000000):cY prog 51 [.pointer (X4 ⟨g90,0,X5⟩),pt p,pt q] w (λv _=>v=.bool (cH ts p q)):=by
 refine⟨bJ func51 (by kernel_rfl),?_⟩;have m:=Mem.refl w;have y:(gA [] (nR ts p)).length<=100000000:=by have h1:=pI (nR ts p) [];have h2:=Uy ts p;simp only[bm] at h1;omega
 have aj:=as2 p q ts;have al:=afk p q ts;have am:=abm p q ts
 go_enter func51,ntmps51
 apply gH 11 [2,1,0] m;simp only[↓U,aP];intro J K u m;refine bF O O (asY (p:=p) (q:=q) _ (d.b.ext m.ext) (d.a.ext m.ext) i.a (λz=>⟨(d.t z).1.ext m.ext,(d.t z).2⟩) (e.ext m.ext) (by omega)) ?_;rintro v u k ⟨I,S,g,cx,T,h,cy,B,P,af,C,Q,ah,E,R,ai,rfl,l,j,n,W,ab,ae⟩;replace m:=m.plus l;clear l;simp only[cq,bz] at m;apply aH 6 [0] m;simp only[↓U];refine aD fZ ?_;simp only[G,gt,bi,dh];apply aH 1 [0] m;simp only[↓U];refine aD fZ ?_;simp only[G,gt,bi,dh];apply aH 1 [0] m;simp only[↓U];refine aD fZ ?_;simp only[G,gt,bi,dh];apply aH 1 [0] m;simp only[↓U];refine aD fZ ?_;simp only[G,gt,bi,dh];apply aH 1 [0] m;simp only[↓U];refine aD fZ ?_;simp only[G,gt,bi,dh];apply aH 1 [0] m;simp only[↓U];refine aD fZ ?_;simp only[G,gt,bi,dh];refine aeI O O O O O O ?_;intro u V k r s;replace m:=m.newB k r s;apply aH 24 [7,1,1,0] m;simp only[↓U,arW,Mt,Yr,ad,ag,aa];apply I0;omega;refine cK m O O (ah5 (ts:=ts) (X:=gA [] (nR ts p)) (Y:=gA [] (nR ts q)) (F:=F) (ex:=g) (ey:=h) (ef:=ef) (cx:=cx) (cy:=cy) (cf:=cf) _ (m.b 1 O) (d.b.ext m.ext) (m.p 6 O) j (d.f.ext m.ext) i.f) ?_;rintro v u m rfl;simp only[G];rw[aih i.b];apply aH 2 [0] m;simp only[↓U];refine cL O ?_ ?_<;>intro c
 .have f0:rV ts p q=X3:=by simpa using c
  apply L 5 [] m;simp only[↓U];refine aS O O ?_;try simp only[zD,zE]
  exact⟨_,O,m.ext,by rw[show cH ts p q=X3 by unfold cH;simp only[f0,ju,jk,mz,j_,lf]]⟩
 have f0:rV ts p q=Z:=by simpa using c
 apply L 25 [1,1,0] m;simp only[↓U,Mt,Yr,an,ad,ag,aa];apply I0;omega;refine cK m O O (ah7 (ts:=ts) (X:=gA [] (nR ts p)) (Y:=gA [] (nR ts q)) (F:=F) (ex:=g) (ey:=h) (ef:=ef) (cx:=cx) (cy:=cy) (cf:=cf) _ (m.b 1 O) (d.b.ext m.ext) (m.p 6 O) j (m.p 5 O) n y) ?_;rintro v u m rfl;simp only[G];rw[aii];apply aH 2 [0] m;simp only[↓U];refine cL O ?_ ?_<;>intro c
 .have f1:wR ts p q=X3:=by simpa using c
  apply L 5 [] m;simp only[↓U];refine aS O O ?_;try simp only[zD,zE]
  exact⟨_,O,m.ext,by rw[show cH ts p q=X3 by unfold cH;simp only[f0,f1,ju,jk,mz,j_,lf]]⟩
 have f1:wR ts p q=Z:=by simpa using c
 apply L 25 [1,1,0] m;simp only[↓U,Mt,Yr,an,ad,ag,aa];apply I0;omega;refine cK m O O (aid (ts:=ts) (X:=gA [] (nR ts p)) (Y:=gA [] (nR ts q)) (F:=F) (ex:=g) (ey:=h) (ef:=ef) (cx:=cx) (cy:=cy) (cf:=cf) (ms:=iS p q ts) (rs:=mT p q ts) _ (m.b 1 O) (d.b.ext m.ext) ((m.o 4 O).tris (Zl (p:=p) (q:=q) e.it).1) ((m.o 2 O).tris (Zl (p:=p) (q:=q) e.it).2.2) (auS x) (by omega)) ?_;rintro v u m rfl;simp only[G];rw[show decide ((iS p q ts++mT p q ts).map qL).Nodup=rW ts p q from rfl];apply aH 2 [0] m;simp only[↓U];refine cL O ?_ ?_<;>intro c
 .have f2:rW ts p q=X3:=by simpa using c
  apply L 5 [] m;simp only[↓U];refine aS O O ?_;try simp only[zD,zE]
  exact⟨_,O,m.ext,by rw[show cH ts p q=X3 by unfold cH;simp only[f0,f1,f2,ju,jk,mz,j_,lf]]⟩
 have f2:rW ts p q=Z:=by simpa using c
 apply L 25 [1,1,0] m;simp only[↓U,Mt,Yr,an,ad,ag,aa];apply I0;omega;refine cK m O O (alB (ts:=ts) (X:=gA [] (nR ts p)) (Y:=gA [] (nR ts q)) (F:=F) (ex:=g) (ey:=h) (ef:=ef) (cx:=cx) (cy:=cy) (cf:=cf) _ (m.b 1 O) (d.b.ext m.ext) (m.p 6 O) j (m.p 5 O) n (d.f.ext m.ext) i.f) ?_;rintro v u m rfl;simp only[G];rw[amf i.b];apply aH 2 [0] m;simp only[↓U];refine cL O ?_ ?_<;>intro c
 .have f3:Aq ts p q=X3:=by simpa using c
  apply L 5 [] m;simp only[↓U];refine aS O O ?_;try simp only[zD,zE]
  exact⟨_,O,m.ext,by rw[show cH ts p q=X3 by unfold cH;simp only[f0,f1,f2,f3,ju,jk,mz,j_,lf]]⟩
 have f3:Aq ts p q=Z:=by simpa using c
 apply L 25 [1,1,0] m;simp only[↓U,Mt,Yr,an,ad,ag,aa];apply I0;omega;refine cK m O O (afh (ts:=ts) (X:=gA [] (nR ts p)) (Y:=gA [] (nR ts q)) (F:=F) (ex:=g) (ey:=h) (ef:=ef) (cx:=cx) (cy:=cy) (cf:=cf) (ms:=iS p q ts) (os:=lB p q ts) _ (m.b 1 O) (d.b.ext m.ext) ((m.o 4 O).tris (Zl (p:=p) (q:=q) e.it).1) ((m.o 3 O).tris (Zl (p:=p) (q:=q) e.it).2.1) (by omega) (by omega)) ?_;rintro v u m rfl;simp only[G];rw[afl];apply aH 2 [0] m;simp only[↓U];refine cL O ?_ ?_<;>intro c
 .have f4:vR ts p q=X3:=by simpa using c
  apply L 5 [] m;simp only[↓U];refine aS O O ?_;try simp only[zD,zE]
  exact⟨_,O,m.ext,by rw[show cH ts p q=X3 by unfold cH;simp only[f0,f1,f2,f3,f4,ju,jk,mz,j_,lf]]⟩
 have f4:vR ts p q=Z:=by simpa using c
 apply L 25 [1,1,0] m;simp only[↓U,Mt,Yr,an,ad,ag,aa];apply I0;omega;refine cK m O O (al7 (ts:=ts) (X:=gA [] (nR ts p)) (Y:=gA [] (nR ts q)) (F:=F) (ex:=g) (ey:=h) (ef:=ef) (cx:=cx) (cy:=cy) (cf:=cf) (ms:=iS p q ts) (rs:=mT p q ts) _ (m.b 1 O) (d.b.ext m.ext) ((m.o 4 O).tris (Zl (p:=p) (q:=q) e.it).1) ((m.o 2 O).tris (Zl (p:=p) (q:=q) e.it).2.2) (m.o 4 O).le (by omega)) ?_;rintro v u m rfl;simp only[G];rw[amg];apply aH 2 [0] m;simp only[↓U];refine cL O ?_ ?_<;>intro c
 .have f5:Hn ts p q=X3:=by simpa using c
  apply L 5 [] m;simp only[↓U];refine aS O O ?_;try simp only[zD,zE]
  exact⟨_,O,m.ext,by rw[show cH ts p q=X3 by unfold cH;simp only[f0,f1,f2,f3,f4,f5,ju,jk,mz,j_,lf]]⟩
 have f5:Hn ts p q=Z:=by simpa using c
 apply L 19 [2] m;simp only[↓U,an];apply I0;omega;refine aS O O ?_;try simp only[zD,zE]
 exact⟨_,O,m.ext,by rw[show cH ts p q=Z by unfold cH;simp only[f0,f1,f2,f3,f4,f5,ju,jk,mz,j_,lf]]⟩
def amh{P:bt}{l:List aj}{op:Op}{ty:ba}{b c:Bool}(h:iB P l op ty (.bool b))(e:b=c):iB P l op ty (.bool c):=e▸h
def abo(ts:List T3)(p q:H):Bool:=decide (p≠q)&&decide (fO Z ts=0)&&cH ts p q
def Uz(h:fO Z ts=0):∀t∈ts,t.nd=Z:=λt a=>Go.Lith.nd_of ((aca h).1 t a)
def auT{p:H}:(p.x=q.x/\p.y=q.y/\p.z=q.z)↔p=q:=⟨λh=>H.eq h.1 h.2.1 h.2.2,λh=>by rw[h];exact⟨rfl,rfl,rfl⟩⟩
def aqi{p:H}(h:p≠q):decide (¬(p.x=q.x/\p.y=q.y/\p.z=q.z))=Z:=Y0 λk=>h (auT.1 k)
def auU{p:H}(h:p=q):decide (¬(p.x=q.x/\p.y=q.y/\p.z=q.z))=X3:=Y λk=>k (auT.2 h)
def Nq{A:Option Addr}{p:H}[I3 p][I3 q](w:ak)(d:bW w A N ts)(o:N<=300000):cY prog 17 [.slice A N cap,pt p,pt q] w (λv _=>v=.bool (abo ts p q)):=by
 refine⟨bJ func17 (by kernel_rfl),?_⟩;have m:=Mem.refl w;have r:=d.len
 go_enter func17,ntmps17
 apply gH 7 [] m;simp only[↓U];intro l n u m;rcases (show p=q\/(p≠q/\fO Z ts≠0)\/(p≠q/\fO Z ts=0) by by_cases h1:p=q <;> by_cases h2:fO Z ts=0 <;> simp[h1,h2]) with c | ⟨c,a⟩ | ⟨c,a⟩
 .refine gc ?_;refine mh m [Z,Z] [(0,Z),(1,Z),(2,Z),(3,Z),(4,Z),(5,X3),(6,Z),(7,Z),(8,Z),(9,Z),(11,Z),(12,Z),(10,X3),(13,X3),(14,Z),(15,Z)] aB (by kernel_rfl) (bS (λ_ _ _ _ _ h=>h)) (ol:=?_) ?e ?_
  case e=>simp only[zw,zQ,zR];try rfl
  intro u m;refine gW O (λu m=>((m.b 1 O).full aG aA)) ?_;simp only[G];refine gW O (λu m=>((m.b 0 O).full aG aA)) ?_;simp only[G];refine bG ((amh (Fl O O) (auU c))) (bG aJ (uA O (bO (pQ O ?_))));simp only[G];refine aI ⟨m,?_⟩;refine uA O (bG (zX O) (bG aJ (uA O ?_)));simp only[G];refine uA O (uA O (bO (pQ O (aI ?_))));refine⟨m,?_⟩;refine bO (pQ O ?_);simp only[G];refine aI ⟨m,?_⟩;refine bG (zX O) (bG aM (bR ?_));apply aT 1 [] m;simp only[↓U];refine aS O O ?_;try simp only[zD,zE]
  exact⟨_,O,m.ext,by rw[abo,Y (λh=>h c)];rfl⟩
 .refine gc ?_;refine mh m [Z,Z] [(0,Z),(1,Z),(2,Z),(3,Z),(4,Z),(5,X3),(6,Z),(7,Z),(8,Z),(9,Z),(11,Z),(12,Z),(10,X3),(13,X3),(14,Z),(15,Z)] aB (by kernel_rfl) (bS (λ_ _ _ _ _ h=>h)) (ol:=?_) ?e ?_
  case e=>simp only[zw,zQ,zR];try rfl
  intro u m;refine gW O (λu m=>((m.b 1 O).full aG aA)) ?_;simp only[G];refine gW O (λu m=>((m.b 0 O).full aG aA)) ?_;simp only[G];refine bG ((amh (Fl O O) (aqi c))) (bG aJ (wY O (bG aJ (bO (eP O ?_)))));simp only[G];refine cK m O O (Az _ (d.ext m.ext) (by omega)) ?_;rintro v u m rfl;refine aI ⟨m,?_⟩;refine wY O (bG (aac O O a) (bG (rQ O) (bG aJ ?_)));simp only[G];refine uA O (uA O (uA O (bO (pQ O ?_))));simp only[G];refine aI ⟨m,?_⟩;refine bO (pQ O (aI ?_));refine⟨m,?_⟩;refine bG (zX O) (bG aM (bR ?_));apply aT 1 [] m;simp only[↓U];refine aS O O ?_;try simp only[zD,zE]
  exact⟨_,O,m.ext,by rw[abo,Y a,jk];rfl⟩
 refine gc ?_;refine mh m [Z,Z] [(0,Z),(1,Z),(2,Z),(3,Z),(4,Z),(5,X3),(6,Z),(7,Z),(8,Z),(9,Z),(11,Z),(12,Z),(10,X3),(13,X3),(14,Z),(15,Z)] aB (by kernel_rfl) (bS (λ_ _ _ _ _ h=>h)) (ol:=?_) ?e ?_
 case e=>simp only[zw,zQ,zR];try rfl
 intro u m;refine gW O (λu m=>((m.b 1 O).full aG aA)) ?_;simp only[G];refine gW O (λu m=>((m.b 0 O).full aG aA)) ?_;simp only[G];refine bG ((amh (Fl O O) (aqi c))) (bG aJ (wY O (bG aJ (bO (eP O ?_)))));simp only[G];refine cK m O O (Az _ (d.ext m.ext) (by omega)) ?_;rintro v u m rfl;refine aI ⟨m,?_⟩;refine wY O (bG (zW O O a) (bG (rQ O) (bG aJ ?_)));simp only[G];refine wY O (bG aJ (wY O ?_));simp only[G];refine gW O (λu m=>((m.b 1 O).full aG aA)) ?_;simp only[G];refine wY O (gW O (λu m=>((m.b 0 O).full aG aA)) ?_);simp only[G];refine bO (eP O (bF O O (ame _ (d.ext m.ext) (Uz a) (by omega)) ?_));rintro v u k ⟨g90,ga,gf,ea,ef,ca,cf,D,F,j,rfl,f,i,g⟩;replace m:=m.plus f;clear f;simp only[cq,bz] at m;refine aI ⟨m.sel [X3,Z,Z],?_⟩;refine bO (eP O ?_);simp only[G];refine cK m O O (Zm (p:=p) (q:=q) _ (i _ (m.get 0 O)) g (d.ext m.ext) (Uz a) (by omega)) ?_;rintro v u m rfl;refine aI ⟨m.sel [X3,Z,Z],?_⟩;refine bG (rQ O) (bG aM (bR ?_));apply aT 1 [] m;simp only[↓U];refine aS O O ?_;try simp only[zD,zE]
 exact⟨_,O,m.ext,by rw[abo,Y0 c,Y0 a];rfl⟩
end Go.Proofs.YtfekpcimgncioaaGreatDoor
set_option linter.unusedSectionVars false
namespace Go.Lith
open Go
variable{P:bt}{w:ak}{α:Type}{d:Nat}{m m':Machine}
def afm{a:Addr}{u:ba}{k:Addr}{v:aj}{b:Bool}{r:ak × List Addr}(h:w.viewStore P a u k v b=.ok r):r.1.drawn=w.drawn:=by
 unfold World.viewStore at h;simp only[bind,Except.bind,pure,Except.pure,throw] at h
 repeat' split at h
 all_goals first | (cases h;done) | (cases h;rfl) | skip
def aij{x:Addr}{v:aj}{b:Bool}{r:ak × List Addr}(h:w.farStore P x v b=.ok r):r.1.drawn=w.drawn:=by
 unfold World.farStore at h;split at h
 . split at h
   . rename_i a
     cases h;exact afm a
   cases h
 cases h
def abp(w:ak)(x:Addr)(n:Nat):(w.freeze x n).drawn=w.drawn:=by
 unfold World.freeze;split <;> rfl
def aik(s:Ask α):∀w:ak,w.drawn<=(w.ask s).2.drawn:=by
 induction s with
 | done a=>intro w;exact ar _
 | ask b range k ih =>
  intro w;simp only[World.ask];split
  .exact ih _ w
  exact be (qo _) (ih _ { w with drawn:=w.drawn+1 })
def ail(w:ak)(c:Sys):w.drawn<=(w.sys c).2.drawn:=by
 have h:=aik (Kernel.perform c w.os) w;unfold World.sys;split
 .exact ar _
 rename_i e
 rw[e] at h;exact h
def okR{α:Type}(d:Nat):Result α->Prop
 | .ok _ w=>d<=w.drawn
 | .halt _ w=>d<=w.drawn
def okR.mono{α:Type}{d e:Nat}(h:e<=d):∀{r:Result α},okR d r->okR e r
 | .ok _ _,k=>be h k
 | .halt _ _,k=>be h k
def Qt(s:Sem α):∀w:ak,okR w.drawn (s.run P w):=by
 induction s with
 | pure _=>intro w;exact ar _
 | load m x k ih =>
  intro w;simp only[Sem.run];split
  .exact ih _ _
  split
  .exact ih _ _
  exact ar _
 | store m x v k ih =>
  intro w;have key:okR w.drawn (match w.cell? x with
   | some _=>if w.frozen? x then Result.halt (.unsupported (.unsafePointer "a write to bytes that a string shares")) w else k.run P (w.setCell x v)
   | none=>match w.farStore P x v (m == Mode.atomic) with
    | .ok (w,_)=>k.run P w
    | .error h=>.halt h w):=by
   split
   . split
     .exact ar _
     exact ih (w.setCell x v)
   split
   . rename_i a
     exact okR.mono (Nat.le_of_eq (aij a).symm) (ih _)
   exact ar _
  cases v <;> simp only[Sem.run] <;> first | exact ar _ | exact key
 | new o k ih=>intro w;exact ih _ { w with heap:=w.heap.push o }
 | shape r k ih=>intro w;exact ih _ _
 | freeze x n k ih=>intro w;exact okR.mono (Nat.le_of_eq (abp w x n).symm) (ih _)
 | frozen x k ih=>intro w;exact ih _ _
 | getObj r k ih =>
  intro w;simp only[Sem.run];split
  .exact ar _
  .exact ih _ _
  exact ar _
 | setObj r o k ih =>
  intro w;simp only[Sem.run];split
  .exact ar _
  .exact ih { w with heap:=w.heap.setIfInBounds r o }
  exact ar _
 | choose q k ih =>
  intro w;simp only[Sem.run];split
  .exact ih _ _
  exact okR.mono (qo _) (ih _ { w with drawn:=w.drawn+1 })
 | sys c k ih=>intro w;exact okR.mono (ail w c) (ih _ _)
 | program k ih=>intro w;exact ih _ _
 | mark m k ih=>intro w;exact ih _
 | halt x=>intro w;exact ar _
def ac4{s:Sem α}{es:Array Event}{r:Result α}{a:Array Event}(h:s.runT P w es=(r,a)):okR w.drawn r:=by
 have:=Sem.runT_fst P s w es;rw[h] at this;rw[show r=s.run P w from this];exact Qt s w
def iA{s:Sem α}{r:Result α}(h:s.run P w=r):okR w.drawn r:=h▸Qt s w
def oU{s:Sem α}{es:Array Event}{r:Result α}(h:(s.runT P w es).1=r):okR w.drawn r:=by
 rw[Sem.runT_fst] at h;exact iA h
def okG(d:Nat):GStep->Prop
 | .go _ w _ | .comm _ _ _ _ w _ | .spawn _ _ w _ | .count _ w _ | .timer _ _ w _ | .alone _ _ w _ | .newcoro _ _ _ w _ | .coroswitch _ _ _ w _ | .collect _ w _ | .watch _ w _=>d<=w.drawn
 | .ended _ _ _=>True
def yU{es:Array Event}{g:GStep}(h:okG d g):okG d (g.after es):=by cases g <;> exact h
def ao4{α:Type}{d:Nat}{x:GStep}{f:α->GStep}(h1:okG d x)(h2:∀a,okG d (f a)):∀o:Option α,okG d (o.elim x f)
 | none=>h1
 | some a=>h2 a
section
variable {P:bt} {d:Nat} {w:ak} (hw:d<=w.drawn)
include hw
theorem afn(a:Nat)(t:ByteArray)(o:Outcome):okG d (endWith w a t o):=by
 unfold endWith;dsimp only
 repeat' split
 all_goals trivial
theorem Va(b:Frame)(cs:List Frame)(a:Option Dying)(m:String):okG d (endFatal P b cs a m w):=by
 unfold endFatal;dsimp only;split
 . rename_i h
   exact be hw (iA h)
 .trivial
 trivial
theorem Pc(a:Frame)(v:aj):okG d (endPrinting P a v w):=by
 unfold endPrinting;dsimp only;split
 .exact hw
 trivial
theorem Nr(c:Bool)(b:Frame)(cs:List Frame)(a:Option Dying)(v:aj):okG d (doReturn P c b cs a v w):=by
 unfold doReturn
 repeat' (first | exact hw | trivial | split)
theorem ac5(a:Frame)(cs:List Frame)(b:Option Dying)(g:Nat):okG d (early P a cs b g w):=by
 have n:∀w:ak,d<=w.drawn->okG d (match w.heap[g]? with
  | some (.pending c elem)=>GStep.go { frame:=a,callers:=cs,status:=.running,dying:=b } { w with heap:=w.heap.setIfInBounds g (.cells c elem) }
  | _=>.ended (.stuck "early: the variable does not wait" (a.pos P)) w):=λw hw=>by
  split
  .exact hw
  trivial
 unfold early;dsimp only
 repeat' (first | exact n _ hw | exact hw | trivial | exact be hw (iA (r:=.ok _ _) (by assumption)) | (rename_i f h1 h c1 e h2;exact be hw (iA h1)) | split)
theorem Vb(b:Bool)(f:Frame)(cs:List Frame)(c:Option Dying)(s:Sem Next):okG d (stepG.apply P b f cs c s w):=by
 unfold stepG.apply;dsimp only;have hr:okR w.drawn (if b=Z then s.runT P w #[] else (s.run P w,#[])).1:=by
  split
  .rw[Sem.runT_fst];exact Qt s w
  exact Qt s w
 generalize (if b=Z then s.runT P w #[] else (s.run P w,#[]))=r at hr;obtain⟨r,es⟩:=r;refine yU ?_;cases r with
 | ok n u =>
  have a:d<=u.drawn:=be hw hr;cases n
  all_goals dsimp only
  all_goals repeat' (first | exact a | trivial | exact throw_ok a _ _ | split)
 | halt x u =>
  have a:d<=u.drawn:=be hw hr;cases x
  all_goals dsimp only
  all_goals repeat' (first | exact a | trivial | exact throw_ok a _ _ | exact Va a _ _ _ _ | exact ac5 a _ _ _ _ | (rename_i e;cases e;done) | (rename_i e;cases e;exact a) | (rename_i e;cases e;exact Va a _ _ _ _) | (rename_i e;cases e;exact ac5 a _ _ _ _) | split)
theorem ao5(b:Bool)(c:Frame)(cs:List Frame)(a:Option Dying):okG d (stepG.oper P b c cs a w):=by
 unfold stepG.oper
 repeat' (first | trivial | exact Vb hw _ _ _ _ _ | split)
theorem ao6(e b:Bool)(c:Frame)(cs:List Frame)(a:Option Dying):okG d (stepG.exec P e b c cs a w):=by
 unfold stepG.exec;dsimp only
 repeat' (first | exact hw | trivial | exact Vb hw _ _ _ _ _ | exact ao5 hw _ _ _ _ | (with_reducible refine yU ?_) | exact be hw (oU (r:=.ok _ _) (by assumption)) | exact be hw (oU (r:=.halt _ _) (by assumption)) | exact be hw (iA (r:=.ok _ _) (by assumption)) | exact Nr (be hw (oU (r:=.ok _ _) (by assumption))) _ _ _ _ _ | exact Vb (be hw (oU (r:=.ok _ _) (by assumption))) _ _ _ _ _ | refine ao4 ?_ (λ_=>?_) _ | split)
theorem ac6(b:Frame)(cs:List Frame)(a:Option Dying)(x:ej):okG d (callDeferred P b cs a x w):=by
 unfold callDeferred;dsimp only
 repeat' (first | exact hw | trivial | (with_reducible refine yU ?_) | exact be hw (oU (r:=.ok _ _) (by assumption)) | exact be hw (oU (r:=.halt _ _) (by assumption)) | exact throw_ok (be hw (oU (r:=.halt _ _) (by assumption))) _ _ | exact Va (be hw (oU (r:=.halt _ _) (by assumption))) _ _ _ _ | split)
theorem ain(c:Bool)(b:Frame)(cs:List Frame)(a:Option Dying):okG d (unwind P c b cs a w):=by
 unfold unwind;dsimp only
 repeat' (first | exact hw | trivial | (with_reducible refine yU ?_) | exact ac6 hw _ _ _ _ | exact Nr hw _ _ _ _ _ | exact Pc hw _ _ | exact be hw (oU (r:=.ok _ _) (by assumption)) | exact be hw (iA (r:=.ok _ _) (by assumption)) | exact Nr (be hw (oU (r:=.ok _ _) (by assumption))) _ _ _ _ _ | split)
theorem afo(a:Frame)(x:Dying)(f:Fatal):okG d (writeOn P a x f w):=by
 unfold writeOn;dsimp only
 repeat' (first | exact hw | trivial | exact be hw (ac4 (r:=.ok _ _) (by assumption)) | exact be hw (ac4 (r:=.halt _ _) (by assumption)) | split)
theorem as3(a:Frame)(x:Dying):okG d (die P a x w):=by
 unfold die;dsimp only
 repeat' (first | exact hw | trivial | (with_reducible refine yU ?_) | exact afo hw _ _ _ | exact afn hw _ _ _ | exact be hw (oU (r:=.ok _ _) (by assumption)) | exact be hw (iA (r:=.ok _ _) (by assumption)) | exact Pc (be hw (oU (r:=.halt _ _) (by assumption))) _ _ | split)
theorem ami(a:Bool)(g:Goroutine)(b:Bool):okG d (stepG P a g w b):=by
 unfold stepG;dsimp only
 repeat' (first | exact as3 hw _ _ | exact ao6 hw _ _ _ _ _ | exact ain hw _ _ _ _ | split)
end
def okS(d:Nat):Stepped->Prop
 | .next m=>d<=m.world.drawn
 | _=>True
section
variable {P:bt} {d:Nat} {w:ak} (hw:d<=w.drawn)
include hw
theorem afp{rest:Rest}{cases:Array CommCase}{u:ak}(h:waitingAt rest cases w=X4 u):d<=u.drawn:=by
 unfold waitingAt at h;split at h
 . split at h
   .cases h;exact hw
   cases h
 cases h;exact hw
theorem ao7(rest:Rest)(b:Array Goroutine)(i:Nat)(g:Goroutine)(cases:Array CommCase)(a:Bool)(c:CommShape):okS d (communicate P rest b i g cases a c w).1:=by
 unfold communicate;dsimp only
 repeat' (first | exact hw | trivial | exact afp hw (by assumption) | split)
 all_goals dsimp only[okS]
 all_goals first | exact be hw (iA (r:=.ok _ _) (by assumption)) | exact be (be hw (iA (r:=.ok _ _) (by assumption))) (iA (r:=.ok _ _) (by assumption)) | exact be (be hw (iA (r:=.ok _ _) (by assumption))) (iA (r:=.halt _ _) (by assumption))
theorem agP(a:Array Goroutine)(rest:Rest):okS d (look P a rest w):=by
 unfold look;dsimp only
 repeat' (first | exact hw | trivial | split)
 all_goals dsimp only[okS]
 all_goals exact be hw (iA (r:=.ok _ _) (by assumption))
end
def amj(m:Machine)(k:Nat):okS m.world.drawn (serve P m k):=by
 unfold serve;dsimp only
 repeat' (first | exact ar _ | trivial | split)
def Zn(m:Machine)(k:Nat)(t:Timer)(a b:Nat):m.world.drawn<=(retime m k t a b).2.world.drawn:=by
 unfold retime;dsimp only;split
 . unfold drain
   split <;> exact ar _
 exact ar _
def ac7{v:aj}{g:Addr}{f:Nat->Timer->aj × Machine}(d:∀k t,m.world.drawn<=(f k t).2.world.drawn){c:Machine}(h:timerOp.named c g f=.ok (v,m')):m.world.drawn<=m'.world.drawn:=by
 unfold timerOp.named at h;split at h
 . rename_i k _
   have:=d k (c.rest.timers.getD k default);cases e:f k (c.rest.timers.getD k default) with
   | mk a b =>
    rw[e] at h this;cases h;exact this
 cases h
def afq{op:TimerOp}{v:aj}(h:timerOp m op=.ok (v,m')):m.world.drawn<=m'.world.drawn:=by
 unfold timerOp at h;cases op with
 | new t =>
  dsimp only at h
  repeat' (first | (cases h;done) | (cases h;exact ar _) | split at h)
 | stop b=>exact ac7 (λk t=>Zn m k t _ _) h
 | reset b c f =>
  dsimp only at h;split at h
  . rename_i m1 a
    have h1:m.world.drawn<=m1.world.drawn:=by
     unfold timerOp.opened at a
     repeat' (first | (cases a;done) | (cases a;exact ar _) | split at a)
    exact ac7 (λk t=>be h1 (Zn m1 k t _ _)) h
  cases h
 | deadline d read e c=>cases h;exact ar _
def as4(P:bt)(m:Machine)(i:Nat)(b:Bool):okS m.world.drawn (runT P m i b).1:=by
 unfold runT;dsimp only;have h:=ami (P:=P) (ar m.world.drawn) (i == 0) (m.gs.swapAt! i { (default:Goroutine) with status:=.finished }).1 b;generalize stepG P (i == 0) (m.gs.swapAt! i { (default:Goroutine) with status:=.finished }).1 m.world b=s at h;cases s
 all_goals dsimp only
 all_goals repeat' (first | exact h | trivial | exact ao7 h _ _ _ _ _ _ _ | exact agP h _ _ | split)
 all_goals exact be h (afq (by assumption))
def okM(d:Nat):Move->Prop
 | .goroutine m _=>d<=m.world.drawn
 | .machine s _=>okS d s
def okS.mono{d e:Nat}(h:e<=d):∀{s:Stepped},okS d s->okS e s
 | .next _,k=>be h k
 | .ended _ _,_=>trivial
def abr{P:bt}{d:Nat}(rs:List Nat)(m:Machine)(a:d<=m.world.drawn):okM d (match (choose (.sched rs.length)).run P m.world with
 | .halt _ w=>.machine (.ended (.stuck "sched" "") w)
 | .ok k world =>
  if rs.length<=1 then .goroutine { m with world } (rs.getD k 0) else
  match (choose (.extern "sched.slice" 65536)).run P world with
  | .halt _ w=>.machine (.ended (.stuck "sched.slice" "") w)
  | .ok n world=>.goroutine { m with world,rest:={ m.rest with slice:=if n=0 then X5 else X4 (rs.getD k 0,n) } } (rs.getD k 0)):=by
 repeat' (first | trivial | split)
 all_goals dsimp only[okM]
 all_goals first | exact be a (iA (r:=.ok _ _) (by assumption)) | exact be (be a (iA (r:=.ok _ _) (by assumption))) (iA (r:=.ok _ _) (by assumption))
def Vc(e:d<=m.world.drawn):okM d (askOn P m):=by
 unfold askOn;dsimp only;split
 .trivial
 rename_i k c h1
 have a:d<=c.drawn:=be e (iA h1);split
 .exact okS.mono a (amj { m with world:=c } _)
 split
 . split
   .exact a
   split
   .exact a
   split <;> trivial
 split
 .exact abr _ { m with world:=c } a
 split
 .trivial
 . rename_i b h2
   exact abr _ { m with world:=b } (be a (iA h2))
 . rename_i b h2
   exact be a (iA h2)
 rename_i b h2
 exact abr _ (({ m with world:=b }:Machine).advanceTo _) (be a (iA h2))
def amk(b:d<=m.world.drawn):okM d (ask P m):=by
 unfold ask;split
 . split
   .trivial
   . rename_i a h1
     have g:d<=a.drawn:=be b (iA h1);have c:=agP (P:=P) g m.gs m.rest;split
     . rename_i m2 h2
       rw[h2] at c;exact Vc c
     rename_i e f
     cases hq:look P m.gs m.rest a with
     | next m2=>exact Z8 hq (f m2)
     | ended o h=>trivial
   rename_i a h1 _
   exact Vc (m:={ m with world:=a }) (show d<=a.drawn from be b (iA (r:=.ok _ _) (by assumption)))
 exact Vc b
def ao8   : okM m.world.drawn (move P m):=by
 unfold move;split
 . split
   .exact ar _
   trivial
 split
 . split
   .exact ar _
   exact amk (m:={ m with rest:={ m.rest with slice:=X5 } }) (ar _)
 exact amk (ar _)
def ao9(h:step P m=.next m'):m.world.drawn<=m'.world.drawn:=by
 have h1:=ao8 (P:=P) (m:=m);have h2:okS m.world.drawn (step P m):=by
  unfold step stepT;split
  . rename_i m1 i a
    rw[a] at h1;exact okS.mono h1 (as4 P m1 i _)
  rename_i s ops a
  rw[a] at h1;exact h1
 rw[h] at h2;exact h2
def ac8(h:Steps P m m'):m.world.drawn<=m'.world.drawn:=by
 obtain⟨n,a⟩:=h
 induction n generalizing m with
 | zero=>cases a;exact ar _
 | succ n ih =>
  simp only[runN] at a;split at a
  . rename_i m1 h1
    exact be (ao9 h1) (ih a)
  rename_i e b
  cases hq:step P m with
  | next m2=>exact Z8 hq (b m2)
  | ended o c=>rw[hq] at a;cases a
def ac9{f:FuncId}{args:Array aj}{R:Ending->ak->Prop}(b:∀w',¬R .outgrown w')(h:Calls P f args w R):Calls P f args w λe w'=>R e w'/\w.drawn<=w'.drawn:=λcs=>by
 obtain⟨e,w',a,hr,hc,d,g⟩:=h cs;refine⟨e,w',a,⟨hr,?_⟩,hc,d,g⟩;cases e with
 | returned v=>exact ac8 hc
 | panicked c=>exact ac8 hc
 | outgrown=>exact Z8 hr (b w')
def dF.g{f:FuncId}{args:List aj}{v:aj}(h:dF P f args v):tN P f args v:=λw =>
 ⟨(h w).1,(ac9 (λ_ ⟨_,e,_⟩=>(by cases e)) (h w).2).mono λ_ _ ⟨⟨u,c,a,d⟩,b⟩=>⟨u,c,⟨a,b⟩,d⟩⟩
end Go.Lith
namespace Go.Proofs.YtfekpcimgncioaaGreatDoor
open Go.Proofs.Tryz
open Go.RowKit Go.Lith
set_option maxRecDepth 100000
attribute [local irreducible] az cw fW bX cP Code.wp
attribute [local congr] dK dL cR dJ
variable{q u:H}{g50 g90 ga gf N cap ca cf j k:Nat}{A:Option Addr}{ts ls l:List T3}{t s:T3}{x y z:Bool}{bs xs ps:List H}{w:ak}{a:fX}{es:List E3}
def jC(c:fX):List aj:=[X6 c.u.x,X6 c.u.y,X6 c.u.z,X6 c.v.x,X6 c.v.y,X6 c.v.z,.bool (dH c.c),.string (eC c.c)]
def Ig(c:fX):aj:=.agg (jC c).toArray
def cB:(∀c,jC c=[X6 c.u.x,X6 c.u.y,X6 c.u.z,X6 c.v.x,X6 c.v.y,X6 c.v.z,.bool (dH c.c),.string (eC c.c)])/\(∀c,(Ig c).cells.toList=[X6 c.u.x,X6 c.u.y,X6 c.u.z,X6 c.v.x,X6 c.v.y,X6 c.v.z,.bool (dH c.c),.string (eC c.c)])/\(∀c f,vvA (Ig c) f=f [X6 c.u.x,X6 c.u.y,X6 c.u.z,X6 c.v.x,X6 c.v.y,X6 c.v.z,.bool (dH c.c),.string (eC c.c)]):=⟨λ_=>rfl,λ_=>rfl,λ_ _=>rfl⟩
def apa(c:fX):∀v∈jC c,v.oneCell'=Z:=λv h=>by
 simp only[jC,ap,cd,Z9] at h;rcases h with rfl | rfl | rfl | rfl | rfl | rfl | rfl | rfl <;> rfl
def aml(a b:fX):Int:=if bA (a.c-b.c)=0 then if rC a.u b.u=0 then rC a.v b.v else rC a.u b.u else bA (a.c-b.c)
def Li(a b:fX):(aml a b<0)↔a.Lt b:=by
 unfold aml fX.Lt;have d:bA (a.c-b.c)=0↔a.c=b.c:=by rw[cA];omega
 have h1:bA (a.c-b.c)<0↔a.c<b.c:=by
  have:=Cw (n:=a.c-b.c);omega
 by_cases h:a.c=b.c
 . rw[J (d.2 h)]
   by_cases g:a.u=b.u
   . rw[J (nP.2 g),lV]
     simp[h,g,H.lt_irrefl]
   rw[X λk=>g (nP.1 k),lV]
   simp[h,g]
 rw[X λk=>h (d.1 k),h1]
 simp[h]
abbrev amm:Type:={ c:fX // Bd 900000 c.c }
instance:Inhabited amm:=⟨⟨⟨⟨0,0,0⟩,⟨0,0,0⟩,0⟩,Pt _⟩⟩
def amn:Go.Sort.SWO (Go.Proofs.ltOf λa b:amm=>aml a.1 b.1) where
 irrefl a:=by simp only[Go.Proofs.ltOf,Y1,Li];exact fX.lt_irrefl a.1
 trans x y z h1 h2:=by
  simp only[Go.Proofs.ltOf,R,Li] at *
  exact fX.lt_trans h1 h2
 ntrans x y z h1 h2:=by
  simp only[Go.Proofs.ltOf,Y1,Li] at *
  intro h;rcases fX.lt_tri y.1 x.1 with k | k | k
  .exact h2 (fX.lt_trans k h)
  .exact h2 (by rw[k];exact h)
  exact h1 k
def apb{p q:fX}(hp:Bd 900000 p.c)(hq:Bd 900000 q.c):tN prog 64 [Ig p,Ig q] (X6 (aml p q)):=by
 intro w;refine⟨bJ func64 (by kernel_rfl),?_⟩;have m:=iC.refl w
 go_enter func64,ntmps64
 refine bM λf d=>av (oX m O ?_);intro i u m;simp only[G];refine oX m O ?_;intro j u m;refine aD aM (aI (d _ _ ?_));try clear d f
 refine bM λh e=>?_;simp only[G];refine Rp m 15 aB (by kernel_rfl) ?_;simp only[zy];refine aK (aU (c:=1) Au O aO O O) ?_;simp only[G];refine Vo O (λu m=>((m.b 1 O).lies bU aO O O)) ?_;simp only[G,zy,ai,aa,ag,ad];refine aK (aU (c:=1) Au O aO O O) ?_;simp only[G];refine Vo O (λu m=>((m.b 0 O).lies bU aO O O)) ?_;simp only[G,zy,ai,aa,ag,ad];refine Jc O O ((auB (a:=p.c) (b:=q.c) hp hq).g) (aK (aU (c:=2) Au O aA O O) ?_);simp only[G];refine Vo O (λu m=>((m.b 1 O).lies aG aA O O)) ?_;simp only[G,zy,ai,aa,ag,ad];refine aK (aU (c:=2) Au O aA O O) ?_;simp only[G];refine Vo O (λu m=>((m.b 0 O).lies aG aA O O)) ?_;simp only[G,zy,ai,aa,ag,ad];refine Jc O O (Tu (p:=p.u) (q:=q.u)) (aK (aU (c:=2) Au O aA O O) ?_);simp only[G];refine Vo O (λu m=>((m.b 1 O).lies aG aA O O)) ?_;simp only[G,zy,ai,aa,ag,ad];refine aK (aU (c:=2) Au O aA O O) ?_;simp only[G];refine Vo O (λu m=>((m.b 0 O).lies aG aA O O)) ?_;simp only[G,zy,ai,aa,ag,ad];refine Jc O O (Tu (p:=p.v) (q:=q.v)) (aZ ?_);intro u m;simp only[G];refine acu m eK (z:=X6 0) (by kernel_rfl) O O O O O O O ?_;intro k u m;simp only[G];refine aaJ m O O (ak8 _ (m.b 0 O)) ?_;intro u m;refine aD aM (aI (e _ _ ?_));try clear e h
 refine wp_ret ?_;simp only[G];try simp only[dq,Exit.then,K0]
 refine aS O O ?_;try simp only[zD,zE]
 exact⟨_,O,m.ext,O⟩
def apc{w0 w:ak}{is:List It}{A:Option Addr}{n cap:Nat}{xs:List fX}(g:∀c∈xs,Bd 900000 c.c)(m:Mem w0 w is)(k:Nat)(q:is[k]? = X4 (oI 112 8 A n cap (xs.flatMap jC)))(s:n<4611686018427387904) :
 Calls prog 123 [.slice A n cap,.func (.func 64) #[] #[]].toArray w λe w'=>∃v i,e=.returned v/\Mem w0 w' (is.set k i)/\(v=.tuple #[]/\∃ys:List fX,i=oI 112 8 A n cap (ys.flatMap jC)/\ys.Perm xs/\ys.Pairwise λa b=>¬b.Lt a):=by
 have d:(xs.attachWith (λc=>Bd 900000 c.c) g).map (·.1)=xs:=List.attachWith_map_subtype_val ..;have f:∀L:List amm,L.flatMap (λc=>jC c.1)=(L.map (·.1)).flatMap jC:=λL=>by rw[List.flatMap_map]
 have r:is[k]? = X4 (oI 112 8 A n cap ((xs.attachWith (λc=>Bd 900000 c.c) g).flatMap λc=>jC c.1)):=by rw[f,d];exact q
 refine (Dd (α:=amm) (enc:=λc=>jC c.1) Tryz.sort123 (λw=>pU Jw w) (λw=>dY yC w) (λ_=>rfl) (by decide) (λx=>apa x.1) (λa b=>aml a.1 b.1) amn (λx y=>apb x.2 y.2) m k r s).mono ?_;rintro e w' ⟨v,i,h1,h2,j,ys,l,o,p⟩;refine⟨v,i,h1,h2,j,ys.map (·.1),by rw[l,f],?_,?_⟩
 . have:=o.map (λc:amm=>c.1)
   rwa [d] at this
 rw[List.pairwise_map]
 exact p.imp λh=>by simpa[Go.Proofs.ltOf,Li] using h
def as5{ea ef:Array cu}{D:List (H × Hd)}{F:List (H × Bool)}{c:fX}[I3 c.u][I3 c.v](w:ak)(g:fQ w g50 [.pointer (X4 ⟨g90,0,X5⟩)] 88)(d:Lg 109 w g90 ga gf A N cap ea ef ca cf D ts)(e:bW w A N ts)(a:Ux ea ef ca cf D F ts)(f:∀t∈ts,t.nd=Z)(b:ts.length<=1000000):cY prog 65 [Ig c,.pointer (X4 ⟨g50,0,X5⟩)] w (λv _=>v=.bool (cH ts c.u c.v)):=by
 refine⟨bJ func65 (by kernel_rfl),?_⟩;have m:=Mem.refl w
 go_enter func65,ntmps65
 apply gH 7 [0] m;simp only[↓U,↓cB];intro h u m;refine bE O ((g.ext m.ext).lies1 aaE O) ?_;simp only[G];apply aH 4 [1,1,0] m;simp only[↓U,↓cB,Dw,aP,vW,aa];refine cK m O O (Zm (p:=c.u) (q:=c.v) _ (d.ext m.ext) a (e.ext m.ext) f b) ?_;rintro v u m rfl;apply aH 3 [] m;simp only[↓U];exact aS O O ⟨_,O,m.ext,O⟩
def amo{ea ef:Array cu}{D:List (H × Hd)}{F:List (H × Bool)}{cs:List fX}{n1 c1:Nat}{f:Option Addr}(w:ak)(I:fQ w g50 [.pointer (X4 ⟨g90,0,X5⟩)] 88)(q:Lg 109 w g90 ga gf A N cap ea ef ca cf D ts)(s:bW w A N ts)(o:Ux ea ef ca cf D F ts)(E:∀t∈ts,t.nd=Z)(p:ts.length<=1000000)(g:uD jC 8 w f n1 cs)(a:∀c∈cs,I3 c.u/\I3 c.v)(S:n1<=100000000):cY prog 124 [.slice f n1 c1,.func (.func 65) #[] #[.pointer (X4 ⟨g50,0,X5⟩)]] w (λv _=>∃k:Int,v=X6 k/\((k<0/\∀c∈cs,cH ts c.u c.v=X3)\/∃(j:Nat) (c:fX),k=j/\j<n1/\cs[j]? = X4 c/\cH ts c.u c.v=Z/\∀(i:Nat) (d:fX),i<j->cs[i]? = X4 d->cH ts d.u d.v=X3)):=by
 refine⟨bJ func124 (by kernel_rfl),?_⟩;have m:=Mem.refl w;have R:=g.len
 go_enter func124,ntmps124
 apply fF 12 [0] m;simp only[↓U,arP];refine bT [8] [4,5,9,10,11,12,13,14,15,16,17,18] (λn vs B=>∃(k:Nat),vs=[X6 (k:Int)]/\Mem w B []/\(∀(j:Nat) (d:fX),j<k->cs[j]? = X4 d->cH ts d.u d.v=X3)/\(k<=n1)/\(n=n1-k)) ?_ ?_
 .exact⟨_,0,O,m,(λj r h=>by omega),bn _,O⟩
 intro n vs wr a u K C
 obtain⟨k,rfl,m,e,P,T⟩:=a;simp only[zu,zF,zG];apply L 5 [0,0] m;simp only[↓U];refine bC O ?_ ?_<;>intro Q
 .obtain⟨c,hc,M,rfl,J⟩:=g.get (i:=k) (by omega);apply L 14 [0] m;simp only[↓U,↓cB,akA,ah,ai];apply I0;omega;refine bE O ((J.ext m.ext).lies Jw yC) ?_;simp only[G];refine cK m O O ((haveI:=(a c (bf hc)).1;haveI:=(a c (bf hc)).2;as5 (c:=c) _ (I.ext m.ext) (q.ext m.ext) (s.ext m.ext) o E p)) ?_;rintro v u m rfl;apply aH 1 [0] m;simp only[↓U];refine cL O ?_ ?_<;>intro l
  .apply L 6 [] m;simp only[↓U];exact aS O O ⟨_,O,m.ext,k,O,.inr ⟨k,c,O,by omega,hc,l,λi d y x=>e i d y x⟩⟩
  apply L 6 [0] m;simp only[↓U];apply I0;omega;exact C (n1-(k+1)) _ _ (by omega) (by kernel_rfl) ⟨k+1, rfl, m, (λj z b h1 => by
   rcases eh j k with h | h
   .exact e j z h h1
   obtain rfl:j=k:=by omega
   rw[hc] at h1;cases h1;exact l),by omega,O⟩
 obtain rfl:n1=k:=by omega
 apply L 6 [] m;simp only[↓U];exact aS rfl rfl ⟨_,rfl,m.ext,-1,rfl,.inl ⟨by decide,λc hc=>by obtain⟨j,b⟩:=df.1 hc;exact e j c (by have:=(ao.1 b).1;omega) b⟩⟩
def avK(d:x=decide (t.b.Lt t.a))(e:y=decide (t.c.Lt t.a))(f:z=decide (t.c.Lt t.b))(h:(y&&(z || !x))=Z):dB t=⟨t.c,t.a,t.b⟩:=by
 subst d;subst e;subst f;simp only[bg,R,fh,fp,Y1] at h;exact J h
def auW(d:x=decide (t.b.Lt t.a))(e:y=decide (t.c.Lt t.a))(f:z=decide (t.c.Lt t.b))(h:(y&&(z || !x))=X3)(h1:x=Z):dB t=⟨t.b,t.c,t.a⟩:=by
 subst d;subst e;subst f;have h2:¬(t.c.Lt t.a/\(t.c.Lt t.b\/¬t.b.Lt t.a)):=λk=>by
  rw[Y0 k.1,j_] at h;rcases k.2 with k2 | k2
  .rw[Y0 k2] at h;cases h
  exact k2 (Y3 h1)
 rw[dB,X h2,J (Y3 h1)]
def auX(e:x=decide (t.b.Lt t.a))(f:y=decide (t.c.Lt t.a))(g:z=decide (t.c.Lt t.b))(h:(y&&(z || !x))=X3)(h1:x=X3):dB t=t:=by
 subst e;subst f;subst g;have d:=Y9 h1;have h2:¬(t.c.Lt t.a/\(t.c.Lt t.b\/¬t.b.Lt t.a)):=λk=>by
  rw[Y0 k.1,h1] at h;simp at h
 rw[dB,X h2,X d]
/-! ### How often a triangle is hit -/
def Ns  : dF prog 35 [tr t] (tr (dB t)):=by
 intro w;refine⟨bJ func35 (by kernel_rfl),?_⟩;have m:=Mem.refl w
 go_enter func35,ntmps35
 apply gH 11 [2,2,0] m;simp only[↓U,lL,bQ,aP,ad,ag,aa];intro h i;apply I0;omega;intro u m;refine lD m O O (lR (p:=t.b) (q:=t.a)) 8 [2,2,0] ?_;simp only[↓U,bQ,aP,ad,ag,aa];apply I0;omega;intro u m;refine lD m O O (lR (p:=t.c) (q:=t.a)) 8 [2,2,0] ?_;simp only[↓U,bQ,aP,ad,ag,aa];apply I0;omega;intro u m;refine lD m O O (lR (p:=t.c) (q:=t.b)) 4 [] ?_;simp only[↓U];intro u m;cases d:decide (t.c.Lt t.a)
 .apply aT 17 [0,0,0,0,0,0] m;simp only[↓U];refine cL O ?_ ?_<;>intro e
  .have hr:=auW (t:=t) rfl rfl rfl (by rw[d];rfl) e;apply xI 12 [2,2,2,0] m;simp only[↓U,bQ,aP,qQ,dM,ad,ag,aa];apply I0;omega;intro u m;refine aS O ⟨_,O,((m.b 0 O).full cD aW)⟩ ?_;try simp only[zD,zE]
   exact⟨_,O,m.ext,by rw[hr];rfl⟩
  have hr:=auX (t:=t) rfl rfl rfl (by rw[d];rfl) e;apply xI 7 [2,0] m;simp only[↓U,dM,aa];intro u m;refine aS O ⟨_,O,((m.b 0 O).full cD aW)⟩ ?_;try simp only[zD,zE]
  exact⟨_,O,m.ext,by rw[hr];rfl⟩
 apply aT 5 [0,0,0] m;simp only[↓U];refine cW O (λg=>aJ) (cW O (λg=>pS (bL g O)) (eP O (aD (gJ O O O) ?_)));apply aH 2 [0] m;simp only[↓U];refine cL O ?_ ?_<;>intro f
 .have hr:=avK (t:=t) rfl rfl rfl (by rw[d];exact f);apply xI 12 [2,2,2,0] m;simp only[↓U,bQ,aP,qQ,dM,ad,ag,aa];apply I0;omega;intro u m;refine aS O ⟨_,O,((m.b 0 O).full cD aW)⟩ ?_;try simp only[zD,zE]
  exact⟨_,O,m.ext,by rw[hr];rfl⟩
 apply L 6 [0] m;simp only[↓U];refine cL O ?_ ?_<;>intro e
 .have hr:=auW (t:=t) rfl rfl rfl (by rw[d];exact f) e;apply xI 12 [2,2,2,0] m;simp only[↓U,bQ,aP,qQ,dM,ad,ag,aa];apply I0;omega;intro u m;refine aS O ⟨_,O,((m.b 0 O).full cD aW)⟩ ?_;try simp only[zD,zE]
  exact⟨_,O,m.ext,by rw[hr];rfl⟩
 have hr:=auX (t:=t) rfl rfl rfl (by rw[d];exact f) e;apply xI 7 [2,0] m;simp only[↓U,dM,aa];intro u m;refine aS O ⟨_,O,((m.b 0 O).full cD aW)⟩ ?_;try simp only[zD,zE]
 exact⟨_,O,m.ext,by rw[hr];rfl⟩
def as6{p:H}(h:¬(p.x=q.x/\p.y=q.y/\p.z=q.z)):p≠q:=λk=>h (by rw[k];exact⟨rfl,rfl,rfl⟩)
def as7{p:H}(h:¬¬(p.x=q.x/\p.y=q.y/\p.z=q.z)):p=q:=by
 obtain⟨h1,h2,a⟩:=Classical.not_not.1 h;exact H.eq h1 h2 a
def auY(h:s.a≠t.a):decide (s.Lt t)=decide (s.a.Lt t.a):=by unfold T3.Lt;simp[h]
def auZ(e:s.a=t.a)(h:s.b≠t.b):decide (s.Lt t)=decide (s.b.Lt t.b):=by unfold T3.Lt;simp[h,e,H.lt_irrefl]
def aqj(e:s.a=t.a)(f:s.b=t.b):decide (s.Lt t)=decide (s.c.Lt t.c):=by unfold T3.Lt;simp[e,f,H.lt_irrefl]
def au0(e:s.a=t.a)(f:s.b=t.b)(h:s.c=t.c):decide (s.Lt t)=X3:=by rw[aqj e f,h];simp[H.lt_irrefl]
def jX(ls bs:List T3):List T3:=ls.merge bs λx y=>!decide (y.Lt x)
def amp(bs:List T3):jX [] bs=bs:=by simp[jX]
def ada(ls:List T3):jX ls []=ls:=by simp[jX]
def amq{bs:List T3}{x y:T3}(h:y.Lt x):jX (x::ls) (y::bs)=y::jX (x::ls) bs:=by simp[jX,List.cons_merge_cons,h]
def amr{bs:List T3}{x y:T3}(h:¬y.Lt x):jX (x::ls) (y::bs)=x::jX ls (y::bs):=by simp[jX,List.cons_merge_cons,h]
def Lj{α:Type}{l:List α}{i:Nat}{x:α}(h:l[i]? = X4 x):l.drop i=x::l.drop (i+1):=by
 obtain⟨h1,h2⟩:=ao.1 h;rw[List.drop_eq_getElem_cons h1,h2]
def adb(ts:List T3)(k:Nat):jX (wQ (ts.take k)) (wQ (ts.drop k))=wQ ts:=by
 refine Dr ?_ ?_ (sN ts)
 . refine (List.merge_perm_append ..).trans (((uR _).append (uR _)).trans ?_)
   rw[List.take_append_drop];exact (uR ts).symm
 have:=List.pairwise_merge (le:=λx y:T3=>!decide (y.Lt x)) ?_ ?_ (wQ (ts.take k)) (wQ (ts.drop k)) ((sN _).imp λ{a b} h=>by simpa[vQ] using h) ((sN _).imp λ{a b} h=>by simpa[vQ] using h)
 .exact this.imp λ{a b} h=>by simpa[vQ] using h
 . intro a b c h1 h2
   simp only[fp,Y1] at *
   exact Ot (s:=a) (t:=b) (u:=c) h1 h2
 intro a b
 simp only[fh,fp,Y1];by_cases h:b.Lt a
 .exact .inr λk=>T3.lt_irrefl a (T3.lt_trans k h)
 exact .inl h
def Pd(h:ts.length<2):wQ ts=ts:=by
 rcases ts with _ | ⟨t,_ | ⟨u,ts⟩⟩
 .rfl
 .rfl
 simp at h;omega
def ams  : dF prog 218 [tr s,tr t] (.bool (decide (s.Lt t))):=by
 intro w;refine⟨bJ func218 (by kernel_rfl),?_⟩;have m:=Mem.refl w
 go_enter func218,ntmps218
 apply gH 25 [4,1,0] m;simp only[↓U];intro i j;apply I0;omega;intro u m;refine mq m aB (by kernel_rfl) (cX 7 [2,1] ?_);simp only[↓U,bQ,aP,ad,ag,aa];refine⟨_,lQ,by omega,?_⟩;refine aZ ?_;intro u m;refine gc (bC O (λd=>?_) (λd=>?_))
 .have g:=as6 d;apply L 1 [0] m;simp only[↓U];refine mq m aB (by kernel_rfl) (cX 6 [2,1] ?_);simp only[↓U,bQ,aP,ad,ag,aa];apply I0;omega;refine eH O O (lR (p:=s.a) (q:=t.a)) (aK aM (aZ ?_));intro u m;apply aT 1 [] m;simp only[↓U];refine aS O O ?_;try simp only[zD,zE]
  exact⟨_,O,m.ext,by rw[auY g]⟩
 have ea:=as7 d;apply L 19 [1,0] m;simp only[↓U,an];apply I0;omega;refine mq m aB (by kernel_rfl) (cX 7 [2,1] ?_);simp only[↓U,bQ,aP,ad,ag,aa];refine⟨_,lQ,by omega,?_⟩;refine aZ ?_;intro u m;refine gc (bC O (λd=>?_) (λd=>?_))
 .have h:=as6 d;apply L 1 [0] m;simp only[↓U];refine mq m aB (by kernel_rfl) (cX 6 [2,1] ?_);simp only[↓U,bQ,aP,ad,ag,aa];apply I0;omega;refine eH O O (lR (p:=s.b) (q:=t.b)) (aK aM (aZ ?_));intro u m;apply aT 1 [] m;simp only[↓U];refine aS O O ?_;try simp only[zD,zE]
  exact⟨_,O,m.ext,by rw[auZ ea h]⟩
 have e:=as7 d;apply L 19 [1,0] m;simp only[↓U,an];apply I0;omega;refine mq m aB (by kernel_rfl) (cX 7 [2,1] ?_);simp only[↓U,bQ,aP,ad,ag,aa];refine⟨_,lQ,by omega,?_⟩;refine aZ ?_;intro u m;refine gc (bC O (λd=>?_) (λd=>?_))
 .have hc:=as6 d;apply L 1 [0] m;simp only[↓U];refine mq m aB (by kernel_rfl) (cX 6 [2,1] ?_);simp only[↓U,bQ,aP,ad,ag,aa];apply I0;omega;refine eH O O (lR (p:=s.c) (q:=t.c)) (aK aM (aZ ?_));intro u m;apply aT 1 [] m;simp only[↓U];refine aS O O ?_;try simp only[zD,zE]
  exact⟨_,O,m.ext,by rw[aqj ea e]⟩
 have f:=as7 d;apply L 21 [2] m;simp only[↓U,an];apply I0;omega;refine aS O O ?_;try simp only[zD,zE]
 exact⟨_,O,m.ext,by rw[au0 ea e f]⟩
def amt{ms:List T3}{M J:Nat}{C:Option Addr}(w:ak)(E:bW w A N ls)(p:bW w C M ms)(W:M<=J)(hN:N+M<=10000000):cY prog 145 [.slice A N cap,.slice C M J] w (SL 39 9 ((jX ls ms).flatMap aL) (N+M) w):=by
 refine⟨bJ func145 (by kernel_rfl),?_⟩;have m:=Mem.refl w;have ae:=E.len;have V:=p.len
 go_enter func145,ntmps145
 apply fF 6 [0] m;simp only[↓U];refine aD aM ?_;replace m:=m.nilO 39 9;apply aH 11 [0] m;simp only[↓U];refine bT [5,6,7] [8,9,10,11,12,13,14,15,16,17,18,19,20,21,22,23,24,25,26,27,28,29,30,31,32,33,34,35,36,37,38,39,40,41,42,43,44,45] (λn vs r=>∃(i j:Nat) (xs:List T3) (c:Option Addr) (d:Nat),vs=[.slice c (i+j) d,X6 (j:Int),X6 (i:Int)]/\Mem w r [oI 39 9 c (i+j) d (xs.flatMap aL)]/\(xs++jX (ls.drop i) (ms.drop j)=jX ls ms)/\(i<=N)/\(j<=M)/\(n=N-i)) ?_ ?_
 .exact⟨_,0,0,[],_,_,O,m,O,bn _,bn _,O⟩
 intro n vs wr e u Y H
 obtain⟨i,j,xs,c,d,rfl,m,e,hi,l,hn⟩:=e;simp only[zu,zF,zG];apply L 8 [0,0] m;simp only[↓U,gM];refine bC O ?_ ?_<;>intro aa
 .obtain⟨x,q,_,a,P,B⟩:=E.get (i:=i) (by omega);subst P;apply L 5 [0] m;simp only[↓U];refine bT [5,6] [8,15,16,17,18,19,20,21,22,23,24,25,26,27,28,29,30,31,32,33,34,35,36,37,38] (λn vs r=>∃(j:Nat) (xs:List T3) (c:Option Addr) (d:Nat),vs=[.slice c (i+j) d,X6 (j:Int)]/\Mem w r [oI 39 9 c (i+j) d (xs.flatMap aL)]/\(xs++jX (ls.drop i) (ms.drop j)=jX ls ms)/\(j<=M)/\(n=M-j)) ?_ ?_
  .exact⟨_,j,xs,_,_,O,m,e,l,O⟩
  intro n vs wr e u K2 S
  obtain⟨j,xs,c,d,rfl,m,v,l,ad⟩:=e;simp only[zu,zF,zG];apply L 8 [0,0] m;simp only[↓U,gM];refine bC O ?_ ?_<;>intro ab
  .obtain⟨y,F,_,a2,Q,K⟩:=p.get (i:=j) (by omega);subst Q;apply L 3 [0] m;simp only[↓U];refine mh m [Z] [(0,Z),(1,Z),(2,Z),(4,Z),(5,Z),(6,Z),(3,Z),(7,Z),(8,X3),(9,Z)] aB (by kernel_rfl) (bS (λ_ _ _ _ _ h=>h)) (ol:=?_) ?T ?_
   case T=>simp only[zw,zQ,zR];try rfl
   intro u m;refine Fq 8 [0,1,0,1] ?_;simp only[↓U,fR,ah,ai];refine⟨_,λu m=>((K.ext m.ext).lies cD aW),_,λu m=>((B.ext m.ext).lies cD aW),by omega,?_⟩;refine bO (jG m O O (ams (s:=y) (t:=x)) ?_);intro u m;refine aI ⟨m,?_⟩;refine bG aM (bR ?_);apply aT 6 [0] m;simp only[↓U];refine cL O ?_ ?_<;>intro I
   .have z:(xs++[x])++jX (ls.drop (i+1)) (ms.drop j)=jX ls ms:=by rw[<-v,Lj q,Lj F,amr (by simpa using I),cn];rfl
    apply L 7 [0,1,0] m;simp only[↓U,fR,ah,ai];refine⟨_,λu m=>((B.ext m.ext).lies cD aW),by omega,?_⟩;refine fE O ?_;intro u D f g k;replace m:=m.newB f g k;simp only[G];refine bN m 1 O O fC iO O (by decide) O O O (m.b 0 O).rowsO (fN O) (by omega) (by omega) ?_;intro c d u m;simp only[zF,zG] at m;rw[show xs.flatMap aL++_=(xs++[x]).flatMap aL by rw[aw];rfl] at m;apply aH 8 [0] m;simp only[↓U];apply I0;omega;rw[show i+j+1=i+1+j by omega] at m ⊢;exact H (N-(i+1)) _ _ (by omega) (by kernel_rfl) ⟨i+1,j,xs++[x],_,_,O,(m.sel [X3,Z]),z,by omega,l,O⟩
   have R:(xs++[y])++jX (ls.drop i) (ms.drop (j+1))=jX ls ms:=by rw[<-v,Lj q,Lj F,amq (by simpa using I),cn];rfl
   apply L 8 [0,1,0] m;simp only[↓U,fR,ah,ai];refine⟨_,λu m=>((K.ext m.ext).lies cD aW),by omega,?_⟩;refine fE O ?_;intro u D f g k;replace m:=m.newB f g k;simp only[G];refine bN m 1 O O fC iO O (by decide) O O O (m.b 0 O).rowsO (fN O) (by omega) (by omega) ?_;intro c d u m;simp only[zF,zG] at m;rw[show xs.flatMap aL++_=(xs++[y]).flatMap aL by rw[aw];rfl] at m;apply aH 8 [0] m;simp only[↓U];apply I0;omega;rw[show i+j+1=i+(j+1) by omega] at m ⊢;exact S (M-(j+1)) _ _ (by omega) (by kernel_rfl) ⟨j+1,xs++[y],_,_,O,(m.sel [X3,Z]),R,by omega,O⟩
  obtain rfl:j=M:=by omega
  have z:(xs++[x])++jX (ls.drop (i+1)) (ms.drop j)=jX ls ms:=by rw[<-v,Lj q,show ms.drop j=[] from gq (by omega),ada,ada,cn];rfl
  apply L 7 [0,1,0] m;simp only[↓U,fR,ah,ai];refine⟨_,λu m=>((B.ext m.ext).lies cD aW),by omega,?_⟩;refine fE O ?_;intro u D f g k;replace m:=m.newB f g k;simp only[G];refine bN m 1 O O fC iO O (by decide) O O O (m.b 0 O).rowsO (fN O) (by omega) (by omega) ?_;intro c d u m;simp only[zF,zG] at m;rw[show xs.flatMap aL++_=(xs++[x]).flatMap aL by rw[aw];rfl] at m;apply aH 8 [0] m;simp only[↓U];apply I0;omega;rw[show i+j+1=i+1+j by omega] at m ⊢;exact H (N-(i+1)) _ _ (by omega) (by kernel_rfl) ⟨i+1,j,xs++[x],_,_,O,(m.sel [X3,Z]),z,by omega,l,O⟩
 obtain rfl:i=N:=by omega
 have X:xs++ms.drop j=jX ls ms:=by rw[<-e,show ls.drop i=[] from gq (by omega),amp]
 apply L 6 [0] m;simp only[↓U];refine aD (uO fC aW O O (ah _) (by omega) (by omega) O) ?_;simp only[G];refine bN m 0 O O fC iO O (by decide) O O (by rw[Ex,List.length_drop,V]) ((p.lat.ext m.ext).cellsD anA (by decide) W) (xW _) (by omega) (by omega) ?_;intro c d u m;simp only[zF,zG] at m;rw[<-aw,X] at m;apply aH 3 [] m;simp only[↓U];exact aS O O ⟨_,O,m.ext,⟨_,_,_,by omega,O,(m.o 0 O)⟩⟩
def adc(A:Option Addr)(N cap:Nat)(ts:List T3)(w:ak)(v:aj)(w':ak):Prop:=(v=.slice A N cap/\N<2)\/SL 39 9 ((wQ ts).flatMap aL) N w v w'
theorem afr(h:IT t):IT (dB t):=by
 unfold dB;split
 .exact⟨h.c,h.a,h.b⟩
 split
 .exact⟨h.b,h.c,h.a⟩
 exact h
theorem apd(h:∀t∈ts,IT t):∀t∈wQ ts,IT t:=λt a=>h t ((uR ts).mem_iff.1 a)
def adc.view{w':ak}{v:aj}(h:adc A N cap ts w v w')(a:bW w' A N ts)(hc:N<=cap):∃B c,v=.slice B N c/\bW w' B N (wQ ts)/\N<=c:=by
 rcases h with ⟨rfl,h⟩ | ⟨B,c,n,rfl,rfl,b⟩
 .exact⟨_,_,O,by rw[Pd (by rw[a.len];exact h)];exact a,hc⟩
 exact⟨B,c,O,b.tris (apd a.it),b.le⟩
def amu(w:ak)(ih:∀{us:List T3} {M c:Nat} {B:Option Addr} (u:ak),bW u B M us->M<=c->M<N->cY prog 85 [.slice B M c] u (adc B M c us u))(a:bW w A N ts)(d:N<=cap)(C:N<=10000000):cY prog 85 [.slice A N cap] w (adc A N cap ts w):=by
 refine⟨bJ func85 (by kernel_rfl),?_⟩;have m:=Mem.refl w;have H:=a.len
 go_enter func85,ntmps85
 apply fF 11 [0,0] m;simp only[↓U,gM];refine bC O ?_ ?_<;>intro D
 .apply L 6 [] m;simp only[↓U];exact aS O O ⟨_,O,m.ext,.inl ⟨O,by omega⟩⟩
 apply L 5 [0] m;simp only[↓U,gM];refine aD (iU O O (by omega) (show IntKind.i64.wrap ((N:Int).tdiv 2)=((N / 2:Nat):Int) from (show IntKind.i64.wrap ((N / 2:Nat):Int)=((N / 2:Nat):Int) from bZ (by omega) (by omega)))) ?_;apply aH 3 [0] m;simp only[↓U];refine mh m [] [(0,Z),(1,Z),(2,Z),(4,Z),(5,Z),(6,Z),(3,X3),(7,X3),(8,X3),(9,Z)] aB (by kernel_rfl) (bS (λ_ _ _ _ _ h=>h)) (ol:=?_) ?r ?_
 case r=>simp only[zw,zQ,zR];try rfl
 intro u m;refine bG aJ (bG aJ ?_);simp only[G];refine bG (nK fC aW O O (show _=N / 2 by omega) (by omega) (by omega)) (bG aJ (bG aJ ?_));simp only[G];refine bG (uO fC aW O O (show _=N / 2 by omega) (by omega) (by omega) O) (bO ?_);simp only[G];refine bF O O (ih _ ((a.ext m.ext).takeL (k:=N / 2) (by omega)) (by omega) (by omega)) ?_;rintro v u e i;replace m:=m.ext' e;obtain⟨t,y,rfl,b,E⟩:=i.view ((a.ext m.ext).takeL (k:=N / 2) (by omega)) (by omega);clear e;refine aI ⟨m,?_⟩;refine bO ?_;simp only[G];refine bF O O (ih _ ((a.ext m.ext).dropL (k:=N / 2) (cap:=cap) (by omega) d) (by omega) (by omega)) ?_;rintro v u e n;replace m:=m.ext' e;replace b:=b.ext e;obtain⟨x,z,rfl,p,q⟩:=n.view ((a.ext m.ext).dropL (k:=N / 2) (cap:=cap) (by omega) d) (by omega);clear e;refine aI ⟨m,?_⟩;refine bO ?_;simp only[G];refine bF O O (amt _ b p q (by omega)) ?_;rintro v u g ⟨f,s,l,F,rfl,j⟩;replace m:=m.newO g j;refine aI ⟨m.sel [X3],?_⟩;refine bG aM (bR ?_);apply aT 1 [] m;simp only[↓U];exact aS O O ⟨_,O,m.ext,.inr ⟨f,s,l,by omega,O,by rw[<-adb ts (N / 2)];exact (m.o 0 O)⟩⟩
def agQ:∀(n:Nat) {ts:List T3} {N cap:Nat} {A:Option Addr} (w:ak),bW w A N ts->N<=cap->N<=10000000->N<n->cY prog 85 [.slice A N cap] w (adc A N cap ts w)
 | 0,_,_,_,_,_,_,_,_,h=>Z8 h (jm _)
 | n+1,_,N,_,_,w,b,hc,a,h=>amu w (λu c d e=>agQ n u c d (by omega) (by omega)) b hc a
def as8{w0 w:ak}{A:Option Addr}{N cap:Nat}{xs:List T3}(m:Mem w0 w [oI 39 9 A N cap (xs.flatMap aL)])(f:∀t∈xs,IT t)(g:N<=10000000) :
 wV prog 85 [.slice A N cap] w λv w'=>∃B c,v=.slice B N c/\Mem w0 w' [oI 39 9 B N c ((wQ xs).flatMap aL)]:=by
 have a:=m.o 0 rfl;have b:=agQ (N+1) w (a.tris f) a.le g (fx N);refine⟨b.1,b.2.mono ?_⟩;rintro e w' ⟨v,rfl,d,⟨rfl,h⟩ | ⟨B,c,n,rfl,rfl,i⟩⟩
 .exact⟨_,O,A,cap,O,by rw[Pd (by rw[(a.tris f).len];exact h)];exact m.ext' d⟩
 exact⟨_,O,B,c,O,(m.newO d i).sel [Z,X3]⟩
def Ek(w:ak)(e:bW w A N ts)(D:N<=10000000):cY prog 40 [.slice A N cap] w (SL 39 9 ((aV ts).flatMap aL) ts.length w):=by
 refine⟨bJ func40 (by kernel_rfl),?_⟩;have m:=Mem.refl w;have x:=e.len
 go_enter func40,ntmps40
 apply fF 6 [0] m;simp only[↓U];refine aD aM ?_;replace m:=m.nilO 39 9;apply aH 7 [0] m;simp only[↓U];refine bT [3,4] [5,6,7,8,9,10,11,12,13,14,15,16,17,18] (λn vs q=>∃(k:Nat) (c:Option Addr) (d:Nat),vs=[.slice c k d,X6 (k:Int)]/\Mem w q [oI 39 9 c k d (((ts.take k).map dB).flatMap aL)]/\(k<=N)/\(n=N-k)) ?_ ?_
 .exact⟨_,0,_,_,O,m,bn _,O⟩
 intro n vs wr j u B r
 obtain⟨k,c,d,rfl,m,E,F⟩:=j;simp only[zu,zF,zG];apply L 8 [0,0] m;simp only[↓U,gM];refine bC O ?_ ?_<;>intro H
 .obtain⟨t,f,_,a,h,y⟩:=e.get (i:=k) (by omega);subst h;apply L 9 [0,1,0] m;simp only[↓U,fR,ah,ai];refine⟨_,λu m=>((y.ext m.ext).lies cD aW),by omega,?_⟩;refine jG m O O (Ns (t:=t)) ?_;intro u m;simp only[G];refine fE O ?_;intro u C g l p;replace m:=m.newB g l p;simp only[G];refine bN m 1 O O fC iO O (by decide) O O O (m.b 0 O).rowsO (fN O) (by omega) (by omega) ?_;intro c d u m;simp only[zF,zG] at m;rw[show ((ts.take k).map dB).flatMap aL++_=((ts.take (k+1)).map dB).flatMap aL by rw[bV f,de,aw];rfl] at m;apply aH 8 [0] m;simp only[↓U];apply I0;omega;exact r (N-(k+1)) _ _ (by omega) (by kernel_rfl) ⟨k+1,_,_,O,(m.sel [X3,Z]),by omega,O⟩
 obtain rfl:k=N:=by omega
 rw[show ts.take k=ts from au (by omega)] at m;apply L 4 [0] m;simp only[↓U];refine kA rfl rfl (as8 m (λt f=>by obtain⟨s,hs,rfl⟩:=dj.1 f;exact afr (e.it s hs)) (by omega)) ?_;rintro v u ⟨z,I,rfl,m⟩;apply aH 3 [] m;simp only[↓U];exact aS O O ⟨_,O,m.ext,⟨_,_,_,x.symm,O,(m.o 0 O)⟩⟩
def amv{p:H}:(decide (p.x=t.a.x/\p.y=t.a.y/\p.z=t.a.z)||decide (p.x=t.b.x/\p.y=t.b.y/\p.z=t.b.z)||decide (p.x=t.c.x/\p.y=t.c.y/\p.z=t.c.z))=t.has p:=by
 have e:∀p q:H,(p.x=q.x/\p.y=q.y/\p.z=q.z)↔p=q:=λp q=>⟨λh=>H.eq h.1 h.2.1 h.2.2,λh=>by rw[h];exact⟨O,O,O⟩⟩
 rw[fy,eF];simp only[fh,R,e,X0]
def au1  : (decide (¬(t.a.x=t.b.x/\t.a.y=t.b.y/\t.a.z=t.b.z))&&decide (¬(t.b.x=t.c.x/\t.b.y=t.c.y/\t.b.z=t.c.z))&&decide (¬(t.c.x=t.a.x/\t.c.y=t.a.y/\t.c.z=t.a.z)))=t.nd:=by rw[pne,pne,pne];rfl
def Pe{p:H}:dF prog 178 [pt p,tr t] (.bool (t.has p)):=by
 intro w;refine⟨bJ func178 (by kernel_rfl),?_⟩;have m:=Mem.refl w
 go_enter func178,ntmps178
 apply gH 19 [2,1,5,2,1,5,2,1] m;simp only[↓U,aP,bQ,ad,ag,aa];refine λa=>λb=>⟨_,eQ,_,eQ,λ_=>⟨_,eQ,λ_=>⟨by omega,?_⟩⟩⟩
 intro u m;refine aS O O ?_;try simp only[zD,zE]
 exact⟨_,O,m.ext,by rw[amv]⟩
def Vd{p:H}:dF prog 56 [tr t,pt p,pt q] (tr (gX p q t)):=by
 intro w;refine⟨bJ func56 (by kernel_rfl),?_⟩;have m:=Mem.refl w
 go_enter func56,ntmps56
 apply gH 26 [4,1,0] m;simp only[↓U,lL];intro f o r s;apply I0;omega;intro u m;refine mq m aB (by kernel_rfl) (cX 5 [4,3] ?_);simp only[↓U,bQ,aP,ad,ag,aa];refine⟨_,eQ,by omega,?_⟩;refine aZ ?_;intro u m;refine gc (gY m 3 [] [17,18,19] (λvs i=>vs=[]/\i=bI f [X6 (gK p q t.a).x,X6 (gK p q t.a).y,X6 (gK p q t.a).z,X6 (t.b).x,X6 (t.b).y,X6 (t.b).z,X6 (t.c).x,X6 (t.c).y,X6 (t.c).z] 39) ?_ ?_)
 . intro k g
   refine bC O ?_ ?_<;>intro d
   .apply xI 6 [2,3,0] m;simp only[↓U,aP,bQ,ad,ag,aa];apply I0;omega;intro u m;exact g _ _ _ (by kernel_rfl) m ⟨O,by rw[Yx d] <;> rfl⟩
   apply L 1 [0] m;simp only[↓U];exact g _ _ _ (by kernel_rfl) m ⟨O,by rw[Nb d] <;> rfl⟩
 intro vs i wr m e u
 obtain⟨rfl,rfl⟩:=e;simp only[zF,zG] at m;simp only[zu,zF,zG];apply aT 18 [1,0] m;simp only[↓U,an];apply I0;omega;refine mq m aB (by kernel_rfl) (cX 5 [4,3] ?_);simp only[↓U,bQ,aP,ad,ag,aa];refine⟨_,eQ,by omega,?_⟩;refine aZ ?_;intro u m;refine gc (gY m 3 [] [17,18,19] (λvs i=>vs=[]/\i=bI f [X6 (gK p q t.a).x,X6 (gK p q t.a).y,X6 (gK p q t.a).z,X6 (gK p q t.b).x,X6 (gK p q t.b).y,X6 (gK p q t.b).z,X6 (t.c).x,X6 (t.c).y,X6 (t.c).z] 39) ?_ ?_)
 . intro l h
   refine bC O ?_ ?_<;>intro d
   .apply xI 6 [2,3,0] m;simp only[↓U,aP,bQ,ad,ag,aa];apply I0;omega;intro u m;exact h _ _ _ (by kernel_rfl) m ⟨O,by rw[Yx d] <;> rfl⟩
   apply L 1 [0] m;simp only[↓U];exact h _ _ _ (by kernel_rfl) m ⟨O,by rw[Nb d] <;> rfl⟩
 intro vs i wr m e u
 obtain⟨rfl,rfl⟩:=e;simp only[zF,zG] at m;simp only[zu,zF,zG];apply aT 18 [1,0] m;simp only[↓U,an];apply I0;omega;refine mq m aB (by kernel_rfl) (cX 5 [4,3] ?_);simp only[↓U,bQ,aP,ad,ag,aa];refine⟨_,eQ,by omega,?_⟩;refine aZ ?_;intro u m;refine gc (gY m 3 [] [17,18,19] (λvs i=>vs=[]/\i=bI f [X6 (gK p q t.a).x,X6 (gK p q t.a).y,X6 (gK p q t.a).z,X6 (gK p q t.b).x,X6 (gK p q t.b).y,X6 (gK p q t.b).z,X6 (gK p q t.c).x,X6 (gK p q t.c).y,X6 (gK p q t.c).z] 39) ?_ ?_)
 . intro n j
   refine bC O ?_ ?_<;>intro d
   .apply xI 6 [2,3,0] m;simp only[↓U,aP,bQ,ad,ag,aa];apply I0;omega;intro u m;exact j _ _ _ (by kernel_rfl) m ⟨O,by rw[Yx d] <;> rfl⟩
   apply L 1 [0] m;simp only[↓U];exact j _ _ _ (by kernel_rfl) m ⟨O,by rw[Nb d] <;> rfl⟩
 intro vs i wr m e u
 obtain⟨rfl,rfl⟩:=e;simp only[zF,zG] at m;simp only[zu,zF,zG];apply Mr 21 [2,4,0] m;simp only[↓U,dM,an,aa];apply I0;omega;intro u m;exact aS O ⟨_,O,((m.b 0 O).full cD aW)⟩ ⟨_,O,m.ext,O⟩
def oP{p:H}(w:ak)(d:uD bH 3 w A N xs)(t:N<=100000000):cY prog 107 [.slice A N cap,pt p] w (λv _=>v=.bool (decide (p∈xs))):=by
 refine⟨bJ func107 (by kernel_rfl),?_⟩;have m:=Mem.refl w;have E:=d.len
 go_enter func107,ntmps107
 apply gH 11 [0] m;simp only[↓U];intro g u m;refine bT [5] [4,6,7,8,9,10,11,12,13,14,15,16,17] (λn vs o=>∃(k:Nat),vs=[X6 (k:Int)]/\Mem w o [bI g [X6 p.x,X6 p.y,X6 p.z] 30]/\(p∉xs.take k)/\(k<=N)/\(n=N-k)) ?_ ?_
 .exact⟨_,0,O,m,(by simp),bn _,O⟩
 intro n vs wr l u s q
 obtain⟨k,rfl,m,hq,B,C⟩:=l;simp only[zu,zF,zG];apply L 8 [0,0] m;simp only[↓U,gV];refine bC O ?_ ?_<;>intro D
 .obtain⟨x,f,a,j,r⟩:=d.get (i:=k) (by omega);subst j;apply L 4 [0] m;simp only[↓U];refine mq m aB (by kernel_rfl) (cX 6 [0,0,1] ?_);simp only[↓U,gG,aP,ah,ai];refine⟨_,λu m=>(show dQ _ _ _ _ (pt x) from (r.ext m.ext).lies aG aA),_,eQ,by omega,?_⟩;refine aZ ?_;intro u m;refine gc (bC O (λb=>?_) (λb=>?_))
  .have c:x=p:=H.eq b.1 b.2.1 b.2.2;apply L 5 [] m;simp only[↓U];refine aS O O ?_;try simp only[zD,zE]
   exact⟨_,O,m.ext,by rw[Y0 (c▸bf f)]⟩
  have c:x≠p:=λh=>b (by rw[h];exact⟨O,O,O⟩);apply L 7 [0] m;simp only[↓U];apply I0;omega;exact q (N-(k+1)) _ _ (by omega) (by kernel_rfl) ⟨k+1,O,m,(by rw[bV f,bh,a_];exact λh=>h.elim hq λe=>c e.symm),by omega,O⟩
 obtain rfl:k=N:=by omega
 apply L 6 [] m;simp only[↓U];refine aS O O ?_;try simp only[zD,zE]
 exact⟨_,O,m.ext,by rw[Y (by rwa [au (by omega)] at hq)]⟩
def Pf{p:H}[I3 p][I3 q](w:ak)(j:bW w A N ts)(Y:N<=10000000):cY prog 23 [.slice A N cap,pt p,pt q] w (SL 39 9 ((eD ts p q).flatMap aL) (eD ts p q).length w):=by
 refine⟨bJ func23 (by kernel_rfl),?_⟩;have m:=Mem.refl w;have ae:=j.len
 go_enter func23,ntmps23
 apply gH 8 [0] m;simp only[↓U];intro B C u m;refine aD aM ?_;replace m:=m.nilO 39 9;apply aH 7 [0] m;simp only[↓U];refine bT [7,8] [9,10,11,12,13,14,15,16,17,18,19,20,21,22,23,24,25,26,27,28,29,30,31,32,33,34,35,36,37,38,39,40,41,42,43,44,45] (λn vs K=>∃(k:Nat) (f:Option Addr) (h:Nat),vs=[.slice f (lW p q (ts.take k)).length h,X6 (k:Int)]/\Mem w K [oI 39 9 f (lW p q (ts.take k)).length h ((lW p q (ts.take k)).flatMap aL),bI C [X6 q.x,X6 q.y,X6 q.z] 30,bI B [X6 p.x,X6 p.y,X6 p.z] 30]/\(k<=N)/\(n=N-k)) ?_ ?_
 .exact⟨_,0,_,_,O,m,bn _,O⟩
 intro n vs wr E u T r
 obtain⟨k,f,h,rfl,m,hk,hn⟩:=E;simp only[zu,zF,zG];apply L 8 [0,0] m;simp only[↓U,gM];refine bC O ?_ ?_<;>intro ab
 .obtain⟨t,F,_,a,D,R⟩:=j.get (i:=k) (by omega);subst D;have d:=Zi (p:=p) (q:=q) F;have M:=Ju p q (ts.take k);rw[bj] at M;apply L 4 [0] m;simp only[↓U];refine dR 8 [0,1,2,3,4,5,6] [⟨7,9,39,[X6 0,X6 0,X6 0,X6 0,X6 0,X6 0,X6 0,X6 0,X6 0]⟩] aB (by kernel_rfl) (al1 ⟨_,_,_,O,by kernel_rfl,_,anU,O⟩) (ol:=?_) ?Q ?_
  case Q=>simp only[zw,zQ,zR];try rfl
  intro u c;replace m:=m.ext' c;refine eG aJ (eG aJ ?_);simp only[G];refine eG (aR fC aW O O (by omega) (by omega) (tM (ah _))) ?_;simp only[G];refine cO O (λu e=>((R.ext (m.ext' e).ext).lies cD aW)) ?_;simp only[G];refine cO O (λu e=>(((m.ext' e).b 2 O).full aG aA)) ?_;simp only[G];refine cO O (λu e=>(((m.ext' e).b 1 O).full aG aA)) ?_;simp only[G];refine cM O O (Vd (t:=t) (p:=p) (q:=q)) (vB ?_);simp only[G];refine mf1 m ?_;intro V u m;simp only[zJ,zK,zF,zG];refine bP m 0 O O O aW (gS O) O ?_;intro u m;simp only[zy,zx,over,zF,zG,aa] at m;refine aI ?_;apply aT 12 [1,1,6,1,1,6,1,1,0] m;simp only[↓U,bQ,aP,ad,ag,aa];refine⟨_,lQ,_,lQ,λ_=>⟨_,lQ,λ_=>⟨by omega,?_⟩⟩⟩;refine cL O ?_ ?_<;>intro g
  .rw[au1] at g;rw[g,J rfl] at d;apply L 3 [1,0] m;simp only[↓U,dM];refine fE O ?_;intro u W c l I;replace m:=m.newB c l I;simp only[G];refine bN m 2 O O fC iO O (by decide) O O O (m.b 0 O).rowsO (fN O) (by omega) (by omega) ?_;intro f h u m;simp only[zF,zG] at m;rw[show (lW p q (ts.take k)).flatMap aL++_=(lW p q (ts.take (k+1))).flatMap aL by rw[d,aw];rfl] at m;have s:(lW p q (ts.take k)).length+1=(lW p q (ts.take (k+1))).length:=by rw[d,aq];rfl
   rw[s] at m;rw[s];apply aH 8 [0] m;simp only[↓U];apply I0;omega;exact r (N-(k+1)) _ _ (by omega) (by kernel_rfl) ⟨k+1,_,_,O,(m.sel [X3,X3,Z,Z,Z]),by omega,O⟩
  rw[au1] at g;rw[g,X fg,fb] at d;apply L 7 [0] m;simp only[↓U];apply I0;omega;rw[<-d] at m ⊢;exact r (N-(k+1)) _ _ (by omega) (by kernel_rfl) ⟨k+1,_,_,O,(m.sel [X3,Z,Z,Z]),by omega,O⟩
 obtain rfl:k=N:=by omega
 rw[show ts.take k=ts from au (by omega)] at m ⊢;apply L 4 [0] m;simp only[↓U];refine bF O O (Ek (ts:=lW p q ts) _ ((m.o 0 O).tris (Fv Y7 j.it)) (by have:=Ju p q ts;omega)) ?_;rintro v u c ⟨S,af,n8,P,rfl,l⟩;replace m:=m.newO c l;apply aH 3 [] m;simp only[↓U];exact aS O O ⟨_,O,m.ext,⟨_,_,_,by rw[P,Uo],O,(m.o 0 O)⟩⟩
def abt{a:Addr}(h:kV w a (aL t))(b:j<3):kV w (a.add (j*3)) (bH (t.cor j)):=by
 rcases j with _ | _ | _ | j
 .exact (h.sub 0).take 3
 .exact (h.sub 3).take 3
 .exact (h.sub 6).take 3
 omega
def as9{p:H}{o:List H}(h:t.has p=Z):Kx p o t=(yT t).foldl (Kv p) o:=by unfold Kx;rw[J h];rfl
def ata{p:H}{o:List H}(h:t.has p=X3):Kx p o t=o:=by unfold Kx;rw[X (by rw[h];exact fg)]
def Zo{p:H}(h:ts[k]? = X4 t):(ts.take (k+1)).foldl (Kx p) []=Kx p ((ts.take k).foldl (Kx p) []) t:=by rw[bV h,ir];rfl
def Zp{p:H}{o:List H}(a:j<3):((yT t).take (j+1)).foldl (Kv p) o=Kv p (((yT t).take j).foldl (Kv p) o) (t.cor j):=by rw[bV (abn a),ir];rfl
def atb{p:H}{o:List H}{b:Bool}(a:b=decide (q∈o))(h:(decide (q≠p) && !b)=Z):Kv p o q=o++[q]:=by
 subst a;simp only[bg,R,fp,Y1] at h;exact J h
def atc{p:H}{o:List H}{b:Bool}(a:b=decide (q∈o))(h:(decide (q≠p) && !b)=X3):Kv p o q=o:=by
 subst a;refine X λk=>?_;rw[Y0 k.1,Y k.2] at h;cases h
def Ve{p:H}(w:ak)(D:bW w A N ts)(hN:N<=10000000):cY prog 106 [.slice A N cap,pt p] w (SL 30 3 ((fS ts p).flatMap bH) (fS ts p).length w):=by
 refine⟨bJ func106 (by kernel_rfl),?_⟩;have m:=Mem.refl w;have ad:=D.len
 go_enter func106,ntmps106
 apply gH 7 [0] m;simp only[↓U];intro C u m;refine aD aM ?_;replace m:=m.nilO 30 3;apply aH 7 [0] m;simp only[↓U];refine bT [5,6] [7,8,9,10,11,12,13,14,15,16,17,18,19,20,21,22,23,24,25,26,27,28,29,30,31,32,33,34,35,36,37,38,39,40,41,42,43,44,45,46,47,48,49,50,51,52,53,54,55] (λn vs s=>∃(k:Nat) (xs:List H) (d:Option Addr) (e:Nat),vs=[.slice d xs.length e,X6 (k:Int)]/\Mem w s [oI 30 3 d xs.length e (xs.flatMap bH),bI C [X6 p.x,X6 p.y,X6 p.z] 30]/\(xs=(ts.take k).foldl (Kx p) [])/\(xs.length<=3*k)/\(k<=N)/\(n=N-k)) ?_ ?_
 .exact⟨_,0,[],_,_,O,m,O,bn _,bn _,O⟩
 intro n vs wr r u W I
 obtain⟨k,xs,d,e,rfl,m,g,ae,hk,hn⟩:=r;simp only[zu,zF,zG];apply L 8 [0,0] m;simp only[↓U,gM];refine bC O ?_ ?_<;>intro aa
 .obtain⟨t,F,_,a,Q,q⟩:=D.get (i:=k) (by omega);subst Q;apply L 4 [0] m;simp only[↓U];refine mq m aB (by kernel_rfl) (cX 5 [2,0,1] ?_);simp only[↓U,aP,fR,ah,ai];refine⟨_,λu m=>((q.ext m.ext).lies cD aW),by omega,?_⟩;refine eH O O (Pe (t:=t) (p:=p)) (aK aM (aZ ?_));intro u m;apply aT 1 [] m;simp only[↓U];cases E:t.has p
  .apply aT 23 [2,1,0,0] m;simp only[↓U];apply I0;omega;exact I (N-(k+1)) _ _ (by omega) (by kernel_rfl) ⟨k+1,xs,_,_,O,m,(by rw[Zo F,<-g,ata E]),(by omega),(by omega),O⟩
  apply aT 4 [0] m;simp only[↓U];refine bT [5,8] [21,22,23,24,25,26,27,28,29,30,31,32,33,34,35,36,37,38,39,40,41,42,43,44,45,46,47,48,49,50,51,52,53,54,55] (λn vs s=>∃(j:Nat) (ys:List H) (d:Option Addr) (e:Nat),vs=[.slice d ys.length e,X6 (j:Int)]/\Mem w s [oI 30 3 d ys.length e (ys.flatMap bH),bI C [X6 p.x,X6 p.y,X6 p.z] 30]/\(ys=((yT t).take j).foldl (Kv p) xs)/\(ys.length<=3*k+j)/\(j<=3)/\(n=3-j)) ?_ ?_
  .exact⟨_,0,xs,_,_,O,m,O,(by omega),bn _,O⟩
  intro n vs wr r u X J
  obtain⟨j,ys,d,e,rfl,m,v,af,hj,ab⟩:=r;simp only[zu,zF,zG];apply L 8 [0,2,0] m;simp only[↓U];refine λ_=>?_;refine cL O ?_ ?_<;>intro K
  .have f:j<3:=by simp only[lf,R] at K;omega
   apply L 4 [0] m;simp only[↓U];refine mh m [Z,Z] [(0,Z),(1,Z),(2,Z),(3,Z),(4,Z),(5,Z),(6,Z),(7,Z),(8,Z),(9,Z),(10,Z),(11,Z),(12,Z),(13,Z),(14,Z),(15,Z),(16,X3),(17,Z),(18,Z)] aB (by kernel_rfl) (bS (λ_ _ _ _ _ h=>h)) (ol:=?_) ?V ?_
   case V=>simp only[zw,zQ,zR];try rfl
   intro u m;refine Fq 9 [0,0,2] ?_;simp only[↓U,fR,bQ,aP,ah,ai];refine⟨_,λu m=>(show dQ _ _ _ _ (pt (t.cor j)) from (abt (q.ext m.ext) f).lies aG aA),_,lQ,by omega,?_⟩;refine nV O (λc=>aJ) (nV O (λc=>aJ) (nV O (λc=>aJ) (nV O (λc=>aJ) ?_)));simp only[G];refine nV O (λc=>aR fC aW (bL c O) (bL c O) (by omega) (by omega) (tM (ah _))) ?_;simp only[G];refine nV O (λc=>aN eB aA (bL c O) (bL c O) (by omega) (by omega) (tM (ah _))) ?_;simp only[G];refine Pw O (λc u m=>bD (bL c O) (show dQ _ _ _ _ (pt (t.cor j)) from (abt (q.ext m.ext) f).lies aG aA)) (bO (abd m O O (λc=>by simp only[ee,bi,dh,zA,zB,zC,zD,zE,c,iM];rfl) (λc=>oP (p:=t.cor j) _ ((m.o 0 rfl).lat (enc:=bH) (λ_=>rfl) (by decide)) (by omega)) ?_));intro u m;refine aI ⟨m,?_⟩;refine nV O (λc=>pS (bL c O)) (bG (eE O O O) (bR (gc ?_)));simp only[G];refine cL O ?_ ?_<;>intro l
   .rw[pne] at l;have B:=atb (p:=p) rfl l;apply L 8 [0,0,0] m;simp only[↓U,fR,bQ,ah,ai];refine⟨_,λu m=>(show dQ _ _ _ _ (pt (t.cor j)) from (abt (q.ext m.ext) f).lies aG aA),by omega,?_⟩;refine kH O ?_;intro u Y P S T;replace m:=m.newB P S T;simp only[G];refine bN m 1 O O eR mK O (by decide) O O O (m.b 0 O).rowsO (fN O) (by omega) (by omega) ?_;intro d e u m;simp only[zF,zG] at m;rw[show ys.flatMap bH++_=(ys++[t.cor j]).flatMap bH by rw[aw];rfl] at m;have M:ys.length+1=(ys++[t.cor j]).length:=by simp
    rw[M] at m;rw[M];apply aH 8 [0] m;simp only[↓U];apply I0;omega;exact J (3-(j+1)) _ _ (by omega) (by kernel_rfl) ⟨j+1,ys++[t.cor j],_,_,O,(m.sel [X3,Z,Z]),(by rw[Zp f,<-v,B]),(by rw[aq];simp only[ay,bm];omega),(by omega),rfl⟩
   rw[pne] at l;have B:=atc (p:=p) rfl l;apply L 7 [0] m;simp only[↓U];apply I0;omega;exact J (3-(j+1)) _ _ (by omega) (by kernel_rfl) ⟨j+1,ys,_,_,O,m,(by rw[Zp f,<-v,B]),(by omega),(by omega),O⟩
  obtain rfl:j=3:=by simp only[lf,Y1] at K;omega
  apply L 7 [0] m;simp only[↓U];apply I0;omega;exact I (N-(k+1)) _ _ (by omega) (by kernel_rfl) ⟨k+1,ys,_,_,O,m,(by rw[Zo F,<-g,as9 E];exact v),(by omega),(by omega),O⟩
 obtain rfl:k=N:=by omega
 rw[show ts.take k=ts from au (by omega)] at g;apply L 7 [] m;simp only[↓U];exact aS O O ⟨_,O,m.ext,⟨_,_,_,by rw[g];rfl,rfl,(m.o 0 rfl).as (by rw[g];rfl)⟩⟩
def Wt(e:E3)(j:Nat):H:=if j=0 then e.1 else e.2
def amw{a:Addr}{e:E3}(h:kV w a (cJ e))(b:j<2):kV w (a.add (j*3)) (bH (Wt e j)):=by
 rcases j with _ | _ | j
 .exact (h.sub 0).take 3
 .exact (h.sub 3).take 3
 omega
def lA2{P:bt}{T:ba}{g n:Nat}{v:aj}(h:dQ P w T (((⟨g,0,X5⟩:Addr).add n).add k) v):dQ P w T ⟨g,n+k,X5⟩ v:=by
 rw[cS,cS,ai] at h;exact h
def BdS(es:List E3)(xs:List H):Prop:=∀q,q∈xs↔Bt es q=Z
def BdI(es:List E3)(e:E3)(j:Nat)(xs:List H):Prop:=∀q,q∈xs↔Bt es q=Z\/(0<j/\q=e.1)\/(1<j/\q=e.2)
def BdS.nil:BdS [] []:=λq=>by simp[Bt]
def BdS.start(h:BdS es xs)(e:E3):BdI es e 0 xs:=λq=>by rw[h q];simp
def BdI.done{e:E3}(h:BdI es e 2 xs):BdS (es++[e]) xs:=λq=>by
 rw[h q];simp only[Bt,List.any_append,List.any_cons,List.any_nil,Bool.or_false,fh,R];constructor
 . rintro (k | ⟨_,k⟩ | ⟨_,k⟩)
   .exact .inl k
   .exact .inr (.inl k.symm)
   exact .inr (.inr k.symm)
 rintro (k | k | k)
 .exact .inl k
 .exact .inr (.inl ⟨by omega,k.symm⟩)
 exact .inr (.inr ⟨by omega,k.symm⟩)
def BdI.skip{e:E3}(h:BdI es e j xs)(b:j<2)(a:Wt e j∈xs):BdI es e (j+1) xs:=λq=>by
 have h1:=h (Wt e j);rw[h q];rcases j with _ | _ | j
 . have:Bt es e.1=Z\/(0<0/\e.1=e.1)\/(1<0/\e.1=e.2):=h1.1 a
   constructor
   . rintro (k | ⟨k,_⟩ | ⟨k,_⟩)
     .exact .inl k
     .omega
     omega
   rintro (k | ⟨_,rfl⟩ | ⟨k,_⟩)
   .exact .inl k
   .exact this
   omega
 . have:=h1.1 a
   constructor
   . rintro (k | ⟨_,rfl⟩ | ⟨k,_⟩)
     .exact .inl k
     .exact .inr (.inl ⟨by omega,O⟩)
     omega
   rintro (k | ⟨_,rfl⟩ | ⟨_,rfl⟩)
   .exact .inl k
   .exact .inr (.inl ⟨by omega,O⟩)
   exact this
 omega
def BdI.put{e:E3}(h:BdI es e j xs)(a:j<2):BdI es e (j+1) (xs++[Wt e j]):=λq=>by
 rw[bh,h q,a_];rcases j with _ | _ | j
 . constructor
   . rintro ((k | ⟨k,_⟩ | ⟨k,_⟩) | rfl)
     .exact .inl k
     .omega
     .omega
     exact .inr (.inl ⟨by omega,O⟩)
   rintro (k | ⟨_,rfl⟩ | ⟨k,_⟩)
   .exact .inl (.inl k)
   .exact .inr O
   omega
 . constructor
   . rintro ((k | ⟨_,rfl⟩ | ⟨k,_⟩) | rfl)
     .exact .inl k
     .exact .inr (.inl ⟨by omega,O⟩)
     .omega
     exact .inr (.inr ⟨by omega,O⟩)
   rintro (k | ⟨_,rfl⟩ | ⟨_,rfl⟩)
   .exact .inl (.inl k)
   .exact .inl (.inr (.inl ⟨by omega,O⟩))
   exact .inr O
 omega
def abu(w:ak)(x:bW w A N ts)(P:N<=1000000):cY prog 72 [.slice A N cap] w (λv w'=>∃xs:List H,SL 30 3 (xs.flatMap bH) xs.length w v w'/\BdS (bB ts) xs/\xs.length<=10000000):=by
 refine⟨bJ func72 (by kernel_rfl),?_⟩;have m:=Mem.refl w;have aa:=x.len;have V:(bB ts).length<=3000000:=by have h1:=Jf (all:=aX ts) (aX ts) [];have h2:=pG ts;simp only[bm] at h1;unfold bB;omega
 go_enter func72,ntmps72
 apply fF 6 [0] m;simp only[↓U];refine aD aM ?_;replace m:=m.nilO 30 3;apply aH 4 [0] m;simp only[↓U];refine bF O O (ak0 _ (x.ext m.ext) (by omega)) ?_;rintro v u f ⟨B,t,T,rfl,rfl,h⟩;replace m:=m.newO f h;apply aH 8 [0] m;simp only[↓U];refine bT [3,5] [6,9,10,11,12,13,14,15,16,17,18,19,20,21,22,23,24,25,26,27,28,29,30,31,32,33,34,35,36] (λn vs l=>∃(k:Nat) (xs:List H) (a:Option Addr) (c:Nat),vs=[.slice a xs.length c,X6 (k:Int)]/\Mem w l [oI 56 6 B (bB ts).length t ((bB ts).flatMap cJ),oI 30 3 a xs.length c (xs.flatMap bH)]/\(BdS ((bB ts).take k) xs)/\(xs.length<=2*k)/\(k<=(bB ts).length)/\(n=(bB ts).length-k)) ?_ ?_
 .exact⟨_,0,[],_,_,O,m,BdS.nil,bn _,bn _,O⟩
 intro n vs wr g u J E
 obtain⟨k,xs,a,c,rfl,m,r,ab,R,S⟩:=g;simp only[zu,zF,zG];apply L 8 [0,0] m;simp only[↓U,Ys];refine bC O ?_ ?_<;>intro W
 .have I:k<(bB ts).length:=by omega
  obtain⟨e,i⟩:∃e,(bB ts)[k]? = X4 e:=⟨_,am I⟩
  obtain⟨C,rfl⟩:=(m.o 0 rfl).some (by omega);apply L 8 [0] m;simp only[↓U];refine bT [3,6] [15,16,17,18,19,20,21,22,23,24,25,26,27,28,29,30,31,32,33,34,35,36] (λn vs l=>∃(j:Nat) (ys:List H) (a:Option Addr) (c:Nat),vs=[.slice a ys.length c,X6 (j:Int)]/\Mem w l [oI 56 6 (X4 ⟨C,0,X5⟩) (bB ts).length t ((bB ts).flatMap cJ),oI 30 3 a ys.length c (ys.flatMap bH)]/\(BdI ((bB ts).take k) e j ys)/\(ys.length<=2*k+j)/\(j<=2)/\(n=2-j)) ?_ ?_
  .exact⟨_,0,xs,_,_,O,m,r.start e,(by omega),bn _,O⟩
  intro n vs wr g u K y
  obtain⟨j,ys,a,c,rfl,m,q,ad,Q,Y⟩:=g;simp only[zu,zF,zG];apply L 6 [0,0] m;simp only[↓U];refine bC O ?_ ?_<;>intro X
  .have d:j<2:=by omega
   apply L 12 [0,0,0] m;simp only[↓U,Ti,Ca,ah,ai];refine⟨_,λu m=>(lA2 (v:=pt (Wt e j)) ((amw (((m.o 0 O).lat (enc:=cJ) (λ_=>rfl) (by decide)).at i) d).lies aG aA)),by omega,?_⟩;refine cK m O O (oP (p:=Wt e j) _ ((m.o 1 O).lat (enc:=bH) (λ_=>rfl) (by decide)) (by omega)) ?_;rintro v u m rfl;apply aH 2 [0] m;simp only[↓U];refine cL O ?_ ?_<;>intro F
   .have s:=q.put d;apply L 8 [0,0,0] m;simp only[↓U,Ti,Ca,ah,ai];refine⟨_,λu m=>(lA2 (v:=pt (Wt e j)) ((amw (((m.o 0 O).lat (enc:=cJ) (λ_=>rfl) (by decide)).at i) d).lies aG aA)),by omega,?_⟩;refine kH O ?_;intro u M f h D;replace m:=m.newB f h D;simp only[G];refine bN m 2 O O eR mK O (by decide) O O O (m.b 0 O).rowsO (fN O) (by omega) (by omega) ?_;intro a c u m;simp only[zF,zG] at m;rw[show ys.flatMap bH++_=(ys++[Wt e j]).flatMap bH by rw[aw];rfl] at m;have z:ys.length+1=(ys++[Wt e j]).length:=by simp
    rw[z] at m;rw[z];apply aH 8 [0] m;simp only[↓U];apply I0;omega;exact y (2-(j+1)) _ _ (by omega) (by kernel_rfl) ⟨j+1,ys++[Wt e j],_,_,O,(m.sel [X3,Z,Z]),s,(by rw[aq];simp only[ay,bm];omega),by omega,rfl⟩
   have s:=q.skip d (by simpa using F);apply L 7 [0] m;simp only[↓U];apply I0;omega;exact y (2-(j+1)) _ _ (by omega) (by kernel_rfl) ⟨j+1,ys,_,_,O,m,s,(by omega),by omega,O⟩
  obtain rfl:j=2:=by omega
  apply L 7 [0] m;simp only[↓U];apply I0;omega;exact E ((bB ts).length-(k+1)) _ _ (by omega) (by kernel_rfl) ⟨k+1,ys,_,_,O,m,(by rw[bV i];exact q.done),by omega,by omega,O⟩
 obtain rfl:k=(bB ts).length:=by omega
 rw[au (ar _)] at r;apply L 7 [] m;simp only[↓U];exact aS O O ⟨_,O,m.ext,xs,⟨_,_,_,O,O,(m.o 1 O)⟩,r,by omega⟩
def avL{b:fX}(h:¬bA (a.c-b.c)=0):decide (bA (a.c-b.c)<0)=decide (a.Lt b):=by
 have h1:a.c-b.c≠0:=λe=>h (cA.2 e);have h2:bA (a.c-b.c)<0↔a.c<b.c:=by
  have:=Cw (n:=a.c-b.c);have:=cA (n:=a.c-b.c);omega
 refine decide_eq_decide.2 (h2.trans ⟨.inl,λk=>k.resolve_right λe=>h1 (by omega)⟩)
def avM{b:fX}(h:bA (a.c-b.c)=0)(d:¬a.u=b.u):decide (a.u.Lt b.u)=decide (a.Lt b):=by
 have h1:a.c=b.c:=by have:=cA.1 h;omega
 refine decide_eq_decide.2 ⟨λk=>.inr ⟨h1,.inl k⟩,λk=>?_⟩;rcases k with k | ⟨_,k | ⟨k,_⟩⟩
 .omega
 .exact k
 exact Z8 k d
def avN{b:fX}(h:bA (a.c-b.c)=0)(d:a.u=b.u):decide (a.v.Lt b.v)=decide (a.Lt b):=by
 have h1:a.c=b.c:=by have:=cA.1 h;omega
 refine decide_eq_decide.2 ⟨λk=>.inr ⟨h1,.inr ⟨d,k⟩⟩,λk=>?_⟩;rcases k with k | ⟨_,k | ⟨_,k⟩⟩
 .omega
 .exact Z8 (d▸k) (H.lt_irrefl _)
 exact k
def fnd(ps:List H)(p:H):Nat:=ps.findIdx λx=>decide (x=p)
def abv{p:H}(h:p∈ps):ps[fnd ps p]? = X4 p:=by
 have a:fnd ps p<ps.length:=List.findIdx_lt_length_of_exists ⟨p,h,by simp⟩;rw[am a];have:=List.findIdx_getElem (w:=a);simp only[R] at this;exact C X4 this
def atd{p x:H}(hq:p∉ps.take k)(a:ps[k]? = X4 x)(c:x=p):fnd ps p=k:=by
 subst c;obtain⟨b,e⟩:=ao.1 a;unfold fnd;rw[List.findIdx_eq b];refine⟨by simpa using e,λj f=>?_⟩;have d:ps[j]≠x:=λe=>hq (by rw[<-e];exact List.mem_take_iff_getElem.2 ⟨j,by omega,O⟩);simpa using d
def ade{p q:fX}(hp:Bd 900000 p.c)(hq:Bd 900000 q.c):dF prog 133 [Ig p,Ig q] (.bool (decide (p.Lt q))):=by
 intro w;refine⟨bJ func133 (by kernel_rfl),?_⟩;have m:=Mem.refl w
 go_enter func133,ntmps133
 apply gH 12 [2,1,0] m;simp only[↓U,↓cB,akH,dG,aa];intro g i u m;refine lD m O O (asy (a:=p.c) (b:=q.c) hp hq) 8 [0,0] ?_;simp only[↓U];intro u m;refine bC O ?_ ?_<;>intro f
 .apply L 7 [0] m;simp only[↓U];refine aS O O ?_;try simp only[zD,zE]
  exact⟨_,O,m.ext,by rw[avL f]⟩
 apply L 10 [2,1,0] m;simp only[↓U,↓cB,Tn,aP,aa];refine⟨_,lQ,?_⟩;refine bC O ?_ ?_<;>intro d
 .have e:¬p.u=q.u:=λh=>d (by rw[h];exact⟨O,O,O⟩);apply L 6 [2,1,0] m;simp only[↓U,↓cB,Tn,aP,aa];refine lD m O O lR 3 [] ?_;simp only[↓U];intro u m;refine aS O O ?_;try simp only[zD,zE]
  exact⟨_,O,m.ext,by rw[avM (by omega) e]⟩
 have d:=Classical.not_not.1 d;have e:p.u=q.u:=H.eq d.1 d.2.1 d.2.2;apply L 7 [2,1,0] m;simp only[↓U,↓cB,acy,aP,aa];refine lD m O O lR 3 [] ?_;simp only[↓U];intro u m;refine aS O O ?_;try simp only[zD,zE]
 exact⟨_,O,m.ext,by rw[avN (by omega) e]⟩
def Qu{Q:H->List Int}{p:H}(w:ak)(d:uD (Bh Q) 23 w A N ps)(B:N<=100000000)(o:p∈ps):cY prog 74 [.slice A N cap,pt p] w (λv _=>v=X6 ((fnd ps p:Nat):Int)):=by
 refine⟨bJ func74 (by kernel_rfl),?_⟩;have m:=Mem.refl w;have F:=d.len
 go_enter func74,ntmps74
 apply gH 11 [0] m;simp only[↓U,↓cB];intro g u m;refine bT [5] [4,6,7,8,9,10,11,12,13,14,15,16,17,18,19] (λn vs q=>∃(k:Nat),vs=[X6 (k:Int)]/\Mem w q [bI g [X6 p.x,X6 p.y,X6 p.z] 30]/\(p∉ps.take k)/\(k<=N)/\(n=N-k)) ?_ ?_
 .exact⟨_,0,O,m,(by simp),bn _,O⟩
 intro n vs wr l u t r
 obtain⟨k,rfl,m,hq,C,D⟩:=l;simp only[zu,zF,zG];apply L 8 [0,0] m;simp only[↓U,arT];refine bC O ?_ ?_<;>intro E
 .obtain⟨x,f,a,j,s⟩:=d.get (i:=k) (by omega);subst j;apply L 4 [0] m;simp only[↓U];refine mq m aB (by kernel_rfl) (cX 7 [0,0,1] ?_);simp only[↓U,↓cB,akC,akD,aP,ah,ai,aa];refine⟨_,λu m=>(show dQ _ _ _ _ (pt x) from ((s.ext m.ext).take 3).lies aG aA),_,eQ,by omega,?_⟩;refine aZ ?_;intro u m;refine gc (bC O (λb=>?_) (λb=>?_))
  .have c:x=p:=H.eq b.1 b.2.1 b.2.2;apply L 6 [] m;simp only[↓U];refine aS O O ?_;try simp only[zD,zE]
   exact⟨_,O,m.ext,by rw[atd hq f c]⟩
  have c:x≠p:=λh=>b (by rw[h];exact⟨O,O,O⟩);apply L 7 [0] m;simp only[↓U];apply I0;omega;exact r (N-(k+1)) _ _ (by omega) (by kernel_rfl) ⟨k+1,O,m,(by rw[bV f,bh,a_];exact λh=>h.elim hq λe=>c e.symm),by omega,O⟩
 exact Z8 o (by rwa [au (by omega)] at hq)
def twB(t s:T3):Bool:=s.has t.a&&s.has t.b&&s.has t.c
def ape{i:Nat}(b:j<i)(a:l[i]? = X4 t)(hs:l[j]? = X4 s)(h:twB t s=Z):rP l=Z:=by
 unfold rP;rw[et];refine⟨(t,i),iz.2 a,et.2 ⟨s,bf (i:=j) (by rw[List.getElem?_take_of_lt b];exact hs),h⟩⟩
def apf{n:Nat}(e:l.length<=n)(h:∀i j t s,i<n->j<i->l[i]? = X4 t->l[j]? = X4 s->twB t s=X3):rP l=X3:=by
 unfold rP;rw[gi];rintro⟨t,i⟩ c;have b:=iz.1 c;simp only at b ⊢;rw[Bool.not_eq_true,gi];intro s hs;obtain⟨j,a⟩:=df.1 hs;rw[d_] at a;split at a
 . rename_i d
   have:=h i j t s (by have:=(ao.1 b).1;omega) d b a;unfold twB at this;rw[this];exact fg
 cases a
def ate{v x:H}(a:BdS (bB l) bs)(b:Bt (bB l) v=Z)(c:x∈fS l u)(h:((decide (x≠v)&&decide (x∈bs)) && !decide (x∈fS l v))=Z):Pq l u v=Z:=by
 unfold Pq;rw[b,j_,et];refine⟨x,c,?_⟩;rw[<-h]
 congr 2
 rw[fy,R,a x]
def atf{v:H}(a:BdS (bB l) bs)(h:∀x∈fS l u,((decide (x≠v)&&decide (x∈bs)) && !decide (x∈fS l v))=X3):Pq l u v=X3:=by
 unfold Pq;rw[Bool.and_eq_false_iff];refine .inr (gi.2 λx b k=>?_);have:=h x b;rw[show decide (x∈bs)=Bt (bB l) x by rw[fy,R,a x]] at this;rw[this] at k;cases k
def amx(w:ak)(o:bW w A N ts)(R:N<=10000000):cY prog 108 [.slice A N cap] w (λv _=>v=.bool (rP ts)):=by
 refine⟨bJ func108 (by kernel_rfl),?_⟩;have m:=Mem.refl w;have ab:=o.len
 go_enter func108,ntmps108
 apply fF 10 [0] m;simp only[↓U];refine bT [3] [2,4,5,6,7,8,9,10,11,12,13,14,15,16,17,18,19,20,21,22,23,24,25,26,27,28,29,30,31,32,33,34,35,36,37,38,39,40,41,42,43,44,45,46,47,48,49] (λn vs r=>∃(i:Nat),vs=[X6 (i:Int)]/\Mem w r []/\(∀f j t s,f<i->j<f->ts[f]? = X4 t->ts[j]? = X4 s->twB t s=X3)/\(i<=N)/\(n=N-i)) ?_ ?_
 .exact⟨_,0,O,m,(λ_ _ _ _ h=>Z8 h (jm _)),bn _,O⟩
 intro n vs wr l u P K
 obtain⟨i,rfl,m,D,T,V⟩:=l;simp only[zu,zF,zG];apply L 8 [0,0] m;simp only[↓U,gM];refine bC O ?_ ?_<;>intro W
 .obtain⟨t,B,_,a,z,x⟩:=o.get (i:=i) (by omega);apply L 8 [0] m;simp only[↓U];refine bT [4] [2,11,12,13,14,15,16,17,18,19,20,21,22,23,24,25,26,27,28,29,30,31,32,33,34,35,36,37,38,39,40,41,42,43,44,45,46,47,48,49] (λn vs r=>∃(j:Nat),vs=[X6 (j:Int)]/\Mem w r []/\(∀e s,e<j->ts[e]? = X4 s->twB t s=X3)/\(j<=i)/\(n=i-j)) ?_ ?_
  .exact⟨_,0,O,m,(λ_ _ h=>Z8 h (jm _)),bn _,O⟩
  intro n vs wr l u Q M
  obtain⟨j,rfl,m,E,q,Z⟩:=l;simp only[zu,zF,zG];apply L 7 [0,0] m;simp only[↓U];refine bC O ?_ ?_<;>intro X
  .obtain⟨s,hs,_,H,J,y⟩:=o.get (i:=j) (by omega);obtain rfl:a=H:=fc (z.symm.trans J);subst z;apply L 4 [0] m;simp only[↓U];refine mq m aB (by kernel_rfl) (cX 9 [0,0,0,1] ?_);simp only[↓U,fR,bQ,ah,ai,ad,ag,aa];refine⟨_,λu m=>(show dQ _ _ _ _ (pt t.a) from ((x.ext m.ext).take 3).lies aG aA),_,λu m=>((y.ext m.ext).lies cD aW),by omega,?_⟩;refine eH O O (Pe (t:=s) (p:=t.a)) (aK aJ (cQ O (λd=>aJ) (cQ O (λd=>aJ) ?_)));simp only[G];refine cQ O (λd=>aR fC aW (bL d O) (bL d O) (by omega) (by omega) (tM (ah _))) (cQ O (λd=>aN eB aA (bL d O) O (by decide) (by decide) O) ?_);simp only[G];refine eM O (λd u m=>bD (bL d O) (show dQ _ _ _ _ (pt t.b) from (((x.ext m.ext).sub 3).take 3).lies aG aA)) (cQ O (λd=>aJ) (cQ O (λd=>aJ) ?_));simp only[G];refine cQ O (λd=>aR fC aW (bL d O) (bL d O) (by omega) (by omega) (tM (ah _))) ?_;simp only[G];refine eM O (λd u m=>bD (bL d O) ((y.ext m.ext).lies cD aW)) (Jd O O (λd=>by simp only[ee,bi,dh,zA,zB,zC,zD,zE,d,iM];rfl) (λd=>Pe (t:=s) (p:=t.b)) (aK (eE rfl rfl rfl) (aK aJ (cQ rfl (λd=>aJ) ?_))));simp only[G];refine cQ O (λd=>aJ) ?_;simp only[G];refine cQ O (λd=>aR fC aW (bL d O) (bL d O) (by omega) (by omega) (tM (ah _))) (cQ O (λd=>aN eB aA (bL d O) O (by decide) (by decide) O) ?_);simp only[G];refine eM O (λd u m=>bD (bL d O) (show dQ _ _ _ _ (pt t.c) from (((x.ext m.ext).sub 6).take 3).lies aG aA)) (cQ O (λd=>aJ) (cQ O (λd=>aJ) ?_));simp only[G];refine cQ O (λd=>aR fC aW (bL d O) (bL d O) (by omega) (by omega) (tM (ah _))) ?_;simp only[G];refine eM O (λd u m=>bD (bL d O) ((y.ext m.ext).lies cD aW)) (Jd O O (λd=>by simp only[ee,bi,dh,zA,zB,zC,zD,zE,d,iM];rfl) (λd=>Pe (t:=s) (p:=t.c)) (aK (eE rfl rfl rfl) (aZ ?_)));intro u m;refine gc ?_;simp only[G];refine cL O ?_ ?_<;>intro C
   .apply L 5 [] m;simp only[↓U];refine aS O O ?_;try simp only[zD,zE]
    exact⟨_,O,m.ext,by rw[ape (by omega) B hs C]⟩
   apply L 7 [0] m;simp only[↓U];apply I0;omega;exact M (i-(j+1)) _ _ (by omega) (by kernel_rfl) ⟨j+1, rfl, m, (λe k Y g => by
    rcases eh e j with h | h
    .exact E e k h g
    obtain rfl:j=e:=by omega
    obtain rfl:=fc (hs.symm.trans g);exact C),by omega,O⟩
  obtain rfl:i=j:=by omega
  apply L 7 [0] m;simp only[↓U];apply I0;omega;exact K (N-(i+1)) _ _ (by omega) (by kernel_rfl) ⟨i+1, rfl, m, (λf e I k S q F g => by
   rcases eh f i with h | h
   .exact D f e I k h q F g
   obtain rfl:i=f:=by omega
   obtain rfl:=fc (B.symm.trans F);exact E e k q g),by omega,O⟩
 obtain rfl:i=N:=by omega
 apply L 6 [] m;simp only[↓U];refine aS O O ?_;try simp only[zD,zE]
 exact⟨_,O,m.ext,by rw[apf (by omega) D]⟩
def El(l:List T3)(p:H):(fS l p).length<=3*l.length:=by
 have h1:=List.Nodup.length_le_of_subset (Zg l p) (l₂:=cF l) λx b=>by
  have h:=qY.1 b;simp only[Gd,bg,kU,et] at h;obtain⟨_,t,a,h⟩:=h;exact oM a h.2
 rw[qK] at h1;omega
def Zq{v:H}(h:BdS (bB l) bs):decide (v∈bs)=Bt (bB l) v:=by rw[fy,R,h v]
def au3{v:H}(h:Bt (bB l) v=X3):Pq l u v=X3:=by unfold Pq;rw[h,ju]
def amy{p:H}(w:ak)(e:bW w A N ts)(X:N<=1000000):cY prog 109 [.slice A N cap,pt p,pt q] w (λv _=>v=.bool (Pq ts p q)):=by
 refine⟨bJ func109 (by kernel_rfl),?_⟩;have m:=Mem.refl w;have af:=e.len;have ad:=El ts p;have ae:=El ts q
 go_enter func109,ntmps109
 apply gH 9 [0] m;simp only[↓U];intro V F u m;refine bF O O (abu _ (e.ext m.ext) (by omega)) ?_;rintro v u c ⟨bs,⟨s,C,n7,P,rfl,d⟩,f,aa⟩;replace m:=m.newO c d;subst P;apply aH 7 [2,0] m;simp only[↓U,aP];refine cK m O O (oP (p:=q) _ ((m.o 0 O).lat (enc:=bH) (λ_=>rfl) (by decide)) (by omega)) ?_;rintro v u m rfl;apply aH 2 [0] m;simp only[↓U];refine cL O ?_ ?_<;>intro g
 .rw[Zq f] at g;apply L 5 [] m;simp only[↓U];refine aS O O ?_;try simp only[zD,zE]
  exact⟨_,O,m.ext,by rw[au3 (by simpa using g)]⟩
 rw[Zq f] at g;apply L 5 [3,0] m;simp only[↓U,aP];refine bF O O (Ve (p:=p) _ (e.ext m.ext) (by omega)) ?_;rintro v u c ⟨t,D,n8,Q,rfl,d⟩;replace m:=m.newO c d;subst Q;apply aH 6 [3,0] m;simp only[↓U,aP];refine bF O O (Ve (p:=q) _ (e.ext m.ext) (by omega)) ?_;rintro v u c ⟨B,E,n9,R,rfl,d⟩;replace m:=m.newO c d;subst R;apply aH 8 [0] m;simp only[↓U];refine bT [10] [6,23,24,25,26,27,28,29,30,31,32,33,34,35,36,37,38,39,40,41,42,43,44,45,46,47,48,49,50,51] (λn vs J=>∃(k:Nat),vs=[X6 (k:Int)]/\Mem w J [oI 30 3 B (fS ts q).length E ((fS ts q).flatMap bH),oI 30 3 t (fS ts p).length D ((fS ts p).flatMap bH),oI 30 3 s bs.length C (bs.flatMap bH),bI F [X6 q.x,X6 q.y,X6 q.z] 30]/\(∀j x,j<k->(fS ts p)[j]? = X4 x->((decide (x≠q)&&decide (x∈bs)) && !decide (x∈(fS ts q)))=X3)/\(k<=(fS ts p).length)/\(n=(fS ts p).length-k)) ?_ ?_
 .exact⟨_,0,O,(m.sel [Z,Z,Z,Z,X3]),(λ_ _ h=>Z8 h (jm _)),bn _,O⟩
 intro n vs wr I u T K
 obtain⟨k,rfl,m,hq,Y,hn⟩:=I;simp only[zu,zF,zG];apply L 8 [0,0] m;simp only[↓U,gV];refine bC O ?_ ?_<;>intro ab
 .have M:k<(fS ts p).length:=by omega
  obtain⟨x,b⟩:∃x,(fS ts p)[k]? = X4 x:=⟨_,am M⟩
  obtain⟨W,rfl⟩:=(m.o 1 rfl).some (by omega);apply L 4 [0] m;simp only[↓U];refine mh m [Z,Z,Z,Z] [(0,Z),(1,Z),(2,Z),(3,Z),(4,Z),(5,Z),(6,Z),(7,Z),(8,Z),(9,Z),(10,Z),(11,Z),(12,X3),(13,Z),(14,Z),(15,Z),(16,Z),(17,Z),(18,Z),(19,Z),(20,X3),(21,Z),(22,Z)] aB (by kernel_rfl) (bS (λ_ _ _ _ _ h=>h)) (ol:=?_) ?S ?_
  case S=>simp only[zw,zQ,zR];try rfl
  intro u m;refine Fq 7 [0,0,4] ?_;simp only[↓U,gG,aP,ah,ai];refine⟨_,λu m=>(lA (v:=pt x) ((((m.o 1 O).lat (enc:=bH) (λ_=>rfl) (by decide)).at b).lies aG aA)),_,lQ,by omega,?_⟩;refine nV O (λa=>aJ) (nV O (λa=>aJ) (nV O (λa=>aJ) ?_));simp only[G];refine nV O (λa=>aR eR aA (bL a O) (bL a O) (by omega) (by omega) (tM (ah _))) ?_;simp only[G];refine Pw O (λa u m=>bD (bL a O) (show dQ _ _ _ _ (pt x) from (((m.o 1 O).lat (enc:=bH) (λ_=>rfl) (by decide)).at b).lies aG aA)) (bO (abd m O O (λa=>by simp only[ee,bi,dh,zA,zB,zC,zD,zE,a,iM];rfl) (λa=>oP (p:=x) _ ((m.o 2 rfl).lat (enc:=bH) (λ_=>rfl) (by decide)) (by omega)) ?_));intro u m;refine aI ⟨m,?_⟩;refine bG (eE O O O) (bG aJ (nV O (λa=>aJ) ?_));simp only[G];refine nV O (λa=>aJ) (nV O (λa=>aJ) ?_);simp only[G];refine nV O (λa=>aR eR aA (bL a O) (bL a O) (by omega) (by omega) (tM (ah _))) ?_;simp only[G];refine Pw O (λa u m=>bD (bL a O) (show dQ _ _ _ _ (pt x) from (((m.o 1 O).lat (enc:=bH) (λ_=>rfl) (by decide)).at b).lies aG aA)) (bO (abd m O O (λa=>by simp only[ee,bi,dh,zA,zB,zC,zD,zE,a,iM];rfl) (λa=>oP (p:=x) _ ((m.o 0 rfl).lat (enc:=bH) (λ_=>rfl) (by decide)) (by omega)) ?_));intro u m;refine aI ⟨m,?_⟩;refine nV O (λa=>pS (bL a O)) (bG (eE O O O) (bR (gc ?_)));simp only[G];refine cL O ?_ ?_<;>intro i
  .rw[pne] at i;apply L 5 [] m;simp only[↓U];refine aS O O ?_;try simp only[zD,zE]
   exact⟨_,O,m.ext,by rw[ate f (by simpa using g) (bf b) i]⟩
  rw[pne] at i;apply L 7 [0] m;simp only[↓U];apply I0;omega;exact K ((fS ts p).length-(k+1)) _ _ (by omega) (by kernel_rfl) ⟨k+1, rfl, m, (λj y l r => by
   rcases eh j k with h | h
   .exact hq j y h r
   obtain rfl:k=j:=by omega
   obtain rfl:=fc (b.symm.trans r);exact i),by omega,O⟩
 obtain rfl:k=(fS ts p).length:=by omega
 apply L 6 [] m;simp only[↓U];refine aS O O ?_;try simp only[zD,zE]
 exact⟨_,rfl,m.ext,by rw[atf f (λx b=>by obtain⟨j,l⟩:=df.1 b;exact hq j x (ao.1 l).1 l)]⟩
end Go.Proofs.YtfekpcimgncioaaGreatDoor
namespace Go.Lith
open Go.RowKit Go.ChangeMaps Go.MapKept
variable{w:ak}
def adf{u:ak}(e:fJ w u):w.grownBy u X5:=⟨e.os,e.tape,e.output,e.size,λk a _=>Below.block e k a⟩
section
variable {K V:Type} [DecidableEq K] {P:bt} {T M E ty:ba} {ek:K->aj} {en:V->aj} {w:ak} {g c r:Nat} {es:Array cu} {D:List (K × V)}
variable {ds:List ej} {l:List aj} {x:Operand} {ops:Array Oper} {Q:Exit->Act->ak->Prop} {rest:List Oper} {d:Nat} {pos:String} {after:Array Edge}
def apg{seen:Array Nat}{q rs:List (K × V)}(C:ev l x=.pointer (X4 ⟨r,0,X5⟩))(n:sG w r g c seen c)(p:iR w g es c)(t:bY ek en D es c)(z:oJ ek en D es seen q rs)
 (h:∀b i j m u,w.grownBy u (X4 r)->iR u g es c->sG u r g c m c->Nxt ek en D es q rs b i j m->az P ops Q rest (Fr (l.set d (Gn b i j)) ds) u) :
 az P ops Q (bu (X4 d) (.next x X3) ty pos after X5::rest) (Fr l ds) w:=by
 obtain⟨b,i,j,m,f,G,hr,y⟩:=Xl (P:=P) (ty:=ty) (s:=0) n p t z;have a:f.heap=w.heap/\f.os=w.os/\f.tape=w.tape/\f.output=w.output:=by rcases G with rfl | rfl <;> exact⟨rfl,rfl,rfl,rfl⟩
 have E:g≠r:=λe=>by
  subst e;have h1:w.heap[g]? = X4 (.map es c):=p;rw[show w.heap[g]? = _ from n] at h1;cases h1
 refine mG (w':=setBlock f r (.mapIter (X4 g) c m c)) (v:=Gn b i j) (λo B F=>by simp[execOp,B,cN,C,F,hr]) (h b i j m _ ⟨a.2.1,a.2.2.1,a.2.2.2,by simp[setBlock,a.1],λk _ A=>?_⟩ ?_ ?_ y)
 . simp only[setBlock,a.1]
   exact jh λe=>A (by rw[e])
 . show (setBlock f r _).heap[g]? = _
   simp only[setBlock,a.1];rw[jh (Ne.symm E)];exact p
 exact jM (w:=f) (o:=.mapIter (X4 g) c seen c) (by rw[a.1];exact n)
end
def aph(is:List It):Prop:=∀i∈is,(∃g cs t,i=bI g cs t)\/∃E c A n cap xs,i=oI E c A n cap xs
def atg{β:Type}(B:Nat)(E:ba)(c:Nat)(A:Option Addr)(n cap:Nat)(xs:List aj):OwnFrom B λ(_:β) W=>(oI E c A n cap xs).P W:=λs X Y row hs d hr=>by
 refine⟨hs.1,?_⟩;rcases hs.2 with h | ⟨g,cap,f,h1,h2,a,b⟩
 .exact .inl h
 exact .inr ⟨g,cap,f,h1,h2,by
  rw[grownBy_keeps_cells d (λr e=>(hr r e).2) a rfl];exact a,b⟩
def adg{β:Type}{B:Nat}(F:β->List It)(hF:∀s,aph (F s))(h:w.heap.size<=B):OwnFrom B λs W=>Mem w W (F s):=λs W a row hs b hr=>by
 refine⟨agF (β:=Unit) h () W a row hs.ext b hr,λi d=>?_,hs.ge,hs.nd⟩;rcases hF s i d with ⟨g,cs,t,rfl⟩ | ⟨E,c,A,n,cap,xs,rfl⟩
 .exact Qo (β:=Unit) B (λ_=>g) (λ_=>cs) t () W a row (hs.all _ d) b hr
 exact atg (β:=Unit) B E c A n cap xs () W a row (hs.all _ d) b hr
def Mem.addC{w0:ak}{is:List It}{D:Nat}{x:Option (List ej)}(m:Mem w0 w is)(l:aph is)(h:w.heap[D]? = X4 (.deferred x))(p:w0.heap.size<=D):Mem w0 w (Go.Proofs.YtfekpcimgncioaaGreatDoor.dI D (.deferred x)::is):=by
 refine⟨m.ext,λi hi=>?_,λi hi b f=>?_,bv.2 ⟨λj a b h1 h2=>?_,m.nd⟩⟩
 . rcases ap.1 hi with rfl | hi
   .exact h
   exact m.all i hi
 . rcases ap.1 hi with rfl | hi
   .cases f;exact p
   exact m.ge i hi b f
 cases h1
 rcases l j a with ⟨g,cs,t,rfl⟩ | ⟨E,c,A,n,cap,xs,rfl⟩
 . cases h2
   have d:w.heap[D]? = X4 (.cells cs.toArray t (0,0)):=m.all _ a;rw[h] at d;cases d
 have o:=m.all _ a
 rcases o.2 with ⟨e,_⟩ | ⟨g,r,q,e,_,k,_⟩
 .cases e;cases h2
 cases e
 cases h2;rw[h] at k;cases k
def RX.wr{W u b:ak}{A:Option Addr}{w0:ak}{S:List (Option Nat)}{E:ba}{c n cap:Nat}{xs:List aj}(h:RX W u)(f:Ow w0 u S E c A n cap xs)(e:Wr u b A):RX W b :=
 ⟨e.os.trans h.os,e.tape.trans h.tape,e.output.trans h.output,h.ko.trans ⟨e.size,λk o a j=>(e.block k (el.1 a).1 λd=>by
  rcases f.cases with ⟨rfl,_⟩ | ⟨g,l,rfl,_,i,_⟩
  .cases d
  cases d
  rw[i] at a;cases a;cases j).trans a⟩⟩
section
variable {P:bt} {Q:Exit->Act->ak->Prop} {W w0 w:ak} {is:List It} {ops:Array Oper} {rest:List Oper} {d:Nat} {ty T:ba} {pos:String} {after:Array Edge} {x y:Operand} {l:List aj} {ds:List ej}
def amz{E:ba}{c n cap b p mcap:Nat}{A B:Option Addr}{z:aj}{xs s:List aj}{a0:Array ba}(m:lG W w0 w is)(k:Nat)(v:is[k]? = X4 (oI E c A n cap xs))(G:a0 = #[T,T])(J:P.underlying T=X4 (.slice E))(H:(P.info? E).map (λi=>(i.size,i.bytes,i.zero))=X4 (c,b,X4 z))(L:z.cells.size=c)(hc:0<c)
 (hs:ev l x=.slice A n cap) (K:ev l y=.slice B p mcap) (I:s.length=p*c) (S:∀j u,s[j]? = X4 u->∃a,B=X4 a/\w.cell? (a.add j)=X4 u) (h1:∀u∈s,u.oneCell'=Z) (N:n+p<=9223372036854775807) (U:(n+p)*b<=140737488355328)
 (h:∀q r u,lG W w0 u (is.set k (oI E c q (n+p) r (xs++s)))->az P ops Q rest (Fr (l.set d (.slice q (n+p) r)) ds) u) :
 az P ops Q (bu (X4 d) (.call { callee:=.builtin .append,args:=#[x,y],argTypes:=a0 }) ty pos after X5::rest) (Fr l ds) w :=
 Xe G J H L hc m.ext hs (m.o k v) K I S h1 N U λq r u D f hF=>h q r u ⟨m.put k v f.os f.tape f.output f.size (λb t R=>f.block b t R) (by
  refine⟨D.own.1,?_⟩;rcases D.cases with ⟨rfl,C,rfl,_⟩ | ⟨g,M,rfl,_,h2,F⟩
  .exact .inl ⟨by rw[C],C⟩
  .exact .inr ⟨g,r,M,O,bn _,h2,F⟩) (by
  rcases hF with rfl | hF
  .exact .inl λ_ h=>h
  exact .inr λb t=>by
   have e:Oe q=X4 b:=t;rw[hF] at e;cases e;exact ar _),m.rx.wr (m.o k v) f⟩
def adh{W u:ak}(h:RX W u):KeepsWalks W u:=⟨h.ko.size,λk o a b=>h.ko.same k o a (by cases o <;> first | rfl | cases b)⟩
def amA{α f:Type}{L:List aj}{go:Operand}{gf p N q1 d1:Nat}{assign E:Code}{S:List α->Prop}{v1:α->aj}{c1:α->List aj}{T1:ba}
 (T:ev L go=.func (.func gf) #[] #[.pointer (X4 ⟨p,0,X5⟩)]) (M:Lith.Entr P gf) (ad:SeqStopsK Fence.wide 3 P gf #[.pointer (X4 ⟨p,0,X5⟩)] (λx=>#[v1 x]) KeepsWalks S (λ_=>True) N w)
 (F:f->List It) (R:List α->f->Prop) (hF:∀s,aph (F s)) (ab:∀W s b pre A,R pre s->R A b->Mem w0 W (F s)->Mem w0 W (F b)->R pre b) {s0:f} (m:Mem w0 w (F s0)) (I:R [] s0)
 (ag:∀(r:Nat) (pre:List α) (x:α) (s:f) (W:ak) (K:Act->ak->Prop),R pre s->lG W w0 W (F s)->(∀g u,lG W w0 u (bI g (c1 x) T1::F s)->K (Fr ((L.set q1 (v1 x)).set d1 (.pointer (X4 ⟨g,0,X5⟩)))) u) ->
  assign.wpIn (Fence.wide.inRound r) 2 P (Exit.then K (λ_ _ _=>False)) (Fr (L.set q1 (v1 x))) W)
 (ae:∀(r:Nat) (pre:List α) (x:α) (g:Nat) (s:f) (W:ak) (Q':Exit->Act->ak->Prop) [Gx Q'],pre.length<N->R pre s->lG W w0 W (bI g (c1 x) T1::F s) ->
  (∀a u b,lG W w0 u (F b)->R (pre++[x]) b->Q' .normal a u)->E.wpIn (Fence.wide.inRound r) 2 P Q' (Fr ((L.set q1 (v1 x)).set d1 (.pointer (X4 ⟨g,0,X5⟩)))) W)
 (af:∀(D:Nat) (xs:List α) (s:f) (u:ak),S xs->R xs s->Mem w0 u (Go.Proofs.YtfekpcimgncioaaGreatDoor.dI D (.deferred (X4 []))::F s)->Q .normal (Fr L [{ target:=.collected D,args:=#[] }]) u) :
 (Code.rangeFunc go #[q1] assign E).wp P Q (Fr L) w:=by
 refine (wpIn_wide (n:=4)).1 ?_;have z:=m.ext.size;have own:OwnFrom w.heap.size λ(pre:List α) W=>∃s,R pre s/\Mem w0 W (F s):=λpre X Y row ⟨s,hs,j⟩ v hr=>⟨s,hs,adg (β:=Unit) (λ_=>F s) (λ_=>hF s) z () X Y row j v hr⟩
 have aaM:∀(g:Nat) (x:α) (s:f),aph (bI g (c1 x) T1::F s):=λg x s i hi=>by
  rcases ap.1 hi with rfl | hi
  .exact .inl ⟨_,_,_,O⟩
  exact hF s i hi
 refine wpIn_rangeFunc_ownH (F:=Fence.wide) O (by omega) (gf:=gf) (lb:=#[.pointer (X4 ⟨p,0,X5⟩)]) (by rw[cN];exact T) trivial (λargs u=>tY M) ad KeepsWalks.trans
  (λW l o o' _ U _ V=>KeepsWalks.putObj o' U V) (Below.refl _ _) (λ_=>rfl)
  (λpre W=>∃s,R pre s/\Mem w0 W (F s)) (λ_ _ _=>False)
  own (λ_ _ _ _ _ h _ _=>h) ⟨s0,I,m⟩
  (λx q W=>∃g s pre,q=Fr ((L.set q1 (v1 x)).set d1 (.pointer (X4 ⟨g,0,X5⟩)))/\R pre s/\Mem w0 W (bI g (c1 x) T1::F s))
  (λx q _ X Y row hs v hr=>by
   obtain⟨g,s,pre,e,h1,h2⟩:=hs;exact⟨g,s,pre,e,h1,adg (β:=Unit) (λ_=>bI g (c1 x) T1::F s) (λ_=>aaM g x s) z () X Y row h2 v hr⟩)
  ?_ ?_ ?_ ?_
 . rintro r pre x W K ⟨s,hs,j⟩ G
   have e:((#[q1].zip #[v1 x]).foldl (λt (y:Tmp × aj)=>t.setIfInBounds y.1 y.2) (Fr L).tmps)=(L.set q1 (v1 x)).toArray:=by simp
   have:=ag r pre x s W K hs (lG.start j) (λg u d=>G _ _ (d.rx.ko.from _) (adh d.rx) ⟨s,hs,d.toMem.tl⟩ ⟨g,s,pre,rfl,hs,d.toMem⟩);simp only at this ⊢;rw[e];exact this
 . rintro r pre x q W _ _ ⟨s,hs,j⟩ ⟨g,b,A,rfl,aa,C⟩ H
   have k:=ab W s b pre A hs aa j C.tl;refine ae r pre x g b W _ H k (lG.start C) (λa u Z d h2=>?_);exact⟨d.rx.ko.from _,adh d.rx,Z,h2,d.toMem⟩
 . rintro D xs W B J ⟨s,hs,j⟩ k
   exact af D xs s W J hs (Lith.Mem.addC j (hF s) k (be z B))
 rintro D c pre W B ah h k
 exact h.elim
end
end Go.Lith
namespace Go.Proofs.YtfekpcimgncioaaGreatDoor
open Go.Proofs.Tryz
open Go.RowKit Go.Lith
set_option maxRecDepth 100000
attribute [local irreducible] az cw fW bX cP Code.wp
attribute [local congr] dK dL cR dJ
variable{N gf Bs:Nat}
def amB{i:Nat}(l Bs g c:Nat){es:Array cu}{D:List (H × H)}(J w:List H->ak->Prop)(W:ak)(k:AbidesFrom W.heap.size J)
 (hY:∀pre x f,J pre f->pre.length<D.length->YieldAt Fence.wide (i-1) prog l #[pt x] f λe d=>(e=.returned (.bool Z)/\J (pre++[x]) d/\KeepsWalks f d)\/(e=.returned (.bool X3)/\w (pre++[x]) d))
 (A:iR W g es c) (j:bY pt pt D es c) (hB:fQ W Bs [.map (X4 g)] 99) (z:J [] W) :
 CallsIn Fence.wide i prog 129 #[.func (.yield l) #[] #[],.pointer (X4 ⟨Bs,0,X5⟩)] W λe d=>(∃v,e=.returned v)/\((∃xs:List H,xs.Perm (D.map (·.1))/\J xs d)\/(∃pre,True/\w pre d)):=by
 refine callsIn_of_wp func129 O trivial ?_ O;simp only[ntmps129,ib,ay,bm,aa,Nat.reduceSub,iv,iw,jr,jd,bz,cq];refine wpIn_wide.2 ?_;refine bM λY C=>av (bE O (hB.lies1 aq4 O) ?_);simp only[G];refine afT Sy O A λN r y hr hI=>aI (C _ _ ?_);have ae:J [] N:=k [] W N X5 z (adf y) (λ_ h=>by cases h);have ah:=A.ext y;clear z C Y;refine wp_block ?_;simp only[G];refine afE [] [3,6,7,8,9,10,11,12,13] (λn vs s=>∃(a rs:List (H × H)) (q:Array Nat),vs=[]/\iR s g es c/\sG s r g c q c/\oJ pt pt D es q a rs/\J (a.map (·.1)) s/\n=rs.length) ?_ ?_
 . apply Exists.intro
   simp only[zQ,zR,zD,zE];exact⟨[],D,#[],trivial,ah,hI,oJ.start j,ae,O⟩
 intro n vs wr hL u
 obtain⟨a,rs,q,rfl,aj,Q,o,ag,hn⟩:=hL;have ap:=o.len;simp only[zu,zF,zG];refine bM λK5 E=>av (apg O Q aj j o λbb kk vv an L al S P B=>?_);refine aD (qJ O) (aI (E _ _ ?_));have R:J (a.map (·.1)) L:=k _ _ _ _ ag al (λr' e=>by cases e;exact⟨hr,_,Q,O⟩);clear E K5;refine bM λK6 F=>?_;simp only[G];refine cL O ?_ ?_<;>intro U
 . obtain⟨p,kb,X,hp,T⟩:=Jj U B
   refine wp_skip (F _ _ ?_);clear F K6;refine wp_block (bM λK7 I=>av (fI (uE O P S j T) ?_));simp only[G];refine aD (fG O O) ?_;have m:=Mem.refl L;simp only[G];refine mH m iF O ?_;clear m;intro g2 u2 m;simp only[G];refine bP m 0 O O O aA (gS O) O ?_;clear m;intro M m;simp only[zy,zx,over,zF,zG,aa] at m;refine aI (I _ _ ?_);clear I K7;have af:J (a.map (·.1)) M:=k _ _ _ _ R (adf m.ext) (λ_ h=>by cases h);have ai:=S.ext m.ext;have ad:=P.ext m.ext;have ab:=m.b 0 rfl;obtain⟨fn,tmps,am,ao,hy,hR⟩:=hY (a.map (·.1)) p M af (by have:=hp.length_eq;rw[cj];simp only[ay] at this;omega);refine bM λK8 K=>(wpIn_wide (n:=i)).1 (wpIn_region_lit (xM (aJ _) ?_));simp only[G];refine xM (bD O (ab.full aG aA)) ?_;simp only[G];refine Qn (args:=[pt p]) O O hy hR ?_;rintro e w4 (⟨rfl,t,V⟩ | ⟨rfl,t⟩)
   . refine⟨_,O,xM (pS O _) (K _ _ ?_)⟩
     simp only[G];refine agY O (wp_skip ?_);simp only[dq,Exit.then];refine⟨X.length,_,?_,O,?_,?_⟩
     .rw[hn,hp.length_eq];exact fx _
     .simp only[G,zv]
     simp only[zQ,zR,zD,zE]
     exact⟨a++[(p,kb)],X,_,trivial,V.same g _ ai O,V.same r _ ad O,T,by rw[de];exact t,O⟩
   refine⟨_,O,xM (pS O _) (K _ _ ?_)⟩
   simp only[G];refine Ck O (wp_ret ?_);simp only[dq,Exit.then];exact atZ O ⟨⟨_,O⟩,.inr ⟨_,trivial,t⟩⟩
 obtain rfl:=Ji U B
 refine wp_exit ?_;simp only[dq,Exit.then,K0];exact Gj O ⟨⟨_,O⟩,.inl ⟨a.map (·.1),o.done.map _,R⟩⟩
def Pg{w:ak}{Bs g c:Nat}{es:Array cu}{D:List (H × H)}(b:iR w g es c)(h:bY pt pt D es c)(a:fQ w Bs [.map (X4 g)] 99) :
 SeqStopsK Fence.wide 3 prog 129 #[.pointer (X4 ⟨Bs,0,X5⟩)] (λx:H=>#[pt x]) KeepsWalks (λxs=>xs.Perm (D.map (·.1))) (λ_=>True) D.length w:=λl J e W d i _ j f =>
 amB l Bs g c J e W i j ((d.block g b.lt).trans b) h ((d.block Bs a.lt).trans a) f
structure SlS where
 A:Option Addr
 n:Nat
 cap:Nat
 xs:List aj
def api{w0 W:ak}{g:Nat}{s a:SlS}{pre j:List H}(h:s.n=pre.length/\s.xs=pre.flatMap iD)(l:a.n=j.length/\a.xs=j.flatMap iD)(m:Mem w0 W [bI g [.slice s.A s.n s.cap] 65,oI 30 3 s.A s.n s.cap s.xs])(c:Mem w0 W [bI g [.slice a.A a.n a.cap] 65,oI 30 3 a.A a.n a.cap a.xs]):a.n=pre.length/\a.xs=pre.flatMap iD:=by
 obtain⟨A,n,cap,xs⟩:=s;obtain⟨r,n',w,v⟩:=a;dsimp only at h l m c ⊢;have e:W.heap[g]? = _:=m.b 0 rfl;rw[show W.heap[g]? = _ from c.b 0 rfl] at e;simp only[ik,Obj.cells.injEq,List.toArray_inj,List.cons.injEq,Value.slice.injEq,Y2] at e;obtain⟨rfl,rfl,rfl⟩:=e;refine⟨h.1,?_⟩;rcases (m.o 1 rfl).cases with ⟨rfl,_,_,d⟩ | ⟨t,u,rfl,_,p,_,_,_,d⟩
 . rcases (c.o 1 rfl).cases with ⟨_,_,_,f⟩ | ⟨k,q,e,_⟩
   .rw[f,<-h.2,d]
   cases e
 rcases (c.o 1 rfl).cases with ⟨e,_⟩ | ⟨k,q,e,_,i,_,_,_,f⟩
 .cases e
 cases e
 rw[p] at i;cases i;rw[<-f,d,h.2]
def amC{q:Nat}(w:ak):cY prog 69 [.map (X4 q)] w (λv w'=>∃g,v=.func (.func 129) #[] #[.pointer (X4 ⟨g,0,X5⟩)]/\w.heap.size<=g/\fQ w' g [.map (X4 q)] 99):=by
 refine⟨bJ func69 (by kernel_rfl),?_⟩;have m:=Mem.refl w
 go_enter func69,ntmps69
 apply gH 7 [0] m;simp only[↓U];intro a u m;refine aD fZ ?_;simp only[G,gt,bi,dh];apply aH 3 [] m;simp only[↓U];exact aS O O ⟨_,O,m.ext,a,O,m.ge _ br a O,(m.b 0 O)⟩
def Ih{α:Type}{n:Nat}{P:bt}{g:Nat}{lb:Array aj}{b:α->Array aj}{Kp:ak->ak->Prop}{S a:List α->Prop}{w u:ak}(h:SeqStopsK Fence.wide n P g lb b Kp S a N w)(e:fJ w u):SeqStopsK Fence.wide n P g lb b Kp S a N u:=λl J c W d=>h l J c W (Below.trans e (Below.mono d (Below.size e)))
def adi{S:List H->Prop}(w:ak)(J:Entr prog gf)(Q:SeqStopsK Fence.wide 3 prog gf #[.pointer (X4 ⟨Bs,0,X5⟩)] (λx:H=>#[pt x]) KeepsWalks S (λ_=>True) N w)(V:N<=10000000):cY prog 193 [.slice X5 0 0,.func (.func gf) #[] #[.pointer (X4 ⟨Bs,0,X5⟩)]] w (λv w'=>∃xs:List H,SL 30 3 (xs.flatMap iD) xs.length w v w'/\S xs):=by
 refine⟨bJ func193 (by kernel_rfl),?_⟩;have m:=Mem.refl w;refine (callsIn_wide (n:=4)).1 (callsIn_of_wp_marks func193 O trivial ?_ O);simp only[ntmps193,ib,ay,bm,aa,Nat.reduceSub,iv,iw,jr,jd,bz,cq];refine wpIn_wide.2 ?_;refine bM λy l=>av (at3 m O O ?_);intro E u m;refine aD aM (aI (l _ _ ?_));try clear l y
 refine bM λz p=>bM λB q=>?_;simp only[G];replace m:=m.nilO 30 3;refine av (aD aJ (aI (q _ _ ?_)));try clear q B
 refine wp_block ?_;simp only[G];replace m:=m.s01;refine amA (L:=_) (v1:=λx=>pt x) (c1:=iD) (T1:=30) (d1:=5) O J (Ih Q m.ext) (λs:SlS=>[bI E [.slice s.A s.n s.cap] 65,oI 30 3 s.A s.n s.cap s.xs]) (λpre s=>s.n=pre.length/\s.xs=pre.flatMap iD) (λs i j=>?_) (λW s X pre ab h h2 m1 m2=>api h h2 m1 m2) (s0:=⟨X5,0,0,[]⟩) m ⟨O,O⟩ ?_ ?_ ?_
 .simp only[ap,cd,Z9] at j;rcases j with rfl | rfl;exact .inl ⟨_,_,_,O⟩;exact .inr ⟨_,_,_,_,_,_,O⟩
 .intro r pre x s W K hs m g;try dsimp only at m g ⊢
  simp only[zF,zG];refine cE (Kz m iF O ?_);intro R u m;simp only[G];refine Eg m 0 O O O aA (gS O) O ?_;intro u m;simp only[zy,zx,over,zF,zG,aa] at m;exact aI (g _ _ m)
 .rintro r pre x T ⟨d,n1,e,P⟩ W Q' _ Y ⟨a,c⟩ m k;dsimp only at m k a c ⊢;subst c
  simp only[zF,zG];refine pM (cE (bE O ((m.b 1 O).lies1 aj7 O) ?_));simp only[G];refine bE O ((m.b 0 O).full aG aA) ?_;simp only[G];refine kH O ?_;intro u U f I M;replace m:lG _ _ _ _:=⟨m.toMem.newB f I M,m.rx.ext f⟩
  simp only[G];refine amz m 3 O O eR mK O (by decide) O O O (m.b 0 O).rowsO (fN O) (by omega) (by omega) ?_;intro d e u m;simp only[zF,zG] at m;rw[show pre.flatMap iD++_=(pre++[x]).flatMap iD by rw[aw];rfl] at m;simp only[G];refine iP m 2 O O O aj6 (gS O) ⟨O,O⟩ ?_;intro u m;simp only[G,zy,zx,over,aa] at m;exact aI (k _ _ ⟨d,n1+1,e,(pre++[x]).flatMap iD⟩ ⟨m.toMem.sel [X3,X3,Z,Z],m.rx⟩ ⟨by simp[a],O⟩)
 rintro D xs ⟨d,n1,e,P⟩ u F ⟨a,c⟩ m;dsimp only at m a c;subst c;refine p _ _ ?_;try clear p z
 refine bM λC t=>av (bE O ((m.b 1 O).lies1 aj7 O) ?_);simp only[G];refine aD aM (aI (t _ _ ?_));try clear t C
 refine wp_ret ?_;simp only[G];try simp only[dq,Exit.then,K0]
 refine adS (Def.mk (m.get 0 O)) ?_;replace m:=m.putD (o':=.deferred X5) 0 O;simp only[zF,zG] at m;refine aS O O ?_;try simp only[zD,zE]
 exact⟨_,O,m.ext,xs,⟨d,e,n1,a,O,(m.o 2 O)⟩,F⟩
def afs{S:List H->Prop}(w:ak)(e:Entr prog gf)(g:SeqStopsK Fence.wide 3 prog gf #[.pointer (X4 ⟨Bs,0,X5⟩)] (λx:H=>#[pt x]) KeepsWalks S (λ_=>True) N w)(b:N<=10000000):cY prog 127 [.func (.func gf) #[] #[.pointer (X4 ⟨Bs,0,X5⟩)]] w (λv w'=>∃xs:List H,SL 30 3 (xs.flatMap iD) xs.length w v w'/\S xs):=by
 refine⟨bJ func127 (by kernel_rfl),?_⟩;have m:=Mem.refl w
 go_enter func127,ntmps127
 apply fF 7 [0] m;simp only[↓U];refine bF O O (adi _ e (Ih g m.ext) b) ?_;rintro v u a ⟨xs,⟨h,j,i,f,rfl,d⟩,c⟩;replace m:=m.newO a d;apply aH 3 [] m;simp only[↓U];exact aS O O ⟨_,O,m.ext,xs,⟨_,_,_,f,O,(m.o 0 O)⟩,c⟩
def adj{S:List H->Prop}(w:ak)(h:Entr prog gf)(n:SeqStopsK Fence.wide 3 prog gf #[.pointer (X4 ⟨Bs,0,X5⟩)] (λx:H=>#[pt x]) KeepsWalks S (λ_=>True) N w)(f:∀xs,S xs->xs.length<=N)(e:N<=10000000):cY prog 68 [.func (.func gf) #[] #[.pointer (X4 ⟨Bs,0,X5⟩)],.func (.func 70) #[] #[]] w (λv w'=>∃xs ys:List H,SL 30 3 (ys.flatMap bH) xs.length w v w'/\S xs/\ys.Perm xs/\ys.Pairwise λa b=>¬b.Lt a):=by
 refine⟨bJ func68 (by kernel_rfl),?_⟩;have m:=Mem.refl w
 go_enter func68,ntmps68
 apply fF 7 [0] m;simp only[↓U];refine bF O O (afs _ h (Ih n m.ext) e) ?_;rintro v u d ⟨xs,⟨p,r,q,j,rfl,g⟩,c⟩;replace m:=m.newO d g;apply aH 6 [0] m;simp only[↓U];refine mJ m 0 aew O O (λm=>agM m 0 O (by have:=f xs c;omega)) ?_;rintro v i u m ⟨rfl,ys,rfl,l,k⟩;simp only[zF,zG] at m;apply aH 7 [] m;simp only[↓U];exact aS O O ⟨_,O,m.ext,xs,ys,⟨_,_,_,j,O,(m.o 0 O)⟩,c,l,k⟩
def ath{w0 w:ak}{K n:It}{g g90 ga cap ca cf:Nat}{A:Option Addr}{ea ef:Array cu}{D:List (H × Hd)}{F:List (H × Bool)}{ts:List T3}{cs:List fX}{n1 c1:Nat}{l:Option Addr}(m:Mem w0 w [oI 112 8 l n1 c1 (cs.flatMap jC),bI g [.pointer (X4 ⟨g90,0,X5⟩)] 88,K,oI 39 9 A N cap (ts.flatMap aL),n])(s:∀u,K.P u->Lg 109 u g90 ga gf A N cap ea ef ca cf D ts)(q:Ux ea ef ca cf D F ts)(T:∀t∈ts,t.nd=Z)(J:∀t∈ts,IT t)(B:ts.length<=1000000)(r:∀c∈cs,I3 c.u/\I3 c.v)(E:∀c∈cs,Bd 900000 c.c)(S:n1<=100000000):wV prog 63 [.slice l n1 c1,.func (.func 64) #[] #[],.func (.func 65) #[] #[.pointer (X4 ⟨g,0,X5⟩)]] w λv w'=>Mem w0 w' [bI g [.pointer (X4 ⟨g90,0,X5⟩)] 88,K,oI 39 9 A N cap (ts.flatMap aL),n]/\((v=.tuple #[.agg #[X6 0,X6 0,X6 0,X6 0,X6 0,X6 0,.bool X3,.string ⟨#[]⟩],.bool X3]/\∀c∈cs,cH ts c.u c.v=X3)\/∃(c:fX) (ys:List fX) (j:Nat),v=.tuple #[Ig c,.bool Z]/\ys.Perm cs/\(ys.Pairwise λa b=>¬b.Lt a)/\ys[j]? = X4 c/\cH ts c.u c.v=Z/\∀(i:Nat) (d:fX),i<j->ys[i]? = X4 d->cH ts d.u d.v=X3):=by
 refine⟨bJ func63 (by kernel_rfl),?_⟩
 go_enter func63,ntmps63
 apply gH 9 [0] m;simp only[↓U,↓cB,aeQ];intro ab u m;refine mJ m 1 (bJ func123 (by kernel_rfl)) O O (λm=>apc E m 1 O (by omega)) ?_;rintro v i u m ⟨rfl,ys,rfl,k,W⟩;simp only[zF,zG] at m;apply aH 5 [0] m;simp only[↓U];refine cK m O O (amo _ (m.b 2 O) (s _ (m.get 3 O)) ((m.o 4 O).tris J) q T B ((m.o 1 O).lat (enc:=jC) (λ_=>rfl) (by decide)) (λc hc=>r c (k.mem_iff.1 hc)) S) ?_;rintro v u m ⟨kk,rfl,p⟩;apply aH 8 [0,0] m;simp only[↓U];refine bC O ?_ ?_<;>intro Q
 .apply xI 11 [1,1] m;simp only[↓U,↓cB,aeQ,aeP,aa];intro ad u m;exact wE O ⟨_,O,((m.b 1 O).full Jw yC)⟩ O ⟨_,O,m.sel [X3,X3,X3,Z,Z,Z,Z],.inl ⟨O,λc hc=>(p.resolve_right (λ⟨j,c2,e,_⟩=>by omega)).2 c (k.mem_iff.2 hc)⟩⟩
 obtain⟨j,c,rfl,Y,hc,C,M⟩:=p.resolve_left (λh=>Q h.1);obtain⟨f,R,X,I,V⟩:=((m.o 1 rfl).lat (enc:=jC) (λ_=>rfl) (by decide)).get (i:=j) (by omega);obtain rfl:f=c:=fc (R.symm.trans hc);subst I;apply L 6 [0] m;simp only[↓U,↓cB,akA,ah,ai];apply I0;omega;refine bE O (show dQ _ _ _ _ (.agg #[X6 f.u.x,X6 f.u.y,X6 f.u.z,X6 f.v.x,X6 f.v.y,X6 f.v.z,.bool (dH f.c),.string (eC f.c)]) from V.lies Jw yC) ?_;simp only[G];apply lK 4 [0] m;simp only[↓U,↓cB,aeP,aa];intro u m;exact wE O ⟨_,O,((m.b 0 O).full Jw yC)⟩ O ⟨_,O,m.sel [X3,X3,Z,Z,Z,Z],.inr ⟨f,ys,j,O,k,W,hc,C,M⟩⟩
end Go.Proofs.YtfekpcimgncioaaGreatDoor
namespace Go.Lith
open Go.RowKit Go.ChangeMaps Go.MapKept
section
variable {K V:Type} [DecidableEq K] {P:bt} {T M E ty:ba} {ek:K->aj} {ev:V->aj} {w w0:ak} {g c:Nat} {es:Array cu} {D:List (K × V)} {is:List It}
def tX(ek:K->aj)(ev:V->aj)(D:List (K × V))(es:Array cu)(seen:Array Nat)(c rs:List (K × V)):Prop :=
 (c++rs).Perm D/\∃a b:List cu,(∀e∈a,e.born∈seen.toList)/\(∀e∈b,e.born∉seen.toList)/\(a++b).Perm es.toList/\a.map Vw=c.map (λx=>(ek x.1,ev x.2))/\b.map Vw=rs.map (λx=>(ek x.1,ev x.2))
def yV(ek:K->aj)(ev:V->aj)(D:List (K × V))(es:Array cu)(seen:Array Nat)(a:List (K × V))(k:K)(v:V)(rs:List (K × V)):Prop :=
 tX ek ev D es seen (a++[(k,v)]) rs/\∃(e:cu) (s:Array Nat),e∈es.toList/\Vw e=(ek k,ev v)/\seen=s.push e.born
def tX.start(a:bY ek ev D es c):tX ek ev D es #[] [] D:=⟨oy _,[],es.toList,λ_ h=>(by cases h),λ_ _ h=>(by cases h),oy _,rfl,a.cells⟩
def tX.done{seen:Array Nat}{a:List (K × V)}(h:tX ek ev D es seen a []):a.Perm D:=by simpa using h.1
def apj(ek:K->aj)(ev:V->aj)(D:List (K × V))(es:Array cu)(c rs:List (K × V))(b:Bool)(d:Array Nat):Prop :=
 (b=X3/\rs=[])\/(b=Z/\∃k v a,rs.Perm ((k,v)::a)/\yV ek ev D es d c k v a)
def aip{r:Nat}{seen:Array Nat}{m rs:List (K × V)}(l:sG w r g c seen c)(G:iR w g es c)(o:bY ek ev D es c)(H:tX ek ev D es seen m rs) :
 ∃b L M z d,(d=w\/d=w.drew)/\(Instr.next (.pointer (X4 ⟨r,0,X5⟩)) X3 ty).run P w=.ok (Gn b L M) (setBlock d r (.mapIter (X4 g) c z c))/\apj ek ev D es m rs b z:=by
 obtain⟨hp,a,f,h1,p,h2,F,j⟩:=H;have N:((a++f).map (·.born)).Nodup:=(h2.map (·.born)).nodup_iff.2 o.nd;have y:∀e,e∈(leftOf es seen).toList↔e∈f:=λe=>by
  unfold leftOf;simp only[Array.toList_filter,ct,fp,Array.contains_eq_mem,Y1];rw[<-Array.mem_toList_iff (xs:=seen),<-h2.mem_iff,bh];constructor
  . rintro⟨h | h,J⟩
    .exact Z8 (h1 e h) J
    exact h
  intro h
  exact⟨.inr h,p e h⟩
 rcases run_next_at (P:=P) w ty r g c c seen es c l G o.born (ar _) with ⟨E,hr⟩ | ⟨e,I,d,Q,hr⟩
 . refine⟨X3,default,default,seen,w,.inl O,?_,.inl ⟨O,?_⟩⟩
   . rw[hr]
     have:setBlock w r (.mapIter (X4 g) c seen c)=w:=by
      unfold setBlock;have T:=(el.1 l).1;have:w.heap.setIfInBounds r (.mapIter (X4 g) c seen c)=w.heap:=by
       apply Array.ext_getElem?;intro i;rw[Array.getElem?_setIfInBounds];split
       .rename_i e;subst e;exact l.symm
       rfl
      rw[this]
     rw[this];rfl
   cases rs with
   | nil=>rfl
   | cons x rs =>
    cases f with
    | nil=>simp at j
    | cons e f =>
     have:=(y e).2 (br ..);rw[Array.eq_empty_of_size_eq_zero E] at this;simp at this
 obtain⟨s,t,rfl⟩:=List.append_of_mem ((y e).1 I)
 rw[de,bi] at j;obtain⟨R,U,rfl,A,B⟩:=mo.1 j.symm;obtain⟨x,S,rfl,n,C⟩:=nw.1 B;obtain⟨k,v⟩:=x;have q:(a++[e]++(s++t)).Perm (a++(s++e::t)):=by
  simp only[cn,cq,bz];exact nc _ List.perm_middle.symm
 have u:((a++[e]++(s++t)).map (·.born)).Nodup:=(q.map _).nodup_iff.2 N;rw[de,ky] at u;refine⟨Z,e.key,e.val,seen.push e.born,d,Q,hr,.inr ⟨O,k,v,R++S,List.perm_middle,⟨?_,a++[e],s++t,?_,?_,?_,?_,?_⟩,e,seen,h2.mem_iff.1 (by simp),by rw[<-n],O⟩⟩
 . refine List.Perm.trans ?_ hp
   simp only[cn,cq,bz];exact nc _ List.perm_middle.symm
 . intro x hx
   rw[ox];rcases bh.1 hx with hx | hx
   .exact il _ (h1 x hx)
   rw[a_.1 hx];exact gu _ (a_.2 O)
 . intro x hx hm
   rw[ox] at hm;rcases bh.1 hm with hm | hm
   . refine p x ?_ hm
     rcases bh.1 hx with h | h
     .exact il _ h
     exact gu _ (bp _ h)
   refine u.2.2 e.born (dj.2 ⟨e,by simp,O⟩) x.born (dj.2 ⟨x,hx,O⟩) (a_.1 hm).symm
 .exact q.trans h2
 . simp only[de,F,bi,dh]
   rw[<-n]
 simp[A,C]
def aft{r:Nat}{seen:Array Nat}{b rs:List (K × V)}{k:K}{v:V}(f:sG w r g c seen c)(h:iR w g es c)(d:bY ek ev D es c)(i:yV ek ev D es seen b k v rs) :
 (Instr.entry (.pointer (X4 ⟨r,0,X5⟩))).run P w=.ok (.tuple #[ek k,ev v]) w:=by
 obtain⟨_,e,s,j,a,rfl⟩:=i;have:=run_entry_at (P:=P) w r g c _ es c e f h j d.nd;rw[this];simp only[Vw,gl] at a;rw[a.1,a.2]
def amD(w:ak)(c:tA P T ek){a b:K}(h:ek a=ek b):a=b:=by
 have h1:=c.eq a b w;have h2:=c.eq a a w;rw[<-h,h2] at h1
 injection h1 with h1
 simpa using h1.symm
def Nt{α:Type}:∀{l:List α} {p:Nat} {x:α},l[p]? = X4 x->l.Perm (x::l.eraseIdx p)
 | [],_,_,h=>by simp at h
 | y::l,0,x,h=>by simp at h;subst h;exact .refl _
 | y::l,p+1,x,h=>by
  have:=Nt (l:=l) (p:=p) (by simpa using h);exact (this.cons y).trans (.swap ..)
def Nu{α:Type}:∀{l:List α} {p:Nat} {x y:α},l[p]? = X4 x->(l.set p y).Perm (y::l.eraseIdx p)
 | [],_,_,_,h=>by simp at h
 | z::l,0,x,y,h=>.refl _
 | z::l,p+1,x,y,h=>by
  have:=Nu (l:=l) (p:=p) (y:=y) (x:=x) (by simpa using h);exact (this.cons z).trans (.swap ..)
def Vf{D:List (K × V)}(c:(D.map (·.1)).Nodup){p q:Nat}{k:K}{v u:V}(hp:D[p]? = X4 (k,v))(hq:D[q]? = X4 (k,u)):p=q:=by
 have h1:(D.map (·.1))[p]? = X4 k:=by simp[hp]
 have h2:(D.map (·.1))[q]? = X4 k:=by simp[hq]
 obtain⟨d,a⟩:=ao.1 h1;obtain⟨e,b⟩:=ao.1 h2;exact (ob c).1 (a.trans b.symm)
def yV.at(I:tA P T ek)(w:ak){seen:Array Nat}{g rs:List (K × V)}{k:K}{v:V}(B:bY ek ev D es c)(o:(D.map (·.1)).Nodup)(E:yV ek ev D es seen g k v rs) :
 ∃(p:Nat) (e:cu) (f d:List cu),rG D k 0=X4 (p,v)/\D[p]? = X4 (k,v)/\es.toList[p]? = X4 e/\(g++rs).Perm (D.eraseIdx p)/\(f++d).Perm (es.toList.eraseIdx p)/\e.born∈seen.toList /\
  (∀e∈f,e.born∈seen.toList)/\(∀e∈d,e.born∉seen.toList)/\f.map Vw=g.map (λx=>(ek x.1,ev x.2))/\d.map Vw=rs.map (λx=>(ek x.1,ev x.2)):=by
 obtain⟨⟨hp,f,d,h1,J,h2,m,A⟩,_⟩:=E;have N:(k,v)∈D:=hp.mem_iff.1 (by simp);have h:=pH o N;cases i:rG D k 0 with
 | none=>rw[(rK D k 0 i).1] at h;cases h
 | some q =>
  obtain⟨j,v'⟩:=q;obtain⟨p,rfl,l,z,_,_⟩:=mX D k 0 j v' i;rw[ai] at i ⊢;obtain rfl:v'=v:=by rw[z] at h;exact fc h
  rw[de,bi,dh] at m;obtain⟨d1,d2,rfl,r,s⟩:=mo.1 m;obtain⟨e,d3,rfl,t,y⟩:=nw.1 s;obtain rfl:d3=[]:=by simpa using y
  have F:e∈es.toList:=h2.mem_iff.1 (by simp);obtain⟨q,hq⟩:=df.1 F;have M:∃u,D[q]? = X4 (k,u):=by
   have b:=C (λL=>L[q]?) B.cells;simp only[fi,hq,gh,t] at b;cases n:D[q]? with
   | none=>rw[n] at b;cases b
   | some x =>
    rw[n] at b;simp only[gh,ik,gl] at b;obtain⟨a,u⟩:=x;obtain rfl:k=a:=amD w I b.1;exact⟨u,O⟩
  obtain⟨u,G⟩:=M;obtain rfl:=Vf o l G;refine⟨p,e,d1,d,O,l,hq,?_,?_,h1 e (by simp),λx H=>h1 x (il _ H),J,r,A⟩
  . have:((k,v')::(g++rs)).Perm ((k,v')::D.eraseIdx p):=by
     refine (?_:List.Perm _ _).trans (hp.trans (Nt l));rw[cn];exact List.perm_middle.symm
    exact (pa _).1 this
  have:(e::(d1++d)).Perm (e::es.toList.eraseIdx p):=by
   refine (?_:List.Perm _ _).trans (h2.trans (Nt hq));rw[cn];exact List.perm_middle.symm
  exact (pa _).1 this
def adk{T2:ba}{seen:Array Nat}{i rs:List (K × V)}{k:K}{v:V}(y:P.underlying M=X4 (.map T E))(d:tA P T ek)(b:iR w g es c)(a:bY ek ev D es c)(x:(D.map (·.1)).Nodup)(t:yV ek ev D es seen i k v rs) :
 ∃f,(Builtin.delete_ #[M,T2] ty #[.map (X4 g),ek k]).run P w=.ok (.tuple #[]) (setBlock w g (.map f c))/\bY ek ev (Db D k) f c/\tX ek ev (Db D k) f seen i rs:=by
 unfold iR at b;obtain⟨p,e,n,z,l,hp,B,u,s,_,h1,A,q,r⟩:=t.at d w a x;obtain⟨C,j,_,_,_,m⟩:=mX D k 0 p v l;rw[ai] at j;subst j;refine⟨es.eraseIdxIfInBounds p,?_,m▸a.erase p,m▸u,n,z,h1,A,?_,q,r⟩
 .simp[Builtin.delete_,run_underlying y,getObj,Sem.run,b,d.chk,vH d k w a,l,run_setObj_map _ b,setBlock]
 have o:(es.eraseIdxIfInBounds p).toList=es.toList.eraseIdx p:=by
  by_cases h:p<es.size
  .simp[lu,h]
  simp only[lu,h,dite_false]
  exact (List.eraseIdx_of_length_le (by simpa using Nat.le_of_not_lt h)).symm
 rw[o];exact s
def adl{seen:Array Nat}{l rs:List (K × V)}{k:K}{v:V}(H:P.underlying M=X4 (.map T E))(d:tA P T ek)(f:iR w g es c)(b:bY ek ev D es c)(G:(D.map (·.1)).Nodup)(z:yV ek ev D es seen l k v rs)(u:V) :
 ∃i,(Instr.mapUpdate M (.map (X4 g)) (ek k) (ev u)).run P w=.ok () (setBlock w g (.map i c))/\bY ek ev (fP D k u) i c/\tX ek ev (fP D k u) i seen (l++[(k,u)]) rs:=by
 unfold iR at f;obtain⟨p,e,q,I,n,hp,a,B,y,A,h1,J,s,t⟩:=z.at d w b G;obtain⟨Q,m,_,_,o,_⟩:=mX D k 0 p v n;rw[ai] at m;subst m;have F:e.key=ek k:=by
  have h2:=C (λL=>L[p]?) b.cells;simp only[fi,hp,a,gh,Vw,ik,gl] at h2;exact h2.1
 have N:es[p]? = X4 e:=by rw[<-Array.getElem?_toList];exact a
 have O:((es[p]?).map (·.key)).getD (ek k)=ek k:=by rw[N];exact F
 refine⟨es.modify p λe=>{ e with key:=ek k,val:=ev u },?_,o u▸b.set hp u,o u▸?_,q++[{ e with key:=ek k,val:=ev u }],I,?_,J,?_,?_,t⟩
 . simp only[Instr.mapUpdate,Sem.run_bind,run_underlying H,Result.andThen,getObj,Sem.run,f,Sem.run_pure,d.chk,vH d k w b,n,gh,O,Instr.keyThatStays,d.bits,K0]
   exact run_setObj_map _ f
 . rw[cn]
   refine List.perm_middle.trans (((B.cons (k,u))).trans (Nu hp).symm)
 . intro x hx
   rcases bh.1 hx with hx | hx
   .exact h1 x hx
   rw[a_.1 hx];exact A
 . have r:(es.modify p λe=>{ e with key:=ek k,val:=ev u }).toList=es.toList.set p { e with key:=ek k,val:=ev u }:=by
    rw[Array.toList_modify];apply List.ext_getElem?;intro j;rw[List.getElem?_modify,List.getElem?_set];by_cases h:p=j
    . subst h
      have:=(ao.1 a).1;rw[a];simp[this];simpa using this
    simp[h]
   rw[r,cn];exact List.perm_middle.trans ((y.cons _).trans (Nu a).symm)
 simp[s,Vw]
def yV.stay{seen:Array Nat}{a rs:List (K × V)}{k:K}{v:V}(b:yV ek ev D es seen a k v rs):tX ek ev D es seen (a++[(k,v)]) rs:=b.1
variable {ds:List ej} {l:List aj} {x y z:Operand} {ops:Array Oper} {Q:Exit->Act->ak->Prop} {rest:List Oper} {d:Nat} {pos:String} {after:Array Edge}
def amE{r:Nat}{seen:Array Nat}{p rs:List (K × V)}(m:Mem w0 w is)(k:Nat)(s:is[k]? = X4 (iI r g c seen))(E:Go.Lith.ev l x=.pointer (X4 ⟨r,0,X5⟩))(z:iR w g es c)(y:bY ek ev D es c)(B:tX ek ev D es seen p rs)
 (h:∀b j n i u,Mem w0 u (is.set k (iI r g c i))->apj ek ev D es p rs b i->az P ops Q rest (Fr (l.set d (Gn b j n)) ds) u) :
 az P ops Q (bu (X4 d) (.next x X3) ty pos after X5::rest) (Fr l ds) w:=by
 have q:=m.r k s;obtain⟨b,j,n,i,f,H,hr,A⟩:=aip (P:=P) (ty:=ty) q z y B;refine mG (w':=setBlock f r (.mapIter (X4 g) c i c)) (v:=Gn b j n) (λo C G=>by simp[execOp,C,cN,E,G,hr]) (h b j n i _ ?_ A);have a:f.heap=w.heap/\f.os=w.os/\f.tape=w.tape/\f.output=w.output:=by rcases H with rfl | rfl <;> exact⟨rfl,rfl,rfl,rfl⟩
 refine m.put k s a.2.1 a.2.2.1 a.2.2.2 (by simp[setBlock,a.1]) (λt _ F=>?_) ?_ (.inl λ_ h=>h)
 . have:t≠r:=λe=>F (by rw[e];rfl)
   simp only[setBlock,a.1];exact jh (Ne.symm this)
 exact jM (w:=f) (o:=.mapIter (X4 g) c seen c) (by rw[a.1];exact q)
def adm{r:Nat}{seen:Array Nat}{a rs:List (K × V)}{k:K}{v:V}(i:Go.Lith.ev l x=.pointer (X4 ⟨r,0,X5⟩))(d:sG w r g c seen c)(e:iR w g es c)(b:bY ek ev D es c)(f:yV ek ev D es seen a k v rs) :
 Cb P l (.entry x) ty (.tuple #[ek k,ev v]) w:=λo h _=>by
 have:=aft (P:=P) d e b f;simp[execOp,h,cN,i,this]
def amF{a:K}{G:V}{T2:ba}{seen:Array Nat}{i rs:List (K × V)}(m:Mem w0 w is)(k:Nat)(n:is[k]? = X4 (mI g es c))(A:P.underlying M=X4 (.map T E))(F:tA P T ek)(B:Go.Lith.ev l x=.map (X4 g))(C:Go.Lith.ev l y=ek a)(r:bY ek ev D es c)
 (v:(D.map (·.1)).Nodup) (s:yV ek ev D es seen i a G rs) {a0:Array ba} (t:a0 = #[M,T2])
 (h:∀d u,Mem w0 u (is.set k (mI g d c))->bY ek ev (Db D a) d c->tX ek ev (Db D a) d seen i rs->az P ops Q rest (Fr l ds) u):az P ops Q (bu X5 (.call { callee:=.builtin .delete,args:=#[x,y],argTypes:=a0 }) ty pos after X5::rest) (Fr l ds) w:=by
 subst t;have j:=m.p k n;have f:=λd q=>qI (w:=w) (g:=g) (.map d q);refine aow λo z=>?_;obtain⟨d,hr,H,I⟩:=adk (T2:=T2) (ty:=o.type) A F j r v s;exact⟨.tuple #[],setBlock w g (.map d c),by simp[execOp,z,resolve,invoke,builtin,cN,B,C,hr],h d _ (m.put k n (f d c).os (f d c).tape (f d c).output (by rw[(f d c).size];exact ar _) (λb _ J=>(f d c).block b λe=>J (by rw[e];rfl)) (jM j) (.inl λ_ h=>h)) H I⟩
def amG{v H:V}{a:K}{seen:Array Nat}{i rs:List (K × V)}(m:Mem w0 w is)(k:Nat)(n:is[k]? = X4 (mI g es c))(A:P.underlying M=X4 (.map T E))(G:tA P T ek)(B:Go.Lith.ev l x=.map (X4 g))(C:Go.Lith.ev l y=ek a)(F:Go.Lith.ev l z=ev v)(q:bY ek ev D es c)
 (s:(D.map (·.1)).Nodup) (r:yV ek ev D es seen i a H rs)
 (h:∀d u,Mem w0 u (is.set k (mI g d c))->bY ek ev (fP D a v) d c->tX ek ev (fP D a v) d seen (i++[(a,v)]) rs->az P ops Q rest (Fr l ds) u):az P ops Q (bu X5 (.mapUpdate M x y z) ty pos after X5::rest) (Fr l ds) w:=by
 have j:=m.p k n;obtain⟨d,hr,I,J⟩:=adl A G j q s r v;have f:=qI (w:=w) (g:=g) (.map d c);refine Io (w':=setBlock w g (.map d c)) (λo t=>by simp[execOp,t,cN,B,C,F,hr]) (h d _ ?_ I J);exact m.put k n f.os f.tape f.output (by rw[f.size];exact ar _) (λb _ L=>f.block b λe=>L (by rw[e];rfl)) (jM j) (.inl λ_ h=>h)
end
end Go.Lith
namespace Go.Proofs.YtfekpcimgncioaaGreatDoor
open Go.Proofs.Tryz
open Go.RowKit Go.Lith
set_option maxRecDepth 100000
section
attribute [local irreducible] az cw fW bX cP Code.wp
attribute [local congr] dK dL cR dJ
variable{R0:It}{q60 c60 g16:Nat}{cc:fX}
def amH:tA prog 56 ed:=by
 refine tA.agg (cs:=λp=>#[X6 p.1.x,X6 p.1.y,X6 p.1.z,X6 p.2.x,X6 p.2.y,X6 p.2.z]) (λ_=>rfl) underlying56 (λe p=>?_) (λp q=>?_) (λp=>?_)
 . refine xP.array (d:=9999) underlying56 aA λi b=>?_
   obtain rfl | rfl:=(by omega:i=0\/i=1)
   . refine⟨_,cU aG aA O,?_⟩
     refine xP.struct (d:=9998) fY λf a=>?_;simp only[ap,cd,Z9] at a;rcases a with rfl | rfl | rfl
     .exact⟨_,cZ bK O,xP.int (d:=9997) iT⟩
     .exact⟨_,cZ bK O,xP.int (d:=9997) iT⟩
     exact⟨_,cZ bK O,xP.int (d:=9997) iT⟩
   refine⟨_,cU aG aA O,?_⟩
   refine xP.struct (d:=9998) fY λf a=>?_;simp only[ap,cd,Z9] at a;rcases a with rfl | rfl | rfl
   .exact⟨_,cZ bK O,xP.int (d:=9997) iT⟩
   .exact⟨_,cZ bK O,xP.int (d:=9997) iT⟩
   exact⟨_,cZ bK O,xP.int (d:=9997) iT⟩
 .exact (aki _).iff ⟨λh=>Prod.ext (H.eq h.1 h.2.1 h.2.2.1) (H.eq h.2.2.2.1 h.2.2.2.2.1 h.2.2.2.2.2),λh=>by subst h;simp only[X1]⟩
 simp[ed,Instr.sameBits]
def au4:nJ prog 95 (W 0):=by rw[aal];exact uG
def agR:nJ prog 97 (qV q0):=by rw[<-zqV];exact aaF
def rA(D:List (E3 × Int))(Q:H->List Int):Prop:=∀k v,cG D k=X4 v->v=rH Q k.1 k.2
def rA.put{D:List (E3 × Int)}{Q:H->List Int}(h:rA D Q)(p q:H):rA (fP D (p,q) (rH Q p q)) Q:=λk v a=>by
 rw[jP] at a;split at a
 .rename_i e;cases e;cases a;rfl
 exact h k v a
structure QOK(Dq:List (H × List Int))(Q:H->List Int)(B:Nat):Prop where
 get:∀x,(cG Dq x).getD q0=Q x
 len:∀x,(Q x).length=10
 bd:∀x,As B (Q x)
def ati{w0 w:ak}{j l g i B:Nat}{n o:Array cu}{f:List (E3 × Int)}{Dq:List (H × List Int)}{Q:H->List Int}{p q:H}[I3 p][I3 q](m:Mem w0 w [bI j [.map (X4 q60)] 100,bI l [.map (X4 g)] 93,mI q60 n c60,mI g o i,R0])(e:bY ed W f n c60)(E:bY pt qV Dq o i)(h:rA f Q)(C:(f.map (·.1)).Nodup)(d:QOK Dq Q B)(I:B<=800000):wV prog 59 [pt p,pt q,.pointer (X4 ⟨j,0,X5⟩),.pointer (X4 ⟨l,0,X5⟩)] w λv w'=>∃(es:Array cu) (c:Nat) (D:List (E3 × Int)),v=W (rH Q p q)/\Mem w0 w' [bI j [.map (X4 q60)] 100,bI l [.map (X4 g)] 93,mI q60 es c,mI g o i,R0]/\bY ed W D es c/\rA D Q/\(D.map (·.1)).Nodup:=by
 refine⟨bJ func59 (by kernel_rfl),?_⟩;obtain rfl:(λx=>(cG Dq x).getD q0)=Q:=funext d.get;have z:((cG Dq p).getD q0).length=10:=d.len p;have A:((cG Dq q).getD q0).length=10:=d.len q;have s:As B ((cG Dq p).getD q0):=d.bd p;have t:As B ((cG Dq q).getD q0):=d.bd q
 go_enter func59,ntmps59
 apply gH 12 [4,3,2,0] m;simp only[↓U,↓cB,jS,aaW,aP,Gs,aa];intro J K M u m;refine fI (Xm (ek:=ed) (en:=W) (k:=(p,q)) (v0:=0) underlying100 au4 amH O O (m.p 5 O) e) ?_;simp only[G];apply lK 13 [0,0] m;simp only[↓U,↓cB,jS,dG,aa];intro N u m;refine cL O ?_ ?_<;>intro F
 .apply L 1 [0] m;simp only[↓U];refine cI m 9 aB (by kernel_rfl) ?_;simp only[zy];refine ql O (λu m=>((m.b 5 O).lies1 aj8 O)) ?_;simp only[G];refine ql O (λu m=>((m.b 3 O).full aG aA)) ?_;simp only[G];refine kC (λu m=>eN (ek:=pt) (en:=qV) (k:=p) (v0:=q0) Sx agR gD O O (m.p 7 O) E) ?_;simp only[G];refine ql O (λu m=>((m.b 5 O).lies1 aj8 O)) ?_;simp only[G];refine ql O (λu m=>((m.b 2 O).full aG aA)) ?_;simp only[G];refine kC (λu m=>eN (ek:=pt) (en:=qV) (k:=q) (v0:=q0) Sx agR gD O O (m.p 7 O) E) ?_;simp only[G];refine eH O O (ae7 z A s t (by omega)) ?_;simp only[G];refine ql O (λu m=>((m.b 2 O).full aG aA)) ?_;simp only[G];refine eH O O (auK (Ff s t) (eY z A) (by omega)) (aZ ?_);intro u m;simp only[G];refine bP m 0 O O O aO (gS O) O ?_;intro u m;simp only[zy,zx,over,zF,zG,aa] at m;refine aI ?_;apply aT 6 [5,4,3,1,0] m;simp only[↓U,↓cB,aaW,aP,Gs,dG,aa];refine nM (ek:=ed) (en:=W) (a:=(p,q)) (v:=(rH (λx=>(cG Dq x).getD q0) p q)) m 6 O underlying100 amH O O O e ?_;intro n c60 u m e;simp only[zF,zG] at m;apply lK 7 [1,1] m;simp only[↓U,↓cB,dG,aa];intro u m;exact aS O ⟨_,O,((m.b 1 O).full bU aO)⟩ ⟨_,O,_,_,_,O,m.sel [X3,X3,X3,X3,Z,Z,Z,Z,Z],e,h.put p q,vG C _ _⟩
 obtain⟨y,r⟩:∃y,cG f (p,q)=X4 y:=ep.1 (by simpa using F);obtain rfl:=h _ _ r;simp only[r,dx] at m;apply xI 7 [1,1] m;simp only[↓U,↓cB,dG,aa];intro u m;exact aS O ⟨_,O,((m.b 1 O).full bU aO)⟩ ⟨_,O,_,_,_,O,m.sel [X3,X3,X3,X3,Z,Z,Z,Z,Z],e,h,C⟩
def amI{K V:Type}[DecidableEq K]{ek:K->aj}{ev:V->aj}{D c rs:List (K × V)}{es:Array cu}{b:Bool}{d:Array Nat}(a:b=X3)(h:apj ek ev D es c rs b d):rs=[]:=by
 rcases h with ⟨_,h⟩ | ⟨h,_⟩
 .exact h
 rw[h] at a;cases a
def amJ{K V:Type}[DecidableEq K]{ek:K->aj}{ev:V->aj}{D a rs:List (K × V)}{es:Array cu}{b:Bool}{d:Array Nat}(c:b=Z)(h:apj ek ev D es a rs b d):∃k v e,rs.Perm ((k,v)::e)/\yV ek ev D es d a k v e:=by
 rcases h with ⟨h,_⟩ | ⟨_,h⟩
 .rw[h] at c;cases c
 exact h
def apl(a b:H):decide (a.x=b.x/\a.y=b.y/\a.z=b.z)=decide (a=b):=decide_eq_decide.2 ⟨λh=>H.eq h.1 h.2.1 h.2.2,λh=>by rw[h];exact⟨rfl,rfl,rfl⟩⟩
def amK(v:H)(k:E3):Bool:=decide (k.1=v)||decide (k.2=v)
def amL{k:E3}{x:Int}(w:ak)(d:fQ w g16 (jC cc) 112):cY prog 67 [ed k,W x,.pointer (X4 ⟨g16,0,X5⟩)] w (λv _=>v=.bool (amK cc.v k)):=by
 refine⟨bJ func67 (by kernel_rfl),?_⟩;have m:=Mem.refl w
 go_enter func67,ntmps67
 apply gH 11 [2,0] m;simp only[↓U,↓cB,Ca,aP,vW,ad,ag,aa];intro e f;apply I0;omega;intro u m;refine bE O ((d.ext m.ext).lies aG aA O O) ?_;simp only[G,zy,ai,aa,ag,ad];apply aH 2 [0] m;simp only[↓U,↓cB];refine⟨_,eQ,?_⟩;refine cW O (λa=>aN underlying56 aA O O (by decide) (by decide) O) ?_;simp only[G];refine dW O (λa=>bD (bL a O) ((m.b 1 O).lies aG aA O O)) ?_;simp only[G,zy,ai,aa,ag,ad];refine cW O (λa=>aU (c:=2) Au O aA O O) ?_;simp only[G];refine dW O (λa=>bD (bL a O) ((d.ext m.ext).lies aG aA O O)) ?_;simp only[G,zy,ai,aa,ag,ad];refine cW O (λa=>uT (bL a O) (bL a O)) (aD (gJ O O O) ?_);apply aH 3 [] m;simp only[↓U];refine aS O O ?_;try simp only[zD,zE]
 exact⟨_,O,m.ext,by rw[apl,apl];rfl⟩
def amM{w0 w:ak}{i:Array cu}{d:List (E3 × Int)}(m:Mem w0 w [mI q60 i c60,bI g16 (jC cc) 112,R0])(c:bY ed W d i c60)(M:(d.map (·.1)).Nodup):wV prog 66 [.map (X4 q60),.func (.func 67) #[] #[.pointer (X4 ⟨g16,0,X5⟩)]] w λv w'=>∃(es:Array cu) (D:List (E3 × Int)),v=.tuple #[]/\Mem w0 w' [mI q60 es c60,bI g16 (jC cc) 112,R0]/\bY ed W D es c60/\(D.map (·.1)).Nodup/\∀k v,cG D k=X4 v->cG d k=X4 v/\amK cc.v k=X3:=by
 refine⟨bJ func66 (by kernel_rfl),?_⟩
 go_enter func66,ntmps66
 apply fF 3 [0] m;simp only[↓U];refine xC m underlying100 O (m.p 0 O) ?_;intro H u m;apply aH 2 [0] m;simp only[↓U];refine bT [] [4,5,8,9,10,11,12,13,14,15,16,17,18] (λn vs I=>∃(D e rs:List (E3 × Int)) (j:Array Nat) (es:Array cu),vs=[]/\Mem w0 I [iI H q60 c60 j,mI q60 es c60,bI g16 (jC cc) 112,R0]/\(bY ed W D es c60)/\((D.map (·.1)).Nodup)/\(tX ed W D es j e rs)/\(∀x∈e,amK cc.v x.1=X3)/\(∀k v,cG D k=X4 v->cG d k=X4 v)/\(n=rs.length)) ?_ ?_
 .exact⟨_,d,[],d,#[],i,rfl,m,c,M,tX.start c,(λx h=>(by cases h)),(λ_ _ h=>h),rfl⟩
 intro n vs wr E u N B
 obtain⟨D,e,rs,j,i,rfl,m,c,g,y,q,s,z⟩:=E;simp only[zu,zF,zG];apply L 2 [0] m;simp only[↓U];refine amE m 0 O O (m.p 1 O) c y ?_;intro P Q R j u m t;simp only[zF,zG] at m;refine aD (qJ O) ?_;apply aH 2 [0] m;simp only[↓U];refine cL O ?_ ?_<;>intro C
 .obtain⟨f,A,l,hp,o⟩:=amJ C t;apply L 4 [0] m;simp only[↓U];refine fI (adm O (m.r 0 O) (m.p 1 O) c o) ?_;simp only[G];apply lK 12 [1,0,2,1,0] m;simp only[↓U,↓cB,Yt,jS,Bz,dG,aa];intro S T u m;refine cK m O O (amL (k:=f) (x:=A) _ (m.b 4 O)) ?_;rintro v u m rfl;apply aH 1 [0] m;simp only[↓U];refine cL O ?_ ?_<;>intro K
  .apply L 3 [2,0] m;simp only[↓U,↓cB,Bz];refine amF (ek:=ed) (ev:=W) (a:=f) m 3 O underlying100 amH O O c g o O ?_;intro i u m c J;simp only[zF,zG] at m;apply aH 2 [0] m;simp only[↓U];exact B l.length _ _ (by rw[z,hp.length_eq];exact fx _) (by kernel_rfl) ⟨Db D f,e,l,_,_,O,(m.sel [X3,X3,Z,Z,Z,Z]),c,ad2 g f,J,q,(λk v h=>s k v (by rw[Xk _ _ g] at h;split at h;cases h;exact h)),O⟩
  apply L 2 [0] m;simp only[↓U];exact B l.length _ _ (by rw[z,hp.length_eq];exact fx _) (by kernel_rfl) ⟨D,e++[(f,A)],l,_,_,O,(m.sel [X3,X3,Z,Z,Z,Z]),c,g,o.stay,(λx F=>(bh.1 F).elim (q x) λh=>(by rw[a_.1 h];exact K)),s,O⟩
 obtain rfl:=amI C t;apply L 1 [0] m;simp only[↓U];exact Gj O ⟨_,O,_,D,O,m.sel [X3,Z,Z,Z],c,g,λk v h=>⟨s k v h,q (k,v) (y.done.mem_iff.2 (sH h))⟩⟩
end
section
attribute [local irreducible] az cw fW bX cP Code.wp
variable{u q k x:H}{l:List T3}{S:List H}{cs:List fX}{D:List Mv}
def agS{B:Nat}{Q:H->List Int}(a:∀x,(Q x).length=10)(b:∀x,As B (Q x))(d:B<=800000)(u:H){v:H}(c:I3 v):Bd 900000 (rH Q u v):=by
 unfold rH;rw[<-ajU (eY (a u) (a v))];exact (aeu (Ff (b u) (b v)) (eY (a u) (a v)) (bd4 c) O 10 (ar _)).mono (by omega)
def QOK.upd{Dq:List (H × List Int)}{Q:H->List Int}{B:Nat}(h:QOK Dq Q B)(u v:H):QOK (fP Dq v (tF (Q u) (Q v))) (uF Q u v) (B+1) where
 get x:=by
  rw[jP];unfold uF;by_cases e:v=x
  .rw[J e,J e.symm];rfl
  rw[X e,X λk=>e k.symm];exact h.get x
 len x:=by
  unfold uF;split
  .exact eY (h.len u) (h.len v)
  exact h.len x
 bd x:=by
  unfold uF;split
  .exact Ff (h.bd u) (h.bd v)
  exact (h.bd x).mono (qo B)
def QOK.mono{Dq:List (H × List Int)}{Q:H->List Int}{B C:Nat}(h:QOK Dq Q B)(a:B<=C):QOK Dq Q C:=⟨h.get,h.len,λx=>(h.bd x).mono a⟩
def rA.upd{D b:List (E3 × Int)}{Q:H->List Int}{v:H}(h:rA D Q)(h1:∀k x,cG b k=X4 x->cG D k=X4 x/\amK v k=X3):rA b (uF Q u v):=λk x c=>by
 obtain⟨h2,a⟩:=h1 k x c;rw[h k x h2];simp only[amK,iu,Y1] at a;unfold rH uF;rw[X a.1,X a.2]
def rA.nil(Q:H->List Int):rA [] Q:=λ_ _ h=>by cases h
/-! ### The quadrics of the corners -/
def Lk(l:List T3)(S:List H)(Dq:List (H × List Int)):Prop:=∀x,(cG Dq x).getD q0=if x∈S then nA l x else q0
def Lk.nil(l:List T3):Lk l [] []:=λ_=>rfl
def Lk.put{ps:List H}{k:Nat}{p:H}{Dq:List (H × List Int)}(h:Lk l (ps.take k) Dq)(hp:ps[k]? = X4 p):Lk l (ps.take (k+1)) (fP Dq p (nA l p)):=λx=>by
 rw[jP,bV hp];by_cases e:p=x
 . subst e
   rw[J rfl,J (gu _ (a_.2 rfl))];rfl
 rw[X e,h x]
 have:x∈ps.take k++[p]↔x∈ps.take k:=by
  rw[bh,a_];exact⟨λh=>h.resolve_right λk=>e k.symm,.inl⟩
 simp only[this]
def amN{p:H}(h:p∉cF l):nA l p=q0:=by
 unfold nA;rw[List.filter_eq_nil_iff.2 λt a hp=>h (oM a hp)];rfl
def Lk.ok{l:List T3}{ps:List H}{Dq:List (H × List Int)}(h:Lk l ps Dq)(hps:∀a,a∈ps↔a∈cF l)(hI:∀t∈l,IT t):QOK Dq (nA l) (602+l.length) where
 get x:=by
  rw[h x];split
  .rfl
  rename_i e;rw[amN λk=>e ((hps x).2 k)]
 len x:=by have:=oS (ts:=l) (p:=x) l.length (ar _);rwa [fq] at this
 bd x:=by have:=Nh (p:=x) hI l.length (ar _);rwa [fq] at this
theorem uM(d:∀t∈l,IT t){p:H}(h:p∈cF l):I3 p:=by
 obtain⟨t,e,hp⟩:=ff.1 (show p∈l.flatMap λt=>[t.a,t.b,t.c] from h);have:=d t e;simp only[ap,cd,Z9] at hp;rcases hp with rfl | rfl | rfl
 .exact this.a
 .exact this.b
 exact this.c
def Ii{p:H}(h:Gd l p q=Z):p∈cF l/\q∈cF l:=by
 simp only[Gd,bg,kU,et] at h;obtain⟨_,t,a,h⟩:=h;exact⟨oM a h.1,oM a h.2⟩
/-! ### Candidates -/
def Cf(l:List T3)(Q:H->List Int)(S:List H)(cs:List fX):Prop:=∀d,d∈cs↔d.u∈S/\Bt (bB l) d.u=X3/\Gd l d.u d.v=Z/\d.c=rH Q d.u d.v
def Vg(l:List T3)(Q:H->List Int)(S:List H)(p:H)(a:List H)(cs:List fX):Prop:=∀d,d∈cs↔(d.u∈S/\Bt (bB l) d.u=X3/\Gd l d.u d.v=Z/\d.c=rH Q d.u d.v)\/(d.u=p/\d.v∈a/\d.c=rH Q d.u d.v)
def Cf.nil(l:List T3)(Q:H->List Int):Cf l Q [] []:=λd=>by simp
def Cf.skip{Q:H->List Int}{p:H}(h:Cf l Q S cs)(b:Bt (bB l) p=Z):Cf l Q (S++[p]) cs:=λd=>by
 rw[h d];constructor
 .rintro⟨h1,h2⟩;exact⟨il _ h1,h2⟩
 rintro⟨h1,h2,a⟩
 rcases bh.1 h1 with h1 | h1
 .exact⟨h1,h2,a⟩
 rw[a_.1 h1,b] at h2;cases h2
def Cf.start{Q:H->List Int}(h:Cf l Q S cs)(p:H):Vg l Q S p [] cs:=λd=>by rw[h d];simp
def Vg.put{Q:H->List Int}{b:List H}{p:H}(h:Vg l Q S p b cs):Vg l Q S p (b++[q]) (cs++[⟨p,q,rH Q p q⟩]):=λd=>by
 rw[bh,h d,bh,a_,a_];constructor
 . rintro ((h1 | ⟨h1,h2,a⟩) | rfl)
   .exact .inl h1
   .exact .inr ⟨h1,.inl h2,a⟩
   exact .inr ⟨O,.inr O,O⟩
 rintro (h1 | ⟨h1,h2 | h2,a⟩)
 .exact .inl (.inl h1)
 .exact .inl (.inr ⟨h1,h2,a⟩)
 refine .inr ?_
 obtain⟨e,f,c⟩:=d;simp only at h1 h2 a;subst h1;subst h2;subst a;rfl
def Vg.done{Q:H->List Int}{b:List H}{p:H}(h:Vg l Q S p b cs)(f:Bt (bB l) p=X3)(e:∀x,x∈b↔Gd l p x=Z):Cf l Q (S++[p]) cs:=λd=>by
 rw[h d,bh,a_];constructor
 . rintro (⟨h1,h2⟩ | ⟨h1,h2,a⟩)
   .exact⟨.inl h1,h2⟩
   rw[e] at h2;subst h1;exact⟨.inr O,f,h2,a⟩
 rintro⟨h1 | h1,h2,a,c⟩
 .exact .inl ⟨h1,h2,a,c⟩
 refine .inr ⟨h1,?_,c⟩;rw[e,<-h1];exact a
def Cf.all{Q:H->List Int}(h:Cf l Q S cs)(a:∀x,x∈S↔x∈cF l)(d:fX):d∈cs↔d∈Sv l Q:=by
 rw[h d,aaA,a];exact⟨λh=>h.2,λh=>⟨(Ii h.2.1).1,h⟩⟩
/-! ### The moves -/
def Em(S:List H)(u v:H)(D:List Mv):List Mv:=D.map λe=>(e.1,if e.1∈S then gK u v e.2 else e.2)
def adn(u v:H)(D:List Mv):Em [] u v D=D:=by simp[Em]
def Fy(S:List H)(u v:H)(D:List Mv):(Em S u v D).map (·.1)=D.map (·.1):=by simp[Em,Function.comp_def]
def amO{v:H}(h:∀e∈D,e.1∈S):fP (Em S u v D) u v=Ln D u v:=by
 unfold Em Ln;rw[io λe a=>by rw[J (h e a)]]
def ado{K V:Type}[DecidableEq K]:∀{D:List (K × V)} {k:K} {x:V},(D.map (·.1)).Nodup->k∈D.map (·.1)->fP D k x=D.map λe=>(e.1,if e.1=k then x else e.2)
 | [],_,_,_,h=>by cases h
 | e::D,k,x,b,h=>by
  rw[bi,g_] at b;by_cases a:e.1=k
  . subst a
    have:∀f∈D,((f.1,if f.1=e.1 then x else f.2):K × V)=f:=λf c=>by
     rw[X λk:f.1=e.1=>b.1 (by rw[<-k];exact fl (f:=λx:K × V=>x.1) c)]
    simp only[fP,bi,J];rw[io this,List.map_id']
  have h2:k∈D.map (·.1):=by
   rcases ap.1 h with h | h
   .exact Z8 h.symm a
   exact h
  simp only[fP,bi,X a];rw[ado b.2 h2]
def amP{v:H}(g:(D.map (·.1)).Nodup)(b:(k,x)∈Em S u v D)(m:k∉S)(l:x=u):fP (Em S u v D) k v=Em (S++[k]) u v D:=by
 have p:k∈(Em S u v D).map (·.1):=fl (f:=(·.1)) b;rw[ado (by rw[Fy];exact g) p];unfold Em at b ⊢;obtain⟨e,n,h⟩:=dj.1 b;cases h;rw[X m] at l;rw[List.map_map];refine io λf o=>?_;simp only[Function.comp_apply];by_cases c:f.1=e.1
 . have:f=e:=by
    obtain⟨i,a⟩:=df.1 o;obtain⟨j,d⟩:=df.1 n;have h1:i=j:=Vf g (k:=e.1) (v:=f.2) (u:=e.2) (by rw[a,<-c]) d;rw[h1,d] at a;exact (fc a).symm
   subst this;rw[J rfl,J (gu S (a_.2 rfl))];unfold gK;rw[J l]
 rw[X c]
 have:f.1∈S++[e.1]↔f.1∈S:=by simp[c]
 simp only[this]
def aiq{v:H}(o:(D.map (·.1)).Nodup)(d:(k,x)∈Em S u v D)(b:k∉S)(g:x≠u):Em S u v D=Em (S++[k]) u v D:=by
 unfold Em at d ⊢;obtain⟨e,m,h⟩:=dj.1 d;cases h;rw[X b] at g;refine io λf n=>?_;by_cases l:f.1=e.1
 . have:f=e:=by
    obtain⟨i,a⟩:=df.1 n;obtain⟨j,c⟩:=df.1 m;have h1:i=j:=Vf o (k:=e.1) (v:=f.2) (u:=e.2) (by rw[a,<-l]) c;rw[h1,c] at a;exact (fc a).symm
   subst this;rw[X b,J (gu S (a_.2 rfl))];unfold gK;rw[X g]
 have:f.1∈S++[e.1]↔f.1∈S:=by simp[l]
 simp only[this]
def amQ{V:Type}{ek:H->aj}{ev:V->aj}{D a rs:List (H × V)}{es:Array cu}{d:Array Nat}{x:V}(c:(D.map (·.1)).Nodup)(h:yV ek ev D es d a k x rs):k∉a.map (·.1)/\(k,x)∈D:=by
 have hp:=h.1.1;refine⟨λb=>?_,hp.mem_iff.1 (by simp)⟩;have h1:=(hp.map (·.1)).nodup_iff.2 c;simp only[de,bi,dh,cn] at h1;exact (ky.1 h1).2.2 k b k (by simp) O
def atj(a:(D.map (·.1)).Nodup)(u v:H):((Ln D u v).map (·.1)).Nodup:=by
 unfold Ln;exact vG (by rw[List.map_map];exact a) u v
def Zr{l:List T3}{want:Int}{Q:H->List Int}{D:List Mv}{c:fX}(d:0<=want)(h:¬(l.length:Int)<=want)(a:tP l Q=X4 c) :
 kN l.length want l Q D=kN (eD l c.u c.v).length want (eD l c.u c.v) (uF Q c.u c.v) (Ln D c.u c.v):=by
 have h1:=pJ a;obtain⟨n,b⟩:∃n,l.length=n+1:=⟨l.length-1,by omega⟩
 rw[b]
 conv=>lhs;unfold kN
 rw[X h,a];exact Yc n _ want _ _ _ (by omega) (ar _) d
def Ll{want:Int}{Q:H->List Int}(h:(l.length:Int)<=want\/tP l Q=X5):kN l.length want l Q D=(l,D):=by
 rcases h with h | h
 .exact ajP h
 cases a:l.length with
 | zero=>rfl
 | succ n =>
  unfold kN;split
  .rfl
  rw[h]
def atk{w0 w:ak}{K i:It}{f g90 ga gf N cap ca cf:Nat}{A:Option Addr}{ea ef:Array cu}{D:List (H × Hd)}{F:List (H × Bool)}{ts:List T3}{cs:List fX}{n1 c1:Nat}{h:Option Addr}{Q:H->List Int}{B:Nat}(m:Mem w0 w [oI 112 8 h n1 c1 (cs.flatMap jC),bI f [.pointer (X4 ⟨g90,0,X5⟩)] 88,K,oI 39 9 A N cap (ts.flatMap aL),i])(q:∀u,K.P u->Lg 109 u g90 ga gf A N cap ea ef ca cf D ts)(l:Ux ea ef ca cf D F ts)(E:∀t∈ts,t.nd=Z)(g:∀t∈ts,IT t)(r:ts.length<=1000000)(z:∀x,(Q x).length=10)(y:∀x,As B (Q x))(p:B<=800000)(a:Cf ts Q (D.map (·.1)) cs)(C:n1<=100000000) :
 wV prog 63 [.slice h n1 c1,.func (.func 64) #[] #[],.func (.func 65) #[] #[.pointer (X4 ⟨f,0,X5⟩)]] w λv w'=>∃(c:fX) (b:Bool),v=.tuple #[Ig c,.bool b]/\Mem w0 w' [bI f [.pointer (X4 ⟨g90,0,X5⟩)] 88,K,oI 39 9 A N cap (ts.flatMap aL),i]/\((b=X3/\tP ts Q=X5)\/(b=Z/\tP ts Q=X4 c/\I3 c.u/\I3 c.v)):=by
 have o:=a.all (λx=>l.k x);have e:∀c∈cs,I3 c.u/\I3 c.v:=λc hc=>by
  have:=Ii ((a c).1 hc).2.2.1;exact⟨uM g this.1,uM g this.2⟩
 refine (ath m q l E g r e (λc hc=>by rw[((a c).1 hc).2.2.2];exact agS z y p c.u (e c hc).2) C).mono ?_;rintro v w' ⟨h1,⟨rfl,h2⟩ | ⟨c,ys,j,rfl,n,G,hc,s,hq⟩⟩
 .exact⟨⟨⟨0,0,0⟩,⟨0,0,0⟩,0⟩,X3,by simp only[Ig,jC,Lw];rfl,h1,.inl ⟨rfl,Uk o h2⟩⟩
 refine⟨c,Z,O,h1,.inr ⟨O,Uj (λd=>by rw[n.mem_iff];exact o d) G hc s hq,e c (n.mem_iff.1 (bf hc))⟩⟩
end
section
attribute [local irreducible] az cw fW bX cP Code.wp
attribute [local congr] dK dL cR dJ
variable{w:ak}{a q:H}{N k n cap:Nat}{ps:List H}{x:Int}{T:ba}{c y:fX}{l:List T3}{t s:T3}
def agT{P:bt}{a:Addr}{Q:H->List Int}{x:H}(h:uD (Bh Q) 23 w (X4 a) N ps)(d:ps[k]? = X4 x)(c:(Q x).length=10)(b:eX P T Z)(hc:dO P T 20):dQ P w T ((a.add (k*23)).add 3) (qV (Q x)):=by
 have h1:kV w ((a.add (k*23)).add 3) (qC (Q x)):=(h.at d).sub 3;exact h1.lies b (by rw[nW,c];exact hc)
def Qv{w0:ak}{S:List (Option Nat)}{E:ba}{g:Nat}{cs:List fX}(h:Ow w0 w S E 8 (X4 ⟨g,0,X5⟩) n cap (cs.flatMap jC))(hc:cs[k]? = X4 c):kV w ⟨g,k*8,X5⟩ (jC c):=by
 have:=(h.lat (enc:=jC) (λ_=>rfl) (by decide)).at hc;rwa [cS,ai] at this
def mM{w0:ak}{S:List (Option Nat)}{E:ba}{g:Nat}{p:H}(h:Ow w0 w S E 3 (X4 ⟨g,0,X5⟩) n cap (ps.flatMap iD))(hp:ps[k]? = X4 p):kV w ⟨g,k*3,X5⟩ (iD p):=by
 have:=(h.lat (enc:=iD) (λ_=>rfl) (by decide)).at hp;rwa [cS,ai] at this
def aqk{q r:List fX}  : (q++[y]++c::r)[q.length+1]? = X4 c:=by
 rw[show q.length+1=(q++[y]).length by simp];exact agA
def aql{q r:List fX}  : (q++[y]++c::r)[q.length]? = X4 y:=by
 rw[cn];exact agA
def au5{q r:List fX}  : over ((q++[y]++c::r).flatMap jC) ((q.length+1)*8) (jC y)=(q++[y]++y::r).flatMap jC:=by
 rw[Hv (enc:=jC) (c:=8) (λ_=>rfl) (by simp),show q.length+1=(q++[y]).length by simp,agz]
def au6{q r:List fX}  : over ((q++[y]++y::r).flatMap jC) (q.length*8) (jC c)=(q++c::y::r).flatMap jC:=by
 rw[Hv (enc:=jC) (c:=8) (λ_=>rfl) (by simp),cn];exact C (List.flatMap jC) agz
def Vg.ins{Q:H->List Int}{S a:List H}{cs os:List fX}{p:H}(h:Vg l Q S p a cs)(hc:c=⟨p,q,rH Q p q⟩)(b:∀d,d∈os↔d∈cs\/d=c):Vg l Q S p (a++[q]) os:=λd=>by
 rw[b d];have:=h.put (q:=q) d;rw[bh,a_,<-hc] at this;exact this
def air{M c2 R c3:Nat}{A A2 A3:Option Addr}{bs:List H}{Q:H->List Int}(w:ak)(S:bW w A N l)(hN:N<=2000)(C:uD (Bh Q) 23 w A2 M ps)(hM:M<=100000000)(hF:uD bH 3 w A3 R bs)(an:R<=100000000)(ap:BdS (bB l) bs)(aE:∀x,x∈cF l->x∈ps)(f:∀x,(Q x).length=10)(P:∀x,As 700000 (Q x)):cY prog 73 [.slice A N cap,.slice A2 M c2,.slice A3 R c3] w (λv w'=>∃cs:List fX,SL 130 8 (cs.flatMap jC) cs.length w v w'/\(∀d,d∈cs↔d∈Sv l Q)/\Ul cs/\cs.length<=100000000):=by
 refine⟨bJ func73 (by kernel_rfl),?_⟩;have m:=Mem.refl w;have bd:=S.len;have bh:=wK l;have ag:=C.len;have hit:=S.it
 go_enter func73,ntmps73
 apply fF 6 [0] m;simp only[↓U];refine aD aM ?_;replace m:=m.nilO 130 8;apply aH 4 [0] m;simp only[↓U];refine bF O O (My _ (S.ext m.ext) (by omega)) ?_;rintro v u s ⟨A8,Y,n8,a3,rfl,J⟩;replace m:=m.newO s J;subst a3;apply aH 8 [0] m;simp only[↓U];refine bT [7,9] [10,11,12,13,14,15,16,19,20,21,22,23,24,25,26,27,28,29,30,31,32,33,34,35,36,37,38,39,40,41,42,43,44,45,46,47,48,49,50,51,52,53,54,55,56,57,58,59,60,61,62,63,64,65,66,67,68,69,70,71,72,73,74,75,76,77,78,79,80,81,82,83,84,85,86,87,88,89,90,91,92,93,94,95,96,97,98,99,100,101,102,103,104,105,106,107,108,109,110,111,112,113,114,115,116,117,118] (λn vs K=>∃(k:Nat) (cs:List fX) (r:Option Addr) (i:Nat),vs=[.slice r cs.length i,X6 (k:Int)]/\Mem w K [oI 30 3 A8 (aQ l).length Y ((aQ l).flatMap iD),oI 130 8 r cs.length i (cs.flatMap jC)]/\(Cf l Q ((aQ l).take k) cs)/\(Ul cs)/\(∀c∈cs,Bd 900000 c.c)/\(cs.length<=k*6000)/\(k<=(aQ l).length)/\(n=(aQ l).length-k)) ?_ ?_
 .exact⟨_,0,[],_,_,rfl,m,Cf.nil _ _,la,(λc h=>by cases h),bn _,bn _,rfl⟩
 intro n vs wr I u K1 aj
 obtain⟨k,cs,r,i,rfl,m,T,F,B,aY,hk,hn⟩:=I;simp only[zu,zF,zG];apply L 8 [0,0] m;simp only[↓U,gV];refine bC O ?_ ?_<;>intro a6
 .obtain⟨x,t⟩:∃x,(aQ l)[k]? = X4 x:=⟨_,am (by omega)⟩
  obtain⟨g8,rfl⟩:=(m.o 0 rfl).some (by omega);have aL:=aE x (gU.1 (bf t));have ax:=abv aL;have a0:fnd ps x<M:=by rw[<-ag];exact (ao.1 ax).1
  obtain⟨_,_,a5,aW,_⟩:=C.get a0;subst aW;apply L 11 [0,0,0] m;simp only[↓U,↓cB,gG,ah,ai];refine⟨_,λu m=>(show dQ _ _ _ _ (pt x) from (mM (m.o 0 O) t).lies aG aA),by omega,?_⟩;refine cK m O O (oP (p:=x) _ (hF.ext m.ext) (by omega)) ?_;rintro v u m rfl;apply aH 1 [0] m;simp only[↓U];refine cL O ?_ ?_<;>intro W
  .rw[Zq ap] at W;apply L 6 [0] m;simp only[↓U];apply I0;omega;exact aj ((aQ l).length-(k+1)) _ _ (by omega) (by kernel_rfl) ⟨k+1,cs,_,_,O,m,(by rw[bV t];exact T.skip W),F,B,(by omega),(by omega),O⟩
  rw[Zq ap] at W;apply L 8 [0,0,0] m;simp only[↓U,↓cB,gG,ah,ai];refine⟨_,λu m=>(show dQ _ _ _ _ (pt x) from (mM (m.o 0 O) t).lies aG aA),by omega,?_⟩;refine bF O O (Ve (p:=x) _ (S.ext m.ext) (by omega)) ?_;rintro v u s ⟨aP,af,be,a4,rfl,J⟩;replace m:=m.newO s J;subst a4;have bb:=El l x;apply aH 10 [0,0,0] m;simp only[↓U,↓cB,gG,ah,ai];refine⟨_,λu m=>(show dQ _ _ _ _ (pt x) from (mM (m.o 1 O) t).lies aG aA),by omega,?_⟩;refine cK m O O (Qu (p:=x) (Q:=Q) _ (C.ext m.ext) (by omega) aL) ?_;rintro v u m rfl;apply aH 2 [0] m;simp only[↓U,↓cB,akC,akE,ah,ai,aa];apply I0;omega;refine bE O (agT (C.ext m.ext) ax (f x) kR dA) ?_;simp only[G];apply lK 1 [0] m;simp only[↓U,↓cB,Tj];intro g1 u m;refine qM (n:=20) m 0 O O O (by rw[f]) O dA ?_;intro u m;simp only[zF,zG] at m;apply aH 6 [0] m;simp only[↓U];refine bT [7,12] [13,14,15,16,47,48,49,50,51,52,53,54,55,56,57,58,59,60,61,62,63,64,65,66,67,68,69,70,71,72,73,74,75,76,77,78,79,80,81,82,83,84,85,86,87,88,89,90,91,92,93,94,95,96,97,98,99,100,101,102,103,104,105,106,107,108,109,110,111,112,113,114,115,116,117,118] (λn vs K=>∃(j:Nat) (ds:List fX) (r:Option Addr) (i:Nat),vs=[.slice r ds.length i,X6 (j:Int)]/\Mem w K [bI g1 (qC (Q x)) 97,oI 30 3 aP (fS l x).length af ((fS l x).flatMap bH),oI 30 3 (X4 ⟨g8,0,X5⟩) (aQ l).length Y ((aQ l).flatMap iD),oI 130 8 r ds.length i (ds.flatMap jC)]/\(Vg l Q ((aQ l).take k) x ((fS l x).take j) ds)/\(Ul ds)/\(∀c∈ds,Bd 900000 c.c)/\(ds.length<=k*6000+j)/\(j<=(fS l x).length)/\(n=(fS l x).length-j)) ?_ ?_
  .exact⟨_,0,cs,_,_,O,m,T.start x,F,B,aY,bn _,O⟩
  intro n vs wr I u K2 al
  obtain⟨j,ds,r,i,rfl,m,E,F,B,bg,hj,a9⟩:=I;simp only[zu,zF,zG];apply L 8 [0,0] m;simp only[↓U,gV];refine bC O ?_ ?_<;>intro a7
  .obtain⟨y,D⟩:∃y,(fS l x)[j]? = X4 y:=⟨_,am (by omega)⟩
   obtain⟨aV,rfl⟩:=(m.o 1 rfl).some (by omega);have aN:=(Ii (qY.1 (bf D))).2;haveI:=uM hit aN;have aO:=aE y aN;have az:=abv aO;have bi:fnd ps y<M:=by rw[<-ag];exact (ao.1 az).1
   apply L 4 [0] m;simp only[↓U];refine dR 13 [0,1,2,3,4,5,6,7,8,9,10,11] [⟨12,13,97,[.bool X3,.string ⟨#[]⟩,.bool X3,.string ⟨#[]⟩,.bool X3,.string ⟨#[]⟩,.bool X3,.string ⟨#[]⟩,.bool X3,.string ⟨#[]⟩,.bool X3,.string ⟨#[]⟩,.bool X3,.string ⟨#[]⟩,.bool X3,.string ⟨#[]⟩,.bool X3,.string ⟨#[]⟩,.bool X3,.string ⟨#[]⟩]⟩] aB (by kernel_rfl) (al1 ⟨_,_,_,O,by kernel_rfl,_,aaF,O⟩) (ol:=?_) ?ad ?_
   case ad=>simp only[zw,zQ,zR];try rfl
   intro u s;replace m:=m.ext' s;refine cO O (λu e=>(nB ((m.ext' e).b 0 O) kR dA (by rw[f]))) ?_;simp only[G];refine eG aJ (eG aJ (eG aJ (eG aJ ?_)));simp only[G];refine eG (aR eR aA O O (by omega) (by omega) (Ha (ah _))) ?_;simp only[G];refine cO O (λu e=>(show dQ _ _ _ _ (pt y) from (mM ((m.ext' e).o 1 O) D).lies aG aA)) ?_;simp only[G];refine afN O O (λu e=>Qu (p:=y) (Q:=Q) _ (C.ext (m.ext' e).ext) (by omega) aO) ?_;simp only[G];refine eG (aR Mi Fi O O (by omega) (by omega) (tM (ah _))) (eG (aU (c:=19) underlying126 O dA O O) ?_);simp only[G];refine cO O (λu e=>(agT (C.ext (m.ext' e).ext) az (f y) kR dA)) ?_;simp only[G];refine cM O O (Un (f x) (f y) (P x) (P y) (by omega)) (vB ?_);simp only[G];refine mf1 m ?_;intro g2 u m;simp only[zJ,zK,zF,zG];refine qM (n:=20) m 0 O O O (by rw[eY (f x) (f y)]) O dA ?_;intro u m;simp only[zF,zG] at m;refine aI ?_;apply aT 1 [0] m;simp only[↓U];refine mh m [Z,Z,Z,Z,X3] [(0,Z),(1,Z),(2,Z),(3,Z),(5,Z),(6,Z),(7,Z),(10,Z),(11,Z),(12,Z),(4,Z),(8,Z),(9,Z),(13,Z),(14,X3),(15,Z),(16,X3),(17,X3),(18,Z)] aB (by kernel_rfl) (bS (λ_ _ _ _ _ h=>h)) (ol:=?_) ?ad ?_
   case ad=>simp only[zw,zQ,zR];try rfl
   intro u m;refine Fq 12 [0,0,0,0] ?_;simp only[↓U,↓cB,gG,ah,ai];refine⟨_,λu m=>(show dQ _ _ _ _ (pt x) from (mM (m.o 3 O) t).lies aG aA),_,λu m=>(show dQ _ _ _ _ (pt y) from (mM (m.o 2 O) D).lies aG aA),by omega,?_⟩;refine gW O (λu m=>(nB (m.b 0 O) kR dA (by rw[eY (f x) (f y)]))) ?_;simp only[G];refine Fq 1 [0,0] ?_;simp only[↓U,↓cB];refine⟨_,λu m=>(show dQ _ _ _ _ (pt y) from (mM (m.o 2 O) D).lies aG aA),?_⟩;refine bO (jG m O O (aoS (q:=tF (Q x) (Q y)) (p:=y) ((Ff (P x) (P y)).mono (by omega)) (eY (f x) (f y))) ?_);intro u m;refine aI ⟨m.sel [Z,Z,Z,Z,X3],?_⟩;refine bG (Ka O O O) (bO ?_);simp only[G];refine aeH O ?_;intro u g3 s J k_;replace m:=m.newB s J k_;refine aI ⟨m.sel [X3,Z,Z,Z,Z,X3],?_⟩;refine bO ?_;simp only[G];refine bN m 5 O O underlying127 anY O (by decide) O O O (m.b 0 O).rowsO (fN O) (by omega) (by omega) ?_;intro r i u m;simp only[zF,zG] at m;obtain⟨c,X⟩:∃c:fX,c=⟨x,y,rH Q x y⟩:=⟨_,rfl⟩
   rw[show ds.flatMap jC++_=(ds++c::[]).flatMap jC by rw[aw,X];rfl] at m;obtain⟨g9,rfl⟩:=(m.o 5 rfl).some (by omega);have V:Bd 900000 c.c:=by rw[X];exact agS f P (by omega) x Y7
   refine aI ?_;refine⟨m.sel [X3,Z,Z,Z,Z,X3],?_⟩;refine bG aM (bR ?_);apply aT 7 [] m;simp only[↓U,akF];apply I0;omega;rw[show ((ds.length+1:Nat):Int)-1=(ds.length:Int) by omega];apply aT 1 [0] m;simp only[↓U];refine bT [14] [15,16,86,87,88,89,90,91,92,93,94,95,96,97,98,99,100,101,102,103,104,105,106,107,108,109,110,111,112,113,114,115,116,117,118] (λn vs K=>∃(pre post:List fX),vs=[X6 (pre.length:Int)]/\Mem w K [bI g1 (qC (Q x)) 97,oI 30 3 (X4 ⟨aV,0,X5⟩) (fS l x).length af ((fS l x).flatMap bH),oI 30 3 (X4 ⟨g8,0,X5⟩) (aQ l).length Y ((aQ l).flatMap iD),oI 130 8 (X4 ⟨g9,0,X5⟩) (ds.length+1) i ((pre++c::post).flatMap jC)]/\(abb ds c pre post)/\(n=pre.length)) ?_ ?_
   .exact⟨_,ds,[],O,(m.sel [X3,X3,Z,Z,Z,Z]),abb.start F,O⟩
   intro n vs wr I u R an
   obtain⟨pre,post,rfl,m,g,a2⟩:=I;simp only[zu,zF,zG];apply L 6 [0,0] m;simp only[↓U];refine bC O ?_ ?_<;>intro a8
   .obtain⟨q,a,rfl⟩:=aoO (l:=pre) (by omega);rw[show (q++[a]).length=q.length+1 by simp];have ba:n=q.length+1:=by simpa using a2
    have bc:q.length+1+post.length=ds.length:=by have:=g.n;simpa using this
    have aX:Bd 900000 a.c:=((g.m a).1 (by simp)).elim (B a) λe=>e▸V;apply L 4 [0] m;simp only[↓U];refine mq m aB (by kernel_rfl) (cX 3 [] ?_);simp only[↓U,↓cB,Tm,ah,ai];apply I0;omega;refine ql O (λu m=>(show dQ _ _ _ _ (Ig c) from (Qv (m.o 3 O) aqk).lies Qd nO)) ?_;simp only[G];refine cX 3 [] ?_;simp only[↓U];apply I0;omega;refine aK (aR underlying127 nO O O (by omega) (by omega) (Ha (show kj (((q.length+1:Nat):Int)-1)=q.length by omega))) ?_;simp only[G];refine ql O (λu m=>(show dQ _ _ _ _ (Ig a) from (Qv (m.o 3 O) aql).lies Qd nO)) ?_;simp only[G];refine eH O O (ade (p:=c) (q:=a) V aX) (aK aM (aZ ?_));intro u m;apply aT 6 [0] m;simp only[↓U];refine cL O ?_ ?_<;>intro av
    .have ae:=g.done λq' y' e=>by obtain⟨_,e2⟩:=List.append_inj' e rfl;cases e2;simpa using av
     apply L 7 [0] m;simp only[↓U];apply I0;omega;have ab:ds.length+1=((q++[a])++c::post).length:=by have:=g.n;simp only[aq,ay,bm] at this ⊢;omega
     rw[ab] at m ⊢;exact al ((fS l x).length-(j+1)) _ _ (by omega) (by kernel_rfl) ⟨j+1,((q++[a])++c::post),_,_,O,m,(by rw[bV D];exact E.ins X g.m),ae,(λd hd=>((g.m d).1 hd).elim (B d) λe=>e▸V),(by omega),(by omega),O⟩
    have a1:c.Lt a:=by simpa using av
    apply L 6 [0] m;simp only[↓U,↓cB,Tm,ah,ai];apply I0;omega;refine bE O (show dQ _ _ _ _ (Ig c) from (Qv (m.o 3 O) aqk).lies Qd nO) ?_;simp only[G];apply lK 6 [0] m;simp only[↓U,↓cB,arU,akG,aa];intro g4 u m;apply aT 4 [0] m;simp only[↓U];apply I0;omega;refine aD (aR underlying127 nO O O (by omega) (by omega) (Ha (show kj (((q.length+1:Nat):Int)-1)=q.length by omega))) ?_;simp only[G];refine bE O (show dQ _ _ _ _ (Ig a) from (Qv (m.o 4 O) aql).lies Qd nO) ?_;simp only[G];apply aH 1 [0] m;simp only[↓U,↓cB,Tm,ah,ai];apply I0;omega;refine Jb m 4 O O O nO (show (q.length+1)*8+8<=(ds.length+1)*8 by omega) O ?_;intro u m;simp only[zF,zG] at m;rw[au5] at m;apply aH 6 [1,0] m;simp only[↓U,↓cB,akG];apply I0;omega;refine aD (aR underlying127 nO O O (by omega) (by omega) (Ha (show kj (((q.length+1:Nat):Int)-1)=q.length by omega))) ?_;simp only[G];refine Jb m 4 O O O nO (show q.length*8+8<=(ds.length+1)*8 by omega) O ?_;intro u m;simp only[zF,zG] at m;rw[show over ((q++[a]++a::post).flatMap jC) (q.length*8) _=(q++c::a::post).flatMap jC by exact au6] at m;apply aH 7 [0] m;simp only[↓U];apply I0;omega;rw[show ((q.length+1:Nat):Int)-1=(q.length:Int) by omega];exact an q.length _ _ (by omega) (by kernel_rfl) ⟨q,a::post,O,(m.sel [X3,Z,Z,Z,Z]),g.step a1,O⟩
   obtain rfl:pre=[]:=List.length_eq_zero_iff.1 (by omega);have ae:=g.done λq y e=>by simp at e
   apply L 7 [0] m;simp only[↓U];apply I0;omega;have ab:ds.length+1=([]++c::post).length:=by have:=g.n;simp only[aq,ay,bm] at this ⊢;omega
   rw[ab] at m ⊢;exact al ((fS l x).length-(j+1)) _ _ (by omega) (by kernel_rfl) ⟨j+1,([]++c::post),_,_,O,m,(by rw[bV D];exact E.ins X g.m),ae,(λd hd=>((g.m d).1 hd).elim (B d) λe=>e▸V),(by omega),(by omega),O⟩
  obtain rfl:j=(fS l x).length:=by omega
  rw[au (ar _)] at E;replace E:=E.done W λz=>qY;apply L 7 [0] m;simp only[↓U];apply I0;omega;exact aj ((aQ l).length-(k+1)) _ _ (by omega) (by kernel_rfl) ⟨k+1,ds,_,_,O,(m.sel [X3,X3,Z,Z]),(by rw[bV t];exact E),F,B,(by omega),(by omega),O⟩
 obtain rfl:k=(aQ l).length:=by omega
 rw[au (ar _)] at T;apply L 7 [] m;simp only[↓U];exact aS O O ⟨_,O,m.ext,cs,⟨_,_,_,O,O,(m.o 1 O)⟩,λd=>T.all (λx=>gU) d,F,by omega⟩
def crB{u v:H}[a:Nr4 u][b:Nr4 v]:(u.cross v).x.natAbs<=1099511627776/\(u.cross v).y.natAbs<=1099511627776/\(u.cross v).z.natAbs<=1099511627776:=by
 have h1:=mL a.y b.z;have h2:=mL a.z b.y;have c:=mL a.z b.x;have d:=mL a.x b.z;have e:=mL a.x b.y;have f:=mL a.y b.x;simp only[H.cross];refine⟨?_,?_,?_⟩ <;> omega
def adp{a b:Int}(c:a.natAbs<=1099511627776)(d:b.natAbs<=524288) : -1152921504606846976<=a*b/\a*b<=1152921504606846976:=by
 have h:(a*b).natAbs<=1099511627776*524288:=by rw[Int.natAbs_mul];exact Nat.mul_le_mul c d
 omega
def amR(h : -1152921504606846976<=x/\x<=1152921504606846976):IntKind.i64.wrap x=x:=bZ (by omega) (by omega)
def atl{y:Int}(h : -1152921504606846976<=x/\x<=1152921504606846976)(k : -1152921504606846976<=y/\y<=1152921504606846976):IntKind.i64.wrap (x+y)=x+y:=bZ (by omega) (by omega)
def atm{y z:Int}(h : -1152921504606846976<=x/\x<=1152921504606846976)(k : -1152921504606846976<=y/\y<=1152921504606846976)(l : -1152921504606846976<=z/\z<=1152921504606846976):IntKind.i64.wrap (x+y+z)=x+y+z:=bZ (by omega) (by omega)
def nG{b c d:H}[I3 a][I3 b][I3 c][I3 d]:dF prog 141 [pt a,pt b,pt c,pt d] (X6 (bA (mR a b c d))):=by
 intro w;refine⟨bJ func141 (by kernel_rfl),?_⟩;have m:=Mem.refl w
 go_enter func141,ntmps141
 apply gH 14 [4,3,2,1,0] m;simp only[↓U,aP];intro n o p q u m;refine Fm O O O O ?_;intro u r g h i;replace m:=m.newB g h i;simp only[G];refine cK m O O (Ub (ps:=[a,b,c,d]) _ (aqa (m.b 0 O)) (by decide)) ?_;rintro v u m ⟨bo,rfl,l⟩;apply aH 7 [0] m;simp only[↓U];refine gF O ?_ ?_<;>intro j
 .have f:=l j;haveI:=f a (by simp);haveI:=f b (by simp);haveI:=f c (by simp);haveI:=f d (by simp);apply L 1 [0] m;simp only[↓U];refine dR 8 [0,1,2,3,4,5,6] [⟨7,10,36,[X6 0,X6 0,X6 0]⟩] aB (by kernel_rfl) (al1 ⟨_,_,_,O,by kernel_rfl,_,Fg,O⟩) (ol:=?_) ?k ?_
  case k=>simp only[zw,zQ,zR];try rfl
  intro u g;replace m:=m.ext' g;refine cO O (λu e=>(((m.ext' e).b 4 O).full aG aA)) ?_;simp only[G];refine cO O (λu e=>(((m.ext' e).b 3 O).full aG aA)) ?_;simp only[G];refine cM O O sR ?_;simp only[G];refine cO O (λu e=>(((m.ext' e).b 4 O).full aG aA)) ?_;simp only[G];refine cO O (λu e=>(((m.ext' e).b 2 O).full aG aA)) ?_;simp only[G];refine cM O O sR ?_;simp only[G];refine cM O O (Kl Y7 Y7) (vB ?_);simp only[G];refine mf1 m ?_;intro s u m;simp only[zJ,zK,zF,zG];refine bP m 0 O O O iN (gS O) O ?_;intro u m;simp only[zy,zx,over,zF,zG,aa] at m;refine aI ?_;apply aT 4 [6,3,0] m;simp only[↓U,aP];refine lD m O O sR 9 [0,2,1,0] ?_;simp only[↓U,yI,vV,fD,dC,aa,ad,ag];intro t;apply I0;omega;intro u m;refine aD (kS O O (amR (adp (crB (u:=(b.sub a)) (v:=(c.sub a))).1 (show Nr4 (d.sub a) from Y7).x))) ?_;apply aH 4 [2,1,0] m;simp only[↓U,fD,dC,ad,ag,aa];apply I0;omega;refine aD (kS O O (amR (adp (crB (u:=(b.sub a)) (v:=(c.sub a))).2.1 (show Nr4 (d.sub a) from Y7).y))) (aD (fU O O (atl (adp (crB (u:=(b.sub a)) (v:=(c.sub a))).1 (show Nr4 (d.sub a) from Y7).x) (adp (crB (u:=(b.sub a)) (v:=(c.sub a))).2.1 (show Nr4 (d.sub a) from Y7).y))) ?_);apply aH 4 [2,1,0] m;simp only[↓U,fD,dC,ad,ag,aa];apply I0;omega;refine aD (kS O O (amR (adp (crB (u:=(b.sub a)) (v:=(c.sub a))).2.2 (show Nr4 (d.sub a) from Y7).z))) (aD (fU O O (atm (adp (crB (u:=(b.sub a)) (v:=(c.sub a))).1 (show Nr4 (d.sub a) from Y7).x) (adp (crB (u:=(b.sub a)) (v:=(c.sub a))).2.1 (show Nr4 (d.sub a) from Y7).y) (adp (crB (u:=(b.sub a)) (v:=(c.sub a))).2.2 (show Nr4 (d.sub a) from Y7).z))) ?_);simp only[G];refine lD m O O Fu 3 [] ?_;simp only[↓U];intro u m;exact aS O O ⟨_,O,m.ext,O⟩
 apply L 2 [0] m;simp only[↓U];refine mq m aB (by kernel_rfl) (ql O (λu m=>((m.b 4 O).full aG aA)) ?_);simp only[G];refine ql O (λu m=>((m.b 3 O).full aG aA)) ?_;simp only[G];refine eH O O vZ ?_;simp only[G];refine ql O (λu m=>((m.b 4 O).full aG aA)) ?_;simp only[G];refine ql O (λu m=>((m.b 2 O).full aG aA)) ?_;simp only[G];refine eH O O vZ ?_;simp only[G];refine eH O O (Ua Bv.of Bv.of) ?_;simp only[G];refine ql O (λu m=>((m.b 4 O).full aG aA)) ?_;simp only[G];refine ql O (λu m=>((m.b 1 O).full aG aA)) ?_;simp only[G];refine eH O O vZ ?_;simp only[G];refine eH O O (Tz Bv.of Bv.of) ?_;simp only[G];refine eH O O (Fs M.up) (aK aM (aZ ?_));intro u m;apply aT 1 [] m;simp only[↓U];exact aS O O ⟨_,O,m.ext,O⟩
def amS(p q:H):(if p.Lt q then q else p)=oC p q:=by
 unfold oC;rcases lt_tri p q with h | h | h
 .rw[J h,X (lt_asymm h)]
 .subst h;simp[H.lt_irrefl]
 rw[X (lt_asymm h),J h]
def avO{p:H}{b:Bool}(a:decide (q.Lt p)=b)(h:b=Z):mU p q=q:=by subst a;exact J (Y3 h)
def avP{p:H}{b:Bool}(a:decide (q.Lt p)=b)(h:b=X3):mU p q=p:=by subst a;exact X (Y9 h)
def au7{p:H}{b:Bool}(a:decide (p.Lt q)=b)(h:b=Z):oC p q=q:=by subst a;rw[<-amS];exact J (Y3 h)
def au8{p:H}{b:Bool}(a:decide (p.Lt q)=b)(h:b=X3):oC p q=p:=by subst a;rw[<-amS];exact X (Y9 h)
def sY{α β:Type}{f:β->α->β}{z:β}{l:List α}{x:α}(h:l[k]? = X4 x):(l.take (k+1)).foldl f z=f ((l.take k).foldl f z) x:=by rw[bV h,ir];rfl
def Zs{x:H}{xs:List H}{a:Addr}(w:ak)(s:uD bH 3 w (X4 a) N (x::xs))(M:N<=100):cY prog 203 [.slice (X4 a) N cap] w (λv _=>v=.tuple #[pt (xs.foldl mU x),pt (xs.foldl oC x)]):=by
 refine⟨bJ func203 (by kernel_rfl),?_⟩;have m:=Mem.refl w;have J:=s.len;simp only[ay] at J;have A:kV w (a.add (0*3)) (bH x):=s.at (i:=0) rfl
 go_enter func203,ntmps203
 apply gH 8 [0] m;simp only[↓U,fB];intro B C u m;refine aD (aR eR aA O O (by decide) (by omega) O) ?_;apply lK 7 [0,0,0,0] m;simp only[↓U,fB,aP,aa];refine⟨_,λu m=>(show dQ _ _ _ _ (pt x) from (show kV _ _ (bH x) from (A.ext m.ext)).lies aG aA),λD=>?_⟩;intro u m;refine aD (aR eR aA O O (by decide) (by omega) O) ?_;apply lK 10 [0,0,0,0] m;simp only[↓U,fB,aP,aa];refine⟨_,λu m=>(show dQ _ _ _ _ (pt x) from (show kV _ _ (bH x) from (A.ext m.ext)).lies aG aA),λE=>?_⟩;intro u m;refine bT [6] [7,8,15,16,17,18,19,20,21,22,23,24,25,26,27,28,29,30,31,32,33,34,35,36,37,38,39,40,41,42] (λn vs G=>∃(k:Nat),vs=[X6 ((k+1:Nat):Int)]/\Mem w G [bI E [X6 ((xs.take k).foldl oC x).x,X6 ((xs.take k).foldl oC x).y,X6 ((xs.take k).foldl oC x).z] 30,bI D [X6 ((xs.take k).foldl mU x).x,X6 ((xs.take k).foldl mU x).y,X6 ((xs.take k).foldl mU x).z] 30,bI C [X6 0,X6 0,X6 0] 30,bI B [X6 0,X6 0,X6 0] 30]/\(k<=xs.length)/\(n=xs.length-k)) ?_ ?_
 .exact⟨_,0,O,m,bn _,O⟩
 intro n vs wr F u K r
 obtain⟨k,rfl,m,P,Q⟩:=F;simp only[zu,zF,zG];apply L 8 [0,0] m;simp only[↓U,gV];refine bC O ?_ ?_<;>intro R
 .have I:k<xs.length:=by omega
  obtain⟨y,e⟩:∃y,xs[k]? = X4 y:=⟨_,am I⟩
  have o:kV w (a.add ((k+1)*3)) (bH y):=s.at (i:=k+1) (by rw[List.getElem?_cons_succ];exact e);apply L 4 [0] m;simp only[↓U];refine mq m aB (by kernel_rfl) (cX 5 [0,0,2] ?_);simp only[↓U,gG,aP,ah,ai];refine⟨_,λu m=>(show dQ _ _ _ _ (pt y) from (o.ext m.ext).lies aG aA),by omega,?_⟩;refine eH O O (lR (p:=y) (q:=(xs.take k).foldl mU x)) (aK aM (aZ ?_));intro u m;apply aT 1 [0] m;simp only[↓U];refine mq m aB (by kernel_rfl) (cX 5 [1,0,0] ?_);simp only[↓U,aP,gG,ah,ai];refine⟨_,λu m=>(show dQ _ _ _ _ (pt y) from (o.ext m.ext).lies aG aA),by omega,?_⟩;refine eH O O (lR (p:=(xs.take k).foldl oC x) (q:=y)) (aK aM (aZ ?_));intro u m;apply aT 5 [0] m;simp only[↓U];refine cL O ?_ ?_<;>intro t
  .have l:=avO rfl t;apply xI 11 [0,0,1,0] m;simp only[↓U,gG,aP,ah,ai,aa];refine⟨_,λu m=>(show dQ _ _ _ _ (pt y) from (o.ext m.ext).lies aG aA),by omega,?_⟩;intro u m;refine cL O ?_ ?_<;>intro j
   .have g:=au7 rfl j;apply xI 13 [0,0,0,0] m;simp only[↓U,gG,aP,ah,ai,aa];refine⟨_,λu m=>(show dQ _ _ _ _ (pt y) from (o.ext m.ext).lies aG aA),by omega,?_⟩;intro u m;have c:=sY (f:=mU) (z:=x) e;have d:=sY (f:=oC) (z:=x) e;rw[l] at c;rw[g] at d;exact r (xs.length-(k+1)) _ _ (by omega) (by kernel_rfl) ⟨k+1,O,((m.re 1 O ((by rw[c];exact (m.b 1 O)))).re 0 O ((by rw[d];exact (m.b 0 O)))),by omega,O⟩
   have g:=au8 rfl j;apply L 7 [0] m;simp only[↓U];apply I0;omega;have c:=sY (f:=mU) (z:=x) e;have d:=sY (f:=oC) (z:=x) e;rw[l] at c;rw[g] at d;exact r (xs.length-(k+1)) _ _ (by omega) (by kernel_rfl) ⟨k+1,O,((m.re 1 O ((by rw[c];exact (m.b 1 O)))).re 0 O ((by rw[d];exact (m.b 0 O)))),by omega,O⟩
  have l:=avP rfl t;apply L 5 [0] m;simp only[↓U];refine cL O ?_ ?_<;>intro j
  .have g:=au7 rfl j;apply xI 13 [0,0,0,0] m;simp only[↓U,gG,aP,ah,ai,aa];refine⟨_,λu m=>(show dQ _ _ _ _ (pt y) from (o.ext m.ext).lies aG aA),by omega,?_⟩;intro u m;have c:=sY (f:=mU) (z:=x) e;have d:=sY (f:=oC) (z:=x) e;rw[l] at c;rw[g] at d;exact r (xs.length-(k+1)) _ _ (by omega) (by kernel_rfl) ⟨k+1,O,((m.re 1 O ((by rw[c];exact (m.b 1 O)))).re 0 O ((by rw[d];exact (m.b 0 O)))),by omega,O⟩
  have g:=au8 rfl j;apply L 7 [0] m;simp only[↓U];apply I0;omega;have c:=sY (f:=mU) (z:=x) e;have d:=sY (f:=oC) (z:=x) e;rw[l] at c;rw[g] at d;exact r (xs.length-(k+1)) _ _ (by omega) (by kernel_rfl) ⟨k+1,O,((m.re 1 O ((by rw[c];exact (m.b 1 O)))).re 0 O ((by rw[d];exact (m.b 0 O)))),by omega,O⟩
 obtain rfl:k=xs.length:=by omega
 rw[au (ar _)] at m;apply L 2 [0] m;simp only[↓U];refine zvt [Z,Z,X3,X3] [[2],[1],[3],[2]] (.take 0 (.take 1 (.one 2 (.one 3 .nil)))) m aB (by kernel_rfl) (bS (λ_ _ _ _ _ h=>h)) ?_;simp only[↓U,↓zzu,aP,aa];intro u m;apply aT 1 [] m;simp only[↓U];exact wE O ⟨_,O,((m.b 3 O).full aG aA)⟩ ⟨_,O,((m.b 2 O).full aG aA)⟩ ⟨_,O,m.ext,O⟩
def avQ{v:H}(h:bA v.x≠0):iJ v=0:=J λe=>h (cA.2 e)
def avR{v:H}(e:¬bA v.x≠0)(h:bA v.y≠0):iJ v=1:=by
 have a:=cA.1 (Classical.not_not.1 e);unfold iJ;rw[X (λk=>k a),J λe=>h (cA.2 e)]
def avS{v:H}(e:¬bA v.x≠0)(f:¬bA v.y≠0)(h:bA v.z≠0):iJ v=2:=by
 have a:=cA.1 (Classical.not_not.1 e);have b:=cA.1 (Classical.not_not.1 f);unfold iJ;rw[X (λk=>k a),X (λk=>k b),J λe=>h (cA.2 e)]
def avT{v:H}(e:¬bA v.x≠0)(f:¬bA v.y≠0)(h:¬bA v.z≠0):iJ v=3:=by
 have a:=cA.1 (Classical.not_not.1 e);have b:=cA.1 (Classical.not_not.1 f);have c:=cA.1 (Classical.not_not.1 h);unfold iJ;rw[X (λk=>k a),X (λk=>k b),X (λk=>k c)]
def uN  : decide (bA t.normal.x=0/\bA t.normal.y=0/\bA t.normal.z=0)=fK t:=by
 unfold fK;refine decide_eq_decide.2 ?_;simp only[cA];show _↔¬iJ t.normal<3
 unfold iJ;constructor
 .rintro⟨h1,h2,a⟩;simp[h1,h2,a]
 intro h
 by_cases h1:t.normal.x=0 <;> by_cases h2:t.normal.y=0 <;> by_cases a:t.normal.z=0 <;> simp[h1,h2,a] at h ⊢
def au9{g:Nat}{b:H}(c:fQ w g [X6 a.x,X6 a.y,X6 a.z,X6 b.x,X6 b.y,X6 b.z] T):uD bH 3 w (X4 ⟨g,0,X5⟩) 2 [a,b] :=
 ⟨rfl,λi x d=>⟨_,rfl,by
  rw[cS,ai]
  match i,d with
  | 0,h=>cases h;exact kV.pre (ys:=iD b) (c.row 0)
  | 1,h=>cases h;exact c.row 3⟩⟩
def agU{p:H}{g:Nat}(w:ak)(a:uD bH 3 w (X4 ⟨g,0,X5⟩) 2 [p,q]):cY prog 203 [.slice (X4 ⟨g,0,X5⟩) 2 cap] w λv _=>v=.tuple #[pt (mU p q),pt (oC p q)]:=Zs (x:=p) (xs:=[q]) w a (by decide)
def Zt{v:H}:dF prog 285 [sg v] (X6 ((iJ v:Nat):Int)):=by
 intro w;refine⟨bJ func285 (by kernel_rfl),?_⟩;have m:=Mem.refl w
 go_enter func285,ntmps285
 apply gH 30 [4,1,1,0,0] m;simp only[↓U,fD,dC,ad,ag,aa];intro c;apply I0;omega;intro u m;refine bC O ?_ ?_<;>intro a
 .have b:=a;apply L 6 [] m;simp only[↓U];refine aS O O ?_;try simp only[zD,zE]
  exact⟨_,O,m.ext,by rw[avQ b];rfl⟩
 have b:=a;apply L 25 [1,1,0,0] m;simp only[↓U,fD,dC,an,ad,ag,aa];apply I0;omega;refine bC O ?_ ?_<;>intro a
 .have h1:=a;apply L 6 [] m;simp only[↓U];refine aS O O ?_;try simp only[zD,zE]
  exact⟨_,O,m.ext,by rw[avR b h1];rfl⟩
 have h1:=a;apply L 25 [1,1,0,0] m;simp only[↓U,fD,dC,an,ad,ag,aa];apply I0;omega;refine bC O ?_ ?_<;>intro a
 .have h2:=a;apply L 6 [] m;simp only[↓U];refine aS O O ?_;try simp only[zD,zE]
  exact⟨_,O,m.ext,by rw[avS b h1 h2];rfl⟩
 have h2:=a;apply L 21 [2] m;simp only[↓U,an];apply I0;omega;refine aS O O ?_;try simp only[zD,zE]
 exact⟨_,O,m.ext,by rw[avT b h1 h2];rfl⟩
def Bo{p r s:H}[I3 p][I3 q][I3 r][I3 s]:dF prog 204 [pt p,pt q,pt r,pt s] (.bool (eU p q r s)):=by
 intro w;refine⟨bJ func204 (by kernel_rfl),?_⟩;have m:=Mem.refl w
 go_enter func204,ntmps204
 apply gH 8 [] m;simp only[↓U];intro B C D E u m;apply aT 6 [4,3,2,1,0] m;simp only[↓U,aP];refine jG m O O (Uc (a:=p) (b:=q) (c:=r) (d:=s)) ?_;intro u m;simp only[G];refine lD m O O (Zt (v:=vN p q r s)) 4 [] ?_;simp only[↓U];intro u m;by_cases f:Z3 (vN p q r s)
 .have e:=alJ f;apply aT 10 [2,4,3,0] m;simp only[↓U,aP];apply I0;omega;refine Yk O O ?_;intro u F g h j;replace m:=m.newB g h j;simp only[G];refine cK m O O (agU (p:=p) (q:=q) _ (au9 (m.b 0 O))) ?_;rintro v u m rfl;apply lK 8 [1,0] m;simp only[↓U,fB,aP,aa];intro I J u m;apply aT 4 [5,4,0] m;simp only[↓U,aP];refine Yk O O ?_;intro u K g h j;replace m:=m.newB g h j;simp only[G];refine cK m O O (agU (p:=r) (q:=s) _ (au9 (m.b 0 O))) ?_;rintro v u m rfl;apply lK 8 [1,0] m;simp only[↓U,fB,aP,aa];intro M N u m;apply aT 6 [5,4,2] m;simp only[↓U,aP,qQ,aa];apply Mr 6 [0] m;simp only[↓U,lL,dM,aa];intro o u m;apply aT 4 [6,5,0] m;simp only[↓U,aP];refine⟨_,eQ,?_⟩;refine gY m 0 [] [89,90,91,92] (λvs i=>vs=[]/\i=bI o [X6 (lM p q r s).a.x,X6 (lM p q r s).a.y,X6 (lM p q r s).a.z,X6 (lM p q r s).b.x,X6 (lM p q r s).b.y,X6 (lM p q r s).b.z,X6 (lM p q r s).c.x,X6 (lM p q r s).c.y,X6 (lM p q r s).c.z] 39) ?_ ?_
  . intro A k
    refine bC O ?_ ?_<;>intro l
    .apply L 5 [3,2,6] m;simp only[↓U,aP,qQ,aa];apply Mr 2 [0,0] m;simp only[↓U,dM,aa];intro u m;exact k _ _ _ (by kernel_rfl) m ⟨O,by rw[alL l] <;> rfl⟩
    apply L 1 [0] m;simp only[↓U];exact k _ _ _ (by kernel_rfl) m ⟨O,by rw[alM l] <;> rfl⟩
  intro vs i wr m n u
  obtain⟨rfl,rfl⟩:=n;simp only[zF,zG] at m;simp only[zu,zF,zG];apply aT 3 [1,0] m;simp only[↓U,dM];refine lD m O O (Km (t:=lM p q r s)) 6 [5,3,0] ?_;simp only[↓U,aP];intro u m;refine lD m O O (lR (p:=oC p q) (q:=mU r s)) 6 [2,6,0] ?_;simp only[↓U,aP];intro u m;refine lD m O O (lR (p:=oC r s) (q:=mU p q)) 12 [3,3] ?_;simp only[↓U];refine λ_=>λ_=>?_;intro u m;refine aS O O ?_;try simp only[zD,zE]
  exact⟨_,O,m.ext,by rw[uN,aqd f]⟩
 have e:=(Bm f).2;apply aT 6 [1,0] m;simp only[↓U];apply I0;omega;refine mq m aB (by kernel_rfl) (cX 3 [4,3,2] ?_);simp only[↓U,aP];refine eH O O (gR (a:=p) (b:=q) (c:=r)) (aK aJ (aK ((mB (v:=dU p q r) e O O)) ?_));refine cX 3 [4,3,1] ?_;simp only[↓U,aP];refine eH O O (gR (a:=p) (b:=q) (c:=s)) (aK aJ (aK ((mB (v:=dU p q s) e O O)) (aK (kS O O (yS _ _)) ?_)));simp only[G];refine aK aM (aZ ?_);intro u m;apply aT 1 [0] m;simp only[↓U];refine mq m aB (by kernel_rfl) (cX 3 [2,1,4] ?_);simp only[↓U,aP];refine eH O O (gR (a:=r) (b:=s) (c:=p)) (aK aJ (aK ((mB (v:=dU r s p) e O O)) ?_));refine cX 3 [2,1,3] ?_;simp only[↓U,aP];refine eH O O (gR (a:=r) (b:=s) (c:=q)) (aK aJ (aK ((mB (v:=dU r s q) e O O)) (aK (kS O O (yS _ _)) ?_)));simp only[G];refine aK aM (aZ ?_);intro u m;apply aT 6 [4,3,2,1,0] m;simp only[↓U,aP];refine lD m O O (nG (a:=p) (b:=q) (c:=r) (d:=s)) 8 [0,3,0,3,0] ?_;simp only[↓U];refine λ_=>λ_=>?_;intro u m;refine aS O O ?_;try simp only[zD,zE]
 exact⟨_,O,m.ext,by rw[<-agL f]⟩
def aqn{b c p:H}  : (((decide (bA (dV (dU a b p) k)>=0)&&decide (bA (dV (dU b c p) k)>=0))&&decide (bA (dV (dU c a p) k)>=0))||((decide (bA (dV (dU a b p) k)<=0)&&decide (bA (dV (dU b c p) k)<=0))&&decide (bA (dV (dU c a p) k)<=0)))=decide (wth a b c p k):=by
 unfold wth;rw[fy];simp only[fh,bg,R,ge_iff_le,Cw,Ro,Y8];exact decide_eq_true_iff.symm
def aqo{y z:Int}:(((decide (bA x>=0)&&decide (bA y>=0))&&decide (bA z>=0))||((decide (bA x<=0)&&decide (bA y<=0))&&decide (bA z<=0)))=Sj x y z:=by
 unfold Sj;rw[fy];simp only[fh,bg,R,ge_iff_le,Cw,Ro]
def avU{g:Nat}{b c:H}(d:fQ w g [X6 a.x,X6 a.y,X6 a.z,X6 b.x,X6 b.y,X6 b.z,X6 c.x,X6 c.y,X6 c.z] T):uD bH 3 w (X4 ⟨g,0,X5⟩) 3 [a,b,c] :=
 ⟨rfl,λi x e=>⟨_,rfl,by
  rw[cS,ai]
  match i,e with
  | 0,h=>cases h;exact kV.pre (ys:=iD b++iD c) (d.row 0)
  | 1,h=>cases h;exact kV.pre (ys:=iD c) (d.row 3)
  | 2,h=>cases h;exact d.row 6⟩⟩
def apm{p r:H}{g:Nat}(w:ak)(a:uD bH 3 w (X4 ⟨g,0,X5⟩) 3 [p,q,r]):cY prog 203 [.slice (X4 ⟨g,0,X5⟩) 3 cap] w λv _=>v=.tuple #[pt (mU (mU p q) r),pt (oC (oC p q) r)]:=Zs (x:=p) (xs:=[q,r]) w a (by decide)
def ava{p:H}(h:fK t=Z):dN p q t=eU p q (mU (mU t.a t.b) t.c) (oC (oC t.a t.b) t.c):=by
 unfold dN;rw[X (Y3 h)]
def nfl(h:fK t=X3):iJ (dU t.a t.b t.c)<3:=Classical.not_not.1 (Y9 h)
def avb{p:H}(h:fK t=X3)(d:0<bA (mR t.a t.b t.c p)*bA (mR t.a t.b t.c q)):dN p q t=X3:=by
 unfold dN;rw[J (nfl h),J (wD.1 d)]
def agV{p:H}(h:fK t=X3)(d:¬0<bA (mR t.a t.b t.c p)*bA (mR t.a t.b t.c q))(hp:(decide (bA (mR t.a t.b t.c p)=0)&&decide (bA (mR t.a t.b t.c q)=0))=Z):dN p q t=(((eU p q t.a t.b||eU p q t.b t.c)||eU p q t.c t.a)||decide (wth t.a t.b t.c p (iJ (dU t.a t.b t.c)))):=by
 simp only[bg,R,cA] at hp;unfold dN;rw[J (nfl h),X (λk=>d (wD.2 k)),J hp]
def aqp{p:H}(h:fK t=X3)(d:¬0<bA (mR t.a t.b t.c p)*bA (mR t.a t.b t.c q))(hp:(decide (bA (mR t.a t.b t.c p)=0)&&decide (bA (mR t.a t.b t.c q)=0))=X3):dN p q t=Sj (mR p q t.a t.b) (mR p q t.b t.c) (mR p q t.c t.a):=by
 have e:¬(mR t.a t.b t.c p=0/\mR t.a t.b t.c q=0):=λk=>by
  rw[Y0 (cA.2 k.1),Y0 (cA.2 k.2)] at hp;cases hp
 unfold dN;rw[J (nfl h),X (λk=>d (wD.2 k)),X e]
def adq{p:H}[I3 p][IT t](f:iJ (dU t.a t.b t.c)<3):dF prog 205 [pt p,tr t] (.bool (decide (wth t.a t.b t.c p (iJ (dU t.a t.b t.c))))):=by
 intro w;refine⟨bJ func205 (by kernel_rfl),?_⟩;have m:=Mem.refl w
 go_enter func205,ntmps205
 apply gH 14 [1,1,1,0] m;simp only[↓U,bQ,aP,ad,ag,aa];intro g h;apply I0;omega;intro u m;refine jG m O O (gR (a:=t.a) (b:=t.b) (c:=t.c)) ?_;intro u m;simp only[G];refine lD m O O (Zt (v:=dU t.a t.b t.c)) 9 [1,1,2,0] ?_;simp only[↓U,bQ,aP,ad,ag,aa];apply I0;omega;intro u m;refine lD m O O (gR (a:=t.a) (b:=t.b) (c:=p)) 1 [0] ?_;simp only[↓U];intro u m;refine aD ((mB (v:=dU t.a t.b p) f O O)) ?_;apply aH 9 [1,1,2,0] m;simp only[↓U,bQ,aP,ad,ag,aa];apply I0;omega;refine lD m O O (gR (a:=t.b) (b:=t.c) (c:=p)) 1 [0] ?_;simp only[↓U];intro u m;refine aD ((mB (v:=dU t.b t.c p) f O O)) ?_;apply aH 9 [1,1,2,0] m;simp only[↓U,bQ,aP,ad,ag,aa];apply I0;omega;refine lD m O O (gR (a:=t.c) (b:=t.a) (c:=p)) 1 [0] ?_;simp only[↓U];intro u m;refine aD ((mB (v:=dU t.c t.a p) f O O)) ?_;apply aH 3 [] m;simp only[↓U];cases e:((decide (bA (dV (dU t.a t.b p) (iJ (dU t.a t.b t.c)))>=0)&&decide (bA (dV (dU t.b t.c p) (iJ (dU t.a t.b t.c)))>=0))&&decide (bA (dV (dU t.c t.a p) (iJ (dU t.a t.b t.c)))>=0))
 .apply aT 7 [0,3,0,3,0,0] m;simp only[↓U];refine λ_=>λ_=>?_;rw[e];refine aD aJ ?_;apply aH 3 [0,0,0,0,0] m;simp only[↓U];refine jI O (λd=>aJ) (jI O (λd=>Nz (bL d O) O) (eP O (aD (eE O O O) ?_)));apply aH 1 [0,0] m;simp only[↓U];refine jI O (λd=>aJ) (jI O (λd=>Nz (bL d O) O) (eP O (aD (eE O O O) ?_)));apply aH 4 [] m;simp only[↓U];refine aS O O ?_;try simp only[zD,zE]
  exact⟨_,O,m.ext,by rw[<-aqn,e,Bool.false_or]⟩
 apply aT 7 [0,3,0,3,0,0] m;simp only[↓U];refine λ_=>λ_=>?_;rw[e];refine aD aJ ?_;apply aH 14 [0,0,0,0,0,0,0,0,0,0] m;simp only[↓U];refine aS O O ?_;try simp only[zD,zE]
 exact⟨_,O,m.ext,by rw[<-aqn,e,Bool.true_or]⟩
def nH{p:H}[I3 p][I3 q][IT t]:dF prog 139 [pt p,pt q,tr t] (.bool (dN p q t)):=by
 intro w;refine⟨bJ func139 (by kernel_rfl),?_⟩;have m:=Mem.refl w
 go_enter func139,ntmps139
 apply gH 5 [] m;simp only[↓U];intro z A B u m;apply aT 5 [1,0] m;simp only[↓U,dM];refine lD m O O (Km (t:=t)) 7 [0] ?_;simp only[↓U];intro u m;refine cL O ?_ ?_<;>intro e
 .rw[uN] at e;apply L 8 [1,1,1,0] m;simp only[↓U,bQ,aP,ad,ag,aa];apply I0;omega;refine ahH O O O ?_;intro u C o x y;replace m:=m.newB o x y;simp only[G];refine cK m O O (apm (p:=t.a) (q:=t.b) (r:=t.c) _ (avU (m.b 0 O))) ?_;rintro v u m rfl;apply lK 7 [1,0] m;simp only[↓U,fB,aP,aa];intro D E u m;apply aT 7 [6,5,2,1,0] m;simp only[↓U,aP];refine lD m O O ((haveI l:=Lb (p:=t.a) (q:=t.b) Y7 Y7;haveI:=(Lb l.1 (Y7:I3 t.c)).1;haveI:=(Lb l.2 (Y7:I3 t.c)).2;Bo (p:=p) (q:=q) (r:=mU (mU t.a t.b) t.c) (s:=oC (oC t.a t.b) t.c))) 3 [] ?_;simp only[↓U];intro u m;refine aS O O ?_;try simp only[zD,zE]
  exact⟨_,O,m.ext,by rw[ava e]⟩
 rw[uN] at e;apply L 10 [1,1,1,3,0] m;simp only[↓U,bQ,aP,ad,ag,aa];apply I0;omega;refine lD m O O (nG (a:=t.a) (b:=t.b) (c:=t.c) (d:=p)) 11 [1,1,1,2] ?_;simp only[↓U,bQ,aP,ad,ag,aa];apply I0;omega;intro u m;refine go (lD m O O (nG (a:=t.a) (b:=t.b) (c:=t.c) (d:=q)) 7 [0] ?_);simp only[↓U];intro u m;refine aD (kS O O (yS _ _)) ?_;apply aH 2 [0,0] m;simp only[↓U];refine bC O ?_ ?_<;>intro g
 .apply L 5 [] m;simp only[↓U];refine aS O O ?_;try simp only[zD,zE]
  exact⟨_,O,m.ext,by rw[avb e g]⟩
 apply L 9 [0,3,0,0] m;simp only[↓U];refine λ_=>?_;refine cL O ?_ ?_<;>intro h
 .apply L 19 [4,1,0] m;simp only[↓U];apply I0;omega;refine mq m aB (by kernel_rfl) (cX 7 [3,2,1] ?_);simp only[↓U,aP,bQ,ad,ag,aa,an];apply I0;omega;refine aK (cT (m:=1) (n:=3) (r:=1) O O (by decide) (by decide)) (cX 2 [1] ?_);simp only[↓U,bQ,aP,ad,ag,aa];apply I0;omega;refine eH O O (Bo (p:=p) (q:=q) (r:=t.a) (s:=t.b)) (aK aM (aZ ?_));intro u m;apply aT 4 [0] m;simp only[↓U];refine cL O ?_ ?_<;>intro f
  .have k:=f;apply L 5 [] m;simp only[↓U];refine aS O O ?_;try simp only[zD,zE]
   exact⟨_,O,m.ext,by rw[agV e g h];simp[*]⟩
  have k:=f;apply L 19 [1,0] m;simp only[↓U,an];apply I0;omega;refine mq m aB (by kernel_rfl) (cX 7 [3,2,1] ?_);simp only[↓U,aP,bQ,ad,ag,aa,an];apply I0;omega;refine aK (cT (m:=2) (n:=3) (r:=2) O O (by decide) (by decide)) (cX 2 [1] ?_);simp only[↓U,bQ,aP,ad,ag,aa];apply I0;omega;refine eH O O (Bo (p:=p) (q:=q) (r:=t.b) (s:=t.c)) (aK aM (aZ ?_));intro u m;apply aT 4 [0] m;simp only[↓U];refine cL O ?_ ?_<;>intro f
  .have h1:=f;apply L 5 [] m;simp only[↓U];refine aS O O ?_;try simp only[zD,zE]
   exact⟨_,O,m.ext,by rw[agV e g h];simp[*]⟩
  have h1:=f;apply L 19 [1,0] m;simp only[↓U,an];apply I0;omega;refine mq m aB (by kernel_rfl) (cX 7 [3,2,1] ?_);simp only[↓U,aP,bQ,ad,ag,aa,an];apply I0;omega;refine aK (cT (m:=3) (n:=3) (r:=0) O O (by decide) (by decide)) (cX 2 [1] ?_);simp only[↓U,bQ,aP,ad,ag,aa];apply I0;omega;refine eH O O (Bo (p:=p) (q:=q) (r:=t.c) (s:=t.a)) (aK aM (aZ ?_));intro u m;apply aT 4 [0] m;simp only[↓U];refine cL O ?_ ?_<;>intro f
  .have h2:=f;apply L 5 [] m;simp only[↓U];refine aS O O ?_;try simp only[zD,zE]
   exact⟨_,O,m.ext,by rw[agV e g h];simp[*]⟩
  have h2:=f;apply L 20 [2,3,1,0] m;simp only[↓U,aP,dM,an];apply I0;omega;refine lD m O O (adq (p:=p) (t:=t) (nfl e)) 3 [] ?_;simp only[↓U];intro u m;refine aS O O ?_;try simp only[zD,zE]
  exact⟨_,O,m.ext,by rw[agV e g h,k,h1,h2];rfl⟩
 apply L 9 [3,2,1,1,0] m;simp only[↓U,aP,bQ,ad,ag,aa];apply I0;omega;refine lD m O O (nG (a:=p) (b:=q) (c:=t.a) (d:=t.b)) 10 [3,2,1,1,0] ?_;simp only[↓U,aP,bQ,ad,ag,aa];apply I0;omega;intro u m;refine lD m O O (nG (a:=p) (b:=q) (c:=t.b) (d:=t.c)) 10 [3,2,1,1,0] ?_;simp only[↓U,aP,bQ,ad,ag,aa];apply I0;omega;intro u m;refine lD m O O (nG (a:=p) (b:=q) (c:=t.c) (d:=t.a)) 3 [] ?_;simp only[↓U];intro u m;cases j:((decide (bA (mR p q t.a t.b)>=0)&&decide (bA (mR p q t.b t.c)>=0))&&decide (bA (mR p q t.c t.a)>=0))
 .apply aT 7 [0,3,0,3,0,0] m;simp only[↓U];refine λ_=>λ_=>?_;rw[j];refine aD aJ ?_;apply aH 3 [0,0,0,0,0] m;simp only[↓U];refine jI O (λi=>aJ) (jI O (λi=>Nz (bL i O) O) (eP O (aD (eE O O O) ?_)));apply aH 1 [0,0] m;simp only[↓U];refine jI O (λi=>aJ) (jI O (λi=>Nz (bL i O) O) (eP O (aD (eE O O O) ?_)));apply aH 4 [] m;simp only[↓U];refine aS O O ?_;try simp only[zD,zE]
  exact⟨_,O,m.ext,by rw[aqp e g h,<-aqo,j,Bool.false_or]⟩
 apply aT 7 [0,3,0,3,0,0] m;simp only[↓U];refine λ_=>λ_=>?_;rw[j];refine aD aJ ?_;apply aH 14 [0,0,0,0,0,0,0,0,0,0] m;simp only[↓U];refine aS O O ?_;try simp only[zD,zE]
 exact⟨_,O,m.ext,by rw[aqp e g h,<-aqo,j,Bool.true_or]⟩
def abw{g:Nat}{j:Nat}(h:fQ w g (aL t) T)(a:j<3):kV w ⟨g,j*3,X5⟩ (bH (t.cor j)):=by
 rcases j with _ | _ | _ | j
 .exact (h.row 0).take 3
 .exact (h.row 3).take 3
 .exact (h.row 6).take 3
 omega
def apn{p:H}:dF prog 202 [pt p,tr t] (.bool (t.has p)):=by
 intro w;refine⟨bJ func202 (by kernel_rfl),?_⟩;have m:=Mem.refl w
 go_enter func202,ntmps202
 apply gH 19 [2,1,5,2,1,5,2,1] m;simp only[↓U,aP,bQ,ad,ag,aa];refine λa=>λb=>⟨_,eQ,_,eQ,λ_=>⟨_,eQ,λ_=>⟨by omega,?_⟩⟩⟩
 intro u m;refine aS O O ?_;try simp only[zD,zE]
 exact⟨_,O,m.ext,by rw[amv]⟩
def Vh(w:ak):cY prog 136 [tr s,tr t] w (λv w'=>∃f r B g A C,v=.tuple #[.slice f r B,.slice g A C]/\r=(mS s t).length/\A=(tE s t).length/\Mem w w' [oI 30 3 g A C ((tE s t).flatMap iD),oI 30 3 f r B ((mS s t).flatMap iD)]):=by
 refine⟨bJ func136 (by kernel_rfl),?_⟩;have m:=Mem.refl w
 go_enter func136,ntmps136
 apply gH 9 [0] m;simp only[↓U];intro E F u m;refine aD aM ?_;replace m:=m.nilO 30 3;apply aH 3 [0] m;simp only[↓U];refine aD aM ?_;replace m:=m.nilO 30 3;apply aH 7 [0] m;simp only[↓U];refine bT [6,7,8] [9,10,11,12,13,14,15,16,17,18,19,20,21,22,23,24,25,26,27,28,29,30,31] (λn vs K=>∃(k:Nat) (f g:Option Addr) (h i:Nat),vs=[.slice f (sU s t k).length h,.slice g (sV s t k).length i,X6 (k:Int)]/\Mem w K [oI 30 3 g (sV s t k).length i ((sV s t k).flatMap iD),oI 30 3 f (sU s t k).length h ((sU s t k).flatMap iD),bI F [X6 t.a.x,X6 t.a.y,X6 t.a.z,X6 t.b.x,X6 t.b.y,X6 t.b.z,X6 t.c.x,X6 t.c.y,X6 t.c.z] 39,bI E [X6 s.a.x,X6 s.a.y,X6 s.a.z,X6 s.b.x,X6 s.b.y,X6 s.b.z,X6 s.c.x,X6 s.c.y,X6 s.c.z] 39]/\(k<=3)/\(n=3-k)) ?_ ?_
 .exact⟨_,0,_,_,_,_,O,m,by omega,O⟩
 intro n vs wr I u M D
 obtain⟨k,f,g,h,i,rfl,m,N,P⟩:=I;simp only[zu,zF,zG];apply L 6 [0,0] m;simp only[↓U];refine bC O ?_ ?_<;>intro Q
 .have d:k<3:=by omega
  apply L 4 [0] m;simp only[↓U];refine mq m aB (by kernel_rfl) (cX 4 [0,0,3] ?_);simp only[↓U,bQ,dM,ah,ai];refine⟨_,λu m=>(show dQ _ _ _ _ (pt (s.cor k)) from (abw (m.b 3 O) d).lies aG aA),by omega,?_⟩;refine eH O O (apn (t:=t) (p:=s.cor k)) (aK aM (aZ ?_));intro u m;apply aT 4 [0] m;simp only[↓U];refine cL O ?_ ?_<;>intro e
  .apply L 5 [0,0,0] m;simp only[↓U,bQ,ah,ai];refine⟨_,λu m=>(show dQ _ _ _ _ (pt (s.cor k)) from (abw (m.b 3 O) d).lies aG aA),by omega,?_⟩;refine kH O ?_;intro u H j l q;replace m:=m.newB j l q;simp only[G];refine bN m 2 O O eR mK O (by decide) O O O (m.b 0 O).rowsO (fN O) (by have:=Qr s t k;omega) (by have:=Qr s t k;omega) ?_;intro f h u m;simp only[zF,zG] at m;rw[show (sU s t k).flatMap iD++_=(sU s t (k+1)).flatMap iD by rw[sW d,e,aw];rfl,show (sU s t k).length+1=(sU s t (k+1)).length by rw[sW d,e,aq];rfl] at m;rw[show (sU s t k).length+1=(sU s t (k+1)).length by rw[sW d,e,aq];rfl];apply aH 8 [0] m;simp only[↓U];apply I0;omega;have o:sV s t (k+1)=sV s t k:=by rw[sX d,e,J rfl,fb]
   rw[<-o] at m ⊢;exact D (3-(k+1)) _ _ (by omega) (by kernel_rfl) ⟨k+1,_,_,_,_,O,(m.sel [X3,Z,Z,Z,Z]),by omega,O⟩
  apply L 5 [0,0,0] m;simp only[↓U,bQ,ah,ai];refine⟨_,λu m=>(show dQ _ _ _ _ (pt (s.cor k)) from (abw (m.b 3 O) d).lies aG aA),by omega,?_⟩;refine kH O ?_;intro u H j l q;replace m:=m.newB j l q;simp only[G];refine bN m 1 O O eR mK O (by decide) O O O (m.b 0 O).rowsO (fN O) (by have:=Qs s t k;omega) (by have:=Qs s t k;omega) ?_;intro g i u m;simp only[zF,zG] at m;rw[show (sV s t k).flatMap iD++_=(sV s t (k+1)).flatMap iD by rw[sX d,e,aw];rfl,show (sV s t k).length+1=(sV s t (k+1)).length by rw[sX d,e,aq];rfl] at m;rw[show (sV s t k).length+1=(sV s t (k+1)).length by rw[sX d,e,aq];rfl];apply aH 8 [0] m;simp only[↓U];apply I0;omega;have o:sU s t (k+1)=sU s t k:=by rw[sW d,e,X fg,fb]
  rw[<-o] at m ⊢;exact D (3-(k+1)) _ _ (by omega) (by kernel_rfl) ⟨k+1,_,_,_,_,O,(m.sel [X3,Z,Z,Z,Z]),by omega,O⟩
 obtain rfl:k=3:=by omega
 apply L 9 [] m;simp only[↓U];exact wE O O O ⟨_,O,m.ext,_,_,_,_,_,_,O,O,O,m.sel [Z,Z,X3,X3]⟩
def adr[IT s][IT t]:dF prog 138 [tr s,tr t] (.bool (wG s t||wG t s)):=by
 intro w;refine⟨bJ func138 (by kernel_rfl),?_⟩;have m:=Mem.refl w
 go_enter func138,ntmps138
 apply gH 25 [4,1,0] m;simp only[↓U];intro f g;apply I0;omega;intro u m;refine mq m aB (by kernel_rfl) (cX 5 [2] ?_);simp only[↓U,bQ,aP,ad,ag,aa,an];apply I0;omega;refine aK (cT (m:=1) (n:=3) (r:=1) O O (by decide) (by decide)) (cX 3 [2,1] ?_);simp only[↓U,bQ,aP,dM,ad,ag,aa];apply I0;omega;refine eH O O (nH (p:=s.a) (q:=s.b) (t:=t)) (aK aM (aZ ?_));intro u m;apply aT 1 [0] m;simp only[↓U];refine mq m aB (by kernel_rfl) (cX 5 [1] ?_);simp only[↓U,bQ,aP,ad,ag,aa,an];apply I0;omega;refine aK (cT (m:=1) (n:=3) (r:=1) O O (by decide) (by decide)) (cX 3 [1,2] ?_);simp only[↓U,bQ,aP,dM,ad,ag,aa];apply I0;omega;refine eH O O (nH (p:=t.a) (q:=t.b) (t:=s)) (aK aM (aZ ?_));intro u m;apply aT 6 [2,0] m;simp only[↓U];refine λ_=>?_;refine cL O ?_ ?_<;>intro d
 .have e:=d;apply L 5 [] m;simp only[↓U];refine aS O O ?_;try simp only[zD,zE]
  exact⟨_,O,m.ext,by unfold wG;rcases fh _ _ |>.mp e with h | h <;> simp[h]⟩
 have e:=d;apply L 19 [1,0] m;simp only[↓U,an];apply I0;omega;refine mq m aB (by kernel_rfl) (cX 5 [2] ?_);simp only[↓U,bQ,aP,ad,ag,aa,an];apply I0;omega;refine aK (cT (m:=2) (n:=3) (r:=2) O O (by decide) (by decide)) (cX 3 [2,1] ?_);simp only[↓U,bQ,aP,dM,ad,ag,aa];apply I0;omega;refine eH O O (nH (p:=s.b) (q:=s.c) (t:=t)) (aK aM (aZ ?_));intro u m;apply aT 1 [0] m;simp only[↓U];refine mq m aB (by kernel_rfl) (cX 5 [1] ?_);simp only[↓U,bQ,aP,ad,ag,aa,an];apply I0;omega;refine aK (cT (m:=2) (n:=3) (r:=2) O O (by decide) (by decide)) (cX 3 [1,2] ?_);simp only[↓U,bQ,aP,dM,ad,ag,aa];apply I0;omega;refine eH O O (nH (p:=t.b) (q:=t.c) (t:=s)) (aK aM (aZ ?_));intro u m;apply aT 6 [2,0] m;simp only[↓U];refine λ_=>?_;refine cL O ?_ ?_<;>intro d
 .have h1:=d;apply L 5 [] m;simp only[↓U];refine aS O O ?_;try simp only[zD,zE]
  exact⟨_,O,m.ext,by unfold wG;rcases fh _ _ |>.mp h1 with h | h <;> simp[h]⟩
 have h1:=d;apply L 19 [1,0] m;simp only[↓U,an];apply I0;omega;refine mq m aB (by kernel_rfl) (cX 5 [2] ?_);simp only[↓U,bQ,aP,ad,ag,aa,an];apply I0;omega;refine aK (cT (m:=3) (n:=3) (r:=0) O O (by decide) (by decide)) (cX 3 [2,1] ?_);simp only[↓U,bQ,aP,dM,ad,ag,aa];apply I0;omega;refine eH O O (nH (p:=s.c) (q:=s.a) (t:=t)) (aK aM (aZ ?_));intro u m;apply aT 1 [0] m;simp only[↓U];refine mq m aB (by kernel_rfl) (cX 5 [1] ?_);simp only[↓U,bQ,aP,ad,ag,aa,an];apply I0;omega;refine aK (cT (m:=3) (n:=3) (r:=0) O O (by decide) (by decide)) (cX 3 [1,2] ?_);simp only[↓U,bQ,aP,dM,ad,ag,aa];apply I0;omega;refine eH O O (nH (p:=t.c) (q:=t.a) (t:=s)) (aK aM (aZ ?_));intro u m;apply aT 6 [2,0] m;simp only[↓U];refine λ_=>?_;refine cL O ?_ ?_<;>intro d
 .have h2:=d;apply L 5 [] m;simp only[↓U];refine aS O O ?_;try simp only[zD,zE]
  exact⟨_,O,m.ext,by unfold wG;rcases fh _ _ |>.mp h2 with h | h <;> simp[h]⟩
 have h2:=d;apply L 21 [2] m;simp only[↓U,an];apply I0;omega;refine aS O O ?_;try simp only[zD,zE]
 exact⟨_,O,m.ext,by rw[iu] at e h1 h2;unfold wG;rw[e.1,e.2,h1.1,h1.2,h2.1,h2.2];rfl⟩
def ais[IT s][IT t]:dF prog 81 [tr s,tr t] (.bool (mP s t)):=by
 intro w;refine⟨bJ func81 (by kernel_rfl),?_⟩;have m:=Mem.refl w
 go_enter func81,ntmps81
 apply gH 6 [] m;simp only[↓U];intro g1 g2 u m;apply aT 4 [2,1,0] m;simp only[↓U,dM];refine bF O O (Vh (s:=s) (t:=t) _) ?_;rintro v u n ⟨T,n5,Y,V,n6,Z,rfl,g,k,r⟩;replace m:=m.plus r;clear r;simp only[cq,bz] at m;apply aH 10 [3,4,0] m;simp only[↓U,dM];refine bF O O (Vh (s:=t) (t:=s) _) ?_;rintro v u n ⟨W,n7,c7,X,n8,c8,rfl,ab,l,r⟩;replace m:=m.plus r;clear r;simp only[cq,bz] at m;apply aH 9 [6,0] m;simp only[↓U,dM];refine lD m O O (Km (t:=s)) 5 [5,0] ?_;simp only[↓U,dM];intro u m;refine lD m O O (Km (t:=t)) 13 [0,2,2,0] ?_;simp only[↓U,gV];refine λ_=>λ_=>?_;intro u m;refine cL O ?_ ?_<;>intro A
 .rw[uN,uN] at A;apply L 4 [6,5,0] m;simp only[↓U,dM];refine lD m O O (adr (s:=s) (t:=t)) 3 [] ?_;simp only[↓U];intro u m;refine aS O O ?_;try simp only[zD,zE]
  exact⟨_,O,m.ext,by rw[alT g A]⟩
 rw[uN,uN] at A;obtain⟨⟨K,R,S⟩,B⟩:=alU g A;apply L 3 [] m;simp only[↓U];rcases Ur R S K with ⟨x,h,E,j,F,h1,h2,f⟩ | ⟨x,z,h,j,h1,h2,f⟩ | h1
 .rw[h1] at g;rw[h2] at k;rw[f] at l;have M:I3 h:=tK (i:=0) h2 rfl;have N:I3 E:=tK (i:=1) h2 rfl;have P:I3 j:=tK (i:=0) f rfl;have Q:I3 F:=tK (i:=1) f rfl;simp only[ay,bm] at g k l;subst g;subst k;subst l;rw[h1,h2,f] at m;obtain⟨H,rfl⟩:=(m.o 3 rfl).some (by decide);obtain⟨I,rfl⟩:=(m.o 2 rfl).some (by decide);obtain⟨J,rfl⟩:=(m.o 0 rfl).some (by decide);apply aT 12 [1,0] m;simp only[↓U,gV];apply I0;omega;refine mq m aB (by kernel_rfl) (cX 7 [0,0,0,0,5] ?_);simp only[↓U,gG,dM,ad,ag,aa];refine⟨_,λu m=>(((m.o 2 O).at (enc:=iD) (i:=0) Ag O).lies aG aA),_,λu m=>(((m.o 2 O).at (enc:=iD) (i:=1) Ag O).lies aG aA),by omega,?_⟩;refine eH O O (nH (p:=h) (q:=E) (t:=t)) (aK aM (aZ ?_));intro u m;apply aT 1 [0] m;simp only[↓U];refine mq m aB (by kernel_rfl) (cX 7 [0,0,0,0,6] ?_);simp only[↓U,gG,dM,ad,ag,aa];refine⟨_,λu m=>(((m.o 0 O).at (enc:=iD) (i:=0) Ag O).lies aG aA),_,λu m=>(((m.o 0 O).at (enc:=iD) (i:=1) Ag O).lies aG aA),by omega,?_⟩;refine eH O O (nH (p:=j) (q:=F) (t:=s)) (aK aM (aZ ?_));intro u m;apply aT 8 [2] m;simp only[↓U];refine λ_=>?_;refine aS O O ?_;try simp only[zD,zE]
  exact⟨_,O,m.ext,by rw[B,h1,h2,f];rfl⟩
 .rw[h1] at g;rw[h2] at k;rw[f] at l;have M:I3 x:=abk (i:=0) h1 rfl;have N:I3 z:=abk (i:=1) h1 rfl;have P:I3 h:=tK (i:=0) h2 rfl;have Q:I3 j:=tK (i:=0) f rfl;simp only[ay,bm] at g k l;subst g;subst k;subst l;rw[h1,h2,f] at m;obtain⟨H,rfl⟩:=(m.o 3 rfl).some (by decide);obtain⟨I,rfl⟩:=(m.o 2 rfl).some (by decide);obtain⟨J,rfl⟩:=(m.o 0 rfl).some (by decide);apply aT 18 [2,1,0] m;simp only[↓U,gV];apply I0;omega;refine dR 11 [0,1,2,3,4,5,6,7,8,9] [⟨10,13,36,[X6 0,X6 0,X6 0]⟩] aB (by kernel_rfl) (al1 ⟨_,_,_,O,by kernel_rfl,_,Fg,O⟩) (ol:=?_) ?D ?_
  case D=>simp only[zw,zQ,zR];try rfl
  intro u n;replace m:=m.ext' n;refine eG aJ ?_;simp only[G];refine eG (aR eR aA O O (by decide) (by omega) O) ?_;simp only[G];refine cO O (λu e=>((((m.ext' e).o 3 O).at (enc:=iD) (i:=0) Ag O).lies aG aA)) ?_;simp only[G];refine eG aJ ?_;simp only[G];refine eG (aR eR aA O O (by decide) (by omega) O) ?_;simp only[G];refine cO O (λu e=>((((m.ext' e).o 3 O).at (enc:=iD) (i:=1) Ag O).lies aG aA)) ?_;simp only[G];refine eG aJ ?_;simp only[G];refine eG (aR eR aA O O (by decide) (by omega) O) ?_;simp only[G];refine cO O (λu e=>((((m.ext' e).o 2 O).at (enc:=iD) (i:=0) Ag O).lies aG aA)) ?_;simp only[G];refine cM O O (gR (a:=x) (b:=z) (c:=h)) (vB ?_);simp only[G];refine mf1 m ?_;intro g3 u m;simp only[zJ,zK,zF,zG];refine bP m 0 O O O iN (gS O) O ?_;intro u m;simp only[zy,zx,over,zF,zG,aa] at m;refine aI ?_;apply aT 1 [0] m;simp only[↓U];refine dR 11 [0,1,2,3,4,5,6,7,8,9] [⟨10,14,36,[X6 0,X6 0,X6 0]⟩] aB (by kernel_rfl) (al1 ⟨_,_,_,O,by kernel_rfl,_,Fg,O⟩) (ol:=?_) ?D ?_
  case D=>simp only[zw,zQ,zR];try rfl
  intro u n;replace m:=m.ext' n;refine eG aJ ?_;simp only[G];refine eG (aR eR aA O O (by decide) (by omega) O) ?_;simp only[G];refine cO O (λu e=>((((m.ext' e).o 4 O).at (enc:=iD) (i:=0) Ag O).lies aG aA)) ?_;simp only[G];refine eG aJ ?_;simp only[G];refine eG (aR eR aA O O (by decide) (by omega) O) ?_;simp only[G];refine cO O (λu e=>((((m.ext' e).o 4 O).at (enc:=iD) (i:=1) Ag O).lies aG aA)) ?_;simp only[G];refine eG aJ ?_;simp only[G];refine eG (aR eR aA O O (by decide) (by omega) O) ?_;simp only[G];refine cO O (λu e=>((((m.ext' e).o 1 O).at (enc:=iD) (i:=0) Ag O).lies aG aA)) ?_;simp only[G];refine cM O O (gR (a:=x) (b:=z) (c:=j)) (vB ?_);simp only[G];refine mf1 m ?_;intro g4 u m;simp only[zJ,zK,zF,zG];refine bP m 0 O O O iN (gS O) O ?_;intro u m;simp only[zy,zx,over,zF,zG,aa] at m;refine aI ?_;apply aT 1 [0] m;simp only[↓U];refine mq m aB (by kernel_rfl) (cX 12 [0,0,0,0,0,0,0,0] ?_);simp only[↓U,gG,ad,ag,aa];refine⟨_,λu m=>(((m.o 5 O).at (enc:=iD) (i:=0) Ag O).lies aG aA),_,λu m=>(((m.o 5 O).at (enc:=iD) (i:=1) Ag O).lies aG aA),_,λu m=>(((m.o 4 O).at (enc:=iD) (i:=0) Ag O).lies aG aA),_,λu m=>(((m.o 2 O).at (enc:=iD) (i:=0) Ag O).lies aG aA),by omega,?_⟩;refine eH O O (nG (a:=x) (b:=z) (c:=h) (d:=j)) (aK (Im O O) (aK aJ ?_));simp only[G];refine eM O (λy u m=>bD O ((m.b 1 O).full vU iN)) (eM O (λy u m=>bD O ((m.b 0 O).full vU iN)) (cQ O (λy=>Yj (bL y O) (bL y O)) (aK (eE O O O) (aK aM (aZ ?_)))));intro u m;apply aT 1 [] m;simp only[↓U];refine aS O O ?_;try simp only[zD,zE]
  exact⟨_,O,m.ext,by rw[B,h1,h2,f];exact C bw alW⟩
 rw[h1] at g;subst g;apply aT 24 [2,2] m;simp only[↓U,gV];apply I0;omega;refine aS O O ?_;try simp only[zD,zE]
 exact⟨_,O,m.ext,by rw[B,alX h1]⟩
def ads{r:T3}[IT t][IT r]:dF prog 179 [tr t,tr r] (X6 (Vz t r)):=by
 intro w;refine⟨bJ func179 (by kernel_rfl),?_⟩;have m:=Mem.refl w
 go_enter func179,ntmps179
 apply gH 7 [0] m;simp only[↓U];intro a c u m;refine mq m aB (by kernel_rfl) (ql O (λu m=>((m.b 1 O).full cD aW)) ?_);simp only[G];refine eH O O Nj ?_;simp only[G];refine ql O (λu m=>((m.b 0 O).full cD aW)) ?_;simp only[G];refine eH O O Nj ?_;simp only[G];refine eH O O (Tz Bv.of Bv.of) ?_;simp only[G];refine eH O O (Fs M.up) (aK aM (aZ ?_));intro u m;apply aT 1 [] m;simp only[↓U];exact aS O O ⟨_,O,m.ext,O⟩
def avc(a b c:Int):(if (if a<b then b else a)<c then c else if a<b then b else a)=max (max a b) c:=by omega
def avd(a b c:Int):(if c<(if b<a then b else a) then c else if b<a then b else a)=min (min a b) c:=by omega
def apo  : (((decide (max (max s.a.x s.b.x) s.c.x<min (min t.a.x t.b.x) t.c.x)||decide (max (max t.a.x t.b.x) t.c.x<min (min s.a.x s.b.x) s.c.x))||(decide (max (max s.a.y s.b.y) s.c.y<min (min t.a.y t.b.y) t.c.y)||decide (max (max t.a.y t.b.y) t.c.y<min (min s.a.y s.b.y) s.c.y)))||(decide (max (max s.a.z s.b.z) s.c.z<min (min t.a.z t.b.z) t.c.z)||decide (max (max t.a.z t.b.z) t.c.z<min (min s.a.z s.b.z) s.c.z))) = !oN s t:=by
 unfold oN;rw[Bool.not_and,Bool.not_and,pb,pb,pb];rfl
def afu  : dF prog 80 [tr s,tr t] (.bool (!oN s t)):=by
 intro w;refine⟨bJ func80 (by kernel_rfl),?_⟩;have m:=Mem.refl w
 go_enter func80,ntmps80
 apply gH 4 [] m;simp only[↓U];intro d e u m;apply aT 10 [2,2] m;simp only[↓U,bQ,gN,dC,ad,ag,aa];apply I0;omega;apply aT 3 [2,0] m;simp only[↓U,bQ,gN,dC,ad,ag,aa];apply I0;omega;refine aD (Ib O O O O) ?_;apply aH 7 [1,1] m;simp only[↓U,bQ,gN,dC,ad,ag,aa];apply I0;omega;apply aT 2 [1,0] m;simp only[↓U,gN,dC,aa];refine aD (Ia O O O O) ?_;apply aH 2 [0,0] m;simp only[↓U];refine cW O (λa=>aN eB aA O O (by decide) (by decide) O) (cW O (λa=>aU (c:=0) fY O aY (bL a O) O) ?_);simp only[G];refine dW O (λa=>bD (bL a O) ((m.b 0 O).lies1 bK O)) (cW O (λa=>aN eB aA O O (by decide) (by decide) O) (cW O (λa=>aU (c:=0) fY O aY (bL a O) O) ?_));simp only[G];refine dW O (λa=>bD (bL a O) ((m.b 0 O).lies1 bK O)) (cW O (λa=>aN eB aA O O (by decide) (by decide) O) (cW O (λa=>aU (c:=0) fY O aY (bL a O) O) ?_));simp only[G];refine dW O (λa=>bD (bL a O) ((m.b 0 O).lies1 bK O)) (cW O (λa=>Ib (bL a O) (bL a O) (bL a O) O) (cW O (λa=>aN eB aA O O (by decide) (by decide) O) (cW O (λa=>aU (c:=0) fY O aY (bL a O) O) ?_)));simp only[G];refine dW O (λa=>bD (bL a O) ((m.b 1 O).lies1 bK O)) (cW O (λa=>aN eB aA O O (by decide) (by decide) O) (cW O (λa=>aU (c:=0) fY O aY (bL a O) O) ?_));simp only[G];refine dW O (λa=>bD (bL a O) ((m.b 1 O).lies1 bK O)) (cW O (λa=>aN eB aA O O (by decide) (by decide) O) (cW O (λa=>aU (c:=0) fY O aY (bL a O) O) ?_));simp only[G];refine dW O (λa=>bD (bL a O) ((m.b 1 O).lies1 bK O)) (cW O (λa=>Ia (bL a O) (bL a O) (bL a O) O) (cW O (λa=>xQ (bL a O) (bL a O)) (aD (gJ O O O) ?_)));apply aH 10 [2,2] m;simp only[↓U,bQ,gQ,dC,ad,ag,aa];apply I0;omega;apply aT 3 [2,0] m;simp only[↓U,bQ,gQ,dC,ad,ag,aa];apply I0;omega;refine aD (Ib O O O O) ?_;apply aH 7 [1,1] m;simp only[↓U,bQ,gQ,dC,ad,ag,aa];apply I0;omega;apply aT 2 [1,0] m;simp only[↓U,gQ,dC,aa];refine aD (Ia O O O O) ?_;apply aH 2 [0,0] m;simp only[↓U];refine cW O (λa=>aN eB aA O O (by decide) (by decide) O) (cW O (λa=>aU (c:=0) fY O aY (bL a O) O) ?_);simp only[G];refine dW O (λa=>bD (bL a O) ((m.b 0 O).lies1 bK O)) (cW O (λa=>aN eB aA O O (by decide) (by decide) O) (cW O (λa=>aU (c:=0) fY O aY (bL a O) O) ?_));simp only[G];refine dW O (λa=>bD (bL a O) ((m.b 0 O).lies1 bK O)) (cW O (λa=>aN eB aA O O (by decide) (by decide) O) (cW O (λa=>aU (c:=0) fY O aY (bL a O) O) ?_));simp only[G];refine dW O (λa=>bD (bL a O) ((m.b 0 O).lies1 bK O)) (cW O (λa=>Ib (bL a O) (bL a O) (bL a O) O) (cW O (λa=>aN eB aA O O (by decide) (by decide) O) (cW O (λa=>aU (c:=0) fY O aY (bL a O) O) ?_)));simp only[G];refine dW O (λa=>bD (bL a O) ((m.b 1 O).lies1 bK O)) (cW O (λa=>aN eB aA O O (by decide) (by decide) O) (cW O (λa=>aU (c:=0) fY O aY (bL a O) O) ?_));simp only[G];refine dW O (λa=>bD (bL a O) ((m.b 1 O).lies1 bK O)) (cW O (λa=>aN eB aA O O (by decide) (by decide) O) (cW O (λa=>aU (c:=0) fY O aY (bL a O) O) ?_));simp only[G];refine dW O (λa=>bD (bL a O) ((m.b 1 O).lies1 bK O)) (cW O (λa=>Ia (bL a O) (bL a O) (bL a O) O) (cW O (λa=>xQ (bL a O) (bL a O)) (aD (gJ O O O) ?_)));apply aH 10 [2,2] m;simp only[↓U,bQ,iG,dC,ad,ag,aa];apply I0;omega;apply aT 3 [2,0] m;simp only[↓U,bQ,iG,dC,ad,ag,aa];apply I0;omega;refine aD (Ib O O O O) ?_;apply aH 7 [1,1] m;simp only[↓U,bQ,iG,dC,ad,ag,aa];apply I0;omega;apply aT 2 [1,0] m;simp only[↓U,iG,dC,aa];refine aD (Ia O O O O) ?_;apply aH 2 [0,0] m;simp only[↓U];refine cW O (λa=>aN eB aA O O (by decide) (by decide) O) (cW O (λa=>aU (c:=0) fY O aY (bL a O) O) ?_);simp only[G];refine dW O (λa=>bD (bL a O) ((m.b 0 O).lies1 bK O)) (cW O (λa=>aN eB aA O O (by decide) (by decide) O) (cW O (λa=>aU (c:=0) fY O aY (bL a O) O) ?_));simp only[G];refine dW O (λa=>bD (bL a O) ((m.b 0 O).lies1 bK O)) (cW O (λa=>aN eB aA O O (by decide) (by decide) O) (cW O (λa=>aU (c:=0) fY O aY (bL a O) O) ?_));simp only[G];refine dW O (λa=>bD (bL a O) ((m.b 0 O).lies1 bK O)) (cW O (λa=>Ib (bL a O) (bL a O) (bL a O) O) (cW O (λa=>aN eB aA O O (by decide) (by decide) O) (cW O (λa=>aU (c:=0) fY O aY (bL a O) O) ?_)));simp only[G];refine dW O (λa=>bD (bL a O) ((m.b 1 O).lies1 bK O)) (cW O (λa=>aN eB aA O O (by decide) (by decide) O) (cW O (λa=>aU (c:=0) fY O aY (bL a O) O) ?_));simp only[G];refine dW O (λa=>bD (bL a O) ((m.b 1 O).lies1 bK O)) (cW O (λa=>aN eB aA O O (by decide) (by decide) O) (cW O (λa=>aU (c:=0) fY O aY (bL a O) O) ?_));simp only[G];refine dW O (λa=>bD (bL a O) ((m.b 1 O).lies1 bK O)) (cW O (λa=>Ia (bL a O) (bL a O) (bL a O) O) (cW O (λa=>xQ (bL a O) (bL a O)) (aD (gJ O O O) ?_)));apply aH 11 [2,2] m;simp only[↓U];refine λ_=>λ_=>?_;apply aT 1 [] m;simp only[↓U];refine aS O O ?_;try simp only[zD,zE]
 exact⟨_,O,m.ext,by simp only[avc,avd];rw[apo]⟩
def Ph(t s:T3):Bool:=!decide (dB s=dB t)&&Bf (dB s) (dB t)
def ave{x y:T3}:decide ((x).a.x=(y).a.x/\(x).a.y=(y).a.y/\(x).a.z=(y).a.z/\(x).b.x=(y).b.x/\(x).b.y=(y).b.y/\(x).b.z=(y).b.z/\(x).c.x=(y).c.x/\(x).c.y=(y).c.y/\(x).c.z=(y).c.z)=decide (x=y):=decide_eq_decide.2 ⟨λ⟨h1,h2,d,e,f,g,i,j,k⟩=>Di (H.eq h1 h2 d) (H.eq e f g) (H.eq i j k),λh=>by rw[h];simp only[X1]⟩
def app(h:(decide (dB s=dB t) || !oN (dB s) (dB t))=Z):Ph t s=X3:=by
 unfold Ph Bf;rcases fh _ _ |>.mp h with h | h
 .rw[h];rfl
 rw[fp] at h;rw[h,ju,jk]
def avf(h:(decide (dB s=dB t) || !oN (dB s) (dB t))=X3):Ph t s=mP (dB s) (dB t):=by
 rw[iu] at h;unfold Ph Bf;have h2:oN (dB s) (dB t)=Z:=by have:=h.2;simpa using this
 rw[h.1,h2];rfl
def avV(h:l[k]? = X4 s)(a:Ph t s=Z):Bg t l=Z:=et.2 ⟨s,bf h,a⟩
def avW(b:l.length<=n)(h:∀j s,j<n->l[j]? = X4 s->Ph t s=X3):Bg t l=X3:=gi.2 λs hs k=>by
 obtain⟨j,a⟩:=df.1 hs;have:=h j s (by have:=(ao.1 a).1;omega) a;unfold Ph at this;rw[this] at k;cases k
def afv{ts:List T3}{A:Option Addr}[hit:IT t](w:ak)(p:bW w A N ts)(M:N<=10000000):cY prog 33 [tr t,.slice A N cap] w (λv _=>v=.bool (Bg t ts)):=by
 refine⟨bJ func33 (by kernel_rfl),?_⟩;have m:=Mem.refl w;have S:=p.len;haveI:IT (dB t):=afr hit
 go_enter func33,ntmps33
 apply gH 8 [1,0] m;simp only[↓U,dM];intro C u m;refine lD m O O (Ns (t:=t)) 8 [0,0] ?_;simp only[↓U,dM,aa];intro u m;refine bT [5] [4,6,7,10,11,12,13,14,15,16,17,18,19,20,21,22,23,24,25,26,27,28,29,30,31,32] (λn vs G=>∃(k:Nat),vs=[X6 (k:Int)]/\Mem w G [bI C [X6 (dB t).a.x,X6 (dB t).a.y,X6 (dB t).a.z,X6 (dB t).b.x,X6 (dB t).b.y,X6 (dB t).b.z,X6 (dB t).c.x,X6 (dB t).c.y,X6 (dB t).c.z] 39]/\(∀j s,j<k->ts[j]? = X4 s->Ph t s=X3)/\(k<=N)/\(n=N-k)) ?_ ?_
 .exact⟨_,0,O,m,(λ_ _ h=>Z8 h (jm _)),bn _,O⟩
 intro n vs wr E u J q
 obtain⟨k,rfl,m,hq,P,Q⟩:=E;simp only[zu,zF,zG];apply L 8 [0,0] m;simp only[↓U,gM];refine bC O ?_ ?_<;>intro R
 .obtain⟨x,l,H,a,D,I⟩:=p.get (i:=k) (by omega);subst D;haveI:IT (dB x):=afr H;apply L 9 [0,1,0] m;simp only[↓U,fR,ah,ai];refine⟨_,λu m=>((I.ext m.ext).lies cD aW),by omega,?_⟩;refine lD m O O (Ns (t:=x)) 10 [0,1,2,0] ?_;simp only[↓U,lL,dM,aa];refine λK=>⟨_,akW,?_⟩
  intro u m;refine dW O (λf=>bD O ((m.b 0 O).full cD aW)) (dW O (λf=>bD O ((m.b 1 O).full cD aW)) (Ad m O O (λf=>by simp only[ee,bi,dh,zA,zB,zC,zD,zE,f,iM];rfl) (λf=>afu (s:=dB x) (t:=dB t)) ?_));intro u m;refine aD (gJ O O O) ?_;apply aH 1 [0] m;simp only[↓U];refine cL O ?_ ?_<;>intro g
  .rw[ave] at g;have d:=app g;apply L 6 [0] m;simp only[↓U];apply I0;omega;exact q (N-(k+1)) _ _ (by omega) (by kernel_rfl) ⟨k+1, rfl, (m.sel [X3, Z]), (λj o F e => by
    rcases eh j k with h | h
    .exact hq j o h e
    obtain rfl:k=j:=by omega
    obtain rfl:=fc (l.symm.trans e);exact d),by omega,O⟩
  rw[ave] at g;have B:=avf g;apply L 5 [1,2,0] m;simp only[↓U,dM];refine lD m O O (ais (s:=dB x) (t:=dB t)) 6 [0] ?_;simp only[↓U];intro u m;refine cL O ?_ ?_<;>intro r
  .have d:=B.trans r;apply L 5 [] m;simp only[↓U];refine aS O O ?_;try simp only[zD,zE]
   exact⟨_,O,m.ext,by rw[avV l d]⟩
  have d:=B.trans r;apply L 7 [0] m;simp only[↓U];apply I0;omega;exact q (N-(k+1)) _ _ (by omega) (by kernel_rfl) ⟨k+1, rfl, (m.sel [X3, Z]), (λj o F e => by
   rcases eh j k with h | h
   .exact hq j o h e
   obtain rfl:k=j:=by omega
   obtain rfl:=fc (l.symm.trans e);exact d),by omega,O⟩
 obtain rfl:k=N:=by omega
 apply L 6 [] m;simp only[↓U];refine aS O O ?_;try simp only[zD,zE]
 exact⟨_,O,m.ext,by rw[avW (by omega) hq]⟩
end
end Go.Proofs.YtfekpcimgncioaaGreatDoor
