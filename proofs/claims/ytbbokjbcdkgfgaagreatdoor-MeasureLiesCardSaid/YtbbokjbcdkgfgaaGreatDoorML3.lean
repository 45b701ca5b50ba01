/-
 Texts of one claim, laid together: K31, Wo, Ch, Ci, Ck, Cl, Wp, Cm, Cn, Co, Cp, K32, K33, Cr, K53, K54, K55, K56, K57, K58, K59, K60, Cmp, Grow2, Sort, SortPt, Maps1, W1, Rchk2, W2, Ent, W3, K1, K2, K3, K4, Sfa, K5, Ref1, Ref2, Ref3, Ref4, Ref5, Ref6, Ref7, Wide6, Wide1, Tail, Wide2.
-/
import Derived.Shelf.SlSortCmp.WholeK
import Derived.Shelf.SlSortCmp.NoneTotal
import Derived.Shelf.SlLaysF0
import Derived.Test.YtbbokjbcdkgfgaaGreatDoorProg
import Derived.Test.YtbbokjbcdkgfgaaGreatDoorML2
open Nat renaming reduceAdd->aa,zero_add->ae,reduceMul->C,le_trans->ay,lt_of_lt_of_le->bc,le_refl->bg,mul_one->bi,zero_le->bm,min_eq_left->de,ne_of_gt->dm,lt_or_ge->ej,add_zero->gi,add_sub_cancel->g_,mul_zero->ja,le_of_lt->ju,mod_lt->kd,le_of_not_lt->ko,mod_eq_of_lt->kp,add_comm->lh,add_sub_cancel_left->ma,lt_of_not_le->nz,sub_le->pc
open Int renaming toNat_natCast->ab,reduceToNat->ac,reduceAdd->M,fdiv_eq_ediv_of_nonneg->gl,toNat->ji,natAbs_mul->ku,reduceSub->pw
open List renaming getElem?_eq_getElem->ah,mem_of_getElem?->ak,take_of_length_le->ap,flatMap_append->au,getElem?_eq_some_iff->av,length_append->a_,length_take->bf,length_cons->bh,replicate->bn,mem_append->bz,mem_singleton->cr,getElem?_eq_none->ct,nil_append->cv,flatMap_cons->da,getElem?_map->dc,map_append->dh,mem_map->du,length_nil->dv,cons_append->dx,length_map->dy,length_drop->ef,eq_of_mem_replicate->ep,getElem?_take->fa,length_set->fc,eq_nil_of_length_eq_zero->fd,ext_getElem?->fy,take_length->ga,pairwise_append->gm,length_singleton->ib,take_zero->im,drop_length->j_,drop_zero->kv,getElem_set_self->lp,getElem_set_ne->lz,map_set->mo,drop_replicate->ob
open Go renaming wp_region_lit->f,Value->am,World->an,TypeId->ba,wpList->be,Program->B,Operand->cw,wpQuiet->c_,Deferred->d_,wp_skip->gg,wp_ret->gh,wp_block->gn
open Go.Exit renaming inBlock->t
open Bool renaming and_eq_true->ck,or_eq_true->gz,not_false->ik,not_eq_true'->ip,not_true->iq
open Option renaming getD_some->dt,isSome_iff_exists->fb,map_some->fu,getD_none->ij
open BitVec renaming ofInt->el
open UInt8 renaming ofNat->eu
open Array renaming getElem?_eq_some_iff->fx,getElem?_toList->ia,getElem?_eq_getElem->ie,replicate->ig,getElem?_eq_none->mj
open Go.Value renaming bool->fz,int->ky
set_option maxHeartbeats 8000000
set_option linter.unusedSimpArgs false
set_option linter.defProp false
set_option linter.unusedVariables false
set_option linter.unusedSectionVars false
open And renaming intro->R
open Bool renaming true->N,false->X7
open Option renaming some->H,none->X8
open Go.Proofs.Tryz renaming prog->X9
namespace Go.Proofs.YtbbokjbcdkgfgaaGreatDoor
open Go.Proofs.Tryz
open Go.RowKit Go.Lith
variable{ts:List T3}{vi cap:Nat}
abbrev dK:=@underlying132
abbrev Fp:=@underlying155
abbrev aa5:=@underlying5
set_option maxRecDepth 100000
attribute [local irreducible] be c_ fS cE cP Code.wp
attribute [local congr] fE fF eN fD
def aa6(A:Option Addr)(vi cap:Nat)(ts:List T3)(w:an)(v:am)(w':an):Prop:=(v=.slice A vi cap/\vi<2)\/SL 43 9 ((vE ts).flatMap aP) vi w v w'
theorem acP{t:T3}(h:IT t):IT (j t):=by
 unfold j;split
 .exact⟨h.c,h.a,h.b⟩
 split
 .exact⟨h.b,h.c,h.a⟩
 exact h
theorem alC(h:∀t∈ts,IT t):∀t∈vE ts,IT t:=λt a=>h t ((tN ts).mem_iff.1 a)
def aa6.view{A:Option Addr}{w w':an}{v:am}(h:aa6 A vi cap ts w v w')(a:cI w' A vi ts)(d:vi<=cap):∃B c,v=.slice B vi c/\cI w' B vi (vE ts)/\vi<=c:=by
 rcases h with ⟨rfl,h⟩|⟨B,c,n,rfl,rfl,b⟩
 .exact⟨_,_,O,by rw[Lv (by rw[a.len];exact h)];exact a,d⟩
 exact⟨B,c,O,b.tris (alC a.it),b.le⟩
def aiB{A:Option Addr}(w:an)(ih:∀{us:List T3}{M c:Nat}{B:Option Addr}(u:an),cI u B M us->M<=c->M<vi->cX X9 52 [.slice B M c] u (aa6 B M c us u))(a:cI w A vi ts)(d:vi<=cap)(C:vi<=100000000):cX X9 52 [.slice A vi cap] w (aa6 A vi cap ts w):=by
 refine⟨bP func52 (by kernel_rfl),?_⟩;have m:=Mem.refl w;have I:=a.len
 go_enter func52,ntmps52
 apply iD 11 [0,0] m;simp only[↓Z,gN];refine aZ O ?_ ?_<;>intro D
 .apply F 6 [] m;simp only[↓Z];exact aS O O ⟨_,O,m.ext,.inl ⟨O,by omega⟩⟩
 apply F 5 [0] m;simp only[↓Z,gN];refine aA (gL O O (by omega) (show IntKind.i64.wrap ((vi:Int).tdiv 2)=((vi / 2:Nat):Int) from (show IntKind.i64.wrap ((vi / 2:Nat):Int)=((vi / 2:Nat):Int) from bN (by omega) (by omega)))) ?_;apply aL 3 [0] m;simp only[↓Z];refine mh m [] [(0,N),(1,N),(2,N),(4,N),(5,N),(6,N),(3,X7),(7,X7),(8,X7),(9,N)] aB (by kernel_rfl) (bR (λ_ _ _ _ _ h=>h)) (ol:=?_) ?r ?_
 case r=>simp only[zw,zQ,zR];try rfl
 intro u m;refine aV aF (aV aF ?_);simp only[J];refine aV (gR gB bK O O (show _=vi / 2 by omega) (by omega) (by omega)) (aV aF (aV aF ?_));simp only[J];refine aV (gS gB bK O O (show _=vi / 2 by omega) (by omega) (by omega) O) (bX ?_);simp only[J];refine bB O O (ih _ ((a.ext m.ext).takeL (k:=vi / 2) (by omega)) (by omega) (by omega)) ?_;rintro v u e i;replace m:=m.ext' e;obtain⟨t,y,rfl,b,E⟩:=i.view ((a.ext m.ext).takeL (k:=vi / 2) (by omega)) (by omega);clear e;refine S ⟨m,?_⟩;refine bX ?_;simp only[J];refine bB O O (ih _ ((a.ext m.ext).dropL (k:=vi / 2) (cap:=cap) (by omega) d) (by omega) (by omega)) ?_;rintro v u e n;replace m:=m.ext' e;replace b:=b.ext e;obtain⟨x,z,rfl,p,q⟩:=n.view ((a.ext m.ext).dropL (k:=vi / 2) (cap:=cap) (by omega) d) (by omega);clear e;refine S ⟨m,?_⟩;refine bX ?_;simp only[J];refine bB O O (aiA _ b p q (by omega)) ?_;rintro v u g ⟨f,s,l,G,rfl,j⟩;replace m:=m.newO g j;refine S ⟨m.sel [X7],?_⟩;refine aV aI (aT ?_);apply aQ 1 [] m;simp only[↓Z];exact aS O O ⟨_,O,m.ext,.inr ⟨f,s,l,by omega,O,by rw[<-aa4 ts (vi / 2)];exact (m.o 0 O)⟩⟩
def ad6:∀(n:Nat){ts:List T3}{vi cap:Nat}{A:Option Addr}(w:an),cI w A vi ts->vi<=cap->vi<=100000000->vi<n->cX X9 52 [.slice A vi cap] w (aa6 A vi cap ts w)
 |0,_,_,_,_,_,_,_,_,h=>Y0 h (Nat.not_lt_zero _)
 |n+1,_,vi,_,_,w,b,d,a,h=>aiB w (λu c e f=>ad6 n u c e (by omega) (by omega)) b d a
def apk{w0 w:an}{A:Option Addr}{vi cap:Nat}{xs:List T3}(m:Mem w0 w [oI 43 9 A vi cap (xs.flatMap aP)])(f:∀t∈xs,IT t)(g:vi<=100000000) :
 Qt X9 52 [.slice A vi cap] w λv w'=>∃B c,v=.slice B vi c/\Mem w0 w' [oI 43 9 B vi c ((vE xs).flatMap aP)]:=by
 have a:=m.o 0 rfl;have b:=ad6 (vi+1) w (a.tris f) a.le g (Nat.lt_succ_self vi);refine⟨b.1,b.2.mono ?_⟩;rintro e w' ⟨v,rfl,d,⟨rfl,h⟩|⟨B,c,n,rfl,rfl,i⟩⟩
 .exact⟨_,O,A,cap,O,by rw[Lv (by rw[(a.tris f).len];exact h)];exact m.ext' d⟩
 exact⟨_,O,B,c,O,(m.newO d i).sel [N,X7]⟩
def uH{A:Option Addr}(w:an)(e:cI w A vi ts)(G:vi<=100000000):cX X9 22 [.slice A vi cap] w (SL 43 9 ((bS ts).flatMap aP) ts.length w):=by
 refine⟨bP func22 (by kernel_rfl),?_⟩;have m:=Mem.refl w;have z:=e.len
 go_enter func22,ntmps22
 apply iD 6 [0] m;simp only[↓Z];refine aA aI ?_;replace m:=m.nilO 43 9;apply aL 7 [0] m;simp only[↓Z];refine bT [3,4] [5,6,7,8,9,10,11,12,13,14,15,16,17,18] (λn vs x=>∃(k:Nat)(c:Option Addr)(d:Nat),vs=[.slice c k d,U (k:Int)]/\Mem w x [oI 43 9 c k d (((ts.take k).map j).flatMap aP)]/\(k<=vi)/\(n=vi-k)) ?_ ?_
 .exact⟨_,0,_,_,O,m,bm _,O⟩
 intro n vs L l u D y
 obtain⟨k,c,d,rfl,m,I,K⟩:=l;simp only[zu,zF,zG];apply F 8 [0,0] m;simp only[↓Z,gN];refine aZ O ?_ ?_<;>intro M
 .obtain⟨t,f,_,a,h,B⟩:=e.get (i:=k) (by omega);subst h;apply F 9 [0,1,0] m;simp only[↓Z,eY,ab,ae];refine⟨_,λu m=>((B.ext m.ext).lies eD bK),by omega,?_⟩;refine eV m O O (xA (t:=t)) ?_;intro u m;simp only[J];refine jL O ?_;intro u E g p r;replace m:=m.newB g p r;simp only[J];refine bJ m 1 O O gB mS O (by decide) O O O (m.b 0 O).rowsO (fU O) (by omega) (by omega) ?_;intro c d u m;simp only[zF,zG] at m;rw[show ((ts.take k).map j).flatMap aP++_=((ts.take (k+1)).map j).flatMap aP by rw[cZ f,dh,au];rfl] at m;apply aL 8 [0] m;simp only[↓Z];apply R;omega;exact y (vi-(k+1)) _ _ (by omega) (by kernel_rfl) ⟨k+1,_,_,O,(m.sel [X7,N]),by omega,O⟩
 obtain rfl:k=vi:=by omega
 rw[show ts.take k=ts from ap (by omega)] at m;apply F 4 [0] m;simp only[↓Z];refine qQ rfl rfl (apk m (λt f=>by obtain⟨s,q,rfl⟩:=du.1 f;exact acP (e.it s q)) (by omega)) ?_;rintro v u ⟨C,P,rfl,m⟩;apply aL 3 [] m;simp only[↓Z];exact aS O O ⟨_,O,m.ext,⟨_,_,_,z.symm,O,(m.o 0 O)⟩⟩
end Go.Proofs.YtbbokjbcdkgfgaaGreatDoor
namespace Go.Lith
open Go.RowKit
variable{t:T3}{x q:Y}
/-! ### Corners in order -/
def ad7{p:Y}:∀{ps:List Y},Ca ps->(ps.dropWhile λx=>decide (x.Lt p)).head? ≠ H p->∀x∈ps.dropWhile λx=>decide (x.Lt p),p.Lt x
 | [],_,_,x,h=>by cases h
 |y::ys,f,a,x,h=>by
  obtain⟨d,e⟩:=List.pairwise_cons.1 f;rw[List.dropWhile_cons] at h a;split at h
  . rename_i b
    rw[Z9 b] at a;exact ad7 e a x h
  rename_i b
  rw[K0 b] at a;have c:p.Lt y:=by
   rcases lt_tri y p with k|k|k
   .exact Y0 (Y5 k) b
   .rw[k] at a;exact Y0 O a
   exact k
  rcases List.mem_cons.1 h with rfl|h
  .exact c
  exact Y.lt_trans c (d x h)
def yP{ps:List Y}{p:Y}(b:Ca ps):Ca (jE ps p):=by
 unfold jE;split
 .exact b
 rename_i j
 have d:(ps.drop (aav ps p))=ps.dropWhile λx=>decide (x.Lt p):=adU ps;have k:(ps.take (aav ps p))=ps.takeWhile λx=>decide (x.Lt p):=adT ps;have c:=b;rw[Ca,<-List.takeWhile_append_dropWhile (p:=λx=>decide (x.Lt p)) (l:=ps)] at c;obtain⟨e,f,g⟩:=gm.1 c;have h:=ad7 (p:=p) b (by rw[<-d,List.head?_drop];exact j);have i:∀x∈ps.takeWhile λx=>decide (x.Lt p),x.Lt p:=λx hx=>Y9 (ahN (p:=λx:Y=>decide (x.Lt p)) hx);rw[d,k];refine gm.2 ⟨gm.2 ⟨e,List.pairwise_singleton _ _,λx hx y a=>?_⟩,f,λx hx y a=>?_⟩
 .rw[cr.1 a];exact i x hx
 rcases bz.1 hx with hx|hx
 .exact g x hx y a
 rw[cr.1 hx];exact h y a
def Qu(ts:List T3):Ca (bM ts):=by
 have:∀(ts:List T3)(ps:List Y),Ca ps->Ca (ts.foldl (λps t=>jE (jE (jE ps t.a) t.b) t.c) ps):=by
  intro ts
  induction ts with
  |nil=>exact λps h=>h
  |cons t ts ih=>exact λps h=>ih _ (yP (yP (yP h)))
 exact this ts [] List.Pairwise.nil
/-! ### Lists turned,mapped,chosen from -/
/-! ### Closed sets in place of rings -/
/-! ### A path in a corner's place -/
section
variable{u c1 c2:Y}{A P vi N':Y->Y->Prop}
end
section
variable{us:List T3}{u v c1 c2:Y}
/-! ### The corners behind each other,afterwards -/
/-! ### Edges -/
/-! ### No edge twice -/
end
section
variable{us:List T3}{u v c1 c2:Y}
/-! ### Round each corner -/
end
/-! ### From the conditions -/
/-! ### Edges,each once -/
/-! ### Triangles -/
section
variable{us:List T3}{u v c1 c2:Y}
def Tk(ts:List T3):(bM ts).Nodup:=by
 have h:=Qu ts;unfold Ca at h;refine List.Pairwise.imp (S:=λa b:Y=>a≠b) (λ{a b} k e=>?_) h;rw[e] at k;exact Y.lt_irrefl b k
end
/-! ### All along -/
/-! ### The ends of fans -/
/-! ### Accepted -/
def afw{l:List T3}  : t∈bS l↔∃s∈l,j s=t:=by
 rw[(yI l).mem_iff,du]
/-! ### The moves in order -/
/-! ### Boxes -/
/-! ### What clear says -/
def Hw(p:Y)(o:List Y)(q:Y):List Y:=if q≠p/\q∉o then o++[q] else o
def Hx(p:Y)(o:List Y)(t:T3):List Y:=if t.has p then Hw p (Hw p (Hw p o t.a) t.b) t.c else o
def mL(l:List T3)(p:Y):List Y:=l.foldl (Hx p) []
def Qv{p:Y}{o:List Y}:x∈Hw p o q↔x∈o\/(x=q/\x≠p):=by
 unfold Hw;split
 . rename_i h
   rw[bz,cr];exact or_congr Iff.rfl ⟨λe=>⟨e,e▸h.1⟩,λe=>e.1⟩
 rename_i h
 refine⟨.inl,λk=>k.elim id λ⟨e,b⟩=>?_⟩;exact Decidable.byContradiction λa=>h ⟨e▸b,e▸a⟩
def Fq{p:Y}{o:List Y}(h:o.Nodup):(Hw p o q).Nodup:=by
 unfold Hw;split
 .rename_i k;exact acD.2 ⟨h,k.2⟩
 exact h
theorem aiC{p:Y}{o:List Y}:x∈Hx p o t↔x∈o\/(t.has p=N/\t.has x=N/\x≠p):=by
 unfold Hx;split
 . rename_i h
   rw[Qv,Qv,Qv,rJ (p:=x)];simp only[h,X6]
   grind
 rename_i h
 exact⟨.inl,λk=>k.elim id λe=>Y0 e.1 h⟩
theorem ad8{l:List T3}{p:Y}:x∈mL l p↔nbB l p x=N:=by
 have key:∀(l:List T3)(o:List Y),x∈l.foldl (Hx p) o↔x∈o\/(x≠p/\Ak l p x=N):=by
  intro l
  induction l with
  |nil=>intro o;simp[Ak]
  |cons t l ih=>
   intro o;rw[List.foldl_cons,ih,aiC];have e:Ak (t::l) p x=((t.has p&&t.has x)||Ak l p x):=rfl;rw[e,gz,ck]
   grind
 unfold mL;rw[key,ah1];simp
def afx(l:List T3)(p:Y):(mL l p).Nodup:=by
 have key:∀(l:List T3)(o:List Y),o.Nodup->(l.foldl (Hx p) o).Nodup:=by
  intro l
  induction l with
  |nil=>exact λo h=>h
  |cons t l ih=>
   intro o h;refine ih _ ?_;unfold Hx;split
   .exact Fq (Fq (Fq h))
   exact h
 exact key l [] List.nodup_nil
/-! ### The corners of a triangle,in order -/
/-! ### The same conditions -/
/-! ### The example: the octahedron -/
end Go.Lith
namespace Go.Proofs.YtbbokjbcdkgfgaaGreatDoor
open Go.Proofs.Tryz
open Go.RowKit Go.Lith
set_option maxRecDepth 100000
section
attribute [local irreducible] be c_ fS cE cP Code.wp
attribute [local congr] fE fF eN fD
variable{s t:T3}
def alD(h:¬¬(s.a.x=t.a.x/\s.a.y=t.a.y/\s.a.z=t.a.z/\s.b.x=t.b.x/\s.b.y=t.b.y/\s.b.z=t.b.z/\s.c.x=t.c.x/\s.c.y=t.c.y/\s.c.z=t.c.z)):s=t:=by
 obtain⟨d,e,f,g,i,j,k,l,m⟩:=Classical.not_not.1 h;exact Yk (Y.eq d e f) (Y.eq g i j) (Y.eq k l m)
def alE(h:¬(s.a.x=t.a.x/\s.a.y=t.a.y/\s.a.z=t.a.z/\s.b.x=t.b.x/\s.b.y=t.b.y/\s.b.z=t.b.z/\s.c.x=t.c.x/\s.c.y=t.c.y/\s.c.z=t.c.z)):s≠t:=λk=>h (by rw[k];simp only[and_self])
def aiD{α:Type}{xs ys:List α}{k:Nat}(h:xs.take k=ys.take k)(a:xs.length<=k)(b:ys.length<=k):xs=ys:=by rwa [ap a,ap b] at h
def alF{xs ys:List T3}{b M cap B:Nat}{A d:Option Addr}(w:an)(e:cI w A b xs)(f:cI w d M ys)(I:b<=100000000):cX X9 95 [.slice A b cap,.slice d M B] w (λv _=>v=.bool (decide (xs=ys))):=by
 refine⟨bP func95 (by kernel_rfl),?_⟩;have m:=Mem.refl w;have Q:=e.len;have S:=f.len
 go_enter func95,ntmps95
 apply iD 13 [0,0] m;simp only[↓Z,gN];refine aZ O ?_ ?_<;>intro t
 .apply F 5 [] m;simp only[↓Z];refine aS O O ?_;try simp only[zD,zE]
  exact⟨_,rfl,m.ext,by rw[Y6 (λh=>t (by subst h;omega))]⟩
 apply F 7 [0] m;simp only[↓Z];refine bT [5] [4,11,12,13,14,15,16,17,18,19,20,21,22,23,24,25] (λn vs p=>∃(k:Nat),vs=[U (k:Int)]/\Mem w p []/\(xs.take k=ys.take k)/\(k<=b)/\(n=b-k)) ?_ ?_
 .exact⟨_,0,O,m,(by simp),bm _,O⟩
 intro n vs L o u E s
 obtain⟨k,rfl,m,g,J,K⟩:=o;simp only[zu,zF,zG];apply F 8 [0,0] m;simp only[↓Z,gN];refine aZ O ?_ ?_<;>intro P
 .obtain⟨x,j,_,a,q,C⟩:=e.get (i:=k) (by omega);subst q;obtain⟨y,l,_,G,r,D⟩:=f.get (i:=k) (by omega);subst r;apply F 4 [0] m;simp only[↓Z];refine mq m aB (by kernel_rfl) (cW 9 [0,1,0,1] ?_);simp only[↓Z,eY,ab,ae];refine⟨_,λu m=>((C.ext m.ext).lies eD bK),_,λu m=>((D.ext m.ext).lies eD bK),_,aph,by omega,?_⟩;refine bD ?_;intro u m;refine gc (aZ O (λc=>?_) (λc=>?_))
  .apply F 5 [] m;simp only[↓Z];refine aS O O ?_;try simp only[zD,zE]
   exact⟨_,rfl,m.ext,by rw[Y6 (λh=>alE c (by subst h;exact Option.some.inj (j.symm.trans l)))]⟩
  have z:x=y:=alD c;subst z;apply F 7 [0] m;simp only[↓Z];apply R;omega;exact s (b-(k+1)) _ _ (by omega) (by kernel_rfl) ⟨k+1,O,m,(by rw[cZ j,cZ l,g]),by omega,O⟩
 apply F 6 [] m;simp only[↓Z];refine aS O O ?_;try simp only[zD,zE]
 exact⟨_,O,m.ext,by rw[Y5 (aiD g (by omega) (by omega))]⟩
end
section
attribute [local irreducible] be c_ fS cE cP Code.wp
variable{k:Nat}
def aiE(h:k<8):IntKind.i64.wrap (el IntKind.i64.bits (k:Int) &&& el IntKind.i64.bits 1).toNat=((k%2:Nat):Int):=by
 rcases k with _|_|_|_|_|_|_|_|k<;>first|rfl|omega
def apl  : Int.fdiv (k:Int) (2^min (ji 1) IntKind.i64.bits)=((k / 2:Nat):Int):=by
 rw[show (2:Int)^min (ji 1) IntKind.i64.bits=2 from rfl,gl _ (by decide)];rfl
def aiF  : Int.fdiv (k:Int) (2^min (ji 2) IntKind.i64.bits)=((k / 4:Nat):Int):=by
 rw[show (2:Int)^min (ji 2) IntKind.i64.bits=4 from rfl,gl _ (by decide)];rfl
end
end Go.Proofs.YtbbokjbcdkgfgaaGreatDoor
namespace Go.Lith
open Go.RowKit
def Mm(e:Nat):List Nat:=
 let v:=e%8
 let p:=[2*(v%2),v / 2%2*2,v / 4*2]
 p.set (e / 8) ((p.getD (e / 8) 0)+1)
def alG(v a:Nat):Nat:=(if v / 2^a%2=1 then v-2^a else v)+8*a
end Go.Lith
namespace Go.Proofs.YtbbokjbcdkgfgaaGreatDoor
open Go.Proofs.Tryz
open Go.RowKit Go.Lith
set_option maxRecDepth 100000
section
attribute [local irreducible] be c_ fS cE cP Code.wp
attribute [local congr] fE fF eN fD
variable{a x e g i vi cap g3 n ci:Nat}{w:an}{K:It}
def Qw:IntKind.i64.wrap (1*2^min (ji 2) IntKind.i64.bits)=4:=by decide
section
variable{P:B}{l:List am}{x y:cw}{T T' ty:ba}{k:IntKind}{m n r:Int}
def aiG(c:ev l x=.int k m)(d:ev l y=.int k n)(b:k.wrap ((el k.bits m &&& ~~~ el k.bits n).toNat:Int)=r):gX P l (.binOp .andNot T x y T') ty (.int k r):=λw o a _=>by
 subst b;simp[execOp,a,dM,c,d,eqGuard,binOp,Op.intBits]
end
def am5(h:a<3):IntKind.i64.wrap (1*2^min (ji (a:Int)) IntKind.i64.bits)=((2^a:Nat):Int):=by
 rcases a with _|_|_|a<;>first|rfl|omega
def evN(v a:Nat):Nat:=if v / 2^a%2=1 then v-2^a else v
def aiH(v a:Nat):evN v a<=v:=by unfold evN;split;exact pc ..;exact bg _
def arh{v:Nat}(b:v<8)(h:a<3):IntKind.i64.wrap ((el IntKind.i64.bits (v:Int) &&& ~~~ el IntKind.i64.bits ((2^a:Nat):Int)).toNat:Int)=((evN v a:Nat):Int):=by
 rcases a with _|_|_|a<;>rcases v with _|_|_|_|_|_|_|_|v<;>first|rfl|omega
def ari(v a:Nat):((evN v a:Nat):Int)+8*(a:Int)=((alG v a:Nat):Int):=by rw[show alG v a=evN v a+8*a from rfl];omega
def xB{y z:Nat}(a:x<=100)(b:y<=100)(c:z<=100):dO X9 45 [U 2,U (x:Int),U (y:Int),U (z:Int)] (U (((z*5+y)*5+x:Nat):Int)):=by
 intro w;refine⟨bP func45 (by kernel_rfl),?_⟩;have m:=Mem.refl w
 go_enter func45,ntmps45
 apply iD 7 [0] m;simp only[↓Z];refine aA (mW O O (by omega) Qw) ?_;apply aL 17 [] m;simp only[↓Z];apply R;omega;refine aS O O ?_;try simp only[zD,zE]
 exact⟨_,O,m.ext,by simp⟩
def Cg{v:Nat}(c:v<8)(b:a<3):dO X9 137 [U (v:Int),U (a:Int)] (U ((alG v a:Nat):Int)):=by
 intro w;refine⟨bP func137 (by kernel_rfl),?_⟩;have m:=Mem.refl w;have d:=aiH v a
 go_enter func137,ntmps137
 apply iD 8 [0] m;simp only[↓Z];refine aA (mW O O (by omega) (am5 b)) ?_;simp only[J];refine aA (aiG O O (arh c b)) ?_;simp only[J];apply aL 6 [] m;simp only[↓Z];apply R;omega;refine aS O O ?_;try simp only[zD,zE]
 exact⟨_,O,m.ext,by rw[<-ari]⟩
def apm{k:Nat}(h:k<8):IntKind.i64.wrap (el IntKind.i64.bits (k:Int) &&& el IntKind.i64.bits 2).toNat=((k / 2%2*2:Nat):Int):=by
 rcases k with _|_|_|_|_|_|_|_|k<;>first|rfl|omega
def plV(e:Nat):am:=.agg #[U (((Mm e).getD 0 0:Nat):Int),U (((Mm e).getD 1 0:Nat):Int),U (((Mm e).getD 2 0:Nat):Int)]
def arj(h:e<24):(Mm e).getD 0 0<=3/\(Mm e).getD 1 0<=3/\(Mm e).getD 2 0<=3:=by
 have:∀e,e<24->(Mm e).getD 0 0<=3/\(Mm e).getD 1 0<=3/\(Mm e).getD 2 0<=3:=by decide
 exact this e h
def ark(h:e<24):0<=([2*((e%8%2:Nat):Int),((e%8 / 2%2*2:Nat):Int),((e%8 / 4:Nat):Int)*2]:List Int).getD (e / 8) 0/\([2*((e%8%2:Nat):Int),((e%8 / 2%2*2:Nat):Int),((e%8 / 4:Nat):Int)*2]:List Int).getD (e / 8) 0<=3:=by
 have:∀e:Nat,e<24->0<=([2*((e%8%2:Nat):Int),((e%8 / 2%2*2:Nat):Int),((e%8 / 4:Nat):Int)*2]:List Int).getD (e / 8) 0/\([2*((e%8%2:Nat):Int),((e%8 / 2%2*2:Nat):Int),((e%8 / 4:Nat):Int)*2]:List Int).getD (e / 8) 0<=3:=by decide
 exact this e h
def alH(h:e<24):over [ky .i64 (2*((e%8%2:Nat):Int)),U ((e%8 / 2%2*2:Nat):Int),U (((e%8 / 4:Nat):Int)*2)] (e / 8) [ky .i64 (([2*((e%8%2:Nat):Int),((e%8 / 2%2*2:Nat):Int),((e%8 / 4:Nat):Int)*2]:List Int).getD (e / 8) 0+1)]=[U (((Mm e).getD 0 0:Nat):Int),U (((Mm e).getD 1 0:Nat):Int),U (((Mm e).getD 2 0:Nat):Int)]:=by
 rcases e with _|_|_|_|_|_|_|_|_|_|_|_|_|_|_|_|_|_|_|_|_|_|_|_|e<;>first|rfl|omega
def arl{a c d:Int}{T:ba}(b:fQ w g [U a,U c,U d] T)(e:i<3):eZ X9 w 3 ⟨g,i,X8⟩ (U (([a,c,d]:List Int).getD i 0)):=by
 rcases i with _|_|_|i
 .exact b.lies1 bW O
 .exact b.lies1 bW O
 .exact b.lies1 bW O
 omega
def afy(a:e<24):dO X9 139 [U (e:Int)] (plV e):=by
 intro w;refine⟨bP func139 (by kernel_rfl),?_⟩;have m:=Mem.refl w;have f:=ark a
 go_enter func139,ntmps139
 apply gJ 7 [0] m;simp only[↓Z,sQ];intro c u m;refine aA (cS O O (by omega) (amO (k:=e))) ?_;apply aL 5 [0] m;simp only[↓Z];refine aA (mD O O (aiE (k:=e%8) (by omega))) ?_;apply aL 2 [0] m;simp only[↓Z];apply R;omega;refine aA (mD O O (apm (k:=e%8) (by omega))) ?_;apply aL 1 [0] m;simp only[↓Z];refine aA (lH O O (by omega) (aiF (k:=e%8))) ?_;apply kZ 8 [0,0] m;simp only[↓Z,uF,sQ,rD,aa];intro d;apply R;omega;intro u m;refine aA (gL O O (by omega) (show IntKind.i64.wrap ((e:Int).tdiv 8)=((e / 8:Nat):Int) from (show IntKind.i64.wrap ((e / 8:Nat):Int)=_ from bN (by omega) (by omega)))) ?_;apply aL 4 [0,2,0] m;simp only[↓Z,gW,ab,ae,bi];refine⟨_,λu m=>(arl (m.b 0 O) (by omega)),by omega,?_⟩;refine cH m 0 O O O bC (by simp only[bh,dv];omega) ⟨rfl,rfl⟩ ?_;intro u m;simp only[J] at m;rw[alH a] at m;apply kZ 7 [1,1] m;simp only[↓Z,rD,aa];intro u m;exact aS O ⟨_,O,((m.b 1 O).full rH jC)⟩ ⟨_,O,m.ext,O⟩
def Sm(p:Y):Prop:=(0<=p.x/\p.x<=3000000)/\(0<=p.y/\p.y<=3000000)/\0<=p.z/\p.z<=3000000
def SmT(t:T3):Prop:=Sm t.a/\Sm t.b/\Sm t.c
theorem am7{ts:List T3}(h:∀t∈ts,SmT t):∀t∈ts,IT t:=λt a=>by
 obtain⟨⟨b,c,a3⟩,⟨d,e,f⟩,g,i,j⟩:=h t a;refine⟨⟨?_,?_,?_⟩,⟨?_,?_,?_⟩,⟨?_,?_,?_⟩⟩<;>(unfold gF;omega)
def Yu(a:e<24)(w:an):cX X9 139 [U (e:Int)] w (λv _=>∃x y z:Int,v=.agg #[U x,U y,U z]/\(0<=x/\x<=3)/\(0<=y/\y<=3)/\0<=z/\z<=3):=
 (afy a w).mono λv w' _ h=>by
  have b:=arj a;exact⟨_,_,_,h,⟨by omega,by omega⟩,⟨by omega,by omega⟩,by omega,by omega⟩
def afz{cx cy cz:Int}(w:an)(i:0<=cx/\cx<=3)(j:0<=cy/\cy<=3)(k:0<=cz/\cz<=3)(a:e<24):cX X9 91 [.agg #[U cx,U cy,U cz],U 524288,U (e:Int)] w (λv _=>∃p,v=pt p/\Sm p):=by
 refine⟨bP func91 (by kernel_rfl),?_⟩;have m:=Mem.refl w
 go_enter func91,ntmps91
 apply gJ 8 [0] m;simp only[↓Z,gC];intro g h u m;refine bY m O O (Yu a _) ?_;rintro v u m ⟨c,d,f,rfl,l,n,o⟩;apply kZ 12 [0,3,1,0] m;simp only[↓Z,sQ,rD,gW,dN,aa,ac,C];intro g3;apply R;omega;intro u m;refine aA (gL O O (by omega) (show IntKind.i64.wrap ((524288:Int).tdiv 2)=262144 from O)) ?_;apply aL 9 [3,1,0] m;simp only[↓Z,gW,dN,ac,C,aa];apply R;omega;refine aA (gL O O (by omega) (show IntKind.i64.wrap ((524288:Int).tdiv 2)=262144 from O)) ?_;apply aL 9 [3,1,0] m;simp only[↓Z,gW,dN,ac,C,aa];apply R;omega;refine aA (gL O O (by omega) (show IntKind.i64.wrap ((524288:Int).tdiv 2)=262144 from O)) ?_;apply kZ 6 [1] m;simp only[↓Z,adZ,aW,aa];apply R;omega;intro u m;exact aS O ⟨_,O,((m.b 1 O).full aM aD)⟩ ⟨_,O,m.ext,⟨cx*524288+c*262144,cy*524288+d*262144,cz*524288+f*262144⟩,O,by simp only[Sm];omega⟩
def acQ{x:Int}(a:0<=x)(h:x<=vi*3000000)(d:0<vi):∃q,IntKind.i64.wrap (x.tdiv (vi:Int))=q/\0<=q/\q<=3000000:=by
 have b:x / (vi:Int)<=3000000:=Int.ediv_le_of_le_mul (by omega) (by rw[Int.mul_comm];exact h);have c:0<=x / (vi:Int):=Int.ediv_nonneg a (by omega);exact⟨x / vi,by rw[Int.tdiv_eq_ediv_of_nonneg a];exact bN (by omega) (by omega),c,b⟩
def apn  : ((i:Int)+1).tmod (vi:Int)=(((i+1)%vi:Nat):Int):=rfl
def ad9{ps:List Y}{A:Option Addr}(w:an)(d:kO cM 3 w A vi ps)(j:0<vi)(hN:vi<=24)(e:∀p∈ps,Sm p):cX X9 92 [.slice A vi cap] w (λv w'=>∃ts:List T3,(ts.length<=vi/\∀t∈ts,SmT t)/\SL 43 9 (ts.flatMap aP) ts.length w v w'):=by
 refine⟨bP func92 (by kernel_rfl),?_⟩;have m:=Mem.refl w;have a6:=d.len
 go_enter func92,ntmps92
 apply iD 11 [0,0] m;simp only[↓Z,gZ];refine aZ O ?_ ?_<;>intro a3
 .obtain⟨M,ah,a,f,aO⟩:=d.get (i:=0) (by omega);subst f;obtain⟨P,ai,a1,e1,aR⟩:=d.get (i:=1) (by omega);cases e1;obtain⟨Q,aj,a2,l,aU⟩:=d.get (i:=2) (by omega);cases l;apply F 1 [0] m;simp only[↓Z];refine mh m [] [(0,N),(1,N),(3,N),(4,N),(6,N),(7,N),(2,N),(5,N),(8,N),(9,N),(10,X7),(11,N)] aB (by kernel_rfl) (bR (λ_ _ _ _ _ h=>h)) (ol:=?_) ?K ?_
  case K=>simp only[zw,zQ,zR];try rfl
  intro u m;refine aV aF ?_;simp only[J];refine aV (aN eL aD O O (by decide) (by omega) O) (aV aF ?_);simp only[J];refine aV (aN eL aD O O (by decide) (by omega) O) (aV aF ?_);simp only[J];refine aV (aN eL aD O O (by decide) (by omega) O) (tL 4 [0,0,0,0,0,0] ?_);simp only[↓Z,Ah,aa];refine⟨_,λu m=>(show eZ _ _ _ _ (pt M) from (aO.ext m.ext).lies aM aD),_,λu m=>(show eZ _ _ _ _ (pt P) from (aR.ext m.ext).lies aM aD),_,λu m=>(show eZ _ _ _ _ (pt Q) from (aU.ext m.ext).lies aM aD),?_⟩;refine bX (jL O ?_);intro u s r C G;replace m:=m.newB r C G;simp only[J];replace m:=m.own 0 O (n:=1) (c:=9) O (eU O);simp only[zG] at m;refine S ⟨m.sel [X7],?_⟩;refine aV aI (aT ?_);apply aQ 1 [] m;simp only[↓Z];exact aS O O (⟨_,O,m.ext,[⟨M,P,Q⟩],⟨by simp;omega,λt E=>by
   cases cr.1 E;exact⟨e _ (ak ah),e _ (ak ai),e _ (ak aj)⟩⟩,_,_,_,O,O,(m.o 0 O)⟩)
 apply qW 13 [0,0] m;simp only[↓Z,adZ,gC,aW,aa];intro s u m;refine bT [4] [22,23,24,25,26,27,28,29,30,31,32,33,34,35,36,37,38,39,40,41,42,43,44,45,46,47,48,49,50,51,52,53,54] (λn vs I=>∃(i:Nat)(x y z:Int),vs=[U (i:Int)]/\Mem w I [bI s [U x,U y,U z] 41]/\(0<=x)/\(0<=y)/\(0<=z)/\(x<=i*3000000)/\(y<=i*3000000)/\(z<=i*3000000)/\(i<=vi)/\(n=vi-i)) ?_ ?_
 .exact⟨_,0,0,0,0,O,m,by omega,by omega,by omega,by omega,by omega,by omega,by omega,O⟩
 intro n vs wr B u K1 ad
 obtain⟨i,x,y,z,rfl,m,aq,ar,av,a9,bc,bf,hi,hn⟩:=B;simp only[zu,zF,zG];apply F 8 [0,0] m;simp only[↓Z,gZ];refine aZ O ?_ ?_<;>intro a4
 .obtain⟨p,D,a,f,L⟩:=d.get (i:=i) (by omega);subst f;obtain⟨⟨a7,a8⟩,⟨ba,bb⟩,bd,be⟩:=e p (ak D);apply F 4 [0] m;simp only[↓Z];refine cC m 9 aB (by kernel_rfl) ?_;simp only[zy];refine cW 9 [1,0,2] ?_;simp only[↓Z,iR,dN,gK,aa,ab,ae];refine⟨_,λu m=>(lies1 ((L.ext m.ext) 0 _ O) bW),by omega,?_⟩;refine bD ?_;intro u m;refine cH m 0 O O O bC (eU O) ⟨O,O⟩ ?_;intro u m;simp only[J,zy,zx,over,aa] at m;refine S ?_;apply aQ 1 [0] m;simp only[↓Z];refine cC m 9 aB (by kernel_rfl) ?_;simp only[zy];refine cW 9 [1,0,2] ?_;simp only[↓Z,iJ,dN,gK,aa,ab,ae];refine⟨_,λu m=>(lies1 ((L.ext m.ext) 1 _ O) bW),by omega,?_⟩;refine bD ?_;intro u m;refine cH (off:=1) m 0 O O O bC (eU O) ⟨O,O⟩ ?_;intro u m;simp only[J,zy,zx,over,aa] at m;refine S (gc ?_);refine cC m 9 aB (by kernel_rfl) ?_;simp only[zy];refine cW 9 [1,0,2] ?_;simp only[↓Z,iS,dN,gK,aa,ab,ae];refine⟨_,λu m=>(lies1 ((L.ext m.ext) 2 _ O) bW),by omega,?_⟩;refine bD ?_;intro u m;refine cH (off:=2) m 0 O O O bC (eU O) ⟨O,O⟩ ?_;intro u m;simp only[J,zy,zx,over,aa] at m;refine S ?_;apply aQ 6 [0] m;simp only[↓Z];apply R;omega;exact ad (vi-(i+1)) _ _ (by omega) (by kernel_rfl) ⟨i+1,_,_,_,O,m,by omega,by omega,by omega,by omega,by omega,by omega,by omega,O⟩
 obtain rfl:vi=i:=by omega
 obtain⟨T,al,aw,ax⟩:=acQ aq (by omega) j;obtain⟨V,am,ay,az⟩:=acQ ar (by omega) j;obtain⟨W,ao,aE,aJ⟩:=acQ av (by omega) j;apply F 2 [0] m;simp only[↓Z];refine cC m 16 aB (by kernel_rfl) ?_;simp only[zy];refine cW 4 [1] ?_;simp only[↓Z,iR,dN,gZ,aa];refine aK (gL O O (by omega) al) (cW 4 [1] ?_);simp only[↓Z,iJ,dN,gZ,aa];refine aK (gL O O (by omega) am) (cW 4 [1] ?_);simp only[↓Z,iS,dN,gZ,aa];refine aK (gL O O (by omega) ao) (aK (nV O O O) (bD ?_));intro u m;simp only[J];refine aX m 0 O O O aD (eU O) O ?_;intro u m;simp only[zy,zx,over,zF,zG,aa] at m;refine S ?_;apply aQ 2 [0] m;simp only[↓Z];refine aA aI ?_;replace m:=m.nilO 43 9;apply aL 7 [0] m;simp only[↓Z];refine bT [5,6] [71,72,73,74,75,76,77,78,79,80,81,82,83,84,85,86,87,88,89,90,91,92,93] (λn vs I=>∃(i:Nat)(ts:List T3)(g:Option Addr)(k:Nat),vs=[.slice g i k,U (i:Int)]/\Mem w I [oI 43 9 g i k (ts.flatMap aP),bI s [U T,U V,U W] 41]/\(ts.length=i)/\(∀t∈ts,SmT t)/\(i<=vi)/\(n=vi-i)) ?_ ?_
 .exact⟨_,0,[],X8,0,O,m,O,by simp,by omega,O⟩
 intro n vs wr B u K2 af
 obtain⟨i,ts,g,k,rfl,m,ap,X,hi,hn⟩:=B;simp only[zu,zF,zG];apply F 8 [0,0] m;simp only[↓Z,gZ];refine aZ O ?_ ?_<;>intro a5
 .obtain⟨p,D,a,f,aY⟩:=d.get (i:=i) (by omega);subst f;have ag:=kd (i+1) j;obtain⟨q,hq,a2,l,a0⟩:=d.get (i:=(i+1)%vi) ag;cases l;apply F 3 [0] m;simp only[↓Z];refine mh m [X7,N] [(0,N),(1,N),(2,N),(3,N),(5,N),(6,N),(7,N),(8,N),(9,N),(10,N),(11,N),(4,N),(12,N),(13,N),(14,N),(15,X7),(16,X7),(17,N)] aB (by kernel_rfl) (bR (λ_ _ _ _ _ h=>h)) (ol:=?_) ?K ?_
  case K=>simp only[zw,zQ,zR];try rfl
  intro u m;refine tL 9 [] ?_;simp only[↓Z,gK,gZ,ab,ae];apply R;omega;refine aV (cS O O (by omega) apn) (tL 5 [0,0,0,0,1] ?_);simp only[↓Z,gK,aW,Ah,ab,ae,aa];refine⟨_,λu m=>(show eZ _ _ _ _ (pt p) from (aY.ext m.ext).lies aM aD),_,λu m=>(show eZ _ _ _ _ (pt q) from (a0.ext m.ext).lies aM aD),by omega,?_⟩;refine bX (jL O ?_);intro u g2 r C G;replace m:=m.newB r C G;refine S ⟨m.sel [X7,X7,N],?_⟩;refine bX ?_;simp only[J];refine bJ m 1 O O gB mS O (by decide) O O O (m.b 0 O).rowsO (fU O) (by omega) (by omega) ?_;intro g k u m;simp only[zF,zG] at m;rw[show ts.flatMap aP++_=(ts++[(⟨p,q,⟨T,V,W⟩⟩:T3)]).flatMap aP by rw[au];rfl] at m;refine S ⟨m.sel [X7,X7,N],?_⟩;refine aV aI (aT ?_);apply aQ 6 [0] m;simp only[↓Z];apply R;omega;exact af (vi-(i+1)) _ _ (by omega) (by kernel_rfl) ⟨i+1,_,_,_,O,(m.sel [X7,N,N]),by simp;omega,λt E=>(bz.1 E).elim (X t) λh=>by
   cases cr.1 h;exact⟨e _ (ak D),e _ (ak hq),⟨aw,ax⟩,⟨ay,az⟩,aE,aJ⟩,by omega,O⟩
 apply F 7 [] m;simp only[↓Z];exact aS O O ⟨_,O,m.ext,ts,⟨by omega,X⟩,_,_,_,ap.symm,O,(m.o 0 O)⟩
def r_v{v:Int}(h : -1<=v/\v<8):∃a b c:Int,IntKind.i64.wrap ((el IntKind.i64.bits v &&& el IntKind.i64.bits 1).toNat:Int)=a/\IntKind.i64.wrap ((el IntKind.i64.bits v &&& el IntKind.i64.bits 2).toNat:Int)=b/\Int.fdiv v (2^min (ji 2) IntKind.i64.bits)=c/\(0<=a/\a<=1)/\(0<=b/\b<=2)/\-1<=c/\c<=1:=by
 have:v = -1\/v=0\/v=1\/v=2\/v=3\/v=4\/v=5\/v=6\/v=7:=by omega
 rcases this with rfl|rfl|rfl|rfl|rfl|rfl|rfl|rfl|rfl<;>exact⟨_,_,_,rfl,rfl,rfl,by decide,by decide,by decide⟩
def Kh{u v:Int}(a : -9<=u/\u<=9)(b : -9<=v/\v<=9) : -81<=u*v/\u*v<=81:=by
 have h:(u*v).natAbs<=9*9:=by rw[ku];exact Nat.mul_le_mul (by omega) (by omega)
 omega
def Dk{cs:List am}{u:am}(h:i<cs.length):over cs i [u]=cs.set i u:=by
 rw[List.set_eq_take_append_cons_drop,Z9 h,over];simp
def Qx{p:Nat}:(⟨g,8,X8⟩:Addr).add ((p:Int).toNat*1)=⟨g,8+p,X8⟩:=by rw[ab,bi];exact cA ..
def lQ(bs:List Bool)(a:List Int):List am:=bs.map fz++a.map (ky .i64)
structure jU(bs:List Bool)(ns:List Int):Prop where
 b:bs.length=8
 n:ns.length=24
 r:∀x∈ns,-1<=x/\x<24
def jU.len{bs a}(h:jU bs a):(lQ bs a).length=32:=by simp[lQ,h.b,h.n]
def jU.put{bs a}(h:jU bs a){p:Nat}{q:Int}(c : -1<=q/\q<24):jU bs (a.set p q):=⟨h.b,by rw[fc];exact h.n,λx d=>(List.mem_or_eq_of_mem_set d).elim (h.r x) λe=>e▸c⟩
def jU.over{bs a}(h:jU bs a){p:Nat}{q:Int}(c:p<24):over (lQ bs a) (8+p) [U q]=lQ bs (a.set p q):=by
 rw[Dk (by rw[h.len];omega),lQ,List.set_append_right _ _ (by rw[dy,h.b];omega),dy,h.b,ma,lQ,mo]
def jU.in{bs c}(h:jU bs c){v:Nat}(a:v<8):(lQ bs c)[v]? = H (.bool (bs.getD v X7)):=by
 rw[lQ,List.getElem?_append_left (by rw[dy,h.b];exact a),dc,ah (by rw[h.b];exact a),List.getD_eq_getElem?_getD,ah (by rw[h.b];exact a)];rfl
def jU.nx{bs a}(h:jU bs a){p:Nat}(c:p<24):∃q,(lQ bs a)[8+p]? = H (U q)/\-1<=q/\q<24:=by
 refine⟨a[p]'(by rw[h.n];exact c),?_,h.r _ (List.getElem_mem _)⟩;rw[lQ,List.getElem?_append_right (by rw[dy,h.b];omega),dy,h.b,ma,dc,ah (by rw[h.n];exact c)];rfl
def afA{p q:Nat}{v a:Int}{b:Bool}(w:an)(D:p<24)(E:q<24)(F : -1<=v/\v<8)(B:a=0\/a=1\/a=2):cX X9 187 [U (p:Int),U (q:Int),U v,U a,.bool b] w (λv _=>∃c,v=.bool c):=by
 refine⟨bP func187 (by kernel_rfl),?_⟩;have m:=Mem.refl w;obtain⟨l,o,s,y,z,A,J,K,L⟩:=r_v F
 go_enter func187,ntmps187
 apply iD 7 [0] m;simp only[↓Z];refine bY m O O (Yu D _) ?_;rintro v u m ⟨e,f,g,rfl,P,Q,S⟩;apply kZ 6 [0,0] m;simp only[↓Z,sQ,rD,aa];intro G u m;refine bY m O O (Yu E _) ?_;rintro v u m ⟨i,j,k,rfl,T,V,W⟩;apply kZ 6 [0,0] m;simp only[↓Z,sQ,rD,aa];intro I u m;refine aA (mD O O y) ?_;apply aL 2 [0] m;simp only[↓Z];apply R;omega;refine aA (mD O O z) ?_;apply aL 1 [0] m;simp only[↓Z];refine aA (lH O O (by omega) A) ?_;apply kZ 6 [0] m;simp only[↓Z,uF,sQ,rD,aa];intro g3;apply R;omega;intro u m;rcases B with rfl|rfl|rfl
 .have t:=Kh (u:=j-f) (v:=s*2-g) (by omega) (by omega);have x:=Kh (u:=k-g) (v:=o-f) (by omega) (by omega);apply aQ 3 [0] m;simp only[↓Z,M];apply R;omega;refine aA (cS (m:=1) (n:=3) (r:=1) O O (by decide) (by decide)) ?_;apply aL 6 [0] m;simp only[↓Z,M];apply R;omega;refine aA (cS (m:=2) (n:=3) (r:=2) O O (by decide) (by decide)) ?_;apply aL 3 [0] m;simp only[↓Z];refine mq m aB (by kernel_rfl) (cW 18 [2,3,1,3,2] ?_);simp only[↓Z,gW,dN,ac,C,aa];apply R;omega;refine cW 14 [3,1,3] ?_;simp only[↓Z,gW,dN,ac,C,aa];apply R;omega;refine bD ?_;intro u m;generalize (j-f)*(s*2-g)-(k-g)*(o-f)=d;apply aQ 1 [] m;simp only[↓Z];rcases (show b=X7\/(b=N/\d<0)\/(b=N/\¬d<0) by cases b<;>simp<;>omega) with rfl|⟨rfl,h⟩|⟨rfl,h⟩
  .apply aQ 17 [0,0,0,0,0,0,0,0,0] m;simp only[↓Z,iq,ik];exact aS O O ⟨_,O,m.ext,_,O⟩
  .apply aQ 17 [0,0,1,0,0,0,0,0,0] m;simp only[↓Z];apply R;omega;exact aS O O ⟨_,O,m.ext,_,O⟩
  apply aQ 17 [0,0,2,0,0,0,0,0,0] m;simp only[↓Z,iq,ik];apply R;omega;exact aS O O ⟨_,O,m.ext,_,O⟩
 .have t:=Kh (u:=k-g) (v:=2*l-e) (by omega) (by omega);have x:=Kh (u:=i-e) (v:=s*2-g) (by omega) (by omega);apply aQ 3 [0] m;simp only[↓Z,M];apply R;omega;refine aA (cS (m:=2) (n:=3) (r:=2) O O (by decide) (by decide)) ?_;apply aL 6 [0] m;simp only[↓Z,M];apply R;omega;refine aA (cS (m:=3) (n:=3) (r:=0) O O (by decide) (by decide)) ?_;apply aL 3 [0] m;simp only[↓Z];refine mq m aB (by kernel_rfl) (cW 18 [2,3,1,3,2] ?_);simp only[↓Z,gW,dN,ac,C,aa];apply R;omega;refine cW 14 [3,1,3] ?_;simp only[↓Z,gW,dN,ac,C,aa];apply R;omega;refine bD ?_;intro u m;generalize (k-g)*(2*l-e)-(i-e)*(s*2-g)=d;apply aQ 1 [] m;simp only[↓Z];rcases (show b=X7\/(b=N/\d<0)\/(b=N/\¬d<0) by cases b<;>simp<;>omega) with rfl|⟨rfl,h⟩|⟨rfl,h⟩
  .apply aQ 17 [0,0,0,0,0,0,0,0,0] m;simp only[↓Z,iq,ik];exact aS O O ⟨_,O,m.ext,_,O⟩
  .apply aQ 17 [0,0,1,0,0,0,0,0,0] m;simp only[↓Z];apply R;omega;exact aS O O ⟨_,O,m.ext,_,O⟩
  apply aQ 17 [0,0,2,0,0,0,0,0,0] m;simp only[↓Z,iq,ik];apply R;omega;exact aS O O ⟨_,O,m.ext,_,O⟩
 have t:=Kh (u:=i-e) (v:=o-f) (by omega) (by omega);have x:=Kh (u:=j-f) (v:=2*l-e) (by omega) (by omega);apply aQ 3 [0] m;simp only[↓Z,M];apply R;omega;refine aA (cS (m:=3) (n:=3) (r:=0) O O (by decide) (by decide)) ?_;apply aL 6 [0] m;simp only[↓Z,M];apply R;omega;refine aA (cS (m:=4) (n:=3) (r:=1) O O (by decide) (by decide)) ?_;apply aL 3 [0] m;simp only[↓Z];refine mq m aB (by kernel_rfl) (cW 18 [2,3,1,3,2] ?_);simp only[↓Z,gW,dN,ac,C,aa];apply R;omega;refine cW 14 [3,1,3] ?_;simp only[↓Z,gW,dN,ac,C,aa];apply R;omega;refine bD ?_;intro u m;generalize (i-e)*(o-f)-(j-f)*(2*l-e)=d;apply aQ 1 [] m;simp only[↓Z];rcases (show b=X7\/(b=N/\d<0)\/(b=N/\¬d<0) by cases b<;>simp<;>omega) with rfl|⟨rfl,h⟩|⟨rfl,h⟩
 .apply aQ 17 [0,0,0,0,0,0,0,0,0] m;simp only[↓Z,iq,ik];exact aS O O ⟨_,O,m.ext,_,O⟩
 .apply aQ 17 [0,0,1,0,0,0,0,0,0] m;simp only[↓Z];apply R;omega;exact aS O O ⟨_,O,m.ext,_,O⟩
 apply aQ 17 [0,0,2,0,0,0,0,0,0] m;simp only[↓Z,iq,ik];apply R;omega;exact aS O O ⟨_,O,m.ext,_,O⟩
def aa7{w0:an}{bs:List Bool}{g:List Int}{p q:Nat}{v a:Int}{b:Bool}(m:Mem w0 w [bI g3 (lQ bs g) 157,K])(d:jU bs g)(e:p<24)(f:q<24)(j : -1<=v/\v<8)(i:a=0\/a=1\/a=2):Qt X9 138 [.pointer (H ⟨g3,0,X8⟩),U (p:Int),U (q:Int),U v,U a,.bool b] w (λ_ w'=>∃h,jU bs h/\Mem w0 w' [bI g3 (lQ bs h) 157,K]):=by
 refine⟨bP func138 (by kernel_rfl),?_⟩
 go_enter func138,ntmps138
 apply iD 7 [0] m;simp only[↓Z];refine bY m O O (afA _ e f j i) ?_;rintro v u m ⟨c,rfl⟩;apply aL 6 [0] m;simp only[↓Z];refine iY O ?_ ?_<;>intro k
 .apply F 6 [0] m;simp only[↓Z,uG,aa];refine aA (aR Fp bC O O (by omega) (by omega) Qx) ?_;simp only[J];refine cH m 0 O O O bC (by rw[d.len];show _+1<=_;omega) ⟨rfl,rfl⟩ ?_;intro u m;simp only[J] at m;rw[d.over e] at m;apply aL 1 [0] m;simp only[↓Z];exact Ny O ⟨_,O,_,d.put (by omega),m⟩
 apply F 6 [0] m;simp only[↓Z,uG,aa];refine aA (aR Fp bC O O (by omega) (by omega) Qx) ?_;simp only[J];refine cH m 0 O O O bC (by rw[d.len];show _+1<=_;omega) ⟨rfl,rfl⟩ ?_;intro u m;simp only[J] at m;rw[d.over f] at m;apply aL 1 [0] m;simp only[↓Z];exact Ny O ⟨_,O,_,d.put (by omega),m⟩
def Ki{os:List Nat}  : os.map oE++[U (x:Int)]=(os++[x]).map oE:=by simp[oE]
def fv{b c d k:Nat}(m:a<3)(i:b=(a+1)%3)(j:c=(a+2)%3)(l:d=0\/d=2^a)(n:k<4):∃e f g h:Nat,IntKind.i64.wrap (((k%2:Nat):Int)*2^min (ji (b:Int)) IntKind.i64.bits)=(e:Int)/\IntKind.i64.wrap (((k / 2:Nat):Int)*2^min (ji (c:Int)) IntKind.i64.bits)=(f:Int)/\IntKind.i64.wrap (1*2^min (ji (b:Int)) IntKind.i64.bits)=(g:Int)/\IntKind.i64.wrap (1*2^min (ji (c:Int)) IntKind.i64.bits)=(h:Int)/\d+e+f<8/\(k%2=0->d+e+f+g<8)/\(k / 2=0->d+e+f+h<8):=by
 refine⟨k%2*2^b,k / 2*2^c,2^b,2^c,?_,?_,?_,?_,?_,?_,?_⟩<;>subst i j<;>rcases a with _|_|_|a<;>rcases k with _|_|_|_|k<;>rcases l with rfl|rfl<;>first|omega|rfl|decide
def Qy{v:Nat}(e:v<8)(d:a<3):alG v a<24:=by
 have b:=aiH v a;have c:=ari v a;omega
def alI{a:List Nat}(h:a.length=n)(b:(n:Int)=2):∃x y,a=[x,y]:=by
 match a,h with
 | [x,y],_=>exact⟨x,y,rfl⟩
 | [],h=>simp at h;omega
 | [_],h=>simp at h;omega
 |_::_::_::l,h=>simp at h;omega
def aa8{w0:an}{bs:List Bool}{p:List Int}{pos:Bool}(m:Mem w0 w [bI g3 (lQ bs p) 157,K])(d:jU bs p)(Y:a<3):Qt X9 90 [.pointer (H ⟨g3,0,X8⟩),U (a:Int),.bool pos] w (λ_ w'=>∃az,jU bs az/\Mem w0 w' [bI g3 (lQ bs az) 157,K]):=by
 refine⟨bP func90 (by kernel_rfl),?_⟩;obtain⟨D,ad⟩:∃D,D=(a+1)%3:=⟨_,rfl⟩
 obtain⟨B,af⟩:∃B,B=(a+2)%3:=⟨_,rfl⟩
 go_enter func90,ntmps90
 apply iD 9 [0] m;simp only[↓Z];refine adS m [6] [16,17] (λvs=>∃(s:Nat),vs=[U (s:Int)]/\(s=0\/s=2^a)) ?_ ?_
 . intro K1 ao
   refine iY O ?_ ?_<;>intro aP
   .apply F 2 [0] m;simp only[↓Z];refine aA (mW O O (by omega) (am5 Y)) ?_;apply aL 2 [0] m;simp only[↓Z];exact ao _ _ (by kernel_rfl) m ⟨_,O,.inr O⟩
   apply F 1 [0] m;simp only[↓Z];exact ao _ _ (by kernel_rfl) m ⟨0,O,.inl O⟩
 intro vs t m l u
 obtain⟨s,rfl,ax⟩:=l;simp only[zu,zF,zG];apply aQ 4 [0] m;simp only[↓Z];apply R;omega;refine aA (cS O O (by omega) (show ((a:Int)+1).tmod 3=(D:Int) from by rw[ad];rfl)) ?_;apply aL 6 [0] m;simp only[↓Z];apply R;omega;refine aA (cS O O (by omega) (show ((a:Int)+2).tmod 3=(B:Int) from by rw[af];rfl)) ?_;apply aL 4 [0] m;simp only[↓Z];refine aA aI ?_;replace m:=m.nilO 3 1;apply aL 11 [0] m;simp only[↓Z];refine bT [9,10,11] [12,24,25,26,27,28,29,30,31,32,33,34,35,36,37,38,39,40,41,42,43,44,45,46,47,48,49,50,51,52,53,54,55,56,57,58,59,60,61,62,63,64,65,66,67,68,69,70,71,72,73,74,75,76,77,78,79,80,81,82,83,84,85,86,87,88,89,90,91,92,93,94,95,96,97,98,99] (λn vs wl=>∃(k c:Nat)(ins:Int)(e:List Nat)(f:Option Addr)(j:Nat),vs=[.slice f c j,U ins,U (k:Int)]/\Mem w0 wl [oI 3 1 f c j (e.map oE),bI g3 (lQ bs p) 157,K]/\(-1<=ins/\ins<8)/\(e.length=c)/\(∀x∈e,x<24)/\(c<=2*k)/\(k<=4)/\(n=4-k)) ?_ ?_
 .exact⟨_,0,0,_,[],X8,0,O,m,by omega,O,by simp,by omega,by omega,O⟩
 intro n vs t l u K2 V
 obtain⟨k,c,ins,e,f,j,rfl,m,A,r,q,ai,hk,hn⟩:=l;simp only[zu,zF,zG];apply F 6 [0,0] m;simp only[↓Z];refine aZ O ?_ ?_<;>intro W
 .have ah:k<4:=by omega
  apply F 4 [] m;simp only[↓Z];obtain⟨M,P,u1,u2,aj,ak,ay,al,g,X,T⟩:=fv Y ad af ax ah;refine gc (mq m aB (by kernel_rfl) (aK aF (aK aF ?_)));simp only[J];refine aK (cS O O (by omega) (show (k:Int).tmod 2=((k%2:Nat):Int) from O)) (aK aF ?_);simp only[J];refine aK (mW O O (by omega) aj) ?_;simp only[J];refine aK (eH O O (bN (by omega) (by omega))) (aK aF ?_);simp only[J];refine aK (gL O O (by omega) ((show IntKind.i64.wrap ((k / 2:Nat):Int)=_ from bN (by omega) (by omega)))) (aK aF ?_);simp only[J];refine aK (mW O O (by omega) ak) ?_;simp only[J];refine aK (eH O O (bN (by omega) (by omega))) (aK aI (bD ?_));intro u m;simp only[J];obtain⟨v,hv⟩:∃v:Nat,v=s+M+P:=⟨_,rfl⟩
  rw[<-hv] at g X T;rw[show ((s:Int)+(M:Int)+(P:Int))=(v:Int) by omega];apply aQ 10 [0,3,0] m;simp only[↓Z,qP,Kd,aa,ab,ae,bi];refine⟨_,λu m=>(lies1 ((m.b 1 O).cell (d.in g)) eW),by omega,?_⟩;refine adS m [10] [45] (λvs=>∃(ins:Int),vs=[U ins]/\(-1<=ins/\ins<8)) ?_ ?_
  . intro K3 ap
    refine iY O ?_ ?_<;>intro aS
    .apply F 4 [0] m;simp only[↓Z];exact ap _ _ (by kernel_rfl) m ⟨_,O,by omega⟩
    apply F 1 [0] m;simp only[↓Z];exact ap _ _ (by kernel_rfl) m ⟨_,O,A⟩
  intro vs t m l u
  obtain⟨ins,rfl,A⟩:=l;simp only[zu,zF,zG];apply aQ 2 [] m;simp only[↓Z];by_cases aO:k%2=0
  .have Q:=X aO;refine gc (mq m aB (by kernel_rfl) (aK aF ?_));simp only[J];refine aK (cS O O (by omega) (show (k:Int).tmod 2=((k%2:Nat):Int) from O)) ?_;simp only[J];refine aK (Er O O (by omega)) (aK aF (bU O (aK aF (bU O (aK aF ?_)))));simp only[J];refine bU O (aK (cN O) ?_);refine cW 6 [0,0,0,0,3,0,0,0] ?_;simp only[↓Z,qP,Kd,aa,ab,ae,bi];refine⟨_,λu m=>(lies1 ((m.b 1 O).cell (d.in g)) eW),by omega,?_⟩;refine bU O (aK (mW O O (by omega) ay) (bU O ?_));simp only[J];refine aK (eH O O (bN (by omega) (by omega))) (bU O (aK (cN O) ?_));refine cW 1 [0] ?_;simp only[↓Z,qP,aa];refine bU O (aK (aR underlying154 dV O O (by omega) (by omega) (mQ (show _=v+u1 by omega))) (bU O ?_));simp only[J];refine ql O (λu m=>(lies1 ((m.b 1 O).cell (d.in Q)) eW)) ?_;simp only[J];refine bU O (aK (mR tZ O O) (aK (dT O) (bD ?_)));intro u m;refine gc ?_;simp only[J];refine qO m 0 [9] [67,68,69,70,71,72] (λvs i=>∃(c:Nat)(e:List Nat)(f:Option Addr)(j:Nat),vs=[.slice f c j]/\i=oI 3 1 f c j (e.map oE)/\(e.length=c)/\(∀x∈e,x<24)/\(c<=2*k+1)) ?_ ?_
   . intro K4 aq
     refine iY O ?_ ?_<;>intro aU
     .apply F 4 [0] m;simp only[↓Z];refine eV m O O (Cg g (show D<3 by omega)) ?_;intro u m;simp only[J];refine cO cF (z:=U 0) (by kernel_rfl) O O O ?_;intro u g6 E G L;replace m:=m.newB E G L;simp only[J];refine bJ m 1 O O cF gM O (by decide) O O O (m.b 0 O).rowsO (fU O) (by omega) (by omega) ?_;intro f j u m;simp only[zF,zG] at m;simp only[zA,zB,zC,zD,zE,Ki] at m;apply aL 2 [0] m;simp only[↓Z];exact aq _ _ _ (by kernel_rfl) (m.sel [X7,N,N,N]) ⟨_,_,_,_,O,O,by simp;omega,λx I=>(bz.1 I).elim (q x) λh=>by cases cr.1 h;exact Qy g (by omega),by omega⟩
     apply F 1 [0] m;simp only[↓Z];exact aq _ _ _ (by kernel_rfl) m ⟨_,_,_,_,O,O,r,q,by omega⟩
   intro vs i t m l u
   obtain⟨c,e,f,j,rfl,rfl,r,q,ai⟩:=l;simp only[zF,zG] at m;simp only[zu,zF,zG];apply aQ 1 [] m;simp only[↓Z];by_cases am:k / 2=0
   .have Q:=T am;refine gc (mq m aB (by kernel_rfl) (aK aF ?_));simp only[J];refine aK (gL O O (by omega) ((show IntKind.i64.wrap ((k / 2:Nat):Int)=_ from bN (by omega) (by omega)))) ?_;simp only[J];refine aK (Er O O (by omega)) (aK aF (bU O (aK aF (bU O (aK aF ?_)))));simp only[J];refine bU O (aK (cN O) ?_);refine cW 6 [0,0,0,0,3,0,0,0] ?_;simp only[↓Z,qP,Kd,aa,ab,ae,bi];refine⟨_,λu m=>(lies1 ((m.b 1 O).cell (d.in g)) eW),by omega,?_⟩;refine bU O (aK (mW O O (by omega) al) (bU O ?_));simp only[J];refine aK (eH O O (bN (by omega) (by omega))) (bU O (aK (cN O) ?_));refine cW 1 [0] ?_;simp only[↓Z,qP,aa];refine bU O (aK (aR underlying154 dV O O (by omega) (by omega) (mQ (show _=v+u2 by omega))) (bU O ?_));simp only[J];refine ql O (λu m=>(lies1 ((m.b 1 O).cell (d.in Q)) eW)) ?_;simp only[J];refine bU O (aK (mR tZ O O) (aK (dT O) (bD ?_)));intro u m;refine gc ?_;simp only[J];refine qO m 0 [9] [94,95,96,97,98,99] (λvs i=>∃(c:Nat)(e:List Nat)(f:Option Addr)(j:Nat),vs=[.slice f c j]/\i=oI 3 1 f c j (e.map oE)/\(e.length=c)/\(∀x∈e,x<24)/\(c<=2*k+2)) ?_ ?_
    . intro K5 ar
      refine iY O ?_ ?_<;>intro aE
      .apply F 4 [0] m;simp only[↓Z];refine eV m O O (Cg g (show B<3 by omega)) ?_;intro u m;simp only[J];refine cO cF (z:=U 0) (by kernel_rfl) O O O ?_;intro u g6 E G L;replace m:=m.newB E G L;simp only[J];refine bJ m 1 O O cF gM O (by decide) O O O (m.b 0 O).rowsO (fU O) (by omega) (by omega) ?_;intro f j u m;simp only[zF,zG] at m;simp only[zA,zB,zC,zD,zE,Ki] at m;apply aL 2 [0] m;simp only[↓Z];exact ar _ _ _ (by kernel_rfl) (m.sel [X7,N,N,N]) ⟨_,_,_,_,O,O,by simp;omega,λx I=>(bz.1 I).elim (q x) λh=>by cases cr.1 h;exact Qy g (by omega),by omega⟩
      apply F 1 [0] m;simp only[↓Z];exact ar _ _ _ (by kernel_rfl) m ⟨_,_,_,_,O,O,r,q,by omega⟩
    intro vs i t m l u
    obtain⟨c,e,f,j,rfl,rfl,r,q,ai⟩:=l;simp only[zF,zG] at m;simp only[zu,zF,zG];apply aQ 6 [0] m;simp only[↓Z];apply R;omega;exact V (4-(k+1)) _ _ (by omega) (by kernel_rfl) ⟨k+1,_,_,_,_,_,O,m,A,r,q,by omega,by omega,O⟩
   refine gc (mq m aB (by kernel_rfl) (aK aF ?_));simp only[J];refine aK (gL O O (by omega) ((show IntKind.i64.wrap ((k / 2:Nat):Int)=_ from bN (by omega) (by omega)))) ?_;simp only[J];refine aK (Es O O (by omega)) (aK aF (dY O (dY O ?_)));simp only[J];refine dY O (cW 14 [0,0,0,0,0,0,0,0,0,0,0,0,0] ?_);simp only[↓Z];refine bD ?_;intro u m;apply aQ 8 [0] m;simp only[↓Z];apply R;omega;exact V (4-(k+1)) _ _ (by omega) (by kernel_rfl) ⟨k+1,_,_,_,_,_,O,m,A,r,q,by omega,by omega,O⟩
  refine gc (mq m aB (by kernel_rfl) (aK aF ?_));simp only[J];refine aK (cS O O (by omega) (show (k:Int).tmod 2=((k%2:Nat):Int) from O)) ?_;simp only[J];refine aK (Es O O (by omega)) (aK aF (dY O (dY O ?_)));simp only[J];refine dY O (cW 14 [0,0,0,0,0,0,0,0,0,0,0,0,0] ?_);simp only[↓Z];refine bD ?_;intro u m;apply aQ 3 [] m;simp only[↓Z];by_cases am:k / 2=0
  .have Q:=T am;refine gc (mq m aB (by kernel_rfl) (aK aF ?_));simp only[J];refine aK (gL O O (by omega) ((show IntKind.i64.wrap ((k / 2:Nat):Int)=_ from bN (by omega) (by omega)))) ?_;simp only[J];refine aK (Er O O (by omega)) (aK aF (bU O (aK aF (bU O (aK aF ?_)))));simp only[J];refine bU O (aK (cN O) ?_);refine cW 6 [0,0,0,0,3,0,0,0] ?_;simp only[↓Z,qP,Kd,aa,ab,ae,bi];refine⟨_,λu m=>(lies1 ((m.b 1 O).cell (d.in g)) eW),by omega,?_⟩;refine bU O (aK (mW O O (by omega) al) (bU O ?_));simp only[J];refine aK (eH O O (bN (by omega) (by omega))) (bU O (aK (cN O) ?_));refine cW 1 [0] ?_;simp only[↓Z,qP,aa];refine bU O (aK (aR underlying154 dV O O (by omega) (by omega) (mQ (show _=v+u2 by omega))) (bU O ?_));simp only[J];refine ql O (λu m=>(lies1 ((m.b 1 O).cell (d.in Q)) eW)) ?_;simp only[J];refine bU O (aK (mR tZ O O) (aK (dT O) (bD ?_)));intro u m;refine gc ?_;simp only[J];refine qO m 0 [9] [94,95,96,97,98,99] (λvs i=>∃(c:Nat)(e:List Nat)(f:Option Addr)(j:Nat),vs=[.slice f c j]/\i=oI 3 1 f c j (e.map oE)/\(e.length=c)/\(∀x∈e,x<24)/\(c<=2*k+2)) ?_ ?_
   . intro K6 au
     refine iY O ?_ ?_<;>intro aE
     .apply F 4 [0] m;simp only[↓Z];refine eV m O O (Cg g (show B<3 by omega)) ?_;intro u m;simp only[J];refine cO cF (z:=U 0) (by kernel_rfl) O O O ?_;intro u g6 E G L;replace m:=m.newB E G L;simp only[J];refine bJ m 1 O O cF gM O (by decide) O O O (m.b 0 O).rowsO (fU O) (by omega) (by omega) ?_;intro f j u m;simp only[zF,zG] at m;simp only[zA,zB,zC,zD,zE,Ki] at m;apply aL 2 [0] m;simp only[↓Z];exact au _ _ _ (by kernel_rfl) (m.sel [X7,N,N,N]) ⟨_,_,_,_,O,O,by simp;omega,λx I=>(bz.1 I).elim (q x) λh=>by cases cr.1 h;exact Qy g (by omega),by omega⟩
     apply F 1 [0] m;simp only[↓Z];exact au _ _ _ (by kernel_rfl) m ⟨_,_,_,_,O,O,r,q,by omega⟩
   intro vs i t m l u
   obtain⟨c,e,f,j,rfl,rfl,r,q,ai⟩:=l;simp only[zF,zG] at m;simp only[zu,zF,zG];apply aQ 6 [0] m;simp only[↓Z];apply R;omega;exact V (4-(k+1)) _ _ (by omega) (by kernel_rfl) ⟨k+1,_,_,_,_,_,O,m,A,r,q,by omega,by omega,O⟩
  refine gc (mq m aB (by kernel_rfl) (aK aF ?_));simp only[J];refine aK (gL O O (by omega) ((show IntKind.i64.wrap ((k / 2:Nat):Int)=_ from bN (by omega) (by omega)))) ?_;simp only[J];refine aK (Es O O (by omega)) (aK aF (dY O (dY O ?_)));simp only[J];refine dY O (cW 14 [0,0,0,0,0,0,0,0,0,0,0,0,0] ?_);simp only[↓Z];refine bD ?_;intro u m;apply aQ 8 [0] m;simp only[↓Z];apply R;omega;exact V (4-(k+1)) _ _ (by omega) (by kernel_rfl) ⟨k+1,_,_,_,_,_,O,m,A,r,q,by omega,by omega,O⟩
 apply F 8 [0,0] m;simp only[↓Z,gG];refine qO m 1 [] [103,104,105,106,107,108,109,110,111,112,113] (λvs i=>∃(p:List Int),vs=[]/\i=bI g3 (lQ bs p) 157/\(jU bs p)) ?_ ?_
 . intro K7 av
   refine aZ O ?_ ?_<;>intro aJ
   .obtain⟨x,y,rfl⟩:=alI r aJ;obtain⟨g9,rfl⟩:=(m.o 0 rfl).some (by omega);refine mh m [N,X7,N] [(0,N),(1,N),(2,N),(4,N),(5,N),(7,N),(8,N),(9,N),(3,N),(6,N),(10,X7)] aB (by kernel_rfl) (bR (λ_ _ _ _ _ h=>h)) (ol:=?_) ?aM ?_
    case aM=>simp only[zw,zQ,zR];try rfl
    intro u m;refine tL 10 [0,2,0,2] ?_;simp only[↓Z,lV,ac,C,aa];refine⟨_,λu m=>(lies1 ((m.o 0 O).rows 0 _ O) bW),_,λu m=>(lies1 ((m.o 0 O).rows 1 _ O) bW),by omega,?_⟩;refine bX ?_;replace m:=m.pull 1 O;simp only[bG,bH,zF,zG] at m;replace m:=m.pack1;refine qQ O O (aa7 m d (q x (by simp)) (q y (by simp)) A (by omega)) ?_;rintro v u ⟨aN,W,m⟩;simp only[J];replace m:=Mem.unpack [_] m;simp only[dx,cv] at m;replace m:=m.s01;refine S ⟨m.sel [N,X7,N],?_⟩;refine aT (gk ?_);exact av _ _ _ (by kernel_rfl) m ⟨_,O,O,W⟩
   apply F 1 [0] m;simp only[↓Z];exact av _ _ _ (by kernel_rfl) m ⟨_,O,O,d⟩
 intro vs i t m l u
 obtain⟨p,rfl,rfl,d⟩:=l;simp only[zF,zG] at m;simp only[zu,zF,zG];apply aQ 6 [0,0] m;simp only[↓Z,gG];refine aZ O ?_ ?_<;>intro aV
 .apply F 5 [0] m;simp only[↓Z];refine bT [13] [14,117,118,119,120,121,122,123,124,125,126,127,128,129,130,131,132,133,134,135,136,137,138,139,140,141,142,143,144,145,146,147,148] (λn vs wl=>∃(k:Nat)(p:List Int),vs=[U (k:Int)]/\Mem w0 wl [bI g3 (lQ bs p) 157,K]/\(jU bs p)/\(k<=4)/\(n=4-k)) ?_ ?_
  .exact⟨_,0,_,O,(m.sel [X7,N,N]),d,by omega,O⟩
  intro n vs t l u K8 aD
  obtain⟨k,p,rfl,m,d,hk,hn⟩:=l;simp only[zu,zF,zG];apply F 6 [0,0] m;simp only[↓Z];refine aZ O ?_ ?_<;>intro aW
  .have ah:k<4:=by omega
   apply F 4 [] m;simp only[↓Z];obtain⟨M,P,u1,u2,aj,ak,ay,al,g,X,T⟩:=fv Y ad af ax ah;refine gc (mq m aB (by kernel_rfl) (aK aF (aK aF ?_)));simp only[J];refine aK (cS O O (by omega) (show (k:Int).tmod 2=((k%2:Nat):Int) from O)) (aK aF ?_);simp only[J];refine aK (mW O O (by omega) aj) ?_;simp only[J];refine aK (eH O O (bN (by omega) (by omega))) (aK aF ?_);simp only[J];refine aK (gL O O (by omega) ((show IntKind.i64.wrap ((k / 2:Nat):Int)=_ from bN (by omega) (by omega)))) (aK aF ?_);simp only[J];refine aK (mW O O (by omega) ak) ?_;simp only[J];refine aK (eH O O (bN (by omega) (by omega))) (aK aI (bD ?_));intro u m;simp only[J];obtain⟨v,hv⟩:∃v:Nat,v=s+M+P:=⟨_,rfl⟩
   rw[<-hv] at g X T;rw[show ((s:Int)+(M:Int)+(P:Int))=(v:Int) by omega];apply aQ 9 [0,3,0] m;simp only[↓Z,qP,Kd,aa,ab,ae,bi];refine⟨_,λu m=>(lies1 ((m.b 0 O).cell (d.in g)) eW),by omega,?_⟩;refine qO m 0 [] [138,139,140,141,142,143,144,145,146,147,148] (λvs i=>∃(p:List Int),vs=[]/\i=bI g3 (lQ bs p) 157/\(jU bs p)) ?_ ?_
   . intro K9 aw
     refine iY O ?_ ?_<;>intro aX
     .apply F 4 [0] m;simp only[↓Z];refine iE m O O (Cg g (show D<3 by omega)) 2 [0] ?_;simp only[↓Z];intro u m;refine iE m O O (Cg g (show B<3 by omega)) 3 [0] ?_;simp only[↓Z];intro u m;refine qQ O O (aa7 m d (Qy g (by omega)) (Qy g (by omega)) (by omega) (by omega)) ?_;rintro v u ⟨aN,W,m⟩;apply aL 1 [0] m;simp only[↓Z];exact aw _ _ _ (by kernel_rfl) m ⟨_,O,O,W⟩
     apply F 1 [0] m;simp only[↓Z];exact aw _ _ _ (by kernel_rfl) m ⟨_,O,O,d⟩
   intro vs i t m l u
   obtain⟨p,rfl,rfl,d⟩:=l;simp only[zF,zG] at m;simp only[zu,zF,zG];apply aQ 6 [0] m;simp only[↓Z];apply R;omega;exact aD (4-(k+1)) _ _ (by omega) (by kernel_rfl) ⟨k+1,_,O,m,d,by omega,O⟩
  apply F 1 [0] m;simp only[↓Z];exact Ny O ⟨_,O,_,d,m.sel [N,N]⟩
 apply F 1 [0] m;simp only[↓Z];exact Ny O ⟨_,O,_,d,m.sel [X7,N,N]⟩
def uI(b:Bool):List am:=[.bool b]
def Yv:List Bool->Nat
 | []=>0
 |b::l=>(if b then 0 else 1)+Yv l
def Gj:∀{l:List Bool}{x:Nat},l[x]? = H X7->Yv (l.set x N)+1=Yv l
 |b::l,0,h=>by
  cases (show b=X7 by simpa using h);simp[Yv];omega
 |b::l,x+1,h=>by
  have:=Gj (l:=l) (x:=x) (by simpa using h);simp only[List.set_cons_succ,Yv];omega
 | [],x,h=>by simp at h
def jU.putB{bs a}(h:jU bs a){v:Nat}{q:Bool}:jU (bs.set v q) a:=⟨by rw[fc];exact h.b,h.n,h.r⟩
def jU.overB{bs a}(h:jU bs a){v:Nat}{q:Bool}(c:v<8):Lith.over (lQ bs a) v [.bool q]=lQ (bs.set v q) a:=by
 rw[Dk (by rw[h.len];omega),lQ,List.set_append_left _ _ (by rw[dy,h.b];exact c),lQ,mo]
def nY{a:Addr}{v:am}(h:iX w (a.add (n*1)) [v]):w.cell? (a.add n)=H v:=by
 have:=h 0 v rfl;rw[bi] at this;exact this
def alJ{a:List Bool}(h:x<a.length):over (a.map fz) x [.bool N]=(a.set x N).map fz:=by
 rw[Dk (by rw[dy];exact h),mo]
def alK{A:Option Addr}{ins:List Bool}{cx cy cz:Nat}(w:an)(hF:kO uI 1 w A 125 ins)(hx:cx<=3)(hy:cy<=3)(hz:cz<=3):cX X9 44 [.agg #[U 2,.slice A 125 ci],.agg #[U (cx:Int),U (cy:Int),U (cz:Int)]] w (λv w'=>∃ts:List T3,(ts.length<=24/\∀t∈ts,SmT t)/\SL 43 9 (ts.flatMap aP) ts.length w v w'):=by
 refine⟨bP func44 (by kernel_rfl),?_⟩;have m:=Mem.refl w
 go_enter func44,ntmps44
 apply gJ 9 [] m;simp only[↓Z,ao3,aa];intro W E u m;apply uR 1 [] m;simp only[↓Z];intro g3 u m;apply aQ 8 [0] m;simp only[↓Z];refine bT [6] [17,18,19,20,21,22,23,24,25,26,27,28,29,30,31,32,33,34,35,36,37,38,39,40,41,42,43,44,45,46,47,48] (λn vs j=>∃(v:Nat)(bs:List Bool),vs=[U (v:Int)]/\Mem w j [bI g3 (lQ bs (bn 24 0)) 157,bI E [U (cx:Int),U (cy:Int),U (cz:Int)] 103,bI W [U 2,.slice A 125 ci] 58]/\(jU bs (bn 24 0))/\(v<=8)/\(n=8-v)) ?_ ?_
 .exact⟨_,0,bn 8 X7,O,m,⟨O,O,by decide⟩,by omega,O⟩
 intro n vs P f u K1 aw
 obtain⟨v,bs,rfl,m,d,hv,L⟩:=f;simp only[zu,zF,zG];apply F 6 [0,0] m;simp only[↓Z];refine aZ O ?_ ?_<;>intro aW
 .have ao:v<8:=by omega
  apply F 3 [] m;simp only[↓Z];obtain⟨bq,aV,a,hA,aO⟩:=hF.get (i:=((cz+v / 4)*5+(cy+v / 2%2))*5+(cx+v%2)) (by omega);subst hA;refine gc (cC m 28 aB (by kernel_rfl) ?_);simp only[zy];refine cW 9 [3,3,2] ?_;simp only[↓Z,vH,Lr,Hu,dN,gW,aa,ac,C];apply R;omega;refine aK (mD O O (aiE ao)) (cW 4 [2] ?_);simp only[↓Z,gW,dN,ac,C,aa];apply R;omega;refine aK (lH O O (by omega) apl) (aK (mD O O (aiE (k:=v / 2) (by omega))) ?_);refine cW 4 [2] ?_;simp only[↓Z,gW,dN,ac,C,aa];apply R;omega;refine aK (lH O O (by omega) aiF) ?_;simp only[J];refine aK (eH O O (bN (by omega) (by omega))) ?_;simp only[J];refine X O O (xB (x:=cx+v%2) (y:=cy+v / 2%2) (z:=cz+v / 4) (by omega) (by omega) (by omega)) (cW 5 [0,3] ?_);simp only[↓Z,Ve,qP,Kd,ab,ae,bi,aa];refine⟨_,λu m=>(lies1 (nY (aO.ext m.ext)) eW),by omega,?_⟩;refine bD ?_;intro u m;refine cH m 0 O O O dV (by rw[d.len];show _+1<=_;omega) ⟨rfl,rfl⟩ ?_;intro u m;simp only[J] at m;rw[d.overB ao] at m;refine S ?_;apply aQ 6 [0] m;simp only[↓Z];apply R;omega;exact aw (8-(v+1)) _ _ (by omega) (by kernel_rfl) ⟨v+1,_,O,m,d.putB,by omega,O⟩
 apply F 7 [0] m;simp only[↓Z];refine bT [7] [49,50,51,52,53,54,55,56,57] (λn vs j=>∃(e:Nat)(g:List Int),vs=[U (e:Int)]/\Mem w j [bI g3 (lQ bs g) 157,bI E [U (cx:Int),U (cy:Int),U (cz:Int)] 103,bI W [U 2,.slice A 125 ci] 58]/\(jU bs g)/\(e<=24)/\(n=24-e)) ?_ ?_
 .exact⟨_,0,_,O,m,d,by omega,O⟩
 intro n vs P f u K2 ax
 obtain⟨e,g,rfl,m,d,he,L⟩:=f;simp only[zu,zF,zG];apply F 6 [0,0] m;simp only[↓Z];refine aZ O ?_ ?_<;>intro ak
 .have aj:e<24:=by omega
  apply F 8 [0] m;simp only[↓Z,uG,aa];refine aA (aR Fp bC O O (by omega) (by omega) Qx) ?_;simp only[J];refine cH m 0 O O O bC (by rw[d.len];show _+1<=_;omega) ⟨rfl,rfl⟩ ?_;intro u m;simp only[J] at m;rw[d.over aj] at m;apply aL 7 [0] m;simp only[↓Z];apply R;omega;exact ax (24-(e+1)) _ _ (by omega) (by kernel_rfl) ⟨e+1,_,O,m,d.put (by omega),by omega,O⟩
 apply F 7 [0] m;simp only[↓Z];refine bT [8] [58,59,60,61,62,63,64,65,66,67] (λn vs j=>∃(a:Nat)(g:List Int),vs=[U (a:Int)]/\Mem w j [bI g3 (lQ bs g) 157,bI E [U (cx:Int),U (cy:Int),U (cz:Int)] 103,bI W [U 2,.slice A 125 ci] 58]/\(jU bs g)/\(a<=3)/\(n=3-a)) ?_ ?_
 .exact⟨_,0,_,O,m,d,by omega,O⟩
 intro n vs P f u K3 ay
 obtain⟨a,g,rfl,m,d,ha,L⟩:=f;simp only[zu,zF,zG];apply F 6 [0,0] m;simp only[↓Z];refine aZ O ?_ ?_<;>intro al
 .have aU:a<3:=by omega
  apply F 7 [0] m;simp only[↓Z];replace m:=m.pull 0 O;simp only[bG,bH,zF,zG] at m;replace m:=m.pack1;refine qQ O O (aa8 m d (by omega)) ?_;rintro v u ⟨a1,ak,m⟩;simp only[J];replace m:=Mem.unpack [_] m;simp only[dx,cv] at m;apply aL 4 [0] m;simp only[↓Z];replace m:=m.pull 0 O;simp only[bG,bH,zF,zG] at m;replace m:=m.pack1;refine qQ O O (aa8 m ak (by omega)) ?_;rintro v u ⟨a2,al,m⟩;simp only[J];replace m:=Mem.unpack [_] m;simp only[dx,cv] at m;apply aL 7 [0] m;simp only[↓Z];apply R;omega;exact ay (3-(a+1)) _ _ (by omega) (by kernel_rfl) ⟨a+1,_,O,m,al,by omega,O⟩
 apply F 6 [3,0] m;simp only[↓Z,Hu,dN,aa,pw];apply R;omega;refine aA (mW O O (by omega) (show IntKind.i64.wrap (1*2^min (ji 19) IntKind.i64.bits)=524288 from by decide)) ?_;apply aL 4 [0] m;simp only[↓Z];refine aA aI ?_;replace m:=m.nilO 43 9;apply aL 4 [] m;simp only[↓Z,ao6,aa];apply uR 1 [] m;simp only[↓Z,ao5];intro g4 u m;apply uR 1 [0] m;simp only[↓Z,ao4,aa];intro u m;apply aQ 7 [0] m;simp only[↓Z];refine bT [10,12] [13,14,73,74,75,76,77,78,79,80,81,82,83,84,85,86,87,88,89,90,91,92,93,94,95,96,97,98,99,100,101,102,103,104,105,106,107,108,109,110,111,112] (λn vs j=>∃(e r:Nat)(ts:List T3)(c:List Bool)(s:Option Addr)(B:Nat),vs=[.slice s r B,U (e:Int)]/\Mem w j [bI g4 (c.map fz) 159,oI 43 9 s r B (ts.flatMap aP),bI g3 (lQ bs g) 157,bI E [U (cx:Int),U (cy:Int),U (cz:Int)] 103]/\(c.length=24)/\(ts.length=r)/\(∀t∈ts,SmT t)/\(r+Yv c<=24)/\(e<=24)/\(n=24-e)) ?_ ?_
 .exact⟨_,0,0,[],bn 24 X7,X8,0,O,(m.sel [N,N,N,N,X7]),O,O,by simp,by decide,by omega,O⟩
 intro n vs P f u K4 T
 obtain⟨e,r,ts,c,s,B,rfl,m,l,ad,I,aE,he,L⟩:=f;simp only[zu,zF,zG];apply F 6 [0,0] m;simp only[↓Z];refine aZ O ?_ ?_<;>intro aX
 .have aj:e<24:=by omega
  apply F 5 [0] m;simp only[↓Z];refine aA aI ?_;replace m:=m.nilO 41 3;apply aL 8 [0] m;simp only[↓Z];refine bT [13,14] [78,79,80,81,82,83,84,85,86,87,88,89,90,91,92,93,94,95,96,97,98,99,100,101,102,103,104,105] (λn vs j=>∃(x K:Nat)(ps:List Y)(c:List Bool)(Q:Option Addr)(V:Nat),vs=[.slice Q K V,U (x:Int)]/\Mem w j [oI 41 3 Q K V (ps.flatMap cM),bI g4 (c.map fz) 159,oI 43 9 s r B (ts.flatMap aP),bI g3 (lQ bs g) 157,bI E [U (cx:Int),U (cy:Int),U (cz:Int)] 103]/\(c.length=24)/\(ps.length=K)/\(∀p∈ps,Sm p)/\(r+K+Yv c<=24)/\(x<24)/\(n=Yv c)) ?_ ?_
  .exact⟨_,e,0,[],c,X8,0,O,m,l,O,by simp,by omega,aj,O⟩
  intro n vs P f u K5 az
  obtain⟨x,K,ps,c,Q,V,rfl,m,l,aF,af,aE,ar,L⟩:=f;obtain⟨q,M,a0⟩:=d.nx ar;obtain⟨y,ap⟩:∃y,c[x]? = H y:=⟨_,ah (by omega)⟩
  have aq:(c.map fz)[x]? = H (.bool y):=by rw[dc,ap];rfl
  simp only[zu,zF,zG];apply F 2 [] m;simp only[↓Z];rcases (show ¬0<=q\/(0<=q/\y=N)\/(0<=q/\y=X7) by cases y<;>simp<;>omega) with am|⟨am,rfl⟩|⟨am,rfl⟩
  .apply aQ 5 [0] m;simp only[↓Z,uG,aa];refine aA (aR Fp bC O O (by omega) (by omega) Qx) ?_;apply aL 17 [0,2,2,0,0,0,0,0,0] m;simp only[↓Z,gZ];refine⟨_,λu m=>(lies1 ((m.b 3 O).cell M) bW),by omega,?_⟩;refine aZ O ?_ ?_<;>intro aD
   .apply F 3 [0] m;simp only[↓Z];refine bB O O (ad9 _ ((m.o 0 O).lat (enc:=cM) (λ_=>rfl) (by decide)) (by omega) (by omega) af) ?_;rintro v u D ⟨us,ai,av,aT,aM,aN,rfl,G⟩;replace m:=m.newO D G;simp only[J];refine bJ m 3 O O gB mS O (by decide) O O (m.o 0 O).own.1 (m.o 0 O).row (qF _) (by omega) (by omega) ?_;intro s B u m;simp only[zF,zG] at m;rw[<-au] at m;apply aL 8 [0] m;simp only[↓Z];apply R;omega;exact T (24-(e+1)) _ _ (by omega) (by kernel_rfl) ⟨e+1,_,_,_,_,_,O,(m.sel [X7,X7,N,N,N,N]),l,by rw[a_];omega,λt ht=>(bz.1 ht).elim (I t) (ai.2 t),by omega,by omega,rfl⟩
   apply F 7 [0] m;simp only[↓Z];apply R;omega;exact T (24-(e+1)) _ _ (by omega) (by kernel_rfl) ⟨e+1,_,_,_,_,_,O,(m.sel [X7,N,N,N,N]),l,ad,I,by omega,by omega,O⟩
  .apply aQ 5 [0] m;simp only[↓Z,uG,aa];refine aA (aR Fp bC O O (by omega) (by omega) Qx) ?_;apply aL 17 [0,2,1,0,0,0,0,3,0,0,0] m;simp only[↓Z,aid,gZ,ab,ae,bi,iq,ik];refine⟨_,λu m=>(lies1 ((m.b 3 O).cell M) bW),_,λu m=>(lies1 ((m.b 1 O).cell aq) eW),by omega,?_⟩;refine aZ O ?_ ?_<;>intro aD
   .apply F 3 [0] m;simp only[↓Z];refine bB O O (ad9 _ ((m.o 0 O).lat (enc:=cM) (λ_=>rfl) (by decide)) (by omega) (by omega) af) ?_;rintro v u D ⟨us,ai,av,aT,aM,aN,rfl,G⟩;replace m:=m.newO D G;simp only[J];refine bJ m 3 O O gB mS O (by decide) O O (m.o 0 O).own.1 (m.o 0 O).row (qF _) (by omega) (by omega) ?_;intro s B u m;simp only[zF,zG] at m;rw[<-au] at m;apply aL 8 [0] m;simp only[↓Z];apply R;omega;exact T (24-(e+1)) _ _ (by omega) (by kernel_rfl) ⟨e+1,_,_,_,_,_,O,(m.sel [X7,X7,N,N,N,N]),l,by rw[a_];omega,λt ht=>(bz.1 ht).elim (I t) (ai.2 t),by omega,by omega,rfl⟩
   apply F 7 [0] m;simp only[↓Z];apply R;omega;exact T (24-(e+1)) _ _ (by omega) (by kernel_rfl) ⟨e+1,_,_,_,_,_,O,(m.sel [X7,N,N,N,N]),l,ad,I,by omega,by omega,O⟩
  apply aQ 5 [0] m;simp only[↓Z,uG,aa];refine aA (aR Fp bC O O (by omega) (by omega) Qx) ?_;apply aL 17 [0,2,1,0,0,0,0,3,0,0] m;simp only[↓Z,aid,ab,ae,bi,iq,ik];refine⟨_,λu m=>(lies1 ((m.b 3 O).cell M) bW),_,λu m=>(lies1 ((m.b 1 O).cell aq) eW),by omega,?_⟩;refine cH m 1 O O O dV (by rw[dy];show _+1<=_;omega) ⟨rfl,rfl⟩ ?_;intro u m;simp only[J] at m;rw[alJ (by omega)] at m;apply aL 6 [5,0] m;simp only[↓Z,rD];refine bY m O O (afz _ (by omega) (by omega) (by omega) ar) ?_;rintro v u m ⟨pp,rfl,aJ⟩;simp only[J];refine lF O ?_;intro u g5 D G k_;replace m:=m.newB D G k_;simp only[J];refine bJ m 1 O O eL mB O (by decide) O O O (m.b 0 O).rowsO (fU O) (by omega) (by omega) ?_;intro Q V u m;simp only[zF,zG] at m;rw[show ps.flatMap cM++_=(ps++[pp]).flatMap cM by rw[au];rfl] at m;apply aL 8 [0] m;simp only[↓Z,uG,aa];refine aA (aR Fp bC O O (by omega) (by omega) Qx) ?_;apply aL 3 [0,2,0] m;simp only[↓Z];refine⟨_,λu m=>(lies1 ((m.b 4 O).cell M) bW),?_⟩;have aY:=Gj ap;obtain⟨z,rfl⟩:∃z:Nat,q=z:=⟨q.toNat,by omega⟩
  exact az (Yv (c.set x N)) _ _ (by omega) (by kernel_rfl) ⟨z,_,_,_,_,_,O,(m.sel [X7,N,N,N,N,N]),by rw[fc];exact l,by rw[a_,aF];rfl,λp hp=>(bz.1 hp).elim (af p) λh=>by cases cr.1 h;exact aJ,by omega,by omega,O⟩
 apply F 7 [] m;simp only[↓Z];exact aS O O ⟨_,O,m.ext,ts,⟨by omega,I⟩,_,_,_,ad.symm,O,(m.o 1 O)⟩
def afB{A:Option Addr}{ins:List Bool}(w:an)(hF:kO uI 1 w A 125 ins):cX X9 43 [.agg #[U 2,.slice A 125 ci]] w (λv _=>∃c,v=.bool c):=by
 refine⟨bP func43 (by kernel_rfl),?_⟩;have m:=Mem.refl w
 go_enter func43,ntmps43
 apply gJ 17 [1,2,0,0,1,0,0,0] m;simp only[↓Z,Hu,dN,aa];intro b;apply R;omega;intro u m;refine aZ O ?_ ?_<;>intro s
 .apply F 5 [] m;simp only[↓Z];exact aS O O ⟨_,O,m.ext,_,O⟩
 apply F 5 [1,0] m;simp only[↓Z,Hu,dN,aa];refine aA (mW O O (by omega) Qw) ?_;apply aL 24 [1,2,0] m;simp only[↓Z,vH,Lr,amZ,M,aa,Int.reduceMul];apply R;omega;refine bT [4] [2,5,6,7,8,30,31,32,33,34,35,36,37,38,39,40,41,42,43,44,45,46,47,48,49,50,51,52,53,54,55,56,57,58,59,60,61,62,63,64,65,66,67,68,69,70,71,72,73,74,75,76,77,78,79,80,81,82,83,84,85] (λn vs f=>∃(k:Nat),vs=[U (k:Int)]/\Mem w f [bI b [U 2,.slice A 125 ci] 58]/\(k<=125)/\(n=125-k)) ?_ ?_
 .exact⟨_,0,O,m,by omega,O⟩
 intro n vs q e u j g
 obtain⟨k,rfl,m,o,p⟩:=e;simp only[zu,zF,zG];apply F 9 [1,0,0] m;simp only[↓Z,vH,Lr,amZ,aa];refine aZ O ?_ ?_<;>intro t
 .obtain⟨l,r,a,d,h⟩:=hF.get (i:=k) (by omega);subst d;apply F 7 [0] m;simp only[↓Z];refine aA (cS O O (by omega) (show ((k%5:Nat):Int)=_ from O)) ?_;apply aL 6 [0] m;simp only[↓Z];refine aA (gL O O (by omega) (show IntKind.i64.wrap ((k / 5:Nat):Int)=_ from bN (by omega) (by omega))) ?_;apply aL 1 [0] m;simp only[↓Z];refine aA (cS O O (by omega) (show ((k / 5%5:Nat):Int)=_ from O)) ?_;apply aL 6 [0] m;simp only[↓Z];refine aA (gL O O (by omega) (show IntKind.i64.wrap ((k / 5:Nat):Int)=_ from bN (by omega) (by omega))) ?_;apply aL 1 [0] m;simp only[↓Z];refine aA (gL O O (by omega) (show IntKind.i64.wrap ((k / 5 / 5:Nat):Int)=_ from bN (by omega) (by omega))) ?_;apply aL 12 [0,3,0,3,0,5,0] m;simp only[↓Z,pw];refine λ_=>λ_=>λ_=>⟨by omega,?_⟩
  apply aQ 7 [5,0,5,0] m;simp only[↓Z,pw];refine λ_=>λ_=>⟨by omega,?_⟩
  apply aQ 9 [1,0,3,2,0] m;simp only[↓Z,vH,Lr,Ve,aa,ab,ae,bi];refine⟨_,λu m=>(lies1 (nY (h.ext m.ext)) eW),λ_=>⟨by omega,?_⟩⟩;refine dH O ?_ ?_<;>intro x
  .apply F 5 [] m;simp only[↓Z];exact aS O O ⟨_,O,m.ext,_,O⟩
  apply F 7 [0] m;simp only[↓Z];apply R;omega;exact g (125-(k+1)) _ _ (by omega) (by kernel_rfl) ⟨k+1,O,m,by omega,O⟩
 apply F 6 [] m;simp only[↓Z];exact aS O O ⟨_,O,m.ext,_,O⟩
def apo(z:Int):List am:=[U z]
def apq{ds:List d_}{Q:Exit->Act->an->Prop}{w w0:an}{is:List It}{c:Code}{a:Act}{l:Nat->Nat->List am}{d:List am}{f:Nat->List am}{T1 T2:ba}(m:Mem w0 w is)(h:c.wp X9 (λe b u=>e=.normal/\∃g k,b=Fr (l g k) ds/\Mem w0 u (bI k (f g) T2::bI g d T1::is)) a w)
 (i:∀g k u,Mem w0 u (bI k (f g) T2::bI g d T1::is)->Q .normal (Fr (l g k) ds) u):c.wp X9 Q a w:=by
 refine Code.wp_mono ?_ h;rintro e b u ⟨rfl,g,k,rfl,j⟩;exact i g k u j
def Yw{ins:List Bool}{c:Bool}(h:i<ins.length):over (ins.map fz) i [.bool c]=(ins.set i c).map fz:=by
 rw[Dk (by rw[dy];exact h),mo]
def afC{ins:List Bool}{t:ba}(h:fQ w g (ins.map fz) t)(c:ins.length=n):kO uI 1 w (H ⟨g,0,X8⟩) n ins:=⟨c,λi x d=>⟨_,rfl,λj u a=>by
 have b:j=0:=by
  have:=(av.1 a).1;simp[uI] at this;omega
 subst b;cases a;rw[cA,cA,ae,bi,gi];exact h.cell (by rw[dc,d];rfl)⟩⟩
def afD{A:Option Addr}{p:List Int}(w:an)(G:kO apo 1 w A vi p)(d:∀z∈p,gF z):cX X9 17 [U 2,.slice A vi cap] w (λv w'=>∃A ci ins,v=.agg #[U 2,.slice A 125 ci]/\kO uI 1 w' A 125 ins):=by
 refine⟨bP func17 (by kernel_rfl),?_⟩;have m:=Mem.refl w
 go_enter func17,ntmps17
 apply gJ 5 [0] m;simp only[↓Z,aq2];intro D u m;apply apq m (T1:=4) (T2:=58)
 . skip
   refine Oz m [N] (.take 0 (.take 1 (.take 2 (.take 3 (.take 4 (.take 5 (.take 6 (.take 7 (.take 8 (.take 9 (.take 10 (.take 11 (.two 12 (.take 13 (.one 14 (.one 15 .nil))) 14 (.one 12 (.take 13 (.one 15 .nil)))))))))))))))) aB (by kernel_rfl) (λ_ _ _ _ _ h=>by cases h.1) ?_;intro u m;refine dG (by simp only[zw];rfl) (aV aF (aT (dG (by simp only[zw];rfl) (aV aF (aT (dG (by simp only[zw];rfl) ?_))))));simp only[J];refine aV (mW O O (by omega) Qw) (aT (dG (by simp only[zw];rfl) (aV (eH (m:=4) (n:=1) (r:=5) rfl rfl (by decide)) (aT (dG (by simp only[zw];rfl) (aV aF (aT (dG (by simp only[zw];rfl) ?_))))))));simp only[J];refine aV (mW O O (by omega) Qw) (aT (dG (by simp only[zw];rfl) (aV (eH (m:=4) (n:=1) (r:=5) rfl rfl (by decide)) (aT (dG (by simp only[zw];rfl) (aV (lT (m:=5) (n:=5) (r:=25) rfl rfl (by decide)) (aT (dG (by simp only[zw];rfl) (aV aF ?_)))))))));simp only[J];refine aT (dG (by simp only[zw];rfl) (aV (mW rfl rfl (by omega) Qw) (aT (dG (by simp only[zw];rfl) (aV (eH (m:=4) (n:=1) (r:=5) rfl rfl (by decide)) (aT (dG (by simp only[zw];rfl) (aV (lT (m:=25) (n:=5) (r:=125) rfl rfl (by decide)) (aT ?_)))))))));simp only[J];refine Gi (by simp only[zw];rfl) (by simp only[zw];rfl) ?_ ?_
   .refine jW underlying34 ahk O O O (show _=125 by omega) (show _=125 by omega) (by omega) (by omega) (by omega) (by omega) ?_;intro u e g j l;replace m:=m.newB g j l;refine S ⟨m.sel [X7,N],?_⟩;refine dG (by simp only[zw];rfl) (aV (By rfl rfl) (aT (fL (by simp only[zw];rfl) ?_)));simp only[J];refine fV m Xo O ?_;intro g3 u m;refine S ⟨m.sel [X7,X7,N],?_⟩;refine fL (by simp only[zw];rfl) ?_;simp only[J];refine aX m 0 O O O Pf (eU O) O ?_;intro u m;simp only[zy,zx,over,zF,zG,aa] at m;refine S ⟨m.sel [X7,X7,N],?_⟩;exact qU ⟨O,e,g3,O,m⟩
   refine fV m Xo O ?_;intro e u m;refine S ⟨m.sel [X7,N],?_⟩;refine fL (by simp only[zw];rfl) ?_;simp only[J];refine jW underlying34 ahk O O O (show _=125 by omega) (show _=125 by omega) (by omega) (by omega) (by omega) (by omega) ?_;intro u g3 g j l;replace m:=m.newB g j l;refine S ⟨m.sel [X7,X7,N],?_⟩;refine dG (by simp only[zw];rfl) (aV (By rfl rfl) (aT (fL (by simp only[zw];rfl) ?_)));simp only[J];refine aX m 1 O O O Pf (eU O) O ?_;intro u m;simp only[zy,zx,over,zF,zG,aa] at m;refine S ⟨m.sel [X7,X7,N],?_⟩;exact qU ⟨O,g3,e,O,m.s01⟩
 intro e g3 u m;try dsimp only
 apply aQ 3 [0] m;simp only[↓Z];refine aA (mW O O (by omega) Qw) ?_;apply aL 9 [0] m;simp only[↓Z,pw];apply R;omega;refine bT [7] [8,9,10,11,12,30,31,32,33,34,35,36,37,38,39,40,41,42,43,44,45,46,47,48,49,50,51,52,53,54,55,56,57,58,59,60,61,62,63,64,65,66,67,68,69,70,71,72,73,74,75,76,77,78,79,80,81,82,83,84,85,86,87,88,89,90,91,92,93,94,95,96,97,98,99,100,101,102,103,104,105,106,107,108,109,110,111,112,113,114,115,116,117,118,119,120,121,122,123,124,125,126,127,128,129,130,131,132,133,134,135,136,137,138,139,140,141,142,143] (λn vs K=>∃(k:Nat)(ins:List Bool),vs=[U (k:Int)]/\Mem w K [bI g3 [U 2,.slice (H ⟨e,0,X8⟩) 125 125] 58,bI e (ins.map fz) 4,bI D [U 0,.slice X8 0 0] 58]/\(ins.length=125)/\(k<=60/\k<=vi)/\(n=60-k)) ?_ ?_
 .exact⟨_,0,bn 125 X7,O,m,O,by omega,O⟩
 intro n vs f d u T L
 obtain⟨k,ins,rfl,m,c,hk,hn⟩:=d;simp only[zu,zF,zG];apply F 10 [0,3,0,0] m;simp only[↓Z,gG];refine λ_=>?_;refine dH O ?_ ?_<;>intro M
 .have ai:k<vi/\k<60:=by simp only[ck,Y2] at M;omega
  obtain⟨q,I,a,E,Q⟩:=G.get (i:=k) (by omega);subst E;have P:=d q (ak I);unfold gF at P;apply F 17 [0,2,0] m;simp only[↓Z,lV,ab,ae,bi];refine⟨_,λu m=>(lies1 (nY (Q.ext m.ext)) bW),by omega,?_⟩;refine gc (adS m [8] [46,47] (λvs=>∃(z:Nat),vs=[U (z:Int)]/\(z<9223372036854775808)) ?_ ?_)
  . intro V s
    refine aZ O ?_ ?_<;>intro ad
    .apply F 5 [0] m;simp only[↓Z];apply R;omega;obtain⟨z,o⟩:∃z:Nat,(z:Int) = -1-q:=⟨(-1-q).toNat,by omega⟩
     rw[<-o];exact s _ _ (by kernel_rfl) m ⟨z,O,by omega⟩
    apply F 1 [0] m;simp only[↓Z];obtain⟨z,rfl⟩:∃z:Nat,q=z:=⟨q.toNat,by omega⟩
    exact s _ _ (by kernel_rfl) m ⟨z,O,by omega⟩
  intro vs f m d u
  obtain⟨z,rfl,o⟩:=d;simp only[zu,zF,zG];apply aQ 4 [0] m;simp only[↓Z];refine aA (cS O O (by omega) (show ((z%3:Nat):Int)=_ from O)) ?_;apply aL 6 [0] m;simp only[↓Z];refine aA (gL O O (by omega) (show IntKind.i64.wrap ((z / 3:Nat):Int)=_ from bN (by omega) (by omega))) ?_;apply aL 1 [0] m;simp only[↓Z];refine aA (cS O O (by omega) (show ((z / 3%3:Nat):Int)=_ from O)) ?_;apply aL 6 [0] m;simp only[↓Z];refine aA (gL O O (by omega) (show IntKind.i64.wrap ((z / 3:Nat):Int)=_ from bN (by omega) (by omega))) ?_;apply aL 1 [0] m;simp only[↓Z];refine aA (gL O O (by omega) (show IntKind.i64.wrap ((z / 3 / 3:Nat):Int)=_ from bN (by omega) (by omega))) ?_;apply aL 1 [0] m;simp only[↓Z];refine aA (cS O O (by omega) (show ((z / 3 / 3%3:Nat):Int)=_ from O)) ?_;apply aL 6 [0] m;simp only[↓Z];refine aA (gL O O (by omega) (show IntKind.i64.wrap ((z / 3:Nat):Int)=_ from bN (by omega) (by omega))) ?_;apply aL 1 [0] m;simp only[↓Z];refine aA (gL O O (by omega) (show IntKind.i64.wrap ((z / 3 / 3:Nat):Int)=_ from bN (by omega) (by omega))) ?_;apply aL 1 [0] m;simp only[↓Z];refine aA (gL O O (by omega) (show IntKind.i64.wrap ((z / 3 / 3 / 3:Nat):Int)=_ from bN (by omega) (by omega))) ?_;apply aL 3 [0] m;simp only[↓Z];refine cC m 14 aB (by kernel_rfl) ?_;simp only[zy];refine cW 9 [1] ?_;simp only[↓Z,vH,Lr,aa];apply R;omega;refine X O O (xB (x:=1+z%3) (y:=1+z / 3%3) (z:=1+z / 3 / 3%3) (by omega) (by omega) (by omega)) (aK aF (aK (mD O O O) (aK (Ld O O) ?_)));simp only[J];refine cW 1 [] ?_;simp only[↓Z,Ve,ab,ae,bi];apply R;omega;refine bD ?_;intro u m;refine cH m 1 O O O dV (by simp only[dy,fc,bh,dv,c];omega) ⟨rfl,rfl⟩ ?_;intro u m;simp only[J] at m;rw[Yw (by simp only[fc,c];omega)] at m;refine S ?_;apply aQ 4 [0] m;simp only[↓Z];refine aA (mD O O O) ?_;apply aL 2 [0,0] m;simp only[↓Z];refine qO m 1 [] [87,88,89,90,91,92,93,94,95,96,97,98,99,100,101,102,103] (λvs i=>∃(ins:List Bool),vs=[]/\i=bI e (ins.map fz) 4/\(ins.length=125)) ?_ ?_
  . intro W t
    refine aZ O ?_ ?_<;>intro af
    .refine cC m 17 aB (by kernel_rfl) ?_;simp only[zy];refine cW 6 [1] ?_;simp only[↓Z,vH,Lr,aa];apply R;omega;refine aK (cS O O (by omega) (show (((z%3+1)%3:Nat):Int)=_ from O)) (cW 5 [] ?_);simp only[↓Z];apply R;omega;refine X O O (xB (x:=1+(z%3+1)%3) (y:=1+z / 3%3) (z:=1+z / 3 / 3%3) (by omega) (by omega) (by omega)) (aK aF (aK (mD O O O) (aK (Ld O O) ?_)));simp only[J];refine cW 1 [] ?_;simp only[↓Z,Ve,ab,ae,bi];apply R;omega;refine bD ?_;intro u m;refine cH m 1 O O O dV (by simp only[dy,fc,bh,dv,c];omega) ⟨rfl,rfl⟩ ?_;intro u m;simp only[J] at m;rw[Yw (by simp only[fc,c];omega)] at m;refine S (gk ?_);exact t _ _ _ (by kernel_rfl) m ⟨_,O,O,by simp only[fc];exact c⟩
    apply F 1 [0] m;simp only[↓Z];exact t _ _ _ (by kernel_rfl) m ⟨_,O,O,by first|exact c|(simp only[fc];exact c)⟩
  intro vs i f m d u
  obtain⟨ins,rfl,rfl,c⟩:=d;simp only[zF,zG] at m;simp only[zu,zF,zG];apply aQ 4 [0] m;simp only[↓Z];refine aA (mD O O O) ?_;apply aL 2 [0,0] m;simp only[↓Z];refine qO m 1 [] [107,108,109,110,111,112,113,114,115,116,117,118,119,120,121,122,123] (λvs i=>∃(ins:List Bool),vs=[]/\i=bI e (ins.map fz) 4/\(ins.length=125)) ?_ ?_
  . intro Y B
    refine aZ O ?_ ?_<;>intro ag
    .refine cC m 17 aB (by kernel_rfl) ?_;simp only[zy];refine cW 8 [1] ?_;simp only[↓Z,vH,Lr,aa];apply R;omega;refine aK (cS O O (by omega) (show (((z / 3%3+1)%3:Nat):Int)=_ from O)) (cW 3 [] ?_);simp only[↓Z];apply R;omega;refine X O O (xB (x:=1+z%3) (y:=1+(z / 3%3+1)%3) (z:=1+z / 3 / 3%3) (by omega) (by omega) (by omega)) (aK aF (aK (mD O O O) (aK (Ld O O) ?_)));simp only[J];refine cW 1 [] ?_;simp only[↓Z,Ve,ab,ae,bi];apply R;omega;refine bD ?_;intro u m;refine cH m 1 O O O dV (by simp only[dy,fc,bh,dv,c];omega) ⟨rfl,rfl⟩ ?_;intro u m;simp only[J] at m;rw[Yw (by simp only[fc,c];omega)] at m;refine S (gk ?_);exact B _ _ _ (by kernel_rfl) m ⟨_,O,O,by simp only[fc];exact c⟩
    apply F 1 [0] m;simp only[↓Z];exact B _ _ _ (by kernel_rfl) m ⟨_,O,O,by first|exact c|(simp only[fc];exact c)⟩
  intro vs i f m d u
  obtain⟨ins,rfl,rfl,c⟩:=d;simp only[zF,zG] at m;simp only[zu,zF,zG];apply aQ 3 [0] m;simp only[↓Z];refine aA (mD O O O) ?_;apply aL 2 [0,0] m;simp only[↓Z];refine qO m 1 [] [127,128,129,130,131,132,133,134,135,136,137,138,139,140,141,142,143] (λvs i=>∃(ins:List Bool),vs=[]/\i=bI e (ins.map fz) 4/\(ins.length=125)) ?_ ?_
  . intro K5 C
    refine aZ O ?_ ?_<;>intro ah
    .refine cC m 17 aB (by kernel_rfl) ?_;simp only[zy];refine cW 10 [1] ?_;simp only[↓Z,vH,Lr,aa];apply R;omega;refine aK (cS O O (by omega) (show (((z / 3 / 3%3+1)%3:Nat):Int)=_ from O)) ?_;simp only[J];refine aK (eH O O (bN (by omega) (by omega))) ?_;simp only[J];refine X O O (xB (x:=1+z%3) (y:=1+z / 3%3) (z:=1+(z / 3 / 3%3+1)%3) (by omega) (by omega) (by omega)) (aK aF (aK (mD O O O) (aK (Ld O O) ?_)));simp only[J];refine cW 1 [] ?_;simp only[↓Z,Ve,ab,ae,bi];apply R;omega;refine bD ?_;intro u m;refine cH m 1 O O O dV (by simp only[dy,fc,bh,dv,c];omega) ⟨rfl,rfl⟩ ?_;intro u m;simp only[J] at m;rw[Yw (by simp only[fc,c];omega)] at m;refine S (gk ?_);exact C _ _ _ (by kernel_rfl) m ⟨_,O,O,by simp only[fc];exact c⟩
    apply F 1 [0] m;simp only[↓Z];exact C _ _ _ (by kernel_rfl) m ⟨_,O,O,by first|exact c|(simp only[fc];exact c)⟩
  intro vs i f m d u
  obtain⟨ins,rfl,rfl,c⟩:=d;simp only[zF,zG] at m;simp only[zu,zF,zG];apply aQ 6 [0] m;simp only[↓Z];apply R;omega;exact L (60-(k+1)) _ _ (by omega) (by kernel_rfl) ⟨k+1,_,O,m,c,by omega,O⟩
 apply qW 7 [1,2] m;simp only[↓Z,aia,aa];intro u m;exact aS O ⟨_,O,((m.b 2 O).full an5 Pf)⟩ ⟨_,O,m.ext,_,_,ins,O,afC (m.b 1 O) c⟩
end
section
attribute [local irreducible] be c_ fS cE cP Code.wp
variable{q:Y}
def am8{p:Y}:Ab X9 183 [pt p] (U p.x):=by
 intro w;refine⟨ahh,?_⟩;have m:=kE.refl w
 go_enter func183,ntmps183
 refine L λe a=>f (xV m O ?_);intro h u m;refine aA aI (S (a _ _ ?_));refine L λg d=>f (aA (aO (c:=0) underlying207 O bC O O) ?_);simp only[J];refine bA O ((m.b 0 O).lies1 bW O) ?_;simp only[J];refine aA aI (S (d _ _ ?_));refine gh ?_;simp only[J];try simp only[t,Exit.then,Y4]
 refine aS O O ?_;try simp only[zD,zE]
 exact⟨_,O,m.ext,O⟩
def am9{p:Y}:Ab X9 184 [pt p] (U p.y):=by
 intro w;refine⟨ahi,?_⟩;have m:=kE.refl w
 go_enter func184,ntmps184
 refine L λe a=>f (xV m O ?_);intro h u m;refine aA aI (S (a _ _ ?_));refine L λg d=>f (aA (aO (c:=0) underlying207 O bC O O) ?_);simp only[J];refine bA O ((m.b 0 O).lies1 bW O) ?_;simp only[J];refine aA aI (S (d _ _ ?_));refine gh ?_;simp only[J];try simp only[t,Exit.then,Y4]
 refine aS O O ?_;try simp only[zD,zE]
 exact⟨_,O,m.ext,O⟩
def ana{p:Y}:Ab X9 185 [pt p] (U p.z):=by
 intro w;refine⟨ahj,?_⟩;have m:=kE.refl w
 go_enter func185,ntmps185
 refine L λe a=>f (xV m O ?_);intro h u m;refine aA aI (S (a _ _ ?_));refine L λg d=>f (aA (aO (c:=0) underlying207 O bC O O) ?_);simp only[J];refine bA O ((m.b 0 O).lies1 bW O) ?_;simp only[J];refine aA aI (S (d _ _ ?_));refine gh ?_;simp only[J];try simp only[t,Exit.then,Y4]
 refine aS O O ?_;try simp only[zD,zE]
 exact⟨_,O,m.ext,O⟩
def alL  : Ab X9 129 [] (.agg #[.func (.func 183) #[] #[],.func (.func 184) #[] #[],.func (.func 185) #[] #[]]):=by
 intro w;refine⟨ahf,?_⟩;have m:=kE.refl w
 go_enter func129,ntmps129
 refine L λd a=>f (akV m aaA O ?_);intro g u m;refine S (a _ _ ?_);refine L λe c=>f (aA (Hf O O O) ?_);simp only[J];refine ag1 m 0 O O O Jn (eU O) O ?_;intro u m;simp only[zy,zx,over,zF,zG,aa] at m;refine S (c _ _ ?_);refine gh ?_;try simp only[t,Exit.then,Y4]
 refine aS O ⟨_,O,((m.b 0 O).full adI Jn)⟩ ?_;try simp only[zD,zE]
 exact⟨_,O,m.ext,O⟩
def Hy{p:Y}:Ab X9 165 [pt p,pt q] (.bool (decide (p.Lt q))):=by
 intro w;refine⟨bP func165 (by kernel_rfl),?_⟩;have m:=kE.refl w
 go_enter func165,ntmps165
 refine L λZ e=>f (xV m O ?_);intro g1 u m;simp only[J];refine xV m O ?_;intro g2 u m;refine aA aI (S (e _ _ ?_));refine L λK2 g=>L λK3 i=>f ?_;simp only[J];refine Xb m O O alL ?_;intro u m;refine aA aF (S (i _ _ ?_));refine gn (wp_loop_rounds 4 (Bf (L λK4 j=>f (aA (oC (m:=0) (n:=3) O O (by decide)) (S (j _ _ ?_))))));refine L λK5 k=>mX O (gg (k _ _ ?_));refine L λK6 l=>gn (L λK7 o=>f (aA (Eg O O) ?_));simp only[J];refine aA aI (S (o _ _ ?_));refine L λK8 s=>?_;simp only[J];refine Gmq m aB (by kernel_rfl) (aK aF ?_);simp only[J];refine Gql O (λu m=>((m.b 1 O).full aM aD)) ?_;simp only[J];refine Xc O O am8 (aK aF ?_);simp only[J];refine Gql O (λu m=>((m.b 0 O).full aM aD)) ?_;simp only[J];refine Xc O O am8 (aK aI (aK aI (bD ?_)));intro u m;refine s _ _ ?_;refine L λK9 v=>f (aA aF ?_);simp only[J];refine aA aF (aA (sS O O) (S (v _ _ ?_)));simp only[J];refine aZ O ?_ ?_<;>intro a
 .refine L λaa A=>f (aA aF (aA aF (aA (oJ O O) (aA aI ?_))));simp only[J];refine S (A _ _ ?_);refine gh ?_;try simp only[t,Exit.then,Y4]
  refine aS O O ?_;try simp only[zD,zE]
  exact⟨_,O,m.ext,by simp only[Y.lt_x a]⟩
 have c:p.x=q.x:=by omega
 refine gg (l _ _ ?_);refine f (aA (eH (m:=0) (n:=1) (r:=1) O O (by decide)) (aA aF (S (jD (L λab B=>f (aA (oC (m:=1) (n:=3) O O (by decide)) (S (B _ _ ?_))))))));refine L λad C=>mX O (gg (C _ _ ?_));refine L λae D=>gn (L λaf E=>f (aA (Eh O O) ?_));simp only[J];refine aA aI (S (E _ _ ?_));refine L λag F=>?_;simp only[J];refine Gmq m aB (by kernel_rfl) (aK aF ?_);simp only[J];refine Gql O (λu m=>((m.b 1 O).full aM aD)) ?_;simp only[J];refine Xc O O am9 (aK aF ?_);simp only[J];refine Gql O (λu m=>((m.b 0 O).full aM aD)) ?_;simp only[J];refine Xc O O am9 (aK aI (aK aI (bD ?_)));intro u m;refine F _ _ ?_;refine L λah G=>f (aA aF ?_);simp only[J];refine aA aF (aA (sS O O) (S (G _ _ ?_)));simp only[J];refine aZ O ?_ ?_<;>intro a
 .refine L λai I=>f (aA aF (aA aF (aA (oJ O O) (aA aI ?_))));simp only[J];refine S (I _ _ ?_);refine gh ?_;try simp only[t,Exit.then,Y4]
  refine aS O O ?_;try simp only[zD,zE]
  exact⟨_,O,m.ext,by simp only[Y.lt_y c a]⟩
 have d:p.y=q.y:=by omega
 refine gg (D _ _ ?_);refine f (aA (eH (m:=1) (n:=1) (r:=2) O O (by decide)) (aA aF (S (jD (L λak K=>f (aA (oC (m:=2) (n:=3) O O (by decide)) (S (K _ _ ?_))))))));refine L λal M=>mX O (gg (M _ _ ?_));refine L λam P=>gn (L λan Q=>f (aA (Ei O O) ?_));simp only[J];refine aA aI (S (Q _ _ ?_));refine L λao T=>?_;simp only[J];refine Gmq m aB (by kernel_rfl) (aK aF ?_);simp only[J];refine Gql O (λu m=>((m.b 1 O).full aM aD)) ?_;simp only[J];refine Xc O O ana (aK aF ?_);simp only[J];refine Gql O (λu m=>((m.b 0 O).full aM aD)) ?_;simp only[J];refine Xc O O ana (aK aI (aK aI (bD ?_)));intro u m;refine T _ _ ?_;refine L λap U=>f (aA aF ?_);simp only[J];refine aA aF (aA (sS O O) (S (U _ _ ?_)));simp only[J];refine aZ O ?_ ?_<;>intro a
 .refine L λaq V=>f (aA aF (aA aF (aA (oJ O O) (aA aI ?_))));simp only[J];refine S (V _ _ ?_);refine gh ?_;try simp only[t,Exit.then,Y4]
  refine aS O O ?_;try simp only[zD,zE]
  exact⟨_,O,m.ext,by simp only[Y.lt_z c d]⟩
 have ez:p.z=q.z:=by omega
 refine gg (P _ _ ?_);refine f (aA (eH (m:=2) (n:=1) (r:=3) O O (by decide)) (aA aF (S (jD (L λar W=>f (aA (vR (m:=3) (n:=3) O O (by decide)) (S (W _ _ ?_))))))));refine L λau aw=>Aj O (wp_exit (g _ _ ?_));refine L λav X=>f (aA aI ?_);simp only[J];refine S (X _ _ ?_);refine gh ?_;try simp only[t,Exit.then,Y4]
 refine aS O O ?_;try simp only[zD,zE]
 exact⟨_,O,m.ext,by rw[Y6 (λh=>by unfold Y.Lt at h;omega)]⟩
def Yx{p:Y}:Ab X9 169 [pt p,pt q] (U (Je p q)):=by
 intro w;refine⟨bP func169 (by kernel_rfl),?_⟩;have m:=kE.refl w
 go_enter func169,ntmps169
 refine L λl d=>f (xV m O ?_);intro y u m;simp only[J];refine xV m O ?_;intro z u m;refine aA aI (S (d _ _ ?_));refine L λn e=>gn (L λo g=>f ?_);simp only[J];refine bA O ((m.b 1 O).full aM aD) ?_;simp only[J];refine bA O ((m.b 0 O).full aM aD) ?_;simp only[J];refine Xb m O O Hy ?_;intro u m;refine aA aI (S (g _ _ ?_));simp only[J];refine aZ O ?_ ?_<;>intro a
 .refine L λr h=>f (aA aI (S (h _ _ ?_)));refine gh ?_;simp only[J];try simp only[t,Exit.then,Y4]
  refine aS O O ?_;try simp only[zD,zE]
  exact⟨_,O,m.ext,by simp[Je,a]⟩
 refine L λs i=>f (bA O ((m.b 0 O).full aM aD) ?_);simp only[J];refine bA O ((m.b 1 O).full aM aD) ?_;simp only[J];refine Xb m O O Hy ?_;intro u m;refine aA aI (S (i _ _ ?_));simp only[J];refine aZ O ?_ ?_<;>intro c
 .refine L λv j=>f (aA aI (S (j _ _ ?_)));refine gh ?_;simp only[J];try simp only[t,Exit.then,Y4]
  refine aS O O ?_;try simp only[zD,zE]
  exact⟨_,O,m.ext,by simp[Je,a,c]⟩
 refine gg (e _ _ ?_);refine L λx k=>f (aA aI (S (k _ _ ?_)));refine gh ?_;simp only[J];try simp only[t,Exit.then,Y4]
 refine aS O O ?_;try simp only[zD,zE]
 exact⟨_,O,m.ext,by simp[Je,a,c]⟩
end
end Go.Proofs.YtbbokjbcdkgfgaaGreatDoor
namespace Go.Lith
section
open Go.RowKit
def anb(P:B)(f:FuncId)(args:List am)(w:an)(v:am):Prop:=Entr P f/\Calls P f args.toArray w λe w'=>∃u,e=.returned u/\GX w w'/\u=v
section
variable{P:B}{ds:List d_}{l:List am}{x y:cw}{T ty:ba}
variable{ops:Array Oper}{Q:Exit->Act->an->Prop}{rest:List Oper}{d:Nat}{pos:String}{after:Array Edge}{w w0:an}{is:List It}{v:am}
def Yy(z v a v3:am):(((Array.map (λx=>[z][x%1]?.getD default) (Array.range 3)).setIfInBounds 0 v).setIfInBounds 1 a).setIfInBounds 2 v3 = #[v,a,v3]:=by
 apply Array.ext (by simp);intro i c b;have d:i<3:=by simpa using b
 rcases Nat.lt_trichotomy i 1 with h|h|h
 . obtain rfl:i=0:=by omega
   simp
 . subst h
   simp
 obtain rfl:i=2:=by omega
 simp
def aiI{E:ba}{z:am}{e:cw}(m:kE w0 w is)(n:P.underlying T=H (.slice E))(b:(P.info? E).map (λi=>(i.size,i.zero))=H (1,H z))(s:z.cells = #[z]){v a v3:am}(q:ev l x=v)(p:v.cells = #[v])(r:ev l y=a)(t:a.cells = #[a])(B:ev l e=v3)(A:v3.cells = #[v3])
 (h:∀g u,kE w0 u (bI g [v,a,v3] E::is)->be P ops Q rest (Fr (l.set d (.slice (H ⟨g,0,X8⟩) 3 3)) ds) u) :
 be P ops Q (Oper.mk (H d) (.buildSlice T 3 #[(0,x),(1,y),(2,e)]) ty pos after X8::rest) (Fr l ds) w:=by
 cases c:P.info? E with
 |none=>rw[c] at b;cases b
 |some i=>
  rw[c] at b;simp only[fu,Option.some.injEq,Prod.mk.injEq] at b;obtain⟨f,j⟩:=b;exact pC (w':=w.alloc (.cells #[v,a,v3] E)) (v:=.slice (H ⟨w.heap.size,0,X8⟩) 3 3) (λo k _=>by simp[execOp,k,Instr.buildSlice,run_underlying n,sizeOf,typeInfo,zeroValue,c,f,j,s,dM,q,p,r,t,B,A,Instr.fill,newRow,newObj,Sem.run,Yy]) (h _ _ (m.go (m.mem.newB ((eR.refl w).alloc _) (bg _) (kM w [v,a,v3] E)) (bg _)))
def alM{f:FuncId}{a:cw}{xs:Array cw}{args:List am}{first cap:Array am}{a0:Array ba}(m:kE w0 w is)(i:ev l a=.func (.func f) first cap)(j:first.toList++xs.toList.map (ev l)++cap.toList=args)(b:anb P f args w v)
 (h:∀u,kE w0 u is->be P ops Q rest (Fr (l.set d v) ds) u):be P ops Q (Oper.mk (H d) (.call { callee:=.value a,args:=xs,argTypes:=a0 }) ty pos after X8::rest) (Fr l ds) w:=by
 refine wpList_plain O λK g=>?_;unfold Oper.wp;rw[jO,pX b.1 i j _ rfl];refine b.2.mono ?_;rintro e w' ⟨u,rfl,c,rfl⟩;show K ((Fr l ds).put (H d) u) w'
 rw[iK];exact g _ _ (h w' (m.ext' c))
end
end
section
open Go.RowKit Go.Proofs Go.Sort Go.Shelf
def aiJ{α:Type}{enc:α->List am}{k:Nat}(a:∀x,(enc x).length=k)(b:0<k):∀(L:List α)(t:Nat),(L.flatMap enc)[t]? = (L[t / k]?).bind λx=>(enc x)[t%k]?
 | [],t=>by simp
 |x::L,t=>by
  rw[da,List.getElem?_append];by_cases h:t<k
  . rw[Z9 (by rw[a];exact h),Nat.div_eq_of_lt h,kp h]
    rfl
  rw[K0 (by rw[a];exact h),a,aiJ a b L (t-k)]
  have c:t / k=(t-k) / k+1:=by rw[Nat.div_eq t k,Z9 ⟨b,ko h⟩]
  have d:t%k=(t-k)%k:=Nat.mod_eq_sub_mod (ko h);rw[c,d,List.getElem?_cons_succ]
def yQ{α:Type}[Inhabited α]{enc:α->List am}{k:Nat}(b:∀x,(enc x).length=k)(c:0<k)(L:List α):(flatK enc k L.toArray).toList=L.flatMap enc:=by
 have g:(L.flatMap enc).length=L.length*k:=by
  induction L with
  |nil=>simp
  |cons x L ih=>rw[da,a_,ih,b,bh,Nat.add_mul];omega
 apply fy;intro t;by_cases a:t<L.length*k
 . have e:t / k<L.length:=by
    rw[Nat.div_lt_iff_lt_mul c];exact a
   have f:t%k<k:=kd _ c;have d:=get_flatK enc k L.toArray t (by simpa using a);rw[getElem!_pos _ t (by simpa using a)] at d;rw[aiJ b c,ah e,Option.bind_some,ia,ie (by simpa using a),d,ah (show t%k<(enc L[t / k]).length by rw[b];exact f)]
   congr 1
   rw[getElem!_pos L.toArray _ (by simpa using e),List.getElem_toArray,getElem!_pos _ _ (by rw[b];exact f)]
 rw[ct (by simpa using ko a),ct (by rw[g];exact ko a)]
section
variable{α:Type}[Inhabited α]{P:B}{ρ:Ren}{enc:α->List am}{c:Nat}{E:ba}{w w0:an}{is:List It}{A:Option Addr}{n cap:Nat}
def afE{g:Nat}{xs:List α}{cur:Array am}(f:∀x,(enc x).length=c)(d:0<c)(b:w.heap[g]? = H (.cells cur E (0,0)))(h:cur.toList.take (xs.length*c)=xs.flatMap enc):HoldsK enc c w g 0 xs.toArray:=by
 intro j a;have i:=yQ f d xs;have k:j<xs.length*c:=by simpa using a
 have e:(flatK enc c xs.toArray)[j]? = cur[j]?:=by
  rw[<-ia,i,<-h,fa,Z9 k,ia]
 rw[ie a] at e;refine⟨?_,?_⟩
 . simp only[World.cell?,b,ae,Option.isSome_none,Bool.false_eq_true,X0]
   rw[<-e,getElem!_pos _ j a];rfl
 simp[World.frozen?,b]
def Tl{g:Nat}{xs ys:List α}{cur:Array am}{q:Nat}{os:Array Obj}(i:∀x,(enc x).length=c)(f:0<c)(e:w.heap[g]? = H (.cells cur E (0,0)))(j:xs.length*c<=cur.size)(l:ys.length=xs.length) :
 ∃d:Array am,(sortWorldK enc c w g 0 q ys.toArray os).heap[g]? = H (.cells d E (0,0))/\d.size=cur.size/\d.toList.take (xs.length*c)=ys.flatMap enc:=by
 have k:g<w.heap.size:=(fx.1 e).1;refine⟨putCells id 0 (flatK enc c ys.toArray) cur,?_,by simp[putCells],?_⟩
 . unfold sortWorldK putRowK putRow mapBlock grow
   simp only;rw[Array.getElem?_append_left (by simpa[ahead] using k),Array.getElem?_modify];simp[ahead,e,onCells]
 have h:=yQ i f ys
 apply fy;intro t;rw[fa,<-h,ia,ia];have b:(flatK enc c ys.toArray).size=xs.length*c:=by simp[l]
 split
 . rename_i a
   have:t<cur.size:=bc a j;simp only[putCells,Array.getElem?_mapIdx,ie this,fu,bm,ae,X6,Nat.sub_zero,b,a,Y4];rw[ie (by rw[b];exact a),getElem!_pos _ t (by rw[b];exact a)];rfl
 rename_i a
 rw[mj (by rw[b];exact ko a)]
def aiK(L:SlLaysF0.n6 P ρ)(T:∀w,(isAgg (ρ.t 24)).run P w=.ok N w)(zE:∀w,(Go.sizeOf (ρ.t 24)).run P w=.ok c w)(r:∀x,(enc x).length=c)(o:0<c)(Y:∀x,∀v∈enc x,v.oneCell'=N)
 (l:α->α->Int) (hO:SWO (ltOf l)) {f:FuncId} (M:∀x y,Ab P f [.agg (enc x).toArray,.agg (enc y).toArray] (U (l x y))) {xs:List α} (m:Mem w0 w is) (k:Nat) (p:is[k]? = H (oI E c A n cap (xs.flatMap enc))) (ah:n<4611686018427387904) :
 Calls P (ρ.f 6) #[.slice A n cap,.func (.func f) #[] #[]] w λe w'=>∃v i,e=.returned v/\Mem w0 w' (is.set k i)/\(v=.tuple #[]/\∃ys:List α,i=oI E c A n cap (ys.flatMap enc)/\ys.Perm xs/\ys.Pairwise λa b=>ltOf l b a=X7):=by
 have h:w.ownsRow 0 E c (.slice A n cap) n (xs.flatMap enc):=m.get k p;have al:(xs.flatMap enc).length=xs.length*c:=by
  have:=yQ r o xs;rw[<-this];simp
 have d:xs.length=n:=by
  have:=h.1;rw[al] at this;exact Nat.eq_of_mul_eq_mul_right o this
 have an:=λb B=>m.ge _ (ak p) b B;rcases oM h with ⟨rfl,rfl,rfl,D⟩|⟨g,cur,rfl,_,C,K,am,Q,S⟩
 . refine (AnyF.slices_SortFunc_none L X8 0 _ w).mono ?_
   rintro e w' ⟨rfl,rfl⟩;obtain rfl:xs=[]:=fd d;refine⟨_,oI E c X8 0 0 [],O,?_,O,[],O,List.Perm.refl _,.nil⟩;have:is.set k (oI E c X8 0 0 [])=is:=by
    apply fy;intro j;rw[List.getElem?_set];split
    . rename_i e;subst e
      have:=(av.1 p).1;rw[Z9 this,p];rfl
    rfl
   rw[this];exact m
 have af:g<w.heap.size:=(fx.1 C).1
 rw[<-d] at S;have Z:=afE (xs:=xs) r o C S;have D:=AnyQ.slices_SortFunc L c T zE enc r Y l hO f #[] g 0 cap xs.toArray w (λargs w'=>xI (M default default w').1) (λI os F _ x y=>by
  have:=((M x y (sortWorldK enc c w g 0 I F os)).2.mono λe w' h=>(show e=.returned (U (l x y))/\∃q ai,w'=grow ((sortWorldK enc c w g 0 I F os).drewN q) ai from by obtain⟨u,rfl,hX,rfl⟩:=h;exact⟨O,hX.grow⟩))
  simpa using this) Z af (by simpa[d] using ah)
 have es:xs.toArray.size=n:=by simpa using d
 rw[es] at D;refine D.mono ?_;rintro e w' ⟨rfl,z,q,os,G,hs,rfl⟩;have hd:z.size=n:=by rw[G.1];exact es
 obtain⟨ys,rfl⟩:∃ys:List α,z=ys.toArray:=⟨z.toList,by simp⟩
 have s:ys.length=n:=by simpa using hd
 have ab:xs.length*c<=cur.size:=by rw[d,Q];exact Nat.mul_le_mul_right _ K
 obtain⟨aj,V,W,X⟩:=Tl (q:=q) (os:=os) (ys:=ys) r o C ab (by rw[s,d]);refine⟨_,oI E c (H ⟨g,0,X8⟩) n cap (ys.flatMap enc),O,?_,O,ys,O,?_,?_⟩
 . refine m.put k p O O O ?_ (λb B ag=>?_) ?_ (.inl λ_ h=>h)
   .simp[sortWorldK,putRowK,putRow,mapBlock,grow,ahead]
   . have aa:g≠b:=λe=>ag (by rw[e];rfl)
     unfold sortWorldK putRowK putRow mapBlock grow;simp only;rw[Array.getElem?_append_left (by simpa[ahead] using B),Array.getElem?_modify,K0 aa];rfl
   refine⟨?_,.inr ⟨g,cap,aj,O,bm _,V,K,am,by rw[W,Q],?_⟩⟩
   . have:=yQ r o ys
     rw[<-this];simp[s]
   rw[<-d];exact X
 . have:=G.2.2
   simpa[s,d,ap (Nat.le_of_eq s),ap (Nat.le_of_eq d),List.extract_eq_take_drop] using this
 rw[List.pairwise_iff_getElem]
 intro i j ad J ae;have:=hs i j (bm _) ae (by rw[<-s];exact J);rw[getElem!_pos _ i (by simpa using ad),getElem!_pos _ j (by simpa using J)] at this;simpa using this
end
end
end Go.Lith
namespace Go.Proofs
open Go.Shelf
def Tryz.sort113_ren:Go.Shelf.Ren:=⟨fun|6=>113|15=>167|14=>166|28=>213|29=>214|20=>205|21=>206|22=>207|23=>208|24=>209|25=>210|26=>211|27=>212|46=>231|47=>232|48=>233|49=>234|50=>235|57=>242|n=>n,fun|22=>44|24=>43|25=>190|3=>3|39=>60|0=>0|53=>24|55=>99|4=>4|46=>276|45=>275|50=>119|5=>5|9=>9|66=>299|70=>303|76=>307|77=>208|n=>n,fun|n=>n⟩
def Tryz.sort113:Go.Proofs.SlLaysF0.n6 Tryz.prog Tryz.sort113_ren:={
 mixed:=by kernel_rfl
 f6:=⟨Tryz.f113.name,by decide,Tryz.func113.trans (Y1 H (by kernel_rfl))⟩
 f14:=⟨Tryz.f166.name,by decide,Tryz.func166.trans (Y1 H (by kernel_rfl))⟩
 f15:=Tryz.func167.trans (Y1 H (by kernel_rfl))
 f20:=⟨Tryz.f205.name,by decide,Tryz.func205.trans (Y1 H (by kernel_rfl))⟩
 f21:=⟨Tryz.f206.name,by decide,Tryz.func206.trans (Y1 H (by kernel_rfl))⟩
 f22:=⟨Tryz.f207.name,by decide,Tryz.func207.trans (Y1 H (by kernel_rfl))⟩
 f23:=⟨Tryz.f208.name,by decide,Tryz.func208.trans (Y1 H (by kernel_rfl))⟩
 f24:=⟨Tryz.f209.name,by decide,Tryz.func209.trans (Y1 H (by kernel_rfl))⟩
 f25:=⟨Tryz.f210.name,by decide,Tryz.func210.trans (Y1 H (by kernel_rfl))⟩
 f26:=⟨Tryz.f211.name,by decide,Tryz.func211.trans (Y1 H (by kernel_rfl))⟩
 f27:=⟨Tryz.f212.name,by decide,Tryz.func212.trans (Y1 H (by kernel_rfl))⟩
 f28:=Tryz.func213.trans (Y1 H (by kernel_rfl))
 f29:=Tryz.func214.trans (Y1 H (by kernel_rfl))
 f46:=⟨Tryz.f231.name,by decide,Tryz.func231.trans (Y1 H (by kernel_rfl))⟩
 f47:=Tryz.func232.trans (Y1 H (by kernel_rfl))
 f48:=Tryz.func233.trans (Y1 H (by kernel_rfl))
 f49:=⟨Tryz.f234.name,by decide,Tryz.func234.trans (Y1 H (by kernel_rfl))⟩
 f50:=⟨Tryz.f235.name,by decide,Tryz.func235.trans (Y1 H (by kernel_rfl))⟩
 f57:=⟨Tryz.f242.name,by decide,Tryz.func242.trans (Y1 H (by kernel_rfl))⟩
 t0:=Tryz.underlying0
 a0:=Tryz.isAgg0
 z0:=Tryz.sizeOf0
 v0:=Tryz.zeroValue0
 t3:=Tryz.underlying3
 a3:=Tryz.isAgg3
 z3:=Tryz.sizeOf3
 v3:=Tryz.zeroValue3
 t4:=Tryz.underlying4
 a4:=Tryz.isAgg4
 z4:=Tryz.sizeOf4
 v4:=Tryz.zeroValue4
 t5:=Tryz.underlying5
 a5:=Tryz.isAgg5
 z5:=Tryz.sizeOf5
 v5:=Tryz.zeroValue5
 t9:=Tryz.underlying9
 a9:=Tryz.isAgg9
 z9:=Tryz.sizeOf9
 v9:=Tryz.zeroValue9
 t22:=Tryz.underlying44
 a22:=Tryz.isAgg44
 z22:=Tryz.sizeOf44
 v22:=Tryz.zeroValue44
 t25:=Tryz.underlying190
 a25:=Tryz.isAgg190
 z25:=Tryz.sizeOf190
 v25:=Tryz.zeroValue190
 t39:=Tryz.underlying60
 a39:=Tryz.isAgg60
 z39:=Tryz.sizeOf60
 v39:=Tryz.zeroValue60
 t45:=Tryz.underlying275
 a45:=Tryz.isAgg275
 z45:=Tryz.sizeOf275
 v45:=Tryz.zeroValue275
 t46:=Tryz.underlying276
 a46:=Tryz.isAgg276
 z46:=Tryz.sizeOf276
 v46:=Tryz.zeroValue276
 t50:=Tryz.underlying119
 a50:=Tryz.isAgg119
 z50:=Tryz.sizeOf119
 v50:=Tryz.zeroValue119
 t53:=Tryz.underlying24
 a53:=Tryz.isAgg24
 z53:=Tryz.sizeOf24
 v53:=Tryz.zeroValue24
 t55:=Tryz.underlying99
 a55:=Tryz.isAgg99
 z55:=Tryz.sizeOf99
 v55:=Tryz.zeroValue99
 t66:=Tryz.underlying299
 a66:=Tryz.isAgg299
 z66:=Tryz.sizeOf299
 v66:=Tryz.zeroValue299
 t70:=Tryz.underlying303
 a70:=Tryz.isAgg303
 z70:=Tryz.sizeOf303
 v70:=Tryz.zeroValue303
 t76:=Tryz.underlying307
 a76:=Tryz.isAgg307
 z76:=Tryz.sizeOf307
 v76:=Tryz.zeroValue307
 t77:=Tryz.underlying208
 a77:=Tryz.isAgg208
 z77:=Tryz.sizeOf208
 v77:=Tryz.zeroValue208 }
end Go.Proofs
namespace Go.Proofs.YtbbokjbcdkgfgaaGreatDoor
open Go.Proofs.Tryz
open Go.RowKit Go.Lith
set_option maxRecDepth 100000
section
attribute [local irreducible] be c_ fS cE cP Code.wp
def Dl{p q:Y}:Je p q=0↔p=q:=by
 unfold Je;rcases Y.lt_tri p q with h|h|h
 .rw[Z9 h];exact⟨λe=>(by cases e),λe=>Y0 (e▸h) (Y.lt_irrefl _)⟩
 .subst h;rw[K0 (Y.lt_irrefl _),K0 (Y.lt_irrefl _)];exact⟨λ_=>rfl,λ_=>rfl⟩
 rw[K0 (λk=>Y.lt_irrefl _ (Y.lt_trans h k)),Z9 h];exact⟨λe=>(by cases e),λe=>Y0 (e▸h) (Y.lt_irrefl _)⟩
end
section
attribute [local irreducible] be c_ fS cE cP Code.wp
attribute [local congr] fE fF eN fD
variable{ts:List T3}{vi cap:Nat}
def apr{w:an}{a:Addr}{e:E3}(h:iX w a (dE e)):iX w a [U e.1.x,U e.1.y,U e.1.z,U e.2.x,U e.2.y,U e.2.z]:=h
def Qz{A:Option Addr}(w:an)(z:cI w A vi ts)(W:vi<=100000000):cX X9 98 [.slice A vi cap] w (λv w'=>∃es:List E3,SL 170 6 (es.flatMap dE) es.length w v w'/\es.length<=3*vi):=by
 refine⟨bP func98 (by kernel_rfl),?_⟩;have m:=Mem.refl w
 go_enter func98,ntmps98
 apply iD 7 [0] m;simp only[↓Z];refine bB O O (ad5 _ (z.ext m.ext) (by omega)) ?_;rintro v u g ⟨E,D,d,ap,rfl,h⟩;replace m:=m.newO g h;have ak:=Dc ts;have aq:=z.len;apply aL 4 [0] m;simp only[↓Z];refine aA aI ?_;replace m:=m.nilO 170 6;apply aL 7 [0] m;simp only[↓Z];refine bT [4,5] [6,7,8,9,12,13,14,15,16,17,18,19,20,21,22,23,24,25,26,27,28,29,30,31,32,33,34,35,36,37,38,39,40,41,42,43,44,45,46,47,48,49,50,51,52,53,54,55,56,57,58,59,60,61,62,63] (λn vs t=>∃(k c q:Nat)(l:Option Addr)(B:List E3),vs=[.slice l c q,U (k:Int)]/\Mem w t [oI 170 6 l c q ((B).flatMap dE),oI 170 6 E d D ((jT ts).flatMap dE)]/\(c<=k)/\(k<=d)/\(n=d-k)) ?_ ?_
 .exact⟨_,0,_,_,_,[],O,m,bg _,bm _,O⟩
 intro n vs P r u S p;obtain⟨k,c,q,l,B,rfl,m,am,hk,hn⟩:=r;simp only[zu,zF,zG];apply F 8 [0,0] m;simp only[↓Z,yL];refine aZ O ?_ ?_<;>intro ad
 .obtain⟨e,L⟩:∃e,(jT ts)[k]? = H e:=⟨_,ah (by omega)⟩
  obtain⟨K,rfl⟩:=(m.o 1 rfl).some (by omega);apply qW 14 [0,4,0] m;simp only[↓Z,yM,ao8,Ke,ab,ae,aa];refine⟨_,λu m=>(lA ((apr ((m.o 1 O).at Bk L)).lies Dd mP)),λG=>⟨by omega,?_⟩⟩;intro u m;have y:B.length=c:=(m.o 1 rfl).num Bk (by decide);have ar:=(m.o 1 rfl).le;rcases Nat.eq_zero_or_pos (Gn (jT ts) (e.2,e.1)) with hz|hz
  .apply aQ 7 [1,1,0] m;simp only[↓Z,yN,aW,Ys,ac,C,aa];apply R;omega;refine bY m O O (Nk (es:=jT ts) (e:=(e.2,e.1)) _ ((m.o 2 O).lat Bk (by decide)) (by omega)) ?_;rintro v u m rfl;apply aL 4 [2,0,0,1,0] m;simp only[↓Z,Ke];apply R;omega;refine bQ O (bY m O O (Nk (es:=B) (e:=e) _ ((m.o 1 O).lat Bk (by decide)) (by omega)) ?_);rintro v u m rfl;apply aL 3 [0,0,0] m;simp only[↓Z];refine aZ O ?_ ?_<;>intro af
   .apply F 6 [0] m;simp only[↓Z];apply R;omega;exact p (d-(k+1)) _ _ (by omega) (by kernel_rfl) ⟨k+1,_,_,_,B,O,(m.sel [X7,N,N]),by omega,by omega,O⟩
   apply F 7 [0] m;simp only[↓Z];refine bT [7] [8,36,37,38,39,40,41,42,43,44,45,46,47,48,49] (λn vs t=>∃(j:Nat),vs=[U (j:Int)]/\Mem w t [bI G (dE e) 170,oI 170 6 l c q ((B).flatMap dE),oI 170 6 (H ⟨K,0,X8⟩) d D ((jT ts).flatMap dE)]/\(j<=c)/\(n=c-j)) ?_ ?_
   .exact⟨_,0,O,m,bm _,O⟩
   intro n vs P r u T Q;obtain⟨j,rfl,m,Y,ao⟩:=r;simp only[zu,zF,zG];apply F 8 [0,0] m;simp only[↓Z,yL];refine aZ O ?_ ?_<;>intro ai
   .obtain⟨x,M⟩:∃x,B[j]? = H x:=⟨_,ah (by omega)⟩
    obtain⟨V,rfl⟩:=(m.o 1 rfl).some (by omega);apply F 3 [0] m;simp only[↓Z];refine mq m aB (by kernel_rfl) (cW 5 [0,4,1] ?_);simp only[↓Z,yM,Ke,ab,ae];refine⟨_,λu m=>(lA (((m.o 1 O).at Bk M).lies Dd mP)),by omega,?_⟩;refine X O O (aiu (a:=x) (b:=e)) (aK aI (bD ?_));intro u m;apply aQ 6 [0] m;simp only[↓Z];refine iY O ?_ ?_<;>intro aj
    .apply F 3 [0] m;simp only[↓Z];refine aA aI ?_;replace m:=m.nilO 170 6;apply aL 6 [0] m;simp only[↓Z];refine aA (gR qY mP O O (ab _) (by omega) (by omega)) ?_;simp only[J];refine bJ m 0 O O qY yB O (by decide) O O (by rw[dZ Bk,bf,de (show j<=B.length by omega)]) ((((m.o 2 O).lat Bk (by decide)).take (k:=j) (by omega)).cells Bk (by decide)) (Jg _) (by omega) (by omega) ?_;intro f i u m;simp only[zF,zG] at m;rw[cv,ae] at m;simp only[ae];apply aL 6 [2,0] m;simp only[↓Z,Ke];refine Pq O ?_;intro u I g h s;replace m:=m.newB g h s;simp only[J];refine bJ m 1 O O qY yB O (by decide) O O O (m.b 0 O).rowsO (fU O) (by omega) (by omega) ?_;intro f i u m;simp only[zF,zG] at m;apply aL 6 [0] m;simp only[↓Z];refine aA (gS qY mP O O (ab _) (by omega) (by omega) O) ?_;simp only[J];refine bJ m 1 O O qY yB O (by decide) O O (by rw[dZ Bk,ef,y]) (((m.o 3 O).lat Bk (by decide)).cellsD Bk (by decide) (by omega)) (Jg _) (by omega) (by omega) ?_;intro f i u m;simp only[zF,zG] at m;refine aA aI ?_;simp only[J];replace m:=(m.pull 1 O).mv 2 O;simp only[bG,bH,zF,zG] at m;apply aL 7 [0] m;simp only[↓Z];apply R;omega;exact p (d-(k+1)) _ _ (by omega) (by kernel_rfl) ⟨k+1,_,_,_,(B.take j++[e]++B.drop j),O,((m.reO 2 O ((m.o 2 O).as (by rw[au,au];rfl))).sel [X7,X7,N,N]),by omega,by omega,rfl⟩
    apply F 7 [0] m;simp only[↓Z];apply R;omega;exact Q (c-(j+1)) _ _ (by omega) (by kernel_rfl) ⟨j+1,O,m,by omega,O⟩
   have al:j=B.length:=by omega
   apply F 3 [0] m;simp only[↓Z];refine aA aI ?_;replace m:=m.nilO 170 6;apply aL 6 [0] m;simp only[↓Z];refine aA (gR qY mP O O (ab _) (by omega) (by omega)) ?_;simp only[J];refine bJ m 0 O O qY yB O (by decide) O O (by rw[dZ Bk,bf,de (show j<=B.length by omega)]) ((((m.o 2 O).lat Bk (by decide)).take (k:=j) (by omega)).cells Bk (by decide)) (Jg _) (by omega) (by omega) ?_;intro f i u m;simp only[zF,zG] at m;rw[cv,ae] at m;simp only[ae];apply aL 6 [2,0] m;simp only[↓Z,Ke];refine Pq O ?_;intro u I g h s;replace m:=m.newB g h s;simp only[J];refine bJ m 1 O O qY yB O (by decide) O O O (m.b 0 O).rowsO (fU O) (by omega) (by omega) ?_;intro f i u m;simp only[zF,zG] at m;apply aL 6 [0] m;simp only[↓Z];refine aA (gS qY mP O O (ab _) (by omega) (by omega) O) ?_;simp only[J];refine bJ m 1 O O qY yB O (by decide) O O (by rw[dZ Bk,ef,y]) (((m.o 3 O).lat Bk (by decide)).cellsD Bk (by decide) (by omega)) (Jg _) (by omega) (by omega) ?_;intro f i u m;simp only[zF,zG] at m;refine aA aI ?_;simp only[J];replace m:=(m.pull 1 O).mv 2 O;simp only[bG,bH,zF,zG] at m;apply aL 7 [0] m;simp only[↓Z];apply R;omega;exact p (d-(k+1)) _ _ (by omega) (by kernel_rfl) ⟨k+1,_,_,_,(B.take j++[e]++B.drop j),O,((m.reO 2 O ((m.o 2 O).as (by rw[au,au];rfl))).sel [X7,X7,N,N]),by omega,by omega,rfl⟩
  apply aQ 7 [1,1,0] m;simp only[↓Z,yN,aW,Ys,ac,C,aa];apply R;omega;refine bY m O O (Nk (es:=jT ts) (e:=(e.2,e.1)) _ ((m.o 2 O).lat Bk (by decide)) (by omega)) ?_;rintro v u m rfl;apply aL 15 [1,0,0,0,0,0] m;simp only[↓Z];apply R;omega;exact p (d-(k+1)) _ _ (by omega) (by kernel_rfl) ⟨k+1,_,_,_,B,O,(m.sel [X7,N,N]),by omega,by omega,O⟩
 apply F 7 [] m;simp only[↓Z];exact aS O O ⟨_,O,m.ext,B,⟨_,_,_,((m.o 0 O).num Bk (by decide)).symm,O,(m.o 0 O)⟩,by have:=(m.o 0 O).num Bk (by decide);omega⟩
def alN{A:Option Addr}(w:an)(g:cI w A vi ts)(I:vi<=100000000):cX X9 150 [.slice A vi cap,.bool N] w (λv _=>∃z,v=U z):=by
 refine⟨bP func150 (by kernel_rfl),?_⟩;have m:=Mem.refl w;have ar:=g.len;have ao:=Dc ts;have am:=uX ts
 go_enter func150,ntmps150
 apply iD 10 [0] m;simp only[↓Z];refine bT [5] [4,11,12,13,14,15,16,17,18,19,20,21,22,23,24,25,26,27,28,29,30,31,32,33,34,35,36,37,38,39,40,41,42,43,44,45,46,47,48,49,50,51,52,53] (λn vs h=>∃(k:Nat),vs=[U (k:Int)]/\Mem w h []/\(k<=vi)/\(n=vi-k)) ?_ ?_
 .exact⟨_,0,O,m,bm _,O⟩
 intro n vs B f u V M;obtain⟨k,rfl,m,s,y⟩:=f;simp only[zu,zF,zG];apply F 8 [0,0] m;simp only[↓Z,gN];refine aZ O ?_ ?_<;>intro ad
 .obtain⟨t,Y,_,a,rfl,d⟩:=g.get (i:=k) (by omega);apply F 4 [0] m;simp only[↓Z];refine mq m aB (by kernel_rfl) (cW 13 [0,0,0,0,12,0,0,0,0] ?_);simp only[↓Z,eY,cD,ab,ae,ac,C,aa];refine⟨_,λu m=>((iX.cor ((d.ext m.ext)) (c:=0) (by decide)).lies aM aD),_,λu m=>((iX.cor ((d.ext m.ext)) (c:=1) (by decide)).lies aM aD),_,fX,_,λu m=>((iX.cor ((d.ext m.ext)) (c:=1) (by decide)).lies aM aD),_,λu m=>((iX.cor ((d.ext m.ext)) (c:=2) (by decide)).lies aM aD),_,fX,λ_=>⟨by omega,?_⟩⟩;refine aK aF (xW O (λb=>aF) (xW O (λb=>aF) ?_));simp only[J];refine xW O (λb=>aN gB bK (cG b O) (cG b O) (by omega) (by omega) (kV (ab _))) (xW O (λb=>aR fR aD (cG b O) O (by decide) (by decide) O) ?_);simp only[J];refine Xd O (λb u m=>cT (cG b O) ((iX.cor ((d.ext m.ext)) (c:=2) (by decide)).lies aM aD)) (xW O (λb=>aF) (xW O (λb=>aF) ?_));simp only[J];refine xW O (λb=>aN gB bK (cG b O) (cG b O) (by omega) (by omega) (kV (ab _))) (xW O (λb=>aR fR aD (cG b O) O (by decide) (by decide) O) ?_);simp only[J];refine Xd O (λb u m=>cT (cG b O) ((iX.cor ((d.ext m.ext)) (c:=0) (by decide)).lies aM aD)) (xW O (λb=>rA (cG b O) (cG b O)) (aK (qG O O O) (bD ?_)));intro u m;refine gc ?_;simp only[J];refine iY O ?_ ?_<;>intro af
  .apply F 5 [] m;simp only[↓Z];exact aS O O ⟨_,O,m.ext,_,O⟩
  apply F 7 [0] m;simp only[↓Z];apply R;omega;exact M (vi-(k+1)) _ _ (by omega) (by kernel_rfl) ⟨k+1,O,m,by omega,O⟩
 apply F 4 [0] m;simp only[↓Z];refine bB O O (ad5 _ (g.ext m.ext) (by omega)) ?_;rintro v u q ⟨D,S,j,ap,rfl,r⟩;replace m:=m.newO q r;have av:=(m.o 0 rfl).le;apply aL 8 [0] m;simp only[↓Z];refine bT [7] [4,56,57,58,59,60,61,62,63,64,65,66,67,68] (λn vs h=>∃(k:Nat),vs=[U (k:Int)]/\Mem w h [oI 170 6 D j S ((jT ts).flatMap dE)]/\(k<=j)/\(n=j-k)) ?_ ?_
 .exact⟨_,0,O,m,bm _,O⟩
 intro n vs B f u W P;obtain⟨k,rfl,m,s,y⟩:=f;simp only[zu,zF,zG];apply F 8 [0,0] m;simp only[↓Z,yL];refine aZ O ?_ ?_<;>intro ai
 .obtain⟨e,K⟩:∃e,(jT ts)[k]? = H e:=⟨_,ah (by omega)⟩
  obtain⟨G,rfl⟩:=(m.o 0 rfl).some (by omega);apply F 10 [0,4,0] m;simp only[↓Z,yM,ab,ae];refine⟨_,λu m=>(lA (((m.o 0 O).at Bk K).lies Dd mP)),by omega,?_⟩;refine bY m O O (Nk (es:=jT ts) (e:=e) _ ((m.o 0 O).lat Bk (by decide)) (by omega)) ?_;rintro v u m rfl;apply aL 2 [0,0] m;simp only[↓Z];refine aZ O ?_ ?_<;>intro aj
  .apply F 5 [] m;simp only[↓Z];exact aS O O ⟨_,O,m.ext,_,O⟩
  apply F 7 [0] m;simp only[↓Z];apply R;omega;exact P (j-(k+1)) _ _ (by omega) (by kernel_rfl) ⟨k+1,O,m,by omega,O⟩
 apply F 18 [0,0,0,0,0] m;simp only[↓Z,iq,ik];refine bB O O (Kg _ (g.ext m.ext) I) ?_;rintro v u q ⟨E,T,l,aq,rfl,r⟩;replace m:=m.newO q r;have aw:=(m.o 0 rfl).le;apply aL 8 [0] m;simp only[↓Z];refine bT [9] [4,10,79,80,81,82,83,84,85,86,87,88,89,90,91] (λn vs h=>∃(k:Nat),vs=[U (k:Int)]/\Mem w h [oI 41 3 E l T ((bM ts).flatMap kS)]/\(k<=l)/\(n=l-k)) ?_ ?_
 .exact⟨_,0,O,(m.sel [N,X7]),bm _,O⟩
 intro n vs B f u X Q;obtain⟨k,rfl,m,s,y⟩:=f;simp only[zu,zF,zG];apply F 8 [0,0] m;simp only[↓Z,gZ];refine aZ O ?_ ?_<;>intro ak
 .obtain⟨x,L⟩:∃x,(bM ts)[k]? = H x:=⟨_,ah (by omega)⟩
  obtain⟨G,rfl⟩:=(m.o 0 rfl).some (by omega);apply F 10 [0,0,0] m;simp only[↓Z,gK,ab,ae];refine⟨_,λu m=>(lA (((m.o 0 O).at xG L).lies aM aD)),by omega,?_⟩;refine bY m O O (afv (p:=x) _ (g.ext m.ext) (by omega)) ?_;rintro v u m ⟨au,rfl⟩;apply aL 6 [0] m;simp only[↓Z];refine iY O ?_ ?_<;>intro al
  .apply F 5 [] m;simp only[↓Z];exact aS O O ⟨_,O,m.ext,_,O⟩
  apply F 7 [0] m;simp only[↓Z];apply R;omega;exact Q (l-(k+1)) _ _ (by omega) (by kernel_rfl) ⟨k+1,O,m,by omega,O⟩
 apply F 6 [] m;simp only[↓Z];exact aS O O ⟨_,O,m.ext,_,O⟩
def yR{A:Option Addr}(w:an)(b:cI w A vi ts)(a:vi<=100000000):cX X9 97 [.slice A vi cap] w (λv _=>∃z,v=U z):=by
 refine⟨bP func97 (by kernel_rfl),?_⟩;have m:=Mem.refl w
 go_enter func97,ntmps97
 apply iD 7 [0] m;simp only[↓Z];refine bY m O O (alN _ (b.ext m.ext) a) ?_;rintro v u m ⟨z,rfl⟩;apply aL 3 [] m;simp only[↓Z];exact aS O O ⟨_,O,m.ext,_,O⟩
end
section
attribute [local irreducible] be c_ fS cE cP Code.wp
end
end Go.Proofs.YtbbokjbcdkgfgaaGreatDoor
namespace Go.Lith
open Go.RowKit Go.ChangeMaps Go.MapKept
section
variable{K V:Type}[DecidableEq K]{P:B}{T M E ty:ba}{ek:K->am}{en:V->am}{w w0:an}{g c:Nat}{es:Array MapEntry}{D:List (K×V)}
variable{is:List It}{ds:List d_}{l:List am}{x y z:cw}{ops:Array Oper}{Q:Exit->Act->an->Prop}{rest:List Oper}{d:Nat}{pos:String}{after:Array Edge}
end
end Go.Lith
namespace Go.Proofs.YtbbokjbcdkgfgaaGreatDoor
open Go.Proofs.Tryz
open Go.RowKit Go.Lith
set_option maxRecDepth 100000
section
attribute [local irreducible] be c_ fS cE cP Code.wp
attribute [local congr] fE fF eN fD
variable{t:T3}
def aps(e:t.b.Lt t.a)(d:t.c.Lt t.b):j t=⟨t.c,t.a,t.b⟩:=Z9 ⟨Y.lt_trans d e,.inl d⟩
def apt(d:t.b.Lt t.a)(e:¬t.c.Lt t.b):j t=⟨t.b,t.c,t.a⟩:=by rw[j,K0 (λh=>h.2.elim e λk=>k d),Z9 d]
def apu(d:¬t.b.Lt t.a)(e:t.c.Lt t.a):j t=⟨t.c,t.a,t.b⟩:=Z9 ⟨e,.inr d⟩
def apv(d:¬t.b.Lt t.a)(e:¬t.c.Lt t.a):j t=t:=by rw[j,K0 (λh=>e h.1),K0 d]
def afF  : dO X9 112 [tr t] (tr (j t)):=by
 intro w;refine⟨bP func112 (by kernel_rfl),?_⟩;have m:=Mem.refl w
 go_enter func112,ntmps112
 apply gJ 28 [3,1,0] m;simp only[↓Z,uE];intro e f;apply R;omega;intro u m;refine mq m aB (by kernel_rfl) (cW 6 [2,2] ?_);simp only[↓Z,cD,aW,ac,C,aa];apply R;omega;refine X O O Hy.pure (bD ?_);intro u m;refine gc ?_;simp only[J];refine aZ O ?_ ?_<;>intro a
 .have d:=a;apply F 22 [1,0] m;simp only[↓Z,M];apply R;omega;refine mq m aB (by kernel_rfl) (cW 6 [2,2] ?_);simp only[↓Z,cD,aW,ac,C,aa];apply R;omega;refine X O O Hy.pure (bD ?_);intro u m;refine gc ?_;simp only[J];refine aZ O ?_ ?_<;>intro a
  .have c:=a;apply F 20 [2,0] m;simp only[↓Z,M];apply R;omega;refine cC m 14 aB (by kernel_rfl) ?_;simp only[zy];refine cW 5 [2] ?_;simp only[↓Z,cD,aW,ac,C,aa,M];apply R;omega;refine aK (cS (m:=3) (n:=3) (r:=0) O O (by decide) (by decide)) (cW 4 [2] ?_);simp only[↓Z,cD,aW,ac,C,aa,M];apply R;omega;refine aK (cS (m:=4) (n:=3) (r:=1) O O (by decide) (by decide)) (cW 3 [2] ?_);simp only[↓Z,cD,aW,Ah,ac,C,aa];apply R;omega;refine bD ?_;intro u m;refine aX m 0 O O O bK (eU O) O ?_;intro u m;simp only[zy,zx,over,zF,zG,aa] at m;refine S ?_;apply aQ 1 [] m;simp only[↓Z];refine aS O ⟨_,O,((m.b 0 O).full eD bK)⟩ ?_;try simp only[zD,zE]
   exact⟨_,O,m.ext,by rw[aps d c];rfl⟩
  have c:=a;apply F 17 [2,0] m;simp only[↓Z,M];apply R;omega;refine cC m 14 aB (by kernel_rfl) ?_;simp only[zy];refine cW 5 [2] ?_;simp only[↓Z,cD,aW,ac,C,aa,M];apply R;omega;refine aK (cS (m:=2) (n:=3) (r:=2) O O (by decide) (by decide)) (cW 4 [2] ?_);simp only[↓Z,cD,aW,ac,C,aa,M];apply R;omega;refine aK (cS (m:=3) (n:=3) (r:=0) O O (by decide) (by decide)) (cW 3 [2] ?_);simp only[↓Z,cD,aW,Ah,ac,C,aa];apply R;omega;refine bD ?_;intro u m;refine aX m 0 O O O bK (eU O) O ?_;intro u m;simp only[zy,zx,over,zF,zG,aa] at m;refine S ?_;apply aQ 1 [] m;simp only[↓Z];refine aS O ⟨_,O,((m.b 0 O).full eD bK)⟩ ?_;try simp only[zD,zE]
  exact⟨_,O,m.ext,by rw[apt d c];rfl⟩
 have d:=a;apply F 19 [1,0] m;simp only[↓Z,M];apply R;omega;refine mq m aB (by kernel_rfl) (cW 6 [2,2] ?_);simp only[↓Z,cD,aW,ac,C,aa];apply R;omega;refine X O O Hy.pure (bD ?_);intro u m;refine gc ?_;simp only[J];refine aZ O ?_ ?_<;>intro a
 .have c:=a;apply F 20 [2,0] m;simp only[↓Z,M];apply R;omega;refine cC m 14 aB (by kernel_rfl) ?_;simp only[zy];refine cW 5 [2] ?_;simp only[↓Z,cD,aW,ac,C,aa,M];apply R;omega;refine aK (cS (m:=3) (n:=3) (r:=0) O O (by decide) (by decide)) (cW 4 [2] ?_);simp only[↓Z,cD,aW,ac,C,aa,M];apply R;omega;refine aK (cS (m:=4) (n:=3) (r:=1) O O (by decide) (by decide)) (cW 3 [2] ?_);simp only[↓Z,cD,aW,Ah,ac,C,aa];apply R;omega;refine bD ?_;intro u m;refine aX m 0 O O O bK (eU O) O ?_;intro u m;simp only[zy,zx,over,zF,zG,aa] at m;refine S ?_;apply aQ 1 [] m;simp only[↓Z];refine aS O ⟨_,O,((m.b 0 O).full eD bK)⟩ ?_;try simp only[zD,zE]
  exact⟨_,O,m.ext,by rw[apu d c];rfl⟩
 have c:=a;apply F 17 [2,0] m;simp only[↓Z,M];apply R;omega;refine cC m 14 aB (by kernel_rfl) ?_;simp only[zy];refine cW 5 [2] ?_;simp only[↓Z,cD,aW,ac,C,aa,M];apply R;omega;refine aK (cS (m:=1) (n:=3) (r:=1) O O (by decide) (by decide)) (cW 4 [2] ?_);simp only[↓Z,cD,aW,ac,C,aa,M];apply R;omega;refine aK (cS (m:=2) (n:=3) (r:=2) O O (by decide) (by decide)) (cW 3 [2] ?_);simp only[↓Z,cD,aW,Ah,ac,C,aa];apply R;omega;refine bD ?_;intro u m;refine aX m 0 O O O bK (eU O) O ?_;intro u m;simp only[zy,zx,over,zF,zG,aa] at m;refine S ?_;apply aQ 1 [] m;simp only[↓Z];refine aS O ⟨_,O,((m.b 0 O).full eD bK)⟩ ?_;try simp only[zD,zE]
 exact⟨_,O,m.ext,by rw[apv d c];rfl⟩
end
section
attribute [local irreducible] be c_ fS cE cP Code.wp
def apw{x y z:Int}{d:Nat}(w:an)(c:fQ w d [U x,U y,U z] 3):anb X9 168 [.slice (H ⟨d,0,X8⟩) 3 3] w (U (if x=0 then if y=0 then z else y else x)):=by
 refine⟨bP func168 (by kernel_rfl),?_⟩;have m:=kE.refl w
 go_enter func168,ntmps168
 refine L λT g=>f (aA aI (S (g _ _ ?_)));try clear g T
 refine L λV h=>f (aA aI (S (h _ _ ?_)));try clear h V
 refine L λW i=>L λX j=>f (aA aF (aA (iL O cF O) ?_));simp only[J];refine aA aF (S (j _ _ ?_));try clear j X
 refine gn (wp_loop_rounds 4 (Bf (L λY k=>f (aA (oC (m:=0) (n:=3) O O (by decide)) (S (k _ _ ?_))))));try clear k Y
 refine L λZ l=>mX O (gg (l _ _ ?_));try clear l Z
 refine L λK7 o=>gn (L λK8 p=>f ?_);simp only[J];refine aA (aN cF bC O O (by decide) (by omega) O) ?_;simp only[J];refine bA O ((c.ext m.ext.ext).lies1 bW O) ?_;simp only[J];refine aA aI (S (p _ _ ?_));try clear p K8
 refine L λK9 q=>f (aA aF (aA aF (aA (sS O O) ?_)));simp only[J];refine S (q _ _ ?_);try clear q K9
 refine aZ O ?_ ?_<;>intro a
 .refine L λaa s=>f (aA aF (aA aI (S (s _ _ ?_))));try clear s aa
  refine gh ?_;simp only[J];try simp only[t,Exit.then,Y4]
  refine aS O O ?_;try simp only[zD,zE]
  exact⟨_,O,m.ext,by rw[K0 a]⟩
 have b:x=0:=by omega
 refine gg (o _ _ ?_);try clear o K7
 refine f (aA (eH (m:=0) (n:=1) (r:=1) O O (by decide)) (aA aF (S (jD (L λab u=>f (aA (oC (m:=1) (n:=3) O O (by decide)) (S (u _ _ ?_))))))));try clear u ab
 refine L λad v=>mX O (gg (v _ _ ?_));try clear v ad
 refine L λae A=>gn (L λaf B=>f ?_);simp only[J];refine aA (aN cF bC O O (by decide) (by omega) O) ?_;simp only[J];refine bA O ((c.ext m.ext.ext).lies1 bW O) ?_;simp only[J];refine aA aI (S (B _ _ ?_));try clear B af
 refine L λag C=>f (aA aF (aA aF (aA (sS O O) ?_)));simp only[J];refine S (C _ _ ?_);try clear C ag
 refine aZ O ?_ ?_<;>intro a
 .refine L λah D=>f (aA aF (aA aI (S (D _ _ ?_))));try clear D ah
  refine gh ?_;simp only[J];try simp only[t,Exit.then,Y4]
  refine aS O O ?_;try simp only[zD,zE]
  exact⟨_,O,m.ext,by rw[Z9 b,K0 a]⟩
 have e:y=0:=by omega
 refine gg (A _ _ ?_);try clear A ae
 refine f (aA (eH (m:=1) (n:=1) (r:=2) O O (by decide)) (aA aF (S (jD (L λai E=>f (aA (oC (m:=2) (n:=3) O O (by decide)) (S (E _ _ ?_))))))));try clear E ai
 refine L λak F=>mX O (gg (F _ _ ?_));try clear F ak
 refine L λal G=>gn (L λam I=>f ?_);simp only[J];refine aA (aN cF bC O O (by decide) (by omega) O) ?_;simp only[J];refine bA O ((c.ext m.ext.ext).lies1 bW O) ?_;simp only[J];refine aA aI (S (I _ _ ?_));try clear I am
 refine L λao K=>f (aA aF (aA aF (aA (sS O O) ?_)));simp only[J];refine S (K _ _ ?_);try clear K ao
 refine aZ O ?_ ?_<;>intro a
 .refine L λap M=>f (aA aF (aA aI (S (M _ _ ?_))));try clear M ap
  refine gh ?_;simp only[J];try simp only[t,Exit.then,Y4]
  refine aS O O ?_;try simp only[zD,zE]
  exact⟨_,O,m.ext,by rw[Z9 b,Z9 e]⟩
 have hz:z=0:=by omega
 refine gg (G _ _ ?_);try clear G al
 refine f (aA (eH (m:=2) (n:=1) (r:=3) O O (by decide)) (aA aF (S (jD (L λaq P=>f (aA (vR (m:=3) (n:=3) O O (by decide)) (S (P _ _ ?_))))))));try clear P aq
 refine L λau av=>Aj O (wp_exit (i _ _ ?_));try clear i W
 refine L λar Q=>f (aA aF ?_);simp only[J];refine aA aI (S (Q _ _ ?_));try clear Q ar
 refine gh ?_;simp only[J];try simp only[t,Exit.then,Y4]
 refine aS O O ?_;try simp only[zD,zE]
 exact⟨_,O,m.ext,by rw[Z9 b,Z9 e,hz]⟩
def acR(s t:T3):Int:=if Je s.a t.a=0 then if Je s.b t.b=0 then Je s.c t.c else Je s.b t.b else Je s.a t.a
def Hz(s t:T3):(acR s t<0)↔s.Lt t:=by
 unfold acR T3.Lt;split
 . rename_i h
   have c:=Dl.1 h;have f:¬s.a.Lt t.a:=λk=>Y.lt_irrefl _ (c▸k);split
   . rename_i g
     have d:=Dl.1 g;have i:¬s.b.Lt t.b:=λk=>Y.lt_irrefl _ (d▸k);rw[Px];simp[c,d,Y.lt_irrefl]
   rename_i g
   have d:¬s.b=t.b:=λe=>g (Dl.2 e);rw[Px];simp[c,d,Y.lt_irrefl]
 rename_i h
 have c:¬s.a=t.a:=λe=>h (Dl.2 e);rw[Px];simp[c]
instance:Inhabited T3:=⟨⟨⟨0,0,0⟩,⟨0,0,0⟩,⟨0,0,0⟩⟩⟩
def aiL:Go.Sort.SWO (Go.Proofs.ltOf acR) where
 irrefl a:=by simp only[Go.Proofs.ltOf,Y7,Hz];exact T3.lt_irrefl a
 trans x y z h1 h2:=by
  simp only[Go.Proofs.ltOf,Y2,Hz] at *
  exact T3.lt_trans h1 h2
 ntrans x y z h1 h2:=by
  simp only[Go.Proofs.ltOf,Y7,Hz] at *
  intro h;rcases T3.lt_tri y x with k|k|k
  .exact Y0 (T3.lt_trans k h) (by first|exact h2|exact h1)
  .subst k;first|exact h2 h|exact h1 h
  first|exact h1 k|exact h2 k
def Yz(t:T3):∀v∈aP t,v.oneCell'=N:=λv h=>by
 simp only[aP,List.mem_cons,List.not_mem_nil,Y3] at h;rcases h with rfl|rfl|rfl|rfl|rfl|rfl|rfl|rfl|rfl<;>rfl
def alO{p q:T3}:Ab X9 114 [tr p,tr q] (U (acR p q)):=by
 intro w;refine⟨bP func114 (by kernel_rfl),?_⟩;have m:=kE.refl w
 go_enter func114,ntmps114
 refine L λg d=>f (xV m O ?_);intro i u m;simp only[J];refine xV m O ?_;intro j u m;refine aA aI (S (d _ _ ?_));try clear d g
 refine L λh e=>?_;simp only[J];refine ag2 m 15 aB (by kernel_rfl) ?_;simp only[zy];refine aK (aR fR aD O O (by decide) (by decide) O) ?_;simp only[J];refine Gql O (λu m=>((m.b 1 O).lies aM aD O O)) ?_;simp only[J,zy,ae,aa,C,ac];refine aK (aR fR aD O O (by decide) (by decide) O) ?_;simp only[J];refine Gql O (λu m=>((m.b 0 O).lies aM aD O O)) ?_;simp only[J,zy,ae,aa,C,ac];refine Xc O O (Yx (p:=p.a) (q:=q.a)) (aK (aR fR aD O O (by decide) (by decide) O) ?_);simp only[J];refine Gql O (λu m=>((m.b 1 O).lies aM aD O O)) ?_;simp only[J,zy,ae,aa,C,ac];refine aK (aR fR aD O O (by decide) (by decide) O) ?_;simp only[J];refine Gql O (λu m=>((m.b 0 O).lies aM aD O O)) ?_;simp only[J,zy,ae,aa,C,ac];refine Xc O O (Yx (p:=p.b) (q:=q.b)) (aK (aR fR aD O O (by decide) (by decide) O) ?_);simp only[J];refine Gql O (λu m=>((m.b 1 O).lies aM aD O O)) ?_;simp only[J,zy,ae,aa,C,ac];refine aK (aR fR aD O O (by decide) (by decide) O) ?_;simp only[J];refine Gql O (λu m=>((m.b 0 O).lies aM aD O O)) ?_;simp only[J,zy,ae,aa,C,ac];refine Xc O O (Yx (p:=p.c) (q:=q.c)) (bD ?_);intro u m;simp only[J];refine aiI m cF (z:=U 0) (by kernel_rfl) O O O O O O O ?_;intro k u m;simp only[J];refine alM m O O (apw _ (m.b 0 O)) ?_;intro u m;refine aA aI (S (e _ _ ?_));try clear e h
 refine gh ?_;simp only[J];try simp only[t,Exit.then,Y4]
 refine aS O O ?_;try simp only[zD,zE]
 exact⟨_,O,m.ext,O⟩
end
section
attribute [local irreducible] be c_ fS cE cP Code.wp
attribute [local congr] fE fF eN fD
def afG{w0 w:an}{is:List It}{A:Option Addr}{n cap:Nat}{xs:List T3}(m:Mem w0 w is)(k:Nat)(c:is[k]? = H (oI 43 9 A n cap (xs.flatMap aP)))(d:n<4611686018427387904) :
 Calls X9 113 [.slice A n cap,.func (.func 114) #[] #[]].toArray w λe w'=>∃v i,e=.returned v/\Mem w0 w' (is.set k i)/\(v=.tuple #[]/\∃ys:List T3,i=oI 43 9 A n cap (ys.flatMap aP)/\ys.Perm xs/\ys.Pairwise λa b=>ltOf acR b a=X7):=
 aiK (enc:=aP) Tryz.sort113 (λw=>xK eD w) (λw=>fO bK w) (λ_=>rfl) (by decide) Yz acR aiL (λx y=>alO) m k c d
def acS{ts ys:List T3}(h:ys.Perm (ts.map j))(c:ys.Pairwise λa b=>Go.Proofs.ltOf acR b a=X7):ys=bS ts:=
 ahZ h (c.imp λ{a b} h k=>by
  have:=(Hz b a).2 k;simp[Go.Proofs.ltOf] at h;omega)
def aiM{ts:List T3}{c cap:Nat}{A:Option Addr}(w:an)(f:cI w A c ts)(G:c<=100000000):cX X9 66 [.slice A c cap] w (SL 43 9 ((bS ts).flatMap aP) ts.length w):=by
 refine⟨bP func66 (by kernel_rfl),?_⟩;have m:=Mem.refl w;have y:=f.len
 go_enter func66,ntmps66
 apply iD 6 [0] m;simp only[↓Z];refine aA aI ?_;replace m:=m.nilO 43 9;apply aL 9 [0] m;simp only[↓Z,gN];refine bT [3,8] [5,9,10,11,12,13,14,15,16,17] (λn vs r=>∃(k:Nat)(d:Option Addr)(e:Nat),vs=[.slice d k e,U (k:Int)]/\Mem w r [oI 43 9 d k e (((ts.take k).map j).flatMap aP)]/\(k<=c)/\(n=c-k)) ?_ ?_
 .exact⟨_,0,_,_,O,m,bm _,O⟩
 intro n vs L h u C s
 obtain⟨k,d,e,rfl,m,I,K⟩:=h;simp only[zu,zF,zG];apply F 5 [0,0] m;simp only[↓Z];refine aZ O ?_ ?_<;>intro M
 .obtain⟨t,p,_,a,rfl,B⟩:=f.get (i:=k) (by omega);apply qW 13 [0,1,0,1,0] m;simp only[↓Z,eY,uE,fM,ab,ae,aa];refine⟨_,λu m=>((B.ext m.ext).lies eD bK),λD=>⟨by omega,?_⟩⟩;intro u m;refine eV m O O afF ?_;intro u m;simp only[J];refine jL O ?_;intro u E g l q;replace m:=m.newB g l q;simp only[J];refine bJ m 2 O O gB mS O (by decide) O O O (m.b 0 O).rowsO (fU O) (by omega) (by omega) ?_;intro d e u m;simp only[zF,zG] at m;rw[show ((ts.take k).map j).flatMap aP++_=((ts.take (k+1)).map j).flatMap aP by rw[cZ p,dh,au];rfl] at m;apply aL 7 [0] m;simp only[↓Z];apply R;omega;exact s (c-(k+1)) _ _ (by omega) (by kernel_rfl) ⟨k+1,_,_,O,(m.sel [X7,X7,N]),by omega,O⟩
 obtain rfl:k=c:=by omega
 rw[show ts.take k=ts from ap (by omega)] at m;apply F 4 [0] m;simp only[↓Z];refine Xx m 0 (bP func113 (by kernel_rfl)) O O (λm=>afG m 0 O (by omega)) ?_;rintro v i u m ⟨rfl,ys,rfl,z,x⟩;simp only[zF,zG] at m;simp only[J];obtain rfl:=acS z x;apply aL 7 [] m;simp only[↓Z];exact aS O O ⟨_,O,m.ext,⟨_,_,_,y.symm,O,(m.o 0 O)⟩⟩
end
section
attribute [local irreducible] be c_ fS cE cP Code.wp
variable{u x q:Y}
def aiN{v:Y}(h:x.x=u.x/\x.y=u.y/\x.z=u.z):Au u v x=v:=by
 rw[show x=u from Y.eq h.1 h.2.1 h.2.2];exact amW
def acT{v:Y}(h:¬(x.x=u.x/\x.y=u.y/\x.z=u.z)):Au u v x=x:=amX λe=>h (by rw[e];exact⟨rfl,rfl,rfl⟩)
def pne{p:Y}:decide (¬(p.x=q.x/\p.y=q.y/\p.z=q.z))=decide (p≠q):=decide_eq_decide.2 ⟨λh e=>h (by rw[e];exact⟨rfl,rfl,rfl⟩),λh e=>h (Y.eq e.1 e.2.1 e.2.2)⟩
def afH{p:Y}{ts:List T3}{k:Nat}{t:T3}(h:ts[k]? = H t):Dy p q (ts.take (k+1))=Dy p q (ts.take k)++if (Fl p q t).nd then [Fl p q t] else []:=by
 rw[cZ h];unfold Dy;rw[dh,List.filter_append]
 congr 1
 rw[List.map_cons,List.map_nil,List.filter_cons,List.filter_nil]
theorem Kj{p:Y}(a:I3 q)(b:I3 x):I3 (Au p q x):=by
 unfold Au;split
 .exact a
 exact b
theorem Za{p:Y}{ts:List T3}(d:I3 q)(h:∀t∈ts,IT t):∀t∈Dy p q ts,IT t:=λt f=>by
 obtain⟨s,e,rfl⟩:=du.1 (List.mem_filter.1 f).1;have:=h s e;exact⟨Kj d this.a,Kj d this.b,Kj d this.c⟩
def aa9{p:Y}(ts:List T3):(Qj ts p q).length=(Dy p q ts).length:=jZ _
end
end Go.Proofs.YtbbokjbcdkgfgaaGreatDoor
namespace Go.Lith
open Go.RowKit
end Go.Lith
namespace Go.Proofs.YtbbokjbcdkgfgaaGreatDoor
open Go.Proofs.Tryz
open Go.RowKit Go.Lith
set_option maxRecDepth 100000
section
attribute [local irreducible] be c_ fS cE cP Code.wp
end
section
attribute [local irreducible] be c_ fS cE cP Code.wp
attribute [local congr] fE fF eN fD
variable{A:Option Addr}{cap na nb ca cb:Nat}{xs ys:List Nat}
def mM{os:List Nat}{x:Nat}:os.map oE++[U (x:Int)]=(os++[x]).map oE:=by simp[oE]
def Ra{w0 w:an}{S:List (Option Nat)}{E:ba}{n:Nat}{os:List Nat}(h:Ow w0 w S E 1 A n cap (os.map oE))(d:n=os.length)(b:G 65536 os)(c:n<=17592186044416):eE w w.heap.size A n cap os/\∀a,A=H a->w0.heap.size<=a.block:=by
 obtain⟨_,_,e,r⟩:=eE.of_owns (show wJ w w0.heap.size E 1 (.slice A n cap) n _ from h.own) d b c;cases e;exact r
def rE{b:Nat}(w:an)(c:eE w b A na cap xs):cX X9 89 [.slice A na cap] w (λv _=>v=.slice A (trim xs).length cap):=by
 refine⟨bP func89 (by kernel_rfl),?_⟩;have m:=Mem.refl w;obtain rfl:=c.eq;have p:=c.len;have t:=c.le;have s:=c.cap
 go_enter func89,ntmps89
 apply iD 6 [0] m;simp only[↓Z];refine bT [0] [3,4,5,6,7,8,9,10,11,12,13,14,15,16,17,18,19] (λn vs h=>∃(k:Nat),vs=[.slice A k cap]/\Mem w h []/\(k<=xs.length)/\(trim (xs.take k)=trim xs)/\(n=k)) ?_ ?_
 .exact⟨_,xs.length,O,m,bg _,by rw[ga],O⟩
 intro n vs r g u l i;obtain⟨k,rfl,m,o,d,q⟩:=g;simp only[zu,zF,zG];apply F 2 [] m;simp only[↓Z];by_cases f:0<k
 .obtain⟨a,rfl,j,x⟩:=c.get (show k-1<xs.length by omega);apply aQ 9 [1,0,0,0,0,0] m;simp only[↓Z,gG];apply R;omega;refine bQ O (aA (aN cF bC O O (by omega) (by omega) (lK (show _=k-1 by omega))) ?_);apply aL 4 [0,0,2,0,0,0] m;simp only[↓Z];refine⟨_,λu m=>(lies1 (m.ext.cell j) bW),?_⟩;refine aZ O ?_ ?_<;>intro e
  .apply F 7 [0] m;simp only[↓Z,gG];apply R;omega;refine aA (gR cF bC O O (show _=k-1 by omega) (by omega) (by omega)) ?_;apply aL 3 [0] m;simp only[↓Z];exact i (k-1) _ _ (by omega) (by kernel_rfl) ⟨k-1,O,m,by omega,Tt f (by omega) e d,O⟩
  apply F 7 [] m;simp only[↓Z];refine aS O O ?_;try simp only[zD,zE]
  exact⟨_,O,m.ext,by rw[<-aaf f (by omega) e d]⟩
 obtain rfl:k=0:=by omega
 apply aQ 22 [2,0,0,0,0,0,0,0] m;simp only[↓Z,gG];apply R;omega;refine aS O O ?_;try simp only[zD,zE]
 exact⟨_,O,m.ext,by rw[<-aag d]⟩
def xC{B:Option Addr}{b h:Nat}(w:an)(d:eE w b A na ca xs)(c:eE w h B nb cb ys)(l:iI xs)(ty:iI ys):cX X9 49 [.slice A na ca,.slice B nb cb] w (λv _=>v=U (Wm (val 65536 xs) (val 65536 ys))):=by
 refine⟨bP func49 (by kernel_rfl),?_⟩;have m:=Mem.refl w;obtain rfl:=d.eq;obtain rfl:=c.eq;have t:=d.len;have G:=c.len
 go_enter func49,ntmps49
 apply iD 13 [0,0] m;simp only[↓Z,gG];refine aZ O ?_ ?_<;>intro z
 .apply F 9 [0,0] m;simp only[↓Z,gG];refine aZ O ?_ ?_<;>intro C
  .apply F 5 [] m;simp only[↓Z];refine aS O O ?_;try simp only[zD,zE]
   exact⟨_,O,m.ext,by rw[Wm,Z9 (lJ (by omega) d.digs c.digs ty (by omega))]⟩
  apply F 6 [] m;simp only[↓Z];refine aS O O ?_;try simp only[zD,zE]
  exact⟨_,O,m.ext,by have:=lJ (B:=65536) (by omega) c.digs d.digs l (by omega);rw[Wm,K0 (by omega),Z9 this]⟩
 apply F 10 [0] m;simp only[↓Z,gG];apply R;omega;refine bT [5] [4,19,20,21,22,23,24,25,26,27,28,29,30,31,32,33,34,35,36,37,38,39,40] (λn vs o=>∃(k:Nat),vs=[U ((k:Int)-1)]/\Mem w o []/\(k<=xs.length)/\(xs.drop k=ys.drop k)/\(n=k)) ?_ ?_
 .exact⟨_,xs.length,O,m,bg _,by rw[j_,show xs.length=ys.length by omega,j_],O⟩
 intro n vs y j u r p;obtain⟨k,rfl,m,s,e,x⟩:=j;simp only[zu,zF,zG];apply F 6 [0,0] m;simp only[↓Z];refine aZ O ?_ ?_<;>intro D
 .apply F 4 [] m;simp only[↓Z];obtain⟨a,rfl,f,_⟩:=d.get (show k-1<xs.length by omega);obtain⟨b,rfl,g,_⟩:=c.get (show k-1<ys.length by omega);refine gc (mq m aB (by kernel_rfl) (aK aF (aK aF ?_)));simp only[J];refine aK (aN cF bC O O (by omega) (by omega) (lK (show _=k-1 by omega))) (cW 3 [0,2] ?_);simp only[↓Z];refine⟨_,λu m=>(lies1 (m.ext.cell f) bW),?_⟩;refine aK (aN cF bC O O (by omega) (by omega) (lK (show _=k-1 by omega))) ?_;simp only[J];refine ql O (λu m=>(lies1 (m.ext.cell g) bW)) ?_;simp only[J];refine aK (sS O O) (bD ?_);intro u m;refine gc ?_;simp only[J];refine aZ O ?_ ?_<;>intro E
  .apply F 2 [] m;simp only[↓Z];have f:=d.at (show k-1<xs.length by omega);have g:=c.at (show k-1<ys.length by omega);refine gc (mq m aB (by kernel_rfl) (aK aF (aK aF ?_)));simp only[J];refine aK (aN cF bC O O (by omega) (by omega) (lK (show _=k-1 by omega))) (cW 3 [0,2] ?_);simp only[↓Z];refine⟨_,λu m=>(lies1 (m.ext.cell f) bW),?_⟩;refine aK (aN cF bC O O (by omega) (by omega) (lK (show _=k-1 by omega))) ?_;simp only[J];refine ql O (λu m=>(lies1 (m.ext.cell g) bW)) ?_;simp only[J];refine aK (oJ O O) (bD ?_);intro u m;refine gc ?_;simp only[J];refine aZ O ?_ ?_<;>intro q
   .apply F 5 [] m;simp only[↓Z];refine aS O O ?_;try simp only[zD,zE]
    exact⟨_,O,m.ext,by rw[Wm,Z9 (aaQ d.digs (by omega) (by omega) (by omega) e q)]⟩
   apply F 6 [] m;simp only[↓Z];refine aS O O ?_;try simp only[zD,zE]
   exact⟨_,O,m.ext,by have:=aaQ c.digs (by omega) (by omega) (by omega) e.symm (by omega);rw[Wm,K0 (by omega),Z9 this]⟩
  apply F 7 [0] m;simp only[↓Z];apply R;omega;rw[show ((k:Int)-1-1)=((k-1:Nat):Int)-1 by omega];exact p (k-1) _ _ (by omega) (by kernel_rfl) ⟨k-1,O,m,by omega,ahP (by omega) (by omega) (by omega) e (by omega),O⟩
 apply F 6 [] m;simp only[↓Z];refine aS O O ?_;try simp only[zD,zE]
 exact⟨_,O,m.ext,by have i:k=0:=(by omega);subst i;simp only[kv] at e;rw[e,Wm,K0 (by omega),K0 (by omega)]⟩
def apx{B:Option Addr}(w:an)(Q:eE w w.heap.size A na ca xs)(I:eE w w.heap.size B nb cb ys)(aj:xs.length<=1000000000000)(ak:ys.length<=1000000000000):cX X9 48 [.slice A na ca,.slice B nb cb] w (aoM (val 65536 xs+val 65536 ys) (max xs.length ys.length+1)):=by
 refine⟨bP func48 (by kernel_rfl),?_⟩;have m:=Mem.refl w;obtain rfl:=Q.eq;obtain rfl:=I.eq;obtain⟨M,hM⟩:∃M,M=max xs.length ys.length:=⟨_,rfl⟩
 rw[<-hM]
 go_enter func48,ntmps48
 apply iD 6 [0] m;simp only[↓Z];refine aA aI ?_;replace m:=m.nilO 3 1;apply aL 11 [0] m;simp only[↓Z];refine bT [5,6,7] [8,9,10,11,12,13,14,15,16,17,18,19,20,21,22,23,24,25,26,27,28,29,30,31,32,33,34,35,36,37,38,39,40,41,42,43,44,45,46,47,48,49,50,51,52] (λn vs wl=>∃(i c:Nat)(os:List Nat)(f:Option Addr)(g:Nat),vs=[.slice f i g,U (c:Int),U (i:Int)]/\Mem w wl [oI 3 1 f i g (os.map oE)]/\(os.length=i)/\(val 65536 os+65536^i*c=val 65536 (xs.take i)+val 65536 (ys.take i))/\(G 65536 os)/\(c<=1)/\(i<=M+1)/\(i=M+1->c=0)/\(n=M+1-i)) ?_ ?_
 .exact⟨_,0,0,[],X8,0,O,m,O,by simp[val],mE _,by omega,by omega,λ_=>rfl,O⟩
 intro n vs wr Y u K1 D;obtain⟨i,c,os,f,g,rfl,m,x,v,y,hc,hi,ag,hn⟩:=Y;simp only[zu,zF,zG];apply F 2 [] m;simp only[↓Z];rcases (show i<xs.length\/(¬i<xs.length/\i<ys.length)\/(¬i<xs.length/\¬i<ys.length/\0<c)\/(¬i<xs.length/\¬i<ys.length/\c=0) by omega) with K|⟨K,V⟩|⟨K,V,al⟩|⟨K,V,rfl⟩
 .apply aQ 34 [1,0,0,0,0,0,0,1] m;simp only[↓Z,gG];apply R;omega;obtain⟨a,rfl,aa,ai⟩:=Q.get (show i<xs.length by omega);apply aQ 9 [0,2] m;simp only[↓Z,lV,ab,ae,bi];refine⟨_,λu m=>(lies1 (m.ext.cell aa) bW),by omega,?_⟩;obtain⟨d,t⟩:∃d:Nat,d=c+xs[i]:=⟨_,rfl⟩
  rw[show ((c:Int)+(xs[i]:Int))=(d:Int) by omega];have S:d=c+xs[i]?.getD 0:=by rw[ah (by omega)];exact t
  have T:d<65537:=by omega
  apply aQ 8 [0,0] m;simp only[↓Z,gG];refine aZ O ?_ ?_<;>intro af
  .obtain⟨W,rfl,L,ad⟩:=I.get (show i<ys.length by omega);apply F 9 [0,2] m;simp only[↓Z,lV,ab,ae,bi];refine⟨_,λu m=>(lies1 (m.ext.cell L) bW),by omega,?_⟩;obtain⟨s,C⟩:∃s:Nat,s=d+ys[i]:=⟨_,rfl⟩
   rw[show ((d:Int)+(ys[i]:Int))=(s:Int) by omega];have e:s=c+xs[i]?.getD 0+ys[i]?.getD 0:=by rw[ah (l:=ys) (by omega)];simp only[dt];omega
   have P:s<131072:=by omega
   apply aQ 4 [0] m;simp only[↓Z];refine aA (cS O O (by omega) (nS (n:=65536))) ?_;simp only[J];refine cO cF (z:=U 0) (by kernel_rfl) O O O ?_;intro u E j k p;replace m:=m.newB j k p;simp only[J];refine bJ m 1 O O cF gM O (by decide) O O O (m.b 0 O).rowsO (fU O) (by omega) (by omega) ?_;intro f g u m;simp only[zF,zG] at m;simp only[zA,zB,zC,zD,zE,mM] at m;apply aL 4 [0] m;simp only[↓Z];refine aA (gL O O (by omega) (oZ (n:=65536) (by omega))) ?_;apply aL 8 [0] m;simp only[↓Z];apply R;omega;obtain⟨q,r⟩:=yG x v y e;rw[show ((i:Int)+1)=((i+1:Nat):Int) by omega];exact D (M+1-(i+1)) _ _ (by omega) (by kernel_rfl) ⟨i+1,s / 65536,os++[s%65536],f,g,O,(m.sel [X7,N]),by simp;omega,q,r,by omega,by omega,λh=>by rw[ct (l:=xs) (by omega),ct (l:=ys) (by omega)] at e;simp at e;omega,rfl⟩
  obtain⟨s,C⟩:∃s:Nat,s=d:=⟨_,rfl⟩
  rw[<-C];have e:s=c+xs[i]?.getD 0+ys[i]?.getD 0:=by rw[ct (l:=ys) (by omega)];simp only[ij];omega
  have P:s<131072:=by omega
  apply F 5 [0] m;simp only[↓Z];refine aA (cS O O (by omega) (nS (n:=65536))) ?_;simp only[J];refine cO cF (z:=U 0) (by kernel_rfl) O O O ?_;intro u E j k p;replace m:=m.newB j k p;simp only[J];refine bJ m 1 O O cF gM O (by decide) O O O (m.b 0 O).rowsO (fU O) (by omega) (by omega) ?_;intro f g u m;simp only[zF,zG] at m;simp only[zA,zB,zC,zD,zE,mM] at m;apply aL 4 [0] m;simp only[↓Z];refine aA (gL O O (by omega) (oZ (n:=65536) (by omega))) ?_;apply aL 8 [0] m;simp only[↓Z];apply R;omega;obtain⟨q,r⟩:=yG x v y e;rw[show ((i:Int)+1)=((i+1:Nat):Int) by omega];exact D (M+1-(i+1)) _ _ (by omega) (by kernel_rfl) ⟨i+1,s / 65536,os++[s%65536],f,g,O,(m.sel [X7,N]),by simp;omega,q,r,by omega,by omega,λh=>by rw[ct (l:=xs) (by omega),ct (l:=ys) (by omega)] at e;simp at e;omega,rfl⟩
 .apply aQ 25 [2,0,0,0,0,1,0,0] m;simp only[↓Z,gG];apply R;omega;obtain⟨d,t⟩:∃d:Nat,d=c:=⟨_,rfl⟩
  rw[<-t];have S:d=c+xs[i]?.getD 0:=by rw[ct (by omega)];exact t
  have T:d<65537:=by omega
  apply aQ 19 [2,1] m;simp only[↓Z,gG];apply R;omega;obtain⟨W,rfl,L,ad⟩:=I.get (show i<ys.length by omega);apply aQ 9 [0,2] m;simp only[↓Z,lV,ab,ae,bi];refine⟨_,λu m=>(lies1 (m.ext.cell L) bW),by omega,?_⟩;obtain⟨s,C⟩:∃s:Nat,s=d+ys[i]:=⟨_,rfl⟩
  rw[show ((d:Int)+(ys[i]:Int))=(s:Int) by omega];have e:s=c+xs[i]?.getD 0+ys[i]?.getD 0:=by rw[ah (l:=ys) (by omega)];simp only[dt];omega
  have P:s<131072:=by omega
  apply aQ 4 [0] m;simp only[↓Z];refine aA (cS O O (by omega) (nS (n:=65536))) ?_;simp only[J];refine cO cF (z:=U 0) (by kernel_rfl) O O O ?_;intro u E j k p;replace m:=m.newB j k p;simp only[J];refine bJ m 1 O O cF gM O (by decide) O O O (m.b 0 O).rowsO (fU O) (by omega) (by omega) ?_;intro f g u m;simp only[zF,zG] at m;simp only[zA,zB,zC,zD,zE,mM] at m;apply aL 4 [0] m;simp only[↓Z];refine aA (gL O O (by omega) (oZ (n:=65536) (by omega))) ?_;apply aL 8 [0] m;simp only[↓Z];apply R;omega;obtain⟨q,r⟩:=yG x v y e;rw[show ((i:Int)+1)=((i+1:Nat):Int) by omega];exact D (M+1-(i+1)) _ _ (by omega) (by kernel_rfl) ⟨i+1,s / 65536,os++[s%65536],f,g,O,(m.sel [X7,N]),by simp;omega,q,r,by omega,by omega,λh=>by rw[ct (l:=xs) (by omega),ct (l:=ys) (by omega)] at e;simp at e;omega,rfl⟩
 .apply aQ 25 [2,0,0,0,0,2,0,0,1] m;simp only[↓Z,gG];apply R;omega;obtain⟨d,t⟩:∃d:Nat,d=c:=⟨_,rfl⟩
  rw[<-t];have S:d=c+xs[i]?.getD 0:=by rw[ct (by omega)];exact t
  have T:d<65537:=by omega
  apply aQ 21 [2,2] m;simp only[↓Z,gG];apply R;omega;obtain⟨s,C⟩:∃s:Nat,s=d:=⟨_,rfl⟩
  rw[<-C];have e:s=c+xs[i]?.getD 0+ys[i]?.getD 0:=by rw[ct (l:=ys) (by omega)];simp only[ij];omega
  have P:s<131072:=by omega
  apply aQ 3 [0] m;simp only[↓Z];refine aA (cS O O (by omega) (nS (n:=65536))) ?_;simp only[J];refine cO cF (z:=U 0) (by kernel_rfl) O O O ?_;intro u E j k p;replace m:=m.newB j k p;simp only[J];refine bJ m 1 O O cF gM O (by decide) O O O (m.b 0 O).rowsO (fU O) (by omega) (by omega) ?_;intro f g u m;simp only[zF,zG] at m;simp only[zA,zB,zC,zD,zE,mM] at m;apply aL 4 [0] m;simp only[↓Z];refine aA (gL O O (by omega) (oZ (n:=65536) (by omega))) ?_;apply aL 8 [0] m;simp only[↓Z];apply R;omega;obtain⟨q,r⟩:=yG x v y e;rw[show ((i:Int)+1)=((i+1:Nat):Int) by omega];exact D (M+1-(i+1)) _ _ (by omega) (by kernel_rfl) ⟨i+1,s / 65536,os++[s%65536],f,g,O,(m.sel [X7,N]),by simp;omega,q,r,by omega,by omega,λh=>by rw[ct (l:=xs) (by omega),ct (l:=ys) (by omega)] at e;simp at e;omega,rfl⟩
 apply aQ 24 [2,0,0,0,0,2,0,0,2] m;simp only[↓Z,gG];apply R;omega;refine aS O O ?_;try simp only[zD,zE]
 obtain⟨X,_⟩:=Ra (m.o 0 rfl) x.symm y (by omega);obtain rfl:=x;exact⟨_,O,m.ext,f,g,os,O,X,by rw[ap (by omega),ap (by omega)] at v;simpa using v,by omega⟩
def aea{B:Option Addr}(w:an)(M:eE w w.heap.size A na ca xs)(L:eE w w.heap.size B nb cb ys)(aa:ys.length<=xs.length)(Y:val 65536 ys<=val 65536 xs)(aj:xs.length<=1000000000000):cX X9 50 [.slice A na ca,.slice B nb cb] w (λv w'=>wA (val 65536 xs-val 65536 ys) v w'/\wL w v):=by
 refine⟨bP func50 (by kernel_rfl),?_⟩;have m:=Mem.refl w;obtain rfl:=M.eq;obtain rfl:=L.eq
 go_enter func50,ntmps50
 apply iD 6 [0] m;simp only[↓Z];refine aA aI ?_;replace m:=m.nilO 3 1;apply aL 11 [0] m;simp only[↓Z];refine bT [5,6,7] [8,9,10,11,12,13,14,15,16,17,18,19,20,21,22,23,24,25,26,27,28,29,30,31,32,33,34,35,36,37,38] (λn vs Q=>∃(i c:Nat)(os:List Nat)(d:Option Addr)(f:Nat),vs=[.slice d i f,U (c:Int),U (i:Int)]/\Mem w Q [oI 3 1 d i f (os.map oE)]/\(os.length=i)/\(val 65536 os+val 65536 (ys.take i)=val 65536 (xs.take i)+65536^i*c)/\(G 65536 os)/\(c<=1)/\(i<=xs.length)/\(n=xs.length-i)) ?_ ?_
 .exact⟨_,0,0,[],X8,0,O,m,O,by simp[val],mE _,by omega,by omega,O⟩
 intro n vs wr P u K1 I;obtain⟨i,c,os,d,f,rfl,m,y,C,x,hc,hi,hn⟩:=P;simp only[zu,zF,zG];apply F 8 [0,0] m;simp only[↓Z,gG];refine aZ O ?_ ?_<;>intro ad
 .apply F 4 [] m;simp only[↓Z];obtain⟨a,rfl,V,ag⟩:=M.get (show i<xs.length by omega);have ak:ys[i]?.getD 0<65536:=by
   rcases ej i ys.length with h|h
   .rw[ah h];exact L.lt h
   rw[ct h];decide
  apply aQ 17 [0,2,0,0] m;simp only[↓Z,lV,gG,ab,ae,bi];refine⟨_,λu m=>(lies1 (m.ext.cell V) bW),by omega,?_⟩;refine aZ O ?_ ?_<;>intro af
  .obtain⟨a2,rfl,W,ai⟩:=L.get (show i<ys.length by omega);apply F 9 [0,2] m;simp only[↓Z,lV,ab,ae,bi];refine⟨_,λu m=>(lies1 (m.ext.cell W) bW),by omega,?_⟩;obtain⟨e,E⟩:∃e:Int,e=(xs[i]:Int)-(c:Int)-(ys[i]:Int):=⟨_,rfl⟩
   rw[<-E];have X:e=(xs[i]:Int)-(c:Int)-((ys[i]?.getD 0:Nat):Int):=by rw[ah (by omega)];exact E
   apply aQ 10 [0,0] m;simp only[↓Z];refine aZ O ?_ ?_<;>intro T
   .obtain⟨s,k⟩:∃s:Nat,(s:Int)=e+65536:=⟨(e+65536).toNat,by omega⟩
    have r:s+ys[i]?.getD 0+c=xs[i]+65536*1:=by omega
    have t:s<65536:=by omega
    apply F 4 [] m;simp only[↓Z];apply R;omega;rw[<-k];apply aQ 8 [0] m;simp only[↓Z];refine cO cF (z:=U 0) (by kernel_rfl) O O O ?_;intro u K g j l;replace m:=m.newB g j l;simp only[J];refine bJ m 1 O O cF gM O (by decide) O O O (m.b 0 O).rowsO (fU O) (by omega) (by omega) ?_;intro d f u m;simp only[zF,zG] at m;simp only[zA,zB,zC,zD,zE,mM] at m;apply aL 8 [0] m;simp only[↓Z];apply R;omega;obtain⟨p,q⟩:=vD (by omega) y C x r t;rw[show ((i:Int)+1)=((i+1:Nat):Int) by omega];exact I (xs.length-(i+1)) _ _ (by omega) (by kernel_rfl) ⟨i+1,1,os++[s],d,f,O,(m.sel [X7,N]),by simp;omega,p,q,by omega,by omega,rfl⟩
   obtain⟨s,k⟩:∃s:Nat,(s:Int)=e:=⟨e.toNat,by omega⟩
   rw[<-k];have r:s+ys[i]?.getD 0+c=xs[i]+65536*0:=by omega
   have t:s<65536:=by omega
   apply F 4 [0] m;simp only[↓Z];refine cO cF (z:=U 0) (by kernel_rfl) O O O ?_;intro u K g j l;replace m:=m.newB g j l;simp only[J];refine bJ m 1 O O cF gM O (by decide) O O O (m.b 0 O).rowsO (fU O) (by omega) (by omega) ?_;intro d f u m;simp only[zF,zG] at m;simp only[zA,zB,zC,zD,zE,mM] at m;apply aL 8 [0] m;simp only[↓Z];apply R;omega;obtain⟨p,q⟩:=vD (by omega) y C x r t;rw[show ((i:Int)+1)=((i+1:Nat):Int) by omega];exact I (xs.length-(i+1)) _ _ (by omega) (by kernel_rfl) ⟨i+1,0,os++[s],d,f,O,(m.sel [X7,N]),by simp;omega,p,q,by omega,by omega,rfl⟩
  obtain⟨e,E⟩:∃e:Int,e=(xs[i]:Int)-(c:Int):=⟨_,rfl⟩
  rw[<-E];have X:e=(xs[i]:Int)-(c:Int)-((ys[i]?.getD 0:Nat):Int):=by rw[ct (by omega)];simp only[ij];omega
  apply F 11 [0,0] m;simp only[↓Z];refine aZ O ?_ ?_<;>intro T
  .obtain⟨s,k⟩:∃s:Nat,(s:Int)=e+65536:=⟨(e+65536).toNat,by omega⟩
   have r:s+ys[i]?.getD 0+c=xs[i]+65536*1:=by omega
   have t:s<65536:=by omega
   apply F 4 [] m;simp only[↓Z];apply R;omega;rw[<-k];apply aQ 8 [0] m;simp only[↓Z];refine cO cF (z:=U 0) (by kernel_rfl) O O O ?_;intro u K g j l;replace m:=m.newB g j l;simp only[J];refine bJ m 1 O O cF gM O (by decide) O O O (m.b 0 O).rowsO (fU O) (by omega) (by omega) ?_;intro d f u m;simp only[zF,zG] at m;simp only[zA,zB,zC,zD,zE,mM] at m;apply aL 8 [0] m;simp only[↓Z];apply R;omega;obtain⟨p,q⟩:=vD (by omega) y C x r t;rw[show ((i:Int)+1)=((i+1:Nat):Int) by omega];exact I (xs.length-(i+1)) _ _ (by omega) (by kernel_rfl) ⟨i+1,1,os++[s],d,f,O,(m.sel [X7,N]),by simp;omega,p,q,by omega,by omega,rfl⟩
  obtain⟨s,k⟩:∃s:Nat,(s:Int)=e:=⟨e.toNat,by omega⟩
  rw[<-k];have r:s+ys[i]?.getD 0+c=xs[i]+65536*0:=by omega
  have t:s<65536:=by omega
  apply F 4 [0] m;simp only[↓Z];refine cO cF (z:=U 0) (by kernel_rfl) O O O ?_;intro u K g j l;replace m:=m.newB g j l;simp only[J];refine bJ m 1 O O cF gM O (by decide) O O O (m.b 0 O).rowsO (fU O) (by omega) (by omega) ?_;intro d f u m;simp only[zF,zG] at m;simp only[zA,zB,zC,zD,zE,mM] at m;apply aL 8 [0] m;simp only[↓Z];apply R;omega;obtain⟨p,q⟩:=vD (by omega) y C x r t;rw[show ((i:Int)+1)=((i+1:Nat):Int) by omega];exact I (xs.length-(i+1)) _ _ (by omega) (by kernel_rfl) ⟨i+1,0,os++[s],d,f,O,(m.sel [X7,N]),by simp;omega,p,q,by omega,by omega,rfl⟩
 apply F 2 [] m;simp only[↓Z];obtain rfl:i=xs.length:=by omega
 obtain⟨D,S⟩:=Ra (m.o 0 rfl) y.symm x (by omega);apply aQ 2 [0] m;simp only[↓Z];refine bB O O (rE _ D) ?_;rintro v u g rfl;replace m:=m.ext' g;replace D:=D.ext g;apply aL 3 [] m;simp only[↓Z];exact aS rfl rfl ⟨_,rfl,m.ext,wA.of_trim D (afm aa y x C Y),λa n c e=>by cases e;exact S _ O⟩
def Ia{B:Option Addr}(w:an)(q:eE w w.heap.size A na ca xs)(p:eE w w.heap.size B nb cb ys)(af:xs.length<=1000000000000)(ag:ys.length<=1000000000000):cX X9 178 [.slice A na ca,.slice B nb cb] w (λv w'=>wA (val 65536 xs*val 65536 ys) v w'/\wL w v):=by
 refine⟨bP func178 (by kernel_rfl),?_⟩;have m:=Mem.refl w;obtain rfl:=q.eq;obtain rfl:=p.eq
 go_enter func178,ntmps178
 apply iD 11 [0] m;simp only[↓Z,gG];apply R;omega;refine jW cF gM O O O (show _=xs.length+ys.length by omega) (show _=xs.length+ys.length by omega) (by omega) (by omega) (by omega) (by omega) ?_;intro u o D E K;replace m:=m.newB D E K;apply aL 2 [] m;simp only[↓Z];rw[oS] at m;apply aQ 6 [0] m;simp only[↓Z];refine bT [6] [7,8,9,16,17,18,19,20,21,22,23,24,25,26,27,28,29,30,31,32,33,34,35,36,37,38,39,40,41,42,43,44,45,46,47,48,49,50,51,52,53,54,55,56,57,58,59,60,61] (λn vs l=>∃(i:Nat)(os:List Nat),vs=[U (i:Int)]/\Mem w l [bI o (os.map oE) 3]/\(i<=xs.length)/\(os.length=xs.length+ys.length)/\(val 65536 os=val 65536 (xs.take i)*val 65536 ys)/\(os.drop (i+ys.length)=bn (xs.length-i) 0)/\(G 65536 os)/\(n=xs.length-i)) ?_ ?_
 .exact⟨_,0,bn (xs.length+ys.length) 0,O,m,by omega,by simp,by rw[fZ,im];simp only[val,Nat.zero_mul],by rw[ob];congr 1;omega,λx I=>by rw[ep I];decide,rfl⟩
 intro n vs M h u W P;obtain⟨i,os,rfl,m,hi,f,t,g,d,hn⟩:=h;simp only[zu,zF,zG];apply F 8 [0,0] m;simp only[↓Z,gG];refine aZ O ?_ ?_<;>intro aa
 .apply F 13 [0] m;simp only[↓Z];refine bT [7,8] [9,22,23,24,25,26,27,28,29,30,31,32,33,34,35,36,37,38,39,40,41,42,43,44,45,46,47,48,49,50,51,52,53,54] (λn vs l=>∃(k c:Nat)(os:List Nat),vs=[U (c:Int),U (k:Int)]/\Mem w l [bI o (os.map oE) 3]/\(k<=ys.length)/\(os.length=xs.length+ys.length)/\(val 65536 os+65536^(i+k)*c=val 65536 (xs.take i)*val 65536 ys+65536^i*(xs[i]*val 65536 (ys.take k)))/\(os.drop (i+ys.length)=bn (xs.length-i) 0)/\(G 65536 os)/\(c<65536)/\(n=ys.length-k)) ?_ ?_
  .exact⟨_,0,0,os,O,m,by omega,f,by rw[im,t];simp only[val,ja],g,d,by omega,rfl⟩
  intro n vs M h u X Q;obtain⟨k,c,os,rfl,m,hk,f,C,g,d,hc,ak⟩:=h;simp only[zu,zF,zG];apply F 8 [0,0] m;simp only[↓Z,gG];refine aZ O ?_ ?_<;>intro ad
  .apply F 4 [] m;simp only[↓Z];obtain⟨a,rfl,S,y⟩:=q.get (show i<xs.length by omega);obtain⟨Y,rfl,T,z⟩:=p.get (show k<ys.length by omega);have al:=d.get (ah (show i+k<os.length by omega));obtain⟨ai,aj⟩:=afo y z;refine gc (mq m aB (by kernel_rfl) ?_);refine cW 4 [] ?_;simp only[↓Z];apply R;omega;refine aK (aN cF bC O O (by omega) (by omega) (mQ (show _=i+k by omega))) (cW 14 [0,2,0,2,0,2] ?_);simp only[↓Z,lV,ab,ae,bi];refine⟨_,λu m=>(lies1 ((m.b 0 O).digit (show i+k<os.length by omega)) bW),_,λu m=>(lies1 (m.ext.cell S) bW),_,λu m=>(lies1 (m.ext.cell T) bW),by omega,?_⟩;refine bD ?_;intro u m;obtain⟨s,r⟩:∃s,s=os[i+k]+xs[i]*ys[k]+c:=⟨_,rfl⟩
   have V:(↑os[i+k]+↑xs[i]*↑ys[k]+↑c:Int)=(s:Int):=by rw[r];simp
   rw[V];have am:s<4294967296:=by have:=aaP y z;omega
   apply aQ 7 [0] m;simp only[↓Z];apply R;omega;refine aA (cS O O (by omega) (nS (n:=65536))) ?_;simp only[J];refine aA (aN cF bC O O (by omega) (by omega) (mQ (show _=i+k by omega))) ?_;simp only[J];refine cH m 0 O O O bC (by simp;omega) ⟨rfl,rfl⟩ ?_;intro u m;simp only[J] at m ;rw[Hl (by omega)] at m;apply aL 3 [0] m;simp only[↓Z];refine aA (gL O O (by omega) (oZ (n:=65536) (by omega))) ?_;apply aL 8 [0] m;simp only[↓Z];apply R;omega;have j:=aaO (by omega) (by omega) f C r;rw[show ((k:Int)+1)=((k+1:Nat):Int) by omega];exact Q (ys.length-(k+1)) _ _ (by omega) (by kernel_rfl) ⟨k+1,s / 65536,os.set (i+k) (s%65536),O,m,by omega,by simpa using f,j,by rw[rQ (by omega)];exact g,d.set (by omega),by omega,O⟩
  apply F 1 [] m;simp only[↓Z];obtain rfl:k=ys.length:=by omega
  apply aQ 7 [0] m;simp only[↓Z,gG];apply R;omega;refine aA (aN cF bC O O (by omega) (by omega) (mQ (show _=i+ys.length by omega))) ?_;simp only[J];refine cH m 0 O O O bC (by simp;omega) ⟨rfl,rfl⟩ ?_;intro u m;simp only[J] at m ;rw[Hl (by omega)] at m;apply aL 7 [0] m;simp only[↓Z];apply R;omega;obtain⟨j,L⟩:=afn (by omega) f C g;rw[show ((i:Int)+1)=((i+1:Nat):Int) by omega];exact P (xs.length-(i+1)) _ _ (by omega) (by kernel_rfl) ⟨i+1,os.set (i+ys.length) c,O,m,by omega,by simpa using f,j,L,d.set (by omega),O⟩
 apply F 2 [] m;simp only[↓Z];obtain rfl:i=xs.length:=by omega
 apply aQ 2 [0] m;simp only[↓Z];rw[<-f];refine bY m O O (rE _ (eE.of_blk (m.b 0 O) d O (by omega))) ?_;rintro v u m rfl;apply aL 3 [] m;simp only[↓Z];exact aS rfl rfl ⟨_,rfl,m.ext,wA.of_trim (eE.of_blk (m.b 0 rfl) d rfl (by omega)) (by rw[t,ga]),λa n c e=>by cases e;exact (m.gb 0 O)⟩
end
section
attribute [local irreducible] be c_ fS Code.wp
end
section
attribute [local irreducible] be c_ fS cE cP Code.wp
attribute [local congr] fE fF eN fD
variable{a:Int}
def Ib{os:List UInt8}{x:Nat}(a:x<256):os.map u8v++[.int .u8 (x:Int)]=(os++[eu x]).map u8v:=by
 have:u8v (eu x)=.int .u8 (x:Int):=by simp only[u8v,UInt8.toNat_ofNat',Value.int.injEq,X6];rw[kp (by omega)]
 rw[dh,List.map_singleton,this]
def sC{neg:Bool}{s:ByteArray}(w:an)(W:s.size<=1000000000000):cX X9 47 [.agg #[.bool neg,.string s]] w (wA (akK s)):=by
 refine⟨bP func47 (by kernel_rfl),?_⟩;have m:=Mem.refl w;have Y:=vW s;have B:=Lf s
 go_enter func47,ntmps47
 apply gJ 7 [0] m;simp only[↓Z];intro D u m;refine aA aI ?_;replace m:=m.nilO 3 1;apply aL 5 [2,0] m;simp only[↓Z,yJ,acL,aa];refine aA (tP O pT O) ?_;apply aL 9 [0] m;simp only[↓Z];refine bT [3,5] [6,11,12,13,14,15,16,17,18,19,20,21,22,23,24,25,26,27,28,29,30,31,32,33,34,35] (λn vs K=>∃(k:Nat)(os:List Nat)(a:Option Addr)(c:Nat),vs=[.slice a k c,U ((s.size:Int)-2*(k:Int))]/\Mem w K [oI 3 1 a k c (os.map oE),bI D [.bool neg,.string s] 37]/\(os.length=k)/\(val 65536 os=val 256 ((pE s).take (2*k)))/\(G 65536 os)/\(2*k<=s.size+1)/\(n=s.size-2*k)) ?_ ?_
 .rw[show ((s.size:Int))=(s.size:Int)-2*((0:Nat):Int) by omega];exact⟨_,0,[],X8,0,O,m,O,by simp[val],mE _,by omega,O⟩
 intro n vs X I u S A;obtain⟨k,os,a,c,rfl,m,y,l,j,T,V⟩:=I;simp only[zu,zF,zG];apply F 6 [0,0] m;simp only[↓Z];refine aZ O ?_ ?_<;>intro ab
 .apply F 4 [] m;simp only[↓Z];obtain⟨f,L,ae,C⟩:=Ew (show 2*k+1+(s.size-2*k-1)=s.size by omega);have af:f.toNat<256:=f.toNat_lt;apply aQ 5 [2,0] m;simp only[↓Z,yJ,acL,aa];apply R;omega;refine aA ((pD pT O O (by omega) (by rw[show ((s.size:Int)-2*(k:Int)-1).toNat=s.size-2*k-1 by omega];exact L))) ?_;apply aL 9 [0,0] m;simp only[↓Z,An,Ml];apply R;omega;refine aZ O ?_ ?_<;>intro ad
  .obtain⟨h,M,P,Q⟩:=Ew (show 2*k+1+1+(s.size-2*k-2)=s.size by omega);have ag:h.toNat<256:=h.toNat_lt;apply F 6 [2,0] m;simp only[↓Z,yJ,acL,aa];apply R;omega;refine aA ((pD pT O O (by omega) (by rw[show ((s.size:Int)-2*(k:Int)-2).toNat=s.size-2*k-2 by omega];exact M))) ?_;apply aL 5 [] m;simp only[↓Z,An,Ml];apply R;omega;obtain⟨d,t⟩:∃d:Nat,d=f.toNat+256*h.toNat:=⟨_,rfl⟩
   rw[show ((f.toNat:Int)+256*(h.toNat:Int))=(d:Int) by omega];have x:d=(pE s)[2*k]+256*((pE s)[2*k+1]?.getD 0):=by rw[ah P,C];simp only[dt];rw[Q];exact t
   apply aQ 3 [0] m;simp only[↓Z];refine cO cF (z:=U 0) (by kernel_rfl) O O O ?_;intro u E e i p;replace m:=m.newB e i p;simp only[J];refine bJ m 1 O O cF gM O (by decide) O O O (m.b 0 O).rowsO (fU O) (by omega) (by omega) ?_;intro a c u m;simp only[zF,zG] at m;simp only[zA,zB,zC,zD,zE,mM] at m;apply aL 8 [0] m;simp only[↓Z];apply R;omega;obtain⟨q,r⟩:=Hn y l (by omega) x B j;rw[show ((s.size:Int)-2*(k:Int)-2)=(s.size:Int)-2*((k+1:Nat):Int) by omega];exact A (s.size-2*(k+1)) _ _ (by omega) (by kernel_rfl) ⟨k+1,os++[d],a,c,O,(m.sel [X7,N,N]),by simp;omega,q,r,by omega,rfl⟩
  obtain⟨d,t⟩:∃d:Nat,d=f.toNat:=⟨_,rfl⟩
  rw[<-t];have x:d=(pE s)[2*k]+256*((pE s)[2*k+1]?.getD 0):=by rw[ct (by omega),C];simp only[ij];omega
  apply F 4 [0] m;simp only[↓Z];refine cO cF (z:=U 0) (by kernel_rfl) O O O ?_;intro u E e i p;replace m:=m.newB e i p;simp only[J];refine bJ m 1 O O cF gM O (by decide) O O O (m.b 0 O).rowsO (fU O) (by omega) (by omega) ?_;intro a c u m;simp only[zF,zG] at m;simp only[zA,zB,zC,zD,zE,mM] at m;apply aL 8 [0] m;simp only[↓Z];apply R;omega;obtain⟨q,r⟩:=Hn y l (by omega) x B j;rw[show ((s.size:Int)-2*(k:Int)-2)=(s.size:Int)-2*((k+1:Nat):Int) by omega];exact A (s.size-2*(k+1)) _ _ (by omega) (by kernel_rfl) ⟨k+1,os++[d],a,c,O,(m.sel [X7,N,N]),by simp;omega,q,r,by omega,rfl⟩
 apply F 2 [] m;simp only[↓Z];obtain⟨g,_⟩:=Ra (m.o 0 rfl) y.symm j (by omega);apply aQ 2 [0] m;simp only[↓Z];refine bB O O (rE _ g) ?_;rintro v u e rfl;replace m:=m.ext' e;replace g:=g.ext e;apply aL 3 [] m;simp only[↓Z];exact aS O O ⟨_,O,m.ext,wA.of_trim g (by rw[l,ap (by omega)];rfl)⟩
def vK{A:Option Addr}{xs:List Nat}{b E cap:Nat}{neg:Bool}(w:an)(q:eE w b A E cap xs)(hl:xs.length<=100000000000):cX X9 42 [.bool neg,.slice A E cap] w (λv _=>v=W (Oj neg (val 65536 xs))):=by
 refine⟨bP func42 (by kernel_rfl),?_⟩;have m:=Mem.refl w;obtain rfl:=q.eq;have V:=kP xs;have l:eE w w.heap.size A (trim xs).length cap (trim xs):=by
  have h:=(q.take (trim xs).length).here;rwa [<-jP] at h
 have x:=lY xs;have y:=kY 65536 xs;obtain⟨ys,C⟩:∃ys,ys=trim xs:=⟨_,rfl⟩
 rw[<-C] at l x V y;have Y:=l.digs;have r:=afp ys
 go_enter func42,ntmps42
 apply gJ 7 [0] m;simp only[↓Z,eX];intro I u m;refine bY m O O (rE _ (q.ext m.ext)) ?_;rintro v u m rfl;simp only[J];rw[<-C];clear C;apply aL 4 [] m;simp only[↓Z];by_cases B:ys=[]
 .subst B;apply aQ 3 [0] m;simp only[↓Z,gG];refine aA (Er O O (by rfl)) ?_;apply kZ 8 [0] m;simp only[↓Z,Ag,cB,aa];intro u m;refine aS O ⟨_,O,((m.b 0 O).full bE aJ)⟩ ?_;try simp only[zD,zE]
  exact⟨_,O,m.ext,by rw[<-y];cases neg<;>rfl⟩
 have ab:0<ys.length:=List.length_pos_iff.2 B;have ad:=Bc x ab;apply aQ 9 [2,0] m;simp only[↓Z,gG];apply R;omega;refine aA aI ?_;replace m:=m.nilO 5 1;apply aL 10 [0] m;simp only[↓Z,gG];apply R;omega;refine bT [5,6] [16,17,18,19,20,21,22,23,24,25,26,27,28,29,30,31,32,33,34,35,36,37,38,39,40,41,42,43,44,45,46,47,48,49] (λn vs S=>∃(k j:Nat)(os:List UInt8)(c:Option Addr)(e:Nat),vs=[.slice c j e,U ((k:Int)-1)]/\Mem w S [oI 5 1 c j e (os.map u8v),bI I [.bool X7,.string ⟨#[]⟩] 37]/\(os.length=j)/\(os=oT ys k)/\(k<=ys.length)/\(k<ys.length->oT ys k≠[])/\(os.length<=2*ys.length)/\(n=k)) ?_ ?_
 .exact⟨_,ys.length,0,[],X8,0,O,m,O,(Vb ys).symm,by omega,λh=>Y0 h (by omega),by simp,O⟩
 intro n vs wr L u K1 s;obtain⟨k,j,os,c,e,rfl,m,ag,t,hk,X,ah,hn⟩:=L;simp only[zu,zF,zG];apply F 6 [0,0] m;simp only[↓Z];refine aZ O ?_ ?_<;>intro ae
 .apply F 5 [] m;simp only[↓Z];obtain⟨a,rfl,d,T⟩:=l.get (show k-1<ys.length by omega);rcases (show k<ys.length\/k=ys.length by omega) with hkl|hkl
  .obtain⟨P,Q⟩:=acG (show 0<k by omega) (by omega) (X hkl);apply aQ 15 [1,0,0,0,0,0] m;simp only[↓Z,gG];apply R;omega;have d:=l.at (show k-1<ys.length by omega);apply aQ 4 [0] m;simp only[↓Z];refine aA (aN cF bC O O (by omega) (by omega) (lK (show _=k-1 by omega))) ?_;apply aL 1 [0,2,0] m;simp only[↓Z];refine⟨_,λu m=>(lies1 (m.ext.cell d) bW),?_⟩;refine aA (gL O O (by omega) (oZ (n:=256) (by omega))) (aA (iU aa5 mG O (Cb (by omega))) ?_);simp only[J];refine cO pH (z:=.int .u8 0) (by kernel_rfl) O O O ?_;intro u D f g i;replace m:=m.newB f g i;simp only[J];refine bJ m 1 O O pH Un O (by decide) O O O (m.b 0 O).rowsO (fU O) (by omega) (by omega) ?_;intro c e u m;simp only[zF,zG] at m;simp only[J] at m;rw[Ib (by omega)] at m;apply aL 2 [] m;simp only[↓Z];have d:=l.at (show k-1<ys.length by omega);apply aQ 4 [0] m;simp only[↓Z];refine aA (aN cF bC O O (by omega) (by omega) (lK (show _=k-1 by omega))) ?_;apply aL 1 [0,2,0] m;simp only[↓Z];refine⟨_,λu m=>(lies1 (m.ext.cell d) bW),?_⟩;refine aA (cS O O (by omega) (nS (n:=256))) (aA (iU aa5 mG O (Cb (by omega))) ?_);simp only[J];refine cO pH (z:=.int .u8 0) (by kernel_rfl) O O O ?_;intro u K f g i;replace m:=m.newB f g i;simp only[J];refine bJ m 2 O O pH Un O (by decide) O O O (m.b 0 O).rowsO (fU O) (by first|omega|(simp;omega)) (by first|omega|(simp;omega)) ?_;intro c e u m;simp only[zF,zG] at m;simp only[J] at m;rw[Ib (by omega)] at m;apply aL 8 [0] m;simp only[↓Z];apply R;omega;have p:os++[eu (ys[k-1] / 256)]++[eu (ys[k-1]%256)]=oT ys (k-1):=by rw[P,t]
   rw[show ((k:Int)-1-1)=((k-1:Nat):Int)-1 by omega];exact s (k-1) _ _ (by omega) (by kernel_rfl) ⟨k-1,j+1+1,os++[eu (ys[k-1] / 256)]++[eu (ys[k-1]%256)],c,e,O,(m.sel [X7,X7,N,N]),by simp only[a_,ib];omega,p,by omega,λ_=>Q,by rw[p];exact r _,O⟩
  subst hkl;obtain⟨f1,f2⟩:=aaS (by omega) ad T;have G:os=[]:=by rw[t];exact Vb ys
  apply aQ 9 [2,0,0,0] m;simp only[↓Z,gG];apply R;omega;refine bQ O (aA (aN cF bC O O (by omega) (by omega) (lK (show _=ys.length-1 by omega))) ?_);apply aL 4 [0,0,2,0,0,0] m;simp only[↓Z];refine⟨_,λu m=>(lies1 (m.ext.cell d) bW),?_⟩;refine aZ O ?_ ?_<;>intro af
  .have d:=l.at (show ys.length-1<ys.length by omega);apply F 4 [0] m;simp only[↓Z];refine aA (aN cF bC O O (by omega) (by omega) (lK (show _=ys.length-1 by omega))) ?_;apply aL 1 [0,2,0] m;simp only[↓Z];refine⟨_,λu m=>(lies1 (m.ext.cell d) bW),?_⟩;refine aA (gL O O (by omega) (oZ (n:=256) (by omega))) (aA (iU aa5 mG O (Cb (by omega))) ?_);simp only[J];refine cO pH (z:=.int .u8 0) (by kernel_rfl) O O O ?_;intro u D f g i;replace m:=m.newB f g i;simp only[J];refine bJ m 1 O O pH Un O (by decide) O O O (m.b 0 O).rowsO (fU O) (by omega) (by omega) ?_;intro c e u m;simp only[zF,zG] at m;simp only[J] at m;rw[Ib (by omega)] at m;apply aL 2 [] m;simp only[↓Z];have d:=l.at (show ys.length-1<ys.length by omega);apply aQ 4 [0] m;simp only[↓Z];refine aA (aN cF bC O O (by omega) (by omega) (lK (show _=ys.length-1 by omega))) ?_;apply aL 1 [0,2,0] m;simp only[↓Z];refine⟨_,λu m=>(lies1 (m.ext.cell d) bW),?_⟩;refine aA (cS O O (by omega) (nS (n:=256))) (aA (iU aa5 mG O (Cb (by omega))) ?_);simp only[J];refine cO pH (z:=.int .u8 0) (by kernel_rfl) O O O ?_;intro u K f g i;replace m:=m.newB f g i;simp only[J];refine bJ m 2 O O pH Un O (by decide) O O O (m.b 0 O).rowsO (fU O) (by first|omega|(simp;omega)) (by first|omega|(simp;omega)) ?_;intro c e u m;simp only[zF,zG] at m;simp only[J] at m;rw[Ib (by omega)] at m;apply aL 8 [0] m;simp only[↓Z];apply R;omega;have p:os++[eu (ys[ys.length-1] / 256)]++[eu (ys[ys.length-1]%256)]=oT ys (ys.length-1):=by rw[f1,Z9 (by omega),G];rfl
   rw[show ((ys.length:Int)-1-1)=((ys.length-1:Nat):Int)-1 by omega];exact s (ys.length-1) _ _ (by omega) (by kernel_rfl) ⟨ys.length-1,j+1+1,os++[eu (ys[ys.length-1] / 256)]++[eu (ys[ys.length-1]%256)],c,e,O,(m.sel [X7,X7,N,N]),by simp only[a_,ib];omega,p,by omega,λ_=>f2,by rw[p];exact r _,O⟩
  apply F 1 [] m;simp only[↓Z];have d:=l.at (show ys.length-1<ys.length by omega);apply aQ 4 [0] m;simp only[↓Z];refine aA (aN cF bC O O (by omega) (by omega) (lK (show _=ys.length-1 by omega))) ?_;apply aL 1 [0,2,0] m;simp only[↓Z];refine⟨_,λu m=>(lies1 (m.ext.cell d) bW),?_⟩;refine aA (cS O O (by omega) (nS (n:=256))) (aA (iU aa5 mG O (Cb (by omega))) ?_);simp only[J];refine cO pH (z:=.int .u8 0) (by kernel_rfl) O O O ?_;intro u D f g i;replace m:=m.newB f g i;simp only[J];refine bJ m 1 O O pH Un O (by decide) O O O (m.b 0 O).rowsO (fU O) (by first|omega|(simp;omega)) (by first|omega|(simp;omega)) ?_;intro c e u m;simp only[zF,zG] at m;simp only[J] at m;rw[Ib (by omega)] at m;apply aL 8 [0] m;simp only[↓Z];apply R;omega;have p:os++[eu (ys[ys.length-1]%256)]=oT ys (ys.length-1):=by rw[f1,K0 (by omega),G]
  rw[show ((ys.length:Int)-1-1)=((ys.length-1:Nat):Int)-1 by omega];exact s (ys.length-1) _ _ (by omega) (by kernel_rfl) ⟨ys.length-1,j+1,os++[eu (ys[ys.length-1]%256)],c,e,O,(m.sel [X7,N,N]),by simp only[a_,ib];omega,p,by omega,λ_=>f2,by rw[p];exact r _,O⟩
 apply F 5 [0] m;simp only[↓Z];refine pV (Oh pH aa5 pT O (m.o 0 O).own) ?_;apply kZ 4 [1] m;simp only[↓Z,Ag,cB,aa];intro u m;refine aS O ⟨_,O,((m.b 1 O).full bE aJ)⟩ ?_;try simp only[zD,zE]
 exact⟨_,rfl,m.ext,by (obtain rfl:k=0:=by omega);(have M:val 65536 ys≠0:=dm (Gk (by omega) x B));rw[t,acH Y neg,<-y];simp[Lith.W,Wt,M]⟩
def afI{k:Nat}{b:Int}(c:Bd k a)(d:Bd k b):(digs 65536 (a*b).natAbs).length<=k+k:=rZ (Bd.mul c d)
def Vh  : (((digs 65536 a.natAbs).length:Int)=0)↔a=0:=by
 constructor
 .intro h;have b:digs 65536 a.natAbs=[]:=fd (by omega);have:=(pM (by omega)).1 b;omega
 rintro rfl;rfl
def Dm(h:Bd 1000000 a):dO X9 204 [W a] (U (bV a)):=by
 intro w;refine⟨bP func204 (by kernel_rfl),?_⟩;have m:=Mem.refl w
 go_enter func204,ntmps204
 apply gJ 9 [1,0] m;simp only[↓Z,cB];intro l u m;refine bB O O (sC _ (gU h)) ?_;rintro v u g ⟨j,k,rfl,i⟩;replace m:=m.ext' g;simp only[J];rw[gT] at i ⊢;apply aL 3 [0,0] m;simp only[↓Z,gG];refine aZ O ?_ ?_<;>intro d
 .have b:=Vh.1 d;apply F 5 [] m;simp only[↓Z];refine aS O O ?_;try simp only[zD,zE]
  exact⟨_,O,m.ext,by rw[b];rfl⟩
 apply F 7 [1,0] m;simp only[↓Z,mC,Fo,aa];refine iY O ?_ ?_<;>intro f
 .have c:=Da f;apply F 5 [] m;simp only[↓Z];refine aS O O ?_;try simp only[zD,zE]
  exact⟨_,O,m.ext,by rw[tJ c]⟩
 have c:=Fa f;have b:¬a=0:=λe=>d (Vh.2 e);apply F 6 [] m;simp only[↓Z];refine aS O O ?_;try simp only[zD,zE]
 exact⟨_,O,m.ext,by rw[qX (by omega)]⟩
def apy(d:Bd 1000000 a):dO X9 162 [W a] (W (-a)):=by
 intro w;refine⟨bP func162 (by kernel_rfl),?_⟩;have m:=Mem.refl w;have f:(digs 65536 a.natAbs).length<=1000000:=rZ d
 go_enter func162,ntmps162
 apply gJ 6 [0] m;simp only[↓Z,eX];intro k l u m;refine mh m [X7,N] [(0,N),(1,N),(2,N),(3,N),(4,X7),(5,X7),(6,X7)] aB (by kernel_rfl) (bR (λ_ _ _ _ _ h=>h)) (ol:=?_) ?g ?_
 case g=>simp only[zw,zQ,zR];try rfl
 intro u m;refine tL 4 [1,1] ?_;simp only[↓Z,mC,Fo,cB,aa];refine bX (bB O O (sC _ (gU d)) ?_);rintro v u c ⟨i,j,rfl,e⟩;replace m:=m.ext' c;simp only[J];rw[gT] at e ⊢;refine S ⟨m.sel [X7,N],?_⟩;refine bX (bB O O (vK _ e (ay f (by decide))) ?_);rintro v u c rfl;replace m:=m.ext' c;simp only[J];simp only[fK];refine S ⟨m.sel [X7,N],?_⟩;refine bX (aX m 0 O O O aJ (eU O) O ?_);intro u m;simp only[zy,zx,over,zF,zG,aa] at m;refine S ⟨m.sel [X7,N],?_⟩;refine aT ?_;rw[adq] at m;apply aQ 1 [] m;simp only[↓Z];exact aS O ⟨_,O,((m.b 0 O).full bE aJ)⟩ ⟨_,O,m.ext,O⟩
def uJ{b:Int}(p:Bd 1000000 a)(q:Bd 1000000 b):dO X9 21 [W a,W b] (W (a+b)):=by
 intro w;refine⟨bP func21 (by kernel_rfl),?_⟩;have m:=Mem.refl w;have k:(digs 65536 a.natAbs).length<=1000000:=rZ p;have l:(digs 65536 b.natAbs).length<=1000000:=rZ q
 go_enter func21,ntmps21
 apply gJ 9 [3,0] m;simp only[↓Z,eX,cB];intro C D E u m;refine bB O O (sC _ (gU p)) ?_;rintro v u c ⟨y,A,rfl,d⟩;replace m:=m.ext' c;simp only[J];rw[gT] at d ⊢;apply aL 5 [2,0] m;simp only[↓Z,cB];refine bB O O (sC _ (gU q)) ?_;rintro v u c ⟨z,B,rfl,e⟩;replace m:=m.ext' c;replace d:=d.ext c;simp only[J];rw[gT] at e ⊢;apply aL 9 [3,2,0] m;simp only[↓Z,mC,Fo,aa];refine aA (agE tZ O O) ?_;apply aL 1 [0] m;simp only[↓Z];refine aZ O ?_ ?_<;>intro j
 .apply F 1 [0] m;simp only[↓Z];refine mhe m [X7,N,N] [(0,N),(2,N),(3,N),(1,N),(4,X7),(5,X7),(6,X7)] aB (by kernel_rfl) (bR (λ_ _ _ _ _ h=>h)) (ol:=?_) ?g ?_
  case g=>simp only[zw,zQ,zR];try rfl
  intro u c m;replace d:=d.ext c;replace e:=e.ext c;refine tL 4 [2] ?_;simp only[↓Z,mC,Fo,aa];refine bX (bB O O (apx _ d.here e.here (ay k (by decide)) (ay l (by decide))) ?_);rintro v u c ⟨n,o,os,rfl,f,x,i⟩;replace m:=m.ext' c;simp only[J];simp only[fK] at x;refine S ⟨m.sel [X7,N,N],?_⟩;refine bX (bB O O (vK _ f (by omega)) ?_);rintro v u c rfl;replace m:=m.ext' c;simp only[J];rw[x];refine S ⟨m.sel [X7,N,N],?_⟩;refine bX (aX m 0 O O O aJ (eU O) O ?_);intro u m;simp only[zy,zx,over,zF,zG,aa] at m;refine S ⟨m.sel [X7,N,N],?_⟩;refine aT ?_;rw[adr j] at m;apply aQ 1 [] m;simp only[↓Z];exact aS O ⟨_,O,((m.b 0 O).full bE aJ)⟩ ⟨_,O,m.ext,O⟩
 apply F 6 [0] m;simp only[↓Z];refine bB O O (xC _ d e (lO _) (lO _)) ?_;rintro v u c rfl;replace m:=m.ext' c;replace d:=d.ext c;replace e:=e.ext c;simp only[J];simp only[fK];apply aL 2 [0,0] m;simp only[↓Z];refine aZ O ?_ ?_<;>intro r
 .have s:=xU.1 r;apply F 1 [0] m;simp only[↓Z];refine mhe m [X7,N,N] [(0,N),(2,N),(3,N),(1,N),(4,X7),(5,X7),(6,X7)] aB (by kernel_rfl) (bR (λ_ _ _ _ _ h=>h)) (ol:=?_) ?g ?_
  case g=>simp only[zw,zQ,zR];try rfl
  intro u c m;replace d:=d.ext c;replace e:=e.ext c;refine tL 4 [2] ?_;simp only[↓Z,mC,Fo,aa];refine bX (bB O O (aea _ d.here e.here (Hm s) (by simp only[fK];omega) (ay k (by decide))) ?_);rintro v u c ⟨⟨n,o,rfl,f⟩,_⟩;replace m:=m.ext' c;simp only[J];simp only[fK] at f ⊢;have i:=Hm (pc a.natAbs b.natAbs);refine S ⟨m.sel [X7,N,N],?_⟩;refine bX (bB O O (vK _ f (ay i (ay k (by decide)))) ?_);rintro v u c rfl;replace m:=m.ext' c;simp only[J];simp only[fK];refine S ⟨m.sel [X7,N,N],?_⟩;refine bX (aX m 0 O O O aJ (eU O) O ?_);intro u m;simp only[zy,zx,over,zF,zG,aa] at m;refine S ⟨m.sel [X7,N,N],?_⟩;refine aT ?_;rw[agI j s] at m;apply aQ 1 [] m;simp only[↓Z];exact aS O ⟨_,O,((m.b 0 O).full bE aJ)⟩ ⟨_,O,m.ext,O⟩
 have t:a.natAbs<b.natAbs:=nz λh=>r (xU.2 h);apply F 2 [0] m;simp only[↓Z];refine mhe m [X7,N,N] [(0,N),(2,N),(3,N),(1,N),(4,X7),(5,X7),(6,X7)] aB (by kernel_rfl) (bR (λ_ _ _ _ _ h=>h)) (ol:=?_) ?g ?_
 case g=>simp only[zw,zQ,zR];try rfl
 intro u c m;replace d:=d.ext c;replace e:=e.ext c;refine tL 4 [1] ?_;simp only[↓Z,mC,Fo,aa];refine bX (bB O O (aea _ e.here d.here (Hm (ju t)) (by simp only[fK];omega) (ay l (by decide))) ?_);rintro v u c ⟨⟨n,o,rfl,f⟩,_⟩;replace m:=m.ext' c;simp only[J];simp only[fK] at f ⊢;have i:=Hm (pc b.natAbs a.natAbs);refine S ⟨m.sel [X7,N,N],?_⟩;refine bX (bB O O (vK _ f (ay i (ay l (by decide)))) ?_);rintro v u c rfl;replace m:=m.ext' c;simp only[J];simp only[fK];refine S ⟨m.sel [X7,N,N],?_⟩;refine bX (aX m 0 O O O aJ (eU O) O ?_);intro u m;simp only[zy,zx,over,zF,zG,aa] at m;refine S ⟨m.sel [X7,N,N],?_⟩;refine aT ?_;rw[agH j t] at m;apply aQ 1 [] m;simp only[↓Z];exact aS O ⟨_,O,((m.b 0 O).full bE aJ)⟩ ⟨_,O,m.ext,O⟩
def Ch{b:Int}(d:Bd 1000000 a)(c:Bd 1000000 b):dO X9 106 [W a,W b] (W (a-b)):=by
 intro w;refine⟨bP func106 (by kernel_rfl),?_⟩;have m:=Mem.refl w
 go_enter func106,ntmps106
 apply gJ 7 [0] m;simp only[↓Z,eX];intro e f g u m;refine cC m 4 aB (by kernel_rfl) ?_;simp only[zy];refine ql O (λu m=>((m.b 2 O).full bE aJ)) ?_;simp only[J];refine ql O (λu m=>((m.b 1 O).full bE aJ)) ?_;simp only[J];refine X O O (apy c) ?_;simp only[J];refine X O O (uJ d c.neg) (bD ?_);intro u m;simp only[J];refine aX m 0 O O O aJ (eU O) O ?_;intro u m;simp only[zy,zx,over,zF,zG,aa] at m;refine S ?_;rw[<-Int.sub_eq_add_neg] at m;apply aQ 1 [] m;simp only[↓Z];exact aS O ⟨_,O,((m.b 0 O).full bE aJ)⟩ ⟨_,O,m.ext,O⟩
def sR{b:Int}(e:Bd 1000000 a)(f:Bd 1000000 b):dO X9 121 [W a,W b] (W (a*b)):=by
 intro w;refine⟨bP func121 (by kernel_rfl),?_⟩;have m:=Mem.refl w;have j:(digs 65536 a.natAbs).length<=1000000:=rZ e;have k:(digs 65536 b.natAbs).length<=1000000:=rZ f;have l:=afI e f
 go_enter func121,ntmps121
 apply gJ 7 [0] m;simp only[↓Z,eX];intro x y z u m;refine mh m [X7,N,N] [(0,N),(2,N),(1,N),(3,N),(4,N),(5,N),(7,N),(6,X7),(8,X7),(9,X7),(10,X7),(11,X7)] aB (by kernel_rfl) (bR (λ_ _ _ _ _ h=>h)) (ol:=?_) ?n ?_
 case n=>simp only[zw,zQ,zR];try rfl
 intro u m;refine tL 4 [2,1] ?_;simp only[↓Z,mC,Fo,aa];refine aV (mR tZ O O) ?_;simp only[J];refine eK O (λu m=>((m.b 1 O).full bE aJ)) ?_;simp only[J];refine eK O (λu m=>((m.b 0 O).full bE aJ)) ?_;simp only[J];refine bX (bB O O (sC _ (gU e)) ?_);rintro v u c ⟨o,r,rfl,d⟩;replace m:=m.ext' c;simp only[J];rw[gT] at d ⊢;refine S ⟨m.sel [X7,N,N],?_⟩;refine bX (bB O O (sC _ (gU f)) ?_);rintro v u c ⟨p,s,rfl,i⟩;replace m:=m.ext' c;replace d:=d.ext c;simp only[J];rw[gT] at i ⊢;refine S ⟨m.sel [X7,N,N],?_⟩;refine bX (bB O O (Ia _ d.here i.here (ay j (by decide)) (ay k (by decide))) ?_);rintro v u c ⟨⟨q,t,rfl,g⟩,_⟩;replace m:=m.ext' c;simp only[J];simp only[fK] at g ⊢;rw[<-ku] at g ⊢;refine S ⟨m.sel [X7,N,N],?_⟩;refine bX (bB O O (vK _ g (ay l (by decide))) ?_);rintro v u c rfl;replace m:=m.ext' c;simp only[J];simp only[fK];refine S ⟨m.sel [X7,N,N],?_⟩;refine bX (aX m 0 O O O aJ (eU O) O ?_);intro u m;simp only[zy,zx,over,zF,zG,aa] at m;refine S ⟨m.sel [X7,N,N],?_⟩;refine aT ?_;rw[ku,ads] at m;apply aQ 1 [] m;simp only[↓Z];exact aS O ⟨_,O,((m.b 0 O).full bE aJ)⟩ ⟨_,O,m.ext,O⟩
def aiO{b:Int}(c:Bd 900000 a)(d:Bd 900000 b):dO X9 161 [W a,W b] (U (bV (a-b))):=by
 intro w;refine⟨bP func161 (by kernel_rfl),?_⟩;have m:=Mem.refl w
 go_enter func161,ntmps161
 apply gJ 10 [2,1,0] m;simp only[↓Z,cB];intro e f u m;refine eV m O O (Ch (c.mono (by decide)) (d.mono (by decide))) ?_;intro u m;simp only[J];refine iE m O O (Dm ((Bd.sub c d).mono (by decide))) 3 [] ?_;simp only[↓Z];intro u m;exact aS O O ⟨_,O,m.ext,O⟩
def iT{n:Int}(h:gF n):dO X9 13 [U n] (W n):=by
 intro w;refine⟨bP func13 (by kernel_rfl),?_⟩;have m:=Mem.refl w;have x:=h.natAbs;obtain⟨g,i⟩:∃g,g=n.natAbs:=⟨_,rfl⟩
 go_enter func13,ntmps13
 apply gJ 6 [0] m;simp only[↓Z,eX];intro C u m;refine aA aI ?_;replace m:=m.nilO 3 1;apply aL 2 [] m;simp only[↓Z];rcases (show n<0\/0<=n by omega) with h0|h0
 .have y:N=cQ n:=(Y5 h0).symm;apply aQ 2 [0] m;simp only[↓Z];refine aA (iU nE mG O (adt h h0)) ?_;apply aL 11 [1,0] m;simp only[↓Z];apply R;omega;refine aA (sU O (Ty x (by omega))) ?_;apply aL 4 [0] m;simp only[↓Z];refine bT [3,4] [11,12,13,14,15,16,17,18,19,20] (λn vs t=>∃(z j:Nat)(os:List Nat)(a:Option Addr)(c:Nat),vs=[.slice a j c,.int .u64 (z:Int)]/\Mem w t [oI 3 1 a j c (os.map oE),bI C [.bool X7,.string ⟨#[]⟩] 37]/\(j=os.length)/\(val 65536 os+65536^os.length*z=g)/\(G 65536 os)/\(z<=9223372036854775808)/\(z<2^(64-os.length))/\(os.length<=64)/\(n=z)) ?_ ?_
  .exact⟨_,n.natAbs,0,[],X8,0,O,m,O,by simp[val,i],mE _,x,by simp;omega,by simp,rfl⟩
  intro n vs K l u Q L;obtain⟨z,j,os,a,c,rfl,m,q,e,f,E,A,B,I⟩:=l;simp only[zu,zF,zG];apply F 6 [0,0] m;simp only[↓Z];refine aZ O ?_ ?_<;>intro P
  .apply F 6 [0] m;simp only[↓Z];refine aA (cS O O (by omega) (nS (n:=65536))) (aA (iU mG nE O (bN (by omega) (by omega))) ?_);simp only[J];refine cO cF (z:=U 0) (by kernel_rfl) O O O ?_;intro u D d p s;replace m:=m.newB d p s;simp only[J];refine bJ m 1 O O cF gM O (by decide) O O O (m.b 0 O).rowsO (fU O) (by omega) (by omega) ?_;intro a c u m;simp only[zF,zG] at m;simp only[zA,zB,zC,zD,zE,mM] at m;apply aL 4 [0] m;simp only[↓Z];refine aA (gL O O (by omega) (Ms (n:=65536) (by omega))) ?_;apply aL 3 [0] m;simp only[↓Z];have r:=Qe e f A B (show 0<z by omega);exact L (z / 65536) _ _ (by omega) (by kernel_rfl) ⟨z / 65536,j+1,os++[z%65536],a,c,O,(m.sel [X7,N,N]),by simp;omega,r.1,r.2.1,by omega,r.2.2.1,r.2.2.2,rfl⟩
  apply F 2 [] m;simp only[↓Z];obtain rfl:z=0:=by omega
  rw[ja,gi] at e;obtain⟨k,_⟩:=Ra (m.o 0 rfl) q f (by omega);apply aQ 4 [1,0] m;simp only[↓Z];apply R;omega;refine bB O O (vK _ k (by omega)) ?_;rintro v u d rfl;replace m:=m.ext' d;simp only[J];rw[e,i,y,Gm];apply kZ 3 [1] m;simp only[↓Z,cB,aa];intro u m;exact aS O ⟨_,O,((m.b 1 O).full bE aJ)⟩ ⟨_,O,m.ext,O⟩
 have y:X7=cQ n:=(Y6 (by omega)).symm;apply aQ 2 [0] m;simp only[↓Z];refine aA (iU nE mG O (agJ h h0)) ?_;apply aL 12 [2,0] m;simp only[↓Z];apply R;omega;refine bT [3,4] [11,12,13,14,15,16,17,18,19,20] (λn vs t=>∃(z j:Nat)(os:List Nat)(a:Option Addr)(c:Nat),vs=[.slice a j c,.int .u64 (z:Int)]/\Mem w t [oI 3 1 a j c (os.map oE),bI C [.bool X7,.string ⟨#[]⟩] 37]/\(j=os.length)/\(val 65536 os+65536^os.length*z=g)/\(G 65536 os)/\(z<=9223372036854775808)/\(z<2^(64-os.length))/\(os.length<=64)/\(n=z)) ?_ ?_
 .exact⟨_,n.natAbs,0,[],X8,0,O,m,O,by simp[val,i],mE _,x,by simp;omega,by simp,rfl⟩
 intro n vs K l u S M;obtain⟨z,j,os,a,c,rfl,m,q,e,f,E,A,B,I⟩:=l;simp only[zu,zF,zG];apply F 6 [0,0] m;simp only[↓Z];refine aZ O ?_ ?_<;>intro P
 .apply F 6 [0] m;simp only[↓Z];refine aA (cS O O (by omega) (nS (n:=65536))) (aA (iU mG nE O (bN (by omega) (by omega))) ?_);simp only[J];refine cO cF (z:=U 0) (by kernel_rfl) O O O ?_;intro u D d p s;replace m:=m.newB d p s;simp only[J];refine bJ m 1 O O cF gM O (by decide) O O O (m.b 0 O).rowsO (fU O) (by omega) (by omega) ?_;intro a c u m;simp only[zF,zG] at m;simp only[zA,zB,zC,zD,zE,mM] at m;apply aL 4 [0] m;simp only[↓Z];refine aA (gL O O (by omega) (Ms (n:=65536) (by omega))) ?_;apply aL 3 [0] m;simp only[↓Z];have r:=Qe e f A B (show 0<z by omega);exact M (z / 65536) _ _ (by omega) (by kernel_rfl) ⟨z / 65536,j+1,os++[z%65536],a,c,O,(m.sel [X7,N,N]),by simp;omega,r.1,r.2.1,by omega,r.2.2.1,r.2.2.2,rfl⟩
 apply F 2 [] m;simp only[↓Z];obtain rfl:z=0:=by omega
 rw[ja,gi] at e;obtain⟨k,_⟩:=Ra (m.o 0 rfl) q f (by omega);apply aQ 4 [2,0] m;simp only[↓Z];apply R;omega;refine bB O O (vK _ k (by omega)) ?_;rintro v u d rfl;replace m:=m.ext' d;simp only[J];rw[e,i,y,Gm];apply kZ 3 [1] m;simp only[↓Z,cB,aa];intro u m;exact aS O ⟨_,O,((m.b 1 O).full bE aJ)⟩ ⟨_,O,m.ext,O⟩
end
section
attribute [local irreducible] be c_ fS Code.wp
def apz{a:Int}(o:Bd 1000000 a)(n:0<=a):dO X9 203 [W a] (.bool X7):=by
 intro w;refine⟨bP func203 (by kernel_rfl),?_⟩;have b:=eR.refl w;have h:cQ a=X7:=Y6 (by omega)
 go_enter func203,ntmps203
 refine L (λk i=>f ?_);refine zZ (by simp only[J];rfl) ?_;intro p m d g e;have q:=ay b.size g;replace b:=b.trans d;clear d g;simp only[J];refine aA aI ?_;simp only[J];refine S (i _ _ ?_);refine L (λl j=>?_);rw[h] at e
 refine f (aA (aO (c:=0) Ec O dV O O) ?_);simp only[J];refine bA O (e.lies1 eW O) ?_;simp only[J];refine aA aF ?_;simp only[J];refine eF O ?_;simp only[J];refine eF O ?_;simp only[J];refine eF O ?_;simp only[J];refine eF O ?_;simp only[J];refine aA (gD O) (aA aI ?_);simp only[J];refine S (j _ _ ?_);refine gh ?_;try simp only[t,Exit.then]
 refine aS O O ?_;try simp only[zD,zE]
 exact⟨_,O,b,O⟩
def alP{a:Int}(ha:Bd 1000000 a)(h0:0<=a):dO X9 160 [W a] (.tuple #[W (eS a.natAbs:Int),.bool N]):=by
 intro w;refine⟨bP func160 (by kernel_rfl),?_⟩;have d:=eR.refl w;have a2:(digs 65536 a.natAbs).length<=1000000:=rZ ha;obtain⟨X,ar⟩:∃X,X=a.natAbs:=⟨_,rfl⟩
 obtain⟨K,hK⟩:∃K,K=((digs 65536 X).length+1) / 2:=⟨_,rfl⟩
 rw[<-ar] at a2;have aY:X<65536^(digs 65536 X).length:=by have:=kJ (lU X);rwa [fK] at this
 have a3:=afq (K:=K) aY (by omega);rw[<-ar]
 go_enter func160,ntmps160
 refine L (λK1 aM=>f ?_);refine zZ (by simp only[J];rfl) ?_;intro w1 g1 b a1 V;have bH:=ay d.size a1;replace d:=d.trans b;clear b;simp only[J];refine kX iB O ?_;intro w2 P b au c;have aL:=ay d.size au;have bO:P≠g1:=dm (bc V.lt au);have bM:=bc V.lt au;replace V:=V.ext b;replace d:=d.trans b;clear b;simp only[J];refine aA aI ?_;simp only[J];refine S (aM _ _ ?_);refine L (λK2 aN=>L (λK3 aO=>f ?_));refine bA O (V.lies bE aJ O O) ?_;simp only[J];refine oY O O (apz ha h0) ?_;intro w3 b;replace V:=V.ext b;replace c:=c.ext b;replace d:=d.trans b;clear b;simp only[J];refine S (aO _ _ ?_);refine Aj O (gg ?_);refine aN _ _ (L (λK4 aP=>f ?_));refine bA O (V.lies bE aJ O O) ?_;simp only[J];refine bB O O (sC _ (gU ha)) ?_;rintro v w4 b ⟨A4,c4,rfl,e⟩;replace c:=c.ext b;(try replace e:=e.ext b);replace d:=d.trans b;clear b;rw[gT,<-ar] at e ⊢;simp only[J];refine aA aI ?_;simp only[J];refine S (aP _ _ ?_);refine L (λK5 aQ=>f (aA aI ?_));simp only[J];refine S (aQ _ _ ?_);refine L (λK6 aR=>L (λK7 aS=>f (aA aF (aA (iL O cF O) (aA (eH O O (bN (by omega) (by omega))) ?_)))));simp only[J];rw[show (((digs 65536 X).length:Int)+1)=(((digs 65536 X).length+1:Nat):Int) by omega];refine aA (gL O O (by omega) (oZ (m:=(digs 65536 X).length+1) (n:=2) (by omega))) (aA (pW O O (bN (by omega) (by omega))) (aA aI ?_));simp only[J];refine S ?_;rw[<-hK];refine aS _ _ (gn ?_);refine uT [5,6] [7,8,9,10,11,22,23,24,25,26,27,28,29,30,31,32,33,34,35,36,37,38,39,40,41,42,43,44,45,46,47,48,49,50,51,52,53,54,55,56,57] (λn vs C=>∃(k:Nat)(j:List Nat)(A5:Option Addr)(c5:Nat),vs=[.slice A5 j.length c5,U ((k:Int)-1)]/\(eR w C)/\(fQ C P [.bool X7,.string ⟨#[]⟩] 37)/\(eE C C.heap.size A4 (digs 65536 X).length c4 (digs 65536 X))/\(eE C C.heap.size A5 j.length c5 j)/\(j.length+k=K)/\(G 65536 j)/\(val 65536 j*val 65536 j*65536^(2*k)<=X)/\(X<(val 65536 j+1)*(val 65536 j+1)*65536^(2*k))/\(n=k)) ?_ ?_
 .apply Exists.intro;simp only[zQ,zR,zD,zE];exact⟨K,[],X8,0,O,d,c,e.here,eE.nil _ _,by simp,mE _,by simp[val],a3,O⟩
 intro n vs wr hI u;obtain⟨k,j,A5,c5,rfl,d,c,e,g,bL,af,aH,aK,hn⟩:=hI;simp only[zu,zF,zG];refine L (λK8 aW=>L (λK9 aX=>f (aA aF (aA (zY O O) ?_))));simp only[J];refine S (aX _ _ ?_);refine aZ O ?_ ?_<;>intro bI
 .obtain⟨i,rfl⟩:∃i,k=i+1:=⟨k-1,by omega⟩
  rw[show (((i+1:Nat):Int)-1)=(i:Int) by omega];refine gg (aW _ _ ?_);refine L (λbo a4=>gn (L (λbp a5=>f (aA aI ?_))));simp only[J];refine S (a5 _ _ ?_);refine L (λbq a6=>f (aA aI ?_));simp only[J];refine S (a6 _ _ ?_);refine L (λbr a7=>gn ?_);refine uT [7,8] [9,10,11,26,27,28,29,30,31,32,33,34,35,36,37,38,39,40,41,42,43,44,45,46,47,48,49,50,51,52,53] (λn vs C=>∃(low high:Nat),vs=[U (low:Int),U (high:Int)]/\(eR w C)/\(fQ C P [.bool X7,.string ⟨#[]⟩] 37)/\(eE C C.heap.size A4 (digs 65536 X).length c4 (digs 65536 X))/\(eE C C.heap.size A5 j.length c5 j)/\((low+65536*val 65536 j)*(low+65536*val 65536 j)*65536^(2*i)<=X)/\(X<(high+65536*val 65536 j)*(high+65536*val 65536 j)*65536^(2*i))/\(low<high)/\(high<=65536)/\(n=high-low)) ?_ ?_
  .apply Exists.intro;simp only[zQ,zR,zD,zE];exact⟨0,65536,O,d,c,e.here,g.here,ahQ aH,afr aK,by omega,by omega,O⟩
  intro n vs wr hI u;obtain⟨low,high,rfl,d,c,e,g,al,am,bJ,an,bK⟩:=hI;simp only[zu,zF,zG];refine L (λbs a8=>L (λbt a9=>f (aA aF (aA aF (aA (pW O O (bN (by omega) (by omega))) ?_)))));simp only[J];refine aA (Tp O O) ?_;simp only[J];refine S (a9 _ _ ?_);refine aZ O ?_ ?_<;>intro a0
  .have ai:low<(low+high) / 2:=by omega
   have ak:(low+high) / 2<high:=by omega
   refine gg ?_;refine a8 _ _ (gn (L (λbu ba=>f (aA aF (aA aF (aA (eH O O (bN (by omega) (by omega))) ?_))))));simp only[J];rw[show ((low:Int)+(high:Int))=((low+high:Nat):Int) by omega];refine aA (gL O O (by omega) (oZ (m:=low+high) (n:=2) (by omega))) (aA aI ?_);simp only[J];refine S ?_;obtain⟨m,hm⟩:∃m,m=(low+high) / 2:=⟨_,rfl⟩
   rw[<-hm] at ai ak ⊢;have ap:m<65536:=by omega
   refine ba _ _ ?_;refine L (λbv bb=>?_);obtain⟨aE,y,e,g⟩:=Qg e g;refine f (aA aF ?_);simp only[J];refine cO cF (z:=U 0) (by kernel_rfl) O (by simp only[J];rfl) (by rfl) ?_;intro w5 g3 b T Z;have A:=ay y.h T;have aq:=ay d.size T;have bm:g3≠P:=dm (bc c.lt T);have aC:=bc c.lt T;replace c:=c.ext b;(try replace e:=e.ext b);(try replace g:=g.ext b);replace d:=d.trans b;clear b;simp only[J];refine aA aF ?_;simp only[J];have ah:=wJ.full (base:=g3) (n:=1) Z (bg _) rfl (by omega);refine tM rfl cF gM rfl (by decide) rfl ah rfl (news:=j.map oE) (by simp) g.rows (λu F=>by obtain⟨x,_,rfl⟩:=du.1 F;rfl) (by omega) (by omega) (ju Z.lt) ?_;intro v6 Q E o _;replace d:=d.grown o aq;replace c:=c.grew o aC;replace e:=(e.grew o A).here;replace g:=(g.grew o A).here;clear Z ah;obtain⟨A6,c6,rfl,l,_⟩:=eE.of_owns (xs:=m::j) (by simpa[lh] using E) (by first|simp;done|(simp only[bh];omega)) (nQ (by omega) af) (by omega);simp only[J];refine aA aI ?_;simp only[J];refine S (bb _ _ ?_);refine L (λbw ao=>?_);obtain⟨aE,y,e,g⟩:=Qg e g;refine Az (.take 0 (.take 1 (.take 3 (.take 5 (.two 2 (.one 4 (.one 6 (.one 7 (.one 8 (.take 9 .nil))))) 4 (.two 2 (.one 6 (.one 7 (.one 8 (.take 9 .nil)))) 6 (.two 2 (.one 7 (.one 8 (.take 9 .nil))) 7 (.one 2 (.one 8 (.take 9 .nil)))))))))) aB (by kernel_rfl) (bR (λ_ _ _ _ _ h=>h)) ?_;intro w6 b;replace c:=c.ext b;(try replace e:=e.ext b);(try replace g:=g.ext b);(try replace l:=l.ext b);(try replace y:=y.ext b);replace d:=d.trans b;clear b;refine⟨_,So.nil,?_⟩;refine dG (by simp only[zw];rfl) (aV aF ?_);simp only[J];refine aT ?_;refine dG (by simp only[zw];rfl) (aV (lT rfl rfl ((bN (by omega) (by omega)).trans (show (2:Int)*(i:Int)=((2*i:Nat):Int) by omega))) ?_);simp only[J];refine aT ?_;refine dG (by simp only[zw];rfl) (aV aF ?_);simp only[J];refine aT ?_;refine dG (by simp only[zw];rfl) (aV aF ?_);simp only[J];refine aT ?_;refine Gi (by simp only[zw];rfl) (by simp only[zw];rfl) ?_ ?_
   .refine jW cF gM O O O (show _=2*i by omega) (show _=2*i by omega) (by omega) (by omega) (by omega) (by omega) ?_;intro w7 D b s p;have A:=ay y.h s;have ab:=ay d.size s;have aD:D≠P:=dm (bc c.lt s);have ag:=bc c.lt s;replace c:=c.ext b;(try replace e:=e.ext b);(try replace g:=g.ext b);(try replace l:=l.ext b);replace d:=d.trans b;clear b;simp only[J];refine S ⟨trivial,?_⟩;refine fL (by simp only[zw];rfl) ?_;refine bB O O (rE _ l) ?_;rintro v w8 b rfl;replace c:=c.ext b;replace p:=p.ext b;(try replace e:=e.ext b);(try replace g:=g.ext b);(try replace l:=l.ext b);replace d:=d.trans b;clear b;simp only[J];refine S ⟨trivial,?_⟩;refine fL (by simp only[zw];rfl) ?_;refine bB O O (rE _ l) ?_;rintro v Q b rfl;replace c:=c.ext b;replace p:=p.ext b;(try replace e:=e.ext b);(try replace g:=g.ext b);(try replace l:=l.ext b);replace d:=d.trans b;clear b;simp only[J];refine S ⟨trivial,?_⟩;refine fL (by simp only[zw];rfl) ?_;have ae:=kP (m::j);simp only[bh] at ae;refine bB O O (Ia _ l.trimmed l.trimmed (by omega) (by omega)) ?_;rintro v aw b ⟨⟨A8,c8,rfl,q⟩,_⟩;replace c:=c.ext b;replace p:=p.ext b;(try replace e:=e.ext b);(try replace g:=g.ext b);(try replace q:=q.ext b);replace d:=d.trans b;clear b;simp only[kY] at q ⊢;simp only[J];refine S ⟨trivial,?_⟩;refine fL (by simp only[zw];rfl) ?_;have av:(digs 65536 (val 65536 (m::j)*val 65536 (m::j))).length<=2*(j.length+1):=Ym ap af;have I:=wJ.full (base:=D) (n:=2*i) p (bg _) (by simp) (by omega);refine tM rfl cF gM rfl (by decide) rfl I rfl (news:=(digs 65536 (val 65536 (m::j)*val 65536 (m::j))).map oE) (by simp) q.rows (λu F=>by obtain⟨x,_,rfl⟩:=du.1 F;rfl) (by omega) (by omega) (ju p.lt) ?_;intro v6 Q E o _;replace d:=d.grown o ab;replace c:=c.grew o ag;replace e:=(e.grew o A).here;replace g:=(g.grew o A).here;clear p I;obtain⟨A9,c9,rfl,r,_⟩:=eE.of_owns (xs:=bn (2*i) 0++digs 65536 (val 65536 (m::j)*val 65536 (m::j))) (by rw[dh,<-oS];exact E) (by simp) (λx Y=>by rcases bz.1 Y with h|h;rw[ep h];decide;exact lU _ x h) (by omega);simp only[J];refine S ⟨trivial,?_⟩;refine dG (by simp only[zw];rfl) (aV aI ?_);simp only[J];refine aT (qU ?_);refine ao _ _ (L (λbx bd=>f (aA aF ?_)));simp only[J];refine bB O O (rE _ r) ?_;rintro v ax b rfl;replace c:=c.ext b;(try replace e:=e.ext b);(try replace g:=g.ext b);(try replace r:=r.ext b);replace d:=d.trans b;clear b;simp only[J];refine aA aF ?_;simp only[J];have ad:=r.trimmed;refine bB O O (xC _ ad e (lY _) (lO _)) ?_;rintro v az b rfl;replace c:=c.ext b;(try replace e:=e.ext b);(try replace g:=g.ext b);replace d:=d.trans b;clear b;rw[kY,fK,Ho];simp only[J];refine aA (Aw O O) ?_;simp only[J];refine S (bd _ _ ?_);refine aZ O ?_ ?_<;>intro M
    .have B:=nI.1 M;refine f (aA aF (aA aI ?_));simp only[J];refine S ?_;simp only[t,Exit.then];refine⟨high-m,_,?_,O,?_,?_⟩
     .omega
     .simp only[J,zv]
     simp only[zQ,zR,zD,zE];exact⟨m,high,O,d,c,e.here,g.here,B,am,ak,an,O⟩
    have B:=nz λh=>M (nI.2 h);refine f (aA aF (aA aI ?_));simp only[J];refine S ?_;simp only[t,Exit.then];refine⟨m-low,_,?_,O,?_,?_⟩
    .omega
    .simp only[J,zv]
    simp only[zQ,zR,zD,zE];exact⟨low,m,O,d,c,e.here,g.here,al,B,ai,by omega,O⟩
   refine bB O O (rE _ l) ?_;rintro v w7 b rfl;replace c:=c.ext b;(try replace e:=e.ext b);(try replace g:=g.ext b);(try replace l:=l.ext b);(try replace y:=y.ext b);replace d:=d.trans b;clear b;simp only[J];refine S ⟨trivial,?_⟩;refine Gi (by simp only[zw];rfl) (by simp only[zw];rfl) ?_ ?_
   .refine jW cF gM O O O (show _=2*i by omega) (show _=2*i by omega) (by omega) (by omega) (by omega) (by omega) ?_;intro w8 D b s p;have A:=ay y.h s;have ab:=ay d.size s;have aD:D≠P:=dm (bc c.lt s);have ag:=bc c.lt s;replace c:=c.ext b;(try replace e:=e.ext b);(try replace g:=g.ext b);(try replace l:=l.ext b);replace d:=d.trans b;clear b;simp only[J];refine S ⟨trivial,?_⟩;refine fL (by simp only[zw];rfl) ?_;refine bB O O (rE _ l) ?_;rintro v Q b rfl;replace c:=c.ext b;replace p:=p.ext b;(try replace e:=e.ext b);(try replace g:=g.ext b);(try replace l:=l.ext b);replace d:=d.trans b;clear b;simp only[J];refine S ⟨trivial,?_⟩;refine fL (by simp only[zw];rfl) ?_;have ae:=kP (m::j);simp only[bh] at ae;refine bB O O (Ia _ l.trimmed l.trimmed (by omega) (by omega)) ?_;rintro v aw b ⟨⟨A8,c8,rfl,q⟩,_⟩;replace c:=c.ext b;replace p:=p.ext b;(try replace e:=e.ext b);(try replace g:=g.ext b);(try replace q:=q.ext b);replace d:=d.trans b;clear b;simp only[kY] at q ⊢;simp only[J];refine S ⟨trivial,?_⟩;refine fL (by simp only[zw];rfl) ?_;have av:(digs 65536 (val 65536 (m::j)*val 65536 (m::j))).length<=2*(j.length+1):=Ym ap af;have I:=wJ.full (base:=D) (n:=2*i) p (bg _) (by simp) (by omega);refine tM rfl cF gM rfl (by decide) rfl I rfl (news:=(digs 65536 (val 65536 (m::j)*val 65536 (m::j))).map oE) (by simp) q.rows (λu F=>by obtain⟨x,_,rfl⟩:=du.1 F;rfl) (by omega) (by omega) (ju p.lt) ?_;intro v6 Q E o _;replace d:=d.grown o ab;replace c:=c.grew o ag;replace e:=(e.grew o A).here;replace g:=(g.grew o A).here;clear p I;obtain⟨A9,c9,rfl,r,_⟩:=eE.of_owns (xs:=bn (2*i) 0++digs 65536 (val 65536 (m::j)*val 65536 (m::j))) (by rw[dh,<-oS];exact E) (by simp) (λx Y=>by rcases bz.1 Y with h|h;rw[ep h];decide;exact lU _ x h) (by omega);simp only[J];refine S ⟨trivial,?_⟩;refine dG (by simp only[zw];rfl) (aV aI ?_);simp only[J];refine aT (qU ?_);refine ao _ _ (L (λbC be=>f (aA aF ?_)));simp only[J];refine bB O O (rE _ r) ?_;rintro v ax b rfl;replace c:=c.ext b;(try replace e:=e.ext b);(try replace g:=g.ext b);(try replace r:=r.ext b);replace d:=d.trans b;clear b;simp only[J];refine aA aF ?_;simp only[J];have ad:=r.trimmed;refine bB O O (xC _ ad e (lY _) (lO _)) ?_;rintro v az b rfl;replace c:=c.ext b;(try replace e:=e.ext b);(try replace g:=g.ext b);replace d:=d.trans b;clear b;rw[kY,fK,Ho];simp only[J];refine aA (Aw O O) ?_;simp only[J];refine S (be _ _ ?_);refine aZ O ?_ ?_<;>intro M
    .have B:=nI.1 M;refine f (aA aF (aA aI ?_));simp only[J];refine S ?_;simp only[t,Exit.then];refine⟨high-m,_,?_,O,?_,?_⟩
     .omega
     .simp only[J,zv]
     simp only[zQ,zR,zD,zE];exact⟨m,high,O,d,c,e.here,g.here,B,am,ak,an,O⟩
    have B:=nz λh=>M (nI.2 h);refine f (aA aF (aA aI ?_));simp only[J];refine S ?_;simp only[t,Exit.then];refine⟨m-low,_,?_,O,?_,?_⟩
    .omega
    .simp only[J,zv]
    simp only[zQ,zR,zD,zE];exact⟨low,m,O,d,c,e.here,g.here,al,B,ai,by omega,O⟩
   refine bB O O (rE _ l) ?_;rintro v w8 b rfl;replace c:=c.ext b;(try replace e:=e.ext b);(try replace g:=g.ext b);(try replace l:=l.ext b);(try replace y:=y.ext b);replace d:=d.trans b;clear b;simp only[J];refine S ⟨trivial,?_⟩;refine Gi (by simp only[zw];rfl) (by simp only[zw];rfl) ?_ ?_
   .refine jW cF gM O O O (show _=2*i by omega) (show _=2*i by omega) (by omega) (by omega) (by omega) (by omega) ?_;intro Q D b s p;have A:=ay y.h s;have ab:=ay d.size s;have aD:D≠P:=dm (bc c.lt s);have ag:=bc c.lt s;replace c:=c.ext b;(try replace e:=e.ext b);(try replace g:=g.ext b);(try replace l:=l.ext b);replace d:=d.trans b;clear b;simp only[J];refine S ⟨trivial,?_⟩;refine fL (by simp only[zw];rfl) ?_;have ae:=kP (m::j);simp only[bh] at ae;refine bB O O (Ia _ l.trimmed l.trimmed (by omega) (by omega)) ?_;rintro v aw b ⟨⟨A8,c8,rfl,q⟩,_⟩;replace c:=c.ext b;replace p:=p.ext b;(try replace e:=e.ext b);(try replace g:=g.ext b);(try replace q:=q.ext b);replace d:=d.trans b;clear b;simp only[kY] at q ⊢;simp only[J];refine S ⟨trivial,?_⟩;refine fL (by simp only[zw];rfl) ?_;have av:(digs 65536 (val 65536 (m::j)*val 65536 (m::j))).length<=2*(j.length+1):=Ym ap af;have I:=wJ.full (base:=D) (n:=2*i) p (bg _) (by simp) (by omega);refine tM rfl cF gM rfl (by decide) rfl I rfl (news:=(digs 65536 (val 65536 (m::j)*val 65536 (m::j))).map oE) (by simp) q.rows (λu F=>by obtain⟨x,_,rfl⟩:=du.1 F;rfl) (by omega) (by omega) (ju p.lt) ?_;intro v6 Q E o _;replace d:=d.grown o ab;replace c:=c.grew o ag;replace e:=(e.grew o A).here;replace g:=(g.grew o A).here;clear p I;obtain⟨A9,c9,rfl,r,_⟩:=eE.of_owns (xs:=bn (2*i) 0++digs 65536 (val 65536 (m::j)*val 65536 (m::j))) (by rw[dh,<-oS];exact E) (by simp) (λx Y=>by rcases bz.1 Y with h|h;rw[ep h];decide;exact lU _ x h) (by omega);simp only[J];refine S ⟨trivial,?_⟩;refine dG (by simp only[zw];rfl) (aV aI ?_);simp only[J];refine aT (qU ?_);refine ao _ _ (L (λbD bf=>f (aA aF ?_)));simp only[J];refine bB O O (rE _ r) ?_;rintro v ax b rfl;replace c:=c.ext b;(try replace e:=e.ext b);(try replace g:=g.ext b);(try replace r:=r.ext b);replace d:=d.trans b;clear b;simp only[J];refine aA aF ?_;simp only[J];have ad:=r.trimmed;refine bB O O (xC _ ad e (lY _) (lO _)) ?_;rintro v az b rfl;replace c:=c.ext b;(try replace e:=e.ext b);(try replace g:=g.ext b);replace d:=d.trans b;clear b;rw[kY,fK,Ho];simp only[J];refine aA (Aw O O) ?_;simp only[J];refine S (bf _ _ ?_);refine aZ O ?_ ?_<;>intro M
    .have B:=nI.1 M;refine f (aA aF (aA aI ?_));simp only[J];refine S ?_;simp only[t,Exit.then];refine⟨high-m,_,?_,O,?_,?_⟩
     .omega
     .simp only[J,zv]
     simp only[zQ,zR,zD,zE];exact⟨m,high,O,d,c,e.here,g.here,B,am,ak,an,O⟩
    have B:=nz λh=>M (nI.2 h);refine f (aA aF (aA aI ?_));simp only[J];refine S ?_;simp only[t,Exit.then];refine⟨m-low,_,?_,O,?_,?_⟩
    .omega
    .simp only[J,zv]
    simp only[zQ,zR,zD,zE];exact⟨low,m,O,d,c,e.here,g.here,al,B,ai,by omega,O⟩
   have ae:=kP (m::j);simp only[bh] at ae;refine bB O O (Ia _ l.trimmed l.trimmed (by omega) (by omega)) ?_;rintro v Q b ⟨⟨A8,c8,rfl,q⟩,_⟩;replace c:=c.ext b;(try replace e:=e.ext b);(try replace g:=g.ext b);(try replace q:=q.ext b);(try replace y:=y.ext b);replace d:=d.trans b;clear b;simp only[kY] at q ⊢;simp only[J];refine S ⟨trivial,?_⟩;refine fL (by simp only[zw];rfl) ?_;refine jW cF gM O O O (show _=2*i by omega) (show _=2*i by omega) (by omega) (by omega) (by omega) (by omega) ?_;intro aw D b s p;have A:=ay y.h s;have ab:=ay d.size s;have aD:D≠P:=dm (bc c.lt s);have ag:=bc c.lt s;replace c:=c.ext b;(try replace e:=e.ext b);(try replace g:=g.ext b);(try replace q:=q.ext b);replace d:=d.trans b;clear b;simp only[J];refine S ⟨trivial,?_⟩;refine fL (by simp only[zw];rfl) ?_;have av:(digs 65536 (val 65536 (m::j)*val 65536 (m::j))).length<=2*(j.length+1):=Ym ap af;have I:=wJ.full (base:=D) (n:=2*i) p (bg _) (by simp) (by omega);refine tM rfl cF gM rfl (by decide) rfl I rfl (news:=(digs 65536 (val 65536 (m::j)*val 65536 (m::j))).map oE) (by simp) q.rows (λu F=>by obtain⟨x,_,rfl⟩:=du.1 F;rfl) (by omega) (by omega) (ju p.lt) ?_;intro v6 Q E o _;replace d:=d.grown o ab;replace c:=c.grew o ag;replace e:=(e.grew o A).here;replace g:=(g.grew o A).here;clear p I;obtain⟨A9,c9,rfl,r,_⟩:=eE.of_owns (xs:=bn (2*i) 0++digs 65536 (val 65536 (m::j)*val 65536 (m::j))) (by rw[dh,<-oS];exact E) (by simp) (λx Y=>by rcases bz.1 Y with h|h;rw[ep h];decide;exact lU _ x h) (by omega);simp only[J];refine S ⟨trivial,?_⟩;refine dG (by simp only[zw];rfl) (aV aI ?_);simp only[J];refine aT (qU ?_);refine ao _ _ (L (λbF bi=>f (aA aF ?_)));simp only[J];refine bB O O (rE _ r) ?_;rintro v ax b rfl;replace c:=c.ext b;(try replace e:=e.ext b);(try replace g:=g.ext b);(try replace r:=r.ext b);replace d:=d.trans b;clear b;simp only[J];refine aA aF ?_;simp only[J];have ad:=r.trimmed;refine bB O O (xC _ ad e (lY _) (lO _)) ?_;rintro v az b rfl;replace c:=c.ext b;(try replace e:=e.ext b);(try replace g:=g.ext b);replace d:=d.trans b;clear b;rw[kY,fK,Ho];simp only[J];refine aA (Aw O O) ?_;simp only[J];refine S (bi _ _ ?_);refine aZ O ?_ ?_<;>intro M
   .have B:=nI.1 M;refine f (aA aF (aA aI ?_));simp only[J];refine S ?_;simp only[t,Exit.then];refine⟨high-m,_,?_,O,?_,?_⟩
    .omega
    .simp only[J,zv]
    simp only[zQ,zR,zD,zE];exact⟨m,high,O,d,c,e.here,g.here,B,am,ak,an,O⟩
   have B:=nz λh=>M (nI.2 h);refine f (aA aF (aA aI ?_));simp only[J];refine S ?_;simp only[t,Exit.then];refine⟨m-low,_,?_,O,?_,?_⟩
   .omega
   .simp only[J,zv]
   simp only[zQ,zR,zD,zE];exact⟨low,m,O,d,c,e.here,g.here,al,B,ai,by omega,O⟩
  refine wp_exit ?_;refine a7 _ _ ?_;obtain⟨aE,y,e,g⟩:=Qg e g;refine f (aA aF ?_);simp only[J];refine cO cF (z:=U 0) (by kernel_rfl) O (by simp only[J];rfl) (by rfl) ?_;intro w5 g3 b T Z;have A:=ay y.h T;have aq:=ay d.size T;have bm:g3≠P:=dm (bc c.lt T);have aC:=bc c.lt T;replace c:=c.ext b;(try replace e:=e.ext b);(try replace g:=g.ext b);replace d:=d.trans b;clear b;simp only[J];refine aA aF ?_;simp only[J];have ah:=wJ.full (base:=g3) (n:=1) Z (bg _) rfl (by omega);refine tM rfl cF gM rfl (by decide) rfl ah rfl (news:=j.map oE) (by simp) g.rows (λu F=>by obtain⟨x,_,rfl⟩:=du.1 F;rfl) (by omega) (by omega) (ju Z.lt) ?_;intro v6 Q E o _;replace d:=d.grown o aq;replace c:=c.grew o aC;replace e:=(e.grew o A).here;clear Z ah;obtain⟨A6,c6,rfl,l,_⟩:=eE.of_owns (xs:=low::j) (by simpa[lh] using E) (by first|simp;done|(simp only[bh];omega)) (nQ (by omega) af) (by omega);simp only[J];refine aA aI ?_;simp only[J];refine S (a4 _ _ ?_);refine f (aA aF (aA (pW O O (bN (by omega) (by omega))) (aA aI ?_)));simp only[J];refine S ?_;simp only[t,Exit.then];refine⟨i,_,?_,O,?_,?_⟩
  .omega
  .simp only[J,zv]
  simp only[zQ,zR,zD,zE];exact⟨i,low::j,A6,c6,O,d,c,e.here,l.here,by simp;omega,nQ (by omega) af,by rw[Qf];exact al,by rw[Qf];exact aln am a0,O⟩
 obtain rfl:k=0:=by omega
 have bl:=ahR aH aK;refine wp_exit (aR _ _ ?_);refine L (λbG bk=>f (aA aF ?_));simp only[J];refine bB O O (vK _ g (by omega)) ?_;rintro v w5 b rfl;replace c:=c.ext b;replace d:=d.trans b;clear b;rw[bl,nT];simp only[J];refine kH O (by simp only[J];rfl) (by exact aJ) c (by simp) (by simp[Value.oneCell']) ?_;clear c;intro w6 hC c;replace d:=d.chg hC aL;clear hC;simp only[zy,zx,over,aa] at c;refine aA aI ?_;simp only[J];refine S (bk _ _ ?_);refine gh ?_;try simp only[t,Exit.then]
 refine kN O ⟨_,O,(c.lies bE aJ O O)⟩ O ?_;try simp only[zD,zE]
 exact⟨_,O,d,O⟩
end
section
attribute [local irreducible] be c_ fS cE cP Code.wp
attribute [local congr] fE fF eN fD
variable{A:Option Addr}{xs ys:List Nat}{na nb ca cb:Nat}
def Rb{l:List UInt8}(d:l.length<=1000000000000000):dO X9 171 [.string (nZ l),.int .u8 0] (.string (nZ (jX l))):=by
 intro w;refine⟨bP func171 (by kernel_rfl),?_⟩;have m:=Mem.refl w
 go_enter func171,ntmps171
 apply iD 6 [0] m;simp only[↓Z];refine bT [0] [5,6,7,8,9,10,11,12,13,14,15] (λn vs f=>∃(k:List UInt8),vs=[.string (nZ k)]/\Mem w f []/\(jX k=jX l)/\(k.length<=1000000000000000)/\(n=k.length)) ?_ ?_
 .exact⟨_,l,O,m,O,d,O⟩
 intro n vs o e u i g;obtain⟨k,rfl,m,c,d,j⟩:=e;have q:=Ex k;simp only[zu,zF,zG];apply F 2 [] m;simp only[↓Z];by_cases h:0<k.length
 .obtain⟨b,a⟩:∃b,k[0]? = H b:=⟨k[0],ah h⟩
  apply aQ 2 [0] m;simp only[↓Z];refine aA (tP O pT O) ?_;apply aL 3 [1,0,0] m;simp only[↓Z];apply R;omega;refine bQ O (aA ((pD pT O O (by omega) (by rw[aeP];exact a))) ?_);apply aL 4 [0,0,0,0] m;simp only[↓Z];refine aZ O ?_ ?_<;>intro p
  .apply F 4 [0] m;simp only[↓Z];refine aA (agk pT O O (by omega) (by omega)) ?_;apply aL 2 [] m;simp only[↓Z];rw[show (1:Int).toNat=1 from rfl,ab0];apply aQ 1 [0] m;simp only[↓Z];exact g ((k.drop 1).length) _ _ (by rw[ef];omega) (by kernel_rfl) ⟨k.drop 1,rfl,m,by rw[ab1 a (by omega)];exact c,by rw[ef];omega,rfl⟩
  apply F 7 [] m;simp only[↓Z];refine aS O O ?_;try simp only[zD,zE]
  exact⟨_,O,m.ext,by rw[<-c,ab2 a (by omega)]⟩
 obtain rfl:k=[]:=fd (by omega);apply aQ 2 [0] m;simp only[↓Z];refine aA (tP O pT O) ?_;apply aL 16 [2,0,0,0,0] m;simp only[↓Z];apply R;omega;refine aS O O ?_;try simp only[zD,zE]
 exact⟨_,O,m.ext,by rw[<-c,aeQ]⟩
def acU{l:List UInt8}(c:l.length<=1000000000000000):dO X9 117 [.string (nZ l),.string ⟨#[0]⟩] (.string (nZ (jX l))):=by
 intro w;refine⟨bP func117 (by kernel_rfl),?_⟩;have m:=Mem.refl w;have d:=Ex l
 go_enter func117,ntmps117
 apply iD 6 [] m;simp only[↓Z];by_cases a:l=[]
 .subst a;apply aQ 2 [0] m;simp only[↓Z];refine aA (Sn (abZ pT O O) (show _=fz N by simp[nZ])) ?_;apply aL 12 [0,0] m;simp only[↓Z];exact aS O O ⟨_,O,m.ext,O⟩
 apply aQ 2 [0] m;simp only[↓Z];refine aA (Sn (abZ pT O O) (show _=fz X7 by simp only[aam,a,decide_false])) ?_;apply aL 2 [0,0] m;simp only[↓Z];refine bQ O (aA (Sn (abZ pT O O) (show _=fz X7 by simp)) ?_);apply aL 8 [0] m;simp only[↓Z];refine aA (tP O pT O) (aA (Er O O O) ?_);apply aL 2 [0,0] m;simp only[↓Z];refine bQ O (aA ((pD (b:=0) pT O O (by omega) O)) (bQ O (aA (oC O O (by decide)) ?_)));apply aL 7 [0] m;simp only[↓Z];refine aA ((pD (b:=0) pT O O (by omega) O)) ?_;simp only[J];refine iE m O O (Rb c) 3 [] ?_;simp only[↓Z];intro u m;exact aS O O ⟨_,O,m.ext,O⟩
def wD{cap:Nat}(w:an)(b:dX w A na cap xs):cX X9 115 [.slice A na cap] w (λv _=>v=.slice A (trim xs).length cap):=by
 refine⟨bP func115 (by kernel_rfl),?_⟩;have m:=Mem.refl w;obtain rfl:=b.eq;have o:=b.len;have r:=b.le
 go_enter func115,ntmps115
 apply iD 6 [0] m;simp only[↓Z];refine bT [0] [3,4,5,6,7,8,9,10,11,12,13,14,15,16,17,18,19] (λn vs g=>∃(k:Nat),vs=[.slice A k cap]/\Mem w g []/\(k<=xs.length)/\(trim (xs.take k)=trim xs)/\(n=k)) ?_ ?_
 .exact⟨_,xs.length,O,m,bg _,by rw[ga],O⟩
 intro n vs q f u j h;obtain⟨k,rfl,m,l,c,p⟩:=f;simp only[zu,zF,zG];apply F 2 [] m;simp only[↓Z];by_cases e:0<k
 .obtain⟨a,rfl,i,s⟩:=b.get (show k-1<xs.length by omega);apply aQ 9 [1,0,0,0,0,0] m;simp only[↓Z,fW];apply R;omega;refine bQ O (aA (aN dK cL O O (by omega) (by omega) (lK (show _=k-1 by omega))) (bQ O ?_));simp only[J];refine bA O (lies1 (m.ext.cell i) jG) ?_;simp only[J];apply aL 3 [0,0,0] m;simp only[↓Z];refine aZ O ?_ ?_<;>intro d
  .apply F 7 [0] m;simp only[↓Z,fW];apply R;omega;refine aA (gR dK cL O O (show _=k-1 by omega) (by omega) (by omega)) ?_;apply aL 3 [0] m;simp only[↓Z];exact h (k-1) _ _ (by omega) (by kernel_rfl) ⟨k-1,O,m,by omega,Tt e (by omega) d c,O⟩
  apply F 7 [] m;simp only[↓Z];refine aS O O ?_;try simp only[zD,zE]
  exact⟨_,O,m.ext,by rw[<-aaf e (by omega) d c]⟩
 obtain rfl:k=0:=by omega
 apply aQ 22 [2,0,0,0,0,0,0,0] m;simp only[↓Z,fW];apply R;omega;refine aS O O ?_;try simp only[zD,zE]
 exact⟨_,O,m.ext,by rw[<-aag c]⟩
def aeb{B:Option Addr}(w:an)(d:dX w A na ca xs)(c:dX w B nb cb ys)(o:iI xs)(ty:iI ys):cX X9 72 [.slice A na ca,.slice B nb cb] w (λv _=>v=U (Wm (val 4294967296 xs) (val 4294967296 ys))):=by
 refine⟨bP func72 (by kernel_rfl),?_⟩;have m:=Mem.refl w;obtain rfl:=d.eq;obtain rfl:=c.eq;have t:=d.len;have E:=c.len
 go_enter func72,ntmps72
 apply iD 15 [0,0] m;simp only[↓Z,fW];refine aZ O ?_ ?_<;>intro z
 .apply F 5 [] m;simp only[↓Z];refine aS O O ?_;try simp only[zD,zE]
  exact⟨_,O,m.ext,by rw[Wm,Z9 (lJ (by omega) d.digs c.digs ty (by omega))]⟩
 apply F 9 [0,0] m;simp only[↓Z,fW];refine aZ O ?_ ?_<;>intro C
 .apply F 5 [] m;simp only[↓Z];refine aS O O ?_;try simp only[zD,zE]
  exact⟨_,O,m.ext,by have:=lJ (B:=4294967296) (by omega) c.digs d.digs o (by omega);rw[Wm,K0 (by omega),Z9 this]⟩
 apply F 11 [0] m;simp only[↓Z,fW];apply R;omega;refine bT [5] [4,21,22,23,24,25,26,27,28,29,30,31,32,33,34,35,36,37,38,39,40,41,42,43,44] (λn vs p=>∃(k:Nat),vs=[U ((k:Int)-1)]/\Mem w p []/\(k<=xs.length)/\(xs.drop k=ys.drop k)/\(n=k)) ?_ ?_
 .exact⟨_,xs.length,O,m,bg _,by rw[j_,show xs.length=ys.length by omega,j_],O⟩
 intro n vs y l u r q;obtain⟨k,rfl,m,s,e,x⟩:=l;simp only[zu,zF,zG];apply F 6 [0,0] m;simp only[↓Z];refine aZ O ?_ ?_<;>intro D
 .apply F 5 [] m;simp only[↓Z];obtain⟨a,rfl,f,_⟩:=d.get (show k-1<xs.length by omega);obtain⟨b,rfl,g,_⟩:=c.get (show k-1<ys.length by omega);refine gc (mq m aB (by kernel_rfl) (aK aF (aK aF ?_)));simp only[J];refine aK (aN dK cL O O (by omega) (by omega) (lK (show _=k-1 by omega))) ?_;simp only[J];refine ql O (λu m=>(lies1 (m.ext.cell f) jG)) ?_;simp only[J];refine aK aF (aK aF ?_);simp only[J];refine aK (aN dK cL O O (by omega) (by omega) (lK (show _=k-1 by omega))) ?_;simp only[J];refine ql O (λu m=>(lies1 (m.ext.cell g) jG)) ?_;simp only[J];refine aK (oJ O O) (aK aI (bD ?_));intro u m;refine gc ?_;simp only[J];refine aZ O ?_ ?_<;>intro h
  .apply F 5 [] m;simp only[↓Z];refine aS O O ?_;try simp only[zD,zE]
   exact⟨_,O,m.ext,by rw[Wm,Z9 (agr d.digs (by omega) (by omega) (by omega) e h)]⟩
  apply F 1 [] m;simp only[↓Z];have f:=d.at (show k-1<xs.length by omega);have g:=c.at (show k-1<ys.length by omega);refine gc (mq m aB (by kernel_rfl) (aK aF (aK aF ?_)));simp only[J];refine aK (aN dK cL O O (by omega) (by omega) (lK (show _=k-1 by omega))) ?_;simp only[J];refine ql O (λu m=>(lies1 (m.ext.cell f) jG)) ?_;simp only[J];refine aK aF (aK aF ?_);simp only[J];refine aK (aN dK cL O O (by omega) (by omega) (lK (show _=k-1 by omega))) ?_;simp only[J];refine ql O (λu m=>(lies1 (m.ext.cell g) jG)) ?_;simp only[J];refine aK (Tp O O) (aK aI (bD ?_));intro u m;refine gc ?_;simp only[J];refine aZ O ?_ ?_<;>intro i
  .apply F 5 [] m;simp only[↓Z];refine aS O O ?_;try simp only[zD,zE]
   exact⟨_,O,m.ext,by have:=agr c.digs (by omega) (by omega) (by omega) e.symm i;rw[Wm,K0 (by omega),Z9 this]⟩
  apply F 8 [0] m;simp only[↓Z];apply R;omega;rw[show ((k:Int)-1-1)=((k-1:Nat):Int)-1 by omega];exact q (k-1) _ _ (by omega) (by kernel_rfl) ⟨k-1,O,m,by omega,aeG (by omega) (by omega) (by omega) e h i,O⟩
 apply F 6 [] m;simp only[↓Z];refine aS O O ?_;try simp only[zD,zE]
 exact⟨_,O,m.ext,by have j:k=0:=(by omega);subst j;simp only[kv] at e;rw[e,Wm,K0 (by omega),K0 (by omega)]⟩
def anc{B:Option Addr}(w:an)(K:dX w A na ca xs)(I:dX w B nb cb ys)(ai:xs.length<=1099511627776)(aj:ys.length<=1099511627776):cX X9 70 [.slice A na ca,.slice B nb cb] w (jF (val 4294967296 xs+val 4294967296 ys)):=by
 refine⟨bP func70 (by kernel_rfl),?_⟩;have m:=Mem.refl w;obtain rfl:=K.eq;obtain rfl:=I.eq
 go_enter func70,ntmps70
 apply iD 13 [0,0] m;simp only[↓Z,fW];refine aZ O ?_ ?_<;>intro ag
 .obtain⟨qb,rfl⟩:∃q,q=xs:=⟨_,rfl⟩
  obtain⟨d,rfl⟩:∃q,q=ys:=⟨_,rfl⟩
  obtain⟨Qb,rfl⟩:∃q,q=A:=⟨_,rfl⟩
  obtain⟨Qa,rfl⟩:∃q,q=B:=⟨_,rfl⟩
  have S:=I;have T:=K;apply F 11 [0] m;simp only[↓Z,fW];apply R;omega;refine jW dK sO O O O (show _=d.length+1 by omega) (show _=d.length+1 by omega) (by omega) (by omega) (by omega) (by omega) ?_;intro u D C L P;replace m:=m.newB C L P;apply aL 2 [] m;simp only[↓Z];rw[iW] at m;apply aQ 12 [0] m;simp only[↓Z,fW];refine bT [6,22] [7,8,23,24,25,26,27,28,29,30,31,32,33,34,35,36,37,38,39,40,41,42,43,44,45,46,47,48] (λn vs Q=>∃(i c:Nat)(os:List Nat),vs=[.int .u64 (c:Int),U (i:Int)]/\Mem w Q [bI D (os.map lZ) 99]/\(i<=d.length)/\(os.length=d.length+1)/\(val 4294967296 os+4294967296^i*c=val 4294967296 (d.take i)+val 4294967296 (qb.take i))/\(os.drop i=bn (d.length+1-i) 0)/\(G 4294967296 os)/\(c<=1)/\(n=d.length-i)) ?_ ?_
  .exact⟨_,0,0,bn (d.length+1) 0,O,m,by omega,by simp,by simp[fZ,val],by simp,λx M=>by rw[ep M];decide,by omega,rfl⟩
  intro n vs wr E u K1 Y;obtain⟨i,c,os,rfl,m,hi,e,g,h,f,y,hn⟩:=E;simp only[zu,zF,zG];apply F 5 [0,0] m;simp only[↓Z];refine aZ O ?_ ?_<;>intro ad
  .apply F 9 [] m;simp only[↓Z];obtain⟨a,rfl,V,z⟩:=S.get (show i<d.length by omega);apply aQ 4 [0] m;simp only[↓Z,jM,ab,ae,bi];apply R;omega;refine bA O (lies1 (m.ext.cell V) jG) ?_;simp only[J];apply aL 12 [0,0] m;simp only[↓Z,fW];apply R;omega;refine aZ O ?_ ?_<;>intro af
   .obtain⟨b,rfl,W,X⟩:=T.get (show i<qb.length by omega);apply F 5 [0] m;simp only[↓Z,jM,ab,ae,bi];apply R;omega;refine bA O (lies1 (m.ext.cell W) jG) ?_;simp only[J];apply aL 3 [] m;simp only[↓Z];apply R;omega;obtain⟨s,j⟩:∃s:Nat,(s:Int)=↑d[i]+↑c+↑qb[i]:=⟨d[i]+c+qb[i],by omega⟩
    rw[<-j];have r:s=d[i]+c+qb[i]?.getD 0:=by rw[ah (by omega)];simp;omega
    have t:qb[i]?.getD 0<4294967296:=by rw[ah (by omega)];exact X
    apply aQ 4 [0] m;simp only[↓Z];refine aA (mD O O (rP (by omega) (by omega))) ?_;apply aL 1 [0] m;simp only[↓Z];refine aA (lH O O (by omega) (Tu (by omega))) ?_;apply aL 1 [0] m;simp only[↓Z,jM,ab,ae,bi];apply R;omega;refine cH m 0 O O O cL (by simp;omega) ⟨rfl,rfl⟩ ?_;intro u m;simp only[J] at m ;rw[show ((s:Int)%4294967296)=((s%4294967296:Nat):Int) by omega,iN (by omega)] at m;apply aL 7 [0] m;simp only[↓Z];apply R;omega;obtain⟨k,l,o,p⟩:=Cw (by omega) e g h f y r z t;rw[show ((i:Int)+1)=((i+1:Nat):Int) by omega,show ((s:Int) / 4294967296)=((s / 4294967296:Nat):Int) by omega];exact Y (d.length-(i+1)) _ _ (by omega) (by kernel_rfl) ⟨i+1,s / 4294967296,os.set i (s%4294967296),O,m,by omega,by simpa using e,k,l,o,p,O⟩
   obtain⟨s,j⟩:∃s:Nat,(s:Int)=↑d[i]+↑c:=⟨d[i]+c,by omega⟩
   rw[<-j];have r:s=d[i]+c+qb[i]?.getD 0:=by rw[ct (by omega)];simp;omega
   have t:qb[i]?.getD 0<4294967296:=by rw[ct (by omega)];decide
   apply F 5 [0] m;simp only[↓Z];refine aA (mD O O (rP (by omega) (by omega))) ?_;apply aL 1 [0] m;simp only[↓Z];refine aA (lH O O (by omega) (Tu (by omega))) ?_;apply aL 1 [0] m;simp only[↓Z,jM,ab,ae,bi];apply R;omega;refine cH m 0 O O O cL (by simp;omega) ⟨rfl,rfl⟩ ?_;intro u m;simp only[J] at m ;rw[show ((s:Int)%4294967296)=((s%4294967296:Nat):Int) by omega,iN (by omega)] at m;apply aL 7 [0] m;simp only[↓Z];apply R;omega;obtain⟨k,l,o,p⟩:=Cw (by omega) e g h f y r z t;rw[show ((i:Int)+1)=((i+1:Nat):Int) by omega,show ((s:Int) / 4294967296)=((s / 4294967296:Nat):Int) by omega];exact Y (d.length-(i+1)) _ _ (by omega) (by kernel_rfl) ⟨i+1,s / 4294967296,os.set i (s%4294967296),O,m,by omega,by simpa using e,k,l,o,p,O⟩
  apply F 2 [] m;simp only[↓Z];obtain rfl:i=d.length:=by omega
  apply aQ 6 [0] m;simp only[↓Z,fW,jM,ab,ae,bi];apply R;omega;refine cH m 0 O O O cL (by simp;omega) ⟨rfl,rfl⟩ ?_;intro u m;simp only[J] at m ;rw[iN (by omega)] at m;apply aL 4 [0] m;simp only[↓Z];refine bY m O O (wD _ ((m.b 0 O).nat (f.set (show c<4294967296 by omega)) (by simp;omega) (by omega))) ?_;rintro v u m rfl;apply aL 3 [] m;simp only[↓Z];refine aS O O ?_;try simp only[zD,zE]
  exact⟨_,O,m.ext,by first|exact jF.of_trim ((m.b 0 O).nat (f.set (show c<4294967296 by omega)) (by simp;omega) (by omega)) (Mp (by omega) e g h)|(rw[lh];exact jF.of_trim ((m.b 0 O).nat (f.set (show c<4294967296 by omega)) (by simp;omega) (by omega)) (Mp (by omega) e g h))⟩
 obtain⟨d,rfl⟩:∃q,q=xs:=⟨_,rfl⟩
 obtain⟨qb,rfl⟩:∃q,q=ys:=⟨_,rfl⟩
 obtain⟨Qa,rfl⟩:∃q,q=A:=⟨_,rfl⟩
 obtain⟨Qb,rfl⟩:∃q,q=B:=⟨_,rfl⟩
 have S:=K;have T:=I;apply F 6 [0] m;simp only[↓Z,fW];apply R;omega;refine jW dK sO O O O (show _=d.length+1 by omega) (show _=d.length+1 by omega) (by omega) (by omega) (by omega) (by omega) ?_;intro u D C L P;replace m:=m.newB C L P;apply aL 2 [] m;simp only[↓Z];rw[iW] at m;apply aQ 12 [0] m;simp only[↓Z,fW];refine bT [6,22] [7,8,23,24,25,26,27,28,29,30,31,32,33,34,35,36,37,38,39,40,41,42,43,44,45,46,47,48] (λn vs Q=>∃(i c:Nat)(os:List Nat),vs=[.int .u64 (c:Int),U (i:Int)]/\Mem w Q [bI D (os.map lZ) 99]/\(i<=d.length)/\(os.length=d.length+1)/\(val 4294967296 os+4294967296^i*c=val 4294967296 (d.take i)+val 4294967296 (qb.take i))/\(os.drop i=bn (d.length+1-i) 0)/\(G 4294967296 os)/\(c<=1)/\(n=d.length-i)) ?_ ?_
 .exact⟨_,0,0,bn (d.length+1) 0,O,m,by omega,by simp,by simp[fZ,val],by simp,λx M=>by rw[ep M];decide,by omega,rfl⟩
 intro n vs wr E u K2 aa;obtain⟨i,c,os,rfl,m,hi,e,g,h,f,y,hn⟩:=E;simp only[zu,zF,zG];apply F 5 [0,0] m;simp only[↓Z];refine aZ O ?_ ?_<;>intro ad
 .apply F 9 [] m;simp only[↓Z];obtain⟨a,rfl,V,z⟩:=S.get (show i<d.length by omega);apply aQ 4 [0] m;simp only[↓Z,jM,ab,ae,bi];apply R;omega;refine bA O (lies1 (m.ext.cell V) jG) ?_;simp only[J];apply aL 12 [0,0] m;simp only[↓Z,fW];apply R;omega;refine aZ O ?_ ?_<;>intro af
  .obtain⟨b,rfl,W,X⟩:=T.get (show i<qb.length by omega);apply F 5 [0] m;simp only[↓Z,jM,ab,ae,bi];apply R;omega;refine bA O (lies1 (m.ext.cell W) jG) ?_;simp only[J];apply aL 3 [] m;simp only[↓Z];apply R;omega;obtain⟨s,j⟩:∃s:Nat,(s:Int)=↑d[i]+↑c+↑qb[i]:=⟨d[i]+c+qb[i],by omega⟩
   rw[<-j];have r:s=d[i]+c+qb[i]?.getD 0:=by rw[ah (by omega)];simp;omega
   have t:qb[i]?.getD 0<4294967296:=by rw[ah (by omega)];exact X
   apply aQ 4 [0] m;simp only[↓Z];refine aA (mD O O (rP (by omega) (by omega))) ?_;apply aL 1 [0] m;simp only[↓Z];refine aA (lH O O (by omega) (Tu (by omega))) ?_;apply aL 1 [0] m;simp only[↓Z,jM,ab,ae,bi];apply R;omega;refine cH m 0 O O O cL (by simp;omega) ⟨rfl,rfl⟩ ?_;intro u m;simp only[J] at m ;rw[show ((s:Int)%4294967296)=((s%4294967296:Nat):Int) by omega,iN (by omega)] at m;apply aL 7 [0] m;simp only[↓Z];apply R;omega;obtain⟨k,l,o,p⟩:=Cw (by omega) e g h f y r z t;rw[show ((i:Int)+1)=((i+1:Nat):Int) by omega,show ((s:Int) / 4294967296)=((s / 4294967296:Nat):Int) by omega];exact aa (d.length-(i+1)) _ _ (by omega) (by kernel_rfl) ⟨i+1,s / 4294967296,os.set i (s%4294967296),O,m,by omega,by simpa using e,k,l,o,p,O⟩
  obtain⟨s,j⟩:∃s:Nat,(s:Int)=↑d[i]+↑c:=⟨d[i]+c,by omega⟩
  rw[<-j];have r:s=d[i]+c+qb[i]?.getD 0:=by rw[ct (by omega)];simp;omega
  have t:qb[i]?.getD 0<4294967296:=by rw[ct (by omega)];decide
  apply F 5 [0] m;simp only[↓Z];refine aA (mD O O (rP (by omega) (by omega))) ?_;apply aL 1 [0] m;simp only[↓Z];refine aA (lH O O (by omega) (Tu (by omega))) ?_;apply aL 1 [0] m;simp only[↓Z,jM,ab,ae,bi];apply R;omega;refine cH m 0 O O O cL (by simp;omega) ⟨rfl,rfl⟩ ?_;intro u m;simp only[J] at m ;rw[show ((s:Int)%4294967296)=((s%4294967296:Nat):Int) by omega,iN (by omega)] at m;apply aL 7 [0] m;simp only[↓Z];apply R;omega;obtain⟨k,l,o,p⟩:=Cw (by omega) e g h f y r z t;rw[show ((i:Int)+1)=((i+1:Nat):Int) by omega,show ((s:Int) / 4294967296)=((s / 4294967296:Nat):Int) by omega];exact aa (d.length-(i+1)) _ _ (by omega) (by kernel_rfl) ⟨i+1,s / 4294967296,os.set i (s%4294967296),O,m,by omega,by simpa using e,k,l,o,p,O⟩
 apply F 2 [] m;simp only[↓Z];obtain rfl:i=d.length:=by omega
 apply aQ 6 [0] m;simp only[↓Z,fW,jM,ab,ae,bi];apply R;omega;refine cH m 0 O O O cL (by simp;omega) ⟨rfl,rfl⟩ ?_;intro u m;simp only[J] at m ;rw[iN (by omega)] at m;apply aL 4 [0] m;simp only[↓Z];refine bY m O O (wD _ ((m.b 0 O).nat (f.set (show c<4294967296 by omega)) (by simp;omega) (by omega))) ?_;rintro v u m rfl;apply aL 3 [] m;simp only[↓Z];refine aS O O ?_;try simp only[zD,zE]
 exact⟨_,O,m.ext,by first|exact jF.of_trim ((m.b 0 O).nat (f.set (show c<4294967296 by omega)) (by simp;omega) (by omega)) (Mp (by omega) e g h)|(rw[lh];exact jF.of_trim ((m.b 0 O).nat (f.set (show c<4294967296 by omega)) (by simp;omega) (by omega)) (Mp (by omega) e g h))⟩
def aiP{B:Option Addr}(w:an)(r:dX w A na ca xs)(q:dX w B nb cb ys)(W:ys.length<=xs.length)(T:val 4294967296 ys<=val 4294967296 xs)(af:xs.length<=1099511627776):cX X9 73 [.slice A na ca,.slice B nb cb] w (λv w'=>jF (val 4294967296 xs-val 4294967296 ys) v w'/\wL w v):=by
 refine⟨bP func73 (by kernel_rfl),?_⟩;have m:=Mem.refl w;obtain rfl:=r.eq;obtain rfl:=q.eq
 go_enter func73,ntmps73
 apply iD 8 [0] m;simp only[↓Z,fW];refine jW dK sO O O O (ab _) (ab _) (by omega) (by omega) (by omega) (by omega) ?_;intro u E D K M;replace m:=m.newB D K M;apply aL 2 [] m;simp only[↓Z];rw[iW] at m;apply aQ 12 [0] m;simp only[↓Z,fW];refine bT [6,14] [7,8,15,16,17,18,19,20,21,22,23,24,25,26,27,28,29,30,31,32,33,34,35,36,37,38,39,40] (λn vs P=>∃(i c:Nat)(os:List Nat),vs=[.int .u64 (c:Int),U (i:Int)]/\Mem w P [bI E (os.map lZ) 99]/\(i<=xs.length)/\(os.length=xs.length)/\(val 4294967296 os+val 4294967296 (ys.take i)=val 4294967296 (xs.take i)+4294967296^i*c)/\(os.drop i=bn (xs.length-i) 0)/\(G 4294967296 os)/\(c<=1)/\(n=xs.length-i)) ?_ ?_
 .exact⟨_,0,0,bn xs.length 0,O,m,by omega,by simp,by simp[fZ,val],by simp,λx L=>by rw[ep L];decide,by omega,rfl⟩
 intro n vs wr I u Y z;obtain⟨i,c,os,rfl,m,hi,e,g,y,d,t,hn⟩:=I;simp only[zu,zF,zG];apply F 5 [0,0] m;simp only[↓Z];refine aZ O ?_ ?_<;>intro aa
 .apply F 9 [] m;simp only[↓Z];obtain⟨a,rfl,Q,C⟩:=r.get (show i<xs.length by omega);apply aQ 4 [0] m;simp only[↓Z,jM,ab,ae,bi];apply R;omega;refine bA O (lies1 (m.ext.cell Q) jG) ?_;simp only[J];apply aL 1 [0] m;simp only[↓Z];refine aA (pW O O (lD _)) ?_;apply aL 10 [0,0] m;simp only[↓Z,fW];refine aZ O ?_ ?_<;>intro ad
  .obtain⟨b,rfl,S,V⟩:=q.get (show i<ys.length by omega);apply F 5 [0] m;simp only[↓Z,jM,ab,ae,bi];apply R;omega;refine bA O (lies1 (m.ext.cell S) jG) ?_;simp only[J];refine aA (pW O O (lD _)) ?_;apply aL 2 [] m;simp only[↓Z];obtain⟨s,f⟩:∃s:Nat,(s:Int)=((↑xs[i]-↑c)%18446744073709551616-↑ys[i])%18446744073709551616:=⟨(((↑xs[i]-↑c)%18446744073709551616-↑ys[i])%18446744073709551616:Int).toNat,by omega⟩
   rw[<-f];have o:(s:Int)=((xs[i]:Nat)-(c:Nat)-(ys[i]?.getD 0:Nat):Int)%18446744073709551616:=by rw[ah (by omega)];simp only[dt];omega
   have p:ys[i]?.getD 0<4294967296:=by rw[ah (by omega)];exact V
   have X:s<18446744073709551616:=by omega
   apply aQ 4 [0] m;simp only[↓Z];refine aA (mD O O (rP (by omega) (by omega))) ?_;apply aL 1 [0] m;simp only[↓Z];refine aA (lH O O (by omega) (amL (by omega))) ?_;apply aL 1 [0] m;simp only[↓Z,jM,ab,ae,bi];apply R;omega;refine cH m 0 O O O cL (by simp;omega) ⟨rfl,rfl⟩ ?_;intro u m;simp only[J] at m ;rw[show ((s:Int)%4294967296)=((s%4294967296:Nat):Int) by omega,iN (by omega)] at m;apply aL 7 [0] m;simp only[↓Z];apply R;omega;obtain⟨h,j,k,l⟩:=Tv (by omega) e g y d t o C p;rw[show ((i:Int)+1)=((i+1:Nat):Int) by omega,show ((s:Int) / 9223372036854775808)=((s / 9223372036854775808:Nat):Int) by omega];exact z (xs.length-(i+1)) _ _ (by omega) (by kernel_rfl) ⟨i+1,s / 9223372036854775808,os.set i (s%4294967296),O,m,by omega,by simpa using e,h,j,k,l,O⟩
  obtain⟨s,f⟩:∃s:Nat,(s:Int)=(↑xs[i]-↑c)%18446744073709551616:=⟨((↑xs[i]-↑c)%18446744073709551616:Int).toNat,by omega⟩
  rw[<-f];have o:(s:Int)=((xs[i]:Nat)-(c:Nat)-(ys[i]?.getD 0:Nat):Int)%18446744073709551616:=by rw[ct (by omega)];simp only[ij];omega
  have p:ys[i]?.getD 0<4294967296:=by rw[ct (by omega)];decide
  apply F 1 [] m;simp only[↓Z];have X:s<18446744073709551616:=by omega
  apply aQ 4 [0] m;simp only[↓Z];refine aA (mD O O (rP (by omega) (by omega))) ?_;apply aL 1 [0] m;simp only[↓Z];refine aA (lH O O (by omega) (amL (by omega))) ?_;apply aL 1 [0] m;simp only[↓Z,jM,ab,ae,bi];apply R;omega;refine cH m 0 O O O cL (by simp;omega) ⟨rfl,rfl⟩ ?_;intro u m;simp only[J] at m ;rw[show ((s:Int)%4294967296)=((s%4294967296:Nat):Int) by omega,iN (by omega)] at m;apply aL 7 [0] m;simp only[↓Z];apply R;omega;obtain⟨h,j,k,l⟩:=Tv (by omega) e g y d t o C p;rw[show ((i:Int)+1)=((i+1:Nat):Int) by omega,show ((s:Int) / 9223372036854775808)=((s / 9223372036854775808:Nat):Int) by omega];exact z (xs.length-(i+1)) _ _ (by omega) (by kernel_rfl) ⟨i+1,s / 9223372036854775808,os.set i (s%4294967296),O,m,by omega,by simpa using e,h,j,k,l,O⟩
 apply F 2 [] m;simp only[↓Z];obtain rfl:i=xs.length:=by omega
 apply aQ 2 [0] m;simp only[↓Z];refine bY m O O (wD _ ((m.b 0 O).nat d (by omega) (by omega))) ?_;rintro v u m rfl;apply aL 3 [] m;simp only[↓Z];exact aS O O ⟨_,O,m.ext,jF.of_trim ((m.b 0 O).nat d (n:=xs.length) (by omega) (by omega)) (akC W e d g T),wL.of_blk (m.gb 0 O)⟩
def aiQ{B:Option Addr}(w:an)(p:dX w A na ca xs)(o:dX w B nb cb ys)(ag:xs.length<=1099511627776)(ai:ys.length<=1099511627776):cX X9 84 [.slice A na ca,.slice B nb cb] w (jF (val 4294967296 xs*val 4294967296 ys)):=by
 refine⟨bP func84 (by kernel_rfl),?_⟩;have m:=Mem.refl w;obtain rfl:=p.eq;obtain rfl:=o.eq
 go_enter func84,ntmps84
 apply iD 11 [0] m;simp only[↓Z,fW];apply R;omega;refine jW dK sO O O O (show _=xs.length+ys.length by omega) (show _=xs.length+ys.length by omega) (by omega) (by omega) (by omega) (by omega) ?_;intro u l y z D;replace m:=m.newB y z D;apply aL 2 [] m;simp only[↓Z];rw[iW] at m;apply aQ 8 [0] m;simp only[↓Z,fW];refine bT [20] [6,7,8,9,10,11,21,22,23,24,25,26,27,28,29,30,31,32,33,34,35,36,37,38,39,40,41,42,43,44,45,46,47,48,49,50,51,52,53,54,55,56,57,58,59,60,61] (λn vs j=>∃(i:Nat)(os:List Nat),vs=[U (i:Int)]/\Mem w j [bI l (os.map lZ) 99]/\(i<=xs.length)/\(os.length=xs.length+ys.length)/\(val 4294967296 os=val 4294967296 (xs.take i)*val 4294967296 ys)/\(os.drop (i+ys.length)=bn (xs.length-i) 0)/\(G 4294967296 os)/\(n=xs.length-i)) ?_ ?_
 .exact⟨_,0,bn (xs.length+ys.length) 0,O,m,by omega,by simp,by rw[fZ,im];simp only[val,Nat.zero_mul],by rw[ob];congr 1;omega,λx C=>by rw[ep C];decide,rfl⟩
 intro n vs I g u V K;obtain⟨i,os,rfl,m,Y,e,r,f,d,hn⟩:=g;simp only[zu,zF,zG];apply F 5 [0,0] m;simp only[↓Z];refine aZ O ?_ ?_<;>intro aa
 .apply F 4 [] m;simp only[↓Z];obtain⟨a,rfl,M,Q⟩:=p.get (show i<xs.length by omega);apply aQ 3 [0] m;simp only[↓Z,jM,ab,ae,bi];apply R;omega;refine bA O (lies1 (m.ext.cell M) jG) ?_;simp only[J];apply aL 15 [0] m;simp only[↓Z,fW];refine bT [8,27] [9,10,11,28,29,30,31,32,33,34,35,36,37,38,39,40,41,42,43,44,45,46,47,48,49,50,51,52,53] (λn vs j=>∃(k c:Nat)(os:List Nat),vs=[.int .u64 (c:Int),U (k:Int)]/\Mem w j [bI l (os.map lZ) 99]/\(k<=ys.length)/\(os.length=xs.length+ys.length)/\(val 4294967296 os+4294967296^(i+k)*c=val 4294967296 (xs.take i)*val 4294967296 ys+4294967296^i*(xs[i]*val 4294967296 (ys.take k)))/\(os.drop (i+ys.length)=bn (xs.length-i) 0)/\(G 4294967296 os)/\(c<4294967296)/\(n=ys.length-k)) ?_ ?_
  .exact⟨_,0,0,os,O,m,by omega,e,by rw[im,r];simp only[val,ja],f,d,by omega,rfl⟩
  intro n vs I g u W L;obtain⟨k,c,os,rfl,m,hk,e,t,f,d,X,al⟩:=g;simp only[zu,zF,zG];apply F 5 [0,0] m;simp only[↓Z];refine aZ O ?_ ?_<;>intro ad
  .apply F 4 [] m;simp only[↓Z];obtain⟨b,rfl,P,S⟩:=o.get (show k<ys.length by omega);apply aQ 3 [0] m;simp only[↓Z,jM,ab,ae,bi];apply R;omega;refine bA O (lies1 (m.ext.cell P) jG) ?_;simp only[J];apply aL 4 [] m;simp only[↓Z];have af:=(m.b 0 rfl).word (show i+k<os.length by omega);have am:=d.get (ah (show i+k<os.length by omega));obtain⟨aj,ak⟩:=akE Q S;apply aQ 5 [0] m;simp only[↓Z];apply R;omega;refine aA (aN dK cL O O (by omega) (by omega) (mQ (show _=i+k by omega))) ?_;simp only[J];refine bA O (lies1 ((m.b 0 O).word (show i+k<os.length by omega)) jG) ?_;simp only[J];apply aL 8 [] m;simp only[↓Z];apply R;omega;obtain⟨s,q⟩:∃s:Nat,s=os[i+k]+xs[i]*ys[k]+c:=⟨_,rfl⟩
   have T:(↑os[i+k]+↑xs[i]*↑ys[k]+↑c:Int)=(s:Int):=by rw[q];simp
   rw[T];have ao:s<18446744073709551616:=by omega
   apply aQ 6 [0] m;simp only[↓Z];apply R;omega;refine aA (mD O O (rP (by omega) (by omega))) ?_;apply aL 1 [0] m;simp only[↓Z];refine aA (lH O O (by omega) (Tu (by omega))) ?_;simp only[J];refine aA (aN dK cL O O (by omega) (by omega) (mQ (show _=i+k by omega))) ?_;simp only[J];refine cH m 0 O O O cL (by simp;omega) ⟨rfl,rfl⟩ ?_;intro u m;simp only[J] at m ;rw[show ((s:Int)%4294967296)=((s%4294967296:Nat):Int) by omega,iN (by omega)] at m;apply aL 7 [0] m;simp only[↓Z];apply R;omega;have h:=aeH (by omega) (by omega) e t q;rw[show ((k:Int)+1)=((k+1:Nat):Int) by omega,show ((s:Int) / 4294967296)=((s / 4294967296:Nat):Int) by omega];exact L (ys.length-(k+1)) _ _ (by omega) (by kernel_rfl) ⟨k+1,s / 4294967296,os.set (i+k) (s%4294967296),O,m,by omega,by simpa using e,h,by rw[rQ (by omega)];exact f,d.set (by omega),by omega,O⟩
  apply F 1 [] m;simp only[↓Z];obtain rfl:k=ys.length:=by omega
  apply aQ 7 [0] m;simp only[↓Z,fW];apply R;omega;refine aA (aN dK cL O O (by omega) (by omega) (mQ (show _=i+ys.length by omega))) ?_;simp only[J];refine cH m 0 O O O cL (by simp;omega) ⟨rfl,rfl⟩ ?_;intro u m;simp only[J] at m ;rw[iN (by omega)] at m;apply aL 6 [0] m;simp only[↓Z];apply R;omega;obtain⟨h,E⟩:=akD (by omega) e t f;rw[show ((i:Int)+1)=((i+1:Nat):Int) by omega];exact K (xs.length-(i+1)) _ _ (by omega) (by kernel_rfl) ⟨i+1,os.set (i+ys.length) c,O,m,by omega,by simpa using e,h,E,d.set (by omega),O⟩
 apply F 2 [] m;simp only[↓Z];obtain rfl:i=xs.length:=by omega
 apply aQ 2 [0] m;simp only[↓Z];refine bY m O O (wD _ ((m.b 0 O).nat d (by omega) (by omega))) ?_;rintro v u m rfl;apply aL 3 [] m;simp only[↓Z];exact aS O O ⟨_,O,m.ext,jF.of_trim ((m.b 0 O).nat d (n:=xs.length+ys.length) (by omega) (by omega)) (by rw[r,ga])⟩
end
end Go.Proofs.YtbbokjbcdkgfgaaGreatDoor
namespace Go.Lith
open Go.RowKit
section
variable{P:B}{ops:Array Oper}{Q:Exit->Act->an->Prop}{md:Region.Mode}{S:an->Prop}{tl:List Nat}
def Fs(P:B)(md:Region.Mode)(ops:Array Oper)(Q:Exit->Act->an->Prop)(S:an->Prop)(tl:List Nat):Nat->Array Bool->Act->an->Prop
 |0,b,a,w=>Region.ready md ops b=[]/\Q .normal a w
 |fuel+1,b,a,w=>
  (Region.ready md ops b=[]->Q .normal a w) /\
  ∀i∈Region.ready md ops b,wpOp P ops Q i (λc w'=>(i∉tl->S w->S w')/\Fs P md ops Q S tl fuel (b.setIfInBounds i N) c w') a w
def Rc:∀(fuel:Nat)(b:Array Bool)(a:Act)(w:an),Fs P md ops Q S tl fuel b a w->wpAny P md ops Q fuel b a w
 |0,_,_,_,h=>h
 |fuel+1,_,_,_,h=>⟨h.1,λi e=>wpOp_mono (λc w' d=>Rc fuel _ c w' d.2) (h.2 i e)⟩
def acV(md:Region.Mode)(ops:Array Oper)(b:Array Bool):Prop:=∀j a,ops[j]? = H a->b.getD j X7=N->∀e∈a.after,Region.binds md e=N->b.getD e.on X7=N
def Re(md:Region.Mode)(ops:Array Oper):Nat->Nat->Nat->Bool
 |0,_,_=>X7
 |f+1,j,i=>match ops[j]? with
  |none=>X7
  |some o=>o.after.any λe=>Region.binds md e&&(e.on == i||Re md ops f e.on i)
def Ic{c:Array Bool}(D:acV md ops c){i:Nat}:∀(f j:Nat),(∀a,ops[j]? = H a->∀e∈a.after,Region.binds md e=N->c.getD e.on X7=N)->Re md ops f j i=N->c.getD i X7=N
 |0,_,_,h=>by cases h
 |f+1,j,m,h=>by
  unfold Re at h;split at h
  .cases h
  rename_i o p
  rw[Array.any_eq_true] at h;obtain⟨k,n,b⟩:=h;rw[ck,gz,beq_iff_eq] at b;have d:=m o p _ (Array.getElem_mem n) b.1;rcases b.2 with e|hn
  .rw[<-e];exact d
  exact Ic D f _ (λa q e l g=>D _ a q d e l g) hn
def acV.set{b:Array Bool}(D:acV md ops b){i:Nat}(h:i∈Region.ready md ops b):acV md ops (b.setIfInBounds i N):=λj l a g e f d=>by
 obtain⟨n,o,k,m⟩:=mem_ready.1 h;by_cases c:i=j
 . subst c
   rw[k] at a;cases a;exact getD_set_true (m e f d)
 rw[getD_set_ne X7 c] at g
 exact getD_set_true (D j l a g e f d)
def Ie{S':an->Prop}{i:Nat}{m:Oper}{v:am}(B:ops[i]? = H m)(M:∀(j:Nat) (o:Oper) cs b,ops[j]? = H o->o.op≠.select cs b)
 (V:∀c a w,Q (.panic c) (a.put m.dst v) w->Q (.panic c) a w) (u:(∀w,S' w)\/((∀w,S w->S' w)/\∀j∈tl,∃f,Re md ops f j i=N)) :
 ∀(s:Nat)(d:Array Bool)(a:Act)(w:an),
  (∀j n,ops[j]? = H n->j≠i->d.getD j N=X7->(∀e∈n.after,Region.binds md e=N->e.on≠i)->m.apart ops n=N) ->
  i∈Region.ready md ops d->acV md ops d->YieldsIf P ops S' m v a->(S w\/∀w,S' w) ->
  Fs P md ops Q S tl s (d.setIfInBounds i N) (a.put m.dst v) w->Fs P md ops Q S tl (s+1) d a w:=by
 intro s;have E:∀w,(S w\/∀w,S' w)->S' w:=λw h=>by
  rcases h with h|h
  . rcases u with k|k
    .exact k w
    exact k.1 w h
  exact h w
 induction s with
 |zero=>
  intro d a w _ l D x hS q;refine⟨λh=>(by rw[h] at l;cases l),λj r=>?_⟩;by_cases g:j=i
  .subst g;exact x.wpOp B (E w hS) ⟨λ_ h=>h,q⟩
  have:=ready_mono r g
  rw[q.1] at this;cases this
 |succ s ih=>
  intro d a w O l D x hS q;refine⟨λh=>(by rw[h] at l;cases l),λj r=>?_⟩;by_cases g:j=i
  .subst g;exact x.wpOp B (E w hS) ⟨λ_ h=>h,q⟩
  have p:=q.2 j (ready_mono r g)
  obtain⟨K,n,y,I⟩:=mem_ready.1 r;have J:d.getD i X7=N->False:=λp=>by
   have C:=(mem_ready.1 l).1;rcases ej i d.size with h'|h'
   .simp[h'] at C p;rw[C] at p;cases p
   simp[mj h'] at p
  have ab:∀e∈n.after,Region.binds md e=N->e.on≠i:=λe A z Y=>J (Y▸I e A z);have U:=wpOp_putIf y (O j n y g K ab) (λcs b=>M i m cs b B) (λcs b=>M j n cs b y) V x p;have ae:∀k ok,ops[k]? = H ok->k≠i->(d.setIfInBounds j N).getD k N=X7 ->
   (∀e∈ok.after,Region.binds md e=N->e.on≠i)->m.apart ops ok=N:=λk ok u Z G aa=>by
   refine O k ok u Z ?_ aa;by_cases F:j=k
   .subst F;exact K
   rw[getD_set_ne N F] at G;exact G
  have ad:∀w',(j∉tl->S w->S w')->(S w'\/∀w,S' w):=λw' h=>by
   rcases u with k|k
   .exact .inr k
   rcases hS with hS|hS
   . refine .inl (h (λX=>?_) hS)
     obtain⟨f,W⟩:=k.2 j X;exact J (Ic D f j (λaf L e A z=>by rw[y] at L;cases L;exact I e A z) W)
   exact .inr hS
  refine wpOp_mono (λT w' t=>⟨t.2.1,ih (d.setIfInBounds j N) T w' ae (ready_mono l (Ne.symm g)) (D.set r) t.1 (ad w' t.2.1) ?_⟩) U;rw[Array.setIfInBounds_comm _ _ g];exact t.2.2
def Rf{b:List Nat}{e:Nat}{c:Array Bool}{a:Act}{w:an}(d:Region.ready md ops c=b)(j:b≠[])
 (h:∀i∈b,wpOp P ops Q i (λf w'=>(i∉tl->S w->S w')/\Fs P md ops Q S tl e (c.setIfInBounds i N) f w') a w):Fs P md ops Q S tl (e+1) c a w:=
 ⟨λg=>Y0 (d▸g) j,d▸h⟩
inductive wE where
 |nil:wE
 |take:Nat->wE->wE
 |move:Nat->wE->wE
 |one:Nat->wE->wE
 |two:Nat->wE->Nat->wE->wE
def wE.ok(md:Region.Mode)(ops:Array Oper)(tl:List Nat):wE->Nat->Array Bool->Bool->Bool
 |.nil,f,a,_=>f == 0&&(Region.ready md ops a).isEmpty
 |.take i t,f,a,b=>decide (0<f)&&(ops[i]?).isSome&&Region.free md ops a i&&(Region.ready md ops a).contains i&&b&&tl.all (λj=>Re md ops 6 j i)&&t.ok md ops tl (f-1) (a.setIfInBounds i N) b
 |.move i t,f,a,b=>decide (0<f)&&(ops[i]?).isSome&&Region.free md ops a i&&(Region.ready md ops a).contains i&&t.ok md ops tl (f-1) (a.setIfInBounds i N) b
 |.one i t,f,a,b=>decide (0<f)&&(ops[i]?).isSome&&decide (Region.ready md ops a=[i])&&t.ok md ops tl (f-1) (a.setIfInBounds i N) (b && !tl.contains i)
 |.two i t j u,f,a,b=>decide (0<f)&&(ops[i]?).isSome&&(ops[j]?).isSome&&decide (Region.ready md ops a=[i,j])&&t.ok md ops tl (f-1) (a.setIfInBounds i N) (b && !tl.contains i)&&u.ok md ops tl (f-1) (a.setIfInBounds j N) (b && !tl.contains j)
def kU(P:B)(ops:Array Oper)(S:an->Prop)(tl:List Nat)(Q:Exit->Act->an->Prop):wE->Act->an->Prop
 |.nil,a,w=>Q .normal a w
 |.take i t,a,w=>cE P ops S (λ_ a w=>kU P ops S tl Q t a w) [((ops[i]?).getD default,N)] a w
 |.move i t,a,w=>cE P ops (λ_=>True) (λ_ a w=>kU P ops S tl Q t a w) [((ops[i]?).getD default,N)] a w
 |.one i t,a,w=>be P ops (Exit.then (λa w=>(i∉tl->S w)/\kU P ops S tl Q t a w) Q) [(ops[i]?).getD default] a w
 |.two i t j u,a,w=>be P ops (Exit.then (λa w=>(i∉tl->S w)/\kU P ops S tl Q t a w) Q) [(ops[i]?).getD default] a w/\be P ops (Exit.then (λa w=>(j∉tl->S w)/\kU P ops S tl Q u a w) Q) [(ops[j]?).getD default] a w
def lR{Q:Exit->Act->an->Prop}(z:Region.noSelect ops=N)(x:∀c d v a w,Q (.panic c) (Act.put a d v) w->Q (.panic c) a w):∀(t:wE)(f:Nat)(n:Array Bool)(b:Bool)(a:Act)(w:an),
 t.ok md ops tl f n b=N->acV md ops n->(b=N->S w)->kU P ops S tl Q t a w->Fs P md ops Q S tl f n a w
 |.nil,f,n,b,a,w,e,_,_,h=>by
  simp only[wE.ok,ck,beq_iff_eq] at e;obtain⟨rfl,m⟩:=e;exact⟨by simpa using m,h⟩
 |.take i t,f,n,b,a,w,e,D,A,h=>by
  simp only[wE.ok,ck,Y2] at e;obtain⟨⟨⟨⟨⟨⟨E,r⟩,m⟩,F⟩,p⟩,y⟩,s⟩:=e;obtain⟨o,l⟩:=fb.1 r;simp only[kU,cE,l,dt] at h;obtain⟨v,J,I⟩:=h;obtain⟨f,rfl⟩:∃g,f=g+1:=⟨f-1,by omega⟩
  have C:i∈Region.ready md ops n:=by simpa using F
  refine Ie (S':=S) l (Region.noSelect_spec z) (λc a w=>x c _ v a w) (.inr ⟨λ_ h=>h,λj G=>⟨6,List.all_eq_true.1 y j G⟩⟩) f n a w (Region.free_spec l m) C D J (.inl (A p)) ?_;exact lR z x t f _ b _ _ s (D.set C) A I
 |.move i t,f,n,b,a,w,e,D,A,h=>by
  simp only[wE.ok,ck,Y2] at e;obtain⟨⟨⟨⟨E,r⟩,m⟩,F⟩,s⟩:=e;obtain⟨o,l⟩:=fb.1 r;simp only[kU,cE,l,dt] at h;obtain⟨v,J,I⟩:=h;obtain⟨f,rfl⟩:∃g,f=g+1:=⟨f-1,by omega⟩
  have C:i∈Region.ready md ops n:=by simpa using F
  refine Ie (S':=λ_=>True) l (Region.noSelect_spec z) (λc a w=>x c _ v a w) (.inl λ_=>trivial) f n a w (Region.free_spec l m) C D J (.inr λ_=>trivial) ?_;exact lR z x t f _ b _ _ s (D.set C) A I
 |.one i t,f,n,b,a,w,e,D,A,h=>by
  simp only[wE.ok,ck,Y2] at e;obtain⟨⟨⟨E,r⟩,m⟩,s⟩:=e;obtain⟨o,l⟩:=fb.1 r;obtain⟨f,rfl⟩:∃g,f=g+1:=⟨f-1,by omega⟩
  refine Rf m (by simp) λj G=>?_;obtain rfl:j=i:=by simpa using G
  simp only[kU,l,dt] at h;refine wpOp_mono (λB w' q=>⟨λy _=>q.1 y,lR z x t f _ _ B w' s (D.set (by rw[m];exact cr.2 O)) (λp=>q.1 ?_) q.2⟩) (kI l h);simp only[ck,ip,List.contains_eq_mem,Y7] at p;exact p.2
 |.two i t j u,f,n,b,a,w,e,D,A,h=>by
  simp only[wE.ok,ck,Y2] at e;obtain⟨⟨⟨⟨⟨E,r⟩,U⟩,m⟩,s⟩,M⟩:=e;obtain⟨o,l⟩:=fb.1 r;obtain⟨o',L⟩:=fb.1 U;obtain⟨f,rfl⟩:∃g,f=g+1:=⟨f-1,by omega⟩
  simp only[kU,l,L,dt] at h;have K:∀{k:Nat},(b && !tl.contains k)=N->k∉tl:=λ{k} p=>by
   simp only[ck,ip,List.contains_eq_mem,Y7] at p;exact p.2
  refine Rf m (by simp) λk T=>?_;have V:k=i\/k=j:=by simpa using T
  rcases V with rfl|rfl
  .exact wpOp_mono (λB w' q=>⟨λy _=>q.1 y,lR z x t f _ _ B w' s (D.set (by rw[m];simp)) (λp=>q.1 (K p)) q.2⟩) (kI l h.1)
  exact wpOp_mono (λB w' q=>⟨λy _=>q.1 y,lR z x u f _ _ B w' M (D.set (by rw[m];simp)) (λp=>q.1 (K p)) q.2⟩) (kI L h.2)
def apA(md:Region.Mode)(ops:Array Oper)(n:Nat):acV md ops (ig n X7):=λj b _ a=>by
 rcases ej j n with h|h
 .simp[h] at a
 simp[Nat.not_lt.2 h] at a
variable{w w0:an}{is:List It}{a:Act}{ds:List d_}{l:List am}
def vL{id:Nat}{ol:List Oper}(m:Mem w0 w is)(bs:List Bool)(tl:List Nat)(t:wE)(g:P.follows .mixedOrders=N)(b:(Region.noSelect ol.toArray&&t.ok .any ol.toArray tl ol.toArray.size (ig ol.toArray.size X7) N)=N)
 (f:∀c d v a w,Q (.panic c) (Act.put a d v) w->Q (.panic c) a w)
 (h:∀u,Mem w0 u is->kU P ol.toArray (λu=>Mem w0 u (pS bs is)) tl Q t a u):(Code.region id ol.toArray N).wp P Q a w:=by
 simp only[ck] at b;have e:=m.ext' (eR.refl w).drawn;exact wp_region_any g (Rc _ _ _ _ (lR (S:=λu=>Mem w0 u (pS bs is)) b.1 f t _ _ N _ _ b.2 (apA _ _ _) (λ_=>e.sel bs) (h _ e)))
variable{o o':Oper}{i j:Nat}{t u:wE}
def vM(h:Q .normal a w):kU P ops S tl Q .nil a w:=h
def D(b:(ops[i]?).getD default=o)(h:cE P ops S (λ_ a w=>kU P ops S tl Q t a w) [(o,N)] a w):kU P ops S tl Q (.take i t) a w:=by subst b;exact h
def Zb(b:(ops[i]?).getD default=o)(h:cE P ops (λ_=>True) (λ_ a w=>kU P ops S tl Q t a w) [(o,N)] a w):kU P ops S tl Q (.move i t) a w:=by subst b;exact h
def jJ(b:(ops[i]?).getD default=o)(h:be P ops (Exit.then (λa w=>(i∉tl->S w)/\kU P ops S tl Q t a w) Q) [o] a w):kU P ops S tl Q (.one i t) a w:=by subst b;exact h
end
end Go.Lith
namespace Go.Proofs.YtbbokjbcdkgfgaaGreatDoor
open Go.Proofs.Tryz
open Go.RowKit Go.Lith
set_option maxRecDepth 100000
attribute [local irreducible] be c_ fS cE cP Code.wp
attribute [local congr] fE fF eN fD
variable{A:Option Addr}{xs:List Nat}{na ca sh cap:Nat}
def aec{d:Nat}(w:an)(g:dX w A na ca xs)(ae:xs.length<=1099511627776)(f:0<d)(aa:d<=4294967296):cX X9 83 [.slice A na ca,.int .u64 (d:Int)] w (λv w'=>∃q,v=.tuple #[q,.int .u64 ((val 4294967296 xs%d:Nat):Int)]/\jF (val 4294967296 xs / d) q w'):=by
 refine⟨bP func83 (by kernel_rfl),?_⟩;have m:=Mem.refl w;obtain rfl:=g.eq
 go_enter func83,ntmps83
 apply iD 9 [0] m;simp only[↓Z,fW];refine jW dK sO O O O (ab _) (ab _) (by omega) (by omega) (by omega) (by omega) ?_;intro u E C K P;replace m:=m.newB C K P;apply aL 2 [] m;simp only[↓Z];rw[iW] at m;apply aQ 13 [0] m;simp only[↓Z,fW];apply R;omega;refine bT [7,8] [15,16,17,18,19,20,21,22,23,24,25,26,27,28,29,30,31,32,33,34] (λn vs Q=>∃(k r:Nat)(os:List Nat),vs=[.int .u64 (r:Int),U ((k:Int)-1)]/\Mem w Q [bI E (os.map lZ) 99]/\(k<=xs.length)/\(os.length=xs.length)/\(val 4294967296 (xs.drop k)=d*val 4294967296 (os.drop k)+r)/\(r<d)/\(G 4294967296 os)/\(n=k)) ?_ ?_
 .exact⟨_,xs.length,0,bn xs.length 0,O,m,by omega,by simp,by rw[j_,List.drop_of_length_le (by simp)];simp only[val,ja],f,λx M=>by rw[ep M];decide,rfl⟩
 intro n vs wr I u Y T;obtain⟨k,r,os,rfl,m,L,B,o,j,e,hn⟩:=I;simp only[zu,zF,zG];apply F 6 [0,0] m;simp only[↓Z];refine aZ O ?_ ?_<;>intro ad
 .apply F 4 [] m;simp only[↓Z];obtain⟨a,rfl,V,W⟩:=(g.ext m.ext).get (show k-1<xs.length by omega);have ag:r<4294967296:=by omega
  apply aQ 2 [0] m;simp only[↓Z];refine aA (mW O O (by omega) (xQ (n:=32) (by omega) (by omega))) ?_;apply aL 2 [0] m;simp only[↓Z];refine aA (aN dK cL O O (by omega) (by omega) (lK (show _=k-1 by omega))) ?_;simp only[J];refine bA O (lies1 V jG) ?_;simp only[J];refine aA (abU O O (Mq (s:=32) (c:=r) (by omega) (by omega) (by omega))) ?_;apply aL 2 [] m;simp only[↓Z];obtain⟨t,l⟩:∃t:Nat,t=xs[k-1]+r*4294967296:=⟨_,rfl⟩
  rw[<-l];have X:t<18446744073709551616:=by omega
  have af:(d:Int)≠0:=by omega
  refine gc ?_;refine vL m [N] [9] (.take 0 (.take 1 (.take 2 (.take 3 (.take 4 (.move 5 (.move 6 (.move 7 (.take 8 (.one 9 (.move 10 .nil))))))))))) aB (by kernel_rfl) (bR (λ_ _ _ _ _ h=>h)) ?_;intro u m;refine D (by simp only[zw];rfl) (aV aF (aT (D (by simp only[zw];rfl) (aV aF (aT (D (by simp only[zw];rfl) (aV aF (aT (D (by simp only[zw];rfl) (aV aF ?_))))))))));simp only[J];refine aT (D (by simp only[zw];rfl) (aV (gL rfl rfl (by omega) (Ms X)) (aT (Zb (by simp only[zw];rfl) (aV aF (aT (Zb (by simp only[zw];rfl) (aV aF (aT (Zb (by simp only[zw];rfl) ?_))))))))));simp only[J];refine aV (cS O O (by omega) nS) (aT (D (by simp only[zw];rfl) ?_));simp only[J];refine aV (aN dK cL O O (by omega) (by omega) (mQ (show _=k-1 by omega))) (aT (jJ (by simp only[zw];rfl) ?_));simp only[J];refine cH m 0 O O O cL (by simp;omega) ⟨rfl,rfl⟩ ?_;intro u m;simp only[J] at m ;rw[iN (by omega)] at m;refine S ⟨λh=>Y0 (by decide) h,?_⟩;refine Zb (by simp only[zw];rfl) (aV aI (aT (vM ?_)));apply aQ 6 [0] m;simp only[↓Z];apply R;omega;obtain⟨p,y,z⟩:=aai (by omega) L B o j e W;rw[<-l] at p y z;rw[show ((k:Int)-1-1)=((k-1:Nat):Int)-1 by omega];exact T (k-1) _ _ (by omega) (by kernel_rfl) ⟨k-1,t%d,os.set (k-1) (t / d),O,m,by omega,by simpa using B,p,z,y,O⟩
 apply F 2 [] m;simp only[↓Z];obtain rfl:k=0:=by omega
 apply aQ 2 [0] m;simp only[↓Z];refine bY m O O (wD _ ((m.b 0 O).nat e (by omega) (by omega))) ?_;rintro v u m rfl;apply aL 5 [] m;simp only[↓Z];refine kN O O O ?_;try simp only[zD,zE]
 (have i:val 4294967296 os=val 4294967296 xs / d/\r=val 4294967296 xs%d:=Od f j (by simpa using o));exact⟨_,O,m.ext,_,by rw[i.2],jF.of_trim ((m.b 0 O).nat e (n:=xs.length) (by omega) (by omega)) i.1⟩
def aed(w:an)(e:dX w A na ca xs)(W:xs.length<=1099511627776)(t:sh<=31):cX X9 131 [.slice A na ca,U (sh:Int)] w (λv w'=>∃g os,v=.slice (H ⟨g,0,X8⟩) (xs.length+1) (xs.length+1)/\w.heap.size<=g/\fQ w' g (os.map lZ) 99/\os.length=xs.length+1/\G 4294967296 os/\val 4294967296 os=2^sh*val 4294967296 xs):=by
 refine⟨bP func131 (by kernel_rfl),?_⟩;have m:=Mem.refl w;obtain rfl:=e.eq
 go_enter func131,ntmps131
 apply iD 9 [0] m;simp only[↓Z,fW];apply R;omega;refine jW dK sO O O O (show _=xs.length+1 by omega) (show _=xs.length+1 by omega) (by omega) (by omega) (by omega) (by omega) ?_;intro u p o r B;replace m:=m.newB o r B;apply aL 2 [] m;simp only[↓Z];rw[iW] at m;apply aQ 8 [0] m;simp only[↓Z,fW];refine bT [14] [6,7,15,16,17,18,19,20,21,22,23,24,25,26,27,28,29,30,31,32,33,34,35,36] (λn vs K=>∃(i:Nat)(os:List Nat),vs=[U (i:Int)]/\Mem w K [bI p (os.map lZ) 99]/\(i<=xs.length)/\(os.length=xs.length+1)/\(val 4294967296 os=2^sh*val 4294967296 (xs.take i))/\(os.drop (i+1)=bn (xs.length-i) 0)/\(G 4294967296 os)/\(∀h:i<os.length,os[i]<2^sh)/\(n=xs.length-i)) ?_ ?_
 .exact⟨_,0,bn (xs.length+1) 0,O,m,by omega,by simp,by rw[fZ,im];rfl,by rw[ob];congr 1,λx y=>by rw[ep y];decide,λh=>by rw[List.getElem_replicate];exact Nat.pow_pos (by decide),O⟩
 intro n vs T q u P L;obtain⟨i,os,rfl,m,S,d,j,z,f,c,t⟩:=q;simp only[zu,zF,zG];apply F 5 [0,0] m;simp only[↓Z];refine aZ O ?_ ?_<;>intro V
 .apply F 4 [] m;simp only[↓Z];obtain⟨a,rfl,M,k⟩:=(e.ext m.ext).get (show i<xs.length by omega);apply aQ 3 [0] m;simp only[↓Z,jM,ab,ae,bi];apply R;omega;refine bA O (lies1 M jG) ?_;simp only[J];apply aL 4 [] m;simp only[↓Z];have l:=abW (n:=sh) (by omega) k;have Q:=Mu (x:=xs[i]) (n:=sh) (by omega) (c (by omega));apply aQ 3 [0] m;simp only[↓Z];refine aA (mW O O (by omega) (xQ (n:=sh) (by omega) l)) ?_;apply aL 3 [] m;simp only[↓Z];have X:xs[i]*2^sh%4294967296<4294967296:=kd _ (by decide);apply aQ 4 [0] m;simp only[↓Z,jM,ab,ae,bi];apply R;omega;refine bA O (lies1 ((m.b 0 O).word (show i<os.length by omega)) jG) ?_;simp only[J];apply aL 1 [0] m;simp only[↓Z];refine aA (mD O O (Mr l)) (aA (abU O O (Wn (s:=sh) (c (by omega)) (Mt (by omega)) (by omega))) ?_);apply aL 1 [0] m;simp only[↓Z,jM,ab,ae,bi];apply R;omega;refine cH m 0 O O O cL (by simp;omega) ⟨rfl,rfl⟩ ?_;intro u m;simp only[J] at m ;rw[iN (by omega)] at m;apply aL 6 [0] m;simp only[↓Z];apply R;omega;refine aA (lH O O (by omega) Wo) ?_;simp only[J];refine aA (aN dK cL O O (by omega) (by omega) (mQ (show _=i+1 by omega))) ?_;simp only[J];refine cH m 0 O O O cL (by simp;omega) ⟨rfl,rfl⟩ ?_;intro u m;simp only[J] at m ;rw[iN (by simp;omega)] at m;apply aL 6 [0] m;simp only[↓Z];apply R;omega;obtain⟨C,D,E,I⟩:=aaj (by omega) (by omega) d j z f (by omega) (c (by omega)) k;rw[show ((i:Int)+1)=((i+1:Nat):Int) by omega];exact L (xs.length-(i+1)) _ _ (by omega) (by kernel_rfl) ⟨i+1,(os.set i (os[i]+xs[i]*2^sh%4294967296)).set (i+1) (xs[i]*2^sh / 4294967296),O,m,by omega,by simpa using d,C,D,E,I,O⟩
 apply F 2 [] m;simp only[↓Z];obtain rfl:i=xs.length:=by omega
 apply aQ 5 [] m;simp only[↓Z];exact aS O O ⟨_,O,m.ext,_,os,O,(m.gb 0 O),(m.b 0 O),d,f,by rw[j,ga]⟩
def afJ(w:an)(k:dX w A na ca xs)(af:xs.length<=1099511627776)(I:sh<=31):cX X9 134 [.slice A na ca,U (sh:Int)] w (jF (val 4294967296 xs / 2^sh)):=by
 refine⟨bP func134 (by kernel_rfl),?_⟩;have m:=Mem.refl w;obtain rfl:=k.eq
 go_enter func134,ntmps134
 apply iD 8 [0] m;simp only[↓Z,fW];refine jW dK sO O O O (ab _) (ab _) (by omega) (by omega) (by omega) (by omega) ?_;intro u B z D L;replace m:=m.newB z D L;apply aL 2 [] m;simp only[↓Z];rw[iW] at m;apply aQ 8 [0] m;simp only[↓Z,fW];refine bT [13] [6,7,14,15,16,17,18,19,20,21,22,23,24,25,26,27,28,29,30,31,32,33,34,35,36,37,38,39,40,41] (λn vs M=>∃(i:Nat)(os:List Nat),vs=[U (i:Int)]/\Mem w M [bI B (os.map lZ) 99]/\(i<=xs.length)/\(os.length=xs.length)/\(val 4294967296 os=val 4294967296 (xs.take i) / 2^sh)/\(os.drop i=bn (xs.length-i) 0)/\(G 4294967296 os)/\(0<i->∀h:i-1<os.length,os[i-1]<2^(32-sh))/\(n=xs.length-i)) ?_ ?_
 .exact⟨_,0,bn xs.length 0,O,m,by omega,by simp,by rw[fZ,im,show val 4294967296 []=0 from O,Nat.zero_div],O,λx K=>by rw[ep K];decide,λh=>Y0 h (by omega),rfl⟩
 intro n vs Y C u T t;obtain⟨i,os,rfl,m,W,g,l,o,e,E,I⟩:=C;simp only[zu,zF,zG];apply F 5 [0,0] m;simp only[↓Z];refine aZ O ?_ ?_<;>intro aa
 .apply F 4 [] m;simp only[↓Z];obtain⟨a,rfl,Q,d⟩:=(k.ext m.ext).get (show i<xs.length by omega);apply aQ 3 [0] m;simp only[↓Z,jM,ab,ae,bi];apply R;omega;refine bA O (lies1 Q jG) ?_;simp only[J];apply aL 4 [] m;simp only[↓Z];obtain⟨P,z2⟩:=jQ o (by omega);have X:xs[i] / 2^sh<4294967296:=Nat.lt_of_le_of_lt (Nat.div_le_self _ _) d;refine gc (cC m 9 aB (by kernel_rfl) ?_);simp only[zy];refine cW 3 [] ?_;simp only[↓Z,jM,ab,ae,bi];apply R;omega;refine ql O (λu m=>(lies1 ((m.b 0 O).word (show i<os.length by omega)) jG)) ?_;simp only[J];refine aK aF (aK aF ?_);simp only[J];refine aK (lH O O (by omega) (akF (n:=sh) (by omega))) (aK (abU O O (Wn (s:=0) (c:=xs[i] / 2^sh) (by omega) (by omega) (by omega))) ?_);refine cW 1 [] ?_;simp only[↓Z,jM,ab,ae,bi];apply R;omega;refine bD ?_;intro u m;refine cH m 0 O O O cL (by simp;omega) ⟨rfl,rfl⟩ ?_;intro u m;simp only[J] at m ;rw[iN (by omega),P,ae] at m;refine S ?_;apply aQ 5 [0,0] m;simp only[↓Z];refine aZ O ?_ ?_<;>intro ad
  .obtain⟨j,rfl⟩:∃j,i=j+1:=⟨i-1,by omega⟩
   have y:=abW (x:=xs[j+1]) (n:=32-sh) (by omega) d;have f:=E (by omega) (by omega);simp only[g_] at f;have V:=Mu (x:=xs[j+1]) (n:=32-sh) (by omega) f;have ag:xs[j+1]*2^(32-sh)%4294967296<4294967296:=kd _ (by decide);refine cC m 12 aB (by kernel_rfl) ?_;simp only[zy];refine cW 3 [] ?_;simp only[↓Z];apply R;omega;refine aK (aN dK cL O O (by omega) (by omega) (mQ (show _=j by omega))) ?_;simp only[J];refine ql O (λu m=>(lies1 (by have h:=(m.b 0 O).word (show j<(os.set (j+1) (xs[j+1] / 2^sh)).length by simp;omega);rw[lz (by omega)] at h;exact h) jG)) ?_;simp only[J];refine aK aF (aK aF (aK (pW O O ((bN (by omega) (by omega)).trans (show (32:Int)-(sh:Int)=((32-sh:Nat):Int) by omega))) ?_));simp only[J];refine aK (mW O O (by omega) (xQ (n:=32-sh) (by omega) y)) (aK (mD O O (Mr y)) (aK (abU O O (Wn (s:=32-sh) f (Mt (by omega)) (by omega))) ?_));simp only[J];refine aK (aN dK cL O O (by omega) (by omega) (mQ (show _=j by omega))) (bD ?_);intro u m;simp only[J];refine cH m 0 O O O cL (by simp;omega) ⟨rfl,rfl⟩ ?_;intro u m;simp only[J] at m ;rw[iN (by simp;omega)] at m;refine S ?_;apply aQ 5 [0] m;simp only[↓Z];apply R;omega;obtain⟨p,q,r⟩:=Ss (n:=sh) (by omega) (by omega) g l o e k.digs (by omega) f;rw[show (((j+1:Nat):Int)+1)=((j+1+1:Nat):Int) by omega];exact t (xs.length-(j+1+1)) _ _ (by omega) (by kernel_rfl) ⟨j+1+1,(os.set (j+1) (xs[j+1] / 2^sh)).set j (os[j]+xs[j+1]*2^(32-sh)%4294967296),O,m,by omega,by simpa using g,p,q,r,λ_ h=>by simp only[g_];rw[lz (by omega),lp];exact agt (by omega) d,O⟩
  apply F 6 [0] m;simp only[↓Z];apply R;omega;obtain rfl:i=0:=by omega
  obtain⟨p,q,r⟩:=Sq (n:=sh) (by omega) (by omega) g l o e d;rw[show (((0:Nat):Int)+1)=((0+1:Nat):Int) by omega];exact t (xs.length-(0+1)) _ _ (by omega) (by kernel_rfl) ⟨0+1,os.set 0 (xs[0] / 2^sh),O,m,by omega,by simpa using g,p,q,r,λ_ h=>by simp only[g_];rw[lp];exact agt (by omega) d,O⟩
 apply F 2 [] m;simp only[↓Z];obtain rfl:i=xs.length:=by omega
 apply aQ 2 [0] m;simp only[↓Z];refine bY m O O (wD _ ((m.b 0 O).nat e (by omega) (by omega))) ?_;rintro v u m rfl;apply aL 3 [] m;simp only[↓Z];exact aS O O ⟨_,O,m.ext,jF.of_trim ((m.b 0 O).nat e (n:=xs.length) (by omega) (by omega)) (by rw[l,ga])⟩
def aiR{w:an}{n:Nat}(h:dX w A n cap xs)(e:A.isNone=N):xs=[]:=by
 rcases A with _|a
 .exact h.none
 cases e
def alQ{w0 w:an}{S:List (Option Nat)}{E:ba}{n:Nat}(h:Ow w0 w S E 1 A n cap (xs.map lZ))(f:n=xs.length)(c:G 4294967296 xs)(g:n<=17592186044416):dX w A n cap xs:=by
 refine⟨f,λi x d=>?_,by have:=h.le;omega,h.max,by omega,c⟩;obtain⟨a,e,b⟩:=h.row i (lZ x) (by rw[dc,d];rfl);exact⟨a,e,b⟩
def aee(w:an)(a:dX w A na ca xs):cX X9 186 [.slice A na ca] w (akH xs):=by
 refine⟨bP func186 (by kernel_rfl),?_⟩;have m:=Mem.refl w;obtain rfl:=a.eq;have p:=a.len
 go_enter func186,ntmps186
 apply iD 8 [0] m;simp only[↓Z];refine aA (agl dK O O) ?_;apply aL 1 [0] m;simp only[↓Z];refine dH O ?_ ?_<;>intro i
 .obtain rfl:=aiR a i;apply F 5 [] m;simp only[↓Z];exact aS O O ⟨_,O,m.ext,X8,0,O,dX.nil _⟩
 apply F 3 [0] m;simp only[↓Z];refine wK dK (c:=1) (by kernel_rfl)  ?_;intro u l d e h;replace m:=m.newB d e h;simp only[J];replace m:=m.own 0 O (n:=0) (c:=1) O (eU O);simp only[zG] at m;apply aL 1 [0] m;simp only[↓Z];refine bJ m 0 O O dK sO O (by decide) O O (show (xs.map lZ).length=xs.length*1 by simp) (λj u b=>by rw[dc] at b;obtain⟨x,g,rfl⟩:=Option.map_eq_some_iff.1 b;exact (a.ext m.ext).row j x g) (λu f=>by obtain⟨x,_,rfl⟩:=du.1 f;rfl) (by omega) (by omega) ?_;intro k q u m;simp only[zF,zG] at m;simp only[ae,cv] at m ⊢;apply aL 3 [] m;simp only[↓Z];exact aS O O ⟨_,O,m.ext,_,_,O,alQ (m.o 0 O) O a.digs (by omega)⟩
end Go.Proofs.YtbbokjbcdkgfgaaGreatDoor
