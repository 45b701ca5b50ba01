/-
 Texts of one claim, laid together: RefF, Wo, Ch, Ci, Ck, Cl, Wp, Cm, Cn, Co, Cp, Cx, Cy, K84, K4, Sfa, K5, Sla, K7, Guard2, K8, K9, K10, Near2, Ifc, Round, Sides, Tch1, K12, K13, LoopF, K14, K15, K11, Kt, K16, K17.
-/
import Derived.Stop.Asserts
import Derived.RangeFuncNested
import Derived.OrdersIn
import Derived.RangeFuncCalls
import Derived.RangeFuncBox
import Derived.Test.YtfekpcimgncioaaGreatDoorCF3
open Nat renaming reduceAdd->aa,reduceMul->ag,zero_add->ai,le_refl->ar,le_trans->be,zero_le->bn,lt_or_ge->eh,lt_succ_self->fx,min_eq_left->ij,not_lt_zero->jm,sub_self->kg,reduceSub->ld
open Int renaming reduceToNat->ad,toNat_natCast->ah,reduceAdd->an,lt_trichotomy->qp
open Go renaming Value->aj,World->ak,wp_region_lit->av,wpList->az,TypeId->ba,Program->bt,Operand->b_,run_underlying->cl,MapEntry->cu,wpQuiet->cw,execOp->dw,Deferred->ej
open List renaming getElem?_eq_getElem->am,getElem?_eq_some_iff->ao,mem_cons->ap,length_append->aq,take_of_length_le->au,flatMap_append->aw,length_cons->ay,mem_singleton->a_,mem_of_getElem?->bf,mem_append->bh,map_cons->bi,length_take->bj,length_nil->bm,mem_cons_of_mem->bp,mem_cons_self->br,pairwise_cons->bv,flatMap_cons->bx,nil_append->bz,not_mem_nil->cd,length_map->cj,append_assoc->cn,cons_append->cq,mem_filter->ct,map_append->de,mem_iff_getElem?->df,map_nil->dh,mem_map->dj,getElem?_drop->dl,getElem?_append_right->dm,getElem?_take->d_,toList_toArray->ee,append_nil->fb,all_eq_true->fe,getElem?_map->fi,filter_cons->fk,mem_map_of_mem->fl,pairwise_append->fu,length_filter_le->fw,ext_getElem?->fz,any_eq_false->gi,getElem_mem->gj,filter_append->gp,drop_of_length_le->gq,map_toArray->gt,nodup_cons->g_,size_toArray->ib,length_singleton->ic,filter_sublist->ie,set_eq_take_append_cons_drop->ig,map_congr_left->io,pairwise_iff_getElem->ix,mem_zipIdx_iff_getElem?->iz,append_toArray->jd,getElem?_set->je,pairwise_map->jf,mem_singleton_self->jg,push_toArray->jr,range->ke,nodup_nil->kh,pairwise_singleton->kz,set_append_right->lk,map_map->ln,filter_nil->mx,getElem?_take_of_lt->og,filter_congr->pd,all_eq_false->pf,Nodup->rc
open Bool renaming and_eq_true->bg,false_ne_true->fg,or_eq_true->fh,not_eq_true'->fp,eq_iff_iff->fy,not_true->f_,not_false->gd,or_eq_false_iff->iu,false_or->jt,not_eq_true->pi,and_eq_true_iff->pv,or_true->rg
open Go.Oper renaming mk->bu,upon->ot,uponIn->qq,semAt->rm
open Go.Value renaming bool->bw
open Go.Exit renaming inBlock->dq
open Prod.mk renaming injEq->gl
open Array renaming replicate->gv,replicate_succ->iv,replicate_zero->iw
open List.Pairwise renaming nil->la,imp->oz
open Prod renaming fst->qu
set_option maxHeartbeats 8000000
set_option linter.unusedSimpArgs false
set_option linter.defProp false
set_option linter.unusedVariables false
set_option linter.unusedSectionVars false
open And renaming intro->I0
open Bool renaming true->Z,false->X3
open Option renaming some->X4,none->X5
namespace Go.Proofs.YtfekpcimgncioaaGreatDoor
open Go.Proofs.Tryz
open Go.RowKit Go.Lith
set_option maxRecDepth 100000
attribute [local irreducible] az cw fW bX cP Code.wp
attribute [local congr] dK dL cR dJ
variable{a c d:H}
class Sr4(p:H):Prop where
 x:p.x.natAbs<=262144
 y:p.y.natAbs<=262144
 z:p.z.natAbs<=262144
class Nr4(p:H):Prop where
 x:p.x.natAbs<=524288
 y:p.y.natAbs<=524288
 z:p.z.natAbs<=524288
instance {p q:H}[a:Sr4 p][b:Sr4 q]:Nr4 (p.sub q):=⟨by have:=a.x;have:=b.x;simp only[H.sub];omega,by have:=a.y;have:=b.y;simp only[H.sub];omega,by have:=a.z;have:=b.z;simp only[H.sub];omega⟩
def mL{a b:Int}(c:a.natAbs<=524288)(d:b.natAbs<=524288) : -549755813888<a*b/\a*b<549755813888:=by
 have h:(a*b).natAbs<=524288*524288:=by rw[Int.natAbs_mul];exact Nat.mul_le_mul (by omega) (by omega)
 omega
def afa{x y:Int}(h : -549755813888<x/\x<549755813888)(k : -549755813888<y/\y<549755813888):IntKind.i64.wrap (x-y)=x-y:=bZ (by omega) (by omega)
def Ft{x:Int}(h : -549755813888<x/\x<549755813888):IntKind.i64.wrap x=x:=bZ (by omega) (by omega)
def aqa{w:ak}{g:Nat}{T:ba}{b:H}(e:fQ w g [X6 a.x,X6 a.y,X6 a.z,X6 b.x,X6 b.y,X6 b.z,X6 c.x,X6 c.y,X6 c.z,X6 d.x,X6 d.y,X6 d.z] T):uD iD 3 w (X4 ⟨g,0,X5⟩) 4 [a,b,c,d] :=
 ⟨rfl,λi x f=>⟨_,rfl,by
  rw[cS,ai]
  match i,f with
  | 0,h=>cases h;exact kV.pre (ys:=iD b++iD c++iD d) (e.row 0)
  | 1,h=>cases h;exact kV.pre (ys:=iD c++iD d) (e.row 3)
  | 2,h=>cases h;exact kV.pre (ys:=iD d) (e.row 6)
  | 3,h=>cases h;exact e.row 9⟩⟩
theorem alg{ps:List H}{p:H}{k:Nat}(h:∀q∈ps.take k,Sr4 q)(hp:ps[k]? = X4 p)(a:Sr4 p):∀q∈ps.take (k+1),Sr4 q:=λq hq=>by
 rw[Xo hp] at hq;rcases bh.1 hq with hq | hq
 .exact h q hq
 rw[a_.1 hq];exact a
def Ub{ps:List H}{N cap:Nat}{A:Option Addr}(w:ak)(c:uD iD 3 w A N ps)(r:N<4611686018427387904):cY prog 207 [.slice A N cap] w (λv _=>∃bo:Bool,v=.bool bo/\(bo=Z->∀p∈ps,Sr4 p)):=by
 refine⟨bJ func207 (by kernel_rfl),?_⟩;have m:=Mem.refl w
 go_enter func207,ntmps207
 apply fF 10 [0] m;simp only[↓U];refine bT [3] [2,4,5,6,7,8,9,10,11,12,13,14,15,16,17,18,19,20,21,22,23,24,25,26,27,28,29,30,31,32,33,34,35,36,37,38,39,40,41,42] (λn vs f=>∃(k:Nat),vs=[X6 (k:Int)]/\Mem w f []/\(∀p∈ps.take k,Sr4 p)/\(k<=N)/\(n=N-k)) ?_ ?_
 .exact⟨_,0,O,m,λp h=>by simp at h,bn _,O⟩
 intro n vs wr d u o g;obtain⟨k,rfl,m,hs,s,t⟩:=d;simp only[zu,zF,zG];apply L 8 [0,0] m;simp only[↓U,gV];refine bC O ?_ ?_<;>intro B
 .obtain⟨p,hp,a,rfl,b⟩:=c.get (i:=k) (by omega);have b:kV w (a.add (k*3)) [X6 p.x,X6 p.y,X6 p.z]:=b;apply xI 23 [0,0,0,1,0,4,1,0,4,1,0,4,1,0] m;simp only[↓U,gG,fB,aP,gN,dC,gQ,ah,ai,aa];refine⟨_,λu m=>(((b.ext m.ext)).lies aG aA),λq=>λ_=>λ_=>λ_=>⟨by omega,?_⟩⟩;intro u m;apply aT 5 [4,1,0,4,1,0,0] m;simp only[↓U,iG,dC,aa];refine λ_=>λ_=>?_;refine gF O ?_ ?_<;>intro j
  .apply L 5 [] m;simp only[↓U];exact aS rfl rfl ⟨_,rfl,m.ext,X3,rfl,λh=>by cases h⟩
  have l:Sr4 p:=by
   simp only[iu,Y1] at j;exact⟨by omega,by omega,by omega⟩
  apply L 7 [0] m;simp only[↓U];apply I0;omega;exact g (N-(k+1)) _ _ (by omega) (by kernel_rfl) ⟨k+1,O,(m.sel [X3]),alg hs hp l,by omega,O⟩
 have e:ps.take k=ps:=au (by rw[c.len];omega);rw[e] at hs;apply L 6 [] m;simp only[↓U];exact aS O O ⟨_,O,m.ext,Z,O,λ_=>hs⟩
def sR{p q:H}[hp:Sr4 p][hq:Sr4 q]:dF prog 209 [pt p,pt q] (nv (q.sub p)):=by
 intro w;refine⟨bJ func209 (by kernel_rfl),?_⟩;have m:=Mem.refl w;have:=hp.x;have:=hp.y;have:=hp.z;have:=hq.x;have:=hq.y;have:=hq.z
 go_enter func209,ntmps209
 apply gH 27 [2,3,2,3,2,3,0] m;simp only[↓U,yI,gN,dC,gQ,iG,tU,vV,aa];intro a c d;apply I0;omega;intro u m;exact aS O ⟨_,O,((m.b 0 O).full vU iN)⟩ ⟨_,O,m.ext,O⟩
def Kl{u v:H}(a:Nr4 u)(c:Nr4 v):dF prog 208 [nv u,nv v] (nv (u.cross v)):=by
 intro w;refine⟨bJ func208 (by kernel_rfl),?_⟩;have m:=Mem.refl w
 go_enter func208,ntmps208
 apply gH 12 [3,2,0] m;simp only[↓U,yI,fD,dC,ad,ag,aa];intro d e f;apply I0;omega;intro u m;refine aD (kS O O (Ft (mL a.y c.z))) ?_;apply aH 4 [3,2,0] m;simp only[↓U,fD,dC,ad,ag,aa];apply I0;omega;refine aD (kS O O (Ft (mL a.z c.y))) (aD (Il O O (afa (mL a.y c.z) (mL a.z c.y))) ?_);apply aH 4 [3,2,0] m;simp only[↓U,fD,dC,ad,ag,aa];apply I0;omega;refine aD (kS O O (Ft (mL a.z c.x))) ?_;apply aH 4 [3,2,0] m;simp only[↓U,fD,dC,ad,ag,aa];apply I0;omega;refine aD (kS O O (Ft (mL a.x c.z))) (aD (Il O O (afa (mL a.z c.x) (mL a.x c.z))) ?_);apply aH 4 [3,2,0] m;simp only[↓U,fD,dC,ad,ag,aa];apply I0;omega;refine aD (kS O O (Ft (mL a.x c.y))) ?_;apply aH 4 [3,2,0] m;simp only[↓U,fD,dC,ad,ag,aa];apply I0;omega;refine aD (kS O O (Ft (mL a.y c.x))) (aD (Il O O (afa (mL a.x c.y) (mL a.y c.x))) ?_);apply lK 4 [0] m;simp only[↓U,tU,vV,aa];intro u m;exact aS O ⟨_,O,((m.b 0 O).full vU iN)⟩ ⟨_,O,m.ext,O⟩
def Fu{n:Int}:dF prog 210 [X6 n] (X6 (bA n)):=by
 intro w;refine⟨bJ func210 (by kernel_rfl),?_⟩;have m:=Mem.refl w
 go_enter func210,ntmps210
 apply fF 10 [0,0] m;simp only[↓U];refine bC O ?_ ?_<;>intro a
 .apply L 5 [] m;simp only[↓U];refine aS O O ?_;try simp only[zD,zE]
  exact⟨_,O,m.ext,by rw[Eu (by assumption)]⟩
 apply L 7 [0,0] m;simp only[↓U];refine bC O ?_ ?_<;>intro b
 .apply L 5 [] m;simp only[↓U];refine aS O O ?_;try simp only[zD,zE]
  exact⟨_,O,m.ext,by rw[Ev (by assumption)]⟩
 apply L 6 [] m;simp only[↓U];refine aS O O ?_;try simp only[zD,zE]
 exact⟨_,O,m.ext,by rw[show n=0 by omega];rfl⟩
def Uc{b:H}[I3 a][I3 b][I3 c][I3 d]:dF prog 206 [pt a,pt b,pt c,pt d] (sg ((b.sub a).cross (d.sub c))):=by
 intro w;refine⟨bJ func206 (by kernel_rfl),?_⟩;have m:=Mem.refl w
 go_enter func206,ntmps206
 apply gH 14 [5,4,3,2,0] m;simp only[↓U,yI,aP];intro o p q r s u m;refine Fm O O O O ?_;intro u t f j k;replace m:=m.newB f j k;simp only[G];refine cK m O O (Ub (ps:=[a,b,c,d]) _ (aqa (m.b 0 O)) (by decide)) ?_;rintro v u m ⟨bo,rfl,n⟩;apply aH 7 [0] m;simp only[↓U];refine gF O ?_ ?_<;>intro l
 .have g:=n l;haveI:=g a (by simp);haveI:=g b (by simp);haveI:=g c (by simp);haveI:=g d (by simp);apply L 1 [0] m;simp only[↓U];refine dR 8 [0,1,2,3,4,5,6] [⟨7,10,36,[X6 0,X6 0,X6 0]⟩] aB (by kernel_rfl) (al1 ⟨_,_,_,O,by kernel_rfl,_,Fg,O⟩) (ol:=?_) ?h ?_
  case h=>simp only[zw,zQ,zR];try rfl
  intro u f;replace m:=m.ext' f;refine cO O (λu e=>(((m.ext' e).b 5 O).full aG aA)) ?_;simp only[G];refine cO O (λu e=>(((m.ext' e).b 4 O).full aG aA)) ?_;simp only[G];refine cM O O sR ?_;simp only[G];refine cO O (λu e=>(((m.ext' e).b 3 O).full aG aA)) ?_;simp only[G];refine cO O (λu e=>(((m.ext' e).b 2 O).full aG aA)) ?_;simp only[G];refine cM O O sR ?_;simp only[G];refine cM O O (Kl Y7 Y7) (vB ?_);simp only[G];refine mf1 m ?_;intro i u m;simp only[zJ,zK,zF,zG];refine bP m 0 O O O iN (gS O) O ?_;intro u m;simp only[zy,zx,over,zF,zG,aa] at m;refine aI ?_;apply aT 1 [0] m;simp only[↓U];refine cI m 10 aB (by kernel_rfl) ?_;simp only[zy];refine cX 2 [1] ?_;simp only[↓U,fD,dC,ad,ag,aa];apply I0;omega;refine eH O O Fu (cX 2 [1] ?_);simp only[↓U,fD,dC,ad,ag,aa];apply I0;omega;refine eH O O Fu (cX 2 [1] ?_);simp only[↓U,fD,dC,ad,ag,aa];apply I0;omega;refine eH O O Fu (aK (yE O O O) (aZ ?_));intro u m;simp only[G];refine bP m 2 O O O iN (gS O) O ?_;intro u m;simp only[zy,zx,over,zF,zG,aa] at m;refine aI ?_;apply aT 1 [] m;simp only[↓U];exact aS O ⟨_,O,((m.b 2 O).full vU iN)⟩ ⟨_,O,m.ext,O⟩
 apply L 2 [0] m;simp only[↓U];refine dR 8 [0,1,2,3,4,5,6] [⟨7,11,257,[.bool X3,.string ⟨#[]⟩,.bool X3,.string ⟨#[]⟩,.bool X3,.string ⟨#[]⟩]⟩] aB (by kernel_rfl) (al1 ⟨_,_,_,O,by kernel_rfl,_,aco,O⟩) (ol:=?_) ?h ?_
 case h=>simp only[zw,zQ,zR];try rfl
 intro u f;replace m:=m.ext' f;refine cO O (λu e=>(((m.ext' e).b 5 O).full aG aA)) ?_;simp only[G];refine cO O (λu e=>(((m.ext' e).b 4 O).full aG aA)) ?_;simp only[G];refine cM O O vZ ?_;simp only[G];refine cO O (λu e=>(((m.ext' e).b 3 O).full aG aA)) ?_;simp only[G];refine cO O (λu e=>(((m.ext' e).b 2 O).full aG aA)) ?_;simp only[G];refine cM O O vZ ?_;simp only[G];refine cM O O (Ua Bv.of Bv.of) (vB ?_);simp only[G];refine mf1 m ?_;intro i u m;simp only[zJ,zK,zF,zG];refine bP m 0 O O O pL (gS O) O ?_;intro u m;simp only[zy,zx,over,zF,zG,aa] at m;refine aI ?_;apply aT 1 [0] m;simp only[↓U];refine cI m 10 aB (by kernel_rfl) ?_;simp only[zy];refine cX 2 [1] ?_;simp only[↓U,tI,dG,ad,ag,aa];apply I0;omega;refine eH O O (Fs M.up) (cX 2 [1] ?_);simp only[↓U,tI,dG,ad,ag,aa];apply I0;omega;refine eH O O (Fs M.up) (cX 2 [1] ?_);simp only[↓U,tI,dG,ad,ag,aa];apply I0;omega;refine eH O O (Fs M.up) (aK (yE O O O) (aZ ?_));intro u m;simp only[G];refine bP m 2 O O O iN (gS O) O ?_;intro u m;simp only[zy,zx,over,zF,zG,aa] at m;refine aI ?_;apply aT 1 [] m;simp only[↓U];exact aS O ⟨_,O,((m.b 2 O).full vU iN)⟩ ⟨_,O,m.ext,O⟩
def gR{b:H}[I3 a][I3 b][I3 c]:dF prog 140 [pt a,pt b,pt c] (sg ((b.sub a).cross (c.sub a))):=by
 intro w;refine⟨bJ func140 (by kernel_rfl),?_⟩;have m:=Mem.refl w
 go_enter func140,ntmps140
 apply gH 13 [4,3,4,2,0] m;simp only[↓U,yI,aP];intro d e f g u m;refine lD m O O Uc 3 [0] ?_;simp only[↓U,vV,aa];intro u m;exact aS O ⟨_,O,((m.b 0 O).full vU iN)⟩ ⟨_,O,m.ext,O⟩
def Km{t:T3}[IT t]:dF prog 137 [tr t] (.bool (decide (bA t.normal.x=0/\bA t.normal.y=0/\bA t.normal.z=0))):=by
 intro w;refine⟨bJ func137 (by kernel_rfl),?_⟩;have m:=Mem.refl w
 go_enter func137,ntmps137
 apply gH 13 [1,1,1,0] m;simp only[↓U,bQ,aP,ad,ag,aa];intro d;apply I0;omega;intro u m;refine lD m O O (gR (a:=t.a) (b:=t.b) (c:=t.c)) 5 [] ?_;simp only[↓U,tU,aa];refine⟨_,akV,?_⟩;intro u m;exact aS O O ⟨_,O,m.ext,O⟩
end Go.Proofs.YtfekpcimgncioaaGreatDoor
namespace Go.Lith
open Go.RowKit
variable{f:H->H}{t s:T3}{l ts us l0 l1:List T3}{x y a u c q:H}{α:Type}{D D1:List Mv}{m:Mv}{cs:List fX}{k j:Nat}{xs:List H}
def auL(h:(t.mapP f).nd=X3):hF f t=[]:=X (by rw[h];exact fg)
def asF(h:(t.mapP f).nd=Z):hF f t=[dB (t.mapP f)]:=J h
/-! ### Corners in order -/
def ags{p:H}:∀{ps:List H},tD ps->(ps.dropWhile λx=>decide (x.Lt p)).head? ≠ X4 p->∀x∈ps.dropWhile λx=>decide (x.Lt p),p.Lt x
 | [],_,_,x,h=>by cases h
 | y::ys,hs,hp,x,h=>by
  obtain⟨h1,h2⟩:=bv.1 hs;rw[List.dropWhile_cons] at h hp;split at h
  . rename_i a
    rw[J a] at hp;exact ags h2 hp x h
  rename_i a
  rw[X a] at hp;have b:p.Lt y:=by
   rcases lt_tri y p with k | k | k
   .exact Z8 (Y0 k) a
   .rw[k] at hp;exact Z8 O hp
   exact k
  rcases ap.1 h with rfl | h
  .exact b
  exact H.lt_trans b (h1 x h)
def Be{ps:List H}{p:H}(hs:tD ps):tD (gT ps p):=by
 unfold gT;split
 .exact hs
 rename_i hp
 have c:(ps.drop (abT ps p))=ps.dropWhile λx=>decide (x.Lt p):=aas ps;have g:(ps.take (abT ps p))=ps.takeWhile λx=>decide (x.Lt p):=aar ps;have b:=hs;rw[tD,<-List.takeWhile_append_dropWhile (p:=λx=>decide (x.Lt p)) (l:=ps)] at b;obtain⟨h1,h2,d⟩:=fu.1 b;have e:=ags (p:=p) hs (by rw[<-c,List.head?_drop];exact hp);have f:∀x∈ps.takeWhile λx=>decide (x.Lt p),x.Lt p:=λx hx=>Y3 (ad5 (p:=λx:H=>decide (x.Lt p)) hx);rw[c,g];refine fu.2 ⟨fu.2 ⟨h1,kz _ _,λx hx y a=>?_⟩,h2,λx hx y a=>?_⟩
 .rw[a_.1 a];exact f x hx
 rcases bh.1 hx with hx | hx
 .exact d x hx y a
 rw[a_.1 hx];exact e y a
def wA(ts:List T3):tD (aQ ts):=by
 have:∀(ts:List T3) (ps:List H),tD ps->tD (ts.foldl (λps t=>gT (gT (gT ps t.a) t.b) t.c) ps):=by
  intro ts
  induction ts with
  | nil=>exact λps h=>h
  | cons t ts ih=>exact λps h=>ih _ (Be (Be (Be h)))
 exact this ts [] la
/-! ### Lists turned,mapped,chosen from -/
def alh{p:H}:Nx (aV l) p x y↔Nx l p x y:=by
 rw[anN (mZ l)];constructor
 . intro h
   obtain⟨t,b,a⟩:=eZ.1 h;obtain⟨s,hs,rfl⟩:=dj.1 b;exact eZ.2 ⟨s,hs,(ach (jQ s)).1 a⟩
 intro h
 obtain⟨s,hs,a⟩:=eZ.1 h;exact eZ.2 ⟨dB s,fl hs,(ach (jQ s)).2 a⟩
def nQ{b:H}:(a,b)∈aX ts↔∃y,Nx ts a b y:=by
 constructor
 . intro h
   rw[<-mY] at h;obtain⟨⟨e,y⟩,d,c⟩:=dj.1 h;simp only at c;subst c;exact⟨y,d⟩
 rintro⟨y,h⟩
 exact An h
def ahX(t:T3):(auc (dB t)).Perm (auc t):=by
 rcases jQ t with h | h | h
 .rw[h]
 .rw[h];exact List.perm_append_comm (l₁:=[(t.b,t.c),(t.c,t.a)]) (l₂:=[(t.a,t.b)])
 rw[h];exact List.perm_append_comm (l₁:=[(t.c,t.a)]) (l₂:=[(t.a,t.b),(t.b,t.c)])
def Kn:∀l:List T3,(aX (l.map dB)).Perm (aX l)
 | []=>.refl _
 | t::l=>(ahX t).append (Kn l)
def acD(l:List T3):(aX (aV l)).Perm (aX l):=((mZ l).flatMap_right _).trans (Kn l)
def asG{p:H}:Nx (ts.map (T3.mapP f)) p x y↔∃e g i,Nx ts e g i/\f e=p/\f g=x/\f i=y:=by
 constructor
 . intro h
   obtain⟨t,j,d⟩:=eZ.1 h;obtain⟨s,hs,rfl⟩:=dj.1 j;rcases Hl.1 d with ⟨rfl,rfl,rfl⟩ | ⟨rfl,rfl,rfl⟩ | ⟨rfl,rfl,rfl⟩
   .exact⟨s.a,s.b,s.c,eZ.2 ⟨s,hs,Hl.2 (.inl ⟨O,O,O⟩)⟩,O,O,O⟩
   .exact⟨s.b,s.c,s.a,eZ.2 ⟨s,hs,Hl.2 (.inr (.inl ⟨O,O,O⟩))⟩,O,O,O⟩
   exact⟨s.c,s.a,s.b,eZ.2 ⟨s,hs,Hl.2 (.inr (.inr ⟨O,O,O⟩))⟩,O,O,O⟩
 rintro⟨e,g,i,h,rfl,rfl,rfl⟩
 obtain⟨s,hs,d⟩:=eZ.1 h;refine eZ.2 ⟨s.mapP f,fl hs,Hl.2 ?_⟩;rcases Hl.1 d with ⟨rfl,rfl,rfl⟩ | ⟨rfl,rfl,rfl⟩ | ⟨rfl,rfl,rfl⟩
 .exact .inl ⟨O,O,O⟩
 .exact .inr (.inl ⟨O,O,O⟩)
 exact .inr (.inr ⟨O,O,O⟩)
def asH{p:H}:Nx (ts.filter T3.nd) p x y↔Nx ts p x y/\p≠x/\x≠y/\y≠p:=by
 constructor
 . intro h
   obtain⟨t,e,d⟩:=eZ.1 h;obtain⟨h1,h2⟩:=ct.1 e;obtain⟨a,b,c⟩:=vP.1 h2;refine⟨eZ.2 ⟨t,h1,d⟩,?_⟩;rcases Hl.1 d with ⟨rfl,rfl,rfl⟩ | ⟨rfl,rfl,rfl⟩ | ⟨rfl,rfl,rfl⟩
   .exact⟨a,b,c⟩
   .exact⟨b,c,a⟩
   exact⟨c,a,b⟩
 rintro⟨h,a,b,c⟩
 obtain⟨t,e,d⟩:=eZ.1 h;refine eZ.2 ⟨t,ct.2 ⟨e,vP.2 ?_⟩,d⟩;rcases Hl.1 d with ⟨rfl,rfl,rfl⟩ | ⟨rfl,rfl,rfl⟩ | ⟨rfl,rfl,rfl⟩
 .exact⟨a,b,c⟩
 .exact⟨c,a,b⟩
 exact⟨b,c,a⟩
def Ht{v p:H}:Nx (eD us u v) p x y↔(∃a b c,Nx us a b c/\gK u v a=p/\gK u v b=x/\gK u v c=y)/\p≠x/\x≠y/\y≠p:=by
 unfold eD lW;rw[alh,asH];exact and_congr_left λ_=>asG (f:=gK u v)
def oA{b:H}(h:Nx ts a b c):Nx ts b c a:=vK h
def jB(dg:Br ts){b:H}(h:Nx ts a b c):a≠b/\b≠c/\c≠a:=by
 obtain⟨t,g,i⟩:=eZ.1 h;obtain⟨d,e,f⟩:=aqO (dg t g);rcases Hl.1 i with ⟨rfl,rfl,rfl⟩ | ⟨rfl,rfl,rfl⟩ | ⟨rfl,rfl,rfl⟩
 .exact⟨d,e,f⟩
 .exact⟨e,f,d⟩
 exact⟨f,d,e⟩
def gE{b:H}(h:Nx ts a b c):kU ts a b=Z:=aea (An h)
def oO{b:H}(h:Nx ts a b c):kU ts a c=Z:=iY (gE (oA (oA h)))
def Kq{b:H}(h:kU ts a b=Z)(c:a≠b):(∃y,Nx ts a b y)\/∃y,Nx ts b a y:=(aeb h c).imp nQ.1 nQ.1
/-! ### Closed sets in place of rings -/
def Ud(N:H->H->Prop):Prop:=∀S:H->Prop,(∃x,S x)->(∀x,S x->(∃y,N x y)/\∀y,N x y->S y)->∀x y,N x y->S x
def rU.back{N:H->H->Prop}(fn:∀x y z,N x y->N x z->y=z){s:H}(hc:Cyc N s)(h:rU N s x):rU N x s:=by
 induction h with
 | refl=>exact .refl _
 | @tail b c _ k ih =>
  rcases ih.head with rfl | ⟨d,a,r⟩
  . obtain⟨y,e,r⟩:=hc
    rw[fn _ _ _ k e];exact r
  rw[fn _ _ _ k a];exact r
def Ud.ring{N:H->H->Prop}(fn:∀x y z,N x y->N x z->y=z)(h:Ud N):oZ N:=λs hc=>h (rU N s) ⟨s,.refl _⟩ λx a=>⟨by
 rcases (a.back fn hc).head with rfl | ⟨d,b,_⟩
 .exact hc.imp λ_ h=>h.1
 exact⟨d,b⟩,λ_ c=>.tail a c⟩
def agt{N:H->H->Prop}{E:List H}(j:∀x y,N x y->x∈E){S:H->Prop}(k:∃x,S x)(hc:∀x,S x->(∃y,N x y)/\∀y,N x y->S y):∃s,S s/\Cyc N s:=by
 refine Classical.byContradiction λp=>?_;obtain⟨x0,i⟩:=k
 -- longer and longer lists of different points,each reached from all before
 have key:∀n,∃L:List H,L.length=n/\L.Nodup/\(∀x∈L,x∈E)/\∃a,S a/\∀x∈L,∃y,N x y/\S x/\rU N y a:=by
  intro n
  induction n with
  | zero=>exact⟨[],rfl,kh,λx h=>(by cases h),x0,i,λx h=>(by cases h)⟩
  | succ n ih =>
   obtain⟨L,h1,h2,d,a,e,g⟩:=ih;obtain⟨⟨b,c⟩,o⟩:=hc a e;have m:a∉L:=λl=>by
    obtain⟨y,f,_,hr⟩:=g a l;exact p ⟨a,e,y,f,hr⟩
   refine⟨a::L,by simp[h1],g_.2 ⟨m,h2⟩,λx hx=>?_,b,o b c,λx hx=>?_⟩
   . rcases ap.1 hx with rfl | hx
     .exact j _ _ c
     exact d x hx
   rcases ap.1 hx with rfl | hx
   .exact⟨b,c,e,.refl _⟩
   obtain⟨y,f,hs,hr⟩:=g x hx
   exact⟨y,f,hs,.tail hr c⟩
 obtain⟨L,h1,h2,d,_⟩:=key (E.length+1);have:=oY h2 d;omega
def oZ.sets{N:H->H->Prop}{E:List H}(a:∀x y,N x y->x∈E)(h:oZ N):Ud N:=λS b hc=>by
 obtain⟨s,hs,d⟩:=agt a b hc;have key:∀x,rU N s x->S x:=λx c=>by
  induction c with
  | refl=>exact hs
  | tail _ k ih=>exact (hc _ ih).2 _ k
 exact λx y e=>key x (h s d x y e)
/-! ### A path in a corner's place -/
structure Pth(u c1 c2:H)(A P N N':H->H->Prop):Prop where
 n:∀x y,N x y↔A x y\/(x=c1/\y=u)\/(x=u/\y=c2)
 n':∀x y,N' x y↔A x y\/P x y
 a:∀x y,A x y->x≠u/\y≠u/\x≠c1/\y≠c2
 p:∀x y,P x y->rU P c1 x/\rU P y c2
 pc:rU P c1 c2
 i:∀x y,P x y->(x=c1\/((∀z,¬A x z)/\∀z,¬A z x))/\(y=c2\/((∀z,¬A y z)/\∀z,¬A z y))
 pe:∀y,¬P c2 y
 pu:∀x y,P x y->x≠u/\y≠u
 n1:c1≠u
 n2:c2≠u
 n3:c1≠c2
section
variable {u c1 c2:H} {A P N N':H->H->Prop}
def Pth.nopin(h:Pth u c1 c2 A P N N')(m:Ud N):Ud N':=by
 rintro S' ⟨x0,g⟩ d;have up:∀a b,rU P a b->S' a->S' b:=λa b r o=>by
  induction r with
  | refl=>exact o
  | tail _ k ih=>exact (d _ ih).2 _ ((h.n' _ _).2 (.inr k))
 have all:=m (λx=>(x=u/\S' c2)\/(x≠u/\S' x/\(x=c1\/∃y,A x y))) (by
  obtain⟨⟨y,c⟩,_⟩:=d x0 g;rcases (h.n' _ _).1 c with k | k
  .exact⟨x0,.inr ⟨(h.a _ _ k).1,g,.inr ⟨y,k⟩⟩⟩
  .exact⟨u,.inl ⟨O,up _ _ (h.p _ _ k).2 ((d _ g).2 _ c)⟩⟩) (λx t=>by
  rcases t with ⟨rfl,h2⟩ | ⟨s,hs,rfl | ⟨y0,j⟩⟩
  . refine⟨⟨c2,(h.n _ _).2 (.inr (.inr ⟨O,O⟩))⟩,λy c=>?_⟩
    rcases (h.n _ _).1 c with k | ⟨e,_⟩ | ⟨_,rfl⟩
    .exact Z8 O (h.a _ _ k).1
    .exact Z8 e.symm h.n1
    obtain⟨z,f⟩:=(d _ h2).1
    rcases (h.n' _ _).1 f with k | k
    .exact .inr ⟨h.n2,h2,.inr ⟨z,k⟩⟩
    exact Z8 k (h.pe z)
  . refine⟨⟨u,(h.n _ _).2 (.inr (.inl ⟨O,O⟩))⟩,λy c=>?_⟩
    rcases (h.n _ _).1 c with k | ⟨_,rfl⟩ | ⟨e,_⟩
    .exact Z8 O (h.a _ _ k).2.2.1
    .exact .inl ⟨O,up _ _ h.pc hs⟩
    exact Z8 e h.n1
  refine⟨⟨y0,(h.n _ _).2 (.inl j)⟩,λy c=>?_⟩
  rcases (h.n _ _).1 c with k | ⟨e,_⟩ | ⟨e,_⟩
  . have l:=(d _ hs).2 y ((h.n' _ _).2 (.inl k))
    refine .inr ⟨(h.a _ _ k).2.1,l,?_⟩;obtain⟨z,f⟩:=(d _ l).1;rcases (h.n' _ _).1 f with q | q
    .exact .inr ⟨z,q⟩
    rcases (h.i _ _ q).1 with e | ⟨_,e⟩
    .exact .inl e
    exact Z8 k (e x)
  .exact Z8 e (h.a _ _ j).2.2.1
  exact Z8 e s)
 intro x y v;rcases (h.n' _ _).1 v with k | k
 . rcases all x y ((h.n _ _).2 (.inl k)) with ⟨e,_⟩ | ⟨_,hs,_⟩
   .exact Z8 e (h.a _ _ k).1
   exact hs
 rcases all c1 u ((h.n _ _).2 (.inr (.inl ⟨rfl,rfl⟩))) with ⟨e,_⟩ | ⟨_,hs,_⟩
 .exact Z8 e h.n1
 exact up _ _ (h.p _ _ k).1 hs
def Pth.fan(h:Pth u c1 c2 A P N N'){a z:H}(l:a≠u)(j:∀y,P a y->a=c1)(k:Pk N' a z):Pk N a z:=by
 have g:rU N c1 c2:=.tail (.one ((h.n _ _).2 (.inr (.inl ⟨rfl,rfl⟩)))) ((h.n _ _).2 (.inr (.inr ⟨rfl,rfl⟩)));have key:∀b,rU N' a b->b≠u/\(rU N a b\/(rU N a c1/\∃x,P x b)):=λb r=>by
  induction r with
  | refl=>exact⟨l,.inl (.refl _)⟩
  | @tail b c _ s ih =>
   rcases (h.n' _ _).1 s with k | k
   . refine⟨(h.a _ _ k).2.1,.inl ?_⟩
     rcases ih.2 with r | ⟨r,x,f⟩
     .exact .tail r ((h.n _ _).2 (.inl k))
     rcases (h.i _ _ f).2 with rfl | ⟨e,_⟩
     .exact .tail (r.trans g) ((h.n _ _).2 (.inl k))
     exact Z8 k (e c)
   refine⟨(h.pu _ _ k).2,.inr ⟨?_,b,k⟩⟩
   rcases ih.2 with r | ⟨r,_⟩
   . rcases (h.i _ _ k).1 with rfl | ⟨_,e⟩
     .exact r
     cases r with
     | refl=>rw[<-j _ k];exact .refl _
     | @tail w _ r s =>
      rcases (h.n _ _).1 s with q | ⟨_,q⟩ | ⟨_,q⟩
      .exact Z8 q (e w)
      .exact Z8 q (h.pu _ _ k).1
      rw[q] at k;exact Z8 k (h.pe c)
   exact r
 obtain⟨o,hr⟩:=key z k.1;refine⟨?_,λy m=>?_⟩
 . rcases hr with r | ⟨r,x,f⟩
   .exact r
   rcases (h.p _ _ f).2.head with e | ⟨w,d,_⟩
   .rw[e];exact r.trans g
   exact Z8 ((h.n' _ _).2 (.inr d)) (k.2 w)
 rcases (h.n _ _).1 m with q | ⟨rfl,_⟩ | ⟨e,_⟩
 .exact k.2 y ((h.n' _ _).2 (.inl q))
 . rcases h.pc.head with e | ⟨w,d,_⟩
   .exact h.n3 e
   exact k.2 w ((h.n' _ _).2 (.inr d))
 exact o e
def Ins.nopin_out{p x0 y0:H}(h:Ins p x0 y0 N N')(f:oZ N'):oZ N:=by
 rintro s ⟨y,c,hr⟩ a d b;obtain⟨n1,n2⟩:=h.no _ _ c;have hc:Cyc N' s:=by
  by_cases e:s=x0/\y=y0
  . obtain⟨rfl,rfl⟩:=e
    exact⟨p,(h.iff _ _).2 (.inr (.inl ⟨O,O⟩)),(rU.one ((h.iff _ _).2 (.inr (.inr ⟨O,O⟩)))).trans (h.up hr)⟩
  exact⟨y,(h.iff _ _).2 (.inl ⟨c,e⟩),h.up hr⟩
 obtain⟨n3,_⟩:=h.no _ _ b;have hs:∃w,N' a w:=by
  by_cases e:a=x0/\d=y0
  .exact⟨p,(h.iff _ _).2 (.inr (.inl ⟨e.1,O⟩))⟩
  exact⟨d,(h.iff _ _).2 (.inl ⟨b,e⟩)⟩
 obtain⟨w,g⟩:=hs;rcases h.down n1 (f s hc a w g) with ⟨_,r⟩ | ⟨e,_⟩
 .exact r
 exact Z8 e n3
end
structure eV(us:List T3)(u v c1 c2:H):Prop where
 dg:Br us
 nd:(aX us).Nodup
 pin:∀p,oZ (Nx us p)
 ne:u≠v
 int:∀x,(∃y,Nx us u x y)↔∃y,Nx us x u y
 h1:Nx us u v c1
 h2:Nx us v u c2
 hc:c1≠c2
 com:∀b,b≠v->b≠u->kU us u b=Z->kU us v b=Z->b=c1\/b=c2
def agu{v:H}(h:gK u v x≠v):gK u v x=x:=by
 unfold gK at h ⊢;split
 .rename_i e;rw[J e] at h;exact Z8 O h
 rfl
def aa6{v:H}(a:y≠v)(h:gK u v x=y):x=y:=(agu (h▸a)).symm.trans h
def aa7{v:H}(a:u≠v)(x:H):gK u v x≠u:=by
 unfold gK;split
 .exact Ne.symm a
 rename_i h;exact h
def afb{v:H}(h:gK u v x=v):x=u\/x=v:=by
 unfold gK at h;split at h
 .exact .inl (by assumption)
 exact .inr h
section
variable {us:List T3} {u v c1 c2:H}
def eV.fn(_c:eV us u v c1 c2){a b x y:H}(h:Nx us a b x)(k:Nx us a b y):x=y:=vL _c.nd h k
def eV.inj(c:eV us u v c1 c2){a b x y:H}(h:Nx us a x b)(k:Nx us a y b):x=y:=c.fn (oA (oA h)) (oA (oA k))
def eV.d1(c:eV us u v c1 c2):∃d,Nx us u c1 d/\d≠v/\d≠u:=by
 obtain⟨d,a⟩:=(c.int c1).2 ⟨v,oA (oA c.h1)⟩;exact⟨d,a,λe=>c.hc (c.fn (oA (oA (e▸a))) c.h2),(jB c.dg a).2.2⟩
def eV.d2(c:eV us u v c1 c2):∃d,Nx us c2 u d/\d≠v/\d≠u:=by
 obtain⟨d,a⟩:=(c.int c2).1 ⟨v,oA c.h2⟩;exact⟨d,a,λe=>c.hc (c.fn c.h1 (oA (e▸a))),Ne.symm (jB c.dg a).2.1⟩
def eV.c1v(c:eV us u v c1 c2):c1≠v/\c1≠u:=⟨Ne.symm (jB c.dg c.h1).2.1,(jB c.dg c.h1).2.2⟩
def eV.c2v(c:eV us u v c1 c2):c2≠v/\c2≠u:=⟨(jB c.dg c.h2).2.2,Ne.symm (jB c.dg c.h2).2.1⟩
/-! ### The corners behind each other,afterwards -/
def eV.nu(c:eV us u v c1 c2){p x y:H}(h:Nx (eD us u v) p x y):p≠u/\x≠u/\y≠u:=by
 obtain⟨⟨a,b,d,_,rfl,rfl,rfl⟩,_⟩:=Ht.1 h;exact⟨aa7 c.ne _,aa7 c.ne _,aa7 c.ne _⟩
def eV.far(c:eV us u v c1 c2){p x y:H}(hp:p≠u)(d:p≠v):Nx (eD us u v) p x y↔∃a b,Nx us p a b/\gK u v a=x/\gK u v b=y/\x≠y:=by
 rw[Ht];constructor
 . rintro⟨⟨j,a,b,h,i,f,g⟩,_,k,_⟩
   obtain rfl:=aa6 d i;exact⟨a,b,h,f,g,k⟩
 rintro⟨a,b,h,rfl,rfl,k⟩
 obtain⟨n1,_,n3⟩:=jB c.dg h;refine⟨⟨p,a,b,h,fV hp,O,O⟩,λe=>?_,k,λe=>?_⟩
 .exact n1 (aa6 d e.symm).symm
 exact n3 (aa6 d e)
def eV.mid(c:eV us u v c1 c2){x y:H}:Nx (eD us u v) v x y↔(Nx us v x y/\x≠u/\y≠u)\/(Nx us u x y/\x≠v/\y≠v):=by
 rw[Ht];constructor
 . rintro⟨⟨f,g,i,h,hp,rfl,rfl⟩,a,b,d⟩
   obtain⟨n1,_,n3⟩:=jB c.dg h;have ex:=agu (Ne.symm a);have ey:=agu d;rw[ex] at a b ⊢;rw[ey] at b d ⊢;rcases afb hp with rfl | rfl
   .exact .inr ⟨h,Ne.symm a,d⟩
   exact .inl ⟨h,λe=>by rw[e,kB] at ex;exact c.ne ex.symm,λe=>by rw[e,kB] at ey;exact c.ne ey.symm⟩
 rintro (⟨h,a,b⟩ | ⟨h,a,b⟩) <;> obtain⟨n1,n2,n3⟩:=jB c.dg h
 .exact⟨⟨v,x,y,h,fV (Ne.symm c.ne),fV a,fV b⟩,n1,n2,n3⟩
 exact⟨⟨u,x,y,h,kB,fV (Ne.symm n1),fV n3⟩,Ne.symm a,n2,b⟩
/-! ### Edges -/
def eV.e_far(c:eV us u v c1 c2){a b:H}(h1:a≠u)(h2:a≠v)(d:b≠v):(∃y,Nx (eD us u v) a b y)↔b≠u/\∃y,Nx us a b y:=by
 constructor
 . rintro⟨y,h⟩
   obtain⟨l,k,i,f,_,_⟩:=(c.far h1 h2).1 h;have e:=aa6 d f;exact⟨f▸aa7 c.ne _,k,e▸i⟩
 rintro⟨j,y,h⟩
 refine⟨gK u v y,(c.far h1 h2).2 ⟨b,y,h,fV j,O,λe=>?_⟩⟩;by_cases g:y=u
 .rw[g,kB] at e;exact d e
 rw[fV g] at e;exact (jB c.dg h).2.1 e
def eV.e_out(c:eV us u v c1 c2){b:H}(a:b≠u)(d:b≠v):(∃y,Nx (eD us u v) v b y)↔(∃y,Nx us v b y/\y≠u)\/∃y,Nx us u b y/\y≠v:=by
 constructor
 . rintro⟨y,h⟩
   rcases c.mid.1 h with ⟨h,_,k⟩ | ⟨h,_,k⟩
   .exact .inl ⟨y,h,k⟩
   exact .inr ⟨y,h,k⟩
 rintro (⟨y,h,k⟩ | ⟨y,h,k⟩)
 .exact⟨y,c.mid.2 (.inl ⟨h,a,k⟩)⟩
 exact⟨y,c.mid.2 (.inr ⟨h,d,k⟩)⟩
def eV.e_in(c:eV us u v c1 c2){b:H}(a:b≠u)(d:b≠v):(∃y,Nx (eD us u v) b v y)↔(∃y,Nx us b v y/\y≠u)\/∃y,Nx us b u y/\y≠v:=by
 constructor
 . rintro⟨y,h⟩
   rcases c.mid.1 (oA h) with ⟨h,k,_⟩ | ⟨h,k,_⟩
   .exact .inl ⟨y,oA (oA h),k⟩
   exact .inr ⟨y,oA (oA h),k⟩
 rintro (⟨y,h,k⟩ | ⟨y,h,k⟩)
 .exact⟨y,oA (oA (c.mid.2 (.inl ⟨oA h,k,a⟩)))⟩
 exact⟨y,oA (oA (c.mid.2 (.inr ⟨oA h,k,d⟩)))⟩
def eV.e_v(c:eV us u v c1 c2){b:H}(f:b≠u)(j:b≠v) :
 (((∃y,Nx (eD us u v) v b y)↔∃y,Nx us v b y)/\((∃y,Nx (eD us u v) b v y)↔∃y,Nx us b v y)) \/
 ((∃y,Nx (eD us u v) v b y)/\(∃y,Nx (eD us u v) b v y)/\kU us v b=X3/\kU us u b=Z):=by
 rw[c.e_out f j,c.e_in f j];by_cases k:kU us u b=Z
 . by_cases g:kU us v b=Z
   . left
     rcases c.com b j f k g with rfl | rfl
     . obtain⟨d,i,l,_⟩:=c.d1
       refine⟨⟨λ_=>⟨u,oA c.h1⟩,λ_=>.inr ⟨d,i,l⟩⟩,⟨λh=>?_,λ⟨y,h⟩=>.inl ⟨y,h,λe=>?_⟩⟩⟩
       . rcases h with ⟨y,h,_⟩ | ⟨y,h,e⟩
         .exact⟨y,h⟩
         exact Z8 (c.fn h (oA (oA c.h1))) e
       rw[e] at h
       exact c.hc (c.fn (oA h) c.h2).symm.symm
     obtain⟨d,i,l,_⟩:=c.d2
     refine⟨⟨λh=>?_,λ⟨y,h⟩=>.inl ⟨y,h,λe=>?_⟩⟩,⟨λ_=>⟨u,oA (oA c.h2)⟩,λ_=>.inr ⟨d,i,l⟩⟩⟩
     . rcases h with ⟨y,h,_⟩ | ⟨y,h,e⟩
       .exact⟨y,h⟩
       exact Z8 (c.fn h (oA c.h2)) e
     rw[e] at h
     exact c.hc (c.fn c.h1 (oA (oA h)))
   right
   have a:∀y,¬Nx us v b y/\¬Nx us b v y:=λy=>⟨λh=>g (gE h),λh=>g (iY (gE h))⟩
   have o:(∃y,Nx us u b y)/\∃y,Nx us b u y:=by
    rcases Kq k (Ne.symm f) with h | h
    .exact⟨h,(c.int b).1 h⟩
    exact⟨(c.int b).2 h,h⟩
   obtain⟨⟨y,m⟩,p,n⟩:=o;refine⟨.inr ⟨y,m,λe=>(a u).2 (oA (e▸m))⟩,.inr ⟨p,n,λe=>(a u).1 (oA (oA (e▸n)))⟩,by simpa using g,k⟩
 left
 have a:∀y,¬Nx us u b y/\¬Nx us b u y:=λy=>⟨λh=>k (gE h),λh=>k (iY (gE h))⟩
 refine⟨⟨λh=>?_,λ⟨y,h⟩=>.inl ⟨y,h,λe=>(a v).2 (oA (e▸h))⟩⟩,⟨λh=>?_,λ⟨y,h⟩=>.inl ⟨y,h,λe=>(a v).1 (oA (oA (e▸h)))⟩⟩⟩
 . rcases h with ⟨y,h,_⟩ | ⟨y,h,_⟩
   .exact⟨y,h⟩
   exact Z8 h (a y).1
 rcases h with ⟨y,h,_⟩ | ⟨y,h,_⟩
 .exact⟨y,h⟩
 exact Z8 h (a y).2
def eV.bord(c:eV us u v c1 c2)(e:E3):Dl (eD us u v) e↔Dl us e:=by
 obtain⟨a,b⟩:=e;unfold Dl;simp only[nQ];by_cases j:a=u
 . subst j
   refine⟨λh=>?_,λh=>Z8 ((c.int b).1 h.1) h.2⟩;obtain⟨⟨y,h⟩,_⟩:=h;exact Z8 O (c.nu h).1
 by_cases k:b=u
 . subst k
   refine⟨λh=>?_,λh=>Z8 ((c.int a).2 h.1) h.2⟩;obtain⟨⟨y,h⟩,_⟩:=h;exact Z8 O (c.nu h).2.1
 by_cases l:a=v
 . subst l
   by_cases d:b=a
   . subst d
     exact⟨λ⟨⟨y,h⟩,_⟩=>Z8 O (Ht.1 h).2.1,λ⟨⟨y,h⟩,_⟩=>Z8 O (jB c.dg h).1⟩
   rcases c.e_v k d with ⟨f,g⟩ | ⟨_,g,i,_⟩
   .rw[f,g]
   refine⟨λh=>Z8 g h.2,λ⟨⟨y,h⟩,_⟩=>?_⟩
   rw[gE h] at i;cases i
 by_cases d:b=v
 . subst d
   rcases c.e_v j l with ⟨f,g⟩ | ⟨f,_,i,_⟩
   .rw[f,g]
   refine⟨λh=>Z8 f h.2,λ⟨⟨y,h⟩,_⟩=>?_⟩
   rw[iY (gE h)] at i;cases i
 rw[c.e_far j l d,c.e_far k d l]
 simp[j,k]
/-! ### No edge twice -/
def eV.inj_s(c:eV us u v c1 c2){b x y:H}(h:Nx us u b x)(a:x≠v)(k:Nx us v b y)(d:y≠u):False:=by
 obtain⟨n1,_,_⟩:=jB c.dg h;obtain⟨n2,_,_⟩:=jB c.dg k;rcases c.com b (Ne.symm n2) (Ne.symm n1) (gE h) (gE k) with rfl | rfl
 .exact d (c.fn k (oA c.h1))
 exact a (c.fn h (oA c.h2))
def eV.inj_t(c:eV us u v c1 c2){b x y:H}(h:Nx us b u x)(a:x≠v)(k:Nx us b v y)(d:y≠u):False:=by
 obtain⟨n1,_,_⟩:=jB c.dg h;obtain⟨n2,_,_⟩:=jB c.dg k;rcases c.com b n2 n1 (iY (gE h)) (iY (gE k)) with rfl | rfl
 .exact a (c.fn h (oA (oA c.h1)))
 exact d (c.fn k (oA (oA c.h2)))
def Ue(u v:H):∀us:List T3,lW u v us=(us.filter λt=>(gX u v t).nd).map (gX u v)
 | []=>rfl
 | t::us=>by
  have ih:=Ue u v us;unfold lW at ih ⊢;rw[bi,fk,fk];split
  .rw[bi,ih]
  exact ih
def Zc(f:H->H):∀ts:List T3,aX (ts.map (T3.mapP f))=(aX ts).map λe=>(f e.1,f e.2)
 | []=>rfl
 | t::ts=>by
  have ih:=Zc f ts;unfold aX at ih ⊢;rw[bi,bx,bx,de,ih];rfl
def Zd{p:T3->Bool}:∀ts:List T3,(aX (ts.filter p)).Sublist (aX ts)
 | []=>.refl _
 | t::ts=>by
  have ih:=Zd (p:=p) ts;unfold aX at ih ⊢;rw[fk];split
  .rw[bx,bx];exact (List.Sublist.refl _).append ih
  rw[bx];exact ih.trans (List.sublist_append_right _ _)
def eV.nodup(c:eV us u v c1 c2):(aX (eD us u v)).Nodup:=by
 unfold eD;rw[(acD _).nodup_iff,Ue];show (aX (List.map (T3.mapP (gK u v)) _)).Nodup
 rw[Zc,rc,jf];refine (c.nd.sublist (Zd us)).imp_of_mem λ{e g} C D F z=>F ?_;have B:∀{a b:H},(a,b)∈aX (us.filter λt=>(gX u v t).nd)->∃y,Nx us a b y/\gK u v a≠gK u v b/\gK u v b≠gK u v y/\gK u v y≠gK u v a:=λh=>by
  obtain⟨y,h⟩:=nQ.1 h;obtain⟨t,E,w⟩:=eZ.1 h;obtain⟨h1,h2⟩:=ct.1 E;obtain⟨q,r,s⟩:=vP.1 h2;refine⟨y,eZ.2 ⟨t,h1,w⟩,?_⟩;rcases Hl.1 w with ⟨rfl,rfl,rfl⟩ | ⟨rfl,rfl,rfl⟩ | ⟨rfl,rfl,rfl⟩
  .exact⟨q,r,s⟩
  .exact⟨r,s,q⟩
  exact⟨s,q,r⟩
 obtain⟨a,b⟩:=e;obtain⟨G,I⟩:=g;obtain⟨y,k,m1,m2,l⟩:=B C;obtain⟨J,m,A,n,o⟩:=B D;simp only[gl] at z;obtain⟨q1,q2⟩:=z;have two:∀{x i:H},gK u v x=gK u v i->x=i\/(x=u/\i=v)\/(x=v/\i=u):=λ{x i} h=>by
  by_cases j:x=u
  . rw[j,kB] at h
    rcases afb h.symm with e | e
    .exact .inl (j.trans e.symm)
    exact .inr (.inl ⟨j,e⟩)
  rw[fV j] at h
  by_cases p:i=u
  .rw[p,kB] at h;exact .inr (.inr ⟨h,p⟩)
  rw[fV p] at h;exact .inl h
 have f:gK u v v=v:=fV (Ne.symm c.ne);have d:∀{y},gK u v y≠v->y≠v/\y≠u:=λh=>⟨λe=>h (by rw[e,f]),λe=>h (by rw[e,kB])⟩
 rcases two q1 with rfl | ⟨rfl,rfl⟩ | ⟨rfl,rfl⟩
 . rcases two q2 with rfl | ⟨rfl,rfl⟩ | ⟨rfl,rfl⟩
   .rfl
   . rw[kB] at m2;rw[f] at n
     exact Z8 (c.inj_t k (d (Ne.symm m2)).1 m (d (Ne.symm n)).2) id
   rw[f] at m2;rw[kB] at n
   exact Z8 (c.inj_t m (d (Ne.symm n)).1 k (d (Ne.symm m2)).2) id
 . rw[kB] at m1 l;rw[f] at A o
   rcases two q2 with rfl | ⟨rfl,rfl⟩ | ⟨rfl,rfl⟩
   .exact Z8 (c.inj_s k (d l).1 m (d o).2) id
   .rw[kB] at m1;exact Z8 O m1
   rw[f] at m1;exact Z8 O m1
 rw[f] at m1 l;rw[kB] at A o
 rcases two q2 with rfl | ⟨rfl,rfl⟩ | ⟨rfl,rfl⟩
 .exact Z8 (c.inj_s m (d o).1 k (d l).2) id
 .rw[kB] at m1;exact Z8 O m1
 rw[f] at m1;exact Z8 O m1
end
structure Kr(l us:List T3)(f:H->H):Prop where
 dg:Br us
 nd:(aX us).Nodup
 pin:∀v,oZ (Nx us v)
 bd:∀e,Dl us e↔Dl l e
 sub:∀x∈cF l,x∈cF us
 fix:∀x∈cF l,f x=x
 img:∀x∈cF us,f x∈cF l
 hit:(Gc f us).Perm (l.map dB)
 pair:∀t∈us,∀x y,t.has x=Z->t.has y=Z->kU l (f x) (f y)=Z
 keep:∀e∈aX l,Bt (bB l) e.1=Z->Bt (bB l) e.2=Z->e∈aX us
 fan:∀v a z,Dl l (v,a)->Pk (Nx l v) a z->Pk (Nx us v) a z
def Kr.refl(dg:Br l)(nd:(aX l).Nodup)(pin:∀v,oZ (Nx l v)):Kr l l (λx=>x) :=
 ⟨dg,nd,pin,λ_=>Iff.rfl,λ_ h=>h,λ_ _=>rfl,λ_ h=>h,by rw[anM dg λ_ _=>rfl],λt a x y b c=>kM.2 ⟨t,a,b,c⟩,λ_ h _ _=>h,λ_ _ _ _ h=>h⟩
def Kr.congr{g:H->H}(h:Kr l us f)(e:∀x∈cF us,f x=g x):Kr l us g :=
 ⟨h.dg,h.nd,h.pin,h.bd,h.sub,λx a=>(e x (h.sub x a)).symm.trans (h.fix x a),λx a=>e x a▸h.img x a,So e▸h.hit,
  λt b x y a c=>by rw[<-e x (oM b a),<-e y (oM b c)];exact h.pair t b x y a c,h.keep,h.fan⟩
def Kr.rim(h:Kr l us f):bB us=bB l:=Do h.bd
def Kr.trans{mid:List T3}{g:H->H}(h:Kr l mid f)(k:Kr mid us g):Kr l us (λx=>f (g x)):=by
 refine⟨k.dg,k.nd,k.pin,λe=>(k.bd e).trans (h.bd e),λx b=>k.sub x (h.sub x b),λx b=>?_,λx b=>h.img _ (k.img x b),?_,λt j x y b n=>?_,λe d h1 h2=>?_,λv a z c i=>?_⟩
 . show f (g x)=x
   rw[k.fix x (h.sub x b),h.fix x b]
 . rw[Xx]
   refine (k.hit.flatMap_right (hF f)).trans ?_;have e:(mid.map dB).flatMap (hF f)=Gc f mid:=by
    unfold Gc;rw[List.flatMap_map]
    congr 1
    exact funext λt=>af1 (jQ t)
   rw[e];exact h.hit
 . obtain⟨u,m,o,p⟩:=kM.1 (k.pair t j x y b n)
   exact h.pair u m _ _ o p
 .refine k.keep e (h.keep e d h1 h2) ?_ ?_ <;> rw[h.rim] <;> assumption
 exact k.fan v a z ((h.bd _).2 c) (h.fan v a z c i)
def oT   : x∈cF ts↔∃a b,Nx ts x a b:=by
 constructor
 . intro h
   obtain⟨t,d,e⟩:=Dp.1 h;rcases e with rfl | rfl | rfl
   .exact⟨t.b,t.c,eZ.2 ⟨t,d,Hl.2 (.inl ⟨O,O,O⟩)⟩⟩
   .exact⟨t.c,t.a,eZ.2 ⟨t,d,Hl.2 (.inr (.inl ⟨O,O,O⟩))⟩⟩
   exact⟨t.a,t.b,eZ.2 ⟨t,d,Hl.2 (.inr (.inr ⟨O,O,O⟩))⟩⟩
 rintro⟨a,b,h⟩
 exact (Fa (An h)).1
def acE(u v:H):∀us:List T3,Gc (gK u v) us=(lW u v us).map dB
 | []=>rfl
 | t::us=>by
  have ih:=acE u v us;unfold Gc lW at ih ⊢;rw[bx,bi,fk,ih];cases h:(gX u v t).nd with
  | true=>rw[J rfl,bi,asF (f:=gK u v) h];rfl
  | false=>rw[X fg,auL (f:=gK u v) h];rfl
def ahY(u v:H)(us:List T3):(Gc (gK u v) us).Perm ((eD us u v).map dB):=by
 rw[acE];unfold eD;refine List.Perm.trans ?_ ((mZ _).map dB).symm;rw[ln];have e:(lW u v us).map (dB∘dB)=(lW u v us).map dB:=io λt a=>Si (jQ t) (aaz us t a);rw[e]
section
variable {us:List T3} {u v c1 c2:H}
def eV.m1(c:eV us u v c1 c2):∃d,Nx (eD us u v) v c1 d:=by
 obtain⟨d,a,b,_⟩:=c.d1;exact⟨d,c.mid.2 (.inr ⟨a,c.c1v.1,b⟩)⟩
def eV.m2(c:eV us u v c1 c2):∃d,Nx (eD us u v) v d c2:=by
 obtain⟨d,a,b,_⟩:=c.d2;exact⟨d,c.mid.2 (.inr ⟨oA a,b,c.c2v.1⟩)⟩
def agv{u v x a:H}(h:gK u v x=gK u v a):x=a\/(x=u/\a=v)\/(x=v/\a=u):=by
 by_cases b:x=u
 . rw[b,kB] at h
   rcases afb h.symm with e | e
   .exact .inl (b.trans e.symm)
   exact .inr (.inl ⟨b,e⟩)
 rw[fV b] at h
 by_cases c:a=u
 .rw[c,kB] at h;exact .inr (.inr ⟨h,c⟩)
 rw[fV c] at h;exact .inl h
def eV.third(c:eV us u v c1 c2){a b z:H}(h:Nx us a b z)(e:gK u v z=gK u v a):gK u v a=v/\(b=c1\/b=c2):=by
 rcases agv e with e | ⟨rfl,rfl⟩ | ⟨rfl,rfl⟩
 .exact Z8 e (jB c.dg h).2.2
 .exact⟨fV (Ne.symm c.ne),.inl (c.fn (oA (oA h)) c.h1)⟩
 exact⟨kB,.inr (c.fn (oA (oA h)) c.h2)⟩
def eV.cv(c:eV us u v c1 c2){b:H}(h:b=c1\/b=c2):kU (eD us u v) v b=Z:=by
 obtain⟨d,a⟩:=c.m1;obtain⟨e,f⟩:=c.m2;rcases h with rfl | rfl
 .exact gE a
 exact oO f
def eV.pairN(c:eV us u v c1 c2){a b z:H}(h:Nx us a b z)(l:gK u v a≠gK u v b):kU (eD us u v) (gK u v a) (gK u v b)=Z:=by
 by_cases i:gK u v z=gK u v a
 . obtain⟨g,d⟩:=c.third h i
   have k:gK u v b=b:=fV (d.elim (λe=>e▸c.c1v.2) λe=>e▸c.c2v.2);rw[g,k];exact c.cv d
 by_cases f:gK u v b=gK u v z
 . obtain⟨g,d⟩:=c.third (oA (oA h)) f
   have j:gK u v a=a:=fV (d.elim (λe=>e▸c.c1v.2) λe=>e▸c.c2v.2);rw[j,f,g];exact iY (c.cv d)
 exact gE (Ht.2 ⟨⟨a,b,z,h,O,O,O⟩,l,f,i⟩)
def eV.img(c:eV us u v c1 c2){x:H}(i:x∈cF us):gK u v x∈cF (eD us u v):=by
 obtain⟨d,g⟩:=c.m1;by_cases f:gK u v x=v
 .rw[f];exact oT.2 ⟨_,_,g⟩
 obtain⟨a,b,h⟩:=oT.1 i;have j:=agu f;by_cases e:gK u v x=gK u v a
 . rcases agv e with e | ⟨rfl,_⟩ | ⟨rfl,_⟩
   .exact Z8 e (jB c.dg h).1
   .exact Z8 kB f
   exact Z8 (fV (Ne.symm c.ne)) f
 exact Xq.1 (ahm (c.pairN h e))
def eV.no_deg(_c:eV us u v c1 c2):Br (eD us u v):=λt a=>by
 obtain⟨b,c,d⟩:=vP.1 (aes us u v t a);simp[xB,b,c,d]
/-! ### Round each corner -/
def eV.fnm(c:eV us u v c1 c2){a b x y:H}(h:Nx (eD us u v) a b x)(k:Nx (eD us u v) a b y):x=y:=vL c.nodup h k
def eV.same(c:eV us u v c1 c2){p:H}(b:p≠u)(d:p≠v)(a:kU us u p=X3)(x y:H):Nx (eD us u v) p x y↔Nx us p x y:=by
 have no:∀{x y},Nx us p x y->x≠u/\y≠u:=λh=>⟨λe=>(by rw[e] at h;rw[iY (gE h)] at a;cases a),λe=>(by rw[e] at h;rw[iY (oO h)] at a;cases a)⟩
 rw[c.far b d];constructor
 . rintro⟨f,g,h,rfl,rfl,_⟩
   rwa [fV (no h).1,fV (no h).2]
 intro h
 exact⟨x,y,h,fV (no h).1,fV (no h).2,(jB c.dg h).2.1⟩
def eV.ren1(c:eV us u v c1 c2){p:H}(f:p≠u)(g:p≠v)(a:kU us v p=X3):Ren u v (Nx us p) (Nx (eD us u v) p):=by
 have no:∀x y,Nx us p x y->x≠v/\y≠v:=λx y h=>⟨λe=>(by rw[e] at h;rw[iY (gE h)] at a;cases a),λe=>(by rw[e] at h;rw[iY (oO h)] at a;cases a)⟩
 refine⟨no,λx y=>?_⟩;rw[c.far f g];constructor
 . rintro⟨b,d,h,rfl,rfl,_⟩
   exact⟨b,d,h,O,O⟩
 rintro⟨b,d,h,rfl,rfl⟩
 refine⟨b,d,h,O,O,λe=>?_⟩;exact (jB c.dg h).2.1 (aax (q:=u) (p:=v) (no _ _ h).1 (no _ _ h).2 e)
def Ks{u v x:H}(a:x≠v):ren v u (gK u v x)=x:=by
 by_cases e:x=u
 .rw[e,kB,apN]
 rw[fV e,afZ a]
def eV.ren2(c:eV us u v c1 c2){p:H}(f:p≠u)(g:p≠v)(e:kU us v p=X3):Ren v u (Nx (eD us u v) p) (Nx us p):=by
 have r:=c.ren1 f g e;refine⟨λx y h=>(c.nu h).2,λx y=>⟨λh=>?_,?_⟩⟩
 . obtain⟨n1,n2⟩:=r.no _ _ h
   exact⟨gK u v x,gK u v y,(r.iff _ _).2 ⟨x,y,h,O,O⟩,(Ks n1).symm,(Ks n2).symm⟩
 rintro⟨a,b,h,rfl,rfl⟩
 obtain⟨x,y,d,rfl,rfl⟩:=(r.iff _ _).1 h;obtain⟨n1,n2⟩:=r.no _ _ d;show Nx us p (ren v u (gK u v x)) (ren v u (gK u v y))
 rwa [Ks n1,Ks n2]
def eV.ins1(c:eV us u v c1 c2):∃d,Ins u d v (Nx (eD us u v) c1) (Nx us c1):=by
 obtain⟨d,j,o,f⟩:=c.d1;have h1:Nx us c1 u v:=oA (oA c.h1);have a:Nx us c1 d u:=oA j;have l:gK u v v=v:=fV (Ne.symm c.ne);have k:Nx (eD us u v) c1 d v:=(c.far c.c1v.2 c.c1v.1).2 ⟨d,u,a,fV f,kB,o⟩;refine⟨d,λx y h=>(c.nu h).2,k,λx y=>⟨λh=>?_,λh=>?_⟩⟩
 . by_cases ex:x=u
   .subst ex;exact .inr (.inr ⟨O,c.fn h h1⟩)
   by_cases ey:y=u
   .subst ey;exact .inr (.inl ⟨c.inj h a,O⟩)
   refine .inl ⟨(c.far c.c1v.2 c.c1v.1).2 ⟨x,y,h,fV ex,fV ey,(jB c.dg h).2.1⟩,λe=>?_⟩;rw[e.1,e.2] at h;exact c.ne (c.fn a h)
 rcases h with ⟨h,i⟩ | ⟨rfl,rfl⟩ | ⟨rfl,rfl⟩
 . obtain⟨m,n,b,rfl,rfl,g⟩:=(c.far c.c1v.2 c.c1v.1).1 h
   by_cases ex:m=u
   . subst ex
     rw[c.fn b h1,kB,l] at g;exact Z8 O g
   by_cases ey:n=u
   . subst ey
     rw[c.inj b a,kB,fV f] at i;exact Z8 ⟨O,O⟩ i
   rwa [fV ex,fV ey]
 .exact a
 exact h1
def eV.ins2(c:eV us u v c1 c2):∃d,Ins u v d (Nx (eD us u v) c2) (Nx us c2):=by
 obtain⟨d,a,n,b⟩:=c.d2;have h1:Nx us c2 v u:=oA (oA c.h2);have k:gK u v v=v:=fV (Ne.symm c.ne);have j:Nx (eD us u v) c2 v d:=(c.far c.c2v.2 c.c2v.1).2 ⟨u,d,a,kB,fV b,Ne.symm n⟩;refine⟨d,λx y h=>(c.nu h).2,j,λx y=>⟨λh=>?_,λh=>?_⟩⟩
 . by_cases ex:x=u
   .subst ex;exact .inr (.inr ⟨O,c.fn h a⟩)
   by_cases ey:y=u
   .subst ey;exact .inr (.inl ⟨c.inj h h1,O⟩)
   refine .inl ⟨(c.far c.c2v.2 c.c2v.1).2 ⟨x,y,h,fV ex,fV ey,(jB c.dg h).2.1⟩,λe=>?_⟩;rw[e.1,e.2] at h;exact b (c.fn h h1)
 rcases h with ⟨h,i⟩ | ⟨rfl,rfl⟩ | ⟨rfl,rfl⟩
 . obtain⟨l,m,f,rfl,rfl,g⟩:=(c.far c.c2v.2 c.c2v.1).1 h
   by_cases ex:l=u
   . subst ex
     rw[c.fn f a,kB,fV b] at i;exact Z8 ⟨O,O⟩ i
   by_cases ey:m=u
   . subst ey
     rw[c.inj f h1,kB,k] at g;exact Z8 O g
   rwa [fV ex,fV ey]
 .exact h1
 exact a
def eV.ring(c:eV us u v c1 c2):rU (Nx us u) c1 v/\∀x y,Nx us u x y->rU (Nx us u) v x/\rU (Nx us u) x v:=by
 have fn:∀x y z,Nx us u x y->Nx us u x z->y=z:=λ_ _ _ h k=>c.fn h k;obtain⟨s,hs,hc⟩:=agt (N:=Nx us u) (E:=cF us) (λx y h=>(Fa (An h)).2) (S:=λx=>∃y,Nx us u x y) ⟨v,c1,c.h1⟩ λx i=>⟨i,λy a=>(c.int y).2 ⟨x,oA (oA a)⟩⟩
 have all:=c.pin u s hc;have e:=all v c1 c.h1;have f:=e.back fn hc;have b:∀x y,Nx us u x y->rU (Nx us u) v x:=λx y h=>f.trans (all x y h);have d:rU (Nx us u) c1 v:=by
  rcases f.head with rfl | ⟨w,g,r⟩
  . obtain⟨y,a,r⟩:=hc
    rw[c.fn c.h1 a];exact r
  rw[c.fn c.h1 g];exact r.trans e
 exact⟨d,λx y h=>⟨b x y h,(b x y h).back fn ⟨c1,c.h1,d⟩⟩⟩
def eV.pth(c:eV us u v c1 c2):Pth u c1 c2 (λx y=>Nx us v x y/\x≠u/\y≠u) (λx y=>Nx us u x y/\x≠v/\y≠v) (Nx us v) (Nx (eD us u v) v):=by
 obtain⟨o,m⟩:=c.ring;have l:Nx us v c1 u:=oA c.h1;have j:Nx us u c2 v:=oA c.h2;have tail:∀b,rU (Nx us u) v b->b=v\/rU (λx y=>Nx us u x y/\x≠v/\y≠v) c1 b:=λb r=>by
  induction r with
  | refl=>exact .inl rfl
  | @tail b d _ s ih =>
   by_cases g:d=v
   .exact .inl g
   by_cases i:b=v
   .subst i;rw[c.fn s c.h1];exact .inr (.refl _)
   rcases ih with e | r
   .exact Z8 e i
   exact .inr (.tail r ⟨s,i,g⟩)
 have head:∀a,a≠v->∀b,rU (Nx us u) a b->(b≠v/\rU (λx y=>Nx us u x y/\x≠v/\y≠v) a b)\/rU (λx y=>Nx us u x y/\x≠v/\y≠v) a c2:=λa k b r=>by
  induction r with
  | refl=>exact .inl ⟨k,.refl _⟩
  | @tail b d _ s ih =>
   rcases ih with ⟨i,r⟩ | r
   . by_cases g:d=v
     .subst g;rw[<-c.inj s j];exact .inr r
     exact .inl ⟨g,.tail r ⟨s,i,g⟩⟩
   exact .inr r
 have n:∀a,a≠v->rU (Nx us u) a v->rU (λx y=>Nx us u x y/\x≠v/\y≠v) a c2:=λa k r=>by
  rcases head a k v r with ⟨e,_⟩ | r
  .exact Z8 O e
  exact r
 refine⟨λx y=>⟨λh=>?_,?_⟩,λx y=>c.mid,λx y h=>⟨h.2.1,h.2.2,λe=>?_,λe=>?_⟩,λx y h=>⟨?_,?_⟩,n c1 c.c1v.1 o,λx y h=>⟨?_,?_⟩,λy h=>h.2.2 (c.fn h.1 j),λx y h=>⟨Ne.symm (jB c.dg h.1).1,(jB c.dg h.1).2.2⟩,c.c1v.2,c.c2v.2,c.hc⟩
 . by_cases ex:x=u
   .subst ex;exact .inr (.inr ⟨O,c.fn h c.h2⟩)
   by_cases ey:y=u
   .subst ey;exact .inr (.inl ⟨c.inj h l,O⟩)
   exact .inl ⟨h,ex,ey⟩
 . rintro (⟨h,_⟩ | ⟨rfl,rfl⟩ | ⟨rfl,rfl⟩)
   .exact h
   .exact l
   exact c.h2
 . have h:=h
   rw[e] at h;exact h.2.2 (c.fn h.1 l)
 . have h:=h
   rw[e] at h;exact h.2.1 (c.inj h.1 c.h2)
 . rcases tail x (m x y h.1).1 with e | r
   .exact Z8 e h.2.1
   exact r
 . obtain⟨z,f⟩:=(c.int y).2 ⟨x,oA (oA h.1)⟩
   exact n y h.2.2 (m y z f).2
 . by_cases e:x=c1
   .exact .inl e
   refine .inr ⟨λz f=>?_,λz f=>?_⟩
   . rcases c.com x h.2.1 (Ne.symm (jB c.dg h.1).1) (gE h.1) (gE f.1) with rfl | rfl
     .exact e O
     exact h.2.2 (c.fn h.1 j)
   rcases c.com x h.2.1 (Ne.symm (jB c.dg h.1).1) (gE h.1) (oO f.1) with rfl | rfl
   .exact e O
   exact h.2.2 (c.fn h.1 j)
 by_cases e:y=c2
 .exact .inl e
 refine .inr ⟨λz f=>?_,λz f=>?_⟩
 . rcases c.com y h.2.2 (jB c.dg h.1).2.2 (oO h.1) (gE f.1) with rfl | rfl
   .exact h.2.1 (c.inj h.1 c.h1)
   exact e O
 rcases c.com y h.2.2 (jB c.dg h.1).2.2 (oO h.1) (oO f.1) with rfl | rfl
 .exact h.2.1 (c.inj h.1 c.h1)
 exact e O
def eV.nopin(c:eV us u v c1 c2)(p:H):oZ (Nx (eD us u v) p):=by
 by_cases a:p=u
 . rintro s ⟨y,i,_⟩
   exact Z8 a (c.nu i).1
 by_cases b:p=v
 . subst b
   exact (c.pth.nopin ((c.pin p).sets (E:=cF us) λx y h=>(Fa (An h)).2)).ring λ_ _ _ h k=>c.fnm h k
 by_cases e:p=c1
 .subst e;obtain⟨d,h⟩:=c.ins1;exact h.nopin_out (c.pin p)
 by_cases f:p=c2
 .subst f;obtain⟨d,h⟩:=c.ins2;exact h.nopin_out (c.pin p)
 cases g:kU us u p with
 | false=>exact ael (c.same a b g) (c.pin p)
 | true =>
  have j:kU us v p=X3:=by
   cases h:kU us v p with
   | false=>rfl
   | true=>exact Z8 (c.com p b a g h) λh=>h.elim e f
  exact (c.ren1 a b j).nopin (c.pin p)
def eV.check(c:eV us u v c1 c2):fO Z (eD us u v)=0:=wP.2 ⟨c.no_deg,c.nodup,c.nopin⟩
def eV.fan(c:eV us u v c1 c2){p a z:H}(i:Dl (eD us u v) (p,a))(k:Pk (Nx (eD us u v) p) a z):Pk (Nx us p) a z:=by
 obtain⟨y0,G⟩:=nQ.1 i.1;obtain⟨f,l,_⟩:=c.nu G;have o:z≠u:=by
  obtain⟨r,_⟩:=k;cases r with
  | refl=>exact l
  | tail _ s=>exact (c.nu s).2.2
 by_cases g:p=v
 . subst g
   refine c.pth.fan l (λy b=>?_) k;have A:a≠p:=b.2.1;rcases c.e_v l A with ⟨_,_⟩ | ⟨_,h2,_⟩
   . have F:=(c.bord _).1 i
     obtain⟨w,D⟩:=nQ.1 F.1;rcases c.com a A l (gE b.1) (gE D) with e | e
     .exact e
     rw[e] at b;exact Z8 (c.fn b.1 (oA c.h2)) b.2.2
   exact Z8 (nQ.2 h2) i.2
 by_cases q:p=c1
 .subst q;obtain⟨d,h⟩:=c.ins1;exact h.fan o k
 by_cases t:p=c2
 .subst t;obtain⟨d,h⟩:=c.ins2;exact h.fan o k
 cases m:kU us u p with
 | false=>exact ajD (λx y=>(c.same f g m x y).symm) k
 | true =>
  have j:kU us v p=X3:=by
   cases h:kU us v p with
   | false=>rfl
   | true=>exact Z8 (c.com p g f m h) λh=>h.elim q t
  have B:(∃y,Nx (eD us u v) v p y)/\∃y,Nx (eD us u v) p v y:=by
   rcases c.e_v f g with ⟨h1,h2⟩ | ⟨h1,h2,_⟩
   . rw[c.e_out f g,c.e_in f g]
     have C:(∃y,Nx us u p y)/\∃y,Nx us p u y:=by
      rcases Kq m (Ne.symm f) with h | h
      .exact⟨h,(c.int p).1 h⟩
      exact⟨(c.int p).2 h,h⟩
     obtain⟨⟨y,b⟩,E,n⟩:=C;refine⟨.inr ⟨y,b,λe=>?_⟩,.inr ⟨E,n,λe=>?_⟩⟩
     .rw[e] at b;rw[iY (gE (oA b))] at j;cases j
     rw[e] at n;rw[iY (oO n)] at j;cases j
   exact⟨h1,h2⟩
  refine (c.ren2 f g j).fan (λe=>?_) (λe=>?_) o k
  .rw[e] at i;exact i.2 (nQ.2 B.1)
  obtain⟨y,b⟩:=B.2
  rw[e] at k;exact k.2 y b
def eV.acc(c:eV us u v c1 c2)(q:Aq us u v=Z):Kr (eD us u v) us (gK u v):=by
 have F:bB (eD us u v)=bB us:=Do c.bord;refine⟨c.dg,c.nd,c.pin,λe=>(c.bord e).symm,λx d=>?_,λx d=>?_,λx d=>c.img d,ahY u v us,λt r x y d i=>?_,λe g h1 h2=>?_,λp a z m s=>c.fan m s⟩
 . obtain⟨a,b,h⟩:=oT.1 d
   obtain⟨⟨D,G,H,h,hp,_,_⟩,_⟩:=Ht.1 h;by_cases e:D=u
   .rw[e,kB] at hp;rw[<-hp];exact oT.2 ⟨_,_,c.h2⟩
   rw[fV e] at hp;rw[<-hp];exact oT.2 ⟨_,_,h⟩
 . obtain⟨a,b,h⟩:=oT.1 d
   exact fV (c.nu h).1
 . by_cases e:gK u v x=gK u v y
   .rw[<-e];exact Xq.2 (c.img (oM r d))
   have E:x≠y:=λh=>e (by rw[h])
   rcases Kq (kM.2 ⟨t,r,d,i⟩) E with ⟨z,h⟩ | ⟨z,h⟩
   .exact c.pairN h e
   exact iY (c.pairN h (Ne.symm e))
 obtain⟨a,b⟩:=e
 rw[F] at h1 h2;simp only at h1 h2;obtain⟨y,i⟩:=nQ.1 g;obtain⟨o,m,_⟩:=c.nu i;have new:∀b,b≠u->b≠v->Bt (bB us) v=Z->Bt (bB us) b=Z->kU us v b=X3->kU us u b=Z->False:=λb w A B C j l=>by
  unfold Aq at q;rw[B,f_,jt,fe] at q;have:=q b (rX.2 (xF.2 ⟨w,l⟩));rw[C] at this;unfold Gd at this;rw[j] at this;simp[A] at this
 rw[nQ] at g ⊢;by_cases n:a=v
 . subst n
   by_cases f:b=a
   .rw[f] at i;exact Z8 O (jB c.no_deg i).1
   rcases c.e_v m f with ⟨k,_⟩ | ⟨_,_,j,l⟩
   .exact k.1 g
   exact (new b m f h1 h2 j l).elim
 by_cases f:b=v
 . subst f
   rcases c.e_v o n with ⟨_,k⟩ | ⟨_,_,j,l⟩
   .exact k.1 g
   exact (new a o n h2 h1 j l).elim
 exact ((c.e_far o n f).1 g).2
end
/-! ### From the conditions -/
def aoD{v:H}(hc:fO Z us=0)(m:rV us u v=Z)(t:wR us u v=Z):∃c1 c2,eV us u v c1 c2:=by
 obtain⟨dg,nd,pin⟩:=wP.1 hc;unfold rV at m;obtain⟨B,c⟩:=pv.1 m;have c:Bt (bB us) u=X3:=by simpa using c
 obtain⟨o,f⟩:=xF.1 B;have int:∀x,(∃y,Nx us u x y)↔∃y,Nx us x u y:=λx=>by
  rw[<-nQ,<-nQ];have k:∀e∈bB us,e.1≠u/\e.2≠u:=λe f=>by
   unfold Bt at c;rw[gi] at c;have:=c e f;simpa using this
  constructor
  . intro h
    exact Decidable.byContradiction λg=>(k (u,x) (Dn.2 ⟨h,g⟩)).1 O
  intro h
  exact Decidable.byContradiction λg=>(k (x,u) (Dn.2 ⟨h,g⟩)).2 O
 have d:(∃y,Nx us u v y)/\∃y,Nx us v u y:=by
  rcases Kq f (Ne.symm o) with h | h
  .exact⟨h,(int v).1 h⟩
  exact⟨(int v).2 h,h⟩
 obtain⟨⟨c1,h1⟩,c2,h2⟩:=d;have fn:∀{a b x y},Nx us a b x->Nx us a b y->x=y:=λh k=>vL nd h k;have C:((nbL us u).filter (Gd us v)).Nodup:=by
  unfold nbL;refine ((oz (λ{a b} h e=>?_) (wA us)).sublist ie).sublist ie;exact H.lt_irrefl b (e▸h)
 have mem:∀{b},b∈(nbL us u).filter (Gd us v)↔(b≠u/\kU us u b=Z)/\b≠v/\kU us v b=Z:=λ{b}=>by
  rw[ct,rX,xF,xF]
 have p:((nbL us u).filter (Gd us v)).length=2:=Y3 t;have m1:c1∈(nbL us u).filter (Gd us v):=mem.2 ⟨⟨(jB dg h1).2.2,oO h1⟩,Ne.symm (jB dg h1).2.1,gE (oA h1)⟩;have m2:c2∈(nbL us u).filter (Gd us v):=mem.2 ⟨⟨Ne.symm (jB dg h2).2.1,gE (oA h2)⟩,(jB dg h2).2.2,oO h2⟩;have n:c1≠c2:=λe=>by
  subst e;have k:Nx us u c1 v:=oA h2;have A:Cyc (Nx us u) v:=⟨c1,h1,.one k⟩
  have D:∀b,rU (Nx us u) v b->b=v\/b=c1:=λb r=>by
   induction r with
   | refl=>exact .inl rfl
   | tail _ s ih =>
    rcases ih with rfl | rfl
    .exact .inr (fn s h1)
    exact .inl (fn s k)
  have all:∀b∈(nbL us u).filter (Gd us v),b∈[c1]:=λb q=>by
   obtain⟨⟨i,j⟩,l,_⟩:=mem.1 q;have d:∃y,Nx us u b y:=by
    rcases Kq j (Ne.symm i) with h | h
    .exact h
    exact (int b).2 h
   obtain⟨y,w⟩:=d;rcases D b (pin u v A b y w) with e | e
   .exact Z8 e l
   rw[e];exact jg _
  have:=oY C all;rw[p] at this;simp at this
 refine⟨c1,c2,dg,nd,pin,Ne.symm o,int,h1,h2,n,λb i j l z=>?_⟩;have:=full (S:=[c1,c2]) (E:=(nbL us u).filter (Gd us v)) (by simp[n]) (λx hx=>by
  rcases ap.1 hx with rfl | hx
  .exact m1
  rw[a_.1 hx];exact m2) (by rw[p];exact ar _) b (mem.2 ⟨⟨j,l⟩,i,z⟩)
 simpa using this
/-! ### Edges,each once -/
def aoE(ps:List E3)(e:E3):List E3:=if jO ps e=0/\jO ps (e.2,e.1)=0 then ps++[e] else ps
def Ee(es:List E3):List E3:=es.foldl aoE []
def ali(ts:List T3):Int:=((aQ ts).length:Int)-(Ee (aX ts)).length+ts.length
def xK(e:E3):E3:=(e.2,e.1)
def Kt(e:E3):xK (xK e)=e:=rfl
def uV{es:List E3}{e:E3}:jO es e=0↔e∉es:=by
 have:=oK (es:=es) (e:=e);constructor
 .intro h k;have:=this.2 k;omega
 intro h;exact Nat.eq_zero_of_not_pos λk=>h (this.1 k)
def Pp(es:List E3):List E3:=es.filter λe=>!decide (xK e∈es)
def xL{α:Type}[DecidableEq α]{x:α}:∀{l:List α},l.Nodup->x∈l->(l.filter λy=>!decide (y=x)).length+1=l.length
 | [],_,h=>by cases h
 | y::l,a,h=>by
  obtain⟨h1,h2⟩:=g_.1 a;rw[fk];by_cases e:y=x
  . subst e
    have:(l.filter λz=>!decide (z=y))=l:=List.filter_eq_self.2 λz c=>by
     have:z≠y:=λe=>h1 (e▸c);simp[this]
    simp[this]
  have b:x∈l:=(ap.1 h).resolve_left λk=>e k.symm
  have ih:=xL h2 b;simp[e];omega
def acF(es:List E3)(e:E3):Ee (es++[e])=aoE (Ee es) e:=by
 unfold Ee;rw[List.foldl_append];rfl
def acG{P:List α->Prop}(h0:P [])(h1:∀l a,P l->P (l++[a]))(l:List α):P l:=by
 have:∀n (l:List α),l.length=n->P l:=by
  intro n
  induction n with
  | zero=>intro l hl;rw[List.length_eq_zero_iff.1 hl];exact h0
  | succ n ih =>
   intro l hl;have hne:l≠[]:=λe=>by rw[e] at hl;cases hl
   rw[<-List.dropLast_concat_getLast hne];exact h1 _ _ (ih _ (by rw[List.length_dropLast,hl];rfl))
 exact this _ l O
theorem aoF:∀(es:List E3) (e:E3),(e∈Ee es\/xK e∈Ee es)↔(e∈es\/xK e∈es):=by
 intro es
 induction es using acG with
 | h0=>intro e;exact Iff.rfl
 | h1 es a ih =>
  intro e;rw[acF];unfold aoE;have d:=ih a;split
  . have:=ih e
    simp only[bh,a_]
    grind
  rename_i b
  rw[uV,uV] at b;have b:a∈Ee es\/xK a∈Ee es:=by
   by_cases k:a∈Ee es
   .exact .inl k
   exact .inr (Decidable.byContradiction λf=>b ⟨k,f⟩)
  have c:=d.1 b;rw[ih e];simp only[bh,a_];constructor
  . rintro (h | h)
    .exact .inl (.inl h)
    exact .inr (.inl h)
  rintro ((h | rfl) | (h | h))
  .exact .inl h
  .exact c
  .exact .inr h
  have:e=xK a:=by rw[<-Kt e,h]
  rw[this,Kt];exact c.symm
def aoG:∀es:List E3,es.Nodup->(∀e∈es,e.1≠e.2)->2*(Ee es).length=es.length+(Pp es).length:=by
 intro es
 induction es using acG with
 | h0=>intro _ _;rfl
 | h1 es a ih =>
  intro f c;obtain⟨n1,n2⟩:=rL.1 f;have ih:=ih n1 λe b=>c e (List.mem_append_left _ b);have g:=c a (List.mem_append_right _ (jg _));have j:xK a≠a:=λe=>g (C qu e).symm;have i:(Pp (es++[a]))=(es.filter λe=>!decide (xK e∈es) && !decide (e=xK a))++if xK a∈es then [] else [a]:=by
   unfold Pp;rw[gp]
   congr 1
   . refine pd λe b=>?_
     rw[<-Bool.not_or]
     congr 1
     rw[<-Bool.decide_or];refine decide_eq_decide.2 ?_;rw[bh,a_];exact or_congr Iff.rfl ⟨λh=>by rw[<-h,Kt],λh=>by rw[h,Kt]⟩
   rw[fk,mx]
   by_cases k:xK a∈es
   .simp[k]
   simp[k,j]
  rw[i,acF];unfold aoE;have d:=aoF es a;by_cases k:xK a∈es
  . have hp:¬(jO (Ee es) a=0/\jO (Ee es) (a.2,a.1)=0):=λh=>by
     rw[uV,uV] at h;exact (d.2 (.inr k)).elim h.1 h.2
    rw[X hp,J k,fb,aq];have h1:(es.filter λe=>!decide (xK e∈es) && !decide (e=xK a))=(Pp es).filter λe=>!decide (e=xK a):=by
     unfold Pp;rw[List.filter_filter];exact pd λe _=>Bool.and_comm _ _
    have h2:xK a∈Pp es:=by
     unfold Pp;refine ct.2 ⟨k,?_⟩;rw[Kt];simp[n2]
    have l:=xL (n1.sublist (l₁:=Pp es) ie) h2;rw[h1];simp only[ic];omega
  have hp:jO (Ee es) a=0/\jO (Ee es) (a.2,a.1)=0:=by
   rw[uV,uV];have:¬(a∈Ee es\/xK a∈Ee es):=λh=>(d.1 h).elim n2 k;exact⟨λh=>this (.inl h),λh=>this (.inr h)⟩
  rw[J hp,X k,aq,aq,aq];have h1:(es.filter λe=>!decide (xK e∈es) && !decide (e=xK a))=Pp es:=by
   unfold Pp;refine pd λe b=>?_;have:e≠xK a:=λh=>k (h▸b);simp[this]
  rw[h1];simp only[ic];omega
def Nk[DecidableEq α]{l m:List α}(h1:l.Nodup)(h2:m.Nodup)(h:∀x,x∈l↔x∈m):l.length=m.length :=
 Nat.le_antisymm (oY h1 λx a=>(h x).1 a) (oY h2 λx a=>(h x).2 a)
def acH(nd:(aX ts).Nodup):(Pp (aX ts)).length=(bB ts).length:=by
 refine Nk (nd.sublist ie) (rT ts).nodup λe=>?_;rw[Dn];unfold Pp Dl;rw[ct,fp,Y1];rfl
def afc(dg:Br ts):∀e∈aX ts,e.1≠e.2:=λe c=>by
 obtain⟨a,b⟩:=e;obtain⟨y,h⟩:=nQ.1 c;exact (jB dg h).1
def agw(dg:Br ts)(nd:(aX ts).Nodup):2*(Ee (aX ts)).length=3*ts.length+(bB ts).length:=by
 rw[aoG _ nd (afc dg),acH nd,pG];omega
/-! ### Triangles -/
def Gw(u v:H)(t:T3):Bool:=t.has u&&t.has v
theorem acI{u v:H}(g:u≠v):∀ts:List T3,Br ts->(ts.filter (Gw u v)).length=jO (aX ts) (u,v)+jO (aX ts) (v,u)
 | [],_=>rfl
 | t::ts,dg=>by
  have ih:=acI g ts λs hs=>dg s (bp _ hs);obtain⟨i,j,l⟩:=aqO (dg t (br ..));have e:aX (t::ts)=(t.a,t.b)::(t.b,t.c)::(t.c,t.a)::aX ts:=rfl;rw[e,nN,nN,nN,nN,nN,nN,fk];simp only[gl];have h:Gw u v t=Z↔(t.a=u/\t.b=v)\/(t.b=u/\t.c=v)\/(t.c=u/\t.a=v)\/(t.a=v/\t.b=u)\/(t.b=v/\t.c=u)\/(t.c=v/\t.a=u):=by
   unfold Gw;rw[bg,eF,eF]
   grind
  by_cases d:Gw u v t=Z
  . rw[J d,ay,ih]
    have f:=h.1 d
    grind
  rw[X d,ih]
  have f:=λk=>d (h.2 k)
  grind
section
variable {us:List T3} {u v c1 c2:H}
def eV.faces(c:eV us u v c1 c2):(eD us u v).length+2=us.length:=by
 unfold eD;rw[jR];have h1:(lW u v us).length=(us.filter λt=>(gX u v t).nd).length:=by rw[Ue,cj]
 have h2:(us.filter λt=>(gX u v t).nd)=us.filter λt=>!Gw u v t:=pd λt d=>by
  have:=ajK (u:=u) (v:=v) c.ne (nd_of (c.dg t d));unfold Gw;cases b:(gX u v t).nd <;> cases e:t.has u <;> cases f:t.has v <;> simp[b,e,f] at this ⊢
 have g:(us.filter (Gw u v)).length=2:=by
  rw[acI c.ne us c.dg];have h:=Ey.1 c.nd (u,v);have i:=Ey.1 c.nd (v,u);have j:=oK.2 (An c.h1);have k:=oK.2 (An c.h2);omega
 have a:∀l:List T3,(l.filter (Gw u v)).length+(l.filter λt=>!Gw u v t).length=l.length:=λl=>by
  induction l with
  | nil=>rfl
  | cons t l ih =>
   rw[fk,fk];cases Gw u v t <;> simp <;> omega
 have:=a us;rw[h1,h2];omega
def eV.cors(c:eV us u v c1 c2)(x:H):x∈cF (eD us u v)↔x∈cF us/\x≠u:=by
 constructor
 . intro h
   obtain⟨a,b,h⟩:=oT.1 h;refine⟨?_,(c.nu h).1⟩;obtain⟨⟨d,g,i,h,hp,_,_⟩,_⟩:=Ht.1 h;by_cases e:d=u
   .rw[e,kB] at hp;rw[<-hp];exact oT.2 ⟨_,_,c.h2⟩
   rw[fV e] at hp;rw[<-hp];exact oT.2 ⟨_,_,h⟩
 rintro⟨h,f⟩
 have:=c.img h;rwa [fV f] at this
def mF(ts:List T3):(aQ ts).Nodup:=by
 have h:=wA ts;unfold tD at h;refine oz (S:=λa b:H=>a≠b) (λ{a b} k e=>?_) h;rw[e] at k;exact H.lt_irrefl b k
def eV.ncors(c:eV us u v c1 c2):(aQ (eD us u v)).length+1=(aQ us).length:=by
 have a:u∈aQ us:=gU.2 (oT.2 ⟨_,_,c.h1⟩);rw[<-xL (mF us) a]
 congr 1
 refine Nk (mF _) ((mF us).sublist ie) λx=>?_;rw[ct,gU,gU,c.cors];simp
def eV.euler(c:eV us u v c1 c2):ali (eD us u v)=ali us:=by
 have h1:=agw c.dg c.nd;have h2:=agw c.no_deg c.nodup;have b:=c.faces;have d:=c.ncors;have a:bB (eD us u v)=bB us:=Do c.bord;rw[a] at h2;unfold ali;omega
end
/-! ### All along -/
def jA(D:List Mv)(x:H):H:=(cG D x).getD x
structure Wp(l0 l:List T3)(D:List Mv):Prop where
 ck:fO Z l=0
 acc:Kr l l0 (jA D)
 nk:(D.map (·.1)).Nodup
 gone:∀m∈D,m.1∉cF l/\m.2∈cF l/\m.1∈cF l0
 num:(aQ l).length+D.length=(aQ l0).length
 eul:ali l=ali l0
 le:l.length<=l0.length
def Wp.zero(h:fO Z l=0):Wp l l []:=by
 obtain⟨h1,h2,a⟩:=wP.1 h;exact⟨h,Kr.refl h1 h2 a,kh,λm h=>(by cases h),rfl,rfl,ar _⟩
def aa8(x:H):cG (D.map λe=>(e.1,f e.2)) x=(cG D x).map f:=by
 induction D with
 | nil=>rfl
 | cons m D ih =>
  rw[bi];unfold cG;simp only;split
  .rfl
  exact ih
def Uf{v:H}(h:u∉D.map (·.1)):(Ln D u v).map (·.1)=D.map (·.1)++[u]:=by
 unfold Ln;have e:(D.map λe=>(e.1,gK u v e.2)).map (·.1)=D.map (·.1):=by
  rw[ln];rfl
 rw[uQ,e,X h]
def aoH{v:H}(g:(D.map (·.1)).Nodup)(h:u∉D.map (·.1))(f:m∈Ln D u v):m=(u,v)\/∃e∈D,m=(e.1,gK u v e.2):=by
 have d:((Ln D u v).map (·.1)).Nodup:=by
  rw[Uf h];exact rL.2 ⟨g,h⟩
 have a:cG (Ln D u v) m.1=X4 m.2:=pH d f;unfold Ln at a;rw[jP,aa8] at a;split at a
 . rename_i e
   cases a;left;rw[e]
 obtain⟨b,c,i⟩:=Option.map_eq_some_iff.1 a
 exact .inr ⟨(m.1,b),sH c,by rw[i]⟩
def Wp.step{v:H}(r:Wp l0 l D)(h:cH l u v=Z):Wp l0 (eD l u v) (Ln D u v):=by
 unfold cH at h;simp only[bg] at h;obtain⟨⟨⟨⟨⟨n,o⟩,_⟩,k⟩,_⟩,_⟩:=h;obtain⟨c1,c2,c⟩:=aoD r.ck n o;have d:u∈cF l:=oT.2 ⟨_,_,c.h1⟩;have p:v∈cF l:=oT.2 ⟨_,_,c.h2⟩;have a:u∉D.map (·.1):=λb=>by
  obtain⟨m,q,rfl⟩:=dj.1 b;exact (r.gone m q).1 d
 have s:v∈cF (eD l u v):=(c.cors v).2 ⟨p,Ne.symm c.ne⟩;refine⟨c.check,((c.acc k).trans r.acc).congr λx t=>?_,?_,λm b=>?_,?_,c.euler.trans r.eul,?_⟩
 . unfold jA Ln
   rw[jP,aa8];split
   . rename_i e
     subst e;rw[kZ.2 a];exact kB
   rename_i e
   cases cG D x with
   | none=>exact fV (Ne.symm e)
   | some y=>rfl
 . rw[Uf a]
   exact rL.2 ⟨r.nk,a⟩
 . rcases aoH r.nk a b with rfl | ⟨e,j,rfl⟩
   .exact⟨λh=>((c.cors u).1 h).2 O,s,r.acc.sub u d⟩
   obtain⟨f,g,i⟩:=r.gone e j
   exact⟨λh=>f ((c.cors _).1 h).1,c.img g,i⟩
 . have h1:=C List.length (Uf (v:=v) a)
   rw[cj,aq,cj,ic] at h1;have:=c.ncors;have:=r.num;omega
 have:=c.faces
 have:=r.le;omega
/-! ### The ends of fans -/
/-! ### Accepted -/
def Ze   : t∈aV l↔∃s∈l,dB s=t:=by
 rw[(mZ l).mem_iff,dj]
/-! ### The moves in order -/
def Nl(p:H):∀l:List H,(ahw p l).Perm (p::l)
 | []=>.refl _
 | q::l=>by
  rw[ahw];split
  .exact ((Nl p l).cons q).trans (.swap ..)
  exact .refl _
def lT:∀l:List H,(Bu l).Perm l
 | []=>.refl _
 | p::l=>(Nl p _).trans ((lT l).cons p)
def Oy{p:H}:∀{l:List H},l.Pairwise H.Lt->p∉l->(ahw p l).Pairwise H.Lt
 | [],_,_=>kz _ _
 | q::l,h,a=>by
  rw[ahw];obtain⟨h1,h2⟩:=bv.1 h;split
  . rename_i k
    refine bv.2 ⟨λx hx=>?_,Oy h2 λk=>a (bp _ k)⟩;rcases ap.1 ((Nl p l).subset hx) with rfl | hx
    .exact k
    exact h1 x hx
  rename_i k
  have hq:p.Lt q:=by
   rcases lt_tri q p with e | e | e
   .exact Z8 e k
   .exact Z8 (e▸br ..) a
   exact e
  refine bv.2 ⟨λx hx=>?_,h⟩;rcases ap.1 hx with rfl | hx
  .exact hq
  exact H.lt_trans hq (h1 x hx)
def qX:∀{l:List H},l.Nodup->(Bu l).Pairwise H.Lt
 | [],_=>la
 | p::l,h=>by
  obtain⟨h1,h2⟩:=g_.1 h;exact Oy (qX h2) λk=>h1 ((lT l).mem_iff.1 k)
def Ug(D:List Mv):(kQ D).map (·.1)=Bu (D.map (·.1)):=by
 unfold kQ;rw[ln];exact List.map_id _
def ahZ(b:m∈kQ D):m∈D:=by
 obtain⟨x,a,rfl⟩:=dj.1 b;have a:=(lT _).mem_iff.1 a;cases h:cG D x with
 | none=>exact Z8 a (kZ.1 h)
 | some y=>exact sH h
def yM(D:List Mv):(kQ D).length=D.length:=by
 have:=C List.length (Ug D);rw[cj,(lT _).length_eq,cj] at this;exact this
/-! ### Boxes -/
def aoI(t:T3)(k:Nat):Fb (dB t) k=Fb t k:=by
 rcases jQ t with h | h | h <;> rw[h] <;> unfold Fb <;> simp only <;> omega
def aoJ(t:T3)(k:Nat):Fc (dB t) k=Fc t k:=by
 rcases jQ t with h | h | h <;> rw[h] <;> unfold Fc <;> simp only <;> omega
def alj(s t:T3):oN (dB s) (dB t)=oN s t:=by
 unfold oN acj;simp only[aoI,aoJ]
def Zf(s t:T3):oN s t=oN t s:=by
 unfold oN acj;simp only[Bool.or_comm]
def alk(s t:T3):mP (dB s) (dB t)=mP s t:=by
 have h1:∀s t:T3,mP (dB s) t=mP s t:=λs t=>by
  rcases jQ s with h | h | h
  .rw[h]
  .rw[h];exact Me s t
  rw[h];exact (Me (sL s) t).trans (Me s t)
 have h2:∀s t:T3,mP s (dB t)=mP s t:=λs t=>by
  rcases jQ t with h | h | h
  .rw[h]
  .rw[h];exact Hm s t
  rw[h];exact (Hm s (sL t)).trans (Hm s t)
 rw[h1,h2]
def Bf(s t:T3):Bool:=oN s t&&mP s t
def yN(s t:T3):Bf (dB s) (dB t)=Bf s t:=by unfold Bf;rw[alj,alk]
def ah0(hs:s.nd=Z)(a:t.nd=Z):Bf s t=Bf t s:=by unfold Bf;rw[Zf,ahu hs a]
def Ku(t s:T3):tO t s=Bf s t:=by unfold tO Bf;rw[Zf]
def Bg(t:T3)(l:List T3):Bool:=l.any λs=>!decide (dB s=dB t)&&Bf (dB s) (dB t)
def acJ   : Bg t l=X3↔∀s∈l,dB s≠dB t->Bf s t=X3:=by
 unfold Bg;rw[gi];constructor
 . intro h s hs a
   have:=h s hs;rw[yN] at this;simpa[a] using this
 intro h s hs
 rw[yN];by_cases e:dB s=dB t
 .simp[e]
 simp[h s hs e]
def agx(h:t.nd=Z):dB (dB t)=dB t:=Si (jQ t) h
/-! ### What clear says -/
def ah1{v:H}:Hn l u v=Z↔(∀t∈iS u v l,∀s∈mT u v l,Bf s t=X3)/\(iS u v l).Pairwise λs t=>Bf s t=X3:=by
 unfold Hn;rw[fe];have key:∀{i:Nat} {t:T3},(iS u v l)[i]? = X4 t->(t,i)∈(iS u v l).zipIdx:=λ{i t} h=>iz.2 h;constructor
 . intro h
   refine⟨λt c s hs=>?_,ix.2 λi j a b e=>?_⟩
   . obtain⟨i,a⟩:=df.1 c
     have:=h _ (key a);simp only[bg,fp,gi] at this;have:=this.1 s hs;rw[Ku] at this;simpa using this
   have:=h _ (key (am b))
   simp only[bg,fp,gi] at this;have:=this.2 ((iS u v l)[i]) (bf (i:=i) (by rw[og e];exact am a));rw[Ku] at this;simpa using this
 rintro⟨h1,h2⟩ ⟨t,i⟩ d
 have a:=iz.1 d;simp only at a;simp only[bg,fp,gi];refine⟨λs hs=>?_,λs hs=>?_⟩
 .rw[Ku,h1 t (bf a) s hs];exact fg
 obtain⟨j,b⟩:=df.1 hs
 rw[d_] at b;split at b
 . rename_i g
   obtain⟨f,rfl⟩:=ao.1 a;obtain⟨k,rfl⟩:=ao.1 b;rw[Ku,ix.1 h2 j i k f g];exact fg
 cases b
def acK{α:Type}{R:α->α->Prop}(d:∀a b,R a b->R b a):∀{l:List α},l.Pairwise R->∀a∈l,∀b∈l,a≠b->R a b
 | [],_,a,h,_,_,_=>by cases h
 | x::l,h,a,ha,b,hb,f=>by
  obtain⟨h1,h2⟩:=bv.1 h;rcases ap.1 ha with e | ha
  . rcases ap.1 hb with c | hb
    .exact Z8 (e.trans c.symm) f
    rw[e];exact h1 b hb
  rcases ap.1 hb with c | hb
  .rw[c];exact d _ _ (h1 a ha)
  exact acK d h2 a ha b hb f
def Qi{v:H}:∀t∈iS u v l,t.nd=Z:=λt a=>by
 obtain⟨s,hs,rfl⟩:=dj.1 a;have:=(ct.1 hs).2;exact (pv.1 this).2
def asI{v:H}(h:t∈mT u v l):t∈l:=(ct.1 h).1
def acL{v:H}(a:∀t∈l,t.nd=Z){x:T3}:x∈eD l u v↔∃s,(s∈iS u v l\/s∈mT u v l)/\dB s=x:=by
 unfold eD;rw[Ze];refine Y5 λs=>and_congr_left λ_=>?_;rw[<-(Ho (u:=u) (v:=v) l a).mem_iff,bh]
def Kv(p:H)(o:List H)(q:H):List H:=if q≠p/\q∉o then o++[q] else o
def Kx(p:H)(o:List H)(t:T3):List H:=if t.has p then Kv p (Kv p (Kv p o t.a) t.b) t.c else o
def fS(l:List T3)(p:H):List H:=l.foldl (Kx p) []
def rP(l:List T3):Bool:=l.zipIdx.any λx=>(l.take x.2).any λs=>s.has x.1.a&&s.has x.1.b&&s.has x.1.c
def Pq(l:List T3)(u v:H):Bool:=Bt (bB l) v&&(fS l u).any λq=>decide (q≠v)&&Bt (bB l) q && !decide (q∈fS l v)
def acM(l r:List T3)(u v:H):Bool:=(l.all λt=>!(t.has u && !t.has v)||(!fK (gX u v t)&&decide (Vz t (gX u v t)=1)))&&l.all λt=>!(t.has u && !t.has v) || !Bg (gX u v t) r
def yO(l:List T3)(u v:H):Bool :=
 decide (v∈fS l u) && !Bt (bB l) u&&decide (((fS l u).filter λq=>decide (q∈fS l v)).length=2) && !rP (eD l u v) && !Pq l u v&&acM l (eD l u v) u v
def Uh{p:H}{o:List H}:x∈Kv p o q↔x∈o\/(x=q/\x≠p):=by
 unfold Kv;split
 . rename_i h
   rw[bh,a_];exact or_congr Iff.rfl ⟨λe=>⟨e,e▸h.1⟩,λe=>e.1⟩
 rename_i h
 refine⟨.inl,λk=>k.elim id λ⟨e,hp⟩=>?_⟩;exact Decidable.byContradiction λa=>h ⟨e▸hp,e▸a⟩
def Hu{p:H}{o:List H}(h:o.Nodup):(Kv p o q).Nodup:=by
 unfold Kv;split
 .rename_i k;exact rL.2 ⟨h,k.2⟩
 exact h
theorem alm{p:H}{o:List H}:x∈Kx p o t↔x∈o\/(t.has p=Z/\t.has x=Z/\x≠p):=by
 unfold Kx;split
 . rename_i h
   rw[Uh,Uh,Uh,eF (p:=x)];simp only[h,X2]
   grind
 rename_i h
 exact⟨.inl,λk=>k.elim id λe=>Z8 e.1 h⟩
theorem qY{p:H}:x∈fS l p↔Gd l p x=Z:=by
 have key:∀(l:List T3) (o:List H),x∈l.foldl (Kx p) o↔x∈o\/(x≠p/\kU l p x=Z):=by
  intro l
  induction l with
  | nil=>intro o;simp[kU]
  | cons t l ih =>
   intro o;rw[List.foldl_cons,ih,alm];have e:kU (t::l) p x=((t.has p&&t.has x)||kU l p x):=rfl;rw[e,fh,bg]
   grind
 unfold fS;rw[key,xF];simp
def Zg(l:List T3)(p:H):(fS l p).Nodup:=by
 have key:∀(l:List T3) (o:List H),o.Nodup->(l.foldl (Kx p) o).Nodup:=by
  intro l
  induction l with
  | nil=>exact λo h=>h
  | cons t l ih =>
   intro o h;refine ih _ ?_;unfold Kx;split
   .exact Hu (Hu (Hu h))
   exact h
 exact key l [] kh
/-! ### The corners of a triangle,in order -/
def Ky{p:H}:p∈qL t↔t.has p=Z:=by
 unfold qL;rw[(lT _).mem_iff,eF];simp
def agy(hs:s.nd=Z)(a:t.nd=Z):qL s=qL t↔∀p,s.has p=Z↔t.has p=Z:=by
 constructor
 . intro h p
   rw[<-Ky,<-Ky,h]
 intro h
 exact vI H.lt_irrefl (λ_ _ _=>H.lt_trans) (qX (yB hs)) (qX (yB a)) λp=>by rw[Ky,Ky];exact h p
def Ui(h:t.nd=Z):qL (dB t)=qL t:=(agy (by rw[ajL];exact h) h).2 λp=>by rw[ajt (jQ t)]
def acN(hs:s.nd=Z)(d:t.nd=Z):(s.has t.a&&s.has t.b&&s.has t.c)=Z↔qL s=qL t:=by
 rw[agy hs d,bg,bg];constructor
 . rintro⟨⟨h1,h2⟩,g⟩ p
   have f:∀x∈[t.a,t.b,t.c],x∈[s.a,s.b,s.c]:=λx e=>by
    simp only[ap,cd,Z9] at e ⊢;rcases e with rfl | rfl | rfl
    .exact eF.1 h1
    .exact eF.1 h2
    exact eF.1 g
   have i:=full (yB d) f (ar _);constructor
   . intro h
     have:=i p (by simpa using eF.1 h);exact eF.2 (by simpa using this)
   intro h
   have:=f p (by simpa using eF.1 h);exact eF.2 (by simpa using this)
 intro h
 exact⟨⟨(h _).2 (eF.2 (.inl O)),(h _).2 (eF.2 (.inr (.inl O)))⟩,(h _).2 (eF.2 (.inr (.inr O)))⟩
def aln{r:List T3}(c:∀t∈r,t.nd=Z):rP r=X3↔(r.map qL).Nodup:=by
 unfold rP;rw[gi,rc,jf,ix];constructor
 . intro h i j a b f e
   have d:(r[j],j)∈r.zipIdx:=iz.2 (am b);have:=h _ d;rw[pi,gi] at this;have:=this r[i] (bf (i:=i) (by rw[og f];exact am a));exact this ((acN (c _ (gj a)) (c _ (gj b))).2 e)
 rintro h ⟨t,j⟩ d
 have b:=iz.1 d;simp only at b;obtain⟨l,rfl⟩:=ao.1 b;rw[pi,gi];intro s hs k;obtain⟨i,a⟩:=df.1 hs;rw[d_] at a;split at a
 . rename_i f
   obtain⟨g,rfl⟩:=ao.1 a;exact h i j g l f ((acN (c _ (gj g)) (c _ (gj l))).1 k)
 cases a
def aa9{v:H}(a:∀t∈l,t.nd=Z):rW l u v=Z↔rP (eD l u v)=X3:=by
 rw[aln (aes l u v)];unfold rW eD;rw[R,((Ho (u:=u) (v:=v) l a).map qL).nodup_iff,((mZ (lW u v l)).map qL).nodup_iff,ln];have e:(lW u v l).map (qL∘dB)=(lW u v l).map qL:=io λt b=>Ui (aaz l t b);rw[e]
/-! ### The same conditions -/
def Qj{v:H}(a:u≠v)(b:∀t∈l,t.nd=Z)  : t∈lB u v l↔t∈l/\(t.has u && !t.has v)=Z:=by
 unfold lB;rw[ct];refine and_congr_right λd=>?_;have h1:=ajJ (u:=u) (v:=v) (t:=t) a;have h2:=ajK (u:=u) (v:=v) a (b t d);by_cases e:gX u v t=t
 . have:=h1.1 e
   simp[e,this]
 have f:t.has u=Z:=by
  cases h:t.has u with
  | true=>rfl
  | false=>exact Z8 (h1.2 h) e
 cases c:(gX u v t).nd <;> cases g:t.has v <;> simp[c,f,g,e] at h2 ⊢
def acO{v:H}(A:u≠v)(o:∀t∈l,t.nd=Z)(hs:rW l u v=Z):Hn l u v=Z↔∀t∈lB u v l,Bg (gX u v t) (eD l u v)=X3:=by
 have d:((iS u v l++mT u v l).map qL).Nodup:=Y3 hs;rw[de] at d;obtain⟨q,_,y⟩:=fu.1 d;have nd:∀z,z∈iS u v l\/z∈mT u v l->z.nd=Z:=λz x=>x.elim (Qi z) λh=>o z (asI h);have apart:∀{s m:T3},s.nd=Z->m.nd=Z->qL s≠qL m->dB s≠dB m:=λh1 h2 d e=>d (by rw[<-Ui h1,<-Ui h2,e]);rw[ah1];constructor
 . rintro⟨h1,h2⟩ t f
   have i:gX u v t∈iS u v l:=fl f;refine acJ.2 λs hs r=>?_;obtain⟨c,hs',rfl⟩:=(acL o).1 hs;have g:=agx (nd c hs');rw[g] at r;have w:Bf (dB c) (gX u v t)=Bf c (gX u v t):=by rw[<-yN (dB c),g,yN]
   rw[w];rcases hs' with hs' | hs'
   . by_cases e:c=gX u v t
     .exact Z8 (by rw[e]) r
     have k:(iS u v l).Pairwise λs t=>Bf s t=X3/\s.nd=Z/\t.nd=Z:=h2.imp_of_mem λ{a b} j n h=>⟨h,Qi a j,Qi b n⟩
     exact (acK (λa b ⟨h,n1,n2⟩=>⟨by rw[ah0 n2 n1];exact h,n2,n1⟩) k c hs' _ i e).1
   exact h1 _ i c hs'
 intro h
 have p:∀m∈iS u v l,∀s,(s∈iS u v l\/s∈mT u v l)->qL s≠qL m->Bf s m=X3:=λm i s hs d=>by
  obtain⟨t,f,rfl⟩:=dj.1 i;have g:=agx (nd s hs);have:=acJ.1 (h t f) (dB s) ((acL o).2 ⟨s,hs,rfl⟩) (by rw[g];exact apart (nd s hs) (Qi _ i) d);rw[<-yN (dB s),g,yN] at this;exact this
 refine⟨λt f s hs=>?_,?_⟩
 .exact p t f s (.inr hs) λe=>y _ (fl f) _ (fl hs) e.symm
 rw[jf] at q
 exact q.imp_of_mem λ{a b} j n k=>p b n a (.inl j) k
def aba{v:H}(hc:fO Z l=0)(f:u≠v):yO l u v=cH l u v:=by
 obtain⟨dg,_,_⟩:=wP.1 hc;have e:∀t∈l,t.nd=Z:=λt c=>nd_of (dg t c);have i:decide (v∈fS l u)=Gd l u v:=by
  cases h:Gd l u v with
  | true=>exact Y0 (qY.2 h)
  | false=>exact Y λk=>by rw[qY.1 k] at h;cases h
 have j:decide (((fS l u).filter λq=>decide (q∈fS l v)).length=2)=wR l u v:=by
  unfold wR
  congr 2
  refine Nk ((Zg l u).sublist ie) ?_ λx=>?_
  . unfold nbL
    exact ((mF l).sublist ie).sublist ie
  rw[ct,ct,qY,rX,R,qY]
 have m:(!rP (eD l u v))=rW l u v:=by
  have:=aa9 (u:=u) (v:=v) e;cases h:rP (eD l u v) <;> cases k:rW l u v <;> simp[h,k] at this ⊢
 have n:(!Pq l u v)=Aq l u v:=by
  unfold Pq Aq;rw[Bool.not_and]
  congr 1
  rw[fy,fp,gi,fe];refine⟨λh x g=>?_,λh x g=>?_⟩
  . have:=h x (qY.2 (rX.1 g))
    have k:=qY (l:=l) (p:=v) (x:=x);by_cases a:x=v <;> cases b:Bt (bB l) x <;> cases d:Gd l v x <;> simp[a,b,d,k] at this ⊢
  have:=h x (rX.2 (qY.1 g))
  have k:=qY (l:=l) (p:=v) (x:=x);by_cases a:x=v <;> cases b:Bt (bB l) x <;> cases d:Gd l v x <;> simp[a,b,d,k] at this ⊢
 have o:(l.all λt=>!(t.has u && !t.has v)||(!fK (gX u v t)&&decide (Vz t (gX u v t)=1)))=vR l u v:=by
  unfold vR;rw[fy,fe,fe];refine⟨λh t c=>?_,λh t c=>?_⟩
  . obtain⟨h1,h2⟩:=(Qj f e).1 c
    have:=h t h1;rw[h2] at this;simpa using this
  cases k:(t.has u && !t.has v) with
  | false=>rfl
  | true=>exact h t ((Qj f e).2 ⟨c,k⟩)
 unfold yO cH rV acM;rw[i,j,m,n,o,<-Bool.and_assoc];cases hs:rW l u v with
 | false=>simp
 | true =>
  congr 1
  rw[fy,acO f e hs,fe];refine⟨λh t c=>?_,λh t c=>?_⟩
  . obtain⟨h1,h2⟩:=(Qj f e).1 c
    have:=h t h1;rw[h2] at this;simpa using this
  cases k:(t.has u && !t.has v) with
  | false=>rfl
  | true=>rw[h t ((Qj f e).2 ⟨c,k⟩)];rfl
def Uj{q:H->List Int}{c:fX}(g:∀d,d∈cs↔d∈Sv l q)(hs:cs.Pairwise λa b=>¬b.Lt a)(f:cs[k]? = X4 c)(m:cH l c.u c.v=Z)(n:∀j d,j<k->cs[j]? = X4 d->cH l d.u d.v=X3):tP l q=X4 c:=by
 refine anR (ct.2 ⟨(g c).1 (bf f),m⟩) λd o i=>?_;obtain⟨h1,h2⟩:=ct.1 o;obtain⟨j,e⟩:=df.1 ((g d).2 h1);rcases Nat.lt_trichotomy j k with h | h | h
 .rw[n j d h e] at h2;cases h2
 .rw[h,f] at e;cases e;exact fX.lt_irrefl _ i
 obtain⟨r,rfl⟩:=ao.1 f
 obtain⟨p,rfl⟩:=ao.1 e;exact ix.1 hs k j r p h i
def Uk{q:H->List Int}(c:∀d,d∈cs↔d∈Sv l q)(a:∀d∈cs,cH l d.u d.v=X3):tP l q=X5:=by
 refine Mf.2 (List.filter_eq_nil_iff.2 λd b=>?_);rw[a d ((c d).2 b)];exact fg
/-! ### The example: the octahedron -/
def oct(n:Int):List T3 :=
 let x0:H:=⟨-n,0,0⟩;let a:H:=⟨n,0,0⟩;let y0:H:=⟨0,-n,0⟩;let b:H:=⟨0,n,0⟩;let z0:H:=⟨0,0,-n⟩;let c:H:=⟨0,0,n⟩
 [⟨y0,x0,z0⟩,⟨a,y0,z0⟩,⟨x0,b,z0⟩,⟨b,a,z0⟩,⟨x0,y0,c⟩,⟨y0,a,c⟩,⟨b,x0,c⟩,⟨a,b,c⟩]
def Gg:List T3:=aV (oct 10)
def ah2:fO Z Gg=0:=by kernel_rfl
def aoK:cH Gg ⟨10,0,0⟩ ⟨0,10,0⟩=Z:=by kernel_rfl
def aoL:cH Gg ⟨10,0,0⟩ ⟨-10,0,0⟩=X3:=by kernel_rfl
def aoM:(eD Gg ⟨10,0,0⟩ ⟨0,10,0⟩).length=6:=by kernel_rfl
def acP:((lJ Gg 7).1.length,(lJ Gg 7).2)=(6,[(⟨-10,0,0⟩,⟨0,-10,0⟩)]):=by kernel_rfl
def alp{v:H}(a:u∉D.map (·.1))(x:H):jA (Ln D u v) x=gK u v (jA D x):=by
 unfold jA Ln;rw[jP,aa8];split
 . rename_i e
   subst e;rw[kZ.2 a];exact kB.symm
 rename_i e
 cases cG D x with
 | none=>exact (fV (Ne.symm e)).symm
 | some y=>rfl
def Wp.fresh(r:Wp l0 l D)(b:u∈cF l):u∉D.map (·.1):=λa=>by
 obtain⟨m,c,rfl⟩:=dj.1 a;exact (r.gone m c).1 b
def jW(ps:List H)(f:H->H):List Mv:=(ps.filter λp=>!decide (f p=p)).map λp=>(p,f p)
def Zh(r:Wp l0 l D):jW (aQ l0) (jA D)=kQ D:=by
 have key:∀{m:Mv},m∈D->jA D m.1=m.2:=λ{m} d=>by
  unfold jA;rw[pH r.nk (show (m.1,m.2)∈D from d)];rfl
 refine vI (R:=λa b:Mv=>a.1.Lt b.1) (λa=>H.lt_irrefl _) (λa b c=>H.lt_trans) ?_ ?_ λm=>?_
 . unfold jW
   rw[jf];have h:=wA l0;unfold tD at h;exact h.sublist ie
 . have h:=qX r.nk
   rw[<-Ug,jf] at h;exact h
 unfold jW
 rw[dj];constructor
 . rintro⟨p,hp,rfl⟩
   obtain⟨_,h2⟩:=ct.1 hp;have h2:jA D p≠p:=by simpa using h2
   cases f:cG D p with
   | none=>exact Z8 (by unfold jA;rw[f];rfl) h2
   | some y =>
    have d:=sH f;have:jA D p=y:=key d;rw[this];unfold kQ;exact dj.2 ⟨p,(lT _).mem_iff.2 (dj.2 ⟨_,d,O⟩),by rw[f];rfl⟩
 intro d
 have d:=ahZ d;obtain⟨i,j,k⟩:=r.gone m d;have g:=key d;refine⟨m.1,ct.2 ⟨gU.2 k,?_⟩,by rw[g]⟩;rw[g];have:m.2≠m.1:=λe=>i (e▸j);simpa using this
theorem afd(a b c d e f g h i j x y z:Int):ajO [a,b,c,d,e,f,g,h,i,j] x y z=(x*(a*x+(b*y+(c*z+d)))+y*(e*y+(f*z+g)))+(z*(h*z+i)+j):=by
 unfold ajO
 grind
/-! ### Candidates,each put where it belongs -/
def Ul(l:List fX):Prop:=l.Pairwise λa b=>¬b.Lt a
structure abb(cs:List fX)(x:fX)(pre post:List fX):Prop where
 s:Ul (pre++post)
 p:∀y∈post,x.Lt y
 m:∀d,d∈pre++x::post↔d∈cs\/d=x
 n:pre.length+post.length=cs.length
def abb.start{cs:List fX}{x:fX}(h:Ul cs):abb cs x cs [] where
 s:=by rw[fb];exact h
 p y hy:=by cases hy
 m d:=by rw[bh,a_]
 n:=rfl
def abb.step{cs pre post:List fX}{x y:fX}(h:abb cs x (pre++[y]) post)(hl:x.Lt y):abb cs x pre (y::post) where
 s:=by have:=h.s;rwa [cn] at this
 p z hz:=by
  rcases ap.1 hz with rfl | hz
  .exact hl
  exact h.p z hz
 m d:=by
  rw[<-h.m d];simp only[bh,ap,cd,Z9];constructor
  . rintro (k | k | k | k)
    .exact .inl (.inl k)
    .exact .inr (.inl k)
    .exact .inl (.inr k)
    exact .inr (.inr k)
  rintro ((k | k) | k | k)
  .exact .inl k
  .exact .inr (.inr (.inl k))
  .exact .inr (.inl k)
  exact .inr (.inr (.inr k))
 n:=by have:=h.n;rw[aq] at this;simp only[ay,bm] at this ⊢;omega
def aoN{x y:fX}(h:x.Lt y):¬y.Lt x:=λk=>fX.lt_irrefl _ (fX.lt_trans h k)
def abb.done{pre post:List fX}{x:fX}(h:abb cs x pre post)(d:∀q y,pre=q++[y]->¬x.Lt y):Ul (pre++x::post):=by
 obtain⟨h1,h2,f⟩:=fu.1 h.s;refine fu.2 ⟨h1,bv.2 ⟨λy c=>aoN (h.p y c),h2⟩,λa ha b hb=>?_⟩;rcases ap.1 hb with rfl | hb
 . rcases List.eq_nil_or_concat pre with rfl | ⟨q,y,rfl⟩
   .cases ha
   rw[List.concat_eq_append] at ha h1 d
   have c:=d q y rfl;rcases bh.1 ha with ha | ha
   . have g:=(fu.1 h1).2.2 a ha y (jg y)
     intro e;rcases fX.lt_tri a y with k | k | k
     .exact c (fX.lt_trans e k)
     .exact c (k▸e)
     exact g k
   rw[a_.1 ha];exact c
 exact f a ha b hb
def aoO{l:List α}(h:0<l.length):∃q y,l=q++[y]:=by
 rcases List.eq_nil_or_concat l with rfl | ⟨q,y,e⟩
 .cases h
 exact⟨q,y,by rw[e,List.concat_eq_append]⟩
/-! ### Cells of lists of equal things -/
def Hv{enc:α->List aj}{c:Nat}(hc:∀x,(enc x).length=c){L:List α}{x:α}(h:k<L.length):over (L.flatMap enc) (k*c) (enc x)=(L.set k x).flatMap enc:=by
 unfold over;rw[show k*c+(enc x).length=(k+1)*c by rw[hc,Nat.succ_mul],<-Hi hc,<-vD hc,ig,J h,aw,bx,cn]
def agz{q r:List α}{x y:α}:(q++x::r).set q.length y=q++y::r:=by
 rw[lk _ _ (ar _),kg];rfl
def agA{q r:List α}{x:α}:(q++x::r)[q.length]? = X4 x:=by
 rw[dm (ar _),kg];rfl
/-! ### Corners with their quadrics -/
def Bh(Q:H->List Int)(p:H):List aj:=bH p++qC (Q p)
def Um{Q:H->List Int}(h:∀x,(Q x).length=10)(p:H):(Bh Q p).length=23:=by
 unfold Bh;rw[aq,nW,h];rfl
def aoP{ps:List H}{Q:H->List Int}{k:Nat}{v:H}{q:List Int}(f:∀x,(Q x).length=10)(hq:q.length=10)(o:ps.Nodup)(d:ps[k]? = X4 v) :
 over (ps.flatMap (Bh Q)) (k*23+3) (qC q)=ps.flatMap (Bh λp=>if p=v then q else Q p):=by
 have l:k<ps.length:=(ao.1 d).1;have s:(λp=>if p=v then q else Q p) v=q:=J rfl;have g:ps.set k v=ps:=by
  refine fz λi=>?_;rw[je];split
  .rename_i e;subst e;rw[d]
  rfl
 have m:∀i x,i≠k->ps[i]? = X4 x->x≠v:=λi x b c e=>by
  subst e;exact b ((List.getElem?_inj (ao.1 c).1 o).1 (c.trans d.symm))
 have n:ps.flatMap (Bh λp=>if p=v then q else Q p)=(ps.take k).flatMap (Bh Q)++(bH v++qC q)++(ps.drop (k+1)).flatMap (Bh Q):=by
  have hs:ps=ps.take k++v::ps.drop (k+1):=by
   conv=>lhs;rw[<-g]
   rw[ig,J l]
  have c1:∀L:List H,(∀x∈L,x≠v)->L.flatMap (Bh λp=>if p=v then q else Q p)=L.flatMap (Bh Q):=λL h=>by
   induction L with
   | nil=>rfl
   | cons a L ih =>
    rw[bx,bx,ih λx c=>h x (bp _ c)];unfold Bh;simp only[X (h a (br ..))]
  conv=>lhs;rw[hs]
  rw[aw,bx,c1 _ λx c=>?_,c1 _ λx c=>?_]
  . unfold Bh
    simp only[K0,cn]
  . obtain⟨i,b⟩:=df.1 c
    rw[dl] at b;exact m _ x (by omega) b
  obtain⟨i,b⟩:=df.1 c
  have r:=(ao.1 b).1;rw[bj] at r;rw[d_,J (by omega)] at b;exact m i x (by omega) b
 have l1:((ps.take k).flatMap (Bh Q)).length=k*23:=by rw[iX (Um f),bj,ij (by omega)]
 unfold over;rw[n];have j:ps.flatMap (Bh Q)=(ps.take k).flatMap (Bh Q)++(bH v++(qC (Q v)++(ps.drop (k+1)).flatMap (Bh Q))):=by
  have hs:ps=ps.take k++v::ps.drop (k+1):=by
   conv=>lhs;rw[<-g]
   rw[ig,J l]
  conv=>lhs;rw[hs]
  rw[aw,bx];unfold Bh;simp only[cn]
 have t1:(ps.flatMap (Bh Q)).take (k*23+3)=(ps.take k).flatMap (Bh Q)++bH v:=by
  rw[j,List.take_append,l1,show k*23+3-k*23=3 by omega,au (by omega)];rfl
 have t2:(ps.flatMap (Bh Q)).drop (k*23+3+(qC q).length)=(ps.drop (k+1)).flatMap (Bh Q):=by
  rw[j,nW,hq,<-cn,<-cn,List.drop_append,gq (by simp only[aq];rw[l1,nW,f];exact ar _),bz];have:((ps.take k).flatMap (Bh Q)++bH v++qC (Q v)).length=k*23+3+20:=by
   simp only[aq];rw[l1,nW,f];rfl
  rw[this,kg];rfl
 rw[t1,t2];simp only[cn]
/-! ### Where the corners go -/
def toJ(u v:H)(xs:List H)(j:Nat):List H:=(xs.take j).map (gK u v)++xs.drop j
def aoQ(u v:H)(xs:List H)(h:xs.length<=j):toJ u v xs j=xs.map (gK u v):=by
 unfold toJ;rw[au h,gq h,fb]
def agC(u v:H)(xs:List H)(j:Nat):(toJ u v xs j).length=xs.length:=by
 unfold toJ;rw[aq,cj,bj,List.length_drop];omega
def alq{v:H}(h:xs[j]? = X4 x):(toJ u v xs j)[j]? = X4 x:=by
 have a:=(ao.1 h).1;unfold toJ;rw[dm (by rw[cj,bj];omega),cj,bj,ij (by omega),kg,dl,Nat.add_zero];exact h
def acQ{v:H}(h:xs[j]? = X4 x):toJ u v xs (j+1)=(toJ u v xs j).set j (gK u v x):=by
 have a:=(ao.1 h).1;have l1:((xs.take j).map (gK u v)).length=j:=by rw[cj,bj];omega
 unfold toJ;rw[bV h,de,lk _ _ (by rw[l1];exact ar _),l1,kg];have e:xs.drop j=x::xs.drop (j+1):=by
  rw[List.drop_eq_getElem_cons a,(ao.1 h).2]
 rw[e];simp
def alr{v:H}(h:xs[j]? = X4 x)(b:x≠u):toJ u v xs (j+1)=toJ u v xs j:=by
 rw[acQ h,fV b];refine fz λi=>?_;rw[je];split
 . rename_i e
   subst e;have a:=(ao.1 h).1;rw[J (by rw[agC];exact a),alq h]
 rfl
def acR{ps:List H}{p:H}(h:ps[k]? = X4 p):jW (ps.take (k+1)) f=if f p=p then jW (ps.take k) f else jW (ps.take k) f++[(p,f p)]:=by
 unfold jW;rw[bV h,gp,de];split
 .rename_i e;simp[e]
 rename_i e;simp[e]
def Qk(ps:List H)(f:H->H):(jW ps f).length<=ps.length:=by
 unfold jW;rw[cj];exact fw ..
/-! ### One round: a candidate is made,or none may be -/
def tW(l:List T3)(Q:H->List Int)(D:List Mv)(cs:List fX)(k:Nat)(b:Bool)(l1:List T3)(a:H->List Int)(D1:List Mv):Prop :=
 (b=X3/\l1=l/\a=Q/\D1=D/\∀j d,j<k->cs[j]? = X4 d->cH l d.u d.v=X3) \/
 (b=Z/\∃c,tP l Q=X4 c/\l1=eD l c.u c.v/\a=uF Q c.u c.v/\D1=Ln D c.u c.v)
def tW.start(l:List T3)(Q:H->List Int)(D:List Mv)(cs:List fX):tW l Q D cs 0 X3 l Q D:=.inl ⟨rfl,rfl,rfl,rfl,λ_ _ h=>Z8 h (jm _)⟩
def tW.no{Q a:H->List Int}(h:tW l Q D cs k X3 l1 a D1):l1=l/\a=Q/\D1=D/\∀j d,j<k->cs[j]? = X4 d->cH l d.u d.v=X3:=by
 rcases h with ⟨_,h⟩ | ⟨h,_⟩
 .exact h
 cases h
def tW.yes{Q a:H->List Int}(h:tW l Q D cs k Z l1 a D1):∃c,tP l Q=X4 c/\l1=eD l c.u c.v/\a=uF Q c.u c.v/\D1=Ln D c.u c.v:=by
 rcases h with ⟨h,_⟩ | ⟨_,h⟩
 .cases h
 exact h
def tW.put{l:List T3}{Q:H->List Int}{D:List Mv}{cs:List fX}{k:Nat}{c:fX}(e:∀d,d∈cs↔d∈Sv l Q)(hs:Ul cs)(h:∀j d,j<k->cs[j]? = X4 d->cH l d.u d.v=X3)(b:cs[k]? = X4 c)(a:cH l c.u c.v=Z)(f:Nat) :
 tW l Q D cs f Z (eD l c.u c.v) (uF Q c.u c.v) (Ln D c.u c.v) :=
 .inr ⟨rfl,c,Uj e hs b a h,rfl,rfl,rfl⟩
def tW.skip{Q:H->List Int}{c:fX}(h:∀j d,j<k->cs[j]? = X4 d->cH l d.u d.v=X3)(e:cs[k]? = X4 c)(b:cH l c.u c.v=X3):tW l Q D cs (k+1) X3 l Q D :=
 .inl ⟨rfl,rfl,rfl,rfl,λj d f a=>by
  rcases eh j k with h2 | h2
  .exact h j d h2 a
  obtain rfl:j=k:=by omega
  rw[e] at a;cases a;exact b⟩
def tW.none{Q b:H->List Int}(e:∀d,d∈cs↔d∈Sv l Q)(h:tW l Q D cs k X3 l1 b D1)(f:cs.length<=k):tP l Q=.none :=
 Uk e λd c=>by
  obtain⟨j,a⟩:=df.1 c;exact h.no.2.2.2 j d (by have:=(ao.1 a).1;omega) a
/-! ### The reference's value of a quadric -/
def als{q:List Int}(l:q.length=10):∃a b c d e f g h i j,q=[a,b,c,d,e,f,g,h,i,j]:=by
 rcases q with _ | ⟨a,_ | ⟨b,_ | ⟨c,_ | ⟨d,_ | ⟨e,_ | ⟨f,_ | ⟨g,_ | ⟨h,_ | ⟨i,_ | ⟨j,_ | ⟨k,q⟩⟩⟩⟩⟩⟩⟩⟩⟩⟩⟩ <;> simp only[ay,bm] at l <;> try omega
 exact⟨a,b,c,d,e,f,g,h,i,j,O⟩
end Go.Lith
namespace Go.Proofs.YtfekpcimgncioaaGreatDoor
open Go.Proofs.Tryz
open Go.RowKit Go.Lith
set_option maxRecDepth 100000
attribute [local irreducible] az cw fW bX cP Code.wp
attribute [local congr] dK dL cR dJ
variable{a:List Int}{k cap:Nat}{t:T3}{ts:List T3}{q:H}
def eO{a b:Int}(c:Bd 1000000 a)(d:Bd 1000000 b):dF prog 198 [W a,W b] (W (a*b)):=by
 intro w;refine⟨bJ func198 (by kernel_rfl),?_⟩;have m:=Mem.refl w
 go_enter func198,ntmps198
 apply gH 10 [3,2,0] m;simp only[↓U,jS,dG];intro e f g u m;refine lD m O O (Nd c d) 3 [0] ?_;simp only[↓U,dG,aa];intro u m;exact aS O ⟨_,O,((m.b 0 O).full bU aO)⟩ ⟨_,O,m.ext,O⟩
def mA{a b:Int}(c:Bd 1000000 a)(d:Bd 1000000 b):dF prog 134 [W a,W b] (W (a+b)):=by
 intro w;refine⟨bJ func134 (by kernel_rfl),?_⟩;have m:=Mem.refl w
 go_enter func134,ntmps134
 apply gH 10 [3,2,0] m;simp only[↓U,jS,dG];intro e f g u m;refine lD m O O (aa2 c d) 3 [0] ?_;simp only[↓U,dG,aa];intro u m;exact aS O ⟨_,O,((m.b 0 O).full bU aO)⟩ ⟨_,O,m.ext,O⟩
def sS{n:Int}(h:rS n):dF prog 197 [X6 n] (W n):=by
 intro w;refine⟨bJ func197 (by kernel_rfl),?_⟩;have m:=Mem.refl w
 go_enter func197,ntmps197
 apply gH 7 [0] m;simp only[↓U,jS];intro a u m;refine lD m O O (Bb h) 3 [0] ?_;simp only[↓U,dG,aa];intro u m;exact aS O ⟨_,O,((m.b 0 O).full bU aO)⟩ ⟨_,O,m.ext,O⟩
theorem asJ:M 2 (2:Int):=⟨by unfold Bd;decide⟩
theorem auN(t:T3):0-(t.normal.x*t.a.x+(t.normal.y*t.a.y+t.normal.z*t.a.z)) = -((dU t.a t.b t.c).dot t.a):=by
 show 0-((dU t.a t.b t.c).x*t.a.x+((dU t.a t.b t.c).y*t.a.y+(dU t.a t.b t.c).z*t.a.z))=_
 generalize dU t.a t.b t.c=n;unfold H.dot
 grind
def asK(t:T3):qPr t.normal.x t.normal.y t.normal.z (0-(t.normal.x*t.a.x+(t.normal.y*t.a.y+t.normal.z*t.a.z)))=qOf t:=by rw[auN];rfl
def qS(a b:List Int)(k:Nat):List Int:=(tF a b).take k++List.replicate (10-k) 0
def asL{b:List Int}(c:a.length=10)(d:b.length=10):qS a b 10=tF a b:=by
 unfold qS;rw[au (by rw[eY c d];exact ar _),kg,List.replicate_zero,fb]
def alt{b:List Int}(c:a.length=10)(d:b.length=10)(e:k<=10):(qS a b k).length=10:=by
 unfold qS;rw[aq,bj,List.length_replicate,eY c d];omega
def asM{b:List Int}(c:a.length=10)(d:b.length=10){x y:Int}(g:k<10)(e:a[k]? = X4 x)(f:b[k]? = X4 y):(qS a b k).set k (x+y)=qS a b (k+1):=by
 have h1:(tF a b)[k]? = X4 (x+y):=by unfold tF;rw[List.getElem?_zipWith,e,f]
 have h2:((tF a b).take k).length=k:=by rw[bj,eY c d];omega
 unfold qS;rw[List.take_add_one,h1,lk _ _ (by rw[h2];exact ar _),h2,kg,Option.toList,cn,show 10-k=(10-(k+1))+1 by omega];rfl
def afe[IT t]:dF prog 196 [tr t] (.agg #[.bool (dH t.normal.x),.string (eC t.normal.x),.bool (dH t.normal.y),.string (eC t.normal.y),.bool (dH t.normal.z),.string (eC t.normal.z),.bool (dH (0-(t.normal.x*t.a.x+(t.normal.y*t.a.y+t.normal.z*t.a.z)))),.string (eC (0-(t.normal.x*t.a.x+(t.normal.y*t.a.y+t.normal.z*t.a.z))))]):=by
 intro w;refine⟨bJ func196 (by kernel_rfl),?_⟩;have m:=Mem.refl w
 go_enter func196,ntmps196
 apply gH 8 [2,0] m;simp only[↓U,akI,dM];intro g i u m;refine lD m O O (Nj (t:=t)) 4 [0,0] ?_;simp only[↓U,Mw,aeV,aa];intro j u m;refine dR 24 [0,1,2,3,4,5,6,7,8,9,10,11,12,13,14,15,16,17,18,19,20,21,22] [⟨23,4,95,[.bool X3,.string ⟨#[]⟩]⟩] aB (by kernel_rfl) (al1 ⟨_,_,_,O,by kernel_rfl,_,uG,O⟩) (ol:=?_) ?f ?_
 case f=>simp only[zw,zQ,zR];try rfl
 intro u d;replace m:=m.ext' d;refine eG (aN Av aO O O (by decide) (by decide) O) ?_;simp only[G];refine cO O (λu e=>(((m.ext' e).b 0 O).lies bU aO O O)) ?_;simp only[G,zy,ai,aa,ag,ad];refine eG (aN eB aA O O (by decide) (by decide) O) (eG (aU (c:=0) fY O aY O O) ?_);simp only[G];refine cO O (λu e=>(((m.ext' e).b 2 O).lies1 bK O)) ?_;simp only[G];refine cM O O (sS Iw.h) ?_;simp only[G];refine cM O O (eO M.up M.up) (eG (aN Av aO O O (by decide) (by decide) O) ?_);simp only[G];refine cO O (λu e=>(((m.ext' e).b 0 O).lies bU aO O O)) ?_;simp only[G,zy,ai,aa,ag,ad];refine eG (aN eB aA O O (by decide) (by decide) O) (eG (aU (c:=0) fY O aY O O) ?_);simp only[G];refine cO O (λu e=>(((m.ext' e).b 2 O).lies1 bK O)) ?_;simp only[G];refine cM O O (sS Iw.h) ?_;simp only[G];refine cM O O (eO M.up M.up) (eG (aN Av aO O O (by decide) (by decide) O) ?_);simp only[G];refine cO O (λu e=>(((m.ext' e).b 0 O).lies bU aO O O)) ?_;simp only[G,zy,ai,aa,ag,ad];refine eG (aN eB aA O O (by decide) (by decide) O) (eG (aU (c:=0) fY O aY O O) ?_);simp only[G];refine cO O (λu e=>(((m.ext' e).b 2 O).lies1 bK O)) ?_;simp only[G];refine cM O O (sS Iw.h) ?_;simp only[G];refine cM O O (eO M.up M.up) ?_;simp only[G];refine cM O O (mA M.up M.up) ?_;simp only[G];refine cM O O (mA M.up M.up) (vB ?_);simp only[G];refine mf1 m ?_;intro k u m;simp only[zJ,zK,zF,zG];refine bP m 0 O O O aO (gS O) O ?_;intro u m;simp only[zy,zx,over,zF,zG,aa] at m;refine aI ?_;apply aT 1 [0] m;simp only[↓U];refine cI m 10 aB (by kernel_rfl) ?_;simp only[zy];refine cX 6 [2,2,2] ?_;simp only[↓U,tI,dG,ad,ag,aa];apply I0;omega;refine eH O O (sS (n:=0) (by constructor <;> decide)) ?_;simp only[G];refine ql O (λu m=>((m.b 0 O).full bU aO)) ?_;simp only[G];refine eH O O (Nc M.up M.up) (aK (tR O O O O) (aZ ?_));intro u m;simp only[G];refine bP m 2 O O O Mk (gS O) O ?_;intro u m;simp only[zy,zx,over,zF,zG,aa] at m;refine aI ?_;apply aT 1 [] m;simp only[↓U];exact aS O ⟨_,O,((m.b 2 O).full an0 Mk)⟩ ⟨_,O,m.ext,O⟩
def aoR[IT t]:dF prog 131 [tr t] (qV (qOf t)):=by
 intro w;refine⟨bJ func131 (by kernel_rfl),?_⟩;have m:=Mem.refl w;haveI:=asJ
 go_enter func131,ntmps131
 apply gH 8 [2] m;simp only[↓U,Tj,dM];intro a c u m;refine go (lD m O O (afe (t:=t)) 5 [0,0] ?_);simp only[↓U,akI,arX,aa];intro d u m;refine lD m O O (sS (n:=2) (by constructor <;> decide)) 4 [0,0] ?_;simp only[↓U,jS,dG,aa];intro e u m;refine cI m 63 aB (by kernel_rfl) ?_;simp only[zy];refine cX 4 [2,2] ?_;simp only[↓U,tH,dG,ad,ag,aa];apply I0;omega;refine eH O O (eO M.up M.up) (cX 5 [1,2,2] ?_);simp only[↓U,dG,tH,ad,ag,aa];apply I0;omega;refine eH O O (eO M.up M.up) ?_;simp only[G];refine eH O O (eO M.up M.up) (cX 5 [1,2,2] ?_);simp only[↓U,dG,tH,ad,ag,aa];apply I0;omega;refine eH O O (eO M.up M.up) ?_;simp only[G];refine eH O O (eO M.up M.up) (cX 5 [1,2,2] ?_);simp only[↓U,dG,tH,ad,ag,aa];apply I0;omega;refine eH O O (eO M.up M.up) ?_;simp only[G];refine eH O O (eO M.up M.up) (cX 4 [2,2] ?_);simp only[↓U,tH,dG,ad,ag,aa];apply I0;omega;refine eH O O (eO M.up M.up) (cX 5 [1,2,2] ?_);simp only[↓U,dG,tH,ad,ag,aa];apply I0;omega;refine eH O O (eO M.up M.up) ?_;simp only[G];refine eH O O (eO M.up M.up) (cX 5 [1,2,2] ?_);simp only[↓U,dG,tH,ad,ag,aa];apply I0;omega;refine eH O O (eO M.up M.up) ?_;simp only[G];refine eH O O (eO M.up M.up) (cX 4 [2,2] ?_);simp only[↓U,tH,dG,ad,ag,aa];apply I0;omega;refine eH O O (eO M.up M.up) (cX 5 [1,2,2] ?_);simp only[↓U,dG,tH,ad,ag,aa];apply I0;omega;refine eH O O (eO M.up M.up) ?_;simp only[G];refine eH O O (eO M.up M.up) (cX 4 [2,2] ?_);simp only[↓U,tH,dG,ad,ag,aa];apply I0;omega;refine eH O O (eO M.up M.up) (aK (rN O O O O O O O O O O) (aZ ?_));intro u m;simp only[G];refine bP m 2 O O O dA (gS O) O ?_;intro u m;simp only[zy,zx,over,zF,zG,aa] at m;refine aI ?_;apply aT 1 [] m;simp only[↓U];refine aS O ⟨_,O,((m.b 2 O).full kR dA)⟩ ?_;try simp only[zD,zE]
 exact⟨_,O,m.ext,by rw[<-asK];rfl⟩
def Un{b:List Int}(c:a.length=10)(d:b.length=10)(p:As k a)(q:As k b)(z:k<=900000):dF prog 75 [qV a,qV b] (qV (tF a b)):=by
 intro w;refine⟨bJ func75 (by kernel_rfl),?_⟩;have m:=Mem.refl w
 go_enter func75,ntmps75
 apply gH 16 [0] m;simp only[↓U,Tj];intro h j l o u m;refine bT [6] [7,8,9,10,11,12,13,14,15,16,17,18,19] (λn vs s=>∃(i:Nat),vs=[X6 (i:Int)]/\Mem w s [bI o (qC (qS a b i)) 97,bI l [.bool X3,.string ⟨#[]⟩,.bool X3,.string ⟨#[]⟩,.bool X3,.string ⟨#[]⟩,.bool X3,.string ⟨#[]⟩,.bool X3,.string ⟨#[]⟩,.bool X3,.string ⟨#[]⟩,.bool X3,.string ⟨#[]⟩,.bool X3,.string ⟨#[]⟩,.bool X3,.string ⟨#[]⟩,.bool X3,.string ⟨#[]⟩] 97,bI j (qC b) 97,bI h (qC a) 97]/\(i<=10)/\(n=10-i)) ?_ ?_
 . rw[show ([.bool X3,.string ⟨#[]⟩,.bool X3,.string ⟨#[]⟩,.bool X3,.string ⟨#[]⟩,.bool X3,.string ⟨#[]⟩,.bool X3,.string ⟨#[]⟩,.bool X3,.string ⟨#[]⟩,.bool X3,.string ⟨#[]⟩,.bool X3,.string ⟨#[]⟩,.bool X3,.string ⟨#[]⟩,.bool X3,.string ⟨#[]⟩]:List aj)=qC (qS a b 0) from zq0] at m
   exact⟨_,0,O,m,bn _,O⟩
 intro n vs wr r u v t
 obtain⟨i,rfl,m,e,A⟩:=r;simp only[zu,zF,zG];apply L 6 [0,0] m;simp only[↓U];refine bC O ?_ ?_<;>intro B
 .have e:i<10:=by omega
  obtain⟨x,f⟩:∃x,a[i]? = X4 x:=⟨_,Mh c e⟩
  obtain⟨y,g⟩:∃y,b[i]? = X4 y:=⟨_,Mh d e⟩
  apply L 3 [0] m;simp only[↓U];refine cI m 9 aB (by kernel_rfl) ?_;simp only[zy];refine cX 3 [] ?_;simp only[↓U,yJ,ah,ai];apply I0;omega;refine ql O (λu m=>(show dQ _ _ _ _ (W x) from (xG (m.b 3 O) f).lies bU aO)) ?_;simp only[G];refine aK aJ (cX 1 [] ?_);simp only[↓U,yJ,ah,ai];apply I0;omega;refine ql O (λu m=>(show dQ _ _ _ _ (W y) from (xG (m.b 2 O) g).lies bU aO)) ?_;simp only[G];refine eH O O (mA ((p.at f).mono (by omega)) ((q.at g).mono (by omega))) (cX 1 [] ?_);simp only[↓U,yJ,ah,ai];apply I0;omega;refine aZ ?_;intro u m;refine bP m 0 O O O aO (by have h1:=nW (qS a b i);have h2:=alt c d (show i<=10 by omega);simp only[ay,bm];omega) rfl ?_;intro u m;simp only[zF,zG] at m;rw[show over (qC (qS a b i)) (i*2) [.bool (dH (x+y)),.string (eC (x+y))]=qC (qS a b (i+1)) from (Pz (x:=x+y) (by rw[alt c d (by omega)];omega)).trans (by rw[asM c d e f g])] at m;refine aI ?_;apply aT 6 [0] m;simp only[↓U];apply I0;omega;exact t (10-(i+1)) _ _ (by omega) (by kernel_rfl) ⟨i+1,O,m,by omega,O⟩
 obtain rfl:i=10:=by omega
 rw[asL c d] at m;apply L 3 [0] m;simp only[↓U];refine bE O (nB (m.b 0 O) kR dA (by simp only[eY c d])) ?_;simp only[G];refine qM (n:=20) m 1 O O O (by rw[eY c d]) O dA ?_;intro u m;simp only[zF,zG] at m;apply aH 2 [] m;simp only[↓U];exact aS O ⟨_,O,(nB (m.b 1 O) kR dA (by simp only[eY c d]))⟩ ⟨_,O,m.ext,O⟩
def alu{a0 a c a3 a4 a5 d f g a9:Int}{p:H}[I3 p][M 800000 a0][M 800000 a][M 800000 c][M 800000 a3][M 800000 a4][M 800000 a5][M 800000 d][M 800000 f][M 800000 g][M 800000 a9]:dF prog 132 [.agg #[.bool (dH a0),.string (eC a0),.bool (dH a),.string (eC a),.bool (dH c),.string (eC c),.bool (dH a3),.string (eC a3),.bool (dH a4),.string (eC a4),.bool (dH a5),.string (eC a5),.bool (dH d),.string (eC d),.bool (dH f),.string (eC f),.bool (dH g),.string (eC g),.bool (dH a9),.string (eC a9)],pt p] (W (p.x*(a0*p.x+(a*p.y+(c*p.z+a3)))+p.y*(a4*p.y+(a5*p.z+d))+(p.z*(f*p.z+g)+a9))):=by
 intro w;refine⟨bJ func132 (by kernel_rfl),?_⟩;have m:=Mem.refl w
 go_enter func132,ntmps132
 apply gH 10 [2,0] m;simp only[↓U,jS,gN,dC,aa];intro k l n u m;refine lD m O O (sS Iw.h) 7 [0,3,0] ?_;simp only[↓U,jS,dG,gQ,dC,aa];intro o u m;refine lD m O O (sS Iw.h) 7 [0,4,0] ?_;simp only[↓U,jS,dG,iG,dC,aa];intro q u m;refine lD m O O (sS Iw.h) 4 [0,0] ?_;simp only[↓U,jS,dG,aa];intro r u m;refine dR 35 [0,1,2,3,4,5,6,7,8,9,10,11,12,13,14,15,16,17,18,19,20,21,22,23,24,25,26,27,28,29,30,31,32,33] [⟨34,8,95,[.bool X3,.string ⟨#[]⟩]⟩] aB (by kernel_rfl) (al1 ⟨_,_,_,O,by kernel_rfl,_,uG,O⟩) (ol:=?_) ?j ?_
 case j=>simp only[zw,zQ,zR];try rfl
 intro u i;replace m:=m.ext' i;refine cO O (λu e=>(((m.ext' e).b 2 O).full bU aO)) ?_;simp only[G];refine eG (aN Jv aO O O (by decide) (by decide) O) ?_;simp only[G];refine cO O (λu e=>(((m.ext' e).b 5 O).lies bU aO O O)) ?_;simp only[G,zy,ai,aa,ag,ad];refine cO O (λu e=>(((m.ext' e).b 2 O).full bU aO)) ?_;simp only[G];refine cM O O (eO M.up M.up) (eG (aN Jv aO O O (by decide) (by decide) O) ?_);simp only[G];refine cO O (λu e=>(((m.ext' e).b 5 O).lies bU aO O O)) ?_;simp only[G,zy,ai,aa,ag,ad];refine cO O (λu e=>(((m.ext' e).b 1 O).full bU aO)) ?_;simp only[G];refine cM O O (eO M.up M.up) (eG (aN Jv aO O O (by decide) (by decide) O) ?_);simp only[G];refine cO O (λu e=>(((m.ext' e).b 5 O).lies bU aO O O)) ?_;simp only[G,zy,ai,aa,ag,ad];refine cO O (λu e=>(((m.ext' e).b 0 O).full bU aO)) ?_;simp only[G];refine cM O O (eO M.up M.up) (eG (aN Jv aO O O (by decide) (by decide) O) ?_);simp only[G];refine cO O (λu e=>(((m.ext' e).b 5 O).lies bU aO O O)) ?_;simp only[G,zy,ai,aa,ag,ad];refine cM O O (mA M.up M.up) ?_;simp only[G];refine cM O O (mA M.up M.up) ?_;simp only[G];refine cM O O (mA M.up M.up) ?_;simp only[G];refine cM O O (eO M.up M.up) ?_;simp only[G];refine cO O (λu e=>(((m.ext' e).b 1 O).full bU aO)) ?_;simp only[G];refine eG (aN Jv aO O O (by decide) (by decide) O) ?_;simp only[G];refine cO O (λu e=>(((m.ext' e).b 5 O).lies bU aO O O)) ?_;simp only[G,zy,ai,aa,ag,ad];refine cO O (λu e=>(((m.ext' e).b 1 O).full bU aO)) ?_;simp only[G];refine cM O O (eO M.up M.up) (eG (aN Jv aO O O (by decide) (by decide) O) ?_);simp only[G];refine cO O (λu e=>(((m.ext' e).b 5 O).lies bU aO O O)) ?_;simp only[G,zy,ai,aa,ag,ad];refine cO O (λu e=>(((m.ext' e).b 0 O).full bU aO)) ?_;simp only[G];refine cM O O (eO M.up M.up) (eG (aN Jv aO O O (by decide) (by decide) O) ?_);simp only[G];refine cO O (λu e=>(((m.ext' e).b 5 O).lies bU aO O O)) ?_;simp only[G,zy,ai,aa,ag,ad];refine cM O O (mA M.up M.up) ?_;simp only[G];refine cM O O (mA M.up M.up) ?_;simp only[G];refine cM O O (eO M.up M.up) ?_;simp only[G];refine cM O O (mA M.up M.up) (vB ?_);simp only[G];refine mf1 m ?_;intro s u m;simp only[zJ,zK,zF,zG];refine bP m 0 O O O aO (gS O) O ?_;intro u m;simp only[zy,zx,over,zF,zG,aa] at m;refine aI ?_;apply aT 1 [0] m;simp only[↓U];refine cI m 14 aB (by kernel_rfl) ?_;simp only[zy];refine cX 5 [1,2,7,2] ?_;simp only[↓U,dG,yJ,ad,ag,aa];apply I0;omega;refine eH O O (eO M.up M.up) (cX 2 [7] ?_);simp only[↓U,yJ,dG,ad,ag,aa];apply I0;omega;refine eH O O (mA M.up M.up) ?_;simp only[G];refine eH O O (eO M.up M.up) (cX 2 [7] ?_);simp only[↓U,yJ,dG,ad,ag,aa];apply I0;omega;refine eH O O (mA M.up M.up) ?_;simp only[G];refine eH O O (mA M.up M.up) (aZ ?_);intro u m;simp only[G];refine bP m 4 O O O aO (gS O) O ?_;intro u m;simp only[zy,zx,over,zF,zG,aa] at m;refine aI ?_;apply aT 1 [] m;simp only[↓U];exact aS O ⟨_,O,((m.b 4 O).full bU aO)⟩ ⟨_,O,m.ext,O⟩
def aoS{q:List Int}{p:H}[I3 p](hq:As 800000 q)(f:q.length=10):dF prog 132 [qV q,pt p] (W (qAt q p)):=by
 obtain⟨a0,a,b,a3,a4,a5,c,d,e,a9,rfl⟩:=als f;haveI:M 800000 a0:=⟨hq _ (by simp)⟩
 haveI:M 800000 a:=⟨hq _ (by simp)⟩
 haveI:M 800000 b:=⟨hq _ (by simp)⟩
 haveI:M 800000 a3:=⟨hq _ (by simp)⟩
 haveI:M 800000 a4:=⟨hq _ (by simp)⟩
 haveI:M 800000 a5:=⟨hq _ (by simp)⟩
 haveI:M 800000 c:=⟨hq _ (by simp)⟩
 haveI:M 800000 d:=⟨hq _ (by simp)⟩
 haveI:M 800000 e:=⟨hq _ (by simp)⟩
 haveI:M 800000 a9:=⟨hq _ (by simp)⟩
 show dF _ _ _ (W (ajO [a0,a,b,a3,a4,a5,c,d,e,a9] p.x p.y p.z))
 rw[afd];exact alu
def alv{N:Nat}{A:Option Addr}{p:H}(w:ak)(g:bW w A N ts)(I:N<=800000):cY prog 71 [.slice A N cap,pt p] w (λv _=>v=qV (nA ts p)):=by
 refine⟨bJ func71 (by kernel_rfl),?_⟩;have m:=Mem.refl w;have R:=g.len
 go_enter func71,ntmps71
 apply gH 15 [0] m;simp only[↓U,Tj];intro r s B u m;refine bT [6] [7,8,9,10,11,12,13,14,15,16,17,18,19,20,21,22,23,24,25,26,27,28,29,30,31,32,33,34,35,36,37,38,39,40,41,42,43,44] (λn vs D=>∃(k:Nat),vs=[X6 (k:Int)]/\Mem w D [bI B (qC (nA (ts.take k) p)) 97,bI s [.bool X3,.string ⟨#[]⟩,.bool X3,.string ⟨#[]⟩,.bool X3,.string ⟨#[]⟩,.bool X3,.string ⟨#[]⟩,.bool X3,.string ⟨#[]⟩,.bool X3,.string ⟨#[]⟩,.bool X3,.string ⟨#[]⟩,.bool X3,.string ⟨#[]⟩,.bool X3,.string ⟨#[]⟩,.bool X3,.string ⟨#[]⟩] 97,bI r [X6 p.x,X6 p.y,X6 p.z] 30]/\(k<=N)/\(n=N-k)) ?_ ?_
 . rw[show ([.bool X3,.string ⟨#[]⟩,.bool X3,.string ⟨#[]⟩,.bool X3,.string ⟨#[]⟩,.bool X3,.string ⟨#[]⟩,.bool X3,.string ⟨#[]⟩,.bool X3,.string ⟨#[]⟩,.bool X3,.string ⟨#[]⟩,.bool X3,.string ⟨#[]⟩,.bool X3,.string ⟨#[]⟩,.bool X3,.string ⟨#[]⟩]:List aj)=qC (nA (ts.take 0) p) from zq0] at m
   exact⟨_,0,O,m,bn _,O⟩
 intro n vs wr C u F q
 obtain⟨k,rfl,m,K,M⟩:=C;simp only[zu,zF,zG];apply L 8 [0,0] m;simp only[↓U,gM];refine bC O ?_ ?_<;>intro P
 .obtain⟨t,o,Q,a,rfl,f⟩:=g.get (i:=k) (by omega);have l:=oS (ts:=ts) (p:=p) k (by omega);have E:=Nh (p:=p) g.it k (by omega);apply L 4 [0] m;simp only[↓U];refine mq m aB (by kernel_rfl) (cX 11 [0,0,3,8,0,0,3,8,0,0,3] ?_);simp only[↓U,fR,bQ,aP,ah,ai,ad,ag,aa];refine⟨_,λu m=>((kV.cor (f.ext m.ext) (c:=0) (by omega)).lies aG aA),_,eQ,_,λu m=>((kV.cor (f.ext m.ext) (c:=1) (by omega)).lies aG aA),_,eQ,λ_=>⟨_,λu m=>((kV.cor (f.ext m.ext) (c:=2) (by omega)).lies aG aA),_,eQ,λ_=>⟨by omega,?_⟩⟩⟩;refine aZ ?_;intro u m;refine gc (cL O (λj=>?_) (λj=>?_))
  .have h:t.has p=Z:=by rw[<-agr];exact j
   have d:=yL (p:=p) o;rw[J h] at d;refine cI m 7 aB (by kernel_rfl) ?_;simp only[zy];refine ql O (λu m=>(nB (m.b 0 O) kR dA (by first | rw[e] | rw[oS _ (by omega)]))) ?_;simp only[G];refine cX 4 [0,1] ?_;simp only[↓U,fR,ah,ai];refine⟨_,λu m=>((f.ext m.ext).lies cD aW),by omega,?_⟩;refine eH O O (aoR (t:=t)) ?_;simp only[G];refine eH O O (Un l (rZ t) E (ae9.mono (by omega)) (by omega)) (aZ ?_);intro u m;simp only[G];refine qM (n:=20) m 0 O O O (by rw[eY l (rZ t)]) (by rw[nW,l]) dA ?_;intro u m;simp only[zF,zG] at m;refine aI ?_;apply aT 6 [0] m;simp only[↓U];apply I0;omega;rw[<-d] at m;exact q (N-(k+1)) _ _ (by omega) (by kernel_rfl) ⟨k+1,O,m,by omega,O⟩
  have h:t.has p=X3:=by rw[<-agr];exact j
  have d:=yL (p:=p) o;rw[X (by rw[h];exact fg)] at d;apply L 7 [0] m;simp only[↓U];apply I0;omega;rw[<-d] at m;exact q (N-(k+1)) _ _ (by omega) (by kernel_rfl) ⟨k+1,O,m,by omega,O⟩
 obtain rfl:N=k:=by omega
 rw[show ts.take N=ts from au (by omega)] at m;have e:(nA ts p).length=10:=by have:=oS (ts:=ts) (p:=p) N (by omega);rwa [au (by omega)] at this
 apply L 3 [0] m;simp only[↓U];refine bE O (nB (m.b 0 O) kR dA (by first | rw[e] | rw[oS _ (by omega)])) ?_;simp only[G];refine qM (n:=20) m 1 O O O (by rw[e]) O dA ?_;intro u m;simp only[zF,zG] at m;apply aH 2 [] m;simp only[↓U];exact aS O ⟨_,O,(nB (m.b 1 O) kR dA (by rw[e]))⟩ ⟨_,O,m.ext,O⟩
def Zi{p:H}(h:ts[k]? = X4 t):lW p q (ts.take (k+1))=lW p q (ts.take k)++if (gX p q t).nd then [gX p q t] else []:=by
 rw[bV h];unfold lW;rw[de,gp]
 congr 1
 rw[bi,dh,fk,mx]
theorem Bi{p x:H}(hq:I3 q)(a:I3 x):I3 (gK p q x):=by
 unfold gK;split
 .exact hq
 exact a
theorem Fv{p:H}(hq:I3 q)(h:∀t∈ts,IT t):∀t∈lW p q ts,IT t:=λt d=>by
 obtain⟨s,hs,rfl⟩:=dj.1 (ct.1 d).1;have:=h s hs;exact⟨Bi hq this.a,Bi hq this.b,Bi hq this.c⟩
def Uo{p:H}(ts:List T3):(eD ts p q).length=(lW p q ts).length:=jR _
def Hw{N:Nat}{A:Option Addr}{p:H}[I3 p][I3 q](w:ak)(g:bW w A N ts)(V:N<=10000000):cY prog 22 [.slice A N cap,pt p,pt q] w (SL 39 9 ((eD ts p q).flatMap aL) (eD ts p q).length w):=by
 refine⟨bJ func22 (by kernel_rfl),?_⟩;have m:=Mem.refl w;have ad:=g.len
 go_enter func22,ntmps22
 apply gH 8 [0] m;simp only[↓U];intro s B u m;refine aD aM ?_;replace m:=m.nilO 39 9;apply aH 9 [0] m;simp only[↓U,gM];refine bT [7,14] [9,10,11,15,16,17,18,19,20,21,22,23,24,25,26,27,28,29,30] (λn vs F=>∃(k:Nat) (d:Option Addr) (e:Nat),vs=[.slice d (lW p q (ts.take k)).length e,X6 (k:Int)]/\Mem w F [oI 39 9 d (lW p q (ts.take k)).length e ((lW p q (ts.take k)).flatMap aL),bI B [X6 q.x,X6 q.y,X6 q.z] 30,bI s [X6 p.x,X6 p.y,X6 p.z] 30]/\(k<=N)/\(n=N-k)) ?_ ?_
 .exact⟨_,0,_,_,O,m,bn _,O⟩
 intro n vs wr C u Q j
 obtain⟨k,d,e,rfl,m,W,Y⟩:=C;simp only[zu,zF,zG];apply L 5 [0,0] m;simp only[↓U];refine bC O ?_ ?_<;>intro ab
 .obtain⟨t,D,_,a,rfl,M⟩:=g.get (i:=k) (by omega);have c:=Zi (p:=p) (q:=q) D;have I:=Ju p q (ts.take k);rw[bj] at I;apply xI 15 [0,1,0,1,4,3,0] m;simp only[↓U,fR,lL,dM,aP,ah,ai,aa];refine⟨_,λu m=>((M.ext m.ext).lies cD aW),λR=>⟨by omega,?_⟩⟩;intro u m;refine lD m O O (ago (t:=t) (p:=p) (q:=q)) 11 [0,0] ?_;simp only[↓U,lL,dM,aa];intro S u m;refine cL O ?_ ?_<;>intro l
  .rw[l,J rfl] at c;apply L 3 [1,0] m;simp only[↓U,dM];refine fE O ?_;intro u T f h E;replace m:=m.newB f h E;simp only[G];refine bN m 3 O O fC iO O (by decide) O O O (m.b 0 O).rowsO (fN O) (by omega) (by omega) ?_;intro d e u m;simp only[zF,zG] at m;rw[show (lW p q (ts.take k)).flatMap aL++_=(lW p q (ts.take (k+1))).flatMap aL by rw[c,aw];rfl] at m;have r:(lW p q (ts.take k)).length+1=(lW p q (ts.take (k+1))).length:=by rw[c,aq];rfl
   rw[r] at m;rw[r];apply aH 7 [0] m;simp only[↓U];apply I0;omega;exact j (N-(k+1)) _ _ (by omega) (by kernel_rfl) ⟨k+1,_,_,O,(m.sel [X3,X3,X3,Z,Z,Z]),by omega,O⟩
  rw[l,X fg,fb] at c;apply L 6 [0] m;simp only[↓U];apply I0;omega;rw[<-c] at m ⊢;exact j (N-(k+1)) _ _ (by omega) (by kernel_rfl) ⟨k+1,_,_,O,(m.sel [X3,X3,Z,Z,Z]),by omega,O⟩
 obtain rfl:k=N:=by omega
 rw[show ts.take k=ts from au (by omega)] at m ⊢;apply L 4 [0] m;simp only[↓U];refine bF O O (acC (ts:=lW p q ts) _ ((m.o 0 O).tris (Fv Y7 g.it)) (by have:=Ju p q ts;omega)) ?_;rintro v u f ⟨P,ae,n8,K,rfl,h⟩;replace m:=m.newO f h;apply aH 3 [] m;simp only[↓U];exact aS O O ⟨_,O,m.ext,⟨_,_,_,by rw[K,Uo],O,(m.o 0 O)⟩⟩
end Go.Proofs.YtfekpcimgncioaaGreatDoor
namespace Go.Lith
open Go.RowKit
variable{q x:H}
def pO(D:List (H × Hd))(p:H):Hd:=(cG D p).getD ⟨X5,0,0⟩
def nbK(p:H)(q:H):List H:=if q≠p then [q] else []
def nbT(p:H)(t:T3):List H:=nbK p t.a++nbK p t.b++nbK p t.c
def nR(ts:List T3)(p:H):List H:=(ts.filter λt=>t.has p).flatMap (nbT p)
def Fw{p:H}:x∈nbK p q↔x=q/\x≠p:=by
 unfold nbK;split
 .rename_i h;rw[a_];exact⟨λe=>⟨e,e▸h⟩,λe=>e.1⟩
 rename_i h;exact⟨λe=>(by cases e),λe=>Z8 (e.1▸e.2) h⟩
def sT{ts:List T3}{p:H}:x∈nR ts p↔Gd ts p x=Z:=by
 unfold nR;rw[xF,kM,List.mem_flatMap];constructor
 . rintro⟨t,d,b⟩
   obtain⟨h1,h2⟩:=ct.1 d;unfold nbT at b;rw[bh,bh,Fw,Fw,Fw] at b;have a:x≠p:=by rcases b with (h | h) | h <;> exact h.2
   have c:t.has x=Z:=eF.2 (by rcases b with (h | h) | h <;> simp[h.1]);exact⟨a,t,h1,h2,c⟩
 rintro⟨a,t,h1,h2,c⟩
 refine⟨t,ct.2 ⟨h1,h2⟩,?_⟩;unfold nbT;rw[bh,bh,Fw,Fw,Fw];rcases eF.1 c with e | e | e
 .exact .inl (.inl ⟨e,a⟩)
 .exact .inl (.inr ⟨e,a⟩)
 exact .inr ⟨e,a⟩
def alw{p:H}(h:¬(q.x=p.x/\q.y=p.y/\q.z=p.z)):nbK p q=[q]:=J λe=>h (by rw[e];exact⟨rfl,rfl,rfl⟩)
def alx{p:H}(h:¬¬(q.x=p.x/\q.y=p.y/\q.z=p.z)):nbK p q=[]:=X λk=>h λe=>k (H.eq e.1 e.2.1 e.2.2)
def aly{fs:List T3}{p:H}{k:Nat}{t:T3}(h:fs[k]? = X4 t):(fs.take (k+1)).flatMap (nbT p)=(fs.take k).flatMap (nbT p)++nbK p t.a++nbK p t.b++nbK p t.c:=by
 rw[bV h,aw,bx,List.flatMap_nil,fb];unfold nbT;simp only[cn]
end Go.Lith
namespace Go.Proofs.YtfekpcimgncioaaGreatDoor
open Go.Proofs.Tryz
open Go.RowKit Go.Lith
set_option maxRecDepth 100000
attribute [local irreducible] az cw fW bX cP Code.wp
attribute [local congr] dK dL cR dJ
def abc{g90 ga gf N cap ca:Nat}{A:Option Addr}{ea:Array cu}{D:List (H × Hd)}{ts:List T3}{p:H}(w:ak)(S:fQ w g90 [.slice A N cap,.map (X4 ga),.map (X4 gf)] 109)(R:iR w ga ea ca)(P:bY pt Hd.v D ea ca)(I:∀p,bW w (pO D p).A (pO D p).n (ts.filter λt=>t.has p)/\(pO D p).n<=(pO D p).cap)(hN:ts.length<=10000000):cY prog 62 [.pointer (X4 ⟨g90,0,X5⟩),pt p] w (λv w'=>∃g es c,v=.map (X4 g)/\Mem w w' [mI g es c]/\bY pt bw (gA [] (nR ts p)) es c):=by
 refine⟨bJ func62 (by kernel_rfl),?_⟩;have m:=Mem.refl w
 go_enter func62,ntmps62
 apply gH 7 [0] m;simp only[↓U];intro F u m;refine lU m ?_;intro r u m;have d:=bY.nil (K:=H) (V:=Bool) pt bw;apply aH 4 [0] m;simp only[↓U];refine mq m aB (by kernel_rfl) (cX 3 [] ?_);simp only[↓U,Tk,aa];refine ql O (λu m=>((S.ext m.ext).lies1 af5 O)) ?_;simp only[G];refine ql O (λu m=>((m.b 1 O).full aG aA)) ?_;simp only[G];refine kC (λu m=>eN (ek:=pt) (en:=Hd.v) (k:=p) (v0:=⟨X5,0,0⟩) underlying106 af4 gD O O (R.ext m.ext) P) ?_;simp only[G];refine aK (Lp O fC O) (aK aJ (aZ ?_));intro u m;simp only[G];obtain⟨⟨X,q,af⟩,E⟩:∃h:Hd,h=(cG D p).getD ⟨X5,0,0⟩:=⟨_,rfl⟩
 have j:=I p;unfold pO at j;rw[<-E] at j;obtain⟨j,T⟩:=j;simp only at j T;have ae:=j.len;have ad:=fw (λt=>T3.has t p) ts;rw[<-E];simp only[Hd.v];apply aT 1 [0] m;simp only[↓U];refine bT [18] [7,9,19,20,21,22,23,24,25,26,27,28,29,30,31,32] (λn vs M=>∃(k:Nat) (es:Array cu) (c:Nat),vs=[X6 (k:Int)]/\Mem w M [mI r es c,bI F [X6 p.x,X6 p.y,X6 p.z] 30]/\(bY pt bw (gA [] (((ts.filter λt=>t.has p).take k).flatMap (nbT p))) es c)/\(k<=q)/\(n=q-k)) ?_ ?_
 .exact⟨_,0,_,_,O,m,d,bn _,O⟩
 intro n vs wr f u Y Q
 obtain⟨k,o,l,rfl,m,d,hk,hn⟩:=f;simp only[zu,zF,zG];apply L 5 [0,0] m;simp only[↓U];refine bC O ?_ ?_<;>intro ab
 .obtain⟨t,J,_,a,rfl,W⟩:=j.get (i:=k) (by omega);apply xI 29 [0,1,0,1,4,1,0] m;simp only[↓U,fR,lL,dM,ah,ai,aa];refine⟨_,λu m=>((W.ext m.ext).lies cD aW),λg3=>⟨by omega,?_⟩⟩;intro u m;refine aD (uI O O) ?_;apply lK 9 [0,1,4,0] m;simp only[↓U,fB,aP,aa];refine λg4=>⟨_,lQ,?_⟩
  intro u m;refine gY m 2 [] [29,30] (λvs i=>∃(es:Array cu) (c:Nat),vs=[]/\i=mI r es c/\(bY pt bw (gA [] ((((ts.filter λt=>t.has p).take k).flatMap (nbT p))++nbK p t.a)) es c)) ?_ ?_
  . intro K2 s
    refine bC O ?_ ?_<;>intro e
    .apply L 3 [1,0] m;simp only[↓U,aP];refine nM (ek:=pt) (en:=bw) (a:=t.a) (v:=Z) m 2 O nX gD O O O d ?_;intro o l u m d;simp only[zF,zG] at m;rw[<-mE] at d;apply aH 1 [0] m;simp only[↓U];exact s _ _ _ (by kernel_rfl) m ⟨_,_,O,O,by rw[alw e];exact d⟩
    apply L 1 [0] m;simp only[↓U];exact s _ _ _ (by kernel_rfl) m ⟨_,_,O,O,by rw[alx e,fb];exact d⟩
  intro vs i wr m f u
  obtain⟨o,l,rfl,rfl,d⟩:=f;simp only[zF,zG] at m;simp only[zu,zF,zG];apply aT 17 [1,0] m;simp only[↓U,an];apply I0;omega;refine aD (uJ O O) ?_;apply lK 9 [0,1,5,0] m;simp only[↓U,fB,aP,aa];refine λg5=>⟨_,lQ,?_⟩
  intro u m;refine gY m 3 [] [29,30] (λvs i=>∃(es:Array cu) (c:Nat),vs=[]/\i=mI r es c/\(bY pt bw (gA [] (((((ts.filter λt=>t.has p).take k).flatMap (nbT p))++nbK p t.a)++nbK p t.b)) es c)) ?_ ?_
  . intro K3 B
    refine bC O ?_ ?_<;>intro e
    .apply L 3 [1,0] m;simp only[↓U,aP];refine nM (ek:=pt) (en:=bw) (a:=t.b) (v:=Z) m 3 O nX gD O O O d ?_;intro o l u m d;simp only[zF,zG] at m;rw[<-mE] at d;apply aH 1 [0] m;simp only[↓U];exact B _ _ _ (by kernel_rfl) m ⟨_,_,O,O,by rw[alw e];exact d⟩
    apply L 1 [0] m;simp only[↓U];exact B _ _ _ (by kernel_rfl) m ⟨_,_,O,O,by rw[alx e,fb];exact d⟩
  intro vs i wr m f u
  obtain⟨o,l,rfl,rfl,d⟩:=f;simp only[zF,zG] at m;simp only[zu,zF,zG];apply aT 17 [1,0] m;simp only[↓U,an];apply I0;omega;refine aD (uK O O) ?_;apply lK 9 [0,1,6,0] m;simp only[↓U,fB,aP,aa];refine λg6=>⟨_,lQ,?_⟩
  intro u m;refine gY m 4 [] [29,30] (λvs i=>∃(es:Array cu) (c:Nat),vs=[]/\i=mI r es c/\(bY pt bw (gA [] ((((((ts.filter λt=>t.has p).take k).flatMap (nbT p))++nbK p t.a)++nbK p t.b)++nbK p t.c)) es c)) ?_ ?_
  . intro K4 C
    refine bC O ?_ ?_<;>intro e
    .apply L 3 [1,0] m;simp only[↓U,aP];refine nM (ek:=pt) (en:=bw) (a:=t.c) (v:=Z) m 4 O nX gD O O O d ?_;intro o l u m d;simp only[zF,zG] at m;rw[<-mE] at d;apply aH 1 [0] m;simp only[↓U];exact C _ _ _ (by kernel_rfl) m ⟨_,_,O,O,by rw[alw e];exact d⟩
    apply L 1 [0] m;simp only[↓U];exact C _ _ _ (by kernel_rfl) m ⟨_,_,O,O,by rw[alx e,fb];exact d⟩
  intro vs i wr m f u
  obtain⟨o,l,rfl,rfl,d⟩:=f;simp only[zF,zG] at m;simp only[zu,zF,zG];apply aT 18 [2,0] m;simp only[↓U,an];apply I0;omega;exact Q (q-(k+1)) _ _ (by omega) (by kernel_rfl) ⟨k+1,_,_,O,(m.sel [X3,X3,X3,X3,Z,Z]),by rw[aly J];exact d,by omega,O⟩
 obtain rfl:k=q:=by omega
 rw[show (ts.filter λt=>t.has p).take k=ts.filter λt=>t.has p from au (by omega)] at d;apply L 7 [] m;simp only[↓U];exact aS O O ⟨_,O,m.ext,_,_,_,O,m.sel [Z,X3],d⟩
end Go.Proofs.YtfekpcimgncioaaGreatDoor
namespace Go.Lith
open Go.RowKit
section
variable {P:bt} {l:List aj} {T ty:ba} {x y:b_} {k:IntKind} {m:Int}
def alz{n c:Nat}{E:ba}{a:Addr}(d:P.underlying T=X4 (.array n E))(hc:dO P E c)(f:ev l x=.pointer (X4 a)) :
 iB P l (.slice T x X5 X5 X5) ty (.slice (X4 a) n n):=λw o b _=>by
 have e:(if n=0 then a else a.add (0*c))=a:=by
  split
  .rfl
  simp[Addr.add]
 simp[dw,b,cN,f,Instr.sliceAt,Instr.sliceBounds,Instr.sliceBound,asIntOf,cl d,dY hc,Instr.sureAddr,e];intro _;simp[Addr.add]
def aff{n c q:Nat}{E:ba}{a b:Addr}(g:P.underlying T=X4 (.array n E))(hc:dO P E c)(h:ev l x=.pointer (X4 a))(i:ev l y=.int k m)(hq:m.toNat=q)(d:0<=m)(h1:m<=n)(e:(if n=q then a else a.add (q*c))=b) :
 iB P l (.slice T x (X4 y) X5 X5) ty (.slice (X4 b) (n-q) (n-q)):=λw o f _=>by
 subst hq;subst e;simp[dw,f,cN,h,i,Instr.sliceAt,Instr.sliceBounds,Instr.sliceBound,asIntOf,cl g,dY hc,Instr.sureAddr,d,h1]
def ah4{n len cap:Nat}{E:ba}{A:Option Addr}(b:P.underlying T=X4 (.array n E))(c:ev l x=.slice A len cap)(h:n<=len) :
 iB P l (.sliceToArrayPointer T x) ty (.pointer A):=λw o a _=>by
 have:¬len<n:=by omega
 simp[dw,a,cN,c,Instr.arrayAt,cl b,this]
end
end Go.Lith
namespace Go.Proofs.YtfekpcimgncioaaGreatDoor
open Go.Proofs.Tryz
open Go.RowKit Go.Lith
set_option maxRecDepth 100000
attribute [local irreducible] az cw fW bX cP Code.wp
attribute [local congr] dK dL cR dJ
def Nm(m n:Int):(if n<m then n else m)=min m n:=by omega
def Nn(m n:Int):(if m<n then n else m)=max m n:=by omega
def acT{t:T3}:dF prog 173 [tr t] (.agg #[X6 (Fb t 0),X6 (Fb t 1),X6 (Fb t 2),X6 (Fc t 0),X6 (Fc t 1),X6 (Fc t 2)]):=by
 intro w;refine⟨bJ func173 (by kernel_rfl),?_⟩;have m:=Mem.refl w
 go_enter func173,ntmps173
 apply gH 14 [2,2] m;simp only[↓U,aeT,bQ,gN,dC,gQ,ad,ag,aa];intro A B;apply I0;omega;intro u m;apply aT 13 [2,2,2,2] m;simp only[↓U,iG,dC,tU,bQ,gN,gQ,aa,ad,ag];apply I0;omega;apply Mr 7 [0,0] m;simp only[↓U,ar0,aeT,aeS,aa];intro e u m;refine aD (aff eB aA O O O (by decide) (by decide) O) ?_;apply lK 27 [3,1,3,0,1] m;simp only[↓U,reduceIte,gV,gG,aP,fB,gN,dC,gQ,Nat.reduceEqDiff,ag,aa,ad];intro C;apply I0;omega;intro u m;apply aT 21 [1,1,4,1,0] m;simp only[↓U,dC,iG,tU,aa];apply I0;omega;refine aD (jJ O O) ?_;apply aH 3 [0] m;simp only[↓U];refine gY m 1 [] [46,47,48,49,50,51,52,53,54,55,56,57,58,59,60,61,62,63] (λvs i=>vs=[]/\i=bI e [X6 (min t.a.x t.b.x),X6 t.a.y,X6 t.a.z,X6 (max t.a.x t.b.x),X6 t.a.y,X6 t.a.z] 222) ?_ ?_
 . intro o f
   refine zvt [Z,X3,Z,Z] [[],[],[],[],[],[2],[],[],[],[],[],[2],[],[],[],[],[1],[],[],[1]] (.take 0 (.take 1 (.take 2 (.take 3 (.take 4 (.take 6 (.take 8 (.take 9 (.take 10 (.take 12 (.take 14 (.take 17 (.two 5 (.take 7 (.one 11 (.take 13 (.take 15 (.one 16 (.take 18 (.one 19 .nil))))))) 11 (.take 13 (.one 5 (.take 7 (.take 15 (.one 16 (.take 18 (.one 19 .nil)))))))))))))))))))) m aB (by kernel_rfl) (bS (λ_ _ _ _ _ h=>h)) ?_;simp only[↓U,↓zzu,jT,fD,jU,dC,Nm,Nn,aa,ad,ag];apply I0;omega;intro u m;exact gk (f _ _ _ (by kernel_rfl) m ⟨O,(by first | rfl | trivial)⟩)
 intro vs i wr m d u
 obtain⟨rfl,rfl⟩:=d;simp only[zF,zG] at m;simp only[zu,zF,zG];apply aT 18 [1,0] m;simp only[↓U,an];apply I0;omega;refine aD (jK O O) ?_;apply aH 3 [0] m;simp only[↓U];refine gY m 1 [] [46,47,48,49,50,51,52,53,54,55,56,57,58,59,60,61,62,63] (λvs i=>vs=[]/\i=bI e [X6 (min t.a.x t.b.x),X6 (min t.a.y t.b.y),X6 t.a.z,X6 (max t.a.x t.b.x),X6 (max t.a.y t.b.y),X6 t.a.z] 222) ?_ ?_
 . intro p g
   refine zvt [Z,X3,Z,Z] [[],[],[],[],[],[2],[],[],[],[],[],[2],[],[],[],[],[1],[],[],[1]] (.take 0 (.take 1 (.take 2 (.take 3 (.take 4 (.take 6 (.take 8 (.take 9 (.take 10 (.take 12 (.take 14 (.take 17 (.two 5 (.take 7 (.one 11 (.take 13 (.take 15 (.one 16 (.take 18 (.one 19 .nil))))))) 11 (.take 13 (.one 5 (.take 7 (.take 15 (.one 16 (.take 18 (.one 19 .nil)))))))))))))))))))) m aB (by kernel_rfl) (bS (λ_ _ _ _ _ h=>h)) ?_;simp only[↓U,↓zzu,jT,fD,jU,dC,Nm,Nn,aa,ad,ag];apply I0;omega;intro u m;exact gk (g _ _ _ (by kernel_rfl) m ⟨O,(by first | rfl | trivial)⟩)
 intro vs i wr m d u
 obtain⟨rfl,rfl⟩:=d;simp only[zF,zG] at m;simp only[zu,zF,zG];apply aT 18 [1,0] m;simp only[↓U,an];apply I0;omega;refine aD (jL O O) ?_;apply aH 3 [0] m;simp only[↓U];refine gY m 1 [] [46,47,48,49,50,51,52,53,54,55,56,57,58,59,60,61,62,63] (λvs i=>vs=[]/\i=bI e [X6 (min t.a.x t.b.x),X6 (min t.a.y t.b.y),X6 (min t.a.z t.b.z),X6 (max t.a.x t.b.x),X6 (max t.a.y t.b.y),X6 (max t.a.z t.b.z)] 222) ?_ ?_
 . intro q j
   refine zvt [Z,X3,Z,Z] [[],[],[],[],[],[2],[],[],[],[],[],[2],[],[],[],[],[1],[],[],[1]] (.take 0 (.take 1 (.take 2 (.take 3 (.take 4 (.take 6 (.take 8 (.take 9 (.take 10 (.take 12 (.take 14 (.take 17 (.two 5 (.take 7 (.one 11 (.take 13 (.take 15 (.one 16 (.take 18 (.one 19 .nil))))))) 11 (.take 13 (.one 5 (.take 7 (.take 15 (.one 16 (.take 18 (.one 19 .nil)))))))))))))))))))) m aB (by kernel_rfl) (bS (λ_ _ _ _ _ h=>h)) ?_;simp only[↓U,↓zzu,jT,fD,jU,dC,Nm,Nn,aa,ad,ag];apply I0;omega;intro u m;exact gk (j _ _ _ (by kernel_rfl) m ⟨O,(by first | rfl | trivial)⟩)
 intro vs i wr m d u
 obtain⟨rfl,rfl⟩:=d;simp only[zF,zG] at m;simp only[zu,zF,zG];apply Mr 34 [2,1,4,0] m;simp only[↓U,gG,aP,fB,an,ad,ag,aa];intro D;apply I0;omega;intro u m;apply aT 25 [1,1,1,4,1] m;simp only[↓U,gN,dC,gQ,iG,tU,aa];apply I0;omega;apply aT 2 [0] m;simp only[↓U];refine aD (jJ O O) ?_;apply aH 3 [0] m;simp only[↓U];refine gY m 2 [] [46,47,48,49,50,51,52,53,54,55,56,57,58,59,60,61,62,63] (λvs i=>vs=[]/\i=bI e [X6 (min (min t.a.x t.b.x) t.c.x),X6 (min t.a.y t.b.y),X6 (min t.a.z t.b.z),X6 (max (max t.a.x t.b.x) t.c.x),X6 (max t.a.y t.b.y),X6 (max t.a.z t.b.z)] 222) ?_ ?_
 . intro r k
   refine zvt [Z,Z,X3,Z,Z] [[],[],[],[],[],[3],[],[],[],[],[],[3],[],[],[],[],[2],[],[],[2]] (.take 0 (.take 1 (.take 2 (.take 3 (.take 4 (.take 6 (.take 8 (.take 9 (.take 10 (.take 12 (.take 14 (.take 17 (.two 5 (.take 7 (.one 11 (.take 13 (.take 15 (.one 16 (.take 18 (.one 19 .nil))))))) 11 (.take 13 (.one 5 (.take 7 (.take 15 (.one 16 (.take 18 (.one 19 .nil)))))))))))))))))))) m aB (by kernel_rfl) (bS (λ_ _ _ _ _ h=>h)) ?_;simp only[↓U,↓zzu,jT,fD,jU,dC,Nm,Nn,aa,ad,ag];apply I0;omega;intro u m;exact gk (k _ _ _ (by kernel_rfl) m ⟨O,(by first | rfl | trivial)⟩)
 intro vs i wr m d u
 obtain⟨rfl,rfl⟩:=d;simp only[zF,zG] at m;simp only[zu,zF,zG];apply aT 18 [1,0] m;simp only[↓U,an];apply I0;omega;refine aD (jK O O) ?_;apply aH 3 [0] m;simp only[↓U];refine gY m 2 [] [46,47,48,49,50,51,52,53,54,55,56,57,58,59,60,61,62,63] (λvs i=>vs=[]/\i=bI e [X6 (min (min t.a.x t.b.x) t.c.x),X6 (min (min t.a.y t.b.y) t.c.y),X6 (min t.a.z t.b.z),X6 (max (max t.a.x t.b.x) t.c.x),X6 (max (max t.a.y t.b.y) t.c.y),X6 (max t.a.z t.b.z)] 222) ?_ ?_
 . intro s l
   refine zvt [Z,Z,X3,Z,Z] [[],[],[],[],[],[3],[],[],[],[],[],[3],[],[],[],[],[2],[],[],[2]] (.take 0 (.take 1 (.take 2 (.take 3 (.take 4 (.take 6 (.take 8 (.take 9 (.take 10 (.take 12 (.take 14 (.take 17 (.two 5 (.take 7 (.one 11 (.take 13 (.take 15 (.one 16 (.take 18 (.one 19 .nil))))))) 11 (.take 13 (.one 5 (.take 7 (.take 15 (.one 16 (.take 18 (.one 19 .nil)))))))))))))))))))) m aB (by kernel_rfl) (bS (λ_ _ _ _ _ h=>h)) ?_;simp only[↓U,↓zzu,jT,fD,jU,dC,Nm,Nn,aa,ad,ag];apply I0;omega;intro u m;exact gk (l _ _ _ (by kernel_rfl) m ⟨O,(by first | rfl | trivial)⟩)
 intro vs i wr m d u
 obtain⟨rfl,rfl⟩:=d;simp only[zF,zG] at m;simp only[zu,zF,zG];apply aT 18 [1,0] m;simp only[↓U,an];apply I0;omega;refine aD (jL O O) ?_;apply aH 3 [0] m;simp only[↓U];refine gY m 2 [] [46,47,48,49,50,51,52,53,54,55,56,57,58,59,60,61,62,63] (λvs i=>vs=[]/\i=bI e [X6 (min (min t.a.x t.b.x) t.c.x),X6 (min (min t.a.y t.b.y) t.c.y),X6 (min (min t.a.z t.b.z) t.c.z),X6 (max (max t.a.x t.b.x) t.c.x),X6 (max (max t.a.y t.b.y) t.c.y),X6 (max (max t.a.z t.b.z) t.c.z)] 222) ?_ ?_
 . intro v n
   refine zvt [Z,Z,X3,Z,Z] [[],[],[],[],[],[3],[],[],[],[],[],[3],[],[],[],[],[2],[],[],[2]] (.take 0 (.take 1 (.take 2 (.take 3 (.take 4 (.take 6 (.take 8 (.take 9 (.take 10 (.take 12 (.take 14 (.take 17 (.two 5 (.take 7 (.one 11 (.take 13 (.take 15 (.one 16 (.take 18 (.one 19 .nil))))))) 11 (.take 13 (.one 5 (.take 7 (.take 15 (.one 16 (.take 18 (.one 19 .nil)))))))))))))))))))) m aB (by kernel_rfl) (bS (λ_ _ _ _ _ h=>h)) ?_;simp only[↓U,↓zzu,jT,fD,jU,dC,Nm,Nn,aa,ad,ag];apply I0;omega;intro u m;exact gk (n _ _ _ (by kernel_rfl) m ⟨O,(by first | rfl | trivial)⟩)
 intro vs i wr m d u
 obtain⟨rfl,rfl⟩:=d;simp only[zF,zG] at m;simp only[zu,zF,zG];apply Mr 32 [2,2,3,3] m;simp only[↓U,aeS,an,aa];apply I0;omega;intro u m;exact aS O ⟨_,O,((m.b 3 O).full af6 Yg)⟩ ⟨_,O,m.ext,O⟩
end Go.Proofs.YtfekpcimgncioaaGreatDoor
namespace Go.Lith
open Go.RowKit
section
variable {P:bt} {ops:Array Oper} {Q:Exit->Act->ak->Prop} {rest:List Oper} {d j:Nat} {ty:ba} {pos:String} {after:Array Edge} {v:aj} {b:Bool} {ds:List ej} {l:List aj} {w w0:ak} {is:List It}
variable {f:FuncId} {fo:b_} {xs:Array b_} {args:List aj} {first cap:Array aj} {a0:Array ba}
def abd(m:Mem w0 w is)(a:yielded ops l.toArray j=X4 b)(c:ev l fo=.func (.func f) first cap)(g:b=Z->first.toList++xs.toList.map (ev l)++cap.toList=args)(hc:b=Z->cY P f args w λx _=>x=v)
 (h:∀u,Mem w0 u is->az P ops Q rest (Fr (l.set d (Rq b v)) ds) u):az P ops Q (bu (X4 d) (.call { callee:=.value fo,args:=xs,argTypes:=a0 }) ty pos after (X4 (j,Z))::rest) (Fr l ds) w:=by
 cases b with
 | false=>simp only[Cy] at h;exact pQ a (h w m)
 | true=>simp only[iM] at h;exact eP a (cK m c (g rfl) (hc rfl) λx u m e=>by subst e;exact h u m)
end
section
variable {P:bt} {ops:Array Oper} {Q:Act->Prop} {rest:List Oper} {d j:Nat} {ty:ba} {pos:String} {after:Array Edge} {v:aj} {b:Bool} {ds:List ej} {l:List aj} {w0:ak} {is:List It}
variable {f:FuncId} {fo:b_} {xs:Array b_} {args:List aj} {first cap:Array aj} {a0:Array ba}
end
/-! ### Rows of edges and moves -/
end Go.Lith
namespace Go.Proofs.YtfekpcimgncioaaGreatDoor
open Go.Proofs.Tryz
open Go.RowKit Go.Lith
set_option maxRecDepth 100000
attribute [local irreducible] az cw fW bX cP Code.wp
attribute [local congr] dK dL cR dJ
variable{g90 g91 ga gf gx gy N cap cx cf nm cm co nr cr cy:Nat}{Am Ao Ar:Option Addr}{q k:H}{t:T3}{os ms:List T3}
def ah5{cy no:Nat}{A:Option Addr}{ex ey ef:Array cu}{X Y F:List (H × Bool)}{ts:List T3}{p:H}(w:ak)(b:fQ w g91 [.pointer (X4 ⟨g90,0,X5⟩),X6 p.x,X6 p.y,X6 p.z,X6 q.x,X6 q.y,X6 q.z,.map (X4 gx),.map (X4 gy),.slice Am nm cm,.slice Ao no co,.slice Ar nr cr] 218)(h:fQ w g90 [.slice A N cap,.map (X4 ga),.map (X4 gf)] 109)(g:iR w gx ex cx)(e:bY pt bw X ex cx)(f:iR w gf ef cf)(d:bY pt bw F ef cf):cY prog 100 [.pointer (X4 ⟨g91,0,X5⟩)] w (λv _=>v=.bool ((cG X q).getD X3 && !(cG F p).getD X3)):=by
 refine⟨bJ func100 (by kernel_rfl),?_⟩;have m:=Mem.refl w
 go_enter func100,ntmps100
 apply fF 5 [0] m;simp only[↓U];refine mq m aB (by kernel_rfl) (cX 3 [] ?_);simp only[↓U,Tq,aa];refine ql O (λu m=>((b.ext m.ext).lies1 uH O)) ?_;simp only[G];refine cX 3 [] ?_;simp only[↓U,Tp,aa];refine ql O (λu m=>((b.ext m.ext).lies aG aA O O)) ?_;simp only[G,zy,ai,aa,ag,ad];refine kC (λu m=>eN (ek:=pt) (en:=bw) (k:=q) (v0:=X3) nX pB gD O O (g.ext m.ext) e) ?_;simp only[G];refine aK aJ (cQ O (λa=>aJ) (cQ O (λa=>dT (bL a O)) (cQ O (λa=>aU (c:=0) nY O Ta (bL a O) O) ?_)));simp only[G];refine eM O (λa u m=>bD (bL a O) ((b.ext m.ext).lies1 aaE O)) (cQ O (λa=>dT (bL a O)) (cQ O (λa=>aU (c:=0) underlying109 O Fh (bL a O) O) ?_));simp only[G];refine eM O (λa u m=>bD (bL a O) ((h.ext m.ext).lies1 uH O)) (cQ O (λa=>aJ) (cQ O (λa=>dT (bL a O)) (cQ O (λa=>aU (c:=2) nY O aA (bL a O) O) ?_)));simp only[G];refine eM O (λa u m=>bD (bL a O) ((b.ext m.ext).lies aG aA O O)) ?_;simp only[G,zy,ai,aa,ag,ad];refine eM O (λa u m=>eN (ek:=pt) (en:=bw) (k:=p) (v0:=X3) nX pB gD (bL a O) (bL a O) (f.ext m.ext) d) ?_;simp only[G];refine cQ O (λa=>pS (bL a O)) (aK (eE O O O) (aK aM (aZ ?_)));intro u m;apply aT 1 [] m;simp only[↓U];exact aS O O ⟨_,O,m.ext,O⟩
def Hx(Y:List (H × Bool))(a:List (H × Bool)):Nat:=((a.map (·.1)).filter λk=>(cG Y k).getD X3).length
def asN{Y a:List (H × Bool)}{b:Bool}(h:(cG Y k).getD X3=Z):Hx Y (a++[(k,b)])=Hx Y a+1:=by
 unfold Hx;rw[de,gp,aq];simp[h]
def asO{Y a:List (H × Bool)}{b:Bool}(h:(cG Y k).getD X3=X3):Hx Y (a++[(k,b)])=Hx Y a:=by
 unfold Hx;rw[de,gp,aq];simp[h]
def agD(Y a:List (H × Bool)):Hx Y a<=a.length:=by
 unfold Hx;have:=fw (λk=>(cG Y k).getD X3) (a.map (·.1));rwa [cj] at this
def ah6{Y a D:List (H × Bool)}(h:a.Perm D):Hx Y a=Hx Y D:=by
 unfold Hx;exact ((h.map qu).filter _).length_eq
def ah7{cf no:Nat}{A:Option Addr}{ex ey ef:Array cu}{X Y F:List (H × Bool)}{ts:List T3}{p:H}(w:ak)(I:fQ w g91 [.pointer (X4 ⟨g90,0,X5⟩),X6 p.x,X6 p.y,X6 p.z,X6 q.x,X6 q.y,X6 q.z,.map (X4 gx),.map (X4 gy),.slice Am nm cm,.slice Ao no co,.slice Ar nr cr] 218)(ad:fQ w g90 [.slice A N cap,.map (X4 ga),.map (X4 gf)] 109)(i:iR w gx ex cx)(h:bY pt bw X ex cx)(Q:iR w gy ey cy)(P:bY pt bw Y ey cy)(ab:X.length<=100000000):cY prog 101 [.pointer (X4 ⟨g91,0,X5⟩)] w (λv _=>v=.bool (decide (Hx Y X=2))):=by
 refine⟨bJ func101 (by kernel_rfl),?_⟩;have m:=Mem.refl w
 go_enter func101,ntmps101
 apply fF 14 [0] m;simp only[↓U,Tq,aa];refine bE O ((I.ext m.ext).lies1 uH O) ?_;simp only[G];refine xC m nX O (i.ext m.ext) ?_;intro K u m;apply aH 2 [0] m;simp only[↓U];refine bT [3] [4,10,11,12,13,14,15,16,17,18,19,20,21] (λn vs M=>∃(a rs:List (H × Bool)) (d:Array Nat) (c:Nat),vs=[X6 (c:Int)]/\Mem w M [iI K gx cx d]/\(oJ pt bw X ex d a rs)/\(c=Hx Y a)/\(n=rs.length)) ?_ ?_
 .exact⟨_,[],X,#[],0,O,m,oJ.start h,O,O⟩
 intro n vs wr J u S D
 obtain⟨a,rs,d,c,rfl,m,f,o,t⟩:=J;have ae:=f.len;simp only[zu,zF,zG];apply L 2 [0] m;simp only[↓U];refine Ol m 0 O O (i.ext m.ext) h f ?_;intro T W vv d u m s;simp only[zF,zG] at m;refine aD (qJ O) ?_;apply aH 2 [0] m;simp only[↓U];refine cL O ?_ ?_<;>intro E
 .obtain⟨g,B,e,hp,j⟩:=Jj E s;apply L 4 [0] m;simp only[↓U];refine fI (uE O (m.r 0 O) (i.ext m.ext) h j) ?_;simp only[G];apply lK 5 [0,0] m;simp only[↓U,fB,aP,aa];intro V u m;refine mq m aB (by kernel_rfl) (cX 3 [] ?_);simp only[↓U,akK,aa];refine ql O (λu m=>((I.ext m.ext).lies1 uH O)) ?_;simp only[G];refine ql O (λu m=>((m.b 0 O).full aG aA)) ?_;simp only[G];refine kC (λu m=>eN (ek:=pt) (en:=bw) (k:=g) (v0:=X3) nX pB gD O O (Q.ext m.ext) P) ?_;simp only[G];refine aZ ?_;intro u m;refine gc (cL O (λl=>?_) (λl=>?_))
  .apply L 2 [0] m;simp only[↓U];refine aD (fU O O (bZ (by have:=agD Y a;omega) (by have:=agD Y a;omega))) ?_;apply aH 3 [0] m;simp only[↓U];exact D e.length _ _ (by rw[t,hp.length_eq];exact fx _) (by kernel_rfl) ⟨a++[(g,B)],e,_,c+1,O,(m.sel [X3,Z]),j,by rw[asN l,o],O⟩
  apply L 2 [0] m;simp only[↓U];exact D e.length _ _ (by rw[t,hp.length_eq];exact fx _) (by kernel_rfl) ⟨a++[(g,B)],e,_,c,O,(m.sel [X3,Z]),j,by rw[asO l,o],O⟩
 obtain rfl:=Ji E s;have R:=ah6 (Y:=Y) f.done;apply L 8 [0] m;simp only[↓U];refine aS O O ?_;try simp only[zD,zE]
 exact⟨_,O,m.ext,by rw[<-R,<-o];exact C bw (decide_eq_decide.2 (by omega))⟩
def ah8(F Y:List (H × Bool))(q k:H):Bool:=decide (¬(k.x=q.x/\k.y=q.y/\k.z=q.z))&&(cG F k).getD X3 && !(cG Y k).getD X3
def abe(X Y F:List (H × Bool))(q:H):Bool:=!(cG F q).getD X3||(X.map qu).all λk=>!ah8 F Y q k
def asP{X Y F:List (H × Bool)}(h:(!(cG F q).getD X3)=Z):abe X Y F q=Z:=by unfold abe;rw[h];rfl
def aoT{X Y F:List (H × Bool)}{b:Bool}{a rs:List (H × Bool)}(h:(!(cG F q).getD X3)=X3)(hp:(a++[(k,b)]++rs).Perm X)(c:ah8 F Y q k=Z):abe X Y F q=X3:=by
 unfold abe;rw[h,jt,pf];refine⟨k,dj.2 ⟨(k,b),hp.mem_iff.1 (by simp),O⟩,by rw[c];decide⟩
def alA{X Y F:List (H × Bool)}{a:List (H × Bool)}(hp:a.Perm X)(b:∀x∈a,ah8 F Y q x.1=X3):abe X Y F q=Z:=by
 unfold abe;rw[fh];refine .inr (fe.2 λk c=>?_);obtain⟨x,d,rfl⟩:=dj.1 c;rw[b x (hp.mem_iff.2 d)];rfl
def alB{no:Nat}{A:Option Addr}{ex ey ef:Array cu}{X Y F:List (H × Bool)}{ts:List T3}{p:H}(w:ak)(d:fQ w g91 [.pointer (X4 ⟨g90,0,X5⟩),X6 p.x,X6 p.y,X6 p.z,X6 q.x,X6 q.y,X6 q.z,.map (X4 gx),.map (X4 gy),.slice Am nm cm,.slice Ao no co,.slice Ar nr cr] 218)(K:fQ w g90 [.slice A N cap,.map (X4 ga),.map (X4 gf)] 109)(j:iR w gx ex cx)(i:bY pt bw X ex cx)(ab:iR w gy ey cy)(V:bY pt bw Y ey cy)(B:iR w gf ef cf)(t:bY pt bw F ef cf):cY prog 103 [.pointer (X4 ⟨g91,0,X5⟩)] w (λv _=>v=.bool (abe X Y F q)):=by
 refine⟨bJ func103 (by kernel_rfl),?_⟩;have m:=Mem.refl w
 go_enter func103,ntmps103
 apply fF 6 [0] m;simp only[↓U];refine mq m aB (by kernel_rfl) (cX 3 [] ?_);simp only[↓U,akJ,aa];refine ql O (λu m=>((d.ext m.ext).lies1 aaE O)) ?_;simp only[G];refine aK (dT O) (cX 1 [] ?_);simp only[↓U,Tl,aa];refine ql O (λu m=>((K.ext m.ext).lies1 uH O)) ?_;simp only[G];refine cX 3 [] ?_;simp only[↓U,Tp,aa];refine ql O (λu m=>((d.ext m.ext).lies aG aA O O)) ?_;simp only[G,zy,ai,aa,ag,ad];refine kC (λu m=>eN (ek:=pt) (en:=bw) (k:=q) (v0:=X3) nX pB gD O O (B.ext m.ext) t) ?_;simp only[G];refine aK (pS O) (aZ ?_);intro u m;refine gc ?_;simp only[G];refine cL O ?_ ?_<;>intro D
 .apply L 5 [] m;simp only[↓U];refine aS O O ?_;try simp only[zD,zE]
  exact⟨_,O,m.ext,by rw[asP D]⟩
 apply L 7 [0] m;simp only[↓U,Tq,aa];refine bE O ((d.ext m.ext).lies1 uH O) ?_;simp only[G];refine xC m nX O (j.ext m.ext) ?_;intro S u m;apply aH 2 [0] m;simp only[↓U];refine bT [] [2,3,22,23,24,25,26,27,28,29,30,31,32,33,34,35,36,37,38,39,40,41,42,43,44,45,46,47,48,49,50,51] (λn vs T=>∃(e rs:List (H × Bool)) (f:Array Nat),vs=[]/\Mem w T [iI S gx cx f]/\(oJ pt bw X ex f e rs)/\(∀x∈e,ah8 F Y q x.1=X3)/\(n=rs.length)) ?_ ?_
 .exact⟨_,[],X,#[],rfl,m,oJ.start i,(λx h=>(by cases h)),rfl⟩
 intro n vs wr M u K1 W
 obtain⟨e,rs,f,rfl,m,s,C,P⟩:=M;simp only[zu,zF,zG];apply L 2 [0] m;simp only[↓U];refine Ol m 0 O O (j.ext m.ext) i s ?_;intro bb kk vv f u m o;simp only[zF,zG] at m;refine aD (qJ O) ?_;apply aH 2 [0] m;simp only[↓U];refine cL O ?_ ?_<;>intro E
 .obtain⟨g,R,J,hp,l⟩:=Jj E o;apply L 4 [0] m;simp only[↓U];refine fI (uE O (m.r 0 O) (j.ext m.ext) i l) ?_;simp only[G];apply lK 5 [0,0] m;simp only[↓U,fB,aP,aa];intro g2 u m;refine mq m aB (by kernel_rfl) (cX 4 [1] ?_);simp only[↓U,aP,Tp,aa];refine ql O (λu m=>((d.ext m.ext).lies aG aA O O)) ?_;simp only[G,zy,ai,aa,ag,ad];refine aK (Fl O O) (aK aJ (cQ O (λa=>aJ) (cQ O (λa=>dT (bL a O)) ?_)));simp only[G];refine cQ O (λa=>aU (c:=0) nY O Ta (bL a O) O) ?_;simp only[G];refine eM O (λa u m=>bD (bL a O) ((d.ext m.ext).lies1 aaE O)) (cQ O (λa=>dT (bL a O)) (cQ O (λa=>aU (c:=0) underlying109 O Fh (bL a O) O) ?_));simp only[G];refine eM O (λa u m=>bD (bL a O) ((K.ext m.ext).lies1 uH O)) (eM O (λa u m=>bD O ((m.b 0 O).full aG aA)) (eM O (λa u m=>eN (ek:=pt) (en:=bw) (k:=g) (v0:=X3) nX pB gD (bL a O) (bL a O) (B.ext m.ext) t) ?_));simp only[G];refine aK (eE O O O) (aK aJ (cQ O (λa=>aJ) (cQ O (λa=>dT (bL a O)) ?_)));simp only[G];refine cQ O (λa=>aU (c:=0) nY O Fh (bL a O) O) ?_;simp only[G];refine eM O (λa u m=>bD (bL a O) ((d.ext m.ext).lies1 uH O)) (eM O (λa u m=>bD O ((m.b 0 O).full aG aA)) (eM O (λa u m=>eN (ek:=pt) (en:=bw) (k:=g) (v0:=X3) nX pB gD (bL a O) (bL a O) (ab.ext m.ext) V) ?_));simp only[G];refine cQ O (λa=>pS (bL a O)) (aK (eE O O O) (aZ ?_));intro u m;refine gc ?_;simp only[G];refine cL O ?_ ?_<;>intro I
  .apply L 5 [] m;simp only[↓U];refine aS O O ?_;try simp only[zD,zE]
   exact⟨_,O,m.ext,by rw[aoT D l.1 I]⟩
  apply L 2 [0] m;simp only[↓U];exact W J.length _ _ (by rw[P,hp.length_eq];exact fx _) (by kernel_rfl) ⟨e++[(g,R)],J,_,O,(m.sel [X3,Z]),l,(λx Q=>(bh.1 Q).elim (C x) λh=>(by rw[a_.1 h];exact I)),O⟩
 obtain rfl:=Ji E o;apply L 6 [] m;simp only[↓U];refine aS O O ?_;try simp only[zD,zE]
 exact⟨_,O,m.ext,by rw[alA s.done C]⟩
def Hy  : decide (bA t.normal.x=0/\bA t.normal.y=0/\bA t.normal.z=0)=fK t:=by
 unfold fK;refine decide_eq_decide.2 ?_;rw[cA,cA,cA];show (dU t.a t.b t.c).x=0/\(dU t.a t.b t.c).y=0/\(dU t.a t.b t.c).z=0↔_
 unfold iJ;generalize dU t.a t.b t.c=n;by_cases h1:n.x=0 <;> by_cases h2:n.y=0 <;> by_cases d:n.z=0 <;> simp[h1,h2,d]
def ah9(o t:T3):Bool:=!fK t&&decide (Vz o t=1)
def afg(os ms:List T3):Bool:=(os.zip ms).all λx=>ah9 x.1 x.2
def alC{k:Nat}{x:T3 × T3}:(os.zip ms)[k]? = X4 x↔os[k]? = X4 x.1/\ms[k]? = X4 x.2:=by
 obtain⟨a,b⟩:=x;rw[List.getElem?_zip_eq_some]
def aoU{k:Nat}{o:T3}(b:os[k]? = X4 o)(c:ms[k]? = X4 t)(h:(fK t||decide (¬Vz o t=1))=Z):afg os ms=X3:=by
 unfold afg;rw[pf];refine⟨(o,t),bf (alC.2 ⟨b,c⟩),?_⟩;unfold ah9;cases a:fK t <;> rw[a] at h <;> simp at h ⊢;exact h
def alD(h:∀(j:Nat) (o t:T3),os[j]? = X4 o->ms[j]? = X4 t->ah9 o t=Z):afg os ms=Z:=by
 unfold afg;rw[fe];intro x b;obtain⟨j,a⟩:=df.1 b;obtain⟨h1,h2⟩:=alC.1 a;exact h j _ _ h1 h2
def auO{o:T3}(h:(fK t||decide (¬Vz o t=1))=X3):ah9 o t=Z:=by
 unfold ah9;cases a:fK t <;> rw[a] at h <;> simp at h ⊢;exact h
def afh{cx cy cf no:Nat}{A:Option Addr}{ex ey ef:Array cu}{X Y F:List (H × Bool)}{ts:List T3}{p:H}(w:ak)(B:fQ w g91 [.pointer (X4 ⟨g90,0,X5⟩),X6 p.x,X6 p.y,X6 p.z,X6 q.x,X6 q.y,X6 q.z,.map (X4 gx),.map (X4 gy),.slice Am nm cm,.slice Ao no co,.slice Ar nr cr] 218)(af:fQ w g90 [.slice A N cap,.map (X4 ga),.map (X4 gf)] 109)(J:bW w Am nm ms)(l:bW w Ao no os)(K:no=nm)(T:nm<=10000000):cY prog 104 [.pointer (X4 ⟨g91,0,X5⟩)] w (λv _=>v=.bool (afg os ms)):=by
 refine⟨bJ func104 (by kernel_rfl),?_⟩;have m:=Mem.refl w;subst K
 go_enter func104,ntmps104
 apply fF 10 [0] m;simp only[↓U,Kh,aa];refine bE O ((B.ext m.ext).lies1 tG O) ?_;simp only[G];apply aH 4 [0] m;simp only[↓U,gM];refine bT [10] [2,3,4,11,12,13,14,15,16,17,18,19,20,21,22,23,24,25,26,27,28,29] (λn vs E=>∃(k:Nat),vs=[X6 (k:Int)]/\Mem w E []/\(∀(j:Nat) (o t:T3),j<k->os[j]? = X4 o->ms[j]? = X4 t->ah9 o t=Z)/\(k<=no)/\(n=no-k)) ?_ ?_
 .exact⟨_,0,O,m,(λj o t h=>by omega),bn _,O⟩
 intro n vs wr C u Q I
 obtain⟨k,rfl,m,s,W,hn⟩:=C;simp only[zu,zF,zG];apply L 5 [0,0] m;simp only[↓U];refine bC O ?_ ?_<;>intro ab
 .obtain⟨t,g,ae,a,rfl,M⟩:=J.get (i:=k) (by omega);obtain⟨o,f,ad,R,rfl,P⟩:=l.get (i:=k) (by omega);apply xI 13 [0,1,0,0] m;simp only[↓U,fR,lL,dM,ah,ai,aa];refine⟨_,λu m=>((M.ext m.ext).lies cD aW),λS=>⟨by omega,?_⟩⟩;intro u m;refine mq m aB (by kernel_rfl) (ql O (λu m=>((m.b 0 O).full cD aW)) ?_);simp only[G];refine eH O O (aa5 (t:=t)) (aK aJ (lN O (λd=>aJ) (lN O (λd=>dT (bL d O)) ?_)));simp only[G];refine lN O (λd=>aU (c:=0) nY O gL (bL d O) O) ?_;simp only[G];refine uC O (λd u m=>bD (bL d O) ((B.ext m.ext).lies1 tG O)) (lN O (λd=>aJ) ?_);simp only[G];refine lN O (λd=>aR fC aW (bL d O) (bL d O) (by omega) (by omega) (tM (ah _))) ?_;simp only[G];refine uC O (λd u m=>bD (bL d O) ((P.ext m.ext).lies cD aW)) (uC O (λd u m=>bD O ((m.b 0 O).full cD aW)) (afR O O (λd=>by simp only[ee,bi,dh,zA,zB,zC,zD,zE,d,iM];rfl) (λd=>ale (t:=o) (r:=t)) (lN rfl (λd=>rD (bL d rfl) rfl) (aK (gJ rfl rfl rfl) (aZ ?_)))));intro u m;refine gc ?_;simp only[G];refine cL O ?_ ?_<;>intro e
  .rw[Hy] at e;apply L 5 [] m;simp only[↓U];refine aS O O ?_;try simp only[zD,zE]
   exact⟨_,O,m.ext,by rw[aoU f g e]⟩
  rw[Hy] at e;apply L 6 [0] m;simp only[↓U];apply I0;omega;exact I (no-(k+1)) _ _ (by omega) (by kernel_rfl) ⟨k+1, rfl, (m.sel [X3]), (λj D t2 V h1 h2 => by
   rcases eh j k with h | h
   .exact s j D t2 h h1 h2
   obtain rfl:j=k:=by omega
   rw[f] at h1;rw[g] at h2;cases h1;cases h2;exact auO e),by omega,O⟩
 apply L 6 [] m;simp only[↓U];refine aS O O ?_;try simp only[zD,zE]
 exact⟨_,O,m.ext,by rw[alD λj o t h1 h2=>s j o t (by have:=(ao.1 h1).1;have:=l.len;omega) h1 h2]⟩
end Go.Proofs.YtfekpcimgncioaaGreatDoor
namespace Go.Lith
open Go.RowKit
variable{β:Type}
def Hz(u:H):Nat:=if u.x≠0 then 0 else if u.y≠0 then 1 else 2
def Oz(a b c:Int):Prop:=(0<=a/\0<=b/\0<=c)\/(a<=0/\b<=0/\c<=0)
/-! ### Corners -/
section
variable {P:bt} {ds:List ej} {l:List aj} {x y:b_} {T T' U t ty:ba} {v z:aj}
end
section
variable {P:bt} {ds:List ej} {l:List aj} {ty:ba} {v u:aj}
variable {ops:Array Oper} {Q:Exit->Act->ak->Prop} {rest:List Oper} {d:Nat} {pos:String} {after:Array Edge} {w w0:ak} {is:List It}
end
section
variable {P:bt} {w0:ak} {is:List It} {l:List aj} {ty:ba} {u:aj}
variable {ops:Array Oper} {Q:Act->Prop} {rest:List Oper} {d:Nat} {pos:String} {after:Array Edge} {v:aj} {ds:List ej}
end
section
variable {P:bt} {l:List aj} {x y z:b_} {ty:ba} {k:IntKind} {m n q r:Int}
def Ia{a0:Array ba}(b:ev l x=.int k m)(c:ev l y=.int k n)(d:ev l z=.int k q)(hr:(if q<(if n<m then n else m) then q else if n<m then n else m)=r):iB P l (.call { callee:=.builtin .min,args:=#[x,y,z],argTypes:=a0 }) ty (.int k r):=λw o a _=>by
 subst hr;simp[dw,a,resolve,invoke,builtin,Builtin.min_,Builtin.min2,cN,b,c,d]
def Ib{a0:Array ba}(b:ev l x=.int k m)(c:ev l y=.int k n)(d:ev l z=.int k q)(hr:(if (if m<n then n else m)<q then q else if m<n then n else m)=r):iB P l (.call { callee:=.builtin .max,args:=#[x,y,z],argTypes:=a0 }) ty (.int k r):=λw o a _=>by
 subst hr;simp[dw,a,resolve,invoke,builtin,Builtin.max_,Builtin.max2,cN,b,c,d]
end
def Pa(o:Oper):Bool:=match o.op with | .defer _=>X3 | _=>Z
def alE{o:Oper}(h:Pa o=Z):∀c,o.op≠.defer c:=λc e=>by unfold Pa at h;rw[e] at h;cases h
section
variable {P:bt} {Q:Exit->Act->ak->Prop} {r n:Nat}
def abf{row:String}{args:Array aj}{w:ak}{R:aj->ak->Prop}(h:Rows P row args w R):RowsIn (Fence.wide.inRound r) n P row args w R :=
 λc cs _=>let ⟨v,w',q,s⟩:=h c cs;⟨v,w',q,stepsIn_wide.2 s⟩
def Wq{f:FuncId}{args:Array aj}{w:ak}{R:Ending->ak->Prop}(h:Calls P f args w R):CallsIn (Fence.wide.inRound r) n P f args w R :=
 (callsIn_wide (n:=n)).2 h
def Oper.wpIn_of{o:Oper}{a:Act}{w:ak}{K:Act->ak->Prop}(c:Pa o=Z)(h:o.wp P a w K Q):o.wpIn (Fence.wide.inRound r) n P a w K Q:=by
 unfold Oper.wp at h;refine⟨λ_ _=>trivial,?_⟩;rw[Oper.semAt_eq _ _ _ (alE c)];generalize (dw a.eval o).run P w=z at *
 have b:(Fence.wide.inRound r).depth.isSome=Z->1<=n:=λh=>by cases h
 cases z with
 | ok x w'=>cases x <;> simp only[ot,qq] at h ⊢ <;> first | exact h | exact⟨b,Wq h⟩ | exact⟨b,abf h⟩ | exact h.elim
 | halt x w'=>cases x <;> simp only[ot,qq] at h ⊢ <;> exact h
def Ef{ops:Array Oper}(hq:¬LetsOut Q):∀(l:List Oper) (a:Act) (w:ak),l.all Pa=Z->az P ops Q l a w->wpListIn (Fence.wide.inRound r) n P ops Q l a w
 | [],a,w,_,h=>h
 | o::l,a,w,b,h=>by
  simp only[List.all_cons,bg] at b;simp only[az] at h;simp only[wpListIn];split
  . rename_i c
    rw[J c] at h;rcases h with h | ⟨_,h⟩
    .exact Oper.wpIn_of b.1 (Oper.wp_mono (λa w k=>Ef hq l a w b.2 k) h)
    exact Z8 h hq
  rename_i c
  rw[X c] at h;exact⟨λ_ _=>trivial,Ef hq l _ w b.2 h⟩
def Bj{md:Region.Mode}{ops:Array Oper}(hq:¬LetsOut Q)(b:∀(i:Nat) (o:Oper),ops[i]? = X4 o->Pa o=Z):∀(f:Nat) (c:Array Bool) (a:Act) (w:ak),wpAny P md ops Q f c a w->wpAnyIn (Fence.wide.inRound r) n P md ops Q f c a w
 | 0,c,a,w,h=>h
 | f+1,c,a,w,h=>by
  refine⟨h.1,λi g=>?_⟩;have h2:=h.2 i g;unfold wpOp at h2;unfold wpOpIn;split
  . rename_i j
    simp only[j] at h2;exact Bj hq b f _ a w h2
  rename_i o e
  simp only[e] at h2;split
  . rename_i d
    rw[J d] at h2;rcases h2 with h2 | ⟨_,h2⟩
    .exact Oper.wpIn_of (b i o e) (Oper.wp_mono (λa w k=>Bj hq b f _ a w k) h2)
    exact Z8 h2 hq
  rename_i d
  rw[X d] at h2;exact⟨λ_ _=>trivial,Bj hq b f _ _ w h2⟩
class Gx(Q:Exit->Act->ak->Prop):Prop where
 h:¬LetsOut Q
instance {K:Act->ak->Prop}[q:Gx Q]:Gx (Exit.then K Q):=⟨λ⟨a,w,k⟩=>q.h ⟨a,w,k⟩⟩
instance {id:Nat}[q:Gx Q]:Gx (dq id Q):=⟨λ⟨a,w,k⟩=>q.h ⟨a,w,k⟩⟩
instance {α:Type}{B:Nat}{Kp:ak->ak->Prop}{I:List α->ak->Prop}{Ix:Code->List α->ak->Prop}{xs:List α}{W:ak}:Gx (ownPostG B Kp I Ix xs W):=⟨λ⟨_,_,k⟩=>k⟩
instance:Gx (λ_ _ _=>False):=⟨λ⟨_,_,k⟩=>k⟩
def cE{id:Nat}{l:List Oper}{a:Act}{w:ak}[hq:Gx Q](h:az P l.toArray Q l a w)(b:l.all Pa=Z:=by rfl):(Code.region id l.toArray X3).wpIn (Fence.wide.inRound r) n P Q a w:=wpIn_region_lit (Ef hq.h l a w b h)
def oB{c1 c2:Code}{a:Act}{w:ak}(h:∀K:Act->ak->Prop,(∀a w,c2.wpIn (Fence.wide.inRound r) n P Q a w->K a w)->c1.wpIn (Fence.wide.inRound r) n P (Exit.then K Q) a w):(Code.seq c1 c2).wpIn (Fence.wide.inRound r) n P Q a w:=wpIn_seq_k h
variable {l:List aj} {ds:List ej} {w:ak} {c1 c2:Code}
def Bk{x:b_}{b:Bool}(d:ev l x=.bool b)(c:b=Z->c1.wpIn (Fence.wide.inRound r) n P Q (Fr l ds) w)(a:b=X3->c2.wpIn (Fence.wide.inRound r) n P Q (Fr l ds) w):(Code.cond x c1 c2).wpIn (Fence.wide.inRound r) n P Q (Fr l ds) w:=by
 refine wpIn_cond (t:=b) (by rw[jY,cN];exact d) ?_;cases b with
 | false=>exact a rfl
 | true=>exact c rfl
def pM{id:Nat}{c:Code}{a:Act}(h:c.wpIn (Fence.wide.inRound r) n P (dq id Q) a w):(Code.block id c).wpIn (Fence.wide.inRound r) n P Q a w:=wpIn_block h
def alF{a:Act}(h:Q .normal a w):Code.skip.wpIn (Fence.wide.inRound r) n P Q a w:=wpIn_skip h
def Ql{a:Act}(h:Q .ret a w):Code.ret.wpIn (Fence.wide.inRound r) n P Q a w:=wpIn_ret h
def Ce{C:ak->Prop}{id:Nat}{a:Act}{l:List Oper}(k:Nat)(hq:¬LetsOut Q)(v:l.all Pa=Z)(y:P.follows .mixedOrders=Z)(d:Region.lexTailB .any l.toArray k=Z)
 (u:C { w with drawn:=w.drawn+1 })
 (h:cw P l.toArray C (λc=>∀w',C w'->az P l.toArray Q (l.drop k) c w') (l.take k) a):(Code.region id l.toArray Z).wpIn (Fence.wide.inRound r) n P Q a w:=by
 simp only[Region.lexTailB,bg,R] at d;obtain⟨⟨⟨⟨E,p⟩,hs⟩,hc⟩,D⟩:=d;have J:k<l.length:=by simpa using p
 have b:(l.take k).length=k:=by simp;omega
 have s:(l.drop k).length=l.toArray.size-k:=by simp
 have F:HeadInv .any l.toArray k (gv l.toArray.size X3) :=
  ⟨by simp,λj I _ m=>(by rw[getD_replicate_false] at m;cases m),λt _ z=>getD_in (by simpa using z) (getD_replicate_false _ _)⟩
 have H:=yX (md:=.any) (g:=l.toArray.size-k) E hs hc p (l.take k) 0 _ a (λj f=>by
  have A:j<k:=by rw[b] at f;exact f
  simp[A]) (by simpa using b) F (by rw[b];exact D) h
 refine wpIn_region_any y ?_;have:=uW (Q':=Q) (g:=l.toArray.size-k) (λG c e w' B=>by
  have:=wpAny_of_seq (md:=.any) (Q':=Q) (l.drop k) k G c w' (λj=>by simp[dl]) (by rw[s];exact e.1) (e.2 w' B);rwa [s] at this) _ _ _ _ u H
 rw[b,show k+(l.toArray.size-k)=l.toArray.size by omega] at this;refine Bj hq (λi o q=>?_) _ _ _ _ this;have x:o∈l:=by rw[List.getElem?_toArray] at q;exact bf q
 exact fe.1 v o x
structure RX(w w':ak):Prop where
 os:w'.os=w.os
 tape:w'.tape=w.tape
 output:w'.output=w.output
 ko:KeepsOthers w w'
def RX.refl(w:ak):RX w w:=⟨rfl,rfl,rfl,KeepsOthers.refl w⟩
def RX.ext{W u a:ak}(h:RX W u)(e:fJ u a):RX W a:=⟨e.os.trans h.os,e.tape.trans h.tape,e.output.trans h.output,h.ko.trans ⟨e.size,λk o b _=>e.block b⟩⟩
def RX.chg{W u b:ak}{g:Nat}{cs:List aj}{t:ba}(h:RX W u)(c:fQ u g cs t)(e:Chg u b g):RX W b :=
 ⟨e.os.trans h.os,e.tape.trans h.tape,e.output.trans h.output,h.ko.trans ⟨Nat.le_of_eq e.size.symm,λk o a d=>(e.block k λf=>by
  subst f;rw[show u.heap[k]? = _ from c] at a;cases a;cases d).trans a⟩⟩
structure lG(W w0 w:ak)(is:List It):Prop extends Mem w0 w is where
 rx:RX W w
def lG.start{w0 w:ak}{is:List It}(m:Mem w0 w is):lG w w0 w is:=⟨m,RX.refl w⟩
def lG.e{W w0 w w':ak}{is:List It}(m:lG W w0 w is)(e:fJ w w'):lG W w0 w' is:=⟨m.ext' e,m.rx.ext e⟩
section
variable {W w0:ak} {is:List It} {ops:Array Oper} {rest:List Oper} {d:Nat} {ty T:ba} {pos:String} {after:Array Edge} {x y:b_} {v:aj}
def Kz{cs:List aj}{z:aj}(m:lG W w0 w is)(b:nJ P T z)(f:z.cells=cs.toArray)(h:∀g u,lG W w0 u (bI g cs T::is)->az P ops Q rest (Fr (l.set d (.pointer (X4 ⟨g,0,X5⟩))) ds) u) :
 az P ops Q (bu (X4 d) (.alloc T) ty pos after X5::rest) (Fr l ds) w:=Er b f λu g e c a=>h g u ⟨m.toMem.newB e c a,m.rx.ext e⟩
def agE{g off:Nat}{cs us:List aj}{t:ba}(m:lG W w0 w is)(k:Nat)(c:is[k]? = X4 (bI g cs t))(i:ev l x=.pointer (X4 ⟨g,off,X5⟩))(f:(ev l y).cells=us.toArray)(hc:dO P T us.length)(n:off+us.length<=cs.length)(h1:(us.all (·.oneCell'))=Z)
 (h:∀u,lG W w0 u (is.set k (bI g (over cs off us) t))->az P ops Q rest (Fr l ds) u):az P ops Q (bu X5 (.store T x y) ty pos after X5::rest) (Fr l ds) w :=
 yY i f hc (m.b k c) n (fN h1) λu a d=>h u ⟨m.put k c a.os a.tape a.output (by rw[a.size];exact ar _) (λb _ j=>a.block b λe=>j (by rw[e];rfl)) d (.inl λ_ h=>h),m.rx.chg (m.b k c) a⟩
def Eg{g off:Nat}{cs us:List aj}{t:ba}(m:lG W w0 w is)(k:Nat)(a:is[k]? = X4 (bI g cs t))(c:ev l x=.pointer (X4 ⟨g,off,X5⟩))(b:ev l y=.agg us.toArray)(hc:dO P T us.length)(d:off+us.length<=cs.length)(h1:(us.all (·.oneCell'))=Z)
 (h:∀u,lG W w0 u (is.set k (bI g (over cs off us) t))->az P ops Q rest (Fr l ds) u):az P ops Q (bu X5 (.store T x y) ty pos after X5::rest) (Fr l ds) w:=agE m k a c (by rw[b];rfl) hc d h1 h
def iP{g off:Nat}{cs:List aj}{v:aj}{t:ba}(m:lG W w0 w is)(k:Nat)(a:is[k]? = X4 (bI g cs t))(c:ev l x=.pointer (X4 ⟨g,off,X5⟩))(b:ev l y=v)(hc:dO P T 1)(d:off+1<=cs.length)(h1:v.oneCell'=Z/\v.cells = #[v])
 (h:∀u,lG W w0 u (is.set k (bI g (over cs off [v]) t))->az P ops Q rest (Fr l ds) u):az P ops Q (bu X5 (.store T x y) ty pos after X5::rest) (Fr l ds) w:=agE (us:=[v]) m k a c (by rw[b];exact h1.2) hc d (by simp[h1.1]) h
def Qm{f:FuncId}{a:b_}{xs:Array b_}{args:List aj}{first cap:Array aj}{a0:Array ba}(m:lG W w0 w is)(b:ev l a=.func (.func f) first cap)(c:first.toList++xs.toList.map (ev l)++cap.toList=args)(hc:dF P f args v)
 (h:∀u,lG W w0 u is->az P ops Q rest (Fr (l.set d v) ds) u):az P ops Q (bu (X4 d) (.call { callee:=.value a,args:=xs,argTypes:=a0 }) ty pos after X5::rest) (Fr l ds) w :=
 aaa b c hc λu e=>h u (m.e e)
def yP{id:Nat}{a:Act}{l:List Oper}[hq:Gx Q](m:lG W w0 w is)(k:Nat)(f:P.follows .mixedOrders=Z)(c:Region.lexTailB .any l.toArray k=Z)
 (h:cw P l.toArray (λu=>lG W w0 u is) (λb=>∀u,lG W w0 u is->az P l.toArray Q (l.drop k) b u) (l.take k) a) (d:l.all Pa=Z:=by rfl):(Code.region id l.toArray Z).wpIn (Fence.wide.inRound r) n P Q a w :=
 Ce (C:=λu=>lG W w0 u is) k hq.h d f c (m.e (fJ.refl w).drawn) h
variable {Qq:Act->Prop}
def Gh{a:Addr}(c:ev l x=.pointer (X4 a))(b:∀u,lG W w0 u is->dQ P u T a v)(h:cw P ops (λu=>lG W w0 u is) Qq rest (Fr (l.set d v) ds)):cw P ops (λu=>lG W w0 u is) Qq (bu (X4 d) (.load T x) ty pos after X5::rest) (Fr l ds) :=
 kC (λu m=>bD c (b u m)) h
def aia{f:FuncId}{a:b_}{xs:Array b_}{args:List aj}{first cap:Array aj}{a0:Array ba}(g:ev l a=.func (.func f) first cap)(j:first.toList++xs.toList.map (ev l)++cap.toList=args)(hc:dF P f args v)
 (h:cw P ops (λu=>lG W w0 u is) Qq rest (Fr (l.set d v) ds)):cw P ops (λu=>lG W w0 u is) Qq (bu (X4 d) (.call { callee:=.value a,args:=xs,argTypes:=a0 }) ty pos after X5::rest) (Fr l ds):=by
 refine wpQuiet_step λK c=>?_;rw[J (by simp[Region.wanted])];refine⟨v,λw' i=>?_,?_⟩
 . unfold Oper.quietAt
   rw[jY,pT (hc w').1 g j _ rfl];refine⟨O,(hc w').2.mono ?_⟩;rintro e k ⟨u,rfl,b,rfl⟩;exact⟨O,i.e b⟩
 show K ((Fr l ds).put (X4 d) v)
 rw[gI];exact c _ h
end
end
/-! ### Within the fence that bars nothing: a head of quiet operations,then a tail that may yield -/
section
variable {P:bt} {Q:Exit->Act->ak->Prop} {n:Nat} {C:ak->Prop} {ops:Array Oper} {md:Region.Mode}
def acU{row:String}{args:Array aj}{w:ak}{R:aj->ak->Prop}(h:Rows P row args w R):RowsIn Fence.wide n P row args w R :=
 λc cs _=>let ⟨v,w',q,s⟩:=h c cs;⟨v,w',q,stepsIn_wide.2 s⟩
def Oper.wpIn_q{o:Oper}{a:Act}{w:ak}{K:Act->ak->Prop}(h:o.wp P a w K (λ_ _ _=>False)):o.wpIn Fence.wide n P a w K Q:=by
 unfold Oper.wp at h;refine⟨λ_ _=>trivial,?_⟩;show qq _ _ _ _ _ _ _ ((dw a.eval o).run P w)
 generalize (dw a.eval o).run P w=z at *
 have b:Fence.wide.depth.isSome=Z->1<=n:=λh=>by cases h
 cases z with
 | ok x w' =>
  cases x <;> simp only[ot,qq] at h ⊢ <;> first
   | exact h
   | exact⟨b,(callsIn_wide.2 h).mono λe d k=>by cases e with | returned v=>exact k | panicked c=>exact k.elim | outgrown=>exact (k.elim λ_ k=>k.elim λ_ k=>k.elim)⟩
   | exact⟨b,acU h⟩
   | exact h.elim
 | halt x w'=>cases x <;> simp only[ot,qq] at h ⊢ <;> first | exact h | exact h.elim
def alG{i:Nat}{K:Act->ak->Prop}{a:Act}{w:ak}(h:wpOp P ops (λ_ _ _=>False) i K a w):wpOpIn Fence.wide n P ops Q i K a w:=by
 unfold wpOp at h;unfold wpOpIn;split
 . rename_i c
   simp only[c] at h;exact h
 rename_i o d
 simp only[d] at h;split
 . rename_i b
   rw[J b] at h;rcases h with h | ⟨_,_,_,h⟩
   .exact Oper.wpIn_q h
   exact h.elim
 rename_i b
 rw[X b] at h;exact⟨λ_ _=>trivial,h⟩
def yQ{k g:Nat}{L:Array Bool->Act->Prop}(d:∀b a,L b a->∀w,C w->wpAnyIn Fence.wide n P md ops Q g b a w) :
 ∀(f:Nat) (b:Array Bool) (a:Act) (w:ak),C w->Lo P md ops C k L f b a->wpAnyIn Fence.wide n P md ops Q (f+g) b a w
 | 0,b,a,w,c,h=>by rw[ai];exact d _ _ h w c
 | f+1,b,a,w,c,h=>by
  rw[show f+1+g=(f+g)+1 by omega];exact⟨λl=>Z8 l h.1,λi m=>alG (wpOp_of_qOp c (λe w' o j=>yQ d f _ e w' o j) (h.2 i m).2)⟩
def Eh:∀(l:List Oper) (k:Nat) (c:Array Bool) (a:Act) (w:ak),(∀j,l[j]? = ops[k+j]?) ->
 Region.seqB md ops l.length k c=Z->wpListIn Fence.wide n P ops Q l a w->wpAnyIn Fence.wide n P md ops Q l.length c a w
 | [],_,_,_,_,_,b,h=>⟨by simpa[Region.seqB] using b,h⟩
 | o::l,k,c,a,w,e,b,h=>by
  have m:ops[k]? = X4 o:=by simpa using (e 0).symm
  simp only[ay,Region.seqB,bg,R] at b;refine⟨λh1=>(by rw[b.1] at h1;cases h1),λi d=>?_⟩;rw[b.1] at d;have q:i=k:=by simpa using d
  subst q;have p:wpOpIn Fence.wide n P ops Q i (wpListIn Fence.wide n P ops Q l) a w:=by unfold wpOpIn;simp only[m];exact h
  exact wpOpIn_mono (λf w' g=>Eh l (i+1) _ f w' (λj=>by have:=e (j+1);simpa[Nat.add_assoc,Nat.add_comm 1 j] using this) b.2 g) p
def Bl{w:ak}{id:Nat}{a:Act}{l:List Oper}(k:Nat)(q:P.follows .mixedOrders=Z)(d:Region.lexTailB .any l.toArray k=Z)
 (p:C { w with drawn:=w.drawn+1 })
 (h:cw P l.toArray C (λc=>∀w',C w'->wpListIn Fence.wide n P l.toArray Q (l.drop k) c w') (l.take k) a):(Code.region id l.toArray Z).wpIn Fence.wide n P Q a w:=by
 simp only[Region.lexTailB,bg,R] at d;obtain⟨⟨⟨⟨x,m⟩,hs⟩,hc⟩,v⟩:=d;have B:k<l.length:=by simpa using m
 have b:(l.take k).length=k:=by simp;omega
 have o:(l.drop k).length=l.toArray.size-k:=by simp
 have y:HeadInv .any l.toArray k (gv l.toArray.size X3) :=
  ⟨by simp,λj A _ i=>(by rw[getD_replicate_false] at i;cases i),λt _ r=>getD_in (by simpa using r) (getD_replicate_false _ _)⟩
 have H:=yX (md:=.any) (g:=l.toArray.size-k) x hs hc m (l.take k) 0 _ a (λj f=>by
  have s:j<k:=by rw[b] at f;exact f
  simp[s]) (by simpa using b) y (by rw[b];exact v) h
 refine wpIn_region_any q ?_;have:=yQ (Q:=Q) (n:=n) (g:=l.toArray.size-k) (λz c e w' u=>by
  have:=Eh (md:=.any) (Q:=Q) (n:=n) (l.drop k) k z c w' (λj=>by simp[dl]) (by rw[o];exact e.1) (e.2 w' u);rwa [o] at this) _ _ _ _ p H
 rw[b,show k+(l.toArray.size-k)=l.toArray.size by omega] at this;exact this
def Qn{l:List aj}{ds:List ej}{w:ak}{y d:Nat}{f:FuncId}{a:b_}{xs:Array b_}{args:List aj}{a0:Array ba}{ty:ba}{pos:String}{after:Array Edge}{rest:List Oper}{tmps:Array aj}{assign c:Code}{R:Ending->ak->Prop}
 (k:ev l a=.func (.yield y) #[] #[]) (o:xs.toList.map (ev l)=args) (b:(Instr.yield y args.toArray).run P w=.ok (.round y f tmps assign c) w) (j:RoundIn Fence.wide (n-1) P y f tmps assign c w R)
 (h:∀e w',R e w'->∃v,e=.returned v/\wpListIn Fence.wide n P ops Q rest (Fr (l.set d v) ds) w') :
 wpListIn Fence.wide n P ops Q (bu (X4 d) (.call { callee:=.value a,args:=xs,argTypes:=a0 }) ty pos after X5::rest) (Fr l ds) w:=by
 refine wpListIn_plain O λK i=>?_;refine⟨λ_ _=>trivial,?_⟩;have e:(Fr l ds).eval=ev l:=funext cN;have ea:args.toArray = #[]++xs.map (ev l) ++ #[]:=by
  rw[<-o];apply Array.ext';simp
 have g:(dw (Fr l ds).eval (bu (X4 d) (.call { callee:=.value a,args:=xs,argTypes:=a0 }) ty pos after X5)).run P w=.ok (.round y f tmps assign c) w:=by
  rw[ea] at b;simp[dw,resolve,e,k,Deferred.ofValue,invoke] at b ⊢;exact b
 rw[show rm Fence.wide.round=rm X5 from rfl,Oper.semAt_none,g];refine⟨λ(h:Fence.wide.depth.isSome=Z)=>(by cases h),j.mono λe w' hr=>?_⟩;obtain⟨v,rfl,m⟩:=h e w' hr;exact i _ _ (by rw[gI];exact m)
def xM{l:List aj}{ds:List ej}{w:ak}{d:Nat}{op:Op}{ty:ba}{pos:String}{after:Array Edge}{rest:List Oper}{v:aj}(hr:Cb P l op ty v w)(h:wpListIn Fence.wide n P ops Q rest (Fr (l.set d v) ds) w):wpListIn Fence.wide n P ops Q (bu (X4 d) op ty pos after X5::rest) (Fr l ds) w:=by
 refine wpListIn_plain O λK a=>?_;refine⟨λ_ _=>trivial,?_⟩;rw[show rm Fence.wide.round=rm X5 from rfl,Oper.semAt_none,jY,hr _ rfl rfl];show K ((Fr l ds).put (X4 d) v) w
 rw[gI];exact a _ _ h
end
def Qo(B:Nat)(g:β->Nat)(cs:β->List aj)(t:ba):OwnFrom B λs W=>fQ W (g s) (cs s) t:=λs X Y row hs b hr=>by
 have a:X.heap[g s]? = X4 (.cells (cs s).toArray t (0,0)):=hs;show Y.heap[g s]? = _
 rw[grownBy_keeps_cells b (λr e=>(hr r e).2) a rfl];exact a
def agF{B:Nat}{w:ak}(h:w.heap.size<=B):OwnFrom B λ(_:β) W=>fJ w W:=ownFrom_below (ar _) h
def aoV(is:List It):Prop:=∀i∈is,∃g cs t,i=bI g cs t
def agG{B:Nat}{w:ak}(F:β->List It)(hF:∀s,aoV (F s))(h:w.heap.size<=B):OwnFrom B λs W=>Mem w W (F s):=λs W a row hs b hr=>by
 refine⟨agF (β:=Unit) h () W a row hs.ext b hr,λi c=>?_,hs.ge,hs.nd⟩;obtain⟨g,cs,t,rfl⟩:=hF s i c;exact Qo (β:=Unit) B (λ_=>g) (λ_=>cs) t () W a row (hs.all _ c) b hr
end Go.Lith
namespace Go.Proofs.YtfekpcimgncioaaGreatDoor
open Go.Proofs.Tryz
open Go.RowKit Go.Lith
section
attribute [local go_sem] Oper.semAt_some
def aqb(t:T3)(k:Nat):Array aj:=#[pt (t.cor k),pt (t.cor ((k+1)%3))]
set_option maxRecDepth 100000 in
def aib(n:Nat)(hn:1<=n)(l Bs n₀:Nat)(t:T3)(J Jx:List Nat->ak->Prop)
 (hJd:∀s W,J s W->J s W.drew) (hY:∀pre x W,J pre W->pre.length<3->YieldAt Fence.wide (n-1) prog l (aqb t x) W λe W' =>
  (e=.returned (.bool Z)/\J (pre++[x]) W'/\nE n₀ Bs W W')\/(e=.returned (.bool X3)/\Jx (pre++[x]) W'))
 (W:ak) (hBs:fQ W Bs (aL t) 39) (h0:J [] W) :
 CallsIn Fence.wide n prog 337 #[.func (.yield l) #[] #[],.pointer (X4 ⟨Bs,0,X5⟩)] W λe W'=>(∃v,e=.returned v) /\
  ((∃ys:List Nat,ys=[0,1,2]/\J ys W')\/(∃pre,(∀k∈pre,k<3)/\Jx pre W')):=by
 refine callsIn_of_wp func337 O trivial ?_ O;simp only[ntmps337,ib,ay,bm,aa,ld,iv,iw,jr,jd,bz,cq]
 gi_wp2
 gi_loopw [4] (λi wr=>∃(k:Nat),k<=3/\i=X6 (k:Int)/\J (ke k) wr/\nE n₀ Bs W wr)
  (λi _=>(3-intOf i).toNat)
 case atStart=>exact⟨0,by omega,rfl,h0,nE.refl _ _ _⟩
 case round =>
  obtain⟨k,hk,rfl,hJs,hnx⟩:=hrel;have hB:fQ wr Bs (aL t) 39:=hnx.2.trans hBs;have hD:fQ wr.drew Bs (aL t) 39:=hB;have hk4:k=0\/k=1\/k=2\/k=3:=by omega
  rcases hk4 with rfl | rfl | rfl | rfl
  . obtain⟨fn,tmps,assign,body,hy,hR⟩:=hY (ke 0) 0 wr.drew (hJd _ _ hJs) (by decide)
    gi_wp2
    rename_i K1 hK1 K2 hK2;refine Bl (C:=λu=>u=wr.drew) 9 aB (by kernel_rfl) O ?_;simp only[zy];refine aK aJ (aK aJ (aK (aN eB aA O O (by decide) (by decide) O) ?_));simp only[G,zy,ai,aa,ag,ad];refine kC (λu hu=>bD O (hu▸(kV.cor (c:=0) (hD.row 0) (by decide)).lies aG aA)) ?_;simp only[G];refine aK aJ (aK (fU (m:=0) (n:=1) (r:=1) O O (by decide)) (aK (cT (m:=1) (n:=3) (r:=1) O O (by decide) (by decide)) ?_));simp only[G];refine aK (aN eB aA O O (by decide) (by decide) O) ?_;simp only[G,zy,ai,aa,ag,ad];refine kC (λu hu=>bD O (hu▸(kV.cor (c:=1) (hD.row 0) (by decide)).lies aG aA)) ?_;simp only[G];refine aZ ?_;rintro u rfl;try simp only[zy]
    refine Qn O O hy hR ?_;rintro e W3 (⟨rfl,hJ3,hk3⟩ | ⟨rfl,hJx3⟩)
    . refine⟨_,O,?_⟩
      simp only[G];refine xM (pS O _) (wpListIn_nil (hK2 _ _ ?_));simp only[G,f_]
      gi_wp2
      go_roundw
      case rel=>exact⟨0+1,by decide,rfl,hJ3,hnx.trans ((show nE n₀ Bs wr wr.drew from⟨(Below.refl _ _).drew,rfl⟩).trans hk3)⟩
      case measure=>simp[intOf]
    refine⟨_,O,?_⟩
    simp only[G];refine xM (pS O _) (wpListIn_nil (hK2 _ _ ?_));simp only[G,gd]
    gi_wp2
    refine bodyPost_ret (results_none O _ _ _) O ?_;exact⟨⟨_,O⟩,.inr ⟨_,by decide,hJx3⟩⟩
  . obtain⟨fn,tmps,assign,body,hy,hR⟩:=hY (ke 1) 1 wr.drew (hJd _ _ hJs) (by decide)
    gi_wp2
    rename_i K1 hK1 K2 hK2;refine Bl (C:=λu=>u=wr.drew) 9 aB (by kernel_rfl) O ?_;simp only[zy];refine aK aJ (aK aJ (aK (aN eB aA O O (by decide) (by decide) O) ?_));simp only[G,zy,ai,aa,ag,ad];refine kC (λu hu=>bD O (hu▸(kV.cor (c:=1) (hD.row 0) (by decide)).lies aG aA)) ?_;simp only[G];refine aK aJ (aK (fU (m:=1) (n:=1) (r:=2) O O (by decide)) (aK (cT (m:=2) (n:=3) (r:=2) O O (by decide) (by decide)) ?_));simp only[G];refine aK (aN eB aA O O (by decide) (by decide) O) ?_;simp only[G,zy,ai,aa,ag,ad];refine kC (λu hu=>bD O (hu▸(kV.cor (c:=2) (hD.row 0) (by decide)).lies aG aA)) ?_;simp only[G];refine aZ ?_;rintro u rfl;try simp only[zy]
    refine Qn O O hy hR ?_;rintro e W3 (⟨rfl,hJ3,hk3⟩ | ⟨rfl,hJx3⟩)
    . refine⟨_,O,?_⟩
      simp only[G];refine xM (pS O _) (wpListIn_nil (hK2 _ _ ?_));simp only[G,f_]
      gi_wp2
      go_roundw
      case rel=>exact⟨1+1,by decide,rfl,hJ3,hnx.trans ((show nE n₀ Bs wr wr.drew from⟨(Below.refl _ _).drew,rfl⟩).trans hk3)⟩
      case measure=>simp[intOf]
    refine⟨_,O,?_⟩
    simp only[G];refine xM (pS O _) (wpListIn_nil (hK2 _ _ ?_));simp only[G,gd]
    gi_wp2
    refine bodyPost_ret (results_none O _ _ _) O ?_;exact⟨⟨_,O⟩,.inr ⟨_,by decide,hJx3⟩⟩
  . obtain⟨fn,tmps,assign,body,hy,hR⟩:=hY (ke 2) 2 wr.drew (hJd _ _ hJs) (by decide)
    gi_wp2
    rename_i K1 hK1 K2 hK2;refine Bl (C:=λu=>u=wr.drew) 9 aB (by kernel_rfl) O ?_;simp only[zy];refine aK aJ (aK aJ (aK (aN eB aA O O (by decide) (by decide) O) ?_));simp only[G,zy,ai,aa,ag,ad];refine kC (λu hu=>bD O (hu▸(kV.cor (c:=2) (hD.row 0) (by decide)).lies aG aA)) ?_;simp only[G];refine aK aJ (aK (fU (m:=2) (n:=1) (r:=3) O O (by decide)) (aK (cT (m:=3) (n:=3) (r:=0) O O (by decide) (by decide)) ?_));simp only[G];refine aK (aN eB aA O O (by decide) (by decide) O) ?_;simp only[G,zy,ai,aa,ag,ad];refine kC (λu hu=>bD O (hu▸(kV.cor (c:=0) (hD.row 0) (by decide)).lies aG aA)) ?_;simp only[G];refine aZ ?_;rintro u rfl;try simp only[zy]
    refine Qn O O hy hR ?_;rintro e W3 (⟨rfl,hJ3,hk3⟩ | ⟨rfl,hJx3⟩)
    . refine⟨_,O,?_⟩
      simp only[G];refine xM (pS O _) (wpListIn_nil (hK2 _ _ ?_));simp only[G,f_]
      gi_wp2
      go_roundw
      case rel=>exact⟨2+1,by decide,rfl,hJ3,hnx.trans ((show nE n₀ Bs wr wr.drew from⟨(Below.refl _ _).drew,rfl⟩).trans hk3)⟩
      case measure=>simp[intOf]
    refine⟨_,O,?_⟩
    simp only[G];refine xM (pS O _) (wpListIn_nil (hK2 _ _ ?_));simp only[G,gd]
    gi_wp2
    refine bodyPost_ret (results_none O _ _ _) O ?_;exact⟨⟨_,O⟩,.inr ⟨_,by decide,hJx3⟩⟩
  gi_wp2
  go_end0
  exact⟨⟨_,O⟩,.inl ⟨_,O,hJs⟩⟩
end
section
set_option maxRecDepth 100000
attribute [local irreducible] az cw fW bX cP Code.wp
attribute [local congr] dK dL cR dJ
variable{u c d q s:H}{a:Int}
def abg(u:H):Int:=if u.x≠0 then 0 else if u.y≠0 then 1 else if u.z≠0 then 2 else -1
def La{n:Int}:¬bA n=0↔n≠0:=not_congr cA
def Fx{n:Int}(h:¬¬bA n=0):¬n≠0:=λk=>h (La.2 k)
def alH(h:¬Z3 u):abg u=(Hz u:Int):=by
 unfold abg Hz;unfold Z3 at h
 repeat' split
 all_goals first | rfl | (exfalso;omega)
def alI(h:Z3 u):abg u = -1:=by
 obtain⟨h1,h2,a⟩:=h;simp[abg,h1,h2,a]
class N4(p:H):Prop where
 x : -549755813888<p.x/\p.x<549755813888
 y : -549755813888<p.y/\p.y<549755813888
 z : -549755813888<p.z/\p.z<549755813888
theorem N3.cross{v:H}(a:N3 u)(b:N3 v):N4 (u.cross v):=by
 have h1:=Cc a.y b.z;have h2:=Cc a.z b.y;have c:=Cc a.z b.x;have d:=Cc a.x b.z;have e:=Cc a.x b.y;have f:=Cc a.y b.x;exact⟨by simp only[H.cross];omega,by simp only[H.cross];omega,by simp only[H.cross];omega⟩
def pP{b:Int}(c : -549755813888<a/\a<549755813888)(d:b.natAbs<524288) : -288230376151711744<a*b/\a*b<288230376151711744:=by
 have h:(a*b).natAbs<=549755813887*524287:=by rw[Int.natAbs_mul];exact Nat.mul_le_mul (by omega) (by omega)
 omega
def agH  : dF prog 304 [sg u] (X6 (abg u)):=by
 intro w;refine⟨bJ func304 (by kernel_rfl),?_⟩;have m:=Mem.refl w
 go_enter func304,ntmps304
 apply gH 26 [1,4,1,0] m;simp only[↓U,vV];intro e;apply I0;omega;intro u m;refine aD (jJ O O) ?_;apply aH 8 [0,0] m;simp only[↓U];refine bC O ?_ ?_<;>intro a
 .apply L 6 [] m;simp only[↓U];refine aS O O ?_;try simp only[zD,zE]
  exact⟨_,O,m.ext,by rw[abg,J (La.1 a)]⟩
 have b:=a;apply L 19 [1,0] m;simp only[↓U,an];apply I0;omega;refine aD (jK O O) ?_;apply aH 8 [0,0] m;simp only[↓U];refine bC O ?_ ?_<;>intro a
 .apply L 6 [] m;simp only[↓U];refine aS O O ?_;try simp only[zD,zE]
  exact⟨_,O,m.ext,by rw[abg,X (Fx b),J (La.1 a)]⟩
 have c:=a;apply L 19 [1,0] m;simp only[↓U,an];apply I0;omega;refine aD (jL O O) ?_;apply aH 8 [0,0] m;simp only[↓U];refine bC O ?_ ?_<;>intro a
 .apply L 6 [] m;simp only[↓U];refine aS O O ?_;try simp only[zD,zE]
  exact⟨_,O,m.ext,by rw[abg,X (Fx b),X (Fx c),J (La.1 a)]⟩
 have d:=a;apply L 19 [2] m;simp only[↓U,an];apply I0;omega;refine aS O O ?_;try simp only[zD,zE]
 exact⟨_,O,m.ext,by rw[abg,X (Fx b),X (Fx c),X (Fx d)]⟩
def abh{v:H}(a:N4 u)(b:N3 v):dF prog 308 [nv u,nv v] (X6 (u.dot v)):=by
 intro w;refine⟨bJ func308 (by kernel_rfl),?_⟩;have m:=Mem.refl w
 go_enter func308,ntmps308
 apply gH 12 [2,1,0] m;simp only[↓U,tJ,dC,ad,ag,aa];intro d e;apply I0;omega;intro u m;refine aD (kS O O (bZ (by have h1:=pP a.x b.x;have h2:=pP a.y b.y;have c:=pP a.z b.z;omega) (by have h1:=pP a.x b.x;have h2:=pP a.y b.y;have c:=pP a.z b.z;omega))) ?_;apply aH 4 [2,1,0] m;simp only[↓U,tJ,dC,ad,ag,aa];apply I0;omega;refine aD (kS O O (bZ (by have h1:=pP a.x b.x;have h2:=pP a.y b.y;have c:=pP a.z b.z;omega) (by have h1:=pP a.x b.x;have h2:=pP a.y b.y;have c:=pP a.z b.z;omega))) (aD (fU rfl rfl (bZ (by have h1:=pP a.x b.x;have h2:=pP a.y b.y;have c:=pP a.z b.z;omega) (by have h1:=pP a.x b.x;have h2:=pP a.y b.y;have c:=pP a.z b.z;omega))) ?_);apply aH 4 [2,1,0] m;simp only[↓U,tJ,dC,ad,ag,aa];apply I0;omega;refine aD (kS O O (bZ (by have h1:=pP a.x b.x;have h2:=pP a.y b.y;have c:=pP a.z b.z;omega) (by have h1:=pP a.x b.x;have h2:=pP a.y b.y;have c:=pP a.z b.z;omega))) (aD (fU rfl rfl (bZ (by have h1:=pP a.x b.x;have h2:=pP a.y b.y;have c:=pP a.z b.z;omega) (by have h1:=pP a.x b.x;have h2:=pP a.y b.y;have c:=pP a.z b.z;omega))) ?_);apply aH 3 [] m;simp only[↓U];exact aS O O ⟨_,O,m.ext,O⟩
def wB{a b:H}[I3 a][I3 b][I3 c][I3 d]:dF prog 243 [pt a,pt b,pt c,pt d] (X6 (bA (((b.sub a).cross (c.sub a)).dot (d.sub a)))):=by
 intro w;refine⟨bJ func243 (by kernel_rfl),?_⟩;have m:=Mem.refl w
 go_enter func243,ntmps243
 apply gH 15 [4,3,2,1,0] m;simp only[↓U,aP];intro j k l n u m;refine Fm O O O O ?_;intro u o e f g;replace m:=m.newB e f g;simp only[G];refine cK m O O (Zb _ (m.b 0 O)) ?_;rintro v u m ⟨bo,rfl,i⟩;apply aH 1 [0] m;simp only[↓U];refine gF O ?_ ?_<;>intro h
 .obtain⟨_,_,_,_⟩:=i h;apply L 1 [0] m;simp only[↓U];refine mq m aB (by kernel_rfl) (ql O (λu m=>((m.b 4 O).full aG aA)) ?_);simp only[G];refine ql O (λu m=>((m.b 3 O).full aG aA)) ?_;simp only[G];refine eH O O qW ?_;simp only[G];refine ql O (λu m=>((m.b 4 O).full aG aA)) ?_;simp only[G];refine ql O (λu m=>((m.b 2 O).full aG aA)) ?_;simp only[G];refine eH O O qW ?_;simp only[G];refine eH O O (Gv Y7 Y7) ?_;simp only[G];refine ql O (λu m=>((m.b 4 O).full aG aA)) ?_;simp only[G];refine ql O (λu m=>((m.b 1 O).full aG aA)) ?_;simp only[G];refine eH O O qW ?_;simp only[G];refine eH O O (abh (N3.cross Y7 Y7) Y7) ?_;simp only[G];refine eH O O aa4 (aK aM (aZ ?_));intro u m;apply aT 1 [] m;simp only[↓U];exact aS O O ⟨_,O,m.ext,O⟩
 apply L 2 [0] m;simp only[↓U];refine mq m aB (by kernel_rfl) (ql O (λu m=>((m.b 4 O).full aG aA)) ?_);simp only[G];refine ql O (λu m=>((m.b 3 O).full aG aA)) ?_;simp only[G];refine eH O O nF ?_;simp only[G];refine ql O (λu m=>((m.b 4 O).full aG aA)) ?_;simp only[G];refine ql O (λu m=>((m.b 2 O).full aG aA)) ?_;simp only[G];refine eH O O nF ?_;simp only[G];refine eH O O (Bc Bv.of Bv.of) ?_;simp only[G];refine ql O (λu m=>((m.b 4 O).full aG aA)) ?_;simp only[G];refine ql O (λu m=>((m.b 1 O).full aG aA)) ?_;simp only[G];refine eH O O nF ?_;simp only[G];refine eH O O (Ox Bv.of Bv.of) ?_;simp only[G];refine eH O O (Ng M.up) (aK aM (aZ ?_));intro u m;apply aT 1 [] m;simp only[↓U];exact aS O O ⟨_,O,m.ext,O⟩
def yR{p:H}:dF prog 305 [pt p,pt q] (.tuple #[pt (mU p q),pt (oC p q)]):=by
 intro w;refine⟨bJ func305 (by kernel_rfl),?_⟩;have m:=Mem.refl w
 go_enter func305,ntmps305
 apply gH 12 [3,4,0] m;simp only[↓U,fB,aP];intro c d e f u m;refine lD m O O uL.pure 1 [0] ?_;simp only[↓U];intro u m;refine bC O ?_ ?_<;>intro a
 .apply L 1 [0] m;simp only[↓U];refine zvt [X3,X3,Z,Z] [[1],[2],[1],[0]] (.take 0 (.take 1 (.one 2 (.one 3 .nil)))) m aB (by kernel_rfl) (bS (λ_ _ _ _ _ h=>h)) ?_;simp only[↓U,↓zzu,aP,aa];intro u m;apply aT 1 [] m;simp only[↓U];refine wE O ⟨_,O,((m.b 1 O).full aG aA)⟩ ⟨_,O,((m.b 0 O).full aG aA)⟩ ?_;try simp only[zD,zE]
  exact⟨_,O,m.ext,by rw[mU,oC,J a,J a];rfl⟩
 apply L 2 [0] m;simp only[↓U];refine zvt [X3,X3,Z,Z] [[2],[1],[1],[0]] (.take 0 (.take 1 (.one 2 (.one 3 .nil)))) m aB (by kernel_rfl) (bS (λ_ _ _ _ _ h=>h)) ?_;simp only[↓U,↓zzu,aP,aa];intro u m;apply aT 1 [] m;simp only[↓U];refine wE O ⟨_,O,((m.b 1 O).full aG aA)⟩ ⟨_,O,((m.b 0 O).full aG aA)⟩ ?_;try simp only[zD,zE]
 exact⟨_,O,m.ext,by rw[mU,oC,X a,X a];rfl⟩
instance (a b c:Int):Decidable (Oz a b c):=inferInstanceAs (Decidable (_\/_))
instance {p q:H}[I3 p][I3 q]:I3 (mU p q):=by unfold mU;split <;> assumption
instance {p q:H}[I3 p][I3 q]:I3 (oC p q):=by unfold oC;split <;> assumption
def aoW{b c:Int}:(decide (0<=(if c<(if b<a then b else a) then c else if b<a then b else a))||decide ((if (if a<b then b else a)<c then c else if a<b then b else a)<=0))=decide (Oz a b c):=by
 unfold Oz;rw[<-Bool.decide_or]
 congr 1
 apply Y6;constructor
 .intro h
  repeat' split at h
  all_goals omega
 intro h
 repeat' split
 all_goals omega
def aoX{b c:Int}:dF prog 307 [.agg #[X6 a,X6 b,X6 c]] (.bool (decide (Oz a b c))):=by
 intro w;refine⟨bJ func307 (by kernel_rfl),?_⟩;have m:=Mem.refl w
 go_enter func307,ntmps307
 apply gH 13 [1,1,1,0] m;simp only[↓U,fD,dC,ad,ag,aa];intro e;apply I0;omega;intro u m;refine aD (Ia O O O O) ?_;apply aH 2 [0,0] m;simp only[↓U];refine cW O (λd=>aN vT aY O O (by decide) (by decide) O) ?_;simp only[G];refine dW O (λd=>bD (bL d O) ((m.b 0 O).lies1 bK O)) (cW O (λd=>aN vT aY O O (by decide) (by decide) O) ?_);simp only[G];refine dW O (λd=>bD (bL d O) ((m.b 0 O).lies1 bK O)) (cW O (λd=>aN vT aY O O (by decide) (by decide) O) ?_);simp only[G];refine dW O (λd=>bD (bL d O) ((m.b 0 O).lies1 bK O)) (cW O (λd=>Ib (bL d O) (bL d O) (bL d O) O) (cW O (λd=>Nz (bL d O) O) (aD (gJ O O O) ?_)));apply aH 3 [] m;simp only[↓U];refine aS O O ?_;try simp only[zD,zE]
 exact⟨_,O,m.ext,by rw[<-aoW]⟩
def agI{t:T3}(w:ak):cY prog 303 [tr t] w (λv w'=>∃g,v=.func (.func 337) #[] #[.pointer (X4 ⟨g,0,X5⟩)]/\w.heap.size<=g/\fQ w' g (aL t) 39):=by
 refine⟨bJ func303 (by kernel_rfl),?_⟩;have m:=Mem.refl w
 go_enter func303,ntmps303
 apply gH 7 [0] m;simp only[↓U];intro a u m;refine aD fZ ?_;simp only[G,gt,bi,dh];apply aH 3 [] m;simp only[↓U];exact aS O O ⟨_,O,m.ext,_,O,m.ge _ br _ O,(m.b 0 O)⟩
def Pb(n:Nat)(m:1<=n)(a c:Nat)(t:T3)(w:ak)(b:fQ w a (aL t) 39):SeqStopsK Fence.wide n prog 337 #[.pointer (X4 ⟨a,0,X5⟩)] (λx:Nat=>aqb t x) (nE c a) (λys=>ys=[0,1,2]) (λpre=>∀k∈pre,k<3) 3 w:=λl J d W i g o j f =>
 aib n m l a c t J d (λs W h=>g s W _ X5 h ⟨rfl,rfl,rfl,ar _,λ_ _ _=>rfl⟩ (λr e=>by cases e)) j W ((i.block a b.lt).trans b) f
def mB{l:List aj}{ty:ba}{x y:b_}{v:H}{k:Nat}(c:k<3)(a:ev l x=sg v)(b:ev l y=X6 (k:Int)):iB prog l (.index 36 x y) ty (X6 (bA (dV v k))):=by
 have h:k=0\/k=1\/k=2:=by omega
 rcases h with rfl | rfl | rfl
 .exact jJ a b
 .exact jK a b
 exact jL a b
def agJ(n:Int) : -1<=bA n/\bA n<=1:=by
 unfold bA;split
 .omega
 split <;> omega
def yS(m n:Int):IntKind.i64.wrap (bA m*bA n)=bA m*bA n:=by
 have h1:=agJ m;have h2:=agJ n;have a:bA m = -1\/bA m=0\/bA m=1:=by omega
 rcases a with h | h | h <;> rw[h] <;> exact bZ (by omega) (by omega)
def acV{a b:H}[I3 a][I3 b][I3 c][I3 d]{f k:Nat}(w:ak)(g:fQ w f [X6 (k:Int)] 3)(e:k<3):cY prog 338 [pt a,pt b,pt c,pt d,.pointer (X4 ⟨f,0,X5⟩)] w (λv _=>v=.bool (decide (bA (dV (dU a b c) k)*bA (dV (dU a b d) k)<=0))):=by
 refine⟨bJ func338 (by kernel_rfl),?_⟩;have m:=Mem.refl w
 go_enter func338,ntmps338
 apply gH 9 [0] m;simp only[↓U];intro h i j l u m;refine mq m aB (by kernel_rfl) (cX 4 [4,3,4,2] ?_);simp only[↓U,aP];refine eH O O (rY (a:=a) (b:=b) (c:=a) (d:=c)) ?_;simp only[G];refine ql O (λu m=>((g.ext m.ext).lies1 bK O)) ?_;simp only[G];refine aK ((mB (v:=dU a b c) e O O)) (cX 4 [4,3,4,1] ?_);simp only[↓U,aP];refine eH O O (rY (a:=a) (b:=b) (c:=a) (d:=d)) ?_;simp only[G];refine ql O (λu m=>((g.ext m.ext).lies1 bK O)) ?_;simp only[G];refine aK ((mB (v:=dU a b d) e O O)) (aK (kS O O (yS _ _)) (aK (Nz O O) (aK aM ?_)));simp only[G];refine aZ ?_;intro u m;apply aT 1 [] m;simp only[↓U];exact aS O O ⟨_,O,m.ext,O⟩
section
variable {P:bt} {ops:Array Oper} {Q:Exit->Act->ak->Prop} {rest:List Oper} {d j:Nat} {ty:ba} {pos:String} {after:Array Edge} {v:aj} {b:Bool} {ds:List ej} {l:List aj} {w w0:ak} {is:List It}
variable {f:FuncId} {fo:b_} {xs:Array b_} {args:List aj} {first cap:Array aj} {a0:Array ba}
def agK(m:Mem w0 w is)(a:yielded ops l.toArray j=X4 b)(c:b=Z->ev l fo=.func (.func f) first cap)(g:b=Z->first.toList++xs.toList.map (ev l)++cap.toList=args)(hc:b=Z->cY P f args w λx _=>x=v)
 (h:∀u,Mem w0 u is->az P ops Q rest (Fr (l.set d (Rq b v)) ds) u):az P ops Q (bu (X4 d) (.call { callee:=.value fo,args:=xs,argTypes:=a0 }) ty pos after (X4 (j,Z))::rest) (Fr l ds) w:=by
 cases b with
 | false=>simp only[Cy] at h;exact pQ a (h w m)
 | true=>simp only[iM] at h;exact eP a (cK m (c rfl) (g rfl) (hc rfl) λx u m e=>by subst e;exact h u m)
end
def Bm(h:¬Z3 u):Hz u=iJ u/\iJ u<3:=by
 unfold Hz iJ;unfold Z3 at h;by_cases h1:u.x=0 <;> by_cases h2:u.y=0 <;> by_cases a:u.z=0 <;> simp[h1,h2,a] at h ⊢
def alJ(h:Z3 u):¬iJ u<3:=by
 obtain⟨h1,h2,a⟩:=h;simp[iJ,h1,h2,a]
def alK{b:Int}:bA a*bA b<=0↔a*b<=0:=by
 unfold bA;rcases qp a 0 with ha | ha | ha <;> rcases qp b 0 with hb | hb | hb
 . have:=Int.mul_pos_of_neg_of_neg ha hb
   simp[ha,hb];omega
 .simp[hb]
 . have:=Int.mul_neg_of_neg_of_pos ha hb
   have:¬b<0:=by omega
   simp[ha,hb,this];omega
 .simp[ha]
 .simp[ha]
 .simp[ha]
 . have:=Int.mul_neg_of_pos_of_neg ha hb
   have:¬a<0:=by omega
   simp[ha,hb,this];omega
 .simp[hb]
 have:=Int.mul_pos ha hb
 have:¬a<0:=by omega
 have:¬b<0:=by omega
 simp[*]
def lM(p q r s:H):T3:=if mU p q=oC p q then ⟨mU r s,oC r s,mU p q⟩ else ⟨mU p q,oC p q,mU r s⟩
def Lb{p:H}(hp:I3 p)(hq:I3 q):I3 (mU p q)/\I3 (oC p q):=by
 unfold mU oC;split
 .exact⟨hq,hp⟩
 exact⟨hp,hq⟩
instance {p q r s:H}[hp:I3 p][hq:I3 q][hr:I3 r][hs:I3 s]:IT (lM p q r s):=by
 unfold lM;split
 .exact⟨(Lb hr hs).1,(Lb hr hs).2,(Lb hp hq).1⟩
 exact⟨(Lb hp hq).1,(Lb hp hq).2,(Lb hr hs).1⟩
def alL{p r:H}(h:(mU p q).x=(oC p q).x/\(mU p q).y=(oC p q).y/\(mU p q).z=(oC p q).z):lM p q r s=⟨mU r s,oC r s,mU p q⟩:=J (H.eq h.1 h.2.1 h.2.2)
def alM{p r:H}(h:¬((mU p q).x=(oC p q).x/\(mU p q).y=(oC p q).y/\(mU p q).z=(oC p q).z)):lM p q r s=⟨mU p q,oC p q,mU r s⟩:=X λe=>h (by rw[e];exact⟨rfl,rfl,rfl⟩)
def aqc(u:H):iJ u<=3:=by
 unfold iJ;split
 .omega
 split
 .omega
 split <;> omega
def aqd{p r:H}(h:Z3 (vN p q r s)):(fK (lM p q r s) && !decide ((oC p q).Lt (mU r s)) && !decide ((oC r s).Lt (mU p q)))=eU p q r s:=by
 unfold eU;rw[X (alJ h)];unfold aqU
 congr 2
 unfold lM fK ajv;split
 . refine decide_eq_decide.2 ?_
   have:=aqc (dU (mU r s) (oC r s) (mU p q));simp only;omega
 refine decide_eq_decide.2 ?_
 have:=aqc (dU (mU p q) (oC p q) (mU r s));simp only;omega
def agL{p r:H}(h:¬Z3 (vN p q r s)):(decide (bA (mR p q r s)=0)&&decide (bA (dV (dU p q r) (iJ (vN p q r s)))*bA (dV (dU p q s) (iJ (vN p q r s)))<=0)&&decide (bA (dV (dU r s p) (iJ (vN p q r s)))*bA (dV (dU r s q) (iJ (vN p q r s)))<=0))=eU p q r s:=by
 unfold eU;rw[J (Bm h).2];simp only[alK,cA]
def Qp{p r:H}[I3 p][I3 q][I3 r][I3 s]:dF prog 306 [pt p,pt q,pt r,pt s] (.bool (eU p q r s)):=by
 intro w;refine⟨bJ func306 (by kernel_rfl),?_⟩;have m:=Mem.refl w
 go_enter func306,ntmps306
 apply gH 13 [4,3,2] m;simp only[↓U,aP];intro o v A B u m;apply aT 1 [1,0] m;simp only[↓U,aP];refine jG m O O (rY (a:=p) (b:=q) (c:=r) (d:=s)) ?_;intro u m;simp only[G];refine lD m O O (agH (u:=vN p q r s)) 5 [0] ?_;simp only[↓U,avG,dC,aa];intro C u m;by_cases f:Z3 (vN p q r s)
 .rw[alI f] at m;apply aT 10 [1,2,5,4,0] m;simp only[↓U,dC,aP];apply I0;omega;refine lD m O O (yR (p:=p) (q:=q)) 10 [4,3,3,2,0] ?_;simp only[↓U,aP,aa];intro u m;refine lD m O O (yR (p:=r) (q:=s)) 12 [2,1,5,4,3] ?_;simp only[↓U,aP,qQ,aa];intro u m;apply Mr 10 [0,6,5] m;simp only[↓U,lL,dM,aP,aa];refine λj=>⟨_,eQ,?_⟩
  intro u m;refine gc (gY m 0 [] [62,63,64,65] (λvs i=>vs=[]/\i=bI j [X6 (lM p q r s).a.x,X6 (lM p q r s).a.y,X6 (lM p q r s).a.z,X6 (lM p q r s).b.x,X6 (lM p q r s).b.y,X6 (lM p q r s).b.z,X6 (lM p q r s).c.x,X6 (lM p q r s).c.y,X6 (lM p q r s).c.z] 39) ?_ ?_)
  . intro n g
    refine bC O ?_ ?_<;>intro h
    .apply xI 6 [4,3,6,0] m;simp only[↓U,aP,qQ,dM,aa];intro u m;apply aT 1 [0] m;simp only[↓U];exact g _ _ _ (by kernel_rfl) m ⟨O,by rw[alL h] <;> rfl⟩
    apply L 1 [0] m;simp only[↓U];exact g _ _ _ (by kernel_rfl) m ⟨O,by rw[alM h] <;> rfl⟩
  intro vs i wr m l u
  obtain⟨rfl,rfl⟩:=l;simp only[zF,zG] at m;simp only[zu,zF,zG];apply aT 3 [1,0] m;simp only[↓U,dM];refine lD m O O (aa5 (t:=lM p q r s)) 1 [0] ?_;simp only[↓U];intro u m;refine jH O (λe=>bD O ((m.b 4 O).full aG aA)) (jH O (λe=>bD O ((m.b 3 O).full aG aA)) (afQ m O O (λe=>by simp only[ee,bi,dh,zA,zB,zC,zD,zE,e,iM];rfl) (λe=>(uL (p:=oC p q) (q:=mU r s)).pure) ?_));intro u m;refine jI O (λe=>pS (bL e O)) (aD (eE O O O) ?_);apply aH 1 [0] m;simp only[↓U];refine jH O (λe=>bD O ((m.b 2 O).full aG aA)) (jH O (λe=>bD O ((m.b 5 O).full aG aA)) (afQ m O O (λe=>by simp only[ee,bi,dh,zA,zB,zC,zD,zE,e,iM];rfl) (λe=>(uL (p:=oC r s) (q:=mU p q)).pure) ?_));intro u m;refine jI O (λe=>pS (bL e O)) (aD (eE O O O) ?_);apply aH 3 [] m;simp only[↓U];refine aS O O ?_;try simp only[zD,zE]
  exact⟨_,O,m.ext,by rw[Hy,aqd f]⟩
 rw[alH f,(Bm f).1] at m;apply aT 7 [1,1,0] m;simp only[↓U,dC];apply I0;omega;refine aD fZ ?_;simp only[G,gt,bi,dh];apply aH 8 [5,4,3,2,0] m;simp only[↓U,aP];refine lD m O O (wB (a:=p) (b:=q) (c:=r) (d:=s)) 2 [0,0] ?_;simp only[↓U];intro u m;refine jI O (λe=>aJ) ?_;simp only[G];refine jH O (λe=>bD O ((m.b 4 O).full aG aA)) (jH O (λe=>bD O ((m.b 3 O).full aG aA)) (jH O (λe=>bD O ((m.b 2 O).full aG aA)) (jH O (λe=>bD O ((m.b 1 O).full aG aA)) (agK m O (λe=>bL e O) (λe=>by simp only[ee,bi,dh,zA,zB,zC,zD,zE,e,iM];rfl) (λe=>acV (a:=p) (b:=q) (c:=r) (d:=s) (k:=iJ (vN p q r s)) _ (m.b 0 rfl) (Bm f).2) ?_))));intro u m;refine aD (eE O O O) ?_;apply aH 1 [0] m;simp only[↓U];refine jI O (λe=>aJ) ?_;simp only[G];refine jH O (λe=>bD O ((m.b 2 O).full aG aA)) (jH O (λe=>bD O ((m.b 1 O).full aG aA)) (jH O (λe=>bD O ((m.b 4 O).full aG aA)) (jH O (λe=>bD O ((m.b 3 O).full aG aA)) (agK m O (λe=>bL e O) (λe=>by simp only[ee,bi,dh,zA,zB,zC,zD,zE,e,iM];rfl) (λe=>acV (a:=r) (b:=s) (c:=p) (d:=q) (k:=iJ (vN p q r s)) _ (m.b 0 rfl) (Bm f).2) ?_))));intro u m;refine aD (eE O O O) ?_;apply aH 3 [] m;simp only[↓U];refine aS O O ?_;try simp only[zD,zE]
 exact⟨_,O,m.ext,by rw[<-agL f];rfl⟩
end
section
section
variable {w0 w:ak} {is:List It}
def dI(D:Nat)(o:Obj):It where
 own b:=X4 D=X4 b
 P w:=w.heap[D]? = X4 o
 lt w b h e:=by cases e;exact (Array.getElem?_eq_some_iff.1 h).1
 st w w' h _ k:=(k D rfl).trans h
def _root_.Go.Lith.Mem.putD{D:Nat}{o o':Obj}(m:Mem w0 w is)(k:Nat)(a:is[k]? = X4 (dI D o)):Mem w0 (w.putObj D o') (is.set k (dI D o')):=by
 have c:D<w.heap.size:=(dI D o).lt w D (m.get k a) rfl;refine m.put k a O O O (by show _<=(w.heap.setIfInBounds D o').size;simp) (λb _ d=>World.putObj_heap_other (λe=>d (by rw[e];rfl))) ?_ (.inl λ_ h=>h);show (w.heap.setIfInBounds D o')[D]? = X4 o'
 simp[c]
def _root_.Go.Lith.Mem.addD{D:Nat}{x:Option (List ej)}(m:Mem w0 w is)(e:aoV is)(h:w.heap[D]? = X4 (.deferred x))(f:w0.heap.size<=D):Mem w0 w (dI D (.deferred x)::is):=by
 refine⟨m.ext,λi hi=>?_,λi hi b c=>?_,bv.2 ⟨λj d b h1 h2=>?_,m.nd⟩⟩
 . rcases ap.1 hi with rfl | hi
   .exact h
   exact m.all i hi
 . rcases ap.1 hi with rfl | hi
   .cases c;exact f
   exact m.ge i hi b c
 obtain⟨g,cs,t,rfl⟩:=e j d
 cases h1;cases h2;have a:w.heap[D]? = X4 (.cells cs.toArray t (0,0)):=m.all _ d;rw[h] at a;cases a
def aqe{P:bt}{l:List aj}{n:Nat}{fn:Func}{R:Ending->ak->Prop}{w:ak}(h:bodyPost P fn R .ret (Fr l) w):bodyPostM Fence.wide n P fn R .ret (Fr l) w:=by
 obtain⟨_,v,b,a⟩:=h;exact⟨v,b,a⟩
def acW{W u:ak}{a:Nat}{cs:List aj}{t:ba}(rx:RX W u)(h1:fQ W a cs t)(h2:fQ u a cs t):nE 0 a W u :=
 ⟨⟨rx.os,rx.tape,rx.output,rx.ko.size,λk b=>Z8 b (jm _)⟩,(show u.heap[a]? = _ from h2).trans (show W.heap[a]? = _ from h1).symm⟩
def alN{g k:Nat}{c1 c2:List aj}{T1 T2:ba}(m:Mem w0 w is)(h1:fQ w g c1 T1)(h2:fQ w k c2 T2)(l:k≠g)(f:∀o∈is.map (·.own),¬o g)(h:∀o∈is.map (·.own),¬o k)(e:w0.heap.size<=g)(ek:w0.heap.size<=k):Mem w0 w (bI k c2 T2::bI g c1 T1::is):=by
 refine⟨m.ext,λi hi=>?_,λi hi b d=>?_,bv.2 ⟨λj hj b c a=>?_,bv.2 ⟨λj hj b c a=>?_,m.nd⟩⟩⟩
 . rcases ap.1 hi with rfl | hi
   .exact h2
   rcases ap.1 hi with rfl | hi
   .exact h1
   exact m.all i hi
 . rcases ap.1 hi with rfl | hi
   .cases d;exact ek
   rcases ap.1 hi with rfl | hi
   .cases d;exact e
   exact m.ge i hi b d
 . cases c
   rcases ap.1 hj with rfl | hj
   .cases a;exact l O
   exact h _ (fl hj) a
 cases c
 exact f _ (fl hj) a
def alO{g k:Nat}{c1 c2:List aj}{T1 T2:ba}(m:Mem w0 w (bI k c2 T2::bI g c1 T1::is)):k≠g/\(∀o∈is.map (·.own),¬o g)/\(∀o∈is.map (·.own),¬o k)/\w0.heap.size<=g/\w0.heap.size<=k:=by
 obtain⟨h1,h2⟩:=bv.1 m.nd;obtain⟨c,_⟩:=bv.1 h2;refine⟨λe=>h1 _ br k O (by rw[e];rfl),λo b h=>?_,λo b h=>?_,m.ge _ (bp _ br) g rfl,m.ge _ br k rfl⟩
 . obtain⟨i,a,rfl⟩:=dj.1 b
   exact c i a g O h
 obtain⟨i,a,rfl⟩:=dj.1 b
 exact h1 i (bp _ a) k O h
def acX{α:Type}{L:List aj}{go:b_}{gf h N q1 q2 d1 d2:Nat}{assign U:Code}{Q:Exit->Act->ak->Prop}{P:bt}{S B:List α->Prop}{v1 v2:α->aj}{c1 c2:α->List aj}{T1 T2 tB:ba}{csB:List aj}
 (hf:ev L go=.func (.func gf) #[] #[.pointer (X4 ⟨h,0,X5⟩)]) (he:Lith.Entr P gf) (ad:SeqStopsK Fence.wide 3 P gf #[.pointer (X4 ⟨h,0,X5⟩)] (λx=>#[v1 x,v2 x]) (nE 0 h) S B N w)
 (I i:List α->List It) (J q:List α->Prop) (G:∀pre,aoV (I pre)) (M:∀pre,aoV (i pre)) (T:∀pre,(I pre).map (·.own)=(I []).map (·.own)) (j:∀pre,bI h csB tB∈I pre)
 (m:Mem w0 w (I [])) (hJ:J [])
 (ah:∀(r:Nat) (pre:List α) (x:α) (W:ak) (K:Act->ak->Prop),lG W w0 W (I pre)->(∀g k u,lG W w0 u (bI k (c2 x) T2::bI g (c1 x) T1::I pre)->K (Fr ((((L.set q1 (v1 x)).set q2 (v2 x)).set d1 (.pointer (X4 ⟨g,0,X5⟩))).set d2 (.pointer (X4 ⟨k,0,X5⟩)))) u) ->
  assign.wpIn (Fence.wide.inRound r) 2 P (Exit.then K (λ_ _ _=>False)) (Fr ((L.set q1 (v1 x)).set q2 (v2 x))) W)
 (ae:∀(r:Nat) (pre:List α) (x:α) (g k:Nat) (W:ak) (Q':Exit->Act->ak->Prop) [Gx Q'],J pre->pre.length<N->lG W w0 W (bI k (c2 x) T2::bI g (c1 x) T1::I pre) ->
  (∀a u,lG W w0 u (I (pre++[x]))->J (pre++[x])->Q' .normal a u)->(∀a u,lG W w0 u (i (pre++[x]))->q (pre++[x])->Q' .ret a u) ->
  U.wpIn (Fence.wide.inRound r) 2 P Q' (Fr ((((L.set q1 (v1 x)).set q2 (v2 x)).set d1 (.pointer (X4 ⟨g,0,X5⟩))).set d2 (.pointer (X4 ⟨k,0,X5⟩)))) W)
 (af:∀(D:Nat) (xs:List α) (u:ak),S xs->J xs->Mem w0 u (dI D (.deferred (X4 []))::I xs)->Q .normal (Fr L [{ target:=.collected D,args:=#[] }]) u)
 (ag:∀(D:Nat) (pre:List α) (u:ak),B pre->q pre->Mem w0 u (dI D (.deferred (X4 []))::i pre)->Q .ret (Fr L [{ target:=.collected D,args:=#[] }]) u) :
 (Code.rangeFunc go #[q1,q2] assign U).wp P Q (Fr L) w:=by
 refine (wpIn_wide (n:=4)).1 ?_;have p:=m.ext.size;refine wpIn_rangeFunc_ownH (F:=Fence.wide) O (by omega) (gf:=gf) (lb:=#[.pointer (X4 ⟨h,0,X5⟩)]) (by rw[cN];exact hf) trivial (λargs u=>tY he) ad nE.trans
  (λW l o o' hl ho hc _=>⟨⟨rfl,rfl,rfl,by show _<=(W.heap.setIfInBounds l o').size;simp,λk hk=>Z8 hk (jm _)⟩,World.putObj_heap_other (λe=>by
   have hb:=(m.all _ (j [])).lt;omega)⟩) (Below.refl _ _) (λ_=>rfl)
  (λpre W=>Mem w0 W (I pre)/\J pre) (λc pre W=>Mem w0 W (i pre)/\(c=.ret/\q pre))
  (OwnFrom.and (agG I G p) (ownFrom_pure _ J)) (λc=>OwnFrom.and (agG i M p) (ownFrom_pure _ _)) ⟨m,hJ⟩
  (λx s W=>∃g k,s=Fr ((((L.set q1 (v1 x)).set q2 (v2 x)).set d1 (.pointer (X4 ⟨g,0,X5⟩))).set d2 (.pointer (X4 ⟨k,0,X5⟩)))/\fQ W g (c1 x) T1/\fQ W k (c2 x) T2/\k≠g/\(∀o∈(I []).map (·.own),¬o g)/\(∀o∈(I []).map (·.own),¬o k)/\w0.heap.size<=g/\w0.heap.size<=k)
  (λx s _ X Y row hs H hr=>by
   obtain⟨g,k,e,h1,h2,v⟩:=hs;exact⟨g,k,e,Qo (β:=Unit) _ (λ_=>g) (λ_=>c1 x) T1 () X Y row h1 H hr,Qo (β:=Unit) _ (λ_=>k) (λ_=>c2 x) T2 () X Y row h2 H hr,v⟩)
  ?_ ?_ ?_ ?_
 . intro r pre x W K d hK
   have e:((#[q1,q2].zip #[v1 x,v2 x]).foldl (λt (y:Tmp × aj)=>t.setIfInBounds y.1 y.2) (Fr L).tmps)=((L.set q1 (v1 x)).set q2 (v2 x)).toArray:=by simp
   have:=ah r pre x W K (lG.start d.1) (λg k u b=>?_)
   . simp only at this ⊢
     rw[e];exact this
   have hp:=alO b.toMem
   rw[T pre] at hp;have R:Mem w0 u (I pre):=b.toMem.tl.tl;exact hK _ _ (b.rx.ko.from _) (acW b.rx (d.1.all _ (j pre)) (R.all _ (j pre))) ⟨R,d.2⟩ ⟨g,k,O,b.all _ (bp _ br),b.all _ br,hp⟩
 . rintro r pre x s W _ _ ⟨d,aa⟩ ⟨g,k,rfl,h1,h2,v,C,E,V,Z⟩ hN
   rw[<-T pre] at C E;refine ae r pre x g k W _ aa hN (lG.start (alN d h1 h2 v C E V Z)) (λa u b f=>?_) (λa u b f=>?_)
   .exact⟨b.rx.ko.from _,acW b.rx (d.all _ (j pre)) (b.all _ (j _)),b.toMem,f⟩
   exact⟨b.rx.ko.from _,b.toMem,O,f⟩
 . rintro D xs W z hS ⟨d,f⟩ A
   exact af D xs W hS f (Lith.Mem.addD d (G xs) A (be p z))
 rintro D c pre W z ab ⟨d,rfl,f⟩ A
 exact wpIn_ret (ag D pre W ab f (Lith.Mem.addD d (M pre) A (be p z)))
end
end
section
set_option maxRecDepth 100000
attribute [local irreducible] az cw fW bX cP Code.wp
variable{q:H}{t:T3}{k:Nat}
instance {t:T3}{k:Nat}[h:IT t]:I3 (t.cor k):=by
 unfold T3.cor;split
 .exact h.a
 split
 .exact h.b
 exact h.c
def alP:List Nat->Int
 | []=>0
 | [_]=>1
 | [_,_]=>2
 | _=>3
def l3(f:Nat->Int):List Nat->List aj
 | []=>[.int .i64 0,.int .i64 0,.int .i64 0]
 | [a]=>[.int .i64 (f a),.int .i64 0,.int .i64 0]
 | [a,b]=>[.int .i64 (f a),.int .i64 (f b),.int .i64 0]
 | a::b::c::_=>[.int .i64 (f a),.int .i64 (f b),.int .i64 (f c)]
def abi(u:H):Hz u<3:=by
 unfold Hz
 repeat' split
 all_goals omega
def Up(p q:H)(t:T3):Prop:=mR t.a t.b t.c p=0/\mR t.a t.b t.c q=0
instance (p q:H)(t:T3):Decidable (Up p q t):=inferInstanceAs (Decidable (_/\_))
def Ei(p:H)(t:T3)(k:Nat):H:=dU (t.cor k) (t.cor ((k+1)%3)) p
def xN(p q:H)(t:T3)(k:Nat):Int:=if Up p q t then bA (dV (Ei p t k) (Hz t.normal)) else bA (mR p q (t.cor k) (t.cor ((k+1)%3)))
def Lc{p:H}(h:Up p q t):xN p q t k=bA (dV (Ei p t k) (Hz t.normal)):=J h
def Ld{p:H}(h:¬Up p q t):xN p q t k=bA (mR p q (t.cor k) (t.cor ((k+1)%3))):=X h
def Bn{p:H}(h:(decide (bA (mR t.a t.b t.c p)≠0)||decide (bA (mR t.a t.b t.c q)≠0))=X3):Up p q t:=by
 simp only[iu,Y1,ne_eq,Decidable.not_not,cA] at h;exact h
def No{p:H}(h:(decide (bA (mR t.a t.b t.c p)≠0)||decide (bA (mR t.a t.b t.c q)≠0))=Z):¬Up p q t:=by
 simp only[cA,fh,R,ne_eq] at h;exact λk=>h.elim (· k.1) (· k.2)
def acY{a b c:Int}:Oz (bA a) (bA b) (bA c)↔Oz a b c:=by
 simp only[Oz,Cw,Ro]
def wD{a b:Int}:0<bA a*bA b↔0<a*b:=by
 have:=alK (a:=a) (b:=b);omega
def aoY{p:H}(d:t.flat):eU p q (mU (mU t.a t.b) t.c) (oC (oC t.a t.b) t.c)=dN p q t:=by
 unfold dN;rw[show dU t.a t.b t.c=t.normal from rfl];rw[X (alJ d)]
def asQ{p:H}(d:¬t.flat)(h:0<bA (mR t.a t.b t.c p)*bA (mR t.a t.b t.c q)):X3=dN p q t:=by
 unfold dN;rw[show dU t.a t.b t.c=t.normal from rfl];rw[J (Bm d).2,J (wD.1 h)]
def auP{p:H}(f:¬t.flat)(h:Up p q t)(g:k<3)(d:eU p q (t.cor k) (t.cor ((k+1)%3))=Z):Z=dN p q t:=by
 unfold dN;rw[show dU t.a t.b t.c=t.normal from rfl];rw[J (Bm f).2,X (by rw[h.1];simp),J (show mR t.a t.b t.c p=0/\mR t.a t.b t.c q=0 from h)];have e:k=0\/k=1\/k=2:=by omega
 rcases e with rfl | rfl | rfl
 .rw[show eU p q t.a t.b=Z from d];rfl
 .rw[show eU p q t.b t.c=Z from d,rg];rfl
 rw[show eU p q t.c t.a=Z from d,rg];rfl
def asR{p:H}(e:¬t.flat)(f:¬0<bA (mR t.a t.b t.c p)*bA (mR t.a t.b t.c q))(d:Up p q t->∀k∈[0,1,2],eU p q (t.cor k) (t.cor ((k+1)%3))=X3):decide (Oz (xN p q t 0) (xN p q t 1) (xN p q t 2))=dN p q t:=by
 unfold dN;rw[show dU t.a t.b t.c=t.normal from rfl];rw[J (Bm e).2,X (λh=>f (wD.2 h))];rw[fy,R];by_cases h:Up p q t
 . rw[J (show mR t.a t.b t.c p=0/\mR t.a t.b t.c q=0 from h),show eU p q t.a t.b=X3 from d h 0 (by decide),show eU p q t.b t.c=X3 from d h 1 (by decide),show eU p q t.c t.a=X3 from d h 2 (by decide),Lc h,Lc h,Lc h,acY]
   simp only[jt,Bool.or_false,R];rw[(Bm e).1];exact Iff.rfl
 rw[X (show ¬(mR t.a t.b t.c p=0/\mR t.a t.b t.c q=0) from h),Ld h,Ld h,Ld h,acY]
 unfold Sj;simp only[fh,bg,R,Y8];exact Iff.rfl
def abj{p:H}[I3 p][I3 q][IT t]:dF prog 242 [pt p,pt q,tr t] (.bool (dN p q t)):=by
 intro w;refine⟨bJ func242 (by kernel_rfl),?_⟩;have m:=Mem.refl w;refine (callsIn_wide (n:=4)).1 (callsIn_of_wp_marks func242 O trivial ?_ O);simp only[ntmps242,ib,ay,bm,aa,ld,iv,iw,jr,jd,bz,cq];refine wpIn_wide.2 ?_;refine bM λK1 U=>av (Xf m O ?_);intro g1 u m;simp only[G];refine Xf m O ?_;intro g2 u m;simp only[G];refine Xf m O ?_;intro g3 u m;simp only[G];refine mH m pB O ?_;intro P u m;refine aI (U _ _ ?_);try clear U K1
 refine bM λK2 V=>av (aD (aN eB aA O O (by decide) (by decide) O) ?_);simp only[G];refine bE O ((m.b 1 O).lies aG aA O O) ?_;simp only[G,zy,ai,aa,ag,ad];refine aD (aN eB aA O O (by decide) (by decide) O) ?_;simp only[G];refine bE O ((m.b 1 O).lies aG aA O O) ?_;simp only[G,zy,ai,aa,ag,ad];refine aD (aN eB aA O O (by decide) (by decide) O) ?_;simp only[G];refine bE O ((m.b 1 O).lies aG aA O O) ?_;simp only[G,zy,ai,aa,ag,ad];refine aD (aN eB aA O O (by decide) (by decide) O) ?_;simp only[G];refine bE O ((m.b 1 O).lies aG aA O O) ?_;simp only[G,zy,ai,aa,ag,ad];refine jG m O O (rY (a:=t.a) (b:=t.b) (c:=t.a) (d:=t.c)) ?_;intro u m;simp only[G];refine jG m O O (agH (u:=t.normal)) ?_;intro u m;simp only[G];refine mH m lO O ?_;intro g5 u m;simp only[G];refine dD m 0 O O O aY (gS O) ⟨O,O⟩ ?_;intro u m;simp only[G,zy,zx,over,aa] at m;refine aI (V _ _ ?_);try clear V K2
 refine bM λK3 X=>bM λN E=>?_;by_cases C:t.flat
 .rw[alI C] at m;refine av (bE O ((m.b 0 O).lies1 bK O) ?_);simp only[G];refine aD (rI O O (by omega)) (aI (E _ _ ?_));try clear E N
  refine Ck O (bM λK5 Y=>av (aD (aN eB aA O O (by decide) (by decide) O) ?_));simp only[G];refine bE O ((m.b 2 O).lies aG aA O O) ?_;simp only[G,zy,ai,aa,ag,ad];refine aD (aN eB aA O O (by decide) (by decide) O) ?_;simp only[G];refine bE O ((m.b 2 O).lies aG aA O O) ?_;simp only[G,zy,ai,aa,ag,ad];refine jG m O O (yR (p:=t.a) (q:=t.b)) ?_;intro u m;refine aD aJ (aD (fG O O) (aD (fG O O) ?_));simp only[G];refine mH m iF O ?_;intro Q u m;simp only[G];refine mH m iF O ?_;intro R u m;simp only[G];refine bP m 1 O O O aA (gS O) O ?_;intro u m;simp only[zy,zx,over,zF,zG,aa] at m;refine bP m 0 O O O aA (gS O) O ?_;intro u m;simp only[zy,zx,over,zF,zG,aa] at m;refine aI (Y _ _ ?_);try clear Y K5
  refine bM λK6 k6=>av (bE O ((m.b 1 O).full aG aA) ?_);simp only[G];refine aD (aN eB aA O O (by decide) (by decide) O) ?_;simp only[G];refine bE O ((m.b 4 O).lies aG aA O O) ?_;simp only[G,zy,ai,aa,ag,ad];refine jG m O O (yR (p:=mU t.a t.b) (q:=t.c)) ?_;intro u m;refine aD aJ (aD (fG O O) (aD (fG O O) ?_));simp only[G];refine mH m iF O ?_;intro S u m;simp only[G];refine mH m iF O ?_;intro T u m;simp only[G];refine bP m 1 O O O aA (gS O) O ?_;intro u m;simp only[zy,zx,over,zF,zG,aa] at m;refine bP m 0 O O O aA (gS O) O ?_;intro u m;simp only[zy,zx,over,zF,zG,aa] at m;refine aI (k6 _ _ ?_);try clear k6 K6
  refine bM λK7 k7=>av (bE O ((m.b 2 O).full aG aA) ?_);simp only[G];refine aD (aN eB aA O O (by decide) (by decide) O) ?_;simp only[G];refine bE O ((m.b 6 O).lies aG aA O O) ?_;simp only[G,zy,ai,aa,ag,ad];refine jG m O O (yR (p:=oC t.a t.b) (q:=t.c)) ?_;intro u m;refine aD aJ (aD (fG O O) (aD (fG O O) ?_));simp only[G];refine mH m iF O ?_;intro M u m;simp only[G];refine mH m iF O ?_;intro ah u m;simp only[G];refine bP m 1 O O O aA (gS O) O ?_;intro u m;simp only[zy,zx,over,zF,zG,aa] at m;refine bP m 0 O O O aA (gS O) O ?_;intro u m;simp only[zy,zx,over,zF,zG,aa] at m;refine aI (k7 _ _ ?_);try clear k7 K7
  refine bM λK8 k8=>av (bE O ((m.b 10 O).full aG aA) ?_);simp only[G];refine bE O ((m.b 9 O).full aG aA) ?_;simp only[G];refine bE O ((m.b 3 O).full aG aA) ?_;simp only[G];refine bE O ((m.b 0 O).full aG aA) ?_;simp only[G];refine jG m O O (Qp (p:=p) (q:=q) (r:=mU (mU t.a t.b) t.c) (s:=oC (oC t.a t.b) t.c)) ?_;intro u m;simp only[G];refine dD m 7 O O O jZ (gS O) ⟨O,O⟩ ?_;intro u m;simp only[G,zy,zx,over,aa] at m;refine aI (k8 _ _ ?_);try clear k8 K8
  refine wp_ret ?_;try simp only[dq,Exit.then,K0]
  refine aqe ?_;refine aS O ⟨_,O,((m.b 7 O).lies1 pK O)⟩ ?_;try simp only[zD,zE]
  exact⟨_,O,m.ext,by rw[aoY C]⟩
 rw[alH C] at m;refine av (bE O ((m.b 0 O).lies1 bK O) ?_);simp only[G];refine aD (Gy O O (by omega)) (aI (E _ _ ?_));try clear E N
 refine agY O (wp_skip (X _ _ ?_));try clear X K3
 refine bM λK9 k9=>?_;simp only[G];refine dR 18 [0,1,2,3,4,5,6,7,8,9,10,11,12,13,14,15] [⟨16,14,3,[X6 0]⟩,⟨17,15,3,[X6 0]⟩] aB (by kernel_rfl) (al2 ⟨_,_,_,O,by kernel_rfl,_,lO,O⟩ ⟨_,_,_,O,by kernel_rfl,_,lO,O⟩) (ol:=?_) ?be ?_
 case be=>simp only[zw,zQ,zR];try rfl
 intro u L;replace m:=m.ext' L;refine eG (aN eB aA O O (by decide) (by decide) O) ?_;simp only[G];refine cO O (λu e=>(((m.ext' e).b 2 O).lies aG aA O O)) ?_;simp only[G,zy,ai,aa,ag,ad];refine eG (aN eB aA O O (by decide) (by decide) O) ?_;simp only[G];refine cO O (λu e=>(((m.ext' e).b 2 O).lies aG aA O O)) ?_;simp only[G,zy,ai,aa,ag,ad];refine eG (aN eB aA O O (by decide) (by decide) O) ?_;simp only[G];refine cO O (λu e=>(((m.ext' e).b 2 O).lies aG aA O O)) ?_;simp only[G,zy,ai,aa,ag,ad];refine cO O (λu e=>(((m.ext' e).b 4 O).full aG aA)) ?_;simp only[G];refine cM O O (wB (a:=t.a) (b:=t.b) (c:=t.c) (d:=p)) (eG (aN eB aA O O (by decide) (by decide) O) ?_);simp only[G];refine cO O (λu e=>(((m.ext' e).b 2 O).lies aG aA O O)) ?_;simp only[G,zy,ai,aa,ag,ad];refine eG (aN eB aA O O (by decide) (by decide) O) ?_;simp only[G];refine cO O (λu e=>(((m.ext' e).b 2 O).lies aG aA O O)) ?_;simp only[G,zy,ai,aa,ag,ad];refine eG (aN eB aA O O (by decide) (by decide) O) ?_;simp only[G];refine cO O (λu e=>(((m.ext' e).b 2 O).lies aG aA O O)) ?_;simp only[G,zy,ai,aa,ag,ad];refine cO O (λu e=>(((m.ext' e).b 3 O).full aG aA)) ?_;simp only[G];refine cM O O (wB (a:=t.a) (b:=t.b) (c:=t.c) (d:=q)) (vB ?_);simp only[G];refine mf2 m (by decide) ?_;intro Q R u m;simp only[zJ,zK,zF,zG];refine dD m 1 O O O aY (gS O) ⟨O,O⟩ ?_;intro u m;simp only[G,zy,zx,over,aa] at m;refine dD m 0 O O O aY (gS O) ⟨O,O⟩ ?_;intro u m;simp only[G,zy,zx,over,aa] at m;refine aI (k9 _ _ ?_);try clear k9 K9
 refine bM λaR ak=>bM λaT al=>av (bE O ((m.b 1 O).lies1 bK O) ?_);simp only[G];refine bE O ((m.b 0 O).lies1 bK O) ?_;simp only[G];refine aD (kS O O (yS _ _)) (aD (aiM O O) (aI (al _ _ ?_)));try clear al aT
 simp only[G];refine bC O ?_ ?_<;>intro aj
 .refine bM λaU am=>av (dD m 3 O O O jZ (gS O) ⟨O,O⟩ ?_);intro u m;simp only[G,zy,zx,over,aa] at m;refine aI (am _ _ ?_);try clear am aU
  refine wp_ret ?_;try simp only[dq,Exit.then,K0]
  refine aqe ?_;refine aS O ⟨_,O,((m.b 3 O).lies1 pK O)⟩ ?_;try simp only[zD,zE]
  exact⟨_,O,m.ext,by rw[<-asQ C aj]⟩
 refine wp_skip (ak _ _ ?_);try clear ak aR
 refine bM λaV an=>av (mH m Fg O ?_);intro S u m;refine aI (an _ _ ?_);try clear an aV
 refine bM λaX ao=>av ?_;simp only[G];refine mH m lO O ?_;intro T u m;simp only[G];refine dD m 0 O O O aY (gS O) ⟨O,O⟩ ?_;intro u m;simp only[G,zy,zx,over,aa] at m;refine aI (ao _ _ ?_);try clear ao aX
 refine bM λa0 aq=>bM λa1 ar=>av (bE O ((m.b 6 O).full cD aW) ?_);simp only[G];refine bF O O (agI (t:=t) _) ?_;rintro v u L ⟨M,rfl,h_,k_⟩;replace m:=m.newB L h_ k_;refine aI (ar _ _ ?_);try clear ar a1
 refine wp_block ?_;simp only[G];refine acX (v1:=λx=>pt (t.cor x)) (v2:=λx=>pt (t.cor ((x+1)%3))) (c1:=λx=>[X6 (t.cor x).x,X6 (t.cor x).y,X6 (t.cor x).z]) (c2:=λx=>[X6 (t.cor ((x+1)%3)).x,X6 (t.cor ((x+1)%3)).y,X6 (t.cor ((x+1)%3)).z]) (T1:=30) (T2:=30) (d1:=18) (d2:=19) (csB:=aL t) (tB:=39) O aj2 (Pb 3 (by omega) M 0 t _ (m.b 0 O)) (λpre=>[bI M (aL t) 39,bI T [X6 (alP pre)] 3,bI S (l3 (xN p q t) pre) 36,bI R [X6 (bA (mR t.a t.b t.c q))] 3,bI Q [X6 (bA (mR t.a t.b t.c p))] 3,bI g5 [X6 (Hz t.normal:Int)] 3,bI P [.bool X3] 4,bI g3 [X6 t.a.x,X6 t.a.y,X6 t.a.z,X6 t.b.x,X6 t.b.y,X6 t.b.z,X6 t.c.x,X6 t.c.y,X6 t.c.z] 39,bI g2 [X6 (q).x,X6 (q).y,X6 (q).z] 30,bI g1 [X6 (p).x,X6 (p).y,X6 (p).z] 30]) (λ_=>[bI P [.bool Z] 4]) (λpre=>Up p q t->∀k∈pre,eU p q (t.cor k) (t.cor ((k+1)%3))=X3) (λpre=>Up p q t/\∃k∈pre,eU p q (t.cor k) (t.cor ((k+1)%3))=Z) (λ_ i g=>by simp only[ap,cd,Z9] at g;rcases g with rfl | rfl | rfl | rfl | rfl | rfl | rfl | rfl | rfl | rfl <;> exact⟨_,_,_,rfl⟩) (λ_ i g=>by simp only[ap,cd,Z9] at g;subst g ;exact⟨_,_,_,rfl⟩) (λ_=>rfl) (λ_=>bf (i:=0) rfl) m (λ_ k hk=>by cases hk) ?_ ?_ ?_ ?_
 .intro r pre x W K m hK;simp only[zF,zG];refine oB λa2 au=>cE (Kz m iF O ?_);intro ah u m;simp only[G];refine Eg m 0 O O O aA (gS O) O ?_;intro u m;simp only[zy,zx,over,zF,zG,aa] at m;refine aI (au _ _ ?_);try clear au a2
  refine cE (Kz m iF O ?_);intro bd u m;simp only[G];refine Eg m 0 O O O aA (gS O) O ?_;intro u m;simp only[zy,zx,over,zF,zG,aa] at m;exact aI (hK _ _ _ m)
 .intro r pre x ah bd W Q' _ B hN m j hr;rcases pre with _ | ⟨a,_ | ⟨b,_ | ⟨c,l⟩⟩⟩
  .simp only[alP,l3] at m;simp only[zF,zG];refine pM (oB λab F=>pM (oB λa3 aw=>cE (bE O ((m.b 6 O).lies1 bK O) ?_)));simp only[G];refine aD (rD O O) (aD aJ ?_);simp only[G];refine dW O (λA=>bD O ((m.b 5 O).lies1 bK O)) (cW O (λA=>rD (bL A O) O) (aD (gJ O O O) (aD aM (aI (aw _ _ ?_)))));try clear aw a3
   simp only[G];refine Bk O ?_ ?_<;>intro h
   .refine yP m 7 aB (by kernel_rfl) ?_;simp only[zy];refine Gh O (λu m=>((m.b 3 O).lies1 bK O)) ?_;simp only[G];refine Gh O (λu m=>((m.b 11 O).full aG aA)) ?_;simp only[G];refine Gh O (λu m=>((m.b 10 O).full aG aA)) ?_;simp only[G];refine Gh O (λu m=>((m.b 1 O).full aG aA)) ?_;simp only[G];refine Gh O (λu m=>((m.b 0 O).full aG aA)) ?_;simp only[G];refine aia O O (wB (a:=p) (b:=q) (c:=t.cor x) (d:=t.cor ((x+1)%3))) (aK (aN vT aY O O (by decide) (by decide) O) (aZ ?_));intro u m;simp only[G];refine iP m 4 O O O aY (gS O) ⟨O,O⟩ ?_;intro u m;simp only[G,zy,zx,over,aa] at m;refine aI (F _ _ ?_);try clear F ab
    refine cE (bE O ((m.b 3 O).lies1 bK O) ?_);simp only[G];refine aD (fU (m:=0) (n:=1) (r:=1) O O (by decide)) ?_;simp only[G];refine iP m 3 O O O aY (gS O) ⟨O,O⟩ ?_;intro u m;simp only[G,zy,zx,over,aa] at m;refine aI ?_
    first
    | (have f:=No h;rw[show bA (((q.sub p).cross ((t.cor x).sub p)).dot ((t.cor ((x+1)%3)).sub p))=xN p q t x from (Ld f).symm] at m;exact j _ _ ⟨m.toMem.sel [X3,X3,Z,Z,Z,Z,Z,Z,Z,Z,Z,Z],m.rx⟩ (λk=>Z8 k f))
    | (have f := Bn h;rw[show bA (dV (Ei p t x) (Hz t.normal))=xN p q t x from (Lc f).symm] at m;exact j _ _ ⟨m.toMem.sel [X3, X3, Z, Z, Z, Z, Z, Z, Z, Z, Z, Z], m.rx⟩ (λg k hk => by
     rcases bh.1 hk with hk | hk
     .exact B g k hk
     rw[a_.1 hk];exact o))
   refine oB λa4 ax=>cE (bE O ((m.b 11 O).full aG aA) ?_);simp only[G];refine bE O ((m.b 10 O).full aG aA) ?_;simp only[G];refine bE O ((m.b 1 O).full aG aA) ?_;simp only[G];refine bE O ((m.b 0 O).full aG aA) ?_;simp only[G];refine Qm m O O (Qp (p:=p) (q:=q) (r:=t.cor x) (s:=t.cor ((x+1)%3))) ?_;intro u m;refine aD aM (aI (ax _ _ ?_));try clear ax a4
   simp only[G];refine Bk O ?_ ?_<;>intro o
   .refine oB λa5 az=>cE (iP m 8 O O O jZ (gS O) ⟨O,O⟩ ?_);intro u m;simp only[G,zy,zx,over,aa] at m;refine aI (az _ _ ?_);try clear az a5
    refine Ql ?_;exact hr _ _ ⟨m.toMem.sel [X3,X3,X3,X3,X3,X3,X3,X3,Z],m.rx⟩ ⟨Bn h,x,by simp,o⟩
   refine yP m 9 aB (by kernel_rfl) ?_;simp only[zy];refine Gh O (λu m=>((m.b 3 O).lies1 bK O)) ?_;simp only[G];refine Gh O (λu m=>((m.b 1 O).full aG aA)) ?_;simp only[G];refine Gh O (λu m=>((m.b 0 O).full aG aA)) ?_;simp only[G];refine Gh O (λu m=>((m.b 1 O).full aG aA)) ?_;simp only[G];refine Gh O (λu m=>((m.b 11 O).full aG aA)) ?_;simp only[G];refine aia O O (rY (a:=t.cor x) (b:=t.cor ((x+1)%3)) (c:=t.cor x) (d:=p)) ?_;simp only[G];refine Gh O (λu m=>((m.b 7 O).lies1 bK O)) ?_;simp only[G];refine aK ((mB (v:=Ei p t x) (abi _) O O)) (aK (aN vT aY O O (by decide) (by decide) O) (aZ ?_));intro u m;simp only[G];refine iP m 4 O O O aY (gS O) ⟨O,O⟩ ?_;intro u m;simp only[G,zy,zx,over,aa] at m;refine aI (F _ _ ?_);try clear F ab
   refine cE (bE O ((m.b 3 O).lies1 bK O) ?_);simp only[G];refine aD (fU (m:=0) (n:=1) (r:=1) O O (by decide)) ?_;simp only[G];refine iP m 3 O O O aY (gS O) ⟨O,O⟩ ?_;intro u m;simp only[G,zy,zx,over,aa] at m;refine aI ?_
   first
   | (have f:=No h;rw[show bA (((q.sub p).cross ((t.cor x).sub p)).dot ((t.cor ((x+1)%3)).sub p))=xN p q t x from (Ld f).symm] at m;exact j _ _ ⟨m.toMem.sel [X3,X3,Z,Z,Z,Z,Z,Z,Z,Z,Z,Z],m.rx⟩ (λk=>Z8 k f))
   | (have f := Bn h;rw[show bA (dV (Ei p t x) (Hz t.normal))=xN p q t x from (Lc f).symm] at m;exact j _ _ ⟨m.toMem.sel [X3, X3, Z, Z, Z, Z, Z, Z, Z, Z, Z, Z], m.rx⟩ (λg k hk => by
    rcases bh.1 hk with hk | hk
    .exact B g k hk
    rw[a_.1 hk];exact o))
  .simp only[alP,l3] at m;simp only[zF,zG];refine pM (oB λae I=>pM (oB λa6 aC=>cE (bE O ((m.b 6 O).lies1 bK O) ?_)));simp only[G];refine aD (rD O O) (aD aJ ?_);simp only[G];refine dW O (λA=>bD O ((m.b 5 O).lies1 bK O)) (cW O (λA=>rD (bL A O) O) (aD (gJ O O O) (aD aM (aI (aC _ _ ?_)))));try clear aC a6
   simp only[G];refine Bk O ?_ ?_<;>intro h
   .refine yP m 7 aB (by kernel_rfl) ?_;simp only[zy];refine Gh O (λu m=>((m.b 3 O).lies1 bK O)) ?_;simp only[G];refine Gh O (λu m=>((m.b 11 O).full aG aA)) ?_;simp only[G];refine Gh O (λu m=>((m.b 10 O).full aG aA)) ?_;simp only[G];refine Gh O (λu m=>((m.b 1 O).full aG aA)) ?_;simp only[G];refine Gh O (λu m=>((m.b 0 O).full aG aA)) ?_;simp only[G];refine aia O O (wB (a:=p) (b:=q) (c:=t.cor x) (d:=t.cor ((x+1)%3))) (aK (aN vT aY O O (by decide) (by decide) O) (aZ ?_));intro u m;simp only[G];refine iP m 4 O O O aY (gS O) ⟨O,O⟩ ?_;intro u m;simp only[G,zy,zx,over,aa] at m;refine aI (I _ _ ?_);try clear I ae
    refine cE (bE O ((m.b 3 O).lies1 bK O) ?_);simp only[G];refine aD (fU (m:=1) (n:=1) (r:=2) O O (by decide)) ?_;simp only[G];refine iP m 3 O O O aY (gS O) ⟨O,O⟩ ?_;intro u m;simp only[G,zy,zx,over,aa] at m;refine aI ?_
    first
    | (have f:=No h;rw[show bA (((q.sub p).cross ((t.cor x).sub p)).dot ((t.cor ((x+1)%3)).sub p))=xN p q t x from (Ld f).symm] at m;exact j _ _ ⟨m.toMem.sel [X3,X3,Z,Z,Z,Z,Z,Z,Z,Z,Z,Z],m.rx⟩ (λk=>Z8 k f))
    | (have f := Bn h;rw[show bA (dV (Ei p t x) (Hz t.normal))=xN p q t x from (Lc f).symm] at m;exact j _ _ ⟨m.toMem.sel [X3, X3, Z, Z, Z, Z, Z, Z, Z, Z, Z, Z], m.rx⟩ (λg k hk => by
     rcases bh.1 hk with hk | hk
     .exact B g k hk
     rw[a_.1 hk];exact o))
   refine oB λa7 aE=>cE (bE O ((m.b 11 O).full aG aA) ?_);simp only[G];refine bE O ((m.b 10 O).full aG aA) ?_;simp only[G];refine bE O ((m.b 1 O).full aG aA) ?_;simp only[G];refine bE O ((m.b 0 O).full aG aA) ?_;simp only[G];refine Qm m O O (Qp (p:=p) (q:=q) (r:=t.cor x) (s:=t.cor ((x+1)%3))) ?_;intro u m;refine aD aM (aI (aE _ _ ?_));try clear aE a7
   simp only[G];refine Bk O ?_ ?_<;>intro o
   .refine oB λa8 aF=>cE (iP m 8 O O O jZ (gS O) ⟨O,O⟩ ?_);intro u m;simp only[G,zy,zx,over,aa] at m;refine aI (aF _ _ ?_);try clear aF a8
    refine Ql ?_;exact hr _ _ ⟨m.toMem.sel [X3,X3,X3,X3,X3,X3,X3,X3,Z],m.rx⟩ ⟨Bn h,x,by simp,o⟩
   refine yP m 9 aB (by kernel_rfl) ?_;simp only[zy];refine Gh O (λu m=>((m.b 3 O).lies1 bK O)) ?_;simp only[G];refine Gh O (λu m=>((m.b 1 O).full aG aA)) ?_;simp only[G];refine Gh O (λu m=>((m.b 0 O).full aG aA)) ?_;simp only[G];refine Gh O (λu m=>((m.b 1 O).full aG aA)) ?_;simp only[G];refine Gh O (λu m=>((m.b 11 O).full aG aA)) ?_;simp only[G];refine aia O O (rY (a:=t.cor x) (b:=t.cor ((x+1)%3)) (c:=t.cor x) (d:=p)) ?_;simp only[G];refine Gh O (λu m=>((m.b 7 O).lies1 bK O)) ?_;simp only[G];refine aK ((mB (v:=Ei p t x) (abi _) O O)) (aK (aN vT aY O O (by decide) (by decide) O) (aZ ?_));intro u m;simp only[G];refine iP m 4 O O O aY (gS O) ⟨O,O⟩ ?_;intro u m;simp only[G,zy,zx,over,aa] at m;refine aI (I _ _ ?_);try clear I ae
   refine cE (bE O ((m.b 3 O).lies1 bK O) ?_);simp only[G];refine aD (fU (m:=1) (n:=1) (r:=2) O O (by decide)) ?_;simp only[G];refine iP m 3 O O O aY (gS O) ⟨O,O⟩ ?_;intro u m;simp only[G,zy,zx,over,aa] at m;refine aI ?_
   first
   | (have f:=No h;rw[show bA (((q.sub p).cross ((t.cor x).sub p)).dot ((t.cor ((x+1)%3)).sub p))=xN p q t x from (Ld f).symm] at m;exact j _ _ ⟨m.toMem.sel [X3,X3,Z,Z,Z,Z,Z,Z,Z,Z,Z,Z],m.rx⟩ (λk=>Z8 k f))
   | (have f := Bn h;rw[show bA (dV (Ei p t x) (Hz t.normal))=xN p q t x from (Lc f).symm] at m;exact j _ _ ⟨m.toMem.sel [X3, X3, Z, Z, Z, Z, Z, Z, Z, Z, Z, Z], m.rx⟩ (λg k hk => by
    rcases bh.1 hk with hk | hk
    .exact B g k hk
    rw[a_.1 hk];exact o))
  .simp only[alP,l3] at m;simp only[zF,zG];refine pM (oB λaf J=>pM (oB λa9 aH=>cE (bE O ((m.b 6 O).lies1 bK O) ?_)));simp only[G];refine aD (rD O O) (aD aJ ?_);simp only[G];refine dW O (λA=>bD O ((m.b 5 O).lies1 bK O)) (cW O (λA=>rD (bL A O) O) (aD (gJ O O O) (aD aM (aI (aH _ _ ?_)))));try clear aH a9
   simp only[G];refine Bk O ?_ ?_<;>intro h
   .refine yP m 7 aB (by kernel_rfl) ?_;simp only[zy];refine Gh O (λu m=>((m.b 3 O).lies1 bK O)) ?_;simp only[G];refine Gh O (λu m=>((m.b 11 O).full aG aA)) ?_;simp only[G];refine Gh O (λu m=>((m.b 10 O).full aG aA)) ?_;simp only[G];refine Gh O (λu m=>((m.b 1 O).full aG aA)) ?_;simp only[G];refine Gh O (λu m=>((m.b 0 O).full aG aA)) ?_;simp only[G];refine aia O O (wB (a:=p) (b:=q) (c:=t.cor x) (d:=t.cor ((x+1)%3))) (aK (aN vT aY O O (by decide) (by decide) O) (aZ ?_));intro u m;simp only[G];refine iP m 4 O O O aY (gS O) ⟨O,O⟩ ?_;intro u m;simp only[G,zy,zx,over,aa] at m;refine aI (J _ _ ?_);try clear J af
    refine cE (bE O ((m.b 3 O).lies1 bK O) ?_);simp only[G];refine aD (fU (m:=2) (n:=1) (r:=3) O O (by decide)) ?_;simp only[G];refine iP m 3 O O O aY (gS O) ⟨O,O⟩ ?_;intro u m;simp only[G,zy,zx,over,aa] at m;refine aI ?_
    first
    | (have f:=No h;rw[show bA (((q.sub p).cross ((t.cor x).sub p)).dot ((t.cor ((x+1)%3)).sub p))=xN p q t x from (Ld f).symm] at m;exact j _ _ ⟨m.toMem.sel [X3,X3,Z,Z,Z,Z,Z,Z,Z,Z,Z,Z],m.rx⟩ (λk=>Z8 k f))
    | (have f := Bn h;rw[show bA (dV (Ei p t x) (Hz t.normal))=xN p q t x from (Lc f).symm] at m;exact j _ _ ⟨m.toMem.sel [X3, X3, Z, Z, Z, Z, Z, Z, Z, Z, Z, Z], m.rx⟩ (λg k hk => by
     rcases bh.1 hk with hk | hk
     .exact B g k hk
     rw[a_.1 hk];exact o))
   refine oB λba aO=>cE (bE O ((m.b 11 O).full aG aA) ?_);simp only[G];refine bE O ((m.b 10 O).full aG aA) ?_;simp only[G];refine bE O ((m.b 1 O).full aG aA) ?_;simp only[G];refine bE O ((m.b 0 O).full aG aA) ?_;simp only[G];refine Qm m O O (Qp (p:=p) (q:=q) (r:=t.cor x) (s:=t.cor ((x+1)%3))) ?_;intro u m;refine aD aM (aI (aO _ _ ?_));try clear aO ba
   simp only[G];refine Bk O ?_ ?_<;>intro o
   .refine oB λbb aP=>cE (iP m 8 O O O jZ (gS O) ⟨O,O⟩ ?_);intro u m;simp only[G,zy,zx,over,aa] at m;refine aI (aP _ _ ?_);try clear aP bb
    refine Ql ?_;exact hr _ _ ⟨m.toMem.sel [X3,X3,X3,X3,X3,X3,X3,X3,Z],m.rx⟩ ⟨Bn h,x,by simp,o⟩
   refine yP m 9 aB (by kernel_rfl) ?_;simp only[zy];refine Gh O (λu m=>((m.b 3 O).lies1 bK O)) ?_;simp only[G];refine Gh O (λu m=>((m.b 1 O).full aG aA)) ?_;simp only[G];refine Gh O (λu m=>((m.b 0 O).full aG aA)) ?_;simp only[G];refine Gh O (λu m=>((m.b 1 O).full aG aA)) ?_;simp only[G];refine Gh O (λu m=>((m.b 11 O).full aG aA)) ?_;simp only[G];refine aia O O (rY (a:=t.cor x) (b:=t.cor ((x+1)%3)) (c:=t.cor x) (d:=p)) ?_;simp only[G];refine Gh O (λu m=>((m.b 7 O).lies1 bK O)) ?_;simp only[G];refine aK ((mB (v:=Ei p t x) (abi _) O O)) (aK (aN vT aY O O (by decide) (by decide) O) (aZ ?_));intro u m;simp only[G];refine iP m 4 O O O aY (gS O) ⟨O,O⟩ ?_;intro u m;simp only[G,zy,zx,over,aa] at m;refine aI (J _ _ ?_);try clear J af
   refine cE (bE O ((m.b 3 O).lies1 bK O) ?_);simp only[G];refine aD (fU (m:=2) (n:=1) (r:=3) O O (by decide)) ?_;simp only[G];refine iP m 3 O O O aY (gS O) ⟨O,O⟩ ?_;intro u m;simp only[G,zy,zx,over,aa] at m;refine aI ?_
   first
   | (have f:=No h;rw[show bA (((q.sub p).cross ((t.cor x).sub p)).dot ((t.cor ((x+1)%3)).sub p))=xN p q t x from (Ld f).symm] at m;exact j _ _ ⟨m.toMem.sel [X3,X3,Z,Z,Z,Z,Z,Z,Z,Z,Z,Z],m.rx⟩ (λk=>Z8 k f))
   | (have f := Bn h;rw[show bA (dV (Ei p t x) (Hz t.normal))=xN p q t x from (Lc f).symm] at m;exact j _ _ ⟨m.toMem.sel [X3, X3, Z, Z, Z, Z, Z, Z, Z, Z, Z, Z], m.rx⟩ (λg k hk => by
    rcases bh.1 hk with hk | hk
    .exact B g k hk
    rw[a_.1 hk];exact o))
  exact Z8 hN (by simp)
 rotate_left
 . rintro D pre u hS ⟨f,k,hk,ho⟩ m
   try simp only[dq,Exit.then]
   refine adS (Def.mk (m.get 0 O)) ?_;replace m:=m.putD (o':=.deferred X5) 0 O;exact aS O ⟨_,O,(m.b 1 O).lies1 pK O⟩ ⟨_,O,m.ext,by rw[<-auP C f (hS k hk) ho]⟩
 rintro D xs u rfl hj m;simp only[alP,l3] at m;refine aq _ _ ?_;try clear aq a0
 refine bM λbc aQ=>av (bE O ((m.b 3 O).full vU iN) ?_);simp only[G];refine jG m O O (aoX (a:=xN p q t 0) (b:=xN p q t 1) (c:=xN p q t 2)) ?_;intro u m;simp only[G];refine dD m 7 O O O jZ (gS O) ⟨O,O⟩ ?_;intro u m;simp only[G,zy,zx,over,aa] at m;refine aI (aQ _ _ ?_);try clear aQ bc
 refine wp_ret ?_;try simp only[dq,Exit.then,K0]
 refine adS (Def.mk (m.get 0 O)) ?_;replace m:=m.putD (o':=.deferred X5) 0 O;simp only[zF,zG] at m;refine aS O ⟨_,O,((m.b 7 O).lies1 pK O)⟩ ?_;try simp only[zD,zE]
 exact⟨_,O,m.ext,by rw[asR C aj hj]⟩
end
section
set_option maxRecDepth 100000
attribute [local irreducible] az cw fW bX cP Code.wp
attribute [local congr] dK dL cR dJ
variable{s t:T3}{k:Nat}{x:H}
def aoZ(d:k<3)(h:dN (s.cor k) (s.cor ((k+1)%3)) t=Z):Z=wG s t:=by
 have e:k=0\/k=1\/k=2:=by omega
 unfold wG;rcases e with rfl | rfl | rfl
 .rw[show dN s.a s.b t=Z from h];rfl
 .rw[show dN s.b s.c t=Z from h,rg];rfl
 rw[show dN s.c s.a t=Z from h,rg]
def alQ(h:∀k∈[0,1,2],dN (s.cor k) (s.cor ((k+1)%3)) t=X3):X3=wG s t:=by
 unfold wG;rw[show dN s.a s.b t=X3 from h 0 (by decide),show dN s.b s.c t=X3 from h 1 (by decide),show dN s.c s.a t=X3 from h 2 (by decide)];rfl
def acZ{l:List aj}{ty:ba}{x y:b_}(c:k<3)(a:ev l x=tr t)(b:ev l y=X6 (k:Int)):iB prog l (.index 39 x y) ty (pt (t.cor k)):=by
 have h:k=0\/k=1\/k=2:=by omega
 rcases h with rfl | rfl | rfl
 .exact uI a b
 .exact uJ a b
 exact uK a b
def alR(t:T3):List H:=[t.a,t.b,t.c]
def alS(a:k<3):(alR t)[k]? = X4 (t.cor k):=by
 have h:k=0\/k=1\/k=2:=by omega
 rcases h with rfl | rfl | rfl <;> rfl
def sU(s t:T3)(k:Nat):List H:=((alR s).take k).filter λx=>t.has x
def sV(s t:T3)(k:Nat):List H:=((alR s).take k).filter λx=>!t.has x
def sW(a:k<3):sU s t (k+1)=sU s t k++if t.has (s.cor k) then [s.cor k] else []:=by
 unfold sU;rw[bV (alS a),gp,fk,mx]
def sX(a:k<3):sV s t (k+1)=sV s t k++if t.has (s.cor k) then [] else [s.cor k]:=by
 unfold sV;rw[bV (alS a),gp,fk,mx];cases t.has (s.cor k) <;> rfl
def Qr(s t:T3)(k:Nat):(sU s t k).length<=3:=be (fw _ _) (by rw[bj];exact Nat.min_le_right ..)
def Qs(s t:T3)(k:Nat):(sV s t k).length<=3:=be (fw _ _) (by rw[bj];exact Nat.min_le_right ..)
def aqf   : ((decide (x.x=t.a.x/\x.y=t.a.y/\x.z=t.a.z)||decide (x.x=t.b.x/\x.y=t.b.y/\x.z=t.b.z))||decide (x.x=t.c.x/\x.y=t.c.y/\x.z=t.c.z))=t.has x:=by
 have e:∀p q:H,(p.x=q.x/\p.y=q.y/\p.z=q.z)↔p=q:=λp q=>⟨λh=>H.eq h.1 h.2.1 h.2.2,λh=>by rw[h];exact⟨O,O,O⟩⟩
 rw[fy,eF];simp only[fh,R,e,X0]
def Uq(s t:T3):(mS s t).length+(tE s t).length=3:=by
 rw[Sr,Ss];cases t.has s.a <;> cases t.has s.b <;> cases t.has s.c <;> rfl
theorem nd_of(h:fK t=X3):t.nd=Z:=by
 have g:iJ (dU t.a t.b t.c)<3:=by
  unfold fK at h;rw[Y1,Decidable.not_not] at h;exact h
 have i:∀p q r:H,p=q\/q=r\/r=p->dU p q r=⟨0,0,0⟩:=λp q r d=>by
  rcases d with rfl | rfl | rfl <;> (refine H.eq ?_ ?_ ?_ <;> (simp only[dU,H.sub,H.cross];grind))
 have f:¬(t.a=t.b\/t.b=t.c\/t.c=t.a):=λd=>by
  rw[i _ _ _ d] at g;exact Z8 g (by decide)
 rw[vP];exact⟨λe=>f (.inl e),λe=>f (.inr (.inl e)),λe=>f (.inr (.inr e))⟩
def Ur{s t:T3}(hs:fK s=X3)(c:fK t=X3)(a:(mS s t).length≠0) :
 (∃x u v y z,mS s t=[x]/\tE s t=[u,v]/\tE t s=[y,z])\/(∃x y u v,mS s t=[x,y]/\tE s t=[u]/\tE t s=[v])\/(mS s t).length=3:=by
 have h1:=Uq s t;have h2:=Uq t s;have b:=(aci (nd_of hs) (nd_of c)).length_eq;generalize mS s t=L at *
 generalize tE s t=U at *
 generalize tE t s=V at *
 rw[<-b] at h2;rcases L with _ | ⟨x,_ | ⟨y,_ | ⟨z,_ | ⟨d,L⟩⟩⟩⟩
 .exact Z8 O a
 . rcases U with _ | ⟨u,_ | ⟨v,_ | ⟨_,_⟩⟩⟩ <;> simp only[ay,bm] at h1 <;> try omega
   rcases V with _ | ⟨y,_ | ⟨z,_ | ⟨_,_⟩⟩⟩ <;> simp only[ay,bm] at h2 <;> try omega
   exact .inl ⟨x,u,v,y,z,O,O,O⟩
 . rcases U with _ | ⟨u,_ | ⟨_,_⟩⟩ <;> simp only[ay,bm] at h1 <;> try omega
   rcases V with _ | ⟨v,_ | ⟨_,_⟩⟩ <;> simp only[ay,bm] at h2 <;> try omega
   exact .inr (.inl ⟨x,y,u,v,O,O,O⟩)
 .exact .inr (.inr O)
 simp only[ay] at h1;omega
def alT{n:Nat}(a:n=(mS s t).length)(h:(decide ((n:Int)=0)||fK s||fK t)=Z):(wG s t||wG t s)=mP s t:=by
 unfold mP;rw[J];rw[fh,fh,R] at h;rcases h with (h | h) | h
 .exact .inl (by omega)
 .exact .inr (.inl h)
 exact .inr (.inr h)
def alU{n:Nat}(a:n=(mS s t).length)(h:(decide ((n:Int)=0)||fK s||fK t)=X3):((mS s t).length≠0/\fK s=X3/\fK t=X3)/\mP s t=nU s t (mS s t) (tE s t) (tE t s):=by
 rw[iu,iu,Y1] at h;refine⟨⟨λe=>h.1.1 (by omega),h.1.2,h.2⟩,?_⟩;unfold mP;rw[X];rintro (k | k | k)
 .exact h.1.1 (by omega)
 .rw[h.1.2] at k;cases k
 rw[h.2] at k;cases k
theorem alV[h:IT s](d:x∈alR s):I3 x:=by
 simp only[alR,ap,cd,Z9] at d;rcases d with rfl | rfl | rfl
 .exact h.a
 .exact h.b
 exact h.c
theorem abk[IT s]{L:List H}{i:Nat}(h:mS s t=L)(a:L[i]? = X4 x):I3 x:=alV (ct.1 (h▸bf a:x∈mS s t)).1
theorem tK[IT s]{L:List H}{i:Nat}(h:tE s t=L)(a:L[i]? = X4 x):I3 x:=alV (ct.1 (h▸bf a:x∈tE s t)).1
def alW{a b c d:H}:(decide (bA (((b.sub a).cross (c.sub a)).dot (d.sub a))=0)&&decide (bA ((b.sub a).cross (c.sub a)).x=bA ((b.sub a).cross (d.sub a)).x/\bA ((b.sub a).cross (c.sub a)).y=bA ((b.sub a).cross (d.sub a)).y/\bA ((b.sub a).cross (c.sub a)).z=bA ((b.sub a).cross (d.sub a)).z))=nU s t [a,b] [c] [d]:=by
 rw[decide_eq_decide.2 (cA (n:=((b.sub a).cross (c.sub a)).dot (d.sub a)))];rfl
def alX(h:(mS s t).length=3):nU s t (mS s t) (tE s t) (tE t s)=Z:=by
 generalize mS s t=L at h;rcases L with _ | ⟨x,_ | ⟨y,_ | ⟨z,L⟩⟩⟩ <;> simp only[ay,bm] at h <;> try omega
 rfl
def Zj[IT s][IT t]:dF prog 241 [tr s,tr t] (.bool (wG s t)):=by
 intro w;refine⟨bJ func241 (by kernel_rfl),?_⟩;have m:=Mem.refl w;refine (callsIn_wide (n:=4)).1 (callsIn_of_wp_marks func241 O trivial ?_ O);simp only[ntmps241,ib,ay,bm,aa,ld,iv,iw,jr,jd,bz,cq];refine wpIn_wide.2 ?_;refine bM λE g=>av (Xf m O ?_);intro P u m;simp only[G];refine Xf m O ?_;intro Q u m;simp only[G];refine mH m pB O ?_;intro e u m;refine aI (g _ _ ?_);try clear g E
 refine bM λF h=>bM λH j=>av ?_;simp only[G];refine bE O ((m.b 2 O).full cD aW) ?_;simp only[G];refine bF O O (agI (t:=s) _) ?_;rintro v u N ⟨f,rfl,X,k_⟩;replace m:=m.newB N X k_;refine aI (j _ _ ?_);try clear j H
 refine wp_block ?_;simp only[G];refine acX (v1:=λx=>pt (s.cor x)) (v2:=λx=>pt (s.cor ((x+1)%3))) (c1:=λx=>[X6 (s.cor x).x,X6 (s.cor x).y,X6 (s.cor x).z]) (c2:=λx=>[X6 (s.cor ((x+1)%3)).x,X6 (s.cor ((x+1)%3)).y,X6 (s.cor ((x+1)%3)).z]) (T1:=30) (T2:=30) (d1:=5) (d2:=6) (csB:=aL s) (tB:=39) O aj2 (Pb 3 (by omega) f 0 s _ (m.b 0 O)) (λ_=>[bI f (aL s) 39,bI e [.bool X3] 4,bI Q [X6 t.a.x,X6 t.a.y,X6 t.a.z,X6 t.b.x,X6 t.b.y,X6 t.b.z,X6 t.c.x,X6 t.c.y,X6 t.c.z] 39,bI P [X6 s.a.x,X6 s.a.y,X6 s.a.z,X6 s.b.x,X6 s.b.y,X6 s.b.z,X6 s.c.x,X6 s.c.y,X6 s.c.z] 39]) (λ_=>[bI e [.bool Z] 4]) (λpre=>∀k∈pre,dN (s.cor k) (s.cor ((k+1)%3)) t=X3) (λpre=>∃k∈pre,dN (s.cor k) (s.cor ((k+1)%3)) t=Z) (λ_ i d=>by simp only[ap,cd,Z9] at d;rcases d with rfl | rfl | rfl | rfl <;> exact⟨_,_,_,rfl⟩) (λ_ i d=>by simp only[ap,cd,Z9] at d;subst d ;exact⟨_,_,_,rfl⟩) (λ_=>rfl) (λ_=>bf (i:=0) rfl) m (λk hk=>by cases hk) ?_ ?_ ?_ ?_
 .intro r pre x W K m U;simp only[zF,zG];refine oB λI l=>cE (Kz m iF O ?_);intro R u m;simp only[G];refine Eg m 0 O O O aA (gS O) O ?_;intro u m;simp only[zy,zx,over,zF,zG,aa] at m;refine aI (l _ _ ?_);try clear l I
  refine cE (Kz m iF O ?_);intro S u m;simp only[G];refine Eg m 0 O O O aA (gS O) O ?_;intro u m;simp only[zy,zx,over,zF,zG,aa] at m;exact aI (U _ _ _ m)
 .intro r pre x R S W Q' _ T hN m hn hr
  simp only[zF,zG];refine pM (oB λJ o=>cE (bE O ((m.b 1 O).full aG aA) ?_));simp only[G];refine bE O ((m.b 0 O).full aG aA) ?_;simp only[G];refine bE O ((m.b 4 O).full cD aW) ?_;simp only[G];refine Qm m O O (abj (p:=s.cor x) (q:=s.cor ((x+1)%3)) (t:=t)) ?_;intro u m;refine aI (o _ _ ?_);try clear o J
  simp only[G];refine Bk O ?_ ?_<;>intro C
  .refine oB λL A=>cE (iP m 3 O O O jZ (gS O) ⟨O,O⟩ ?_);intro u m;simp only[G,zy,zx,over,aa] at m;refine aI (A _ _ ?_);try clear A L
   refine Ql ?_;exact hr _ _ ⟨m.toMem.sel [X3,X3,X3,Z],m.rx⟩ ⟨x,by simp,C⟩
  refine alF ?_;exact hn _ _ ⟨m.toMem.sel [X3,X3,Z,Z,Z,Z],m.rx⟩ (λk hk=>by
   rcases bh.1 hk with hk | hk
   .exact T k hk
   rw[a_.1 hk];exact C)
 rotate_left
 . rintro D pre u V ⟨k,hk,ho⟩ m
   try simp only[dq,Exit.then]
   refine adS (Def.mk (m.get 0 O)) ?_;replace m:=m.putD (o':=.deferred X5) 0 O;exact aS O ⟨_,O,(m.b 1 O).lies1 pK O⟩ ⟨_,O,m.ext,by rw[<-aoZ (V k hk) ho]⟩
 rintro D xs u rfl Y m;refine h _ _ ?_;try clear h F
 refine bM λM B=>av (dD m 2 O O O jZ (gS O) ⟨O,O⟩ ?_);intro u m;simp only[G,zy,zx,over,aa] at m;refine aI (B _ _ ?_);try clear B M
 refine wp_ret ?_;try simp only[dq,Exit.then,K0]
 refine adS (Def.mk (m.get 0 O)) ?_;replace m:=m.putD (o':=.deferred X5) 0 O;simp only[zF,zG] at m;refine aS O ⟨_,O,((m.b 2 O).lies1 pK O)⟩ ?_;try simp only[zD,zE]
 exact⟨_,O,m.ext,by rw[<-alQ Y]⟩
def ac0(w:ak):cY prog 240 [tr s,tr t] w (λv w'=>∃f q A g r B,v=.tuple #[.slice f q A,.slice g r B]/\q=(mS s t).length/\r=(tE s t).length/\Mem w w' [oI 30 3 g r B ((tE s t).flatMap iD),oI 30 3 f q A ((mS s t).flatMap iD)]):=by
 refine⟨bJ func240 (by kernel_rfl),?_⟩;have m:=Mem.refl w
 go_enter func240,ntmps240
 apply gH 4 [0] m;simp only[↓U];intro K D u m;refine aD aM ?_;replace m:=m.nilO 30 3;refine aD aM ?_;replace m:=m.nilO 30 3;apply aH 8 [4,0] m;simp only[↓U,dM];refine bT [4,5,9] [7,10,11,12,13,14,15,16,17,18,19,20,21,22,23,24,25,26,27,28,29,30,31,32,33,34,35,36] (λn vs H=>∃(k:Nat) (f g:Option Addr) (h i:Nat),vs=[.slice f (sU s t k).length h,.slice g (sV s t k).length i,X6 (k:Int)]/\Mem w H [oI 30 3 g (sV s t k).length i ((sV s t k).flatMap iD),oI 30 3 f (sU s t k).length h ((sU s t k).flatMap iD),bI D [X6 t.a.x,X6 t.a.y,X6 t.a.z,X6 t.b.x,X6 t.b.y,X6 t.b.z,X6 t.c.x,X6 t.c.y,X6 t.c.z] 39]/\(k<=3)/\(n=3-k)) ?_ ?_
 .exact⟨_,0,_,_,_,_,O,(m.sel [Z,Z,Z,X3]),by omega,O⟩
 intro n vs wr F u I C
 obtain⟨k,f,g,h,i,rfl,m,N,P⟩:=F;simp only[zu,zF,zG];apply L 5 [0,0] m;simp only[↓U];refine bC O ?_ ?_<;>intro Q
 .have e:k<3:=by omega
  apply L 5 [0] m;simp only[↓U];refine aD ((acZ (t:=s) e O O)) ?_;apply lK 14 [0,1,4,5,1,4,5,1,4,0] m;simp only[↓U,fB,aP,bQ,aa,ad,ag];refine λM=>⟨_,eQ,_,eQ,λ_=>⟨_,eQ,λ_=>⟨by omega,?_⟩⟩⟩
  intro u m;refine gF O ?_ ?_<;>intro d
  .rw[aqf] at d;apply L 3 [1,0] m;simp only[↓U,aP];refine kH O ?_;intro u E j l p;replace m:=m.newB j l p;simp only[G];refine bN m 3 O O eR mK O (by decide) O O O (m.b 0 O).rowsO (fN O) (by have:=Qr s t k;omega) (by have:=Qr s t k;omega) ?_;intro f h u m;simp only[zF,zG] at m;rw[show (sU s t k).flatMap iD++_=(sU s t (k+1)).flatMap iD by rw[sW e,d,aw];rfl,show (sU s t k).length+1=(sU s t (k+1)).length by rw[sW e,d,aq];rfl] at m;rw[show (sU s t k).length+1=(sU s t (k+1)).length by rw[sW e,d,aq];rfl];apply aH 7 [0] m;simp only[↓U];apply I0;omega;have o:sV s t (k+1)=sV s t k:=by rw[sX e,d,J rfl,fb]
   rw[<-o] at m ⊢;exact C (3-(k+1)) _ _ (by omega) (by kernel_rfl) ⟨k+1,_,_,_,_,O,(m.sel [X3,X3,Z,Z,Z]),by omega,O⟩
  rw[aqf] at d;apply L 3 [1,0] m;simp only[↓U,aP];refine kH O ?_;intro u E j l p;replace m:=m.newB j l p;simp only[G];refine bN m 2 O O eR mK O (by decide) O O O (m.b 0 O).rowsO (fN O) (by have:=Qs s t k;omega) (by have:=Qs s t k;omega) ?_;intro g i u m;simp only[zF,zG] at m;rw[show (sV s t k).flatMap iD++_=(sV s t (k+1)).flatMap iD by rw[sX e,d,aw];rfl,show (sV s t k).length+1=(sV s t (k+1)).length by rw[sX e,d,aq];rfl] at m;rw[show (sV s t k).length+1=(sV s t (k+1)).length by rw[sX e,d,aq];rfl];apply aH 7 [0] m;simp only[↓U];apply I0;omega;have o:sU s t (k+1)=sU s t k:=by rw[sW e,d,X fg,fb]
  rw[<-o] at m ⊢;exact C (3-(k+1)) _ _ (by omega) (by kernel_rfl) ⟨k+1,_,_,_,_,O,(m.sel [X3,X3,Z,Z,Z]),by omega,O⟩
 obtain rfl:k=3:=by omega
 apply L 9 [] m;simp only[↓U];exact wE O O O ⟨_,O,m.ext,_,_,_,_,_,_,O,O,O,m.sel [Z,Z,X3]⟩
def asS[IT s][IT t]:dF prog 176 [tr s,tr t] (.bool (mP s t)):=by
 intro w;refine⟨bJ func176 (by kernel_rfl),?_⟩;have m:=Mem.refl w
 go_enter func176,ntmps176
 apply gH 9 [2] m;simp only[↓U,dM];intro g1 g2 u m;apply aT 1 [1,0] m;simp only[↓U,dM];refine bF O O (ac0 (s:=s) (t:=t) _) ?_;rintro v u H ⟨V,n5,c5,W,n6,c6,rfl,g,n,x⟩;replace m:=m.plus x;clear x;simp only[cq,bz] at m;apply aH 10 [3,4,0] m;simp only[↓U,dM];refine bF O O (ac0 (s:=t) (t:=s) _) ?_;rintro v u H ⟨X,n7,c7,Y,n8,c8,rfl,ab,r,x⟩;replace m:=m.plus x;clear x;simp only[cq,bz] at m;apply aH 13 [0,0] m;simp only[↓U,gV];refine dW O (λe=>bD O ((m.b 5 O).full cD aW)) (Ad m O O (λe=>by simp only[ee,bi,dh,zA,zB,zC,zD,zE,e,iM];rfl) (λe=>aa5 (t:=s)) ?_);intro u m;refine aD (gJ O O O) ?_;apply aH 1 [0] m;simp only[↓U];refine dW O (λe=>bD O ((m.b 4 O).full cD aW)) (Ad m O O (λe=>by simp only[ee,bi,dh,zA,zB,zC,zD,zE,e,iM];rfl) (λe=>aa5 (t:=t)) ?_);intro u m;refine aD (gJ O O O) ?_;apply aH 1 [0] m;simp only[↓U];refine gF O ?_ ?_<;>intro B
 .rw[Hy,Hy] at B;apply L 4 [6,5,0] m;simp only[↓U,dM];refine lD m O O (Zj (s:=s) (t:=t)) 1 [0] ?_;simp only[↓U];intro u m;refine dW O (λe=>bD O ((m.b 4 O).full cD aW)) (dW O (λe=>bD O ((m.b 5 O).full cD aW)) (Ad m O O (λe=>by simp only[ee,bi,dh,zA,zB,zC,zD,zE,e,iM];rfl) (λe=>Zj (s:=t) (t:=s)) ?_));intro u m;refine aD (gJ O O O) ?_;apply aH 3 [] m;simp only[↓U];refine aS O O ?_;try simp only[zD,zE]
  exact⟨_,O,m.ext,by rw[alT g B]⟩
 rw[Hy,Hy] at B;obtain⟨⟨M,S,T⟩,D⟩:=alU g B;apply L 3 [] m;simp only[↓U];rcases Ur S T M with ⟨j,k,E,l,F,h1,h2,f⟩ | ⟨j,A,k,l,h1,h2,f⟩ | h1
 .rw[h1] at g;rw[h2] at n;rw[f] at r;have N:I3 k:=tK (i:=0) h2 rfl;have P:I3 E:=tK (i:=1) h2 rfl;have Q:I3 l:=tK (i:=0) f rfl;have R:I3 F:=tK (i:=1) f rfl;simp only[ay,bm] at g n r;subst g;subst n;subst r;rw[h1,h2,f] at m;obtain⟨I,rfl⟩:=(m.o 3 rfl).some (by decide);obtain⟨J,rfl⟩:=(m.o 2 rfl).some (by decide);obtain⟨K,rfl⟩:=(m.o 0 rfl).some (by decide);apply aT 12 [1,0] m;simp only[↓U,gV];apply I0;omega;refine mq m aB (by kernel_rfl) (cX 7 [0,0,0,0,5] ?_);simp only[↓U,gG,dM,ad,ag,aa];refine⟨_,λu m=>(((m.o 2 O).at (enc:=iD) (i:=0) Ag O).lies aG aA),_,λu m=>(((m.o 2 O).at (enc:=iD) (i:=1) Ag O).lies aG aA),by omega,?_⟩;refine eH O O (abj (p:=k) (q:=E) (t:=t)) (aK aJ (lN O (λe=>aJ) ?_));simp only[G];refine lN O (λe=>aR eR aA (bL e O) O (by decide) (by omega) O) ?_;simp only[G];refine uC O (λe u m=>bD (bL e O) (((m.o 0 O).at (enc:=iD) (i:=0) Ag O).lies aG aA)) (lN O (λe=>aJ) ?_);simp only[G];refine lN O (λe=>aR eR aA (bL e O) O (by decide) (by omega) O) ?_;simp only[G];refine uC O (λe u m=>bD (bL e O) (((m.o 0 O).at (enc:=iD) (i:=1) Ag O).lies aG aA)) (uC O (λe u m=>bD O ((m.b 5 O).full cD aW)) (afR O O (λe=>by simp only[ee,bi,dh,zA,zB,zC,zD,zE,e,iM];rfl) (λe=>abj (p:=l) (q:=F) (t:=s)) (aK (gJ rfl rfl rfl) (aK aM (aZ ?_)))));intro u m;apply aT 1 [] m;simp only[↓U];refine aS O O ?_;try simp only[zD,zE]
  exact⟨_,O,m.ext,by rw[D,h1,h2,f];rfl⟩
 .rw[h1] at g;rw[h2] at n;rw[f] at r;have N:I3 j:=abk (i:=0) h1 rfl;have P:I3 A:=abk (i:=1) h1 rfl;have Q:I3 k:=tK (i:=0) h2 rfl;have R:I3 l:=tK (i:=0) f rfl;simp only[ay,bm] at g n r;subst g;subst n;subst r;rw[h1,h2,f] at m;obtain⟨I,rfl⟩:=(m.o 3 rfl).some (by decide);obtain⟨J,rfl⟩:=(m.o 2 rfl).some (by decide);obtain⟨K,rfl⟩:=(m.o 0 rfl).some (by decide);apply aT 18 [2,1,0] m;simp only[↓U,gV];apply I0;omega;apply at4 m (T1:=30) (T2:=30)
  . skip
    refine Xg m [Z,Z,Z,Z,Z,Z] (.take 0 (.take 1 (.take 2 (.take 3 (.take 4 (.take 5 (.two 6 (.one 7 (.one 8 (.one 9 .nil))) 7 (.one 6 (.one 8 (.one 9 .nil)))))))))) aB (by kernel_rfl) (λ_ _ _ _ _ h=>by cases h.1) ?_;intro u m;refine eT (by simp only[zw];rfl) (bG aJ (bR (eT (by simp only[zw];rfl) ?_)));simp only[G];refine bG (aR eR aA O O (by decide) (by omega) O) (bR (eT (by simp only[zw];rfl) ?_));simp only[G];refine gW O (λu m=>(((m.o 3 O).at (enc:=iD) (i:=0) Ag O).lies aG aA)) ?_;simp only[G];refine bR (eT (by simp only[zw];rfl) (bG aJ (bR (eT (by simp only[zw];rfl) ?_))));simp only[G];refine bG (aR eR aA O O (by decide) (by omega) O) (bR (eT (by simp only[zw];rfl) ?_));simp only[G];refine gW O (λu m=>(((m.o 3 O).at (enc:=iD) (i:=1) Ag O).lies aG aA)) ?_;simp only[G];refine bR ?_;refine abQ (by simp only[zw];rfl) (by simp only[zw];rfl) ?_ ?_
    .refine mH m iF O ?_;intro y u m;refine aI ⟨m.sel [X3,Z,Z,Z,Z,Z,Z],?_⟩;refine nT (by simp only[zw];rfl) ?_;simp only[G];refine mH m iF O ?_;intro z u m;refine aI ⟨m.sel [X3,X3,Z,Z,Z,Z,Z,Z],?_⟩;refine nT (by simp only[zw];rfl) ?_;simp only[G];refine bP m 1 O O O aA (gS O) O ?_;intro u m;simp only[zy,zx,over,zF,zG,aa] at m;refine aI ⟨m.sel [X3,X3,Z,Z,Z,Z,Z,Z],?_⟩;refine nT (by simp only[zw];rfl) ?_;refine bP m 0 O O O aA (gS O) O ?_;intro u m;simp only[zy,zx,over,zF,zG,aa] at m;refine aI ⟨m.sel [X3,X3,Z,Z,Z,Z,Z,Z],?_⟩;exact Gl ⟨O,y,z,O,m⟩
    refine mH m iF O ?_;intro y u m;refine aI ⟨m.sel [X3,Z,Z,Z,Z,Z,Z],?_⟩;refine nT (by simp only[zw];rfl) ?_;simp only[G];refine mH m iF O ?_;intro z u m;refine aI ⟨m.sel [X3,X3,Z,Z,Z,Z,Z,Z],?_⟩;refine nT (by simp only[zw];rfl) ?_;simp only[G];refine bP m 0 O O O aA (gS O) O ?_;intro u m;simp only[zy,zx,over,zF,zG,aa] at m;refine aI ⟨m.sel [X3,X3,Z,Z,Z,Z,Z,Z],?_⟩;refine nT (by simp only[zw];rfl) ?_;refine bP m 1 O O O aA (gS O) O ?_;intro u m;simp only[zy,zx,over,zF,zG,aa] at m;refine aI ⟨m.sel [X3,X3,Z,Z,Z,Z,Z,Z],?_⟩;exact Gl ⟨O,z,y,O,m.s01⟩
  intro y z u m;try dsimp only
  apply aT 1 [0] m;simp only[↓U];refine mq m aB (by kernel_rfl) (cX 8 [2,1,0,0,0,0] ?_);simp only[↓U,aP,gG,ad,ag,aa];refine⟨_,λu m=>(((m.o 4 O).at (enc:=iD) (i:=0) Ag O).lies aG aA),_,λu m=>(((m.o 2 O).at (enc:=iD) (i:=0) Ag O).lies aG aA),by omega,?_⟩;refine eH O O (wB (a:=j) (b:=A) (c:=k) (d:=l)) (aK (Im O O) (aK aJ ?_));simp only[G];refine eM O (λe u m=>bD O ((m.b 1 O).full aG aA)) (eM O (λe u m=>bD O ((m.b 0 O).full aG aA)) (eM O (λe u m=>bD O ((m.b 1 O).full aG aA)) (cQ O (λe=>aJ) ?_)));simp only[G];refine cQ O (λe=>aR eR aA (bL e O) O (by decide) (by omega) O) ?_;simp only[G];refine eM O (λe u m=>bD (bL e O) (((m.o 4 O).at (enc:=iD) (i:=0) Ag O).lies aG aA)) (Jd O O (λe=>by simp only[ee,bi,dh,zA,zB,zC,zD,zE,e,iM];rfl) (λe=>rY (a:=j) (b:=A) (c:=j) (d:=k)) ?_);simp only[G];refine eM O (λe u m=>bD O ((m.b 1 O).full aG aA)) (eM O (λe u m=>bD O ((m.b 0 O).full aG aA)) (eM O (λe u m=>bD O ((m.b 1 O).full aG aA)) (cQ O (λe=>aJ) ?_)));simp only[G];refine cQ O (λe=>aR eR aA (bL e O) O (by decide) (by omega) O) ?_;simp only[G];refine eM O (λe u m=>bD (bL e O) (((m.o 2 O).at (enc:=iD) (i:=0) Ag O).lies aG aA)) (Jd O O (λe=>by simp only[ee,bi,dh,zA,zB,zC,zD,zE,e,iM];rfl) (λe=>rY (a:=j) (b:=A) (c:=j) (d:=l)) (cQ rfl (λe=>Yj (bL e rfl) (bL e rfl)) (aK (eE rfl rfl rfl) (aK aM ?_))));simp only[G];refine aZ ?_;intro u m;apply aT 1 [] m;simp only[↓U];refine aS O O ?_;try simp only[zD,zE]
  exact⟨_,O,m.ext,by rw[D,h1,h2,f];exact C bw alW⟩
 rw[h1] at g;subst g;apply aT 24 [2,2] m;simp only[↓U,gV];apply I0;omega;refine aS O O ?_;try simp only[zD,zE]
 exact⟨_,O,m.ext,by rw[D,alX h1]⟩
def aic{w:ak}{A:Option Addr}{N:Nat}{ts:List T3}(h:bW w A N ts)(b:A.isNone=Z):ts=[]:=by
 cases A with
 | some a=>cases b
 | none =>
  cases ts with
  | nil=>rfl
  | cons t ts =>
   obtain⟨a,e,_⟩:=h.row 0 t rfl;cases e
def alY{ts:List T3}{N cap:Nat}{A:Option Addr}(w:ak)(a:bW w A N ts)(j:N<=10000000):cY prog 169 [.slice A N cap] w (SL 39 9 (ts.flatMap aL) ts.length w):=by
 refine⟨bJ func169 (by kernel_rfl),?_⟩;have m:=Mem.refl w;have g:=a.len
 go_enter func169,ntmps169
 apply fF 8 [0] m;simp only[↓U];refine aD (abK fC O O) ?_;apply aH 1 [0] m;simp only[↓U];refine cL O ?_ ?_<;>intro f
 .obtain rfl:=aic a f;apply L 5 [] m;simp only[↓U];exact aS O O ⟨_,O,m.ext,⟨X5,0,0,O,O,Ow.nil _ _ _ _⟩⟩
 apply L 3 [0] m;simp only[↓U];refine Qz fC (c:=9) (by kernel_rfl)  ?_;intro u i b d e;replace m:=m.newB b d e;simp only[G];replace m:=m.own 0 O (n:=0) (c:=9) O (gS O);simp only[zG] at m;apply aH 1 [0] m;simp only[↓U];refine bN m 0 O O fC iO O (by decide) O O (by rw[Ex,a.len]) (bW.cells (a.ext m.ext)) (xW _) (by omega) (by omega) ?_;intro h k u m;simp only[zF,zG] at m;simp only[ai,bz] at m ⊢;apply aH 3 [] m;simp only[↓U];exact aS O O ⟨_,O,m.ext,⟨_,_,_,g.symm,O,(m.o 0 O)⟩⟩
end
end Go.Proofs.YtfekpcimgncioaaGreatDoor
namespace Go.Lith
open Go.RowKit
variable{t:T3}
def Us{l ys:List H}(c:l.Nodup)(h:ys.Perm l)(hs:ys.Pairwise λa b=>¬b.Lt a):ys=Bu l:=by
 have h1:ys.Pairwise H.Lt:=(hs.and (h.nodup_iff.2 c)).imp λ{a b} k=>by
  rcases H.lt_tri a b with e | e | e
  .exact e
  .exact Z8 e k.2
  exact Z8 e k.1
 exact vI H.lt_irrefl (λ_ _ _=>H.lt_trans) h1 (qX c) λp=>by rw[h.mem_iff,(lT l).mem_iff]
def kT(t:T3):T3:=match qL t with
 | [a,b,c]=>⟨a,b,c⟩
 | _=>t
def abl(t:T3):qL t=[(kT t).a,(kT t).b,(kT t).c]:=by
 have h:(qL t).length=3:=(lT _).length_eq;unfold kT;generalize qL t=L at h;rcases L with _ | ⟨a,_ | ⟨b,_ | ⟨c,_ | ⟨d,L⟩⟩⟩⟩ <;> simp only[ay,bm] at h <;> first | omega | rfl
def alZ{s:T3}:kT s=kT t↔qL s=qL t:=by
 rw[abl s,abl t];constructor
 .intro h;rw[h]
 intro h
 simp only[List.cons.injEq,Y2] at h;obtain⟨a,b,c⟩:=h;cases hs:kT s;cases d:kT t;simp only[hs,d] at a b c;rw[a,b,c]
def ac1{l:List T3}:(l.map kT).Nodup↔(l.map qL).Nodup:=by
 unfold rc;rw[jf,jf];exact⟨λh=>h.imp λk e=>k (alZ.2 e),λh=>h.imp λk e=>k (alZ.1 e)⟩
def Ut(h:t.nd=Z):[t.a,t.b,t.c].Nodup:=by
 obtain⟨h1,h2,d⟩:=(vP (t:=t)).1 h;simp only[g_,ap,cd,Z9,not_or,not_false_eq_true,kh,Y2];exact⟨⟨h1,λe=>d e.symm⟩,h2⟩
def asT{L:List T3}{k:Nat}(f:L[k]? = X4 t)(h:kT t∈(L.take k).map kT):decide ((L.map qL).Nodup)=X3:=by
 rw[Y1,<-ac1];intro d;obtain⟨s,hs,e⟩:=dj.1 h;obtain⟨j,a⟩:=df.1 hs;rw[d_] at a;split at a
 . rename_i l
   have h1:(L.map kT)[j]? = X4 (kT t):=by rw[fi,a];exact C X4 e
   have h2:(L.map kT)[k]? = X4 (kT t):=by rw[fi,f];rfl
   obtain⟨g,b⟩:=ao.1 h1;obtain⟨i,c⟩:=ao.1 h2;have:=(List.getElem_inj d).1 (b.trans c.symm);omega
 cases a
def ao0{L:List T3}{k:Nat}(g:L[k]? = X4 t)(f:((L.take k).map kT).Nodup)(h:kT t∉(L.take k).map kT):((L.take (k+1)).map kT).Nodup:=by
 rw[bV g,de];exact List.nodup_append.2 ⟨f,by simp,λa c b d e=>h (by rw[a_.1 d] at e;exact e▸c)⟩
end Go.Lith
namespace Go.Proofs.YtfekpcimgncioaaGreatDoor
open Go.Proofs.Tryz
open Go.RowKit Go.Lith
set_option maxRecDepth 100000
attribute [local irreducible] az cw fW bX cP Code.wp
attribute [local congr] dK dL cR dJ
variable{A:Option Addr}{N cap g90 g91 ga gf gx gy nm cm co nr cr g50 g51 k:Nat}{t:T3}{q:H}{ms rs:List T3}
def al0{w:ak}{ps:List H}(h:uD bH 3 w A N ps)(b:A.isNone=Z):ps=[]:=by
 cases A with
 | some a=>cases b
 | none =>
  cases ps with
  | nil=>rfl
  | cons t ts =>
   obtain⟨a,e,_⟩:=h.row 0 t rfl;cases e
def avJ{w:ak}{g:Nat}{T:ba}(h:fQ w g (aL t) T):uD bH 3 w (X4 ⟨g,0,X5⟩) 3 [t.a,t.b,t.c]:=⟨rfl,λi x d=>by
 refine⟨⟨g,0,X5⟩,O,?_⟩;rcases i with _ | _ | _ | i <;> simp at d <;> subst d
 .exact (h.row 0).take 3
 .exact (h.row 3).take 3
 exact (h.row 6).take 3⟩
def al3{ps:List H}(w:ak)(a:uD bH 3 w A N ps)(j:N<=10000000):cY prog 170 [.slice A N cap] w (SL 30 3 (ps.flatMap bH) ps.length w):=by
 refine⟨bJ func170 (by kernel_rfl),?_⟩;have m:=Mem.refl w;have g:=a.len
 go_enter func170,ntmps170
 apply fF 8 [0] m;simp only[↓U];refine aD (abK eR O O) ?_;apply aH 1 [0] m;simp only[↓U];refine cL O ?_ ?_<;>intro f
 .obtain rfl:=al0 a f;apply L 5 [] m;simp only[↓U];exact aS O O ⟨_,O,m.ext,⟨X5,0,0,O,O,Ow.nil _ _ _ _⟩⟩
 apply L 3 [0] m;simp only[↓U];refine Qz eR (c:=3) (by kernel_rfl)  ?_;intro u i b d e;replace m:=m.newB b d e;simp only[G];replace m:=m.own 0 O (n:=0) (c:=3) O (gS O);simp only[zG] at m;apply aH 1 [0] m;simp only[↓U];refine bN m 0 O O eR mK O (by decide) O O (by rw[show (ps.flatMap iD).length=ps.length*3 from ajj,a.len]) ((a.ext m.ext).cells Ag (by decide)) (Rs _) (by omega) (by omega) ?_;intro h k u m;simp only[zF,zG] at m;simp only[ai,bz] at m ⊢;apply aH 3 [] m;simp only[↓U];exact aS O O ⟨_,O,m.ext,⟨_,_,_,g.symm,O,(m.o 0 O)⟩⟩
def agM{w0 w:ak}{is:List It}{A:Option Addr}{n cap:Nat}{xs:List H}(m:Mem w0 w is)(k:Nat)(j:is[k]? = X4 (oI 30 3 A n cap (xs.flatMap bH)))(l:n<4611686018427387904) :
 Calls prog 128 [.slice A n cap,.func (.func 70) #[] #[]].toArray w λe w'=>∃v i,e=.returned v/\Mem w0 w' (is.set k i)/\(v=.tuple #[]/\∃ys:List H,i=oI 30 3 A n cap (ys.flatMap bH)/\ys.Perm xs/\ys.Pairwise λa b=>¬b.Lt a) :=
 (Dd (enc:=bH) Tryz.sort128 (λw=>pU aG w) (λw=>dY aA w) (λ_=>rfl) (by decide) Om rC abY (λx y=>Tu) m k j l).mono (by
  rintro e w' ⟨v,i,h1,h2,c,ys,d,f,g⟩;exact⟨v,i,h1,h2,c,ys,d,f,g.imp λh=>by simpa[Go.Proofs.ltOf,lV] using h⟩)
def aqg:tA prog 38 tr:=by
 refine tA.agg (cs:=λp=>#[X6 p.a.x,X6 p.a.y,X6 p.a.z,X6 p.b.x,X6 p.b.y,X6 p.b.z,X6 p.c.x,X6 p.c.y,X6 p.c.z]) (λ_=>rfl) underlying38 (λe p=>?_) (λp q=>?_) (λp=>?_)
 . refine xP.array (d:=9999) underlying38 aA λi j=>?_
   obtain rfl | rfl | rfl:=(by omega:i=0\/i=1\/i=2)
   . refine⟨_,cU aG aA O,?_⟩
     refine xP.struct (d:=9998) fY λf g=>?_;simp only[ap,cd,Z9] at g;rcases g with rfl | rfl | rfl
     .exact⟨_,cZ bK O,xP.int (d:=9997) iT⟩
     .exact⟨_,cZ bK O,xP.int (d:=9997) iT⟩
     exact⟨_,cZ bK O,xP.int (d:=9997) iT⟩
   . refine⟨_,cU aG aA O,?_⟩
     refine xP.struct (d:=9998) fY λf g=>?_;simp only[ap,cd,Z9] at g;rcases g with rfl | rfl | rfl
     .exact⟨_,cZ bK O,xP.int (d:=9997) iT⟩
     .exact⟨_,cZ bK O,xP.int (d:=9997) iT⟩
     exact⟨_,cZ bK O,xP.int (d:=9997) iT⟩
   refine⟨_,cU aG aA O,?_⟩
   refine xP.struct (d:=9998) fY λf g=>?_;simp only[ap,cd,Z9] at g;rcases g with rfl | rfl | rfl
   .exact⟨_,cZ bK O,xP.int (d:=9997) iT⟩
   .exact⟨_,cZ bK O,xP.int (d:=9997) iT⟩
   exact⟨_,cZ bK O,xP.int (d:=9997) iT⟩
 .exact (aq5 _).iff ⟨λh=>Di (H.eq h.1 h.2.1 h.2.2.1) (H.eq h.2.2.2.1 h.2.2.2.2.1 h.2.2.2.2.2.1) (H.eq h.2.2.2.2.2.2.1 h.2.2.2.2.2.2.2.1 h.2.2.2.2.2.2.2.2),λh=>by subst h;simp only[X1]⟩
 simp[tr,Instr.sameBits]
def aid{cx cy cf no:Nat}{D M E:Option Addr}{ex ey ef:Array cu}{X Y F:List (H × Bool)}{ts:List T3}{p:H}(w:ak)(J:fQ w g91 [.pointer (X4 ⟨g90,0,X5⟩),X6 p.x,X6 p.y,X6 p.z,X6 q.x,X6 q.y,X6 q.z,.map (X4 gx),.map (X4 gy),.slice D nm cm,.slice M no co,.slice E nr cr] 218)(aE:fQ w g90 [.slice A N cap,.map (X4 ga),.map (X4 gf)] 109)(B:bW w D nm ms)(g:bW w E nr rs)(aj:∀t∈ms++rs,t.nd=Z)(hN:nm+nr<=10000000):cY prog 102 [.pointer (X4 ⟨g91,0,X5⟩)] w (λv _=>v=.bool (decide (((ms++rs).map qL).Nodup))):=by
 refine⟨bJ func102 (by kernel_rfl),?_⟩;have m:=Mem.refl w;have ax:=B.len;have ay:=g.len;have hit:∀t∈ms++rs,IT t:=λt e=>(bh.1 e).elim (B.it t) (g.it t)
 go_enter func102,ntmps102
 apply fF 6 [0] m;simp only[↓U];refine lU m ?_;intro T u m;have d:=bY.nil (K:=T3) (V:=Bool) tr bw;apply aH 4 [0] m;simp only[↓U];refine mh m [Z] [(0,Z),(1,Z),(2,Z),(5,Z),(6,Z),(7,Z),(11,Z),(3,Z),(8,Z),(4,X3),(9,X3),(10,Z)] aB (by kernel_rfl) (bS (λ_ _ _ _ _ h=>h)) (ol:=?_) ?al ?_
 case al=>simp only[zw,zQ,zR];try rfl
 intro u m;refine Fq 7 [] ?_;simp only[↓U,Kh,Tr,aa];refine gW O (λu m=>((J.ext m.ext).lies1 tG O)) ?_;simp only[G];refine gW O (λu m=>((J.ext m.ext).lies1 tG O)) ?_;simp only[G];refine bO (bF O O (alY (ts:=ms) _ (B.ext m.ext) (by omega)) ?_);rintro v u l ⟨C,I,f,ar,rfl,r⟩;replace m:=m.newO l r;refine aI ⟨m.sel [X3,Z],?_⟩;refine bO ?_;simp only[G];refine bN m 0 O O fC iO O (by decide) O O (by rw[Ex,g.len]) (bW.cells (g.ext m.ext)) (xW _) (by omega) (by omega) ?_;intro C I u m;simp only[zF,zG] at m;rw[<-aw] at m;refine aI ⟨m.sel [X3,Z],?_⟩;refine bG (Lp O fC O) (bR ?_);apply aT 1 [0] m;simp only[↓U];refine bT [20] [2,5,6,7,21,22,23,24,25,26,27,28,29,30,31,32,33,34,35,36,37] (λn vs W=>∃(k:Nat) (es:Array cu) (c:Nat),vs=[X6 (k:Int)]/\Mem w W [oI 39 9 C (f+nr) I ((ms++rs).flatMap aL),mI T es c]/\(bY tr bw (gA [] (((ms++rs).take k).map kT)) es c)/\((((ms++rs).take k).map kT).Nodup)/\(k<=f+nr)/\(n=f+nr-k)) ?_ ?_
 .exact⟨_,0,_,_,O,m,d,kh,bn _,O⟩
 intro n vs wr Q u K1 ae
 obtain⟨k,ab,P,rfl,m,d,s,hk,hn⟩:=Q;simp only[zu,zF,zG];apply L 5 [0,0] m;simp only[↓U];refine bC O ?_ ?_<;>intro ap
 .obtain⟨t,e,av,a,ad,am⟩:=((m.o 0 rfl).tris hit).get (i:=k) (by omega);subst ad;apply L 6 [0] m;simp only[↓U,fR,ah,ai];apply I0;omega;refine bE O (am.lies cD aW) ?_;simp only[G];apply lK 5 [0,0] m;simp only[↓U,lL,dM,aa];intro g2 u m;refine aD (alz eB aA O) ?_;apply aH 5 [0] m;simp only[↓U,reduceIte,Nat.reduceEqDiff,ag,aa];refine bF O O (al3 (ps:=[t.a,t.b,t.c]) _ (avJ (m.b 0 O)) (by decide)) ?_;rintro v u l ⟨A6,az,S,af,rfl,r⟩;replace m:=m.newO l r;obtain rfl:S=3:=af;apply aH 5 [0] m;simp only[↓U];refine mJ m 0 aew O O (λm=>agM m 0 O (by decide)) ?_;rintro v i u m ⟨rfl,ys,rfl,ao,an⟩;simp only[zF,zG] at m;simp only[G];obtain rfl:ys=[(kT t).a,(kT t).b,(kT t).c]:=by rw[<-abl];exact Us (Ut (aj t (bf e))) ao an
  obtain⟨g6,rfl⟩:=(m.o 0 rfl).some (by decide);apply aH 4 [0] m;simp only[↓U];refine aD (ah4 underlying38 O (by decide)) ?_;simp only[G];refine bE O (show dQ _ _ _ _ (tr (kT t)) from (m.o 0 O).rows.lies aq3 aj3) ?_;simp only[G];apply lK 8 [0,1,0] m;simp only[↓U,aut,ap3,aa];intro g3 u m;refine fI (eN (ek:=tr) (en:=bw) (k:=kT t) (v0:=X3) underlying219 pB aqg O O (m.p 4 O) d) ?_;simp only[G];apply aH 1 [0] m;simp only[↓U];refine cL O ?_ ?_<;>intro j
  .rw[sJ,R] at j;apply L 5 [] m;simp only[↓U];refine aS O O ?_;try simp only[zD,zE]
   exact⟨_,O,m.ext,by rw[asT e j]⟩
  rw[sJ,Y1] at j;apply L 4 [1,0] m;simp only[↓U,ap3];refine nM (ek:=tr) (en:=bw) (a:=kT t) (v:=Z) m 4 O underlying219 aqg O O O d ?_;intro ab P u m d;simp only[zF,zG] at m;rw[<-mE] at d;apply aH 6 [0] m;simp only[↓U];apply I0;omega;exact ae (f+nr-(k+1)) _ _ (by omega) (by kernel_rfl) ⟨k+1,_,_,O,(m.sel [X3,X3,X3,Z,Z]),by rw[bV e,de];exact d,ao0 e s j,by omega,O⟩
 obtain rfl:k=f+nr:=by omega
 rw[show (ms++rs).take (f+nr)=(ms++rs) from au (by rw[aq];omega)] at s;apply L 6 [] m;simp only[↓U];refine aS O O ?_;try simp only[zD,zE]
 exact⟨_,O,m.ext,by rw[Y0 (ac1.1 s)]⟩
def al4{r:T3}[IT t][IT r](w:ak)(c:fQ w g50 [X6 (Fb t 0),X6 (Fb t 1),X6 (Fb t 2),X6 (Fc t 0),X6 (Fc t 1),X6 (Fc t 2)] 222)(d:fQ w g51 (aL t) 39):cY prog 174 [tr r,.pointer (X4 ⟨g50,0,X5⟩),.pointer (X4 ⟨g51,0,X5⟩)] w (λv _=>v=.bool (tO t r)):=by
 refine⟨bJ func174 (by kernel_rfl),?_⟩;have m:=Mem.refl w
 go_enter func174,ntmps174
 apply gH 6 [0] m;simp only[↓U];intro e u m;refine mq m aB (by kernel_rfl) (ql O (λu m=>((c.ext m.ext).full af6 Yg)) ?_);simp only[G];refine ql O (λu m=>((m.b 0 O).full cD aW)) ?_;simp only[G];refine eH O O (acT (t:=r)) ?_;simp only[G];refine eH O O (asD (t:=t) (r:=r)) (aK aJ ?_);simp only[G];refine eM O (λa u m=>bD O ((m.b 0 O).full cD aW)) (eM O (λa u m=>bD O ((d.ext m.ext).full cD aW)) (Jd O O (λa=>by simp only[ee,bi,dh,zA,zB,zC,zD,zE,a,iM];rfl) (λa=>asS (s:=r) (t:=t)) (aK (eE rfl rfl rfl) (aK aM (aZ ?_)))));intro u m;apply aT 1 [] m;simp only[↓U];exact aS O O ⟨_,O,m.ext,O⟩
def al5{ts:List T3}[IT t](w:ak)(p:fQ w g50 [X6 (Fb t 0),X6 (Fb t 1),X6 (Fb t 2),X6 (Fc t 0),X6 (Fc t 1),X6 (Fc t 2)] 222)(q:fQ w g51 (aL t) 39)(c:bW w A N ts)(y:N<=10000000):cY prog 244 [.slice A N cap,.func (.func 174) #[] #[.pointer (X4 ⟨g50,0,X5⟩),.pointer (X4 ⟨g51,0,X5⟩)]] w (λv _=>∃k:Int,v=X6 k/\decide (0<=k)=ts.any (tO t)):=by
 refine⟨bJ func244 (by kernel_rfl),?_⟩;have m:=Mem.refl w;have E:=c.len
 go_enter func244,ntmps244
 apply fF 12 [0] m;simp only[↓U,gM];refine bT [8] [4,5,9,10,11,12,13,14,15,16,17,18] (λn vs l=>∃(k:Nat),vs=[X6 (k:Int)]/\Mem w l []/\(∀(j:Nat) (r:T3),j<k->ts[j]? = X4 r->tO t r=X3)/\(k<=N)/\(n=N-k)) ?_ ?_
 .exact⟨_,0,O,m,(λj r h=>by omega),bn _,O⟩
 intro n vs wr f u x o
 obtain⟨k,rfl,m,e,z,B⟩:=f;simp only[zu,zF,zG];apply L 5 [0,0] m;simp only[↓U];refine bC O ?_ ?_<;>intro C
 .obtain⟨r,hr,D,a,rfl,s⟩:=c.get (i:=k) (by omega);apply L 15 [0,1,0] m;simp only[↓U,fR,ah,ai];refine⟨_,λu m=>((s.ext m.ext).lies cD aW),by omega,?_⟩;refine cK m O O (al4 (t:=t) (r:=r) _ (p.ext m.ext) (q.ext m.ext)) ?_;rintro v u m rfl;apply aH 1 [0] m;simp only[↓U];refine cL O ?_ ?_<;>intro d
  .apply L 6 [] m;simp only[↓U];exact aS O O ⟨_,O,m.ext,k,O,by rw[Y0 (by omega:(0:Int)<=k)];exact (List.any_eq_true.2 ⟨r,bf hr,d⟩).symm⟩
  apply L 6 [0] m;simp only[↓U];apply I0;omega;exact o (N-(k+1)) _ _ (by omega) (by kernel_rfl) ⟨k+1, rfl, m, (λj g b h1 => by
   rcases eh j k with h | h
   .exact e j g h h1
   obtain rfl:j=k:=by omega
   rw[hr] at h1;cases h1;exact d),by omega,O⟩
 obtain rfl:k=N:=by omega
 apply L 6 [] m;simp only[↓U];exact aS rfl rfl ⟨_,rfl,m.ext,-1,rfl,(by rw[show ts.any (tO t)=X3 from gi.2 λr hr=>by obtain⟨j,b⟩:=df.1 hr;rw[e j r (by have:=(ao.1 b).1;omega) b];decide];rfl)⟩
def Ej{ts:List T3}[IT t](w:ak)(d:fQ w g50 [X6 (Fb t 0),X6 (Fb t 1),X6 (Fb t 2),X6 (Fc t 0),X6 (Fc t 1),X6 (Fc t 2)] 222)(e:fQ w g51 (aL t) 39)(b:bW w A N ts)(a:N<=10000000):cY prog 177 [.slice A N cap,.func (.func 174) #[] #[.pointer (X4 ⟨g50,0,X5⟩),.pointer (X4 ⟨g51,0,X5⟩)]] w (λv _=>v=.bool (ts.any (tO t))):=by
 refine⟨bJ func177 (by kernel_rfl),?_⟩;have m:=Mem.refl w
 go_enter func177,ntmps177
 apply fF 8 [0] m;simp only[↓U];refine cK m O O (al5 (t:=t) _ (d.ext m.ext) (e.ext m.ext) (b.ext m.ext) a) ?_;rintro v u m ⟨f,rfl,c⟩;apply aH 4 [0] m;simp only[↓U];refine aS O O ?_;try simp only[zD,zE]
 exact⟨_,O,m.ext,by rw[<-c]⟩
def Ws(ms rs:List T3)(t:T3)(k:Nat):Bool:=!rs.any (tO t) && !(ms.take k).any (tO t)
def aie(ms rs:List T3):Bool:=ms.zipIdx.all λx=>Ws ms rs x.1 x.2
def agN(a:ms[k]? = X4 t)(h:Ws ms rs t k=X3):aie ms rs=X3:=by
 unfold aie;rw[pf];exact⟨(t,k),List.mk_mem_zipIdx_iff_getElem?.2 a,by rw[h];decide⟩
def al6(h:∀(k:Nat) (t:T3),ms[k]? = X4 t->Ws ms rs t k=Z):aie ms rs=Z:=by
 unfold aie;rw[fe];rintro⟨t,k⟩ a;exact h k t (List.mk_mem_zipIdx_iff_getElem?.1 a)
def asU(h:rs.any (tO t)=Z):Ws ms rs t k=X3:=by unfold Ws;rw[h];rfl
def asV(h:(ms.take k).any (tO t)=Z):Ws ms rs t k=X3:=by unfold Ws;rw[h,f_,Bool.and_false]
def asW(h1:rs.any (tO t)=X3)(h2:(ms.take k).any (tO t)=X3):Ws ms rs t k=Z:=by unfold Ws;rw[h1,h2];rfl
def al7{cx cy cf no:Nat}{f s g:Option Addr}{ex ey ef:Array cu}{X Y F:List (H × Bool)}{ts:List T3}{p:H}(w:ak)(c:fQ w g91 [.pointer (X4 ⟨g90,0,X5⟩),X6 p.x,X6 p.y,X6 p.z,X6 q.x,X6 q.y,X6 q.z,.map (X4 gx),.map (X4 gy),.slice f nm cm,.slice s no co,.slice g nr cr] 218)(ab:fQ w g90 [.slice A N cap,.map (X4 ga),.map (X4 gf)] 109)(e:bW w f nm ms)(l:bW w g nr rs)(T:nm<=cm)(M:nm+nr<=10000000):cY prog 105 [.pointer (X4 ⟨g91,0,X5⟩)] w (λv _=>v=.bool (aie ms rs)):=by
 refine⟨bJ func105 (by kernel_rfl),?_⟩;have m:=Mem.refl w;have W:=e.len
 go_enter func105,ntmps105
 apply fF 10 [0] m;simp only[↓U,Kh,aa];refine bE O ((c.ext m.ext).lies1 tG O) ?_;simp only[G];apply aH 4 [0] m;simp only[↓U,gM];refine bT [12] [2,3,4,5,6,13,14,15,16,17,18,19,20,21,22,23,24,25,26,27,28,29,30,31,32,33,34,35,36] (λn vs C=>∃(k:Nat),vs=[X6 (k:Int)]/\Mem w C []/\(∀(j:Nat) (t:T3),j<k->ms[j]? = X4 t->Ws ms rs t j=Z)/\(k<=nm)/\(n=nm-k)) ?_ ?_
 .exact⟨_,0,O,m,(λj t h=>by omega),bn _,O⟩
 intro n vs wr B u I D
 obtain⟨k,rfl,m,r,Q,R⟩:=B;simp only[zu,zF,zG];apply L 5 [0,0] m;simp only[↓U];refine bC O ?_ ?_<;>intro S
 .obtain⟨t,d,V,a,rfl,E⟩:=e.get (i:=k) (by omega);apply xI 15 [0,1,0,1,0] m;simp only[↓U,fR,lL,dM,ah,ai,aa];refine⟨_,λu m=>((E.ext m.ext).lies cD aW),λJ=>⟨by omega,?_⟩⟩;intro u m;refine lD m O O (acT (t:=t)) 5 [0,0] ?_;simp only[↓U,aeT,aeS,aa];intro K u m;refine aD fZ ?_;simp only[G,gt,bi,dh];apply aH 3 [] m;simp only[↓U];rcases Bool.eq_false_or_eq_true (rs.any (tO t)) with hq | hq
  .apply aT 4 [0] m;simp only[↓U,Tr,aa];refine bE O ((c.ext m.ext).lies1 tG O) ?_;simp only[G];apply aH 1 [0] m;simp only[↓U];refine cK m O O (Ej (ts:=rs) (t:=t) _ (m.b 0 O) (m.b 1 O) (l.ext m.ext) (by omega)) ?_;rintro v u m rfl;simp only[G];rw[hq];apply aH 17 [0,0,0,0,0,0,0,0] m;simp only[↓U];refine aS O O ?_;try simp only[zD,zE]
   exact⟨_,O,m.ext,by rw[agN d (asU hq)]⟩
  apply aT 4 [0] m;simp only[↓U,Tr,aa];refine bE O ((c.ext m.ext).lies1 tG O) ?_;simp only[G];apply aH 1 [0] m;simp only[↓U];refine cK m O O (Ej (ts:=rs) (t:=t) _ (m.b 0 O) (m.b 1 O) (l.ext m.ext) (by omega)) ?_;rintro v u m rfl;simp only[G];rw[hq];apply aH 4 [0,0,0,0] m;simp only[↓U,Kh,aa];refine eP O (bE O ((c.ext m.ext).lies1 tG O) ?_);simp only[G];apply aH 1 [0,0] m;simp only[↓U];refine eP O (aD (nK fC aW O O (ah _) (by omega) (by omega)) ?_);apply aH 1 [0,0] m;simp only[↓U];refine eP O (cK m O O (Ej (ts:=ms.take k) (t:=t) _ (m.b 0 O) (m.b 1 O) ((e.take (k:=k) (by omega)).ext m.ext) (by omega)) ?_);rintro v u m rfl;apply aH 2 [0] m;simp only[↓U];refine cL O ?_ ?_<;>intro o
  .apply L 5 [] m;simp only[↓U];refine aS O O ?_;try simp only[zD,zE]
   exact⟨_,O,m.ext,by rw[agN d (asV o)]⟩
  apply L 6 [0] m;simp only[↓U];apply I0;omega;exact D (nm-(k+1)) _ _ (by omega) (by kernel_rfl) ⟨k+1, rfl, (m.sel [X3, X3]), (λj t2 P h1 => by
   rcases eh j k with h | h
   .exact r j t2 h h1
   obtain rfl:j=k:=by omega
   rw[d] at h1;cases h1;exact asW hq o),by omega,O⟩
 apply L 6 [] m;simp only[↓U];refine aS O O ?_;try simp only[zD,zE]
 exact⟨_,O,m.ext,by rw[al6 λj t h1=>r j t (by have:=(ao.1 h1).1;omega) h1]⟩
end Go.Proofs.YtfekpcimgncioaaGreatDoor
