/-
 Texts of one claim, laid together: K43, K44, K45, K46, K47, K48, K49, K34, K50, K87, D6, Gt, Gu, Gw, D12, Surf1, D13, V1, V2, W10p, V3, D7, D8.
-/
import Derived.Test.YtbbokjbcdkgfgaaGreatDoorML5
open Nat renaming reduceAdd->aa,zero_add->ae,reduceMul->C,le_trans->ay,le_refl->bg,mul_one->bi,zero_le->bm,min_eq_left->de,eq_zero_or_pos->et,le_succ_of_le->f_,add_zero->gi,le_of_eq->jk,le_succ->ov,le_add_right->pe
open Int renaming toNat_natCast->ab,reduceToNat->ac,reduceAdd->M,eq_ofNat_of_zero_le->ee,toNat->ji,emod_nonneg->oo,emod_lt_of_pos->oq
open List renaming getElem?_eq_getElem->ah,mem_of_getElem?->ak,take_of_length_le->ap,flatMap_append->au,getElem?_eq_some_iff->av,length_append->a_,length_take->bf,length_cons->bh,mem_cons_of_mem->br,mem_cons_self->bv,mem_append->bz,mem_singleton->cr,getElem?_eq_none->ct,nil_append->cv,flatMap_cons->da,getElem?_map->dc,map_cons->df,map_append->dh,append_assoc->di,getElem?_append_right->dj,getElem?_drop->dn,mem_map->du,length_nil->dv,drop_eq_getElem_cons->dw,cons_append->dx,length_map->dy,length_drop->ef,toList_toArray->eo,length_set->fc,mem_flatMap->ff,mem_map_of_mem->fg,take_append_drop->fi,map_nil->fj,drop_of_length_le->fl,set_eq_take_append_cons_drop->fm,append_nil->fw,ext_getElem?->fy,take_length->ga,mem_of_mem_take->gj,length->iz,drop_append->jz,length_filter_le->kn,map_congr_left->lf,flatMap_def->mc,getElem?_set_self->pb,all_append->qh
open Go renaming Value->am,World->an,TypeId->ba,wpList->be,wpQuiet->c_
open Bool renaming and_eq_true->ck,or_eq_true->gz,false_ne_true->jw,eq_iff_iff->pj,not_not->qq
open Option renaming map_eq_some_iff->jl
open Go.Value renaming int->ky
set_option maxHeartbeats 8000000
set_option linter.unusedSimpArgs false
set_option linter.defProp false
set_option linter.unusedVariables false
set_option linter.unusedSectionVars false
open And renaming intro->R
open Bool renaming true->N,false->X7
open Option renaming some->H,none->X8
open Go.Proofs.Tryz renaming prog->X9
namespace Go.Proofs.YtbbokjbcdkgfgaaGreatDoor
open Go.Proofs.Tryz
open Go.RowKit Go.Lith
set_option maxRecDepth 100000
section
attribute [local irreducible] be c_ fS cE cP Code.wp
attribute [local congr] fE fF eN fD
variable{t s:T3}{w:an}{g cap:Nat}{T:ba}{a q r c:Y}
def asw{v:Y}(h:bV v.x≠0):Ad v=0:=Z9 λe=>h (cK.2 e)
def asx{v:Y}(e:¬bV v.x≠0)(h:bV v.y≠0):Ad v=1:=by
 have a:=cK.1 (Classical.not_not.1 e);unfold Ad;rw[K0 (λk=>k a),Z9 λe=>h (cK.2 e)]
def asy{v:Y}(e:¬bV v.x≠0)(f:¬bV v.y≠0)(h:bV v.z≠0):Ad v=2:=by
 have a:=cK.1 (Classical.not_not.1 e);have b:=cK.1 (Classical.not_not.1 f);unfold Ad;rw[K0 (λk=>k a),K0 (λk=>k b),Z9 λe=>h (cK.2 e)]
def asz{v:Y}(e:¬bV v.x≠0)(f:¬bV v.y≠0)(h:¬bV v.z≠0):Ad v=3:=by
 have a:=cK.1 (Classical.not_not.1 e);have b:=cK.1 (Classical.not_not.1 f);have c:=cK.1 (Classical.not_not.1 h);unfold Ad;rw[K0 (λk=>k a),K0 (λk=>k b),K0 (λk=>k c)]
def yZ  : decide (bV t.normal.x=0/\bV t.normal.y=0/\bV t.normal.z=0)=oU t:=by
 unfold oU;refine decide_eq_decide.2 ?_;simp only[cK];show _↔¬Ad t.normal<3
 unfold Ad;constructor
 .rintro⟨a,b,c⟩;simp[a,b,c]
 intro h
 by_cases a:t.normal.x=0<;>by_cases b:t.normal.y=0<;>by_cases c:t.normal.z=0<;>simp[a,b,c] at h ⊢
def arJ{b:Y}(c:fQ w g [U a.x,U a.y,U a.z,U b.x,U b.y,U b.z] T):kO cM 3 w (H ⟨g,0,X8⟩) 2 [a,b]:=
 ⟨rfl,λi x d=>⟨_,rfl,by
  rw[cA,ae]
  match i,d with
  |0,h=>cases h;exact iX.pre (ys:=kS b) (c.row 0)
  |1,h=>cases h;exact c.row 3⟩⟩
def aeu{p:Y}(w:an)(a:kO cM 3 w (H ⟨g,0,X8⟩) 2 [p,q]):cX X9 260 [.slice (H ⟨g,0,X8⟩) 2 cap] w λv _=>v=.tuple #[pt (sK p q),pt (uP p q)]:=Vs (x:=p) (xs:=[q]) w a (by decide)
def Vt{v:Y}:dO X9 264 [sg v] (U ((Ad v:Nat):Int)):=by
 intro w;refine⟨bP func264 (by kernel_rfl),?_⟩;have m:=Mem.refl w
 go_enter func264,ntmps264
 apply gJ 30 [4,1,1,0,0] m;simp only[↓Z,gW,dN,ac,C,aa];intro e;apply R;omega;intro u m;refine aZ O ?_ ?_<;>intro a
 .have b:=a;apply F 6 [] m;simp only[↓Z];refine aS O O ?_;try simp only[zD,zE]
  exact⟨_,O,m.ext,by rw[asw b];rfl⟩
 have b:=a;apply F 25 [1,1,0,0] m;simp only[↓Z,gW,dN,M,ac,C,aa];apply R;omega;refine aZ O ?_ ?_<;>intro a
 .have c:=a;apply F 6 [] m;simp only[↓Z];refine aS O O ?_;try simp only[zD,zE]
  exact⟨_,O,m.ext,by rw[asx b c];rfl⟩
 have c:=a;apply F 25 [1,1,0,0] m;simp only[↓Z,gW,dN,M,ac,C,aa];apply R;omega;refine aZ O ?_ ?_<;>intro a
 .have d:=a;apply F 6 [] m;simp only[↓Z];refine aS O O ?_;try simp only[zD,zE]
  exact⟨_,O,m.ext,by rw[asy b c d];rfl⟩
 have d:=a;apply F 21 [2] m;simp only[↓Z,M];apply R;omega;refine aS O O ?_;try simp only[zD,zE]
 exact⟨_,O,m.ext,by rw[asz b c d];rfl⟩
def zW{p s:Y}[I3 p][I3 q][I3 r][I3 s]:dO X9 261 [pt p,pt q,pt r,pt s] (.bool (rC p q r s)):=by
 intro w;refine⟨bP func261 (by kernel_rfl),?_⟩;have m:=Mem.refl w
 go_enter func261,ntmps261
 apply gJ 8 [] m;simp only[↓Z];intro B C D E u m;apply aQ 6 [4,3,2,1,0] m;simp only[↓Z,aW];refine eV m O O (Rq (a:=p) (b:=q) (c:=r) (d:=s)) ?_;intro u m;simp only[J];refine iE m O O (Vt (v:=Jz p q r s)) 4 [] ?_;simp only[↓Z];intro u m;by_cases f:Z3 (Jz p q r s)
 .have e:=ang f;apply aQ 10 [2,4,3,0] m;simp only[↓Z,aW];apply R;omega;refine Po O O ?_;intro u G g h j;replace m:=m.newB g h j;simp only[J];refine bY m O O (aeu (p:=p) (q:=q) _ (arJ (m.b 0 O))) ?_;rintro v u m rfl;apply kZ 8 [1,0] m;simp only[↓Z,gC,aW,aa];intro I K u m;apply aQ 4 [5,4,0] m;simp only[↓Z,aW];refine Po O O ?_;intro u L g h j;replace m:=m.newB g h j;simp only[J];refine bY m O O (aeu (p:=r) (q:=s) _ (arJ (m.b 0 O))) ?_;rintro v u m rfl;apply kZ 8 [1,0] m;simp only[↓Z,gC,aW,aa];intro M Q u m;apply aQ 6 [5,4,2] m;simp only[↓Z,aW,Ah,aa];apply uR 6 [0] m;simp only[↓Z,uE,fM,aa];intro o u m;apply aQ 4 [6,5,0] m;simp only[↓Z,aW];refine⟨_,fX,?_⟩;refine qO m 0 [] [89,90,91,92] (λvs i=>vs=[]/\i=bI o [U (sZ p q r s).a.x,U (sZ p q r s).a.y,U (sZ p q r s).a.z,U (sZ p q r s).b.x,U (sZ p q r s).b.y,U (sZ p q r s).b.z,U (sZ p q r s).c.x,U (sZ p q r s).c.y,U (sZ p q r s).c.z] 43) ?_ ?_
  . intro A k
    refine aZ O ?_ ?_<;>intro l
    .apply F 5 [3,2,6] m;simp only[↓Z,aW,Ah,aa];apply uR 2 [0,0] m;simp only[↓Z,fM,aa];intro u m;exact k _ _ _ (by kernel_rfl) m ⟨O,by rw[apG l]<;>rfl⟩
    apply F 1 [0] m;simp only[↓Z];exact k _ _ _ (by kernel_rfl) m ⟨O,by rw[apH l]<;>rfl⟩
  intro vs i P m n u
  obtain⟨rfl,rfl⟩:=n;simp only[zF,zG] at m;simp only[zu,zF,zG];apply aQ 3 [1,0] m;simp only[↓Z,fM];refine iE m O O (Io (t:=sZ p q r s)) 6 [5,3,0] ?_;simp only[↓Z,aW];intro u m;refine iE m O O (lB (p:=uP p q) (q:=sK r s)) 6 [2,6,0] ?_;simp only[↓Z,aW];intro u m;refine iE m O O (lB (p:=uP r s) (q:=sK p q)) 12 [3,3] ?_;simp only[↓Z];refine λ_=>λ_=>?_;intro u m;refine aS O O ?_;try simp only[zD,zE]
  exact⟨_,O,m.ext,by rw[yZ,arw f]⟩
 have e:=(aiZ f).2;apply aQ 6 [1,0] m;simp only[↓Z];apply R;omega;refine mq m aB (by kernel_rfl) (cW 3 [4,3,2] ?_);simp only[↓Z,aW];refine X O O (jB (a:=p) (b:=q) (c:=r)) (aK aF (aK ((uM (v:=oG p q r) e O O)) ?_));refine cW 3 [4,3,1] ?_;simp only[↓Z,aW];refine X O O (jB (a:=p) (b:=q) (c:=s)) (aK aF (aK ((uM (v:=oG p q s) e O O)) (aK (lT O O (Kn _ _)) ?_)));simp only[J];refine aK aI (bD ?_);intro u m;apply aQ 1 [0] m;simp only[↓Z];refine mq m aB (by kernel_rfl) (cW 3 [2,1,4] ?_);simp only[↓Z,aW];refine X O O (jB (a:=r) (b:=s) (c:=p)) (aK aF (aK ((uM (v:=oG r s p) e O O)) ?_));refine cW 3 [2,1,3] ?_;simp only[↓Z,aW];refine X O O (jB (a:=r) (b:=s) (c:=q)) (aK aF (aK ((uM (v:=oG r s q) e O O)) (aK (lT O O (Kn _ _)) ?_)));simp only[J];refine aK aI (bD ?_);intro u m;apply aQ 6 [4,3,2,1,0] m;simp only[↓Z,aW];refine iE m O O (nO (a:=p) (b:=q) (c:=r) (d:=s)) 8 [0,3,0,3,0] ?_;simp only[↓Z];refine λ_=>λ_=>?_;intro u m;refine aS O O ?_;try simp only[zD,zE]
 exact⟨_,O,m.ext,by rw[<-alV f]⟩
def anv{b p:Y}{k:Nat}:(((decide (bV (pU (oG a b p) k)>=0)&&decide (bV (pU (oG b c p) k)>=0))&&decide (bV (pU (oG c a p) k)>=0))||((decide (bV (pU (oG a b p) k)<=0)&&decide (bV (pU (oG b c p) k)<=0))&&decide (bV (pU (oG c a p) k)<=0)))=decide (wth a b c p k):=by
 unfold wth;rw[pj];simp only[gz,ck,Y2,ge_iff_le,rS,wP,X4];exact decide_eq_true_iff.symm
def anw{x y z:Int}:(((decide (bV x>=0)&&decide (bV y>=0))&&decide (bV z>=0))||((decide (bV x<=0)&&decide (bV y<=0))&&decide (bV z<=0)))=alp x y z:=by
 unfold alp;rw[pj];simp only[gz,ck,Y2,ge_iff_le,rS,wP]
def asA{b:Y}(d:fQ w g [U a.x,U a.y,U a.z,U b.x,U b.y,U b.z,U c.x,U c.y,U c.z] T):kO cM 3 w (H ⟨g,0,X8⟩) 3 [a,b,c]:=
 ⟨rfl,λi x e=>⟨_,rfl,by
  rw[cA,ae]
  match i,e with
  |0,h=>cases h;exact iX.pre (ys:=kS b++kS c) (d.row 0)
  |1,h=>cases h;exact iX.pre (ys:=kS c) (d.row 3)
  |2,h=>cases h;exact d.row 6⟩⟩
def ame{p:Y}(w:an)(a:kO cM 3 w (H ⟨g,0,X8⟩) 3 [p,q,r]):cX X9 260 [.slice (H ⟨g,0,X8⟩) 3 cap] w λv _=>v=.tuple #[pt (sK (sK p q) r),pt (uP (uP p q) r)]:=Vs (x:=p) (xs:=[q,r]) w a (by decide)
def arK{p:Y}(h:oU t=N):mT p q t=rC p q (sK (sK t.a t.b) t.c) (uP (uP t.a t.b) t.c):=by
 unfold mT;rw[K0 (Y9 h)]
def nfl(h:oU t=X7):Ad (oG t.a t.b t.c)<3:=Classical.not_not.1 (X5 h)
def arL{p:Y}(h:oU t=X7)(d:0<bV (Hp t.a t.b t.c p)*bV (Hp t.a t.b t.c q)):mT p q t=X7:=by
 unfold mT;rw[Z9 (nfl h),Z9 (Ft.1 d)]
def aev{p:Y}(h:oU t=X7)(e:¬0<bV (Hp t.a t.b t.c p)*bV (Hp t.a t.b t.c q))(d:(decide (bV (Hp t.a t.b t.c p)=0)&&decide (bV (Hp t.a t.b t.c q)=0))=N):mT p q t=(((rC p q t.a t.b||rC p q t.b t.c)||rC p q t.c t.a)||decide (wth t.a t.b t.c p (Ad (oG t.a t.b t.c)))):=by
 simp only[ck,Y2,cK] at d;unfold mT;rw[Z9 (nfl h),K0 (λk=>e (Ft.2 k)),Z9 d]
def anx{p:Y}(h:oU t=X7)(e:¬0<bV (Hp t.a t.b t.c p)*bV (Hp t.a t.b t.c q))(d:(decide (bV (Hp t.a t.b t.c p)=0)&&decide (bV (Hp t.a t.b t.c q)=0))=X7):mT p q t=alp (Hp p q t.a t.b) (Hp p q t.b t.c) (Hp p q t.c t.a):=by
 have f:¬(Hp t.a t.b t.c p=0/\Hp t.a t.b t.c q=0):=λk=>by
  rw[Y5 (cK.2 k.1),Y5 (cK.2 k.2)] at d;cases d
 unfold mT;rw[Z9 (nfl h),K0 (λk=>e (Ft.2 k)),K0 f]
def abw{p:Y}[I3 p][IT t](f:Ad (oG t.a t.b t.c)<3):dO X9 262 [pt p,tr t] (.bool (decide (wth t.a t.b t.c p (Ad (oG t.a t.b t.c))))):=by
 intro w;refine⟨bP func262 (by kernel_rfl),?_⟩;have m:=Mem.refl w
 go_enter func262,ntmps262
 apply gJ 14 [1,1,1,0] m;simp only[↓Z,cD,aW,ac,C,aa];intro g h;apply R;omega;intro u m;refine eV m O O (jB (a:=t.a) (b:=t.b) (c:=t.c)) ?_;intro u m;simp only[J];refine iE m O O (Vt (v:=oG t.a t.b t.c)) 9 [1,1,2,0] ?_;simp only[↓Z,cD,aW,ac,C,aa];apply R;omega;intro u m;refine iE m O O (jB (a:=t.a) (b:=t.b) (c:=p)) 1 [0] ?_;simp only[↓Z];intro u m;refine aA ((uM (v:=oG t.a t.b p) f O O)) ?_;apply aL 9 [1,1,2,0] m;simp only[↓Z,cD,aW,ac,C,aa];apply R;omega;refine iE m O O (jB (a:=t.b) (b:=t.c) (c:=p)) 1 [0] ?_;simp only[↓Z];intro u m;refine aA ((uM (v:=oG t.b t.c p) f O O)) ?_;apply aL 9 [1,1,2,0] m;simp only[↓Z,cD,aW,ac,C,aa];apply R;omega;refine iE m O O (jB (a:=t.c) (b:=t.a) (c:=p)) 1 [0] ?_;simp only[↓Z];intro u m;refine aA ((uM (v:=oG t.c t.a p) f O O)) ?_;apply aL 3 [] m;simp only[↓Z];cases e:((decide (bV (pU (oG t.a t.b p) (Ad (oG t.a t.b t.c)))>=0)&&decide (bV (pU (oG t.b t.c p) (Ad (oG t.a t.b t.c)))>=0))&&decide (bV (pU (oG t.c t.a p) (Ad (oG t.a t.b t.c)))>=0))
 .apply aQ 7 [0,3,0,3,0,0] m;simp only[↓Z];refine λ_=>λ_=>?_;rw[e];refine aA aF ?_;apply aL 3 [0,0,0,0,0] m;simp only[↓Z];refine kW O (λd=>aF) (kW O (λd=>Aw (cG d O) O) (bQ O (aA (fB O O O) ?_)));apply aL 1 [0,0] m;simp only[↓Z];refine kW O (λd=>aF) (kW O (λd=>Aw (cG d O) O) (bQ O (aA (fB O O O) ?_)));apply aL 4 [] m;simp only[↓Z];refine aS O O ?_;try simp only[zD,zE]
  exact⟨_,O,m.ext,by rw[<-anv,e,Bool.false_or]⟩
 apply aQ 7 [0,3,0,3,0,0] m;simp only[↓Z];refine λ_=>λ_=>?_;rw[e];refine aA aF ?_;apply aL 14 [0,0,0,0,0,0,0,0,0,0] m;simp only[↓Z];refine aS O O ?_;try simp only[zD,zE]
 exact⟨_,O,m.ext,by rw[<-anv,e,Bool.true_or]⟩
def nP{p:Y}[I3 p][I3 q][IT t]:dO X9 251 [pt p,pt q,tr t] (.bool (mT p q t)):=by
 intro w;refine⟨bP func251 (by kernel_rfl),?_⟩;have m:=Mem.refl w
 go_enter func251,ntmps251
 apply gJ 5 [] m;simp only[↓Z];intro B D E u m;apply aQ 5 [1,0] m;simp only[↓Z,fM];refine iE m O O (Io (t:=t)) 7 [0] ?_;simp only[↓Z];intro u m;refine dH O ?_ ?_<;>intro e
 .rw[yZ] at e;apply F 8 [1,1,1,0] m;simp only[↓Z,cD,aW,ac,C,aa];apply R;omega;refine acs O O O ?_;intro u G y z A;replace m:=m.newB y z A;simp only[J];refine bY m O O (ame (p:=t.a) (q:=t.b) (r:=t.c) _ (asA (m.b 0 O))) ?_;rintro v u m rfl;apply kZ 7 [1,0] m;simp only[↓Z,gC,aW,aa];intro I K u m;apply aQ 7 [6,5,2,1,0] m;simp only[↓Z,aW];refine iE m O O ((haveI x:=Ii (p:=t.a) (q:=t.b) X3 X3;haveI:=(Ii x.1 (X3:I3 t.c)).1;haveI:=(Ii x.2 (X3:I3 t.c)).2;zW (p:=p) (q:=q) (r:=sK (sK t.a t.b) t.c) (s:=uP (uP t.a t.b) t.c))) 3 [] ?_;simp only[↓Z];intro u m;refine aS O O ?_;try simp only[zD,zE]
  exact⟨_,O,m.ext,by rw[arK e]⟩
 rw[yZ] at e;apply F 10 [1,1,1,3,0] m;simp only[↓Z,cD,aW,ac,C,aa];apply R;omega;refine iE m O O (nO (a:=t.a) (b:=t.b) (c:=t.c) (d:=p)) 11 [1,1,1,2] ?_;simp only[↓Z,cD,aW,ac,C,aa];apply R;omega;intro u m;refine go (iE m O O (nO (a:=t.a) (b:=t.b) (c:=t.c) (d:=q)) 7 [0] ?_);simp only[↓Z];intro u m;refine aA (lT O O (Kn _ _)) ?_;apply aL 2 [0,0] m;simp only[↓Z];refine aZ O ?_ ?_<;>intro g
 .apply F 5 [] m;simp only[↓Z];refine aS O O ?_;try simp only[zD,zE]
  exact⟨_,O,m.ext,by rw[arL e g]⟩
 apply F 9 [0,3,0,0] m;simp only[↓Z];refine λ_=>?_;refine dH O ?_ ?_<;>intro h
 .apply F 19 [4,1,0] m;simp only[↓Z];apply R;omega;refine mq m aB (by kernel_rfl) (cW 7 [3,2,1] ?_);simp only[↓Z,aW,cD,ac,C,aa,M];apply R;omega;refine aK (cS (m:=1) (n:=3) (r:=1) O O (by decide) (by decide)) (cW 2 [1] ?_);simp only[↓Z,cD,aW,ac,C,aa];apply R;omega;refine X O O (zW (p:=p) (q:=q) (r:=t.a) (s:=t.b)) (aK aI (bD ?_));intro u m;apply aQ 4 [0] m;simp only[↓Z];refine dH O ?_ ?_<;>intro f
  .have k:=f;apply F 5 [] m;simp only[↓Z];refine aS O O ?_;try simp only[zD,zE]
   exact⟨_,O,m.ext,by rw[aev e g h];simp[*]⟩
  have k:=f;apply F 19 [1,0] m;simp only[↓Z,M];apply R;omega;refine mq m aB (by kernel_rfl) (cW 7 [3,2,1] ?_);simp only[↓Z,aW,cD,ac,C,aa,M];apply R;omega;refine aK (cS (m:=2) (n:=3) (r:=2) O O (by decide) (by decide)) (cW 2 [1] ?_);simp only[↓Z,cD,aW,ac,C,aa];apply R;omega;refine X O O (zW (p:=p) (q:=q) (r:=t.b) (s:=t.c)) (aK aI (bD ?_));intro u m;apply aQ 4 [0] m;simp only[↓Z];refine dH O ?_ ?_<;>intro f
  .have l:=f;apply F 5 [] m;simp only[↓Z];refine aS O O ?_;try simp only[zD,zE]
   exact⟨_,O,m.ext,by rw[aev e g h];simp[*]⟩
  have l:=f;apply F 19 [1,0] m;simp only[↓Z,M];apply R;omega;refine mq m aB (by kernel_rfl) (cW 7 [3,2,1] ?_);simp only[↓Z,aW,cD,ac,C,aa,M];apply R;omega;refine aK (cS (m:=3) (n:=3) (r:=0) O O (by decide) (by decide)) (cW 2 [1] ?_);simp only[↓Z,cD,aW,ac,C,aa];apply R;omega;refine X O O (zW (p:=p) (q:=q) (r:=t.c) (s:=t.a)) (aK aI (bD ?_));intro u m;apply aQ 4 [0] m;simp only[↓Z];refine dH O ?_ ?_<;>intro f
  .have o:=f;apply F 5 [] m;simp only[↓Z];refine aS O O ?_;try simp only[zD,zE]
   exact⟨_,O,m.ext,by rw[aev e g h];simp[*]⟩
  have o:=f;apply F 20 [2,3,1,0] m;simp only[↓Z,aW,fM,M];apply R;omega;refine iE m O O (abw (p:=p) (t:=t) (nfl e)) 3 [] ?_;simp only[↓Z];intro u m;refine aS O O ?_;try simp only[zD,zE]
  exact⟨_,O,m.ext,by rw[aev e g h,k,l,o];rfl⟩
 apply F 9 [3,2,1,1,0] m;simp only[↓Z,aW,cD,ac,C,aa];apply R;omega;refine iE m O O (nO (a:=p) (b:=q) (c:=t.a) (d:=t.b)) 10 [3,2,1,1,0] ?_;simp only[↓Z,aW,cD,ac,C,aa];apply R;omega;intro u m;refine iE m O O (nO (a:=p) (b:=q) (c:=t.b) (d:=t.c)) 10 [3,2,1,1,0] ?_;simp only[↓Z,aW,cD,ac,C,aa];apply R;omega;intro u m;refine iE m O O (nO (a:=p) (b:=q) (c:=t.c) (d:=t.a)) 3 [] ?_;simp only[↓Z];intro u m;cases j:((decide (bV (Hp p q t.a t.b)>=0)&&decide (bV (Hp p q t.b t.c)>=0))&&decide (bV (Hp p q t.c t.a)>=0))
 .apply aQ 7 [0,3,0,3,0,0] m;simp only[↓Z];refine λ_=>λ_=>?_;rw[j];refine aA aF ?_;apply aL 3 [0,0,0,0,0] m;simp only[↓Z];refine kW O (λi=>aF) (kW O (λi=>Aw (cG i O) O) (bQ O (aA (fB O O O) ?_)));apply aL 1 [0,0] m;simp only[↓Z];refine kW O (λi=>aF) (kW O (λi=>Aw (cG i O) O) (bQ O (aA (fB O O O) ?_)));apply aL 4 [] m;simp only[↓Z];refine aS O O ?_;try simp only[zD,zE]
  exact⟨_,O,m.ext,by rw[anx e g h,<-anw,j,Bool.false_or]⟩
 apply aQ 7 [0,3,0,3,0,0] m;simp only[↓Z];refine λ_=>λ_=>?_;rw[j];refine aA aF ?_;apply aL 14 [0,0,0,0,0,0,0,0,0,0] m;simp only[↓Z];refine aS O O ?_;try simp only[zD,zE]
 exact⟨_,O,m.ext,by rw[anx e g h,<-anw,j,Bool.true_or]⟩
def Zs{j:Nat}(h:fQ w g (aP t) T)(a:j<3):iX w ⟨g,j*3,X8⟩ (cM (t.cor j)):=by
 rcases j with _|_|_|j
 .exact (h.row 0).take 3
 .exact (h.row 3).take 3
 .exact (h.row 6).take 3
 omega
def amf{p:Y}:dO X9 259 [pt p,tr t] (.bool (t.has p)):=by
 intro w;refine⟨bP func259 (by kernel_rfl),?_⟩;have m:=Mem.refl w
 go_enter func259,ntmps259
 apply gJ 19 [2,1,5,2,1,5,2,1] m;simp only[↓Z,aW,cD,ac,C,aa];refine λa=>λb=>⟨_,fX,_,fX,λ_=>⟨_,fX,λ_=>⟨by omega,?_⟩⟩⟩
 intro u m;refine aS O O ?_;try simp only[zD,zE]
 exact⟨_,O,m.ext,by rw[ajP]⟩
def Sb(w:an):cX X9 249 [tr s,tr t] w (λv w'=>∃f r B g A C,v=.tuple #[.slice f r B,.slice g A C]/\r=(uC s t).length/\A=(yH s t).length/\Mem w w' [oI 41 3 g A C ((yH s t).flatMap kS),oI 41 3 f r B ((uC s t).flatMap kS)]):=by
 refine⟨bP func249 (by kernel_rfl),?_⟩;have m:=Mem.refl w
 go_enter func249,ntmps249
 apply gJ 9 [0] m;simp only[↓Z];intro E G u m;refine aA aI ?_;replace m:=m.nilO 41 3;apply aL 3 [0] m;simp only[↓Z];refine aA aI ?_;replace m:=m.nilO 41 3;apply aL 7 [0] m;simp only[↓Z];refine bT [6,7,8] [9,10,11,12,13,14,15,16,17,18,19,20,21,22,23,24,25,26,27,28,29,30,31] (λn vs L=>∃(k:Nat)(f g:Option Addr)(h i:Nat),vs=[.slice f (Fu s t k).length h,.slice g (Fv s t k).length i,U (k:Int)]/\Mem w L [oI 41 3 g (Fv s t k).length i ((Fv s t k).flatMap kS),oI 41 3 f (Fu s t k).length h ((Fu s t k).flatMap kS),bI G [U t.a.x,U t.a.y,U t.a.z,U t.b.x,U t.b.y,U t.b.z,U t.c.x,U t.c.y,U t.c.z] 43,bI E [U s.a.x,U s.a.y,U s.a.z,U s.b.x,U s.b.y,U s.b.z,U s.c.x,U s.c.y,U s.c.z] 43]/\(k<=3)/\(n=3-k)) ?_ ?_
 .exact⟨_,0,_,_,_,_,O,m,by omega,O⟩
 intro n vs S K u M D
 obtain⟨k,f,g,h,i,rfl,m,P,Q⟩:=K;simp only[zu,zF,zG];apply F 6 [0,0] m;simp only[↓Z];refine aZ O ?_ ?_<;>intro T
 .have d:k<3:=by omega
  apply F 4 [0] m;simp only[↓Z];refine mq m aB (by kernel_rfl) (cW 4 [0,0,3] ?_);simp only[↓Z,cD,fM,ab,ae];refine⟨_,λu m=>(show eZ _ _ _ _ (pt (s.cor k)) from (Zs (m.b 3 O) d).lies aM aD),by omega,?_⟩;refine X O O (amf (t:=t) (p:=s.cor k)) (aK aI (bD ?_));intro u m;apply aQ 4 [0] m;simp only[↓Z];refine dH O ?_ ?_<;>intro e
  .apply F 5 [0,0,0] m;simp only[↓Z,cD,ab,ae];refine⟨_,λu m=>(show eZ _ _ _ _ (pt (s.cor k)) from (Zs (m.b 3 O) d).lies aM aD),by omega,?_⟩;refine lF O ?_;intro u I j l q;replace m:=m.newB j l q;simp only[J];refine bJ m 2 O O eL mB O (by decide) O O O (m.b 0 O).rowsO (fU O) (by have:=aeh s t k;omega) (by have:=aeh s t k;omega) ?_;intro f h u m;simp only[zF,zG] at m;rw[show (Fu s t k).flatMap kS++_=(Fu s t (k+1)).flatMap kS by rw[Ij d,e,au];rfl,show (Fu s t k).length+1=(Fu s t (k+1)).length by rw[Ij d,e,a_];rfl] at m;rw[show (Fu s t k).length+1=(Fu s t (k+1)).length by rw[Ij d,e,a_];rfl];apply aL 8 [0] m;simp only[↓Z];apply R;omega;have o:Fv s t (k+1)=Fv s t k:=by rw[Ik d,e,Z9 rfl,fw]
   rw[<-o] at m ⊢;exact D (3-(k+1)) _ _ (by omega) (by kernel_rfl) ⟨k+1,_,_,_,_,O,(m.sel [X7,N,N,N,N]),by omega,O⟩
  apply F 5 [0,0,0] m;simp only[↓Z,cD,ab,ae];refine⟨_,λu m=>(show eZ _ _ _ _ (pt (s.cor k)) from (Zs (m.b 3 O) d).lies aM aD),by omega,?_⟩;refine lF O ?_;intro u I j l q;replace m:=m.newB j l q;simp only[J];refine bJ m 1 O O eL mB O (by decide) O O O (m.b 0 O).rowsO (fU O) (by have:=aei s t k;omega) (by have:=aei s t k;omega) ?_;intro g i u m;simp only[zF,zG] at m;rw[show (Fv s t k).flatMap kS++_=(Fv s t (k+1)).flatMap kS by rw[Ik d,e,au];rfl,show (Fv s t k).length+1=(Fv s t (k+1)).length by rw[Ik d,e,a_];rfl] at m;rw[show (Fv s t k).length+1=(Fv s t (k+1)).length by rw[Ik d,e,a_];rfl];apply aL 8 [0] m;simp only[↓Z];apply R;omega;have o:Fu s t (k+1)=Fu s t k:=by rw[Ij d,e,K0 jw,fw]
  rw[<-o] at m ⊢;exact D (3-(k+1)) _ _ (by omega) (by kernel_rfl) ⟨k+1,_,_,_,_,O,(m.sel [X7,N,N,N,N]),by omega,O⟩
 obtain rfl:k=3:=by omega
 apply F 9 [] m;simp only[↓Z];exact kN O O O ⟨_,O,m.ext,_,_,_,_,_,_,O,O,O,m.sel [N,N,X7,X7]⟩
def abx[IT s][IT t]:dO X9 250 [tr s,tr t] (.bool (Mk s t||Mk t s)):=by
 intro w;refine⟨bP func250 (by kernel_rfl),?_⟩;have m:=Mem.refl w
 go_enter func250,ntmps250
 apply gJ 25 [4,1,0] m;simp only[↓Z];intro i j;apply R;omega;intro u m;refine mq m aB (by kernel_rfl) (cW 5 [2] ?_);simp only[↓Z,cD,aW,ac,C,aa,M];apply R;omega;refine aK (cS (m:=1) (n:=3) (r:=1) O O (by decide) (by decide)) (cW 3 [2,1] ?_);simp only[↓Z,cD,aW,fM,ac,C,aa];apply R;omega;refine X O O (nP (p:=s.a) (q:=s.b) (t:=t)) (aK aI (bD ?_));intro u m;apply aQ 1 [0] m;simp only[↓Z];refine mq m aB (by kernel_rfl) (cW 5 [1] ?_);simp only[↓Z,cD,aW,ac,C,aa,M];apply R;omega;refine aK (cS (m:=1) (n:=3) (r:=1) O O (by decide) (by decide)) (cW 3 [1,2] ?_);simp only[↓Z,cD,aW,fM,ac,C,aa];apply R;omega;refine X O O (nP (p:=t.a) (q:=t.b) (t:=s)) (aK aI (bD ?_));intro u m;apply aQ 6 [2,0] m;simp only[↓Z];refine λ_=>?_;refine dH O ?_ ?_<;>intro d
 .have e:=d;apply F 5 [] m;simp only[↓Z];refine aS O O ?_;try simp only[zD,zE]
  exact⟨_,O,m.ext,by unfold Mk;rcases gz _ _ |>.mp e with h|h<;>simp[h]⟩
 have e:=d;apply F 19 [1,0] m;simp only[↓Z,M];apply R;omega;refine mq m aB (by kernel_rfl) (cW 5 [2] ?_);simp only[↓Z,cD,aW,ac,C,aa,M];apply R;omega;refine aK (cS (m:=2) (n:=3) (r:=2) O O (by decide) (by decide)) (cW 3 [2,1] ?_);simp only[↓Z,cD,aW,fM,ac,C,aa];apply R;omega;refine X O O (nP (p:=s.b) (q:=s.c) (t:=t)) (aK aI (bD ?_));intro u m;apply aQ 1 [0] m;simp only[↓Z];refine mq m aB (by kernel_rfl) (cW 5 [1] ?_);simp only[↓Z,cD,aW,ac,C,aa,M];apply R;omega;refine aK (cS (m:=2) (n:=3) (r:=2) O O (by decide) (by decide)) (cW 3 [1,2] ?_);simp only[↓Z,cD,aW,fM,ac,C,aa];apply R;omega;refine X O O (nP (p:=t.b) (q:=t.c) (t:=s)) (aK aI (bD ?_));intro u m;apply aQ 6 [2,0] m;simp only[↓Z];refine λ_=>?_;refine dH O ?_ ?_<;>intro d
 .have f:=d;apply F 5 [] m;simp only[↓Z];refine aS O O ?_;try simp only[zD,zE]
  exact⟨_,O,m.ext,by unfold Mk;rcases gz _ _ |>.mp f with h|h<;>simp[h]⟩
 have f:=d;apply F 19 [1,0] m;simp only[↓Z,M];apply R;omega;refine mq m aB (by kernel_rfl) (cW 5 [2] ?_);simp only[↓Z,cD,aW,ac,C,aa,M];apply R;omega;refine aK (cS (m:=3) (n:=3) (r:=0) O O (by decide) (by decide)) (cW 3 [2,1] ?_);simp only[↓Z,cD,aW,fM,ac,C,aa];apply R;omega;refine X O O (nP (p:=s.c) (q:=s.a) (t:=t)) (aK aI (bD ?_));intro u m;apply aQ 1 [0] m;simp only[↓Z];refine mq m aB (by kernel_rfl) (cW 5 [1] ?_);simp only[↓Z,cD,aW,ac,C,aa,M];apply R;omega;refine aK (cS (m:=3) (n:=3) (r:=0) O O (by decide) (by decide)) (cW 3 [1,2] ?_);simp only[↓Z,cD,aW,fM,ac,C,aa];apply R;omega;refine X O O (nP (p:=t.c) (q:=t.a) (t:=s)) (aK aI (bD ?_));intro u m;apply aQ 6 [2,0] m;simp only[↓Z];refine λ_=>?_;refine dH O ?_ ?_<;>intro d
 .have g:=d;apply F 5 [] m;simp only[↓Z];refine aS O O ?_;try simp only[zD,zE]
  exact⟨_,O,m.ext,by unfold Mk;rcases gz _ _ |>.mp g with h|h<;>simp[h]⟩
 have g:=d;apply F 21 [2] m;simp only[↓Z,M];apply R;omega;refine aS O O ?_;try simp only[zD,zE]
 exact⟨_,O,m.ext,by rw[Bool.or_eq_false_iff] at e f g;unfold Mk;rw[e.1,e.2,f.1,f.2,g.1,g.2];rfl⟩
def afV[IT s][IT t]:dO X9 241 [tr s,tr t] (.bool (aaU s t)):=by
 intro w;refine⟨bP func241 (by kernel_rfl),?_⟩;have m:=Mem.refl w
 go_enter func241,ntmps241
 apply gJ 6 [] m;simp only[↓Z];intro g1 g2 u m;apply aQ 4 [2,1,0] m;simp only[↓Z,fM];refine bB O O (Sb (s:=s) (t:=t) _) ?_;rintro v u r ⟨A5,n5,c5,A6,n6,c6,rfl,h,l,x⟩;replace m:=m.plus x;clear x;simp only[dx,cv] at m;apply aL 10 [3,4,0] m;simp only[↓Z,fM];refine bB O O (Sb (s:=t) (t:=s) _) ?_;rintro v u r ⟨A7,n7,c7,A8,n8,c8,rfl,ad,n,x⟩;replace m:=m.plus x;clear x;simp only[dx,cv] at m;apply aL 9 [6,0] m;simp only[↓Z,fM];refine iE m O O (Io (t:=s)) 5 [5,0] ?_;simp only[↓Z,fM];intro u m;refine iE m O O (Io (t:=t)) 13 [0,2,2,0] ?_;simp only[↓Z,gZ];refine λ_=>λ_=>?_;intro u m;refine dH O ?_ ?_<;>intro B
 .rw[yZ,yZ] at B;apply F 4 [6,5,0] m;simp only[↓Z,fM];refine iE m O O (abx (s:=s) (t:=t)) 3 [] ?_;simp only[↓Z];intro u m;refine aS O O ?_;try simp only[zD,zE]
  exact⟨_,O,m.ext,by rw[apI h B]⟩
 rw[yZ,yZ] at B;obtain⟨⟨P,Y,ab⟩,D⟩:=apJ h B;apply F 3 [] m;simp only[↓Z];rcases acY Y ab P with ⟨y,j,G,k,I,h1,f,g⟩|⟨y,A,j,k,h1,f,g⟩|h1
 .rw[h1] at h;rw[f] at l;rw[g] at n;have Q:I3 j:=Kq (i:=0) f rfl;have T:I3 G:=Kq (i:=1) f rfl;have V:I3 k:=Kq (i:=0) g rfl;have W:I3 I:=Kq (i:=1) g rfl;simp only[bh,dv] at h l n;subst h;subst l;subst n;rw[h1,f,g] at m;obtain⟨K,rfl⟩:=(m.o 3 rfl).some (by decide);obtain⟨L,rfl⟩:=(m.o 2 rfl).some (by decide);obtain⟨M,rfl⟩:=(m.o 0 rfl).some (by decide);apply aQ 12 [1,0] m;simp only[↓Z,gZ];apply R;omega;refine mq m aB (by kernel_rfl) (cW 7 [0,0,0,0,5] ?_);simp only[↓Z,gK,fM,ac,C,aa];refine⟨_,λu m=>(((m.o 2 O).at (enc:=kS) (i:=0) xG O).lies aM aD),_,λu m=>(((m.o 2 O).at (enc:=kS) (i:=1) xG O).lies aM aD),by omega,?_⟩;refine X O O (nP (p:=j) (q:=G) (t:=t)) (aK aI (bD ?_));intro u m;apply aQ 1 [0] m;simp only[↓Z];refine mq m aB (by kernel_rfl) (cW 7 [0,0,0,0,6] ?_);simp only[↓Z,gK,fM,ac,C,aa];refine⟨_,λu m=>(((m.o 0 O).at (enc:=kS) (i:=0) xG O).lies aM aD),_,λu m=>(((m.o 0 O).at (enc:=kS) (i:=1) xG O).lies aM aD),by omega,?_⟩;refine X O O (nP (p:=k) (q:=I) (t:=s)) (aK aI (bD ?_));intro u m;apply aQ 8 [2] m;simp only[↓Z];refine λ_=>?_;refine aS O O ?_;try simp only[zD,zE]
  exact⟨_,O,m.ext,by rw[D,h1,f,g];rfl⟩
 .rw[h1] at h;rw[f] at l;rw[g] at n;have Q:I3 y:=ai4 (i:=0) h1 rfl;have T:I3 A:=ai4 (i:=1) h1 rfl;have V:I3 j:=Kq (i:=0) f rfl;have W:I3 k:=Kq (i:=0) g rfl;simp only[bh,dv] at h l n;subst h;subst l;subst n;rw[h1,f,g] at m;obtain⟨K,rfl⟩:=(m.o 3 rfl).some (by decide);obtain⟨L,rfl⟩:=(m.o 2 rfl).some (by decide);obtain⟨M,rfl⟩:=(m.o 0 rfl).some (by decide);apply aQ 18 [2,1,0] m;simp only[↓Z,gZ];apply R;omega;refine dR 11 [0,1,2,3,4,5,6,7,8,9] [⟨10,13,103,[U 0,U 0,U 0]⟩] aB (by kernel_rfl) (al1 ⟨_,_,_,O,by kernel_rfl,_,Bt,O⟩) (ol:=?_) ?E ?_
  case E=>simp only[zw,zQ,zR];try rfl
  intro u r;replace m:=m.ext' r;refine gA aF ?_;simp only[J];refine gA (aN eL aD O O (by decide) (by omega) O) ?_;simp only[J];refine dA O (λu e=>((((m.ext' e).o 3 O).at (enc:=kS) (i:=0) xG O).lies aM aD)) ?_;simp only[J];refine gA aF ?_;simp only[J];refine gA (aN eL aD O O (by decide) (by omega) O) ?_;simp only[J];refine dA O (λu e=>((((m.ext' e).o 3 O).at (enc:=kS) (i:=1) xG O).lies aM aD)) ?_;simp only[J];refine gA aF ?_;simp only[J];refine gA (aN eL aD O O (by decide) (by omega) O) ?_;simp only[J];refine dA O (λu e=>((((m.ext' e).o 2 O).at (enc:=kS) (i:=0) xG O).lies aM aD)) ?_;simp only[J];refine cY O O (jB (a:=y) (b:=A) (c:=j)) (rN ?_);simp only[J];refine mf1 m ?_;intro g3 u m;simp only[zJ,zK,zF,zG];refine aX m 0 O O O jC (eU O) O ?_;intro u m;simp only[zy,zx,over,zF,zG,aa] at m;refine S ?_;apply aQ 1 [0] m;simp only[↓Z];refine dR 11 [0,1,2,3,4,5,6,7,8,9] [⟨10,14,103,[U 0,U 0,U 0]⟩] aB (by kernel_rfl) (al1 ⟨_,_,_,O,by kernel_rfl,_,Bt,O⟩) (ol:=?_) ?E ?_
  case E=>simp only[zw,zQ,zR];try rfl
  intro u r;replace m:=m.ext' r;refine gA aF ?_;simp only[J];refine gA (aN eL aD O O (by decide) (by omega) O) ?_;simp only[J];refine dA O (λu e=>((((m.ext' e).o 4 O).at (enc:=kS) (i:=0) xG O).lies aM aD)) ?_;simp only[J];refine gA aF ?_;simp only[J];refine gA (aN eL aD O O (by decide) (by omega) O) ?_;simp only[J];refine dA O (λu e=>((((m.ext' e).o 4 O).at (enc:=kS) (i:=1) xG O).lies aM aD)) ?_;simp only[J];refine gA aF ?_;simp only[J];refine gA (aN eL aD O O (by decide) (by omega) O) ?_;simp only[J];refine dA O (λu e=>((((m.ext' e).o 1 O).at (enc:=kS) (i:=0) xG O).lies aM aD)) ?_;simp only[J];refine cY O O (jB (a:=y) (b:=A) (c:=k)) (rN ?_);simp only[J];refine mf1 m ?_;intro g4 u m;simp only[zJ,zK,zF,zG];refine aX m 0 O O O jC (eU O) O ?_;intro u m;simp only[zy,zx,over,zF,zG,aa] at m;refine S ?_;apply aQ 1 [0] m;simp only[↓Z];refine mq m aB (by kernel_rfl) (cW 12 [0,0,0,0,0,0,0,0] ?_);simp only[↓Z,gK,ac,C,aa];refine⟨_,λu m=>(((m.o 5 O).at (enc:=kS) (i:=0) xG O).lies aM aD),_,λu m=>(((m.o 5 O).at (enc:=kS) (i:=1) xG O).lies aM aD),_,λu m=>(((m.o 4 O).at (enc:=kS) (i:=0) xG O).lies aM aD),_,λu m=>(((m.o 2 O).at (enc:=kS) (i:=0) xG O).lies aM aD),by omega,?_⟩;refine X O O (nO (a:=y) (b:=A) (c:=j) (d:=k)) (aK (Ld O O) (aK aF ?_));simp only[J];refine jR O (λz u m=>cT O ((m.b 1 O).full rH jC)) (jR O (λz u m=>cT O ((m.b 0 O).full rH jC)) (cU O (λz=>acr (cG z O) (cG z O)) (aK (fB O O O) (aK aI (bD ?_)))));intro u m;apply aQ 1 [] m;simp only[↓Z];refine aS O O ?_;try simp only[zD,zE]
  exact⟨_,O,m.ext,by rw[D,h1,f,g];exact Y1 Value.bool apK⟩
 rw[h1] at h;subst h;apply aQ 24 [2,2] m;simp only[↓Z,gZ];apply R;omega;refine aS O O ?_;try simp only[zD,zE]
 exact⟨_,O,m.ext,by rw[D,apL h1]⟩
def aby{r:T3}[IT t][IT r]:dO X9 228 [tr t,tr r] (U (asf t r)):=by
 intro w;refine⟨bP func228 (by kernel_rfl),?_⟩;have m:=Mem.refl w
 go_enter func228,ntmps228
 apply gJ 7 [0] m;simp only[↓Z];intro a c u m;refine mq m aB (by kernel_rfl) (ql O (λu m=>((m.b 1 O).full eD bK)) ?_);simp only[J];refine X O O Ku ?_;simp only[J];refine ql O (λu m=>((m.b 0 O).full eD bK)) ?_;simp only[J];refine X O O Ku ?_;simp only[J];refine X O O (Fy Bv.of Bv.of) ?_;simp only[J];refine X O O (Dm K.up) (aK aI (bD ?_));intro u m;apply aQ 1 [] m;simp only[↓Z];exact aS O O ⟨_,O,m.ext,O⟩
def arM(a b c:Int):(if (if a<b then b else a)<c then c else if a<b then b else a)=max (max a b) c:=by omega
def arN(a b c:Int):(if c<(if b<a then b else a) then c else if b<a then b else a)=min (min a b) c:=by omega
def amg  : (((decide (max (max s.a.x s.b.x) s.c.x<min (min t.a.x t.b.x) t.c.x)||decide (max (max t.a.x t.b.x) t.c.x<min (min s.a.x s.b.x) s.c.x))||(decide (max (max s.a.y s.b.y) s.c.y<min (min t.a.y t.b.y) t.c.y)||decide (max (max t.a.y t.b.y) t.c.y<min (min s.a.y s.b.y) s.c.y)))||(decide (max (max s.a.z s.b.z) s.c.z<min (min t.a.z t.b.z) t.c.z)||decide (max (max t.a.z t.b.z) t.c.z<min (min s.a.z s.b.z) s.c.z))) = !ah0 s t:=by
 unfold ah0;rw[Bool.not_and,Bool.not_and,qq,qq,qq];rfl
def adf  : dO X9 240 [tr s,tr t] (.bool (!ah0 s t)):=by
 intro w;refine⟨bP func240 (by kernel_rfl),?_⟩;have m:=Mem.refl w
 go_enter func240,ntmps240
 apply gJ 4 [] m;simp only[↓Z];intro d e u m;apply aQ 10 [2,2] m;simp only[↓Z,cD,iR,dN,ac,C,aa];apply R;omega;apply aQ 3 [2,0] m;simp only[↓Z,cD,iR,dN,ac,C,aa];apply R;omega;refine aA (Km O O O O) ?_;apply aL 7 [1,1] m;simp only[↓Z,cD,iR,dN,ac,C,aa];apply R;omega;apply aQ 2 [1,0] m;simp only[↓Z,iR,dN,aa];refine aA (Kl O O O O) ?_;apply aL 2 [0,0] m;simp only[↓Z];refine eO O (λa=>aR fR aD O O (by decide) (by decide) O) (eO O (λa=>aO (c:=0) iZ O bC (cG a O) O) ?_);simp only[J];refine gV O (λa=>cT (cG a O) ((m.b 0 O).lies1 bW O)) (eO O (λa=>aR fR aD O O (by decide) (by decide) O) (eO O (λa=>aO (c:=0) iZ O bC (cG a O) O) ?_));simp only[J];refine gV O (λa=>cT (cG a O) ((m.b 0 O).lies1 bW O)) (eO O (λa=>aR fR aD O O (by decide) (by decide) O) (eO O (λa=>aO (c:=0) iZ O bC (cG a O) O) ?_));simp only[J];refine gV O (λa=>cT (cG a O) ((m.b 0 O).lies1 bW O)) (eO O (λa=>Km (cG a O) (cG a O) (cG a O) O) (eO O (λa=>aR fR aD O O (by decide) (by decide) O) (eO O (λa=>aO (c:=0) iZ O bC (cG a O) O) ?_)));simp only[J];refine gV O (λa=>cT (cG a O) ((m.b 1 O).lies1 bW O)) (eO O (λa=>aR fR aD O O (by decide) (by decide) O) (eO O (λa=>aO (c:=0) iZ O bC (cG a O) O) ?_));simp only[J];refine gV O (λa=>cT (cG a O) ((m.b 1 O).lies1 bW O)) (eO O (λa=>aR fR aD O O (by decide) (by decide) O) (eO O (λa=>aO (c:=0) iZ O bC (cG a O) O) ?_));simp only[J];refine gV O (λa=>cT (cG a O) ((m.b 1 O).lies1 bW O)) (eO O (λa=>Kl (cG a O) (cG a O) (cG a O) O) (eO O (λa=>oJ (cG a O) (cG a O)) (aA (qG O O O) ?_)));apply aL 10 [2,2] m;simp only[↓Z,cD,iJ,dN,ac,C,aa];apply R;omega;apply aQ 3 [2,0] m;simp only[↓Z,cD,iJ,dN,ac,C,aa];apply R;omega;refine aA (Km O O O O) ?_;apply aL 7 [1,1] m;simp only[↓Z,cD,iJ,dN,ac,C,aa];apply R;omega;apply aQ 2 [1,0] m;simp only[↓Z,iJ,dN,aa];refine aA (Kl O O O O) ?_;apply aL 2 [0,0] m;simp only[↓Z];refine eO O (λa=>aR fR aD O O (by decide) (by decide) O) (eO O (λa=>aO (c:=0) iZ O bC (cG a O) O) ?_);simp only[J];refine gV O (λa=>cT (cG a O) ((m.b 0 O).lies1 bW O)) (eO O (λa=>aR fR aD O O (by decide) (by decide) O) (eO O (λa=>aO (c:=0) iZ O bC (cG a O) O) ?_));simp only[J];refine gV O (λa=>cT (cG a O) ((m.b 0 O).lies1 bW O)) (eO O (λa=>aR fR aD O O (by decide) (by decide) O) (eO O (λa=>aO (c:=0) iZ O bC (cG a O) O) ?_));simp only[J];refine gV O (λa=>cT (cG a O) ((m.b 0 O).lies1 bW O)) (eO O (λa=>Km (cG a O) (cG a O) (cG a O) O) (eO O (λa=>aR fR aD O O (by decide) (by decide) O) (eO O (λa=>aO (c:=0) iZ O bC (cG a O) O) ?_)));simp only[J];refine gV O (λa=>cT (cG a O) ((m.b 1 O).lies1 bW O)) (eO O (λa=>aR fR aD O O (by decide) (by decide) O) (eO O (λa=>aO (c:=0) iZ O bC (cG a O) O) ?_));simp only[J];refine gV O (λa=>cT (cG a O) ((m.b 1 O).lies1 bW O)) (eO O (λa=>aR fR aD O O (by decide) (by decide) O) (eO O (λa=>aO (c:=0) iZ O bC (cG a O) O) ?_));simp only[J];refine gV O (λa=>cT (cG a O) ((m.b 1 O).lies1 bW O)) (eO O (λa=>Kl (cG a O) (cG a O) (cG a O) O) (eO O (λa=>oJ (cG a O) (cG a O)) (aA (qG O O O) ?_)));apply aL 10 [2,2] m;simp only[↓Z,cD,iS,dN,ac,C,aa];apply R;omega;apply aQ 3 [2,0] m;simp only[↓Z,cD,iS,dN,ac,C,aa];apply R;omega;refine aA (Km O O O O) ?_;apply aL 7 [1,1] m;simp only[↓Z,cD,iS,dN,ac,C,aa];apply R;omega;apply aQ 2 [1,0] m;simp only[↓Z,iS,dN,aa];refine aA (Kl O O O O) ?_;apply aL 2 [0,0] m;simp only[↓Z];refine eO O (λa=>aR fR aD O O (by decide) (by decide) O) (eO O (λa=>aO (c:=0) iZ O bC (cG a O) O) ?_);simp only[J];refine gV O (λa=>cT (cG a O) ((m.b 0 O).lies1 bW O)) (eO O (λa=>aR fR aD O O (by decide) (by decide) O) (eO O (λa=>aO (c:=0) iZ O bC (cG a O) O) ?_));simp only[J];refine gV O (λa=>cT (cG a O) ((m.b 0 O).lies1 bW O)) (eO O (λa=>aR fR aD O O (by decide) (by decide) O) (eO O (λa=>aO (c:=0) iZ O bC (cG a O) O) ?_));simp only[J];refine gV O (λa=>cT (cG a O) ((m.b 0 O).lies1 bW O)) (eO O (λa=>Km (cG a O) (cG a O) (cG a O) O) (eO O (λa=>aR fR aD O O (by decide) (by decide) O) (eO O (λa=>aO (c:=0) iZ O bC (cG a O) O) ?_)));simp only[J];refine gV O (λa=>cT (cG a O) ((m.b 1 O).lies1 bW O)) (eO O (λa=>aR fR aD O O (by decide) (by decide) O) (eO O (λa=>aO (c:=0) iZ O bC (cG a O) O) ?_));simp only[J];refine gV O (λa=>cT (cG a O) ((m.b 1 O).lies1 bW O)) (eO O (λa=>aR fR aD O O (by decide) (by decide) O) (eO O (λa=>aO (c:=0) iZ O bC (cG a O) O) ?_));simp only[J];refine gV O (λa=>cT (cG a O) ((m.b 1 O).lies1 bW O)) (eO O (λa=>Kl (cG a O) (cG a O) (cG a O) O) (eO O (λa=>oJ (cG a O) (cG a O)) (aA (qG O O O) ?_)));apply aL 11 [2,2] m;simp only[↓Z];refine λ_=>λ_=>?_;apply aQ 1 [] m;simp only[↓Z];refine aS O O ?_;try simp only[zD,zE]
 exact⟨_,O,m.ext,by simp only[arM,arN];rw[amg]⟩
def adg{ts:List T3}{d:Nat}{A:Option Addr}[q:IT t](w:an)(f:cI w A d ts)(E:d<=10000000):cX X9 229 [tr t,.slice A d cap] w (λv _=>∃b,v=.bool b):=by
 refine⟨bP func229 (by kernel_rfl),?_⟩;have m:=Mem.refl w;have Q:=f.len;haveI:IT (j t):=acP q
 go_enter func229,ntmps229
 apply gJ 8 [1,0] m;simp only[↓Z,fM];intro h u m;refine iE m O O (xA (t:=t)) 8 [0,0] ?_;simp only[↓Z,fM,aa];intro u m;refine bT [5] [4,6,7,10,11,12,13,14,15,16,17,18,19,20,21,22,23,24,25,26,27,28,29,30,31,32] (λn vs p=>∃(k:Nat),vs=[U (k:Int)]/\Mem w p [bI h [U (j t).a.x,U (j t).a.y,U (j t).a.z,U (j t).b.x,U (j t).b.y,U (j t).b.z,U (j t).c.x,U (j t).c.y,U (j t).c.z] 43]/\(k<=d)/\(n=d-k)) ?_ ?_
 .exact⟨_,0,O,m,bm _,O⟩
 intro n vs K o u C g
 obtain⟨k,rfl,m,G,I⟩:=o;simp only[zu,zF,zG];apply F 8 [0,0] m;simp only[↓Z,gN];refine aZ O ?_ ?_<;>intro L
 .obtain⟨x,J,r,a,l,B⟩:=f.get (i:=k) (by omega);subst l;haveI:IT (j x):=acP r;apply F 9 [0,1,0] m;simp only[↓Z,eY,ab,ae];refine⟨_,λu m=>((B.ext m.ext).lies eD bK),by omega,?_⟩;refine iE m O O (xA (t:=x)) 10 [0,1,2,0] ?_;simp only[↓Z,uE,fM,aa];refine λD=>⟨_,apg,?_⟩
  intro u m;refine gV O (λe=>cT O ((m.b 0 O).full eD bK)) (gV O (λe=>cT O ((m.b 1 O).full eD bK)) (Na m O O (λe=>by simp only[eo,df,fj,zA,zB,zC,zD,zE,e,lL];rfl) (λe=>adf (s:=j x) (t:=j t)) ?_));intro u m;refine aA (qG O O O) ?_;apply aL 1 [0] m;simp only[↓Z];refine dH O ?_ ?_<;>intro M
  .apply F 6 [0] m;simp only[↓Z];apply R;omega;exact g (d-(k+1)) _ _ (by omega) (by kernel_rfl) ⟨k+1,O,(m.sel [X7,N]),by omega,O⟩
  apply F 5 [1,2,0] m;simp only[↓Z,fM];refine iE m O O (afV (s:=j x) (t:=j t)) 6 [0] ?_;simp only[↓Z];intro u m;refine dH O ?_ ?_<;>intro P
  .apply F 5 [] m;simp only[↓Z];exact aS O O ⟨_,O,m.ext,_,O⟩
  apply F 7 [0] m;simp only[↓Z];apply R;omega;exact g (d-(k+1)) _ _ (by omega) (by kernel_rfl) ⟨k+1,O,(m.sel [X7,N]),by omega,O⟩
 obtain rfl:k=d:=by omega
 apply F 6 [] m;simp only[↓Z];exact aS O O ⟨_,O,m.ext,_,O⟩
theorem ajV{p:Y}(d:I3 q)(h:IT t):IT (Fl p q t):=⟨Kj d h.a,Kj d h.b,Kj d h.c⟩
def afW{ts L:List T3}{d M Q:Nat}{A o:Option Addr}{p:Y}[I3 p][E:I3 q](w:an)(g:cI w A d ts)(J:cI w o M L)(W:d<=10000000)(I:M<=10000000):cX X9 196 [.slice A d cap,.slice o M Q,pt p,pt q] w (λv _=>∃b,v=.bool b):=by
 refine⟨bP func196 (by kernel_rfl),?_⟩;have m:=Mem.refl w;have am:=g.len
 go_enter func196,ntmps196
 apply gJ 12 [0] m;simp only[↓Z];intro s B u m;refine bT [9] [8,10,11,12,16,17,18,19,20,21,22,23,24,25,26,27,28,29,30,31,32,33,34,35,36,37,38,39,40,41,42,43,44,45,46,47] (λn vs h=>∃(k:Nat),vs=[U (k:Int)]/\Mem w h [bI B [U q.x,U q.y,U q.z] 41,bI s [U p.x,U p.y,U p.z] 41]/\(k<=d)/\(n=d-k)) ?_ ?_
 .exact⟨_,0,O,m,bm _,O⟩
 intro n vs P f u S C
 obtain⟨k,rfl,m,X,hn⟩:=f;simp only[zu,zF,zG];apply F 8 [0,0] m;simp only[↓Z,gN];refine aZ O ?_ ?_<;>intro ad
 .obtain⟨t,K,j,a,e,l⟩:=g.get (i:=k) (by omega);subst e;haveI:=ajV (p:=p) E j;apply qW 15 [0,1,0] m;simp only[↓Z,eY,uE,fM,ab,ae,aa];refine⟨_,λu m=>((l.ext m.ext).lies eD bK),λG=>⟨by omega,?_⟩⟩;intro u m;apply aQ 2 [3,1,0] m;simp only[↓Z,aW,fM];refine iE m O O (Ma (t:=t) (p:=p)) 2 [0] ?_;simp only[↓Z];intro u m;refine gV O (λc=>cT O ((m.b 1 O).full aM aD)) (gV O (λc=>cT O ((m.b 0 O).full eD bK)) (Na m O O (λc=>by simp only[eo,df,fj,zA,zB,zC,zD,zE,c,lL];rfl) (λc=>Ma (t:=t) (p:=q)) ?_));intro u m;refine aA (qG O O O) ?_;apply aL 1 [0] m;simp only[↓Z];refine dH O ?_ ?_<;>intro af
  .apply F 6 [0] m;simp only[↓Z];apply R;omega;exact C (d-(k+1)) _ _ (by omega) (by kernel_rfl) ⟨k+1,O,(m.sel [X7,N,N]),by omega,O⟩
  apply F 6 [1,3,2,0] m;simp only[↓Z,fM,aW];refine iE m O O (Rz (t:=t) (p:=p) (q:=q)) 6 [0,1,0] ?_;simp only[↓Z,uE,fM,aa];intro V u m;refine iE m O O (Io (t:=Fl p q t)) 6 [0] ?_;simp only[↓Z];intro u m;refine gV O (λc=>cT O ((m.b 1 O).full eD bK)) (gV O (λc=>cT O ((m.b 0 O).full eD bK)) (Na m O O (λc=>by simp only[eo,df,fj,zA,zB,zC,zD,zE,c,lL];rfl) (λc=>aby (t:=t) (r:=Fl p q t)) ?_));intro u m;refine eO O (λc=>sS (cG c O) O) (aA (qG O O O) ?_);apply aL 1 [0] m;simp only[↓Z];refine dH O ?_ ?_<;>intro ag
  .apply F 5 [] m;simp only[↓Z];exact aS O O ⟨_,O,m.ext,_,O⟩
  apply F 7 [0] m;simp only[↓Z];apply R;omega;exact C (d-(k+1)) _ _ (by omega) (by kernel_rfl) ⟨k+1,O,(m.sel [X7,X7,N,N]),by omega,O⟩
 obtain rfl:d=k:=by omega
 apply F 7 [0] m;simp only[↓Z];refine bT [13] [8,14,15,48,49,50,51,52,53,54,55,56,57,58,59,60,61,62,63,64,65,66,67,68,69,70,71,72,73] (λn vs h=>∃(k:Nat),vs=[U (k:Int)]/\Mem w h [bI B [U q.x,U q.y,U q.z] 41,bI s [U p.x,U p.y,U p.z] 41]/\(k<=d)/\(n=d-k)) ?_ ?_
 .exact⟨_,0,O,m,bm _,O⟩
 intro n vs P f u T D
 obtain⟨k,rfl,m,ak,al⟩:=f;simp only[zu,zF,zG];apply F 8 [0,0] m;simp only[↓Z,gN];refine aZ O ?_ ?_<;>intro ah
 .obtain⟨t,K,j,a,e,l⟩:=g.get (i:=k) (by omega);subst e;haveI:=ajV (p:=p) E j;apply qW 15 [0,1,0] m;simp only[↓Z,eY,uE,fM,ab,ae,aa];refine⟨_,λu m=>((l.ext m.ext).lies eD bK),λG=>⟨by omega,?_⟩⟩;intro u m;apply aQ 2 [3,1,0] m;simp only[↓Z,aW,fM];refine iE m O O (Ma (t:=t) (p:=p)) 2 [0] ?_;simp only[↓Z];intro u m;refine gV O (λc=>cT O ((m.b 1 O).full aM aD)) (gV O (λc=>cT O ((m.b 0 O).full eD bK)) (Na m O O (λc=>by simp only[eo,df,fj,zA,zB,zC,zD,zE,c,lL];rfl) (λc=>Ma (t:=t) (p:=q)) ?_));intro u m;refine aA (qG O O O) ?_;apply aL 1 [0] m;simp only[↓Z];refine dH O ?_ ?_<;>intro ai
  .apply F 6 [0] m;simp only[↓Z];apply R;omega;exact D (d-(k+1)) _ _ (by omega) (by kernel_rfl) ⟨k+1,O,(m.sel [X7,N,N]),by omega,O⟩
  apply F 6 [1,3,2,0] m;simp only[↓Z,fM,aW];refine iE m O O (Rz (t:=t) (p:=p) (q:=q)) 1 [0] ?_;simp only[↓Z];intro u m;refine bY m O O (adg (t:=Fl p q t) _ (J.ext m.ext) I) ?_;rintro v u m ⟨ao,rfl⟩;apply aL 6 [0] m;simp only[↓Z];refine dH O ?_ ?_<;>intro aj
  .apply F 5 [] m;simp only[↓Z];exact aS O O ⟨_,O,m.ext,_,O⟩
  apply F 7 [0] m;simp only[↓Z];apply R;omega;exact D (d-(k+1)) _ _ (by omega) (by kernel_rfl) ⟨k+1,O,(m.sel [X7,N,N]),by omega,O⟩
 obtain rfl:d=k:=by omega
 apply F 6 [] m;simp only[↓Z];exact aS O O ⟨_,O,m.ext,_,O⟩
end
section
attribute [local irreducible] be c_ fS cE cP Code.wp
def Zt{P:Program}{f:FuncId}{args:List am}{w:an}{v v':am}(h:cX P f args w λu _=>u=v)(e:v=v'):cX P f args w λu _=>u=v':=e▸h
end
section
attribute [local irreducible] be c_ fS cE cP Code.wp
attribute [local congr] fE fF eN fD
variable{ts:List T3}{vi cap k g n:Nat}{ps:List Y}{u:Y}{w0 w:an}{E:ba}{want:Int}
def afX{A:Option Addr}{p q:Y}[I3 p][P:I3 q](w:an)(a:cI w A vi ts)(hN:vi<=1000000):cX X9 146 [.slice A vi cap,pt p,pt q] w (λv _=>∃b,v=.bool b):=by
 refine⟨bP func146 (by kernel_rfl),?_⟩;have m:=Mem.refl w;have ar:=a.len;have ap:=Co ts p;have aq:=Co ts q;have i:∀t∈Qj ts p q,IT t:=nK (Za P a.it);have am:=Yp p q ts;have ay:=aa9 (p:=p) (q:=q) ts
 go_enter func146,ntmps146
 apply gJ 10 [2,0] m;simp only[↓Z,aW];intro B C u m;refine bB O O (Sa (p:=p) _ (a.ext m.ext) (by omega)) ?_;rintro v u c ⟨j,r,n7,L,rfl,d⟩;replace m:=m.newO c d;subst L;apply aL 4 [] m;simp only[↓Z];by_cases f:q∈mL ts p
 .refine gc ?_;refine mh m [N,N,N] [(0,N),(1,N),(2,X7),(3,N),(4,N),(5,N),(7,N),(6,X7),(8,X7),(9,N)] aB (by kernel_rfl) (bR (λ_ _ _ _ _ h=>h)) (ol:=?_) ?e ?_
  case e=>simp only[zw,zQ,zR];try rfl
  intro u m;refine tL 2 [2] ?_;simp only[↓Z,aW];refine bX (bY m O O (Zt (oW (p:=q) _ ((m.o 0 O).lat (enc:=cM) (λ_=>rfl) (by decide)) (by omega)) (by rw[Y5 f])) ?_);rintro v u m rfl;refine S ⟨m,?_⟩;refine aV (sT O) (aV aF (vT O (aV aF ?_)));simp only[J];refine vT O (eK O (λu m=>((m.b 2 O).full aM aD)) ?_);simp only[J];refine bX (bQ O (bB O O (Zq _ (a.ext m.ext) (by omega)) ?_));rintro v u c ⟨bs,⟨T,W,n3,K,rfl,d⟩,af⟩;replace m:=m.newO c d;subst K;refine S ⟨m.sel [X7,N,N,N],?_⟩;refine bX (bQ O ?_);simp only[J];refine bY m O O (oW (p:=p) _ ((m.o 0 O).lat (enc:=cM) (λ_=>rfl) (by decide)) (by omega)) ?_;rintro v u m rfl;refine S ⟨m.sel [X7,N,N,N],?_⟩;refine aV (gD O) (aT (gc ?_));simp only[J];refine dH O ?_ ?_<;>intro ag
  .apply F 5 [] m;simp only[↓Z];exact aS O O ⟨_,O,m.ext,_,O⟩
  apply F 5 [3,0] m;simp only[↓Z,aW];refine bB O O (Sa (p:=q) _ (a.ext m.ext) (by omega)) ?_;rintro v u c ⟨l,s,n8,M,rfl,d⟩;replace m:=m.newO c d;subst M;apply aL 12 [0] m;simp only[↓Z];refine bT [9,10] [30,31,32,33,34,35,36,37,38,39,40,41,42,43] (λn vs G=>∃(k cq:Nat),vs=[U (cq:Int),U (k:Int)]/\Mem w G [oI 41 3 l (mL ts q).length s ((mL ts q).flatMap cM),oI 41 3 j (mL ts p).length r ((mL ts p).flatMap cM),bI C [U q.x,U q.y,U q.z] 41,bI B [U p.x,U p.y,U p.z] 41]/\(cq<=k)/\(k<=(mL ts p).length)/\(n=(mL ts p).length-k)) ?_ ?_
  .exact⟨_,0,0,O,(m.sel [N,X7,N,N,N]),bg _,bm _,O⟩
  intro n vs wr D u V g
  obtain⟨k,cq,rfl,m,ao,hk,hn⟩:=D;simp only[zu,zF,zG];apply F 8 [0,0] m;simp only[↓Z,gZ];refine aZ O ?_ ?_<;>intro ai
  .have I:k<(mL ts p).length:=by omega
   obtain⟨x,E⟩:∃x,(mL ts p)[k]? = H x:=⟨_,ah I⟩
   obtain⟨X,rfl⟩:=(m.o 1 rfl).some (by omega);apply F 10 [0,0,0] m;simp only[↓Z,gK,ab,ae];refine⟨_,λu m=>(lA (v:=pt x) ((((m.o 1 O).lat (enc:=cM) (λ_=>rfl) (by decide)).at E).lies aM aD)),by omega,?_⟩;refine bY m O O (oW (p:=x) _ ((m.o 0 O).lat (enc:=cM) (λ_=>rfl) (by decide)) (by omega)) ?_;rintro v u m rfl;apply aL 1 [0] m;simp only[↓Z];refine dH O ?_ ?_<;>intro aj
   .apply F 11 [0] m;simp only[↓Z];apply R;omega;exact g ((mL ts p).length-(k+1)) _ _ (by omega) (by kernel_rfl) ⟨k+1,cq+1,O,m,by omega,by omega,O⟩
   apply F 7 [0] m;simp only[↓Z];apply R;omega;exact g ((mL ts p).length-(k+1)) _ _ (by omega) (by kernel_rfl) ⟨k+1,cq,O,m,by omega,by omega,O⟩
  obtain rfl:k=(mL ts p).length:=by omega
  apply F 7 [0,0] m;simp only[↓Z];refine aZ O ?_ ?_<;>intro ak
  .apply F 5 [] m;simp only[↓Z];exact aS O O ⟨_,O,m.ext,_,O⟩
  apply F 6 [4,3,0] m;simp only[↓Z,aW];refine bB O O (Mb (p:=p) (q:=q) _ (a.ext m.ext) (by omega)) ?_;rintro v u c ⟨aa,ad,au,Q,rfl,d⟩;replace m:=m.newO c d;subst Q;apply aL 5 [0] m;simp only[↓Z];refine bY m O O (ajR _ ((m.o 0 O).tris i) (by omega)) ?_;rintro v u m ⟨av,rfl⟩;apply aL 7 [5,4,0] m;simp only[↓Z,aW];refine bY m O O (ajS (p:=p) (q:=q) _ (a.ext m.ext) (by omega)) ?_;rintro v u m ⟨aw,rfl⟩;apply aL 9 [2,0] m;simp only[↓Z];refine λ_=>?_;refine dH O ?_ ?_<;>intro al
  .apply F 5 [] m;simp only[↓Z];exact aS O O ⟨_,O,m.ext,_,O⟩
  apply F 7 [5,4,0] m;simp only[↓Z,aW];refine bY m O O (afW (p:=p) (q:=q) _ (a.ext m.ext) ((m.o 0 O).tris i) (by omega) (by omega)) ?_;rintro v u m ⟨ax,rfl⟩;apply aL 3 [] m;simp only[↓Z];exact aS O O ⟨_,O,m.ext,_,O⟩
 refine gc ?_;refine mh m [N,N,N] [(0,N),(1,N),(2,X7),(3,N),(4,N),(5,N),(7,N),(6,X7),(8,X7),(9,N)] aB (by kernel_rfl) (bR (λ_ _ _ _ _ h=>h)) (ol:=?_) ?e ?_
 case e=>simp only[zw,zQ,zR];try rfl
 intro u m;refine tL 2 [2] ?_;simp only[↓Z,aW];refine bX (bY m O O (Zt (oW (p:=q) _ ((m.o 0 O).lat (enc:=cM) (λ_=>rfl) (by decide)) (by omega)) (by rw[Y6 f])) ?_);rintro v u m rfl;refine S ⟨m,?_⟩;refine aV (sT O) (aV aF (Wi O ?_));simp only[J];refine Wi O (bX (dB O (S ?_)));refine⟨m,?_⟩;refine bX (dB O (S ?_));refine⟨m,?_⟩;refine aV (dT O) ?_;simp only[J];refine aT ?_;apply aQ 6 [] m;simp only[↓Z];exact aS O O ⟨_,O,m.ext,_,O⟩
def ajW{Q:Y->List Int}(h:∀x,(Q x).length=10)(u v x:Y):(Yq Q u v x).length=10:=by
 unfold Yq;split
 .exact kG (h u) (h v)
 exact h x
def amh{Q:Y->List Int}{B:Nat}(h:∀x,Ka B (Q x))(u v x:Y):Ka (B+1) (Yq Q u v x):=by
 unfold Yq;split
 .exact Ni (h u) (h v)
 exact (h x).mono (ov B)
def ap8{Q:Y->List Int}{v:Y}(a:∀x,(Q x).length=10)(c:ps.Nodup)(b:ps[k]? = H v):over (ps.flatMap (yV Q)) (k*23+3) (qC (Cd (Q u) (Q v)))=ps.flatMap (yV (Yq Q u v)):=al3 a (kG (a u) (a v)) c b
def abz{P:Program}{S:List (Option Nat)}{Q:Y->List Int}{x:Y}{T:ba}(h:Ow w0 w S E 23 (H ⟨g,0,X8⟩) n cap (ps.flatMap (yV Q)))(f:ps[k]? = H x)(b:∀x,(Q x).length=10)(d:fG P T N)(e:dW P T 20):eZ P w T (⟨g,k*23+3,X8⟩:Addr) (qV (Q x)):=by
 have a:=(((h.lat (enc:=yV Q) (Ri b) (by decide)).at f).sub 3)
 rw[cA,cA,ae] at a;have c:iX w ⟨g,k*23+3,X8⟩ (qC (Q x)):=a;exact c.lies d (by rw[sP,b];exact e)
def abA(l:List T3)(x:Y):(Am l x).length=10:=by have:=yS (ts:=l) (p:=x) l.length (bg _);rwa [ga] at this
def ami{l:List T3}(h:∀t∈l,IT t)(x:Y):Ka (602+l.length) (Am l x):=by have:=Zf (p:=x) h l.length (bg _);rwa [ga] at this
def amj  : ∀u∈ps.flatMap kS,u.oneCell'=N:=λu a=>by
 obtain⟨x,_,h⟩:=ff.1 a;simp only[kS,List.mem_cons,List.not_mem_nil,Y3] at h;rcases h with rfl|rfl|rfl<;>rfl
def abB{S:List (Option Nat)}{c:Iv}{cs:List Iv}(h:Ow w0 w S E 8 (H ⟨g,0,X8⟩) n cap (cs.flatMap rF))(a:cs[k]? = H c):iX w ⟨g,k*8,X8⟩ (rF c):=by
 have:=(h.lat (enc:=rF) (λ_=>rfl) (by decide)).at a;rwa [cA,ae] at this
theorem Vu{l:List T3}{v:Y}(d:nbB l u v=N):(Qj l u v).length<l.length:=by
 obtain⟨h,c⟩:=ah1.1 d;obtain⟨t,g,a,b⟩:=ahO.1 c;unfold Qj;rw[jZ];unfold Dy;have f:(Fl u v t).nd=X7:=by
  rw[aqS];rw[rJ] at a b;unfold Fl T3.mapP Au;simp only
  grind
 have e:Fl u v t∈l.map (Fl u v):=fg g;have:=List.length_filter_lt_length_iff_exists (p:=T3.nd) (l:=l.map (Fl u v)) |>.2 ⟨_,e,by rw[f];exact jw⟩
 rwa [dy] at this
structure ajX(L ps:List Y)(vi:Nat)(l:List T3)(Q:Y->List Int)(xs:List Y):Prop where
 sub:∀x∈pQ l,x∈ps
 ql:∀x,(Q x).length=10
 qb:∀x,Ka (602+2*vi-l.length) (Q x)
 it:∀t∈l,IT t
 le:l.length<=vi
 xl:xs.length=ps.length
 xi:∀x∈xs,I3 x
def ajX.step{L:List Y}{l:List T3}{Q:Y->List Int}{xs:List Y}{v:Y}(h:ajX L ps vi l Q xs)(c:nbB l u v=N):ajX L ps vi (Qj l u v) (Yq Q u v) (xs.map (Au u v)):=by
 have i:=Vu c;have b:=acZ c;have d:=yT h.it b.2;have g:=h.le;refine⟨λx a=>(ah2 a).elim (λe=>e▸h.sub v b.2) (h.sub x),ajW h.ql _ _,λx=>(amh h.qb _ _ x).mono (by omega),nK (Za d h.it),by omega,by rw[dy];exact h.xl,λx a=>?_⟩;obtain⟨y,f,rfl⟩:=du.1 a;unfold Au;split
 .exact d
 exact h.xi y f
def Tn{A:Option Addr}(w:an)(hT:cI w A vi ts)(hN:vi<=2000)(hw:0<=want):cX X9 96 [.slice A vi cap,U want] w (λv w'=>∃g n1 c1 A2 n2 c2,∃(ls:List T3)(ms:List E3),v=.tuple #[.slice g n1 c1,.slice A2 n2 c2]/\n1=ls.length/\n2=ms.length/\Mem w w' [oI 176 6 A2 n2 c2 (ms.flatMap dE),oI 43 9 g n1 c1 (ls.flatMap aP)]/\(∀t∈ls,IT t)/\ls.length<=ts.length/\ms.length<=6000/\∀e∈ms,I3 e.1/\I3 e.2):=by
 refine⟨bP func96 (by kernel_rfl),?_⟩;have m:=Mem.refl w;have bZ:=hT.len;have bN:=jZ ts;have E:∀t∈bS ts,IT t:=nK hT.it;have bA:(bS ts).length<=2000:=by omega
 have bW:=uX (bS ts);have bu:=Tk (bS ts)
 go_enter func96,ntmps96
 apply iD 8 [0] m;simp only[↓Z];refine bB O O (uH _ (hT.ext m.ext) (by omega)) ?_;rintro v u d ⟨g,C,n1,bq,rfl,f⟩;replace m:=m.newO d f;obtain rfl:n1=(bS ts).length:=by rw[bq,jZ]
 apply aL 6 [0] m;simp only[↓Z];refine bY m O O (yR _ ((m.o 0 O).tris E) (by omega)) ?_;rintro v u m ⟨z0,rfl⟩;apply aL 2 [0,0] m;simp only[↓Z];refine aZ O ?_ ?_<;>intro bE
 .apply F 6 [] m;simp only[↓Z];replace m:=m.nilO 176 6;apply aQ 1 [] m;simp only[↓Z];exact kN rfl rfl rfl ⟨_,rfl,m.ext,_,_,_,_,_,_,bS ts,[],rfl,rfl,rfl,m.sel [N,N],E,by omega,bm _,λe h=>by cases h⟩
 apply F 3 [0] m;simp only[↓Z];refine aA aI ?_;replace m:=m.nilO 224 23;apply aL 4 [0] m;simp only[↓Z];refine bB O O (Kg _ ((m.o 1 O).tris E) (by omega)) ?_;rintro v u d ⟨A7,c7,n7,br,rfl,f⟩;replace m:=m.newO d f;subst br;apply aL 8 [0] m;simp only[↓Z];refine bT [6,8] [28,29,30,31,32,33,34,35,36,37,38,39,40,41,42,43,44,45,46,47] (λn vs B=>∃(k:Nat)(A6:Option Addr)(af:Nat),vs=[.slice A6 k af,U (k:Int)]/\Mem w B [oI 41 3 A7 (bM (bS ts)).length c7 ((bM (bS ts)).flatMap kS),oI 224 23 A6 k af (((bM (bS ts)).take k).flatMap (yV (Am (bS ts)))),oI 43 9 g (bS ts).length C ((bS ts).flatMap aP)]/\(k<=(bM (bS ts)).length)/\(n=(bM (bS ts)).length-k)) ?_ ?_
 .exact⟨_,0,_,_,O,m,bm _,O⟩
 intro n vs wr r u K1 bd
 obtain⟨k,A6,af,rfl,m,hk,hn⟩:=r;simp only[zu,zF,zG];apply F 8 [0,0] m;simp only[↓Z,gZ];refine aZ O ?_ ?_<;>intro bF
 .obtain⟨p,s⟩:∃p,(bM (bS ts))[k]? = H p:=⟨_,ah (by omega)⟩
  obtain⟨g7,rfl⟩:=(m.o 0 rfl).some (by omega);obtain⟨a0,M,P,a3,a4,a5,T,V,W,a9,a6⟩:=ajc (abA (bS ts) p);apply F 3 [0] m;simp only[↓Z];refine mh m [N,X7,N] [(0,N),(1,N),(2,N),(3,N),(5,N),(6,N),(7,N),(8,N),(4,N),(9,N),(10,X7),(11,N),(12,X7),(13,X7),(14,N)] aB (by kernel_rfl) (bR (λ_ _ _ _ _ h=>h)) (ol:=?_) ?aj ?_
  case aj=>simp only[zw,zQ,zR];try rfl
  intro u m;refine tL 10 [0,0,0,0] ?_;simp only[↓Z,↓iH,gK,ab,ae];refine⟨_,λu m=>(show eZ _ _ _ _ (pt p) from (mV (m.o 0 O) s).lies aM aD),_,λu m=>(show eZ _ _ _ _ (pt p) from (mV (m.o 0 O) s).lies aM aD),by omega,?_⟩;refine bX (bY m O O ((Zt (ajO (p:=p) _ ((m.o 2 O).tris E) (by omega)) (show qV (Am (bS ts) p)=.agg #[.bool (cQ a0),.string (dQ a0),.bool (cQ M),.string (dQ M),.bool (cQ P),.string (dQ P),.bool (cQ a3),.string (dQ a3),.bool (cQ a4),.string (dQ a4),.bool (cQ a5),.string (dQ a5),.bool (cQ T),.string (dQ T),.bool (cQ V),.string (dQ V),.bool (cQ W),.string (dQ W),.bool (cQ a9),.string (dQ a9)] by rw[a6];rfl))) ?_);rintro v u m rfl;refine S ⟨m.sel [N,X7,N],?_⟩;refine aV (Mj O O) (bX ?_);simp only[J];refine acv O ?_;intro u g1 d f k_;replace m:=m.newB d f k_;refine S ⟨m.sel [X7,N,X7,N],?_⟩;refine bX ?_;simp only[J];refine bJ m 2 O O Jk ak5 O (by decide) O O O (m.b 0 O).rowsO (fU O) (by omega) (by omega) ?_;intro A6 af u m;simp only[zF,zG] at m;rw[show ((bM (bS ts)).take k).flatMap (yV (Am (bS ts)))++_=((bM (bS ts)).take (k+1)).flatMap (yV (Am (bS ts))) by rw[cZ s,au];show _=_++((cM p++qC (Am (bS ts) p))++[]);rw[a6];rfl] at m;refine S ⟨m.sel [X7,N,X7,N],?_⟩;refine aV aI (aT ?_);apply aQ 6 [0] m;simp only[↓Z];apply R;omega;exact bd ((bM (bS ts)).length-(k+1)) _ _ (by omega) (by kernel_rfl) ⟨k+1,_,_,O,(m.sel [X7,N,N,N]),by omega,O⟩
 obtain rfl:k=(bM (bS ts)).length:=by omega
 rw[ap (bg _)] at m;apply F 4 [0] m;simp only[↓Z];refine bB O O (Zq _ ((m.o 2 O).tris E) (by omega)) ?_;rintro v u d ⟨bs,⟨A9,c9,n9,bt,rfl,f⟩,bC⟩;replace m:=m.newO d f;subst bt;apply aL 4 [0] m;simp only[↓Z];refine wK eL (c:=3) (by kernel_rfl)  ?_;intro u g1 d f k_;replace m:=m.newB d f k_;simp only[J];replace m:=m.own 0 O (n:=0) (c:=3) O (eU O);simp only[zG] at m;apply aL 1 [0] m;simp only[↓Z];refine bJ m 0 O O eL mB O (by decide) O O (m.o 2 O).own.1 (m.o 2 O).row amj (by omega) (by omega) ?_;intro ag al u m;simp only[zF,zG] at m;simp only[ae,cv] at m ⊢;apply aL 4 [0] m;simp only[↓Z];refine bT [0] [11,12,13,14,15,16,17,53,54,55,56,57,58,59,60,61,62,63,64,65,66,67,68,69,70,71,72,73,74,75,76,77,78,79,80,81,82,83,84,85,86,87,88,89,90,91,92,93,94,95,96,97,98,99,100,101,102,103,104,105,106,107,108,109,110,111,112,113,114,115,116,117,118,119,120,121,122,123,124,125,126,127,128] (λn vs B=>∃(l:List T3)(Q:Y->List Int)(xs:List Y)(g:Option Addr)(C:Nat),vs=[.slice g l.length C]/\Mem w B [oI 41 3 ag (bM (bS ts)).length al (xs.flatMap kS),oI 41 3 A9 bs.length c9 (bs.flatMap cM),oI 41 3 A7 (bM (bS ts)).length c7 ((bM (bS ts)).flatMap kS),oI 224 23 A6 (bM (bS ts)).length af ((bM (bS ts)).flatMap (yV Q)),oI 43 9 g l.length C (l.flatMap aP)]/\(ajX [] (bM (bS ts)) (bS ts).length l Q xs)/\(n=l.length)) ?_ ?_
 .exact⟨_,(bS ts),(Am (bS ts)),(bM (bS ts)),_,_,O,m,⟨λx h=>rX.2 h,abA _,λx=>(ami E x).mono (by omega),E,bg _,O,λx hx=>yT E (rX.1 hx)⟩,O⟩
 intro n vs wr r u K2 be
 obtain⟨l,Q,xs,g,C,rfl,m,a,hn⟩:=r;have bO:=a.le;simp only[zu,zF,zG];apply F 8 [0,0] m;simp only[↓Z,gN];refine aZ O ?_ ?_<;>intro bK
 .apply F 7 [0] m;simp only[↓Z];refine bB O O (afU (Q:=Q) (ps:=(bM (bS ts))) (bs:=bs) _ ((m.o 4 O).tris a.it) (by omega) ((m.o 3 O).lat (enc:=yV Q) (Ri a.ql) (by decide)) (by omega) ((m.o 1 O).lat (enc:=cM) (λ_=>rfl) (by decide)) (by omega) a.sub a.ql (λx=>(a.qb x).mono (by omega))) ?_;rintro v u d ⟨cs,⟨a8,ay,b0,bw,rfl,f⟩,bk,b2⟩;replace m:=m.newO d f;subst bw;apply aL 12 [0] m;simp only[↓Z];refine bT [0,12,13] [14,15,16,17,61,62,63,64,65,66,67,68,69,70,71,72,73,74,75,76,77,78,79,80,81,82,83,84,85,86,87,88,89,90,91,92,93,94,95,96,97,98,99,100,101,102,103,104,105,106,107,108,109,110,111,112,113,114,115,116,117,118,119,120,121,122,123,124,125,126] (λn vs B=>∃(k:Nat)(bo:Bool)(i:List T3)(G:Y->List Int)(I:List Y)(g:Option Addr)(C:Nat),vs=[.slice g i.length C,.bool bo,U (k:Int)]/\Mem w B [oI 228 8 a8 cs.length ay (cs.flatMap rF),oI 41 3 ag (bM (bS ts)).length al (I.flatMap kS),oI 41 3 A9 bs.length c9 (bs.flatMap cM),oI 41 3 A7 (bM (bS ts)).length c7 ((bM (bS ts)).flatMap kS),oI 224 23 A6 (bM (bS ts)).length af ((bM (bS ts)).flatMap (yV G)),oI 43 9 g i.length C (i.flatMap aP)]/\((bo=X7/\i=l/\G=Q/\I=xs)\/(bo=N/\i.length<l.length))/\(ajX [] (bM (bS ts)) (bS ts).length i G I)/\(k<=cs.length)/\(n=cs.length-k)) ?_ ?_
  .exact⟨_,0,X7,l,Q,xs,_,_,O,m,(.inl ⟨O,O,O,O⟩),a,bm _,O⟩
  intro n vs wr r u K3 aE
  obtain⟨k,bo,i,G,I,g,C,rfl,m,hM,bf,hk,bU⟩:=r;simp only[zu,zF,zG];apply F 10 [0,3,0] m;simp only[↓Z,↓iH,aio];refine λ_=>?_;refine dH O ?_ ?_<;>intro bi
  .obtain⟨bl,rfl⟩:k<cs.length/\bo=X7:=by cases bo<;>simp at bi ⊢<;>omega
   obtain⟨e1,e2,e3⟩:i=l/\G=Q/\I=xs:=hM.elim (λh=>h.2) λh=>(by cases h.1)
   subst i;subst G;subst I;obtain⟨c,hc⟩:∃c,cs[k]? = H c:=⟨_,ah bl⟩
   obtain⟨bc,rfl⟩:=(m.o 0 rfl).some (by omega);have ar:=(bk c (ak hc)).1;have am:=acZ ar;haveI:=yT a.it am.1;haveI:=yT a.it am.2;have a1:=a.sub _ am.1;have a2:=a.sub _ am.2;have aX:=Zr a1;have ao:=Zr a2;have b3:=(av.1 aX).1;have b4:=(av.1 ao).1;have b5:=a.le;apply qW 11 [0,0] m;simp only[↓Z,↓iH,Qp,Qr,gC,ab,ae,aa];refine⟨_,λu m=>(show eZ _ _ _ _ (pt c.u) from ((abB (m.o 0 O) hc).take 3).lies aM aD),λg2=>⟨by omega,?_⟩⟩;intro u m;apply uR 9 [0,0,0] m;simp only[↓Z,↓iH,aW,Qp,aa2,aa,ab,ae];refine⟨_,λu m=>(show eZ _ _ _ _ (pt c.v) from (((abB (m.o 1 O) hc).sub 3).take 3).lies aM aD),by omega,?_⟩;intro u m;apply uR 7 [0,2] m;simp only[↓Z,↓iH,gC,aW,aa];intro g3 u m;apply aQ 1 [1,0] m;simp only[↓Z,↓iH,aW];refine bY m O O (afX (p:=c.u) (q:=c.v) _ ((m.o 7 O).tris a.it) (by omega)) ?_;rintro v u m ⟨bp,rfl⟩;apply aL 8 [0] m;simp only[↓Z];refine dH O ?_ ?_<;>intro aS
   .obtain rfl:bp=X7:=by simpa using aS
    apply F 6 [0] m;simp only[↓Z];apply R;omega;exact aE (cs.length-(k+1)) _ _ (by omega) (by kernel_rfl) ⟨k+1,X7,l,Q,xs,_,_,O,(m.sel [X7,X7,N,N,N,N,N,N]),(.inl ⟨O,O,O,O⟩),a,(by omega),O⟩
   obtain rfl:bp=N:=by simpa using aS
   obtain⟨g6,rfl⟩:=(m.o 6 rfl).some (by omega);obtain⟨a0,M,P,a3,a4,a5,T,V,W,a9,a7⟩:=ajc (kG (a.ql c.u) (a.ql c.v));apply F 6 [2,1,0] m;simp only[↓Z,↓iH,aW];refine bB O O (Mb (p:=c.u) (q:=c.v) _ ((m.o 7 O).tris a.it) (by omega)) ?_;rintro v u d ⟨ba,bb,b1,bx,rfl,f⟩;replace m:=m.newO d f;subst bx;refine aA aI ?_;simp only[J];replace m:=(m.pull 0 O).mv 7 O;simp only[bG,bH,zF,zG] at m;apply aL 5 [1,0] m;simp only[↓Z,↓iH,aW];refine bY m O O (Nq (p:=c.v) (Q:=Q) _ ((m.o 6 O).lat (enc:=yV Q) (Ri a.ql) (by decide)) (by omega) a2) ?_;rintro v u m rfl;apply aL 3 [0] m;simp only[↓Z];refine vL m [N,N,N,N,N,N,N,N] [17] (.take 0 (.take 1 (.take 2 (.take 3 (.take 4 (.take 9 (.take 10 (.take 11 (.take 12 (.take 13 (.one 5 (.take 6 (.take 7 (.take 8 (.one 14 (.take 15 (.take 16 (.one 17 .nil)))))))))))))))))) aB (by kernel_rfl) (bR (λ_ _ _ _ _ h=>h)) ?_;intro u m;refine D (by simp only[zw];rfl) (aV aF (aT (D (by simp only[zw];rfl) (aV aF (aT (D (by simp only[zw];rfl) (aV aF (aT (D (by simp only[zw];rfl) (aV aF ?_))))))))));simp only[J];refine aT (D (by simp only[zw];rfl) (eK rfl (λu m=>((m.b 1 rfl).full aM aD)) ?_));simp only[J];refine aT (D (by simp only[zw];rfl) (aV aF (aT (D (by simp only[zw];rfl) (aV aF (aT (D (by simp only[zw];rfl) ?_)))))));simp only[J];refine aV (aN Jk Dg O O (by omega) (by omega) (Eu (ab _))) (aT (D (by simp only[zw];rfl) (aV (aO (c:=19) underlying224 rfl fC rfl rfl) (aT (D (by simp only[zw];rfl) ?_)))));simp only[J];refine eK O (λu m=>(abz (m.o 6 O) ao a.ql pA fC)) ?_;simp only[J];refine aT (jJ (by simp only[zw];rfl) ?_);refine bY m O O (Nq (p:=c.u) (Q:=Q) _ ((m.o 6 O).lat (enc:=yV Q) (Ri a.ql) (by decide)) (by omega) a1) ?_;rintro v u m rfl;refine S ⟨λ_=>m,?_⟩;refine D (by simp only[zw];rfl) ?_;simp only[J];refine aV (aN Jk Dg O O (by omega) (by omega) (Eu (ab _))) (aT (D (by simp only[zw];rfl) (aV (aO (c:=19) underlying224 rfl fC rfl rfl) (aT (D (by simp only[zw];rfl) ?_)))));simp only[J];refine eK O (λu m=>(abz (m.o 6 O) aX a.ql pA fC)) ?_;simp only[J];refine aT (jJ (by simp only[zw];rfl) ?_);refine eV m O O ((show dO X9 149 [qV (Q c.u),qV (Q c.v)] (.agg #[.bool (cQ a0),.string (dQ a0),.bool (cQ M),.string (dQ M),.bool (cQ P),.string (dQ P),.bool (cQ a3),.string (dQ a3),.bool (cQ a4),.string (dQ a4),.bool (cQ a5),.string (dQ a5),.bool (cQ T),.string (dQ T),.bool (cQ V),.string (dQ V),.bool (cQ W),.string (dQ W),.bool (cQ a9),.string (dQ a9)]) from (show qV (Cd (Q c.u) (Q c.v))=.agg #[.bool (cQ a0),.string (dQ a0),.bool (cQ M),.string (dQ M),.bool (cQ P),.string (dQ P),.bool (cQ a3),.string (dQ a3),.bool (cQ a4),.string (dQ a4),.bool (cQ a5),.string (dQ a5),.bool (cQ T),.string (dQ T),.bool (cQ V),.string (dQ V),.bool (cQ W),.string (dQ W),.bool (cQ a9),.string (dQ a9)] by rw[a7];rfl)▸Ry (a.ql c.u) (a.ql c.v) (a.qb c.u) (a.qb c.v) (by omega))) ?_;intro u m;refine S ⟨λ_=>m,?_⟩;refine D (by simp only[zw];rfl) ?_;simp only[J];refine aV (aN Jk Dg O O (by omega) (by omega) (Eu (ab _))) (aT (D (by simp only[zw];rfl) (aV (aO (c:=19) underlying224 rfl fC rfl rfl) (aT (jJ (by simp only[zw];rfl) ?_)))));simp only[J];refine kR m 6 O O O fC (by simp;omega) rfl ?_;intro u m;simp only[zF,zG] at m;rw[show over ((bM (bS ts)).flatMap (yV Q)) (fnd (bM (bS ts)) c.v*23+_) _=(bM (bS ts)).flatMap (yV (Yq Q c.u c.v)) from (by have h:=ap8 (u:=c.u) a.ql bu ao;rw[a7] at h;exact h)] at m;refine S ⟨λh=>Y0 (by decide) h,?_⟩;refine vM ?_;apply aQ 5 [0] m;simp only[↓Z];refine bT [17] [111,112,113,114,115,116,117,118,119,120,121,122,123,124,125,126] (λn vs B=>∃(j:Nat),vs=[U (j:Int)]/\Mem w B [bI g3 [U c.v.x,U c.v.y,U c.v.z] 41,bI g2 [U c.u.x,U c.u.y,U c.u.z] 41,oI 228 8 (H ⟨bc,0,X8⟩) cs.length ay (cs.flatMap rF),oI 41 3 ag (bM (bS ts)).length al ((toJ c.u c.v xs j).flatMap kS),oI 41 3 A9 bs.length c9 (bs.flatMap cM),oI 41 3 A7 (bM (bS ts)).length c7 ((bM (bS ts)).flatMap kS),oI 224 23 (H ⟨g6,0,X8⟩) (bM (bS ts)).length af ((bM (bS ts)).flatMap (yV (Yq Q c.u c.v))),oI 43 9 ba (Qj l c.u c.v).length bb ((Qj l c.u c.v).flatMap aP)]/\(j<=(bM (bS ts)).length)/\(n=(bM (bS ts)).length-j)) ?_ ?_
   .exact⟨_,0,O,m,bm _,O⟩
   intro n vs wr r u K4 aJ
   obtain⟨j,rfl,m,hj,bV⟩:=r;simp only[zu,zF,zG];apply F 8 [0,0] m;simp only[↓Z,gZ];refine aZ O ?_ ?_<;>intro bL
   .obtain⟨x,hx⟩:∃x,xs[j]? = H x:=⟨_,ah (by rw[a.xl];omega)⟩
    obtain⟨az,rfl⟩:=(m.o 3 rfl).some (by omega);have bv:=aja (u:=c.u) (v:=c.v) hx;apply F 4 [0] m;simp only[↓Z];refine mq m aB (by kernel_rfl) (cW 6 [0,0,2] ?_);simp only[↓Z,↓iH,gK,aW,ab,ae];refine⟨_,λu m=>(show eZ _ _ _ _ (pt x) from (mV (m.o 3 O) bv).lies aM aD),_,fX,by omega,?_⟩;refine bD ?_;intro u m;refine gc (aZ O (λai=>?_) (λai=>?_))
    .have aw:x=c.u:=Y.eq ai.1 ai.2.1 ai.2.2;apply F 5 [1,0] m;simp only[↓Z,↓iH,aW,gK,ab,ae];apply R;omega;refine kR m 3 O O O aD (by simp;omega) rfl ?_;intro u m;simp only[zF,zG] at m;rw[show over ((toJ c.u c.v xs j).flatMap kS) (j*3) _=(toJ c.u c.v xs (j+1)).flatMap kS by rw[abi hx,aw,amW];exact yU (enc:=kS) (c:=3) (λ_=>rfl) (by rw[aeo];exact (av.1 hx).1)] at m;apply aL 7 [0] m;simp only[↓Z];apply R;omega;exact aJ ((bM (bS ts)).length-(j+1)) _ _ (by omega) (by kernel_rfl) ⟨j+1,O,m,(by omega),O⟩
    have aw:x≠c.u:=λh=>ai (by rw[h];exact⟨O,O,O⟩);rw[<-ajb (v:=c.v) hx aw] at m;apply F 7 [0] m;simp only[↓Z];apply R;omega;exact aJ ((bM (bS ts)).length-(j+1)) _ _ (by omega) (by kernel_rfl) ⟨j+1,O,m,(by omega),O⟩
   rw[al4 _ _ _ (by rw[a.xl];omega)] at m;apply F 7 [0] m;simp only[↓Z];apply R;omega;exact aE (cs.length-(k+1)) _ _ (by omega) (by kernel_rfl) ⟨k+1,N,(Qj l c.u c.v),(Yq Q c.u c.v),(xs.map (Au c.u c.v)),_,_,O,(m.sel [X7,X7,N,N,N,N,N,N]),(.inr ⟨O,Vu ar⟩),a.step ar,(by omega),O⟩
  apply F 6 [0] m;simp only[↓Z];refine dH O ?_ ?_<;>intro aU
  .obtain rfl:bo=X7:=by simpa using aU
   obtain⟨e1,e2,e3⟩:i=l/\G=Q/\I=xs:=hM.elim (λh=>h.2) λh=>(by cases h.1)
   subst i;subst G;subst I;apply F 3 [0] m;simp only[↓Z];refine aA aI ?_;replace m:=m.nilO 176 6;apply aL 7 [0] m;simp only[↓Z];refine bT [18,19] [129,130,131,132,133,134,135,136,137,138,139,140,141,142,143,144,145,146,147,148,149,150,151,152,153,154,155] (λn vs B=>∃(k:Nat)(K:Option Addr)(L:Nat)(ms:List E3),vs=[.slice K ms.length L,U (k:Int)]/\Mem w B [oI 176 6 K ms.length L (ms.flatMap dE),oI 41 3 ag (bM (bS ts)).length al (xs.flatMap kS),oI 41 3 A7 (bM (bS ts)).length c7 ((bM (bS ts)).flatMap kS),oI 43 9 g l.length C (l.flatMap aP)]/\(ms.length<=k)/\(∀e∈ms,I3 e.1/\I3 e.2)/\(k<=(bM (bS ts)).length)/\(n=(bM (bS ts)).length-k)) ?_ ?_
   .exact⟨_,0,_,_,[],rfl,(m.sel [N,X7,N,X7,N,X7,N]),bm _,(λe h=>by cases h),bm _,rfl⟩
   intro n vs wr r u K5 aK
   obtain⟨k,K,L,ms,rfl,m,bn,ad,hk,hn⟩:=r;simp only[zu,zF,zG];apply F 8 [0,0] m;simp only[↓Z,gZ];refine aZ O ?_ ?_<;>intro bj
   .obtain⟨p,s⟩:∃p,(bM (bS ts))[k]? = H p:=⟨_,ah (by omega)⟩
    obtain⟨y,X⟩:∃y,xs[k]? = H y:=⟨_,ah (by rw[a.xl];omega)⟩
    obtain⟨g7,rfl⟩:=(m.o 2 rfl).some (by omega);obtain⟨az,rfl⟩:=(m.o 1 rfl).some (by omega);apply F 4 [0] m;simp only[↓Z];refine mq m aB (by kernel_rfl) (cW 9 [0,0,0,0] ?_);simp only[↓Z,↓iH,gK,ab,ae];refine⟨_,λu m=>(show eZ _ _ _ _ (pt y) from (mV (m.o 1 O) X).lies aM aD),_,λu m=>(show eZ _ _ _ _ (pt p) from (mV (m.o 2 O) s).lies aM aD),_,pK,by omega,?_⟩;refine bD ?_;intro u m;refine gc (aZ O (λax=>?_) (λax=>?_))
    .refine mh m [X7,N,N,N] [(0,N),(1,N),(2,N),(3,N),(5,N),(6,N),(7,N),(4,N),(8,N),(9,N),(10,X7),(11,X7),(12,N)] aB (by kernel_rfl) (bR (λ_ _ _ _ _ h=>h)) (ol:=?_) ?aj ?_
     case aj=>simp only[zw,zQ,zR];try rfl
     intro u m;refine tL 10 [0,0,0,0] ?_;simp only[↓Z,↓iH,gK,aih,ab,ae,aa];refine⟨_,λu m=>(show eZ _ _ _ _ (pt p) from (mV (m.o 1 O) s).lies aM aD),_,λu m=>(show eZ _ _ _ _ (pt y) from (mV (m.o 0 O) X).lies aM aD),by omega,?_⟩;refine bX (Uu O ?_);intro u g2 d f k_;replace m:=m.newB d f k_;refine S ⟨m.sel [X7,X7,N,N,N],?_⟩;refine bX ?_;simp only[J];refine bJ m 1 O O vA Nf O (by decide) O O O (m.b 0 O).rowsO (fU O) (by omega) (by omega) ?_;intro K L u m;simp only[zF,zG] at m;rw[show ms.flatMap dE++_=(ms++[(p,y)]).flatMap dE by rw[au];rfl] at m;have aq:ms.length+1=(ms++[(p,y)]).length:=by simp
     rw[aq] at m ⊢;refine S ⟨m.sel [X7,X7,N,N,N],?_⟩;refine aV aI (aT ?_);apply aQ 6 [0] m;simp only[↓Z];apply R;omega;exact aK ((bM (bS ts)).length-(k+1)) _ _ (by omega) (by kernel_rfl) ⟨k+1,_,_,(ms++[(p,y)]),O,(m.sel [X7,N,N,N,N]),by rw[a_];simp only[bh,dv];omega,(λe he=>(bz.1 he).elim (ad e) λh=>by rw[cr.1 h];exact⟨yT E (rX.1 (ak s)),a.xi y (ak X)⟩),by omega,O⟩
    apply F 7 [0] m;simp only[↓Z];apply R;omega;exact aK ((bM (bS ts)).length-(k+1)) _ _ (by omega) (by kernel_rfl) ⟨k+1,_,_,ms,O,m,by omega,ad,by omega,O⟩
   apply F 9 [] m;simp only[↓Z];exact kN O O O ⟨_,O,m.ext,_,_,_,_,_,_,l,ms,O,O,O,m.sel [N,X7,X7,N],a.it,by have:=a.le;omega,by omega,ad⟩
  obtain rfl:bo=N:=by simpa using aU
  have bQ:i.length<l.length:=hM.elim (λh=>(by cases h.1)) λh=>h.2;apply F 2 [0] m;simp only[↓Z];exact be i.length _ _ (by omega) (by kernel_rfl) ⟨i,G,I,_,_,O,(m.sel [X7,N,N,N,N,N]),bf,O⟩
 apply F 3 [0] m;simp only[↓Z];refine aA aI ?_;replace m:=m.nilO 176 6;apply aL 7 [0] m;simp only[↓Z];refine bT [18,19] [129,130,131,132,133,134,135,136,137,138,139,140,141,142,143,144,145,146,147,148,149,150,151,152,153,154,155] (λn vs B=>∃(k:Nat)(K:Option Addr)(L:Nat)(ms:List E3),vs=[.slice K ms.length L,U (k:Int)]/\Mem w B [oI 176 6 K ms.length L (ms.flatMap dE),oI 41 3 ag (bM (bS ts)).length al (xs.flatMap kS),oI 41 3 A7 (bM (bS ts)).length c7 ((bM (bS ts)).flatMap kS),oI 43 9 g l.length C (l.flatMap aP)]/\(ms.length<=k)/\(∀e∈ms,I3 e.1/\I3 e.2)/\(k<=(bM (bS ts)).length)/\(n=(bM (bS ts)).length-k)) ?_ ?_
 .exact⟨_,0,_,_,[],rfl,(m.sel [N,N,X7,N,X7,N]),bm _,(λe h=>by cases h),bm _,rfl⟩
 intro n vs wr r u K6 aR
 obtain⟨k,K,L,ms,rfl,m,bn,ad,hk,hn⟩:=r;simp only[zu,zF,zG];apply F 8 [0,0] m;simp only[↓Z,gZ];refine aZ O ?_ ?_<;>intro bj
 .obtain⟨p,s⟩:∃p,(bM (bS ts))[k]? = H p:=⟨_,ah (by omega)⟩
  obtain⟨y,X⟩:∃y,xs[k]? = H y:=⟨_,ah (by rw[a.xl];omega)⟩
  obtain⟨g7,rfl⟩:=(m.o 2 rfl).some (by omega);obtain⟨az,rfl⟩:=(m.o 1 rfl).some (by omega);apply F 4 [0] m;simp only[↓Z];refine mq m aB (by kernel_rfl) (cW 9 [0,0,0,0] ?_);simp only[↓Z,↓iH,gK,ab,ae];refine⟨_,λu m=>(show eZ _ _ _ _ (pt y) from (mV (m.o 1 O) X).lies aM aD),_,λu m=>(show eZ _ _ _ _ (pt p) from (mV (m.o 2 O) s).lies aM aD),_,pK,by omega,?_⟩;refine bD ?_;intro u m;refine gc (aZ O (λax=>?_) (λax=>?_))
  .refine mh m [X7,N,N,N] [(0,N),(1,N),(2,N),(3,N),(5,N),(6,N),(7,N),(4,N),(8,N),(9,N),(10,X7),(11,X7),(12,N)] aB (by kernel_rfl) (bR (λ_ _ _ _ _ h=>h)) (ol:=?_) ?aj ?_
   case aj=>simp only[zw,zQ,zR];try rfl
   intro u m;refine tL 10 [0,0,0,0] ?_;simp only[↓Z,↓iH,gK,aih,ab,ae,aa];refine⟨_,λu m=>(show eZ _ _ _ _ (pt p) from (mV (m.o 1 O) s).lies aM aD),_,λu m=>(show eZ _ _ _ _ (pt y) from (mV (m.o 0 O) X).lies aM aD),by omega,?_⟩;refine bX (Uu O ?_);intro u g2 d f k_;replace m:=m.newB d f k_;refine S ⟨m.sel [X7,X7,N,N,N],?_⟩;refine bX ?_;simp only[J];refine bJ m 1 O O vA Nf O (by decide) O O O (m.b 0 O).rowsO (fU O) (by omega) (by omega) ?_;intro K L u m;simp only[zF,zG] at m;rw[show ms.flatMap dE++_=(ms++[(p,y)]).flatMap dE by rw[au];rfl] at m;have aq:ms.length+1=(ms++[(p,y)]).length:=by simp
   rw[aq] at m ⊢;refine S ⟨m.sel [X7,X7,N,N,N],?_⟩;refine aV aI (aT ?_);apply aQ 6 [0] m;simp only[↓Z];apply R;omega;exact aR ((bM (bS ts)).length-(k+1)) _ _ (by omega) (by kernel_rfl) ⟨k+1,_,_,(ms++[(p,y)]),O,(m.sel [X7,N,N,N,N]),by rw[a_];simp only[bh,dv];omega,(λe he=>(bz.1 he).elim (ad e) λh=>by rw[cr.1 h];exact⟨yT E (rX.1 (ak s)),a.xi y (ak X)⟩),by omega,O⟩
  apply F 7 [0] m;simp only[↓Z];apply R;omega;exact aR ((bM (bS ts)).length-(k+1)) _ _ (by omega) (by kernel_rfl) ⟨k+1,_,_,ms,O,m,by omega,ad,by omega,O⟩
 apply F 9 [] m;simp only[↓Z];exact kN O O O ⟨_,O,m.ext,_,_,_,_,_,_,l,ms,O,O,O,m.sel [N,X7,X7,N],a.it,by have:=a.le;omega,by omega,ad⟩
def _root_.Go.Lith.Mem.cast2{a b c c' d:It}(m:Mem w0 w [a,b,c,d])(h:c=c'):Mem w0 w [a,b,c',d]:=h▸m
def fY{α:Type}{enc:α->List am}{c:Nat}{S:List (Option Nat)}{xs:List α}{x:α}(h:Ow w0 w S E c (H ⟨g,0,X8⟩) n cap (xs.flatMap enc))(a:∀x,(enc x).length=c)(d:xs[k]? = H x)(j:Nat){u:am}(b:(enc x)[j]? = H u):w.cell? ⟨g,k*c+j,X8⟩=H u:=by
 have:=h.at a d j u b;rwa [cA,cA,ae] at this
def afY{K:It}{D d B:Nat}{C A:Option Addr}{g:List Rnc}{f:List It}(m:Mem w0 w [bI D [.slice C d B] 75,oI 165 4 C d B (g.flatMap rnC),fN f,K])(e:MSt f g)(aJ:d<=1000000)(X:∀u,K.P u->cI u A vi ts)(hN:vi<=2000)(hw:0<=want):Qt X9 56 [.pointer (H ⟨D,0,X8⟩),.slice A vi cap,U want] w (λv w'=>∃(S:Option Addr)(I V:Nat)(aj:List Rnc)(t:List It)(s:Sl T3)(mv:Sl E3),v=.tuple #[.slice s.A s.l.length s.cap,.slice mv.A mv.l.length mv.cap]/\Mem w0 w' [bI D [.slice S I V] 75,oI 165 4 S I V (aj.flatMap rnC),fN t,K]/\(∀j∈f,j∈t)/\MSt t aj/\I<=d+1/\(pL t (En s)/\pL t (Mn dE 6 mv))/\s.l.length<=2000/\mv.l.length<=6000/\∀v∈mv.l,I3 v.1/\I3 v.2):=by
 refine⟨bP func56 (by kernel_rfl),?_⟩;have af:=X _ (m.get 3 rfl);have L:=af.it;have aO:=af.len;have aS:=(m.o 1 rfl).num rn4 (by decide)
 go_enter func56,ntmps56
 apply iD 8 [0] m;simp only[↓Z];refine bB O O (uH _ (X _ (m.get 3 O)) (by omega)) ?_;rintro v u y ⟨Q,T,n1,ar,rfl,E⟩;replace m:=m.newO y E;obtain rfl:n1=(bS ts).length:=by rw[ar,jZ]
 have aG:=jZ ts;apply aL 8 [0] m;simp only[↓Z];refine bT [8] [6,7,13,14,15,16,17,18,19,20,21,22,23,24,25,26,27,28,29,30,31,32,33,34,35,36,37,38,39,40,41,42,43,44,45,46,47,48,49,50,51,52,53,54,55,56,57,58,59] (λn vs wl=>∃(k:Nat),vs=[U (k:Int)]/\Mem w0 wl [oI 43 9 Q (bS ts).length T ((bS ts).flatMap aP),bI D [.slice C d B] 75,oI 165 4 C d B (g.flatMap rnC),fN f,K]/\(k<=d)/\(n=d-k)) ?_ ?_
 .exact⟨_,0,O,m,by omega,O⟩
 intro n vs wr hI u K1 ad
 obtain⟨k,rfl,m,hk,hn⟩:=hI;simp only[zu,zF,zG];apply F 11 [2,0,0] m;simp only[↓Z,yK,Qn,aq4,aa];refine aZ O ?_ ?_<;>intro aE
 .obtain⟨z,c⟩:∃x,g[k]? = H x:=⟨_,ah (by omega)⟩
  obtain⟨aD,rfl⟩:=(m.o 2 rfl).some (by omega);have av:z.i.l.length<=100000000:=ay (e.rb z (ak c)).1 (by decide);apply F 4 [] m;simp only[↓Z];by_cases aR:z.want=want
  .apply aQ 19 [2,0,2,1,0,0,0,0,2,0,0,0] m;simp only[↓Z,yK,Qn,ad3,aa1,aie,aa,ab,ae];refine⟨_,λu m=>(lies1 (fY (m.o 2 O) rn4 c 1 O) bW),by omega,?_⟩;refine go (bQ O (bA O (lies1 (fY (m.o 2 O) rn4 c 0 O) qJ) ?_));simp only[J];apply aL 1 [0,0] m;simp only[↓Z];refine bQ O (bY m O O (alF (xs:=z.i.l) (ys:=bS ts) _ (m.says 3 O (e.r z (ak c))).i.1 ((m.o 0 O).tris (nK L)) av) ?_);rintro v u m rfl;apply aL 2 [0] m;simp only[↓Z];refine dH O ?_ ?_<;>intro aF
   .apply F 1 [0] m;simp only[↓Z];refine mq m aB (by kernel_rfl) (cW 7 [2] ?_);simp only[↓Z,yK,Qn,ad3,aif,aa,ab,ae];apply R;omega;refine ql O (λu m=>(lies1 (fY (m.o 2 O) rn4 c 2 O) qJ)) ?_;simp only[J];refine cW 7 [2] ?_;simp only[↓Z,yK,Qn,ad3,aig,aa,ab,ae];apply R;omega;refine ql O (λu m=>(lies1 (fY (m.o 2 O) rn4 c 3 O) Pg)) ?_;simp only[J];refine aK aI (aK aI (bD ?_));intro u m;apply aQ 1 [] m;simp only[↓Z];exact kN O O O ⟨_,O,_,_,_,g,f,z.o,z.m,O,m.sel [X7,N,N,N,N],λ_ h=>h,e,ov _,⟨(e.r z (ak c)).imp λ_ h=>h.o,(e.r z (ak c)).imp λ_ h=>h.m⟩,(e.rb z (ak c)).2⟩
   apply F 7 [0] m;simp only[↓Z];apply R;omega;exact ad (d-(k+1)) _ _ (by omega) (by kernel_rfl) ⟨k+1,O,m,by omega,O⟩
  apply aQ 27 [2,0,2,2,0,0,0,0,0,0,0,0,0,0] m;simp only[↓Z,yK,Qn,ad3,aa1,aa,ab,ae];refine⟨_,λu m=>(lies1 (fY (m.o 2 O) rn4 c 1 O) bW),by omega,?_⟩;apply aQ 5 [0] m;simp only[↓Z];apply R;omega;exact ad (d-(k+1)) _ _ (by omega) (by kernel_rfl) ⟨k+1,O,m,by omega,O⟩
 apply F 5 [0] m;simp only[↓Z];refine bB O O (Tn (ts:=bS ts) _ ((m.o 0 O).tris (nK L)) (by omega) hw) ?_;rintro v u y ⟨al,aT,an,am,aU,ao,Y,ms,rfl,ax,az,W,aw,aM,aN,aq⟩;replace m:=m.plus W;clear W;simp only[dx,cv] at m;subst ax;subst az;apply aL 18 [4,0] m;simp only[↓Z,yK,Qn,ao7,aa];refine aff O ?_;intro u g6 y E k_;replace m:=m.newB y E k_;simp only[J];refine bJ m 5 O O underlying73 ak4 O (by decide) O O O (m.b 0 O).rowsO (fU O) (by omega) (by omega) ?_;intro aA aV u m;simp only[zF,zG] at m;apply kZ 4 [4] m;simp only[↓Z,yK,Qn,aa];intro u m;replace m:=m.pull 6 O;simp only[bG,bH,zF,zG] at m;replace m:=m.pull 4 O;simp only[bG,bH,zF,zG] at m;replace m:=m.bagPush;replace m:=m.pull 2 O;simp only[bG,bH,zF,zG] at m;replace m:=m.bagPush;replace m:=m.pull 2 O;simp only[bG,bH,zF,zG] at m;replace m:=m.bagPush;replace m:=m.pull 4 O;simp only[bG,bH,zF,zG] at m;replace m:=m.pull 1 O;simp only[bG,bH,zF,zG] at m;replace m:=m.pull 4 O;simp only[bG,bH,zF,zG] at m;replace m:=m.pull 4 O;simp only[bG,bH,zF,zG] at m;replace m:=m.sel [N,N,N,N];simp only[pS] at m;obtain⟨a,p⟩:∃a:Rnc,a=⟨⟨Q,T,bS ts⟩,want,⟨al,an,Y⟩,⟨am,ao,ms⟩⟩:=⟨_,rfl⟩
 replace m:=m.reO 1 O ((m.o 1 O).as (show _=(g++[a]).flatMap rnC by rw[au,p];rfl));simp only[zF,zG] at m;have ap:=nK L;obtain⟨j2,q⟩:∃j2:List It,j2=a.o.it 43 9 aP::a.m.it 176 6 dE::a.i.it 43 9 aP::f:=⟨_,rfl⟩
 have ag:∀j∈f,j∈j2:=λj h=>by rw[q];simp[h]
 replace m:=m.cast2 (c':=fN j2) (by rw[q,p];rfl);have M:pL j2 (apN a):=λu G=>⟨Vk (G (a.i.it 43 9 aP) (by rw[q];simp)) (by rw[p];exact ap),Vk (G (a.o.it 43 9 aP) (by rw[q];simp)) (by rw[p];exact aw),Sl.at Bk (by decide) (G (a.m.it 176 6 dE) (by rw[q];simp))⟩
 have ai:RnB a:=by rw[p];exact⟨(by show (bS ts).length<=2000;omega),(by show Y.length<=2000;omega),(by show ms.length<=6000;omega),aq⟩
 apply aQ 8 [] m;simp only[↓Z];exact kN O O O ⟨_,O,_,_,_,g++[a],_,a.o,a.m,by rw[p];rfl,m,ag,(e.mono ag).snoc M ai,bg _,⟨M.imp λ_ h=>h.o,M.imp λ_ h=>h.m⟩,ai.2⟩
end
end Go.Proofs.YtbbokjbcdkgfgaaGreatDoor
namespace Go.Lith
open Go.RowKit
variable{n k c:Nat}{E:ba}{u w w0:an}{xs:List oH}{x:oH}{ys:List vN}{α:Type}
def Ge(n:Nat)(L:List (Sl T3)):List oH:=L.map λs=>⟨s,(n:Int),-1⟩
def vP(n k:Nat):List Int:=(List.range k).map λi:Nat=>((n+i:Nat):Int)
def Sc(n k:Nat):vP n (k+1)=vP n k++[((n+k:Nat):Int)]:=by simp[vP,List.range_succ]
def xF(n k:Nat):(vP n k).length=k:=by simp[vP]
def afZ{z:Int}(h:z∈vP n k):(n:Int)<=z/\z<((n+k:Nat):Int):=by
 obtain⟨i,a,rfl⟩:=du.1 h;have:=List.mem_range.1 a;omega
section
variable{xs:List oH}{ys:List vN}{n:Nat}{L:List (Sl T3)}{l:List Int}
def aew(h:inG xs l):(kK (tF xs ys).cs l).length=jV (Aq xs) l:=by
 induction l with
 |nil=>rfl
 |cons z l ih=>
  rw[pR,<-ih λy a=>h y (br _ a)];show (_++kK (tF xs ys).cs l).length=_
  rw[a_]
  congr 1
  show ((Option.map (λx=>x.ts) ((xs.map oH.cl)[z.toNat]?)).getD []).length=_
  unfold Aq;rw[dc];cases xs[z.toNat]?<;>rfl
def ajY(n:Nat)(L:List (Sl T3)):(Ge n L).length=L.length:=by simp[Ge]
def af0{k:Nat}{s:Sl T3}(h:L[k]? = H s):Ge n (L.take (k+1))=Ge n (L.take k)++[⟨s,(n:Int),-1⟩]:=by
 unfold Ge;rw[cZ h,dh];rfl
def abC:∀(k:Nat),k<=L.length->jV (Aq (xs++Ge n L)) (vP xs.length k)=Kr (L.take k)
 |0,_=>rfl
 |k+1,h=>by
  have a:L[k]? = H L[k]:=ah (by omega);rw[Sc,kL,abC k (by omega),cZ a,Ck]
  congr 1
  rw[pR,Cm];unfold Aq Ge Kr;rw[ab,dj (by omega),dc,show xs.length+k-xs.length=k by omega,a];simp
def ajZ{P us Q:List am}{v w:am}{n:Nat}(h:n=P.length+us.length):over (P++(us++v::Q)) n [w]=P++(us++w::Q):=by
 subst h;unfold over;rw[<-di P us,List.take_append_of_le_length (by simp),ap (by simp),jz,fl (by simp)];simp[show P.length+us.length+1-(P.length+us.length)=1 by omega]
def af1{c k:Nat}{x:oH}(b:xs[c]? = H x):over (xs.flatMap Fx) (c*3+2) [iV (k:Int)]=(xs.set c { x with used:=(k:Int) }).flatMap Fx:=by
 have a:=(av.1 b).1;have e:xs=xs.take c++x::xs.drop (c+1):=by
  conv=>lhs;rw[<-fi c xs,dw a,(av.1 b).2]
 rw[fm,Z9 a,au,da]
 conv=>lhs;rw[e,au,da]
 exact ajZ (P:=(xs.take c).flatMap Fx) (us:=[x.s.v,iV x.made]) (by rw[dZ Vl,bf];simp;omega)
def aj0{k c n:Nat}{x:oH}(h:usG xs (l.take k))(e:inG xs l)(b:l[k]? = H (c:Int))(d:xs[c]? = H x):usG (xs.set c { x with used:=(n:Int) }) (l.take (k+1)):=by
 rw[cZ b];intro z hm y a;rcases bz.1 hm with hm|hm
 .exact h.xe (XE.mark d) (λz b=>e z (gj b)) z hm y a
 rw[cr.1 hm,ab,pb (av.1 d).1] at a
 cases a;exact Int.natCast_nonneg _
def amk{A:Option Addr}{n c:Nat}{ts:List T3}(h:(oI E 9 A n c (ts.flatMap aP)).P u)(a:∀t∈ts,IT t):cI u A n ts:=
 (show Ow { u with heap:=#[] } u [] E 9 A n c (ts.flatMap aP) from⟨h,λ_ _ h=>(by cases h),λ_ h=>(by cases h)⟩).tris a
def XB(a:List It)(n:Nat)(xs:List oH):Prop:=∀x∈xs,pL a (En x.s)/\ClB n x
def XB.of{xs:List oH}{ys:List vN}{b:List It}{n:Nat}(h:Mo b xs ys)(g:ys.length<=n):XB b n xs:=λx a=>by
 obtain⟨d,e,f⟩:=h.cb x a;exact⟨h.c x a,⟨d.1,by omega⟩,⟨e.1,by omega⟩,f⟩
def XB.app{xs:List oH}{a:List It}{n:Nat}{L:List (Sl T3)}(h:XB a (n+1) xs)(c:∀s∈L,pL a (En s))(d:Kr L<=2000):XB a (n+1) (xs++Ge n L):=λx hx=>by
 rcases bz.1 hx with hx|hx
 .exact h x hx
 obtain⟨s,b,rfl⟩:=du.1 hx
 have:=ajd b;exact⟨c s b,⟨by show (-1:Int)<=(n:Int);omega,by show (n:Int)<((n+1:Nat):Int);omega⟩,⟨by show (-1:Int) <= -1;omega,by show (-1:Int)<=((n+1:Nat):Int);omega⟩,by show s.l.length<=2000;omega⟩
def XB.mark{xs:List oH}{a:List It}{n i:Nat}{x:oH}(h:XB a (n+1) xs)(e:xs[i]? = H x):XB a (n+1) (xs.set i { x with used:=(n:Int) }):=Nl h (by
 obtain⟨b,c,f,d⟩:=h x (ak e);exact⟨b,c,⟨by show (-1:Int)<=(n:Int);omega,by show (n:Int)<=((n+1:Nat):Int);omega⟩,d⟩)
def XB.group{xs:List oH}{ys:List vN}{e c:List It}{y:vN}{n:Nat}(h:XB e (n+1) xs)(i:∀j∈e,j∈c)(g:∀y∈ys,pL c (al6 y))(f:∀y∈ys,GpB y)(k:ys.length=n)(a:pL c (al6 y))(b:GpB y):Mo c xs (ys++[y]):=
 ⟨λx d=>(h x d).1.mono i,oV g a,λx d=>by rw[a_,List.length_singleton,k];exact (h x d).2,oV f b⟩
theorem GrAt.it{A B:Option Addr}{G:Gr}(h:GrAt w A B G){l:List Int}:∀t∈kK G.cs l,IT t:=λt b=>by
 obtain⟨z,_,b⟩:=ff.1 b;cases d:G.cs[z.toNat]? with
 |none=>rw[d] at b;cases b
 |some x=>
  rw[d] at b;obtain⟨a,_,D,c,_,e,_⟩:=h.cs _ x d;exact e.it t b
def aml{s:Sl Int}{k:Nat}{z:Int}(h:Mn nB 1 s u)(b:s.l[k]? = H z):∃a,s.A=H a:=let ⟨a,e,_⟩:=h.r.row k z b;⟨a,e⟩
def amm{s:Sl Int}{k:Nat}{z:Int}{a:Addr}(h:Mn nB 1 s u)(f:s.l[k]? = H z)(c:s.A=H a):u.cell? (a.add k)=H (U z):=by
 obtain⟨b,e,d⟩:=h.r.row k z f;cases c.symm.trans e;have:=d 0 _ rfl;rwa [bi,gQ,gi] at this
def amn{xs:List oH}{ys:List vN}{d:List It}{n:Nat}(h:Mo d xs ys)(a:ys.length=n):∀x∈(tF xs ys).cs,x.made<n:=λx b=>by
 obtain⟨y,c,rfl⟩:=du.1 b;rw[<-a];exact (h.cb y c).1.2
def ap9{xs:List oH}{ys:List vN}{c:List It}(h:Mo c xs ys):∀g∈(tF xs ys).gs,gF g.tot:=λx a=>by
 obtain⟨y,b,rfl⟩:=du.1 a;exact (h.gb y b).1
end
section
variable{w0 w:an}{a b c d e f:It}{is:List It}
def Mem.pack6(m:Mem w0 w (a::b::c::d::e::f::is)):Mem w0 w [a,b,c,d,e,f,Qs is]:=Mem.pack [a,b,c,d,e,f] m
def Mem.unpack6(m:Mem w0 w [a,b,c,d,e,f,Qs is]):Mem w0 w (a::b::c::d::e::f::is):=Mem.unpack [a,b,c,d,e,f] m
end
def slG(xs:List oH)(z:Int):Sl T3:=(xs[z.toNat]?.map (·.s)).getD ⟨X8,0,[]⟩
def aqa(h:xs[c]? = H x):slG xs (c:Int)=x.s:=by unfold slG;rw[ab,h];rfl
def aj1{b:List It}(h:Mo b xs ys)(d:∀j∈b,j.P u)(z:Int):En (slG xs z) u/\(slG xs z).l.length<=2000:=by
 unfold slG;cases e:xs[z.toNat]? with
 |none=>exact⟨⟨cI.nil _ _,bg _⟩,bm _⟩
 |some x=>
  have a:=ak e;exact⟨h.c x a u d,(h.cb x a).2.2⟩
def aj2{F:ba}{L:List (Sl T3)}{A:Option Addr}(g:Ow w0 w [] F 1 A n c (L.flatMap Lx))(b:∀s∈L,En s w):Dj w A n (L.map Sl.l):=by
 have d:=g.lat sv1 (by decide);refine⟨by rw[dy];exact d.len,λi l j=>?_⟩;obtain⟨s,f,rfl⟩:=jl.1 ((dc ..).symm.trans j);obtain⟨a,e,h⟩:=d.row i s f;have b:=b s (ak f);refine⟨a,⟨s.A,s.l.length,s.cap⟩,e,?_,b.1,b.2⟩;have:=h 0 _ rfl;rwa [bi,gQ,gi] at this
def Gf(cur ps:List Int):List Int:=ps.map λp=>(cur[p.toNat]?).getD 0
section
variable{cur ps qs:List Int}{f:Int->Nat}{xs:List oH}
def Zu:Gf cur (ps++qs)=Gf cur ps++Gf cur qs:=by simp[Gf]
def aj3{j p:Nat}{z:Int}(h:ps[j]? = H (p:Int))(a:cur[p]? = H z):Gf cur (ps.take (j+1))=Gf cur (ps.take j)++[z]:=by
 rw[cZ h,Zu]
 congr 1
 simp[Gf,a]
def aj4(cur:List Int):Gf cur (nA cur.length)=cur:=by
 apply fy;intro i;unfold Gf nA;rw[List.map_map];by_cases h:i<cur.length
 . rw[dc,List.getElem?_range h,ah h]
   simp[ah h]
 rw[ct (by simp;omega),ct (by omega)]
def Sd(h:ps.Perm (nA cur.length)):jV f (Gf cur ps)=jV f cur:=by
 have:(Gf cur ps).Perm (Gf cur (nA cur.length)):=h.map _;rw[afP this,aj4]
def aj5(a:inG xs cur)(h:∀p∈ps,0<=p/\p<cur.length):inG xs (Gf cur ps):=λz c=>by
 obtain⟨p,b,rfl⟩:=du.1 c;obtain⟨d,e⟩:=h p b;refine a _ ?_;rw[ah (show p.toNat<cur.length by omega)];exact List.getElem_mem _
def adh{L:List (Sl Int)}{i n:Nat}(a:(L.flatMap Sl.l).Perm (nA n)):∀p∈(L.take i).flatMap Sl.l,0<=p/\p<(n:Int):=λp h=>by
 obtain⟨s,b,c⟩:=ff.1 h;exact Do.1 (a.mem_iff.1 (ff.2 ⟨s,gj b,c⟩))
def amo{L:List (Sl Int)}{i:Nat}{s:Sl Int}(a:L[i]? = H s):Gf cur ((L.take (i+1)).flatMap Sl.l)=Gf cur ((L.take i).flatMap Sl.l)++Gf cur s.l:=by
 rw[cZ a,au,Zu];simp
def anA{L:List (Sl Int)}(i:Nat)(a:(L.flatMap Sl.l).Perm (nA cur.length)):jV f (Gf cur ((L.take i).flatMap Sl.l))<=jV f cur:=by
 rw[<-Sd a];have h:(L.take i++L.drop i).flatMap Sl.l=L.flatMap Sl.l:=by rw[fi]
 rw[<-h,au,Zu,kL];omega
def af2{a:List oH}{c:List Int}{L:List (Sl Int)}(b:(L.flatMap Sl.l).Perm (nA cur.length))(h:jV (Aq a) c+jV (uzG a) (Gf cur (L.flatMap Sl.l))<=jV (Aq xs) (Gf cur (L.flatMap Sl.l))):jV (Aq a) (cur.filter (unG a)++c)<=jV (Aq xs) cur:=by
 rw[Sd b,Sd b] at h;rw[kL];have:=ajg (xs:=a) (cur:=cur);omega
end
def Mo.lay{a:List It}{s:Sl T3}(h:Mo a xs [])(b:∀t∈s.l,IT t)(d:s.l.length<=2000):Mo (s.it E 9 aP::a) (xs++[⟨s,-1,-1⟩]) []:=
 (h.mono λj c=>br _ c).snoc (pL.own (bv ..) λu e=>Vk e b) ⟨⟨by show (-1:Int) <= -1;omega,by show (-1:Int)<((0:Nat):Int);omega⟩,⟨by show (-1:Int) <= -1;omega,by show (-1:Int)<=((0:Nat):Int);omega⟩,d⟩
def amp   : jV (Aq (xs++[x])) (nA (xs.length+1))=jV (Aq xs) (nA xs.length)+x.s.l.length:=by
 rw[uN,kL]
 congr 1
 .exact (XE.app [x]).sumsz λz a=>Do.1 a
 rw[pR,Cm]
 unfold Aq;rw[ab,dj (bg _),Nat.sub_self];simp
def af3{xss:List (List α)}{l:List α}(h:xss[k]? = H l):((xss.take (k+1)).map iz).sum=((xss.take k).map iz).sum+l.length:=by
 rw[cZ h];simp
def aex{xss:List (List α)}(k:Nat):((xss.take k).map iz).sum<=(xss.map iz).sum:=by
 have h:((xss.take k++xss.drop k).map iz).sum=(xss.map iz).sum:=by rw[fi]
 rw[dh,List.sum_append] at h;omega
def Mem.cast0{a b:It}{is:List It}(m:Mem w0 w (a::is))(h:a=b):Mem w0 w (b::is):=h▸m
structure uO(bd:Nat)(xs:List oH)(ys:List vN):Prop where
 c:∀x∈xs,(∀t∈x.s.l,IT t)/\x.s.l.length<=2000
 g:∀y∈ys,(y.i.l.length<=999700+bd/\y.o.l.length<=999700+bd/\y.m.l.length<=1000000)/\Bd bd y.dl
section
variable{bd:Nat}{xs:List oH}{ys:List vN}{x:oH}{y:vN}{i:Nat}
def uO.nil:uO bd [] []:=⟨λ_ h=>(by cases h),λ_ h=>(by cases h)⟩
def uO.mono{b:Nat}(h:uO bd xs ys)(k:bd<=b):uO b xs ys:=⟨h.c,λy a=>⟨⟨ay (h.g y a).1.1 (Nat.add_le_add_left k _),ay (h.g y a).1.2.1 (Nat.add_le_add_left k _),(h.g y a).1.2.2⟩,(h.g y a).2.mono k⟩⟩
def uO.cl(h:uO bd xs ys)(a:(∀t∈x.s.l,IT t)/\x.s.l.length<=2000):uO bd (xs++[x]) ys:=⟨oV h.c a,h.g⟩
def uO.gp(h:uO bd xs ys)(a:(y.i.l.length<=999700+bd/\y.o.l.length<=999700+bd/\y.m.l.length<=1000000)/\Bd bd y.dl):uO bd xs (ys++[y]):=⟨h.c,oV h.g a⟩
def uO.cset(h:uO bd xs ys)(a:(∀t∈x.s.l,IT t)/\x.s.l.length<=2000):uO bd (xs.set i x) ys:=⟨Nl h.c a,h.g⟩
def uO.gset(h:uO bd xs ys)(a:(y.i.l.length<=999700+bd/\y.o.l.length<=999700+bd/\y.m.l.length<=1000000)/\Bd bd y.dl):uO bd xs (ys.set i y):=⟨h.c,Nl h.g a⟩
end
def tIt(E:ba)(x:oH):It:=x.s.it E 9 aP
def Zx(E:ba)(y:vN):It:=y.i.it E 1 nB
def oIt(E:ba)(y:vN):It:=y.o.it E 1 nB
def mIt(E:ba)(y:vN):It:=y.m.it E 6 dE
def uO.at{bd:Nat}{C D T I V:ba}{A B:Option Addr}{m d:Nat}(h:uO bd xs ys)(z:Ow w0 w [] C 3 A n c (xs.flatMap Fx))(E:Ow w0 w [] D 8 B m d (ys.flatMap Em))(K:∀j∈xs.map (tIt T),j.P w)(F:∀j∈ys.map (Zx I),j.P w)(J:∀j∈ys.map (oIt I),j.P w)(G:∀j∈ys.map (mIt V),j.P w):GrAt w A B (tF xs ys):=by
 refine⟨λk x f=>?_,λk g f=>?_⟩
 . obtain⟨x,u,rfl⟩:=jl.1 ((dc ..).symm.trans f)
   obtain⟨a,e,l⟩:=(z.lat Vl (by decide)).row k x u;have b:=ak u;have:=Vk (K _ (fg b)) (h.c x b).1;exact⟨a,e,x.s.A,x.s.cap,l,this.1,this.2⟩
 obtain⟨y,v,rfl⟩:=jl.1 ((dc ..).symm.trans f)
 obtain⟨a,e,l⟩:=(E.lat Sj (by decide)).row k y v;have b:=ak v;have p:=Sl.at in1 (by decide) (F _ (fg b));have q:=Sl.at in1 (by decide) (J _ (fg b));have t:=Sl.at Bk (by decide) (G _ (fg b));exact⟨a,e,y.i.A,y.i.cap,y.o.A,y.o.cap,y.m.A,y.m.cap,l,p.r,q.r,t.r,p.c,q.c,t.c⟩
def uO.bds(h:uO 301 xs ys):(∀x∈(tF xs ys).cs,x.ts.length<=2000)/\∀g∈(tF xs ys).gs,(g.ins.length<=1000000000000/\g.outs.length<=1000000000000)/\Bd 301 g.dl:=by
 refine⟨λx i=>?_,λg f=>?_⟩
 . obtain⟨y,a,rfl⟩:=du.1 i
   exact (h.c y a).2
 obtain⟨y,a,rfl⟩:=du.1 f
 obtain⟨⟨b,d,_⟩,e⟩:=h.g y a;exact⟨⟨ay b (by decide),ay d (by decide)⟩,e⟩
def Is{z:Int}(h:0<n):(z%(n:Int)).toNat<n:=by
 have:=oq z (show 0<(n:Int) by omega);have:=oo z (show (n:Int)≠0 by omega);omega
def lS{enc:α->List am}{i:Nat}{xs:List α}{x x':α}(us a d vs:List am)(k:∀x,(enc x).length=c)(g:xs[i]? = H x)(h:enc x=us++(a++vs))(j:enc x'=us++(d++vs))(l:d.length=a.length)(m:n=i*c+us.length):over (xs.flatMap enc) n d=(xs.set i x').flatMap enc:=by
 have b:=(av.1 g).1;have e:xs=xs.take i++x::xs.drop (i+1):=by
  conv=>lhs;rw[<-fi i xs,dw b,(av.1 g).2]
 have f:((xs.take i).flatMap enc).length=i*c:=by rw[dZ k,bf,de (Nat.le_of_lt b)]
 rw[fm,Z9 b,au,da,j]
 conv=>lhs;rw[e,au,da,h]
 generalize (xs.take i).flatMap enc=P at f;generalize (xs.drop (i+1)).flatMap enc=Q;subst m;rw[<-f];unfold over;rw[l,show P++(us++(a++vs)++Q)=(P++us)++(a++(vs++Q)) by simp,List.take_append_of_le_length (by simp),ap (by simp),jz,fl (by simp)];simp[show P.length+us.length+a.length-(P.length+us.length)=a.length by omega]
def eA{β:Type}{f:α->β}{L:List α}{i:Nat}{x x':α}(h:L[i]? = H x)(e:f x'=f x):(L.set i x').map f=L.map f:=by
 rw[List.map_set,e];apply fy;intro j;rw[List.getElem?_set];split
 .rename_i a;subst a;rw[dc,h];have:=(av.1 h).1;simp[this]
 rfl
def aj6{enc:α->List am}{S:List (Option Nat)}{g cap:Nat}{xs:List α}{x:α}{vs:List am}(h:Ow w0 w S E c (H ⟨g,0,X8⟩) n cap (xs.flatMap enc))(a:∀x,(enc x).length=c)(e:xs[k]? = H x)(j:Nat)(d:(enc x).drop j=vs):iX w ⟨g,k*c+j,X8⟩ vs:=λq u b=>by
 have:=h.at a e (j+q) u (by rw[<-dn,d];exact b);rw[cA,cA] at this;rw[cA];rwa [ae,<-Nat.add_assoc] at this
section
variable{P:Program}{ds:List Deferred}{l:List am}{x y:Operand}{T ty:ba}
variable{ops:Array Oper}{Q:Exit->Act->an->Prop}{rest:List Oper}{d:Nat}{pos:String}{after:Array Edge}{w w0:an}{is:List It}
def abE{E:ba}{c n q cap b e mcap:Nat}{A B:Option Addr}{z:am}{xs news:List am}{a0:Array ba}(m:Mem w0 w is)(k:Nat)(p:is[k]? = H (oI E c A n cap xs))(D:q<=n)(s:a0 = #[T,T])(G:P.underlying T=H (.slice E))(v:(P.info? E).map (λi=>(i.size,i.bytes,i.zero))=H (c,b,H z))(J:z.cells.size=c)(t:0<c)
 (F:ev l x=.slice A q cap) (I:ev l y=.slice B e mcap) (C:news.length=e*c) (S:∀j u,news[j]? = H u->∃a,B=H a/\w.cell? (a.add j)=H u) (r:∀u∈news,u.oneCell'=N) (M:q+e<=9223372036854775807) (U:(q+e)*b<=140737488355328)
 (h:∀f g u,Mem w0 u (is.set k (oI E c f (q+e) g (xs.take (q*c)++news)))->be P ops Q rest (Fr (l.set d (.slice f (q+e) g)) ds) u) :
 be P ops Q (Oper.mk (H d) (.call { callee:=.builtin .append,args:=#[x,y],argTypes:=a0 }) ty pos after X8::rest) (Fr l ds) w:=by
 have K:=m.reO k p ((m.o k p).take D);have O:(is.set k (oI E c A q cap (xs.take (q*c))))[k]? = H (oI E c A q cap (xs.take (q*c))):=pb (av.1 p).1;refine bJ K k O s G v J t F I C S r M U λf g u L=>h f g u ?_;rwa [List.set_set] at L
end
end Go.Lith
namespace Go.Proofs.YtbbokjbcdkgfgaaGreatDoor
open Go.Proofs.Tryz
open Go.RowKit Go.Lith
set_option maxRecDepth 100000
section
attribute [local irreducible] be c_ fS cE cP Code.wp
attribute [local congr] fE fF eN fD
variable{A A2 A3:Option Addr}{nc cc ng cg i k q vi cap N2 cap2 cap3:Nat}{G:Gr}{c ts fs gs f:List T3}{t x u:T3}{ms:List Mv}{rim:List E3}
def aj7{B:Option Addr}(w:an)(Y:GrAt w A B G)(aK:G.cs.length=nc)(aM:G.gs.length=ng)(az:nc<=40000)(aA:ng<=200000)(aj:∀x∈G.cs,x.ts.length<=2000)(al:∀g∈G.gs,gF g.tot/\(g.ins.length<=1000000/\g.outs.length<=1000000/\g.mv.length<=1000000)/\Bd 300 g.dl):cX X9 19 [.agg #[.slice A nc cc,.slice B ng cg]] w (λv w'=>∃(S T:Option Addr)(c d:Nat)(xs:List oH)(ys:List vN),v=.agg #[.slice S nc c,.slice T ng d]/\(xs.length=nc/\ys.length=ng)/\uO 300 xs ys/\Mem w w' [fN (ys.map (mIt 176)),fN (ys.map (oIt 3)),fN (ys.map (Zx 3)),fN (xs.map (tIt 43)),oI 70 8 T ng d (ys.flatMap Em),oI 65 3 S nc c (xs.flatMap Fx)]):=by
 refine⟨bP func19 (by kernel_rfl),?_⟩;have m:=Mem.refl w
 go_enter func19,ntmps19
 apply gJ 9 [] m;simp only[↓Z,aaV];intro V W X u m;replace m:=m.nilO 65 3;replace m:=m.nilO 70 8;replace m:=m.bagNil;replace m:=m.bagNil;replace m:=m.bagNil;replace m:=m.bagNil;apply aQ 6 [0] m;simp only[↓Z];refine bT [4] [5,8,9,10,11,12,13,14,15,16,17,18,19,20,21,22,23,24,25,26,27,28,29,30] (λn vs D=>∃(k l:Nat)(j:Option Addr)(z:Nat)(xs:List oH),vs=[U (k:Int)]/\Mem w D [fN [],fN [],fN [],fN (xs.map (tIt 43)),oI 70 8 X8 0 0 [],oI 65 3 j l z (xs.flatMap Fx),bI X [.slice j l z,.slice X8 0 0] 31,bI W [.slice X8 0 0,.slice X8 0 0] 31,bI V [.slice A nc cc,.slice B ng cg] 31]/\(uO 300 xs [])/\(xs.length=l)/\(l=k)/\(k<=nc)/\(n=nc-k)) ?_ ?_
 .exact⟨_,0,_,_,_,[],O,m,uO.nil,O,O,by omega,O⟩
 intro n vs wr q u K1 ah
 obtain⟨k,l,j,z,xs,rfl,m,r,aO,aN,hk,hn⟩:=q;simp only[zu,zF,zG];apply F 9 [9,0,0] m;simp only[↓Z,gH,lP,El,aa];refine aZ O ?_ ?_<;>intro aB
 .obtain⟨x,a,E,cx,hx,rfl,ax,ad,aI⟩:=Y.cl (k:=k) (by omega);have ar:=aj x (ak hx);apply F 9 [9,0] m;simp only[↓Z,gH,lP,sB,aa,ab,ae];apply R;omega;refine bA O ((ax.ext m.ext).lies Jm mH) ?_;simp only[J];apply kZ 5 [0,0] m;simp only[↓Z,ad0,aaX,aa];intro g4 u m;refine wK gB (c:=9) (by kernel_rfl)  ?_;intro u g5 e h i;replace m:=m.newB e h i;simp only[J];replace m:=m.own 0 O (n:=0) (c:=9) O (eU O);simp only[zG] at m;apply aL 2 [2,0] m;simp only[↓Z,vI,am0,aa];refine bJ m 0 O O gB mS O (by decide) O O (tA _) (cI.cells (ad.ext m.ext)) (qF _) (by omega) (by omega) ?_;intro K Q u m;simp only[zF,zG] at m;rw[cv,ae] at m;rw[ae];apply kZ 3 [1] m;simp only[↓Z,vI,am0,aa];intro u m;replace m:=m.pull 5 O;simp only[bG,bH,zF,zG] at m;replace m:=m.pull 1 O;simp only[bG,bH,zF,zG] at m;obtain⟨t,P⟩:∃t:oH,t=⟨⟨K,Q,x.ts⟩,x.made,x.used⟩:=⟨_,rfl⟩
  replace m:=Mem.bagSnoc (f:=(tIt 43)) (x:=t) (m.cast0 (by rw[P];rfl));apply aQ 4 [8,2,0] m;simp only[↓Z,gH,lP,aaX,aa];refine Jq O ?_;intro u g6 e h i;replace m:=m.newB e h i;simp only[J];refine bJ m 7 O O uZ acg O (by decide) O O O (m.b 0 O).rowsO (fU O) (by omega) (by omega) ?_;intro j aT u m;simp only[zF,zG] at m;apply kZ 3 [8] m;simp only[↓Z,gH,lP,aa];intro u m;replace m:=m.pull 10 O;simp only[bG,bH,zF,zG] at m;replace m:=m.pull 10 O;simp only[bG,bH,zF,zG] at m;replace m:=m.pull 10 O;simp only[bG,bH,zF,zG] at m;replace m:=m.pull 10 O;simp only[bG,bH,zF,zG] at m;replace m:=m.pull 10 O;simp only[bG,bH,zF,zG] at m;replace m:=m.pull 6 O;simp only[bG,bH,zF,zG] at m;replace m:=m.pull 10 O;simp only[bG,bH,zF,zG] at m;replace m:=m.pull 10 O;simp only[bG,bH,zF,zG] at m;replace m:=m.pull 10 O;simp only[bG,bH,zF,zG] at m;apply aQ 6 [0] m;simp only[↓Z];apply R;omega;exact ah (nc-(k+1)) _ _ (by omega) (by kernel_rfl) ⟨k+1,_,_,_,(xs++[t]),O,((m.reO 5 O ((m.o 5 O).as (show _=(xs++[t]).flatMap Fx by rw[au,P];rfl))).sel [N,N,N,N,N,N,N,N,N,X7,X7]),r.cl (by rw[P];exact⟨ad.it,ar⟩),(by simp;omega),by omega,by omega,rfl⟩
 obtain rfl:nc=l:=by omega
 apply F 7 [0] m;simp only[↓Z];refine bT [6] [7,31,32,33,34,35,36,37,38,39,40,41,42,43,44,45,46,47,48,49,50,51,52,53,54,55,56,57,58,59,60,61,62,63] (λn vs D=>∃(k p:Nat)(C:Option Addr)(L:Nat)(ys:List vN),vs=[U (k:Int)]/\Mem w D [fN (ys.map (mIt 176)),fN (ys.map (oIt 3)),fN (ys.map (Zx 3)),fN (xs.map (tIt 43)),oI 70 8 C p L (ys.flatMap Em),oI 65 3 j nc z (xs.flatMap Fx),bI X [.slice j nc z,.slice C p L] 31,bI W [.slice X8 0 0,.slice X8 0 0] 31,bI V [.slice A nc cc,.slice B ng cg] 31]/\(uO 300 xs ys)/\(ys.length=p)/\(p=k)/\(k<=ng)/\(n=ng-k)) ?_ ?_
 .exact⟨_,0,_,_,_,[],O,m,r,O,O,by omega,O⟩
 intro n vs wr q u K2 ai
 obtain⟨k,p,C,L,ys,rfl,m,r,aP,aR,hk,hn⟩:=q;simp only[zu,zF,zG];apply F 9 [9,0,0] m;simp only[↓Z,jH,oA,Ae,aa];refine aZ O ?_ ?_<;>intro aD
 .obtain⟨gp,a2,I,ci,O0,co,M,cm,hg,rfl,ay,q,hO,hM,aE,aG,aF⟩:=Y.gp (k:=k) (by omega);obtain⟨aJ,⟨am,ao,ap⟩,aq⟩:=al gp (ak hg);apply F 9 [9,0] m;simp only[↓Z,jH,oA,Lp,aa,ab,ae];apply R;omega;refine bA O ((ay.ext m.ext).lies Xq qK) ?_;simp only[J];apply kZ 5 [0,0] m;simp only[↓Z,aib,ad1,aa];intro g4 u m;refine wK cF (c:=1) (by kernel_rfl)  ?_;intro u g5 e h i;replace m:=m.newB e h i;simp only[J];replace m:=m.own 0 O (n:=0) (c:=1) O (eU O);simp only[zG] at m;apply aL 2 [2,0] m;simp only[↓Z,rK,Ek,aa];refine bJ m 0 O O cF gM O (by decide) O O (by rw[dZ in1]) ((q.ext m.ext).cells in1 (by decide)) (Zj _) (by omega) (by omega) ?_;intro K Q u m;simp only[zF,zG] at m;rw[cv,ae] at m;rw[ae];apply kZ 5 [1,0] m;simp only[↓Z,rK,Ek,aa];intro u m;refine wK cF (c:=1) (by kernel_rfl)  ?_;intro u g6 e h i;replace m:=m.newB e h i;simp only[J];replace m:=m.own 0 O (n:=0) (c:=1) O (eU O);simp only[zG] at m;apply aL 2 [3,0] m;simp only[↓Z,vJ,Ek,aa];refine bJ m 0 O O cF gM O (by decide) O O (by rw[dZ in1]) ((hO.ext m.ext).cells in1 (by decide)) (Zj _) (by omega) (by omega) ?_;intro af av u m;simp only[zF,zG] at m;rw[cv,ae] at m;rw[ae];apply kZ 5 [2,0] m;simp only[↓Z,vJ,Ek,aa];intro u m;refine wK vA (c:=6) (by kernel_rfl)  ?_;intro u g7 e h i;replace m:=m.newB e h i;simp only[J];replace m:=m.own 0 O (n:=0) (c:=6) O (eU O);simp only[zG] at m;apply aL 2 [4,0] m;simp only[↓Z,Nj,am2,aa];refine bJ m 0 O O vA Nf O (by decide) O O (by rw[dZ Bk]) ((hM.ext m.ext).cells Bk (by decide)) (Jg _) (by omega) (by omega) ?_;intro ag aw u m;simp only[zF,zG] at m;rw[cv,ae] at m;rw[ae];apply kZ 3 [3] m;simp only[↓Z,Nj,am2,aa];intro u m;replace m:=m.pull 6 O;simp only[bG,bH,zF,zG] at m;replace m:=m.pull 3 O;simp only[bG,bH,zF,zG] at m;obtain⟨y,s⟩:∃y:vN,y=⟨gp.lv,⟨K,Q,gp.ins⟩,⟨af,av,gp.outs⟩,⟨ag,aw,gp.mv⟩,gp.er,gp.tot,gp.dl⟩:=⟨_,rfl⟩
  replace m:=Mem.bagSnoc (f:=(Zx 3)) (x:=y) (m.cast0 (by rw[s];rfl));replace m:=m.pull 5 O;simp only[bG,bH,zF,zG] at m;replace m:=m.pull 3 O;simp only[bG,bH,zF,zG] at m;replace m:=Mem.bagSnoc (f:=(oIt 3)) (x:=y) (m.cast0 (by rw[s];rfl));replace m:=m.pull 4 O;simp only[bG,bH,zF,zG] at m;replace m:=m.pull 3 O;simp only[bG,bH,zF,zG] at m;replace m:=Mem.bagSnoc (f:=(mIt 176)) (x:=y) (m.cast0 (by rw[s];rfl));apply aQ 4 [8,4,0] m;simp only[↓Z,jH,oA,ad1,aa];refine Jr O ?_;intro u g8 e h i;replace m:=m.newB e h i;simp only[J];refine bJ m 6 O O wU ach O (by decide) O O O (m.b 0 O).rowsO (fU O) (by omega) (by omega) ?_;intro C aU u m;simp only[zF,zG] at m;apply kZ 3 [8] m;simp only[↓Z,jH,oA,aa];intro u m;replace m:=m.pull 10 O;simp only[bG,bH,zF,zG] at m;replace m:=m.pull 10 O;simp only[bG,bH,zF,zG] at m;replace m:=m.pull 10 O;simp only[bG,bH,zF,zG] at m;replace m:=m.pull 10 O;simp only[bG,bH,zF,zG] at m;replace m:=m.pull 10 O;simp only[bG,bH,zF,zG] at m;replace m:=m.pull 10 O;simp only[bG,bH,zF,zG] at m;replace m:=m.pull 9 O;simp only[bG,bH,zF,zG] at m;replace m:=m.pull 9 O;simp only[bG,bH,zF,zG] at m;replace m:=m.pull 9 O;simp only[bG,bH,zF,zG] at m;apply aQ 6 [0] m;simp only[↓Z];apply R;omega;exact ai (ng-(k+1)) _ _ (by omega) (by kernel_rfl) ⟨k+1,_,_,_,(ys++[y]),O,((m.reO 4 O ((m.o 4 O).as (show _=(ys++[y]).flatMap Em by rw[au,s];rfl))).sel [N,N,N,N,N,N,N,N,N,X7,X7]),r.gp (by rw[s];exact⟨⟨am,ao,ap⟩,aq⟩),(by simp;omega),by omega,by omega,rfl⟩
 obtain rfl:ng=p:=by omega
 apply F 2 [] m;simp only[↓Z];replace m:=m.pull 5 O;simp only[bG,bH,zF,zG] at m;replace m:=m.pull 5 O;simp only[bG,bH,zF,zG] at m;replace m:=m.pull 5 O;simp only[bG,bH,zF,zG] at m;replace m:=m.pull 5 O;simp only[bG,bH,zF,zG] at m;replace m:=m.pull 5 O;simp only[bG,bH,zF,zG] at m;replace m:=m.pull 5 O;simp only[bG,bH,zF,zG] at m;apply uR 5 [7,7] m;simp only[↓Z,jI,aa];intro u m;exact aS O ⟨_,O,((m.b 7 O).full lE gE)⟩ ⟨_,O,m.ext,_,_,_,_,xs,ys,O,⟨by omega,by omega⟩,r,m.sel [N,N,N,N,N,N,X7,X7,X7]⟩
def vQ{n k:Int}[Iw n](a:0<k)(b:k<4611686018427387904):dO X9 20 [U n,U k] (U (n%k)):=by
 intro w;refine⟨bP func20 (by kernel_rfl),?_⟩;have m:=Mem.refl w;have c:=amN (n:=n) a
 go_enter func20,ntmps20
 apply iD 8 [0] m;simp only[↓Z];refine aA (cS O O (by omega) O) ?_;apply aL 3 [0] m;simp only[↓Z];apply R;omega;refine aA (cS O O (by omega) (akX a)) ?_;apply aL 3 [] m;simp only[↓Z];exact aS O O ⟨_,O,m.ext,O⟩
def Cp{z:Int}{n:Nat}[Iw z](c:(z%(n:Int)).toNat=i)(a:0<n)(b:n<4611686018427387904):dO X9 20 [U z,U (n:Int)] (U (i:Int)):=by
 have:=vQ (n:=z) (k:=(n:Int)) (by omega) (by omega);rwa [show z%(n:Int)=(i:Int) by have:=oo z (show (n:Int)≠0 by omega);omega] at this
def amq(x:Int):gF (IntKind.i64.wrap x):=by
 unfold gF IntKind.wrap;simp only[IntKind.bits,IntKind.signed,Bool.true_and,ge_iff_le,Y2];split<;>omega
def Zv{α:Type}{enc:α->List am}{c:Nat}{xs:List α}{x x':α}(b:∀x,(enc x).length=c)(a:xs[i]? = H x)(h:enc x'=enc x):(xs.set i x').flatMap enc=xs.flatMap enc:=by
 rw[mc,mc,eA a h]
def aj8{n:Int}(h:gF n):Bd 64 n:=by haveI:Iw n:=⟨h⟩;exact K.up
def arO{c:Nat}(a:c<3):(aP t)[c*3]? = H (U (t.cor c).x):=by
 have:c=0\/c=1\/c=2:=by omega
 rcases this with rfl|rfl|rfl<;>rfl
def aqb{c:Nat}{r:Int}(h:ts[k]? = H t)(a:c<3):over (ts.flatMap aP) (k*9+c*3) [U r]=(ts.set k (t.setC c ⟨r,(t.cor c).y,(t.cor c).z⟩)).flatMap aP:=by
 have:c=0\/c=1\/c=2:=by omega
 rcases this with rfl|rfl|rfl
 .exact lS (enc:=aP) [] [_] [_] _ Pb h O O O O
 .exact lS (enc:=aP) [_,_,_] [_] [_] _ Pb h O O O O
 exact lS (enc:=aP) [_,_,_,_,_,_] [_] [_] _ Pb h O O O O
def zX{B:Option Addr}{q0 q1 K q3:Int}[Iw q0][Iw q1][Iw K][Iw q3](w:an)(hG:GrAt w A B G)(a2:G.cs.length=nc)(a3:G.gs.length=ng)(aU:nc<=40000)(aW:ng<=200000)(aX:∀x∈G.cs,x.ts.length<=2000)(a0:∀g∈G.gs,gF g.tot/\(g.ins.length<=1000000/\g.outs.length<=1000000/\g.mv.length<=1000000)/\Bd 300 g.dl):cX X9 6 [.agg #[.slice A nc cc,.slice B ng cg],.agg #[U q0,U q1,U K,U q3]] w (λv w'=>∃(A' B':Option Addr)(n c m' d:Nat)(xs:List oH)(ys:List vN),v=.agg #[.slice A' n c,.slice B' m' d]/\(xs.length=n/\n<=c/\n<=40000)/\(ys.length=m'/\m'<=d/\m'<=200001)/\uO 301 xs ys/\Mem w w' [fN (ys.map (mIt 176)),fN (ys.map (oIt 3)),fN (ys.map (Zx 3)),fN (xs.map (tIt 43)),oI 70 8 B' m' d (ys.flatMap Em),oI 65 3 A' n c (xs.flatMap Fx)]):=by
 refine⟨bP func6 (by kernel_rfl),?_⟩;have m:=Mem.refl w
 go_enter func6,ntmps6
 apply gJ 4 [] m;simp only[↓Z];intro g1 g2 u m;apply uR 5 [3,0] m;simp only[↓Z,aaV,jI];intro g3 u m;refine bB O O (aj7 _ (hG.ext m.ext) a2 a3 aU aW aX a0) ?_;rintro v u Y ⟨a7,aE,c,d,xs,ys,rfl,⟨bn,bp⟩,I,hM⟩;replace m:=m.plus hM;clear hM;simp only[dx,cv] at m;apply kZ 4 [0] m;simp only[↓Z,aaV,jI,aa];intro g4 u m;apply aQ 8 [1,0,5,1,0] m;simp only[↓Z,gH,lP,El,jH,oA,Ae,aa];refine λ_=>?_;apply aQ 1 [0] m;simp only[↓Z];refine dH O ?_ ?_<;>intro a1
 .apply qW 6 [1,7] m;simp only[↓Z,jI,aa];intro u m;exact aS O ⟨_,O,((m.b 7 O).full lE gE)⟩ ⟨_,O,m.ext,_,_,_,_,_,_,_,_,O,⟨(by first|omega|(simp;omega)),(m.o 6 rfl).le,by omega⟩,⟨(by first|omega|(simp;omega)),(m.o 5 rfl).le,by omega⟩,(I.mono (by decide)),(((((((m.pull 6 rfl).pull 6 rfl).pull 6 rfl).pull 6 rfl).pull 6 rfl).pull 6 rfl).sel [N,N,N,N,N,N,X7,X7,X7,X7])⟩
 have bl:0<nc/\0<ng:=by simp at a1;omega
 have bo:=I.g;apply F 2 [] m;simp only[↓Z];obtain⟨a8,rfl⟩:=(m.o 6 rfl).some (by omega);obtain⟨i,hi⟩:∃i,(q1%(nc:Int)).toNat=i:=⟨_,rfl⟩
 have bj:i<nc:=by rw[<-hi];exact Is (by omega)
 obtain⟨x,M⟩:∃x,xs[i]? = H x:=⟨_,ah (by omega)⟩
 refine gc (mq m aB (by kernel_rfl) ?_);refine cW 4 [1,9] ?_;simp only[↓Z,gH,lP,Lo,dN,aa,ac,C];apply R;omega;refine cW 3 [1] ?_;simp only[↓Z,gH,lP,El,aa];refine X O O (Cp (z:=q1) (n:=nc) (i:=i) hi (by omega) (by omega)) (cW 2 [] ?_);simp only[↓Z,sB,ab,ae];apply R;omega;refine bD ?_;intro u m;apply aQ 1 [] m;simp only[↓Z];obtain⟨a9,rfl⟩:=(m.o 5 rfl).some (by omega);obtain⟨j,hj⟩:∃i,(q1%(ng:Int)).toNat=i:=⟨_,rfl⟩
 have bk:j<ng:=by rw[<-hj];exact Is (by omega)
 obtain⟨y,e⟩:∃x,ys[j]? = H x:=⟨_,ah (by omega)⟩
 refine gc (mq m aB (by kernel_rfl) ?_);refine cW 4 [1,9] ?_;simp only[↓Z,jH,oA,Lo,dN,aa,ac,C];apply R;omega;refine cW 3 [1] ?_;simp only[↓Z,jH,oA,Ae,aa];refine X O O (Cp (z:=q1) (n:=ng) (i:=j) hj (by omega) (by omega)) (cW 2 [] ?_);simp only[↓Z,Lp,ab,ae];apply R;omega;refine bD ?_;intro u m;apply aQ 1 [] m;simp only[↓Z];have e1:=oo K (show (((nc:Int)+2):Int)≠0 by omega);have e2:=oq K (show 0<(((nc:Int)+2):Int) by omega);apply aQ 5 [9,1] m;simp only[↓Z,Lo,dN,gH,lP,ac,C,aa];apply R;omega;apply aQ 2 [0] m;simp only[↓Z,El];apply R;omega;refine iE m O O (vQ (n:=K) (k:=((nc:Int)+2)) (by omega) (by omega)) 3 [] ?_;simp only[↓Z];apply R;omega;intro u m;obtain⟨zn,a5⟩:∃z,K%((nc:Int)+2)-1=z:=⟨_,rfl⟩
 rw[a5];apply aQ 5 [9,0] m;simp only[↓Z,Lo,dN,ac,C,aa];apply R;omega;refine iE m O O (vQ (n:=q0) (k:=12) (by omega) (by omega)) 7 [0,0] ?_;simp only[↓Z];intro u m;refine aZ O ?_ ?_<;>intro ba
 .have e1:=oo K (show (((ng:Int)+3):Int)≠0 by omega);have e2:=oq K (show 0<(((ng:Int)+3):Int) by omega);apply F 6 [9,1] m;simp only[↓Z,Lo,dN,jH,oA,ac,C,aa];apply R;omega;apply aQ 2 [0] m;simp only[↓Z,Ae];apply R;omega;refine iE m O O (vQ (n:=K) (k:=((ng:Int)+3)) (by omega) (by omega)) 3 [0] ?_;simp only[↓Z,kT,aa];apply R;omega;intro u m;refine kR (off:=(i*3+1)) m 6 O O O bC (show i*3+1+1<=nc*3 by omega) O ?_;intro u m;simp only[zF,zG] at m;try simp only[zA,zB,zC,zD,zE] at m
  obtain⟨Q,T⟩:∃z:oH,z={ x with made:=K%((ng:Int)+3)-2 }:=⟨_,rfl⟩
  rw[lS (enc:=Fx) (n:=i*3+1) (x':=Q) [_] [_] [U (K%((ng:Int)+3)-2)] _ Vl M rfl (by rw[T];rfl) rfl rfl] at m;apply aL 1 [] m;simp only[↓Z];rw[<-eA (f:=(tIt 43)) (L:=xs) (x':=Q) M (by rw[T];rfl)] at m;apply uR 6 [1,7] m;simp only[↓Z,jI,aa];intro u m;apply aQ 1 [] m;simp only[↓Z];exact aS O ⟨_,O,((m.b 7 O).full lE gE)⟩ ⟨_,O,m.ext,_,_,_,_,_,_,_,_,O,⟨(by first|omega|(simp;omega)),(m.o 6 rfl).le,by omega⟩,⟨(by first|omega|(simp;omega)),(m.o 5 rfl).le,by omega⟩,(uO.cset (i:=i) (x:=Q) (I.mono (by decide)) (by rw[T];exact I.c x (ak M))),(((((((m.pull 6 O).pull 6 O).pull 6 O).pull 6 O).pull 6 O).pull 6 O).sel [N,N,N,N,N,N,X7,X7,X7,X7])⟩
 apply F 5 [0,0] m;simp only[↓Z];refine aZ O ?_ ?_<;>intro bb
 .have e1:=oo K (show (((ng:Int)+3):Int)≠0 by omega);have e2:=oq K (show 0<(((ng:Int)+3):Int) by omega);apply F 6 [9,1] m;simp only[↓Z,Lo,dN,jH,oA,ac,C,aa];apply R;omega;apply aQ 2 [0] m;simp only[↓Z,Ae];apply R;omega;refine iE m O O (vQ (n:=K) (k:=((ng:Int)+3)) (by omega) (by omega)) 3 [0] ?_;simp only[↓Z,nX,aa];apply R;omega;intro u m;refine kR (off:=(i*3+2)) m 6 O O O bC (show i*3+2+1<=nc*3 by omega) O ?_;intro u m;simp only[zF,zG] at m;try simp only[zA,zB,zC,zD,zE] at m
  obtain⟨Q,T⟩:∃z:oH,z={ x with used:=K%((ng:Int)+3)-2 }:=⟨_,rfl⟩
  rw[lS (enc:=Fx) (n:=i*3+2) (x':=Q) [_,_] [_] [U (K%((ng:Int)+3)-2)] _ Vl M rfl (by rw[T];rfl) rfl rfl] at m;apply aL 1 [] m;simp only[↓Z];rw[<-eA (f:=(tIt 43)) (L:=xs) (x':=Q) M (by rw[T];rfl)] at m;apply uR 6 [1,7] m;simp only[↓Z,jI,aa];intro u m;apply aQ 1 [] m;simp only[↓Z];exact aS O ⟨_,O,((m.b 7 O).full lE gE)⟩ ⟨_,O,m.ext,_,_,_,_,_,_,_,_,O,⟨(by first|omega|(simp;omega)),(m.o 6 rfl).le,by omega⟩,⟨(by first|omega|(simp;omega)),(m.o 5 rfl).le,by omega⟩,(uO.cset (i:=i) (x:=Q) (I.mono (by decide)) (by rw[T];exact I.c x (ak M))),(((((((m.pull 6 O).pull 6 O).pull 6 O).pull 6 O).pull 6 O).pull 6 O).sel [N,N,N,N,N,N,X7,X7,X7,X7])⟩
 apply F 5 [0,0] m;simp only[↓Z];refine aZ O ?_ ?_<;>intro bc
 .have aj:=(I.g y (ak e)).1;replace m:=m.pull 3 O;simp only[bG,bH,zF,zG] at m;replace m:=m.bagPull j (j:=(Zx 3) y) (by rw[dc,e];rfl);replace m:=m.cast0 (b:=oI 3 1 y.i.A y.i.l.length y.i.cap (y.i.l.flatMap nB)) O;apply F 5 [0] m;simp only[↓Z,rK,aa];refine bA O (lies1 (fY (m.o 6 O) Sj e 1 (u:=.slice y.i.A y.i.l.length y.i.cap) O) mA) ?_;simp only[J];apply aL 1 [0] m;simp only[↓Z];refine cO cF (z:=U 0) (by kernel_rfl) O O O ?_;intro u g5 Y h_ k_;replace m:=m.newB Y h_ k_;simp only[J];refine bJ m 1 O O cF gM O (by decide) O O O (m.b 0 O).rowsO (fU O) (by omega) (by omega) ?_;intro am ax u m;simp only[zF,zG] at m;simp only[zA,zB,zC,zD,zE] at m;apply aL 2 [0] m;simp only[↓Z,rK,aa];refine kR (off:=(j*8+1)) m 7 O O O iF (show j*8+1+1<=ng*8 by omega) O ?_;intro u m;simp only[zF,zG] at m;try simp only[zA,zB,zC,zD,zE] at m
  obtain⟨p,E⟩:∃z:vN,z={ y with i:=⟨am,ax,y.i.l++[zn]⟩ }:=⟨_,rfl⟩
  rw[lS (enc:=Em) (n:=j*8+1) (x':=p) [_] [_] [.slice am (y.i.l.length+1) ax] _ Sj e rfl (by rw[E];simp[Em,Sl.v]) rfl rfl] at m;apply aL 1 [] m;simp only[↓Z];replace m:=m.pull 2 O;simp only[bG,bH,zF,zG] at m;replace m:=m.pull 2 O;simp only[bG,bH,zF,zG] at m;replace m:=Mem.bagSet (f:=(Zx 3)) (i:=j) (x:=p) (by omega) (m.cast0 (by rw[E];simp[Zx,Sl.it,nB]));rw[<-eA (f:=(oIt 3)) (L:=ys) (x':=p) e (by rw[E];rfl)] at m;rw[<-eA (f:=(mIt 176)) (L:=ys) (x':=p) e (by rw[E];rfl)] at m;apply uR 6 [3,8] m;simp only[↓Z,jI,aa];intro u m;apply aQ 1 [] m;simp only[↓Z];exact aS O ⟨_,O,((m.b 8 O).full lE gE)⟩ ⟨_,O,m.ext,_,_,_,_,_,_,_,_,O,⟨(by first|omega|(simp;omega)),(m.o 7 rfl).le,by omega⟩,⟨(by first|omega|(simp;omega)),(m.o 6 rfl).le,by omega⟩,(uO.gset (i:=j) (y:=p) (I.mono (by decide)) (by rw[E];have h:=I.g y (ak e);exact⟨⟨by show (y.i.l++[zn]).length<=1000001;simp;omega,f_ h.1.2.1,h.1.2.2⟩,h.2.mono (by decide)⟩)),(((((((m.pull 7 rfl).pull 7 rfl).pull 7 rfl).pull 3 rfl).pull 7 rfl).pull 7 rfl).sel [N,N,N,N,N,N,X7,X7,X7,X7,X7])⟩
 apply F 5 [0,0] m;simp only[↓Z];refine aZ O ?_ ?_<;>intro bd
 .have aj:=(I.g y (ak e)).1;replace m:=m.pull 2 O;simp only[bG,bH,zF,zG] at m;replace m:=m.bagPull j (j:=(oIt 3) y) (by rw[dc,e];rfl);replace m:=m.cast0 (b:=oI 3 1 y.o.A y.o.l.length y.o.cap (y.o.l.flatMap nB)) O;apply F 5 [0] m;simp only[↓Z,vJ,aa];refine bA O (lies1 (fY (m.o 6 O) Sj e 2 (u:=.slice y.o.A y.o.l.length y.o.cap) O) mA) ?_;simp only[J];apply aL 1 [0] m;simp only[↓Z];refine cO cF (z:=U 0) (by kernel_rfl) O O O ?_;intro u g5 Y h_ k_;replace m:=m.newB Y h_ k_;simp only[J];refine bJ m 1 O O cF gM O (by decide) O O O (m.b 0 O).rowsO (fU O) (by omega) (by omega) ?_;intro ao ay u m;simp only[zF,zG] at m;simp only[zA,zB,zC,zD,zE] at m;apply aL 2 [0] m;simp only[↓Z,vJ,aa];refine kR (off:=(j*8+2)) m 7 O O O iF (show j*8+2+1<=ng*8 by omega) O ?_;intro u m;simp only[zF,zG] at m;try simp only[zA,zB,zC,zD,zE] at m
  obtain⟨p,E⟩:∃z:vN,z={ y with o:=⟨ao,ay,y.o.l++[zn]⟩ }:=⟨_,rfl⟩
  rw[lS (enc:=Em) (n:=j*8+2) (x':=p) [_,_] [_] [.slice ao (y.o.l.length+1) ay] _ Sj e rfl (by rw[E];simp[Em,Sl.v]) rfl rfl] at m;apply aL 1 [] m;simp only[↓Z];replace m:=m.pull 2 O;simp only[bG,bH,zF,zG] at m;replace m:=m.pull 2 O;simp only[bG,bH,zF,zG] at m;replace m:=Mem.bagSet (f:=(oIt 3)) (i:=j) (x:=p) (by omega) (m.cast0 (by rw[E];simp[oIt,Sl.it,nB]));rw[<-eA (f:=(Zx 3)) (L:=ys) (x':=p) e (by rw[E];rfl)] at m;rw[<-eA (f:=(mIt 176)) (L:=ys) (x':=p) e (by rw[E];rfl)] at m;apply uR 6 [3,8] m;simp only[↓Z,jI,aa];intro u m;apply aQ 1 [] m;simp only[↓Z];exact aS O ⟨_,O,((m.b 8 O).full lE gE)⟩ ⟨_,O,m.ext,_,_,_,_,_,_,_,_,O,⟨(by first|omega|(simp;omega)),(m.o 7 rfl).le,by omega⟩,⟨(by first|omega|(simp;omega)),(m.o 6 rfl).le,by omega⟩,(uO.gset (i:=j) (y:=p) (I.mono (by decide)) (by rw[E];have h:=I.g y (ak e);exact⟨⟨f_ h.1.1,by show (y.o.l++[zn]).length<=1000001;simp;omega,h.1.2.2⟩,h.2.mono (by decide)⟩)),(((((((m.pull 7 rfl).pull 7 rfl).pull 7 rfl).pull 7 rfl).pull 4 rfl).pull 7 rfl).sel [N,N,N,N,N,N,X7,X7,X7,X7,X7])⟩
 apply F 5 [0,0] m;simp only[↓Z];refine aZ O ?_ ?_<;>intro be
 .have aj:=(I.g y (ak e)).1;replace m:=m.pull 3 O;simp only[bG,bH,zF,zG] at m;replace m:=m.bagPull j (j:=(Zx 3) y) (by rw[dc,e];rfl);replace m:=m.cast0 (b:=oI 3 1 y.i.A y.i.l.length y.i.cap (y.i.l.flatMap nB)) O;have bz:=(m.o 0 rfl).le;refine vL m [N,N,N,N,N,N,N,N,N,N,N] [14] (.take 0 (.take 1 (.take 2 (.take 3 (.take 4 (.take 5 (.take 6 (.take 7 (.take 8 (.take 9 (.take 10 (.take 11 (.take 12 (.take 13 (.one 14 .nil))))))))))))))) aB (by kernel_rfl) (bR (λ_ _ _ _ _ h=>h)) ?_;intro u m;refine D (by simp only[zw];rfl) (aV aF (aT (D (by simp only[zw];rfl) (aV aF (aT (D (by simp only[zw];rfl) (aV (cN rfl) (aT (D (by simp only[zw];rfl) (aV (aO (c:=0) oN rfl iF rfl rfl) ?_))))))))));simp only[J];refine aT (D (by simp only[zw];rfl) (eK rfl (λu m=>(lies1 (fY (m.o 6 rfl) Sj e 1 (u:=.slice y.i.A y.i.l.length y.i.cap) rfl) mA)) ?_));simp only[J];refine aT (D (by simp only[zw];rfl) (aV aF (aT (D (by simp only[zw];rfl) (aV (cN rfl) (aT (D (by simp only[zw];rfl) (aV (aO (c:=0) oN rfl iF rfl rfl) (aT (D (by simp only[zw];rfl) ?_))))))))));simp only[J];refine eK O (λu m=>(lies1 (fY (m.o 6 O) Sj e 1 (u:=.slice y.i.A y.i.l.length y.i.cap) O) mA)) ?_;simp only[J];refine aT (D (by simp only[zw];rfl) (aV (iL rfl cF rfl) (aT (D (by simp only[zw];rfl) ?_))));simp only[J];refine aV (gL O O (by omega) (show IntKind.i64.wrap ((y.i.l.length:Int).tdiv 2)=((y.i.l.length / 2:Nat):Int) from by rw[show (y.i.l.length:Int).tdiv 2=((y.i.l.length / 2:Nat):Int) from O];exact bN (by omega) (by omega))) (aT (D (by simp only[zw];rfl) ?_));simp only[J];refine aV (gR cF bC O O (ab _) (by omega) (by omega)) (aT (D (by simp only[zw];rfl) (aV (cN rfl) (aT (D (by simp only[zw];rfl) (aV (aO (c:=0) oN rfl iF rfl rfl) (aT (jJ (by simp only[zw];rfl) ?_))))))));simp only[J];refine kR (off:=(j*8+1)) m 6 O O O iF (show j*8+1+1<=ng*8 by omega) O ?_;intro u m;simp only[zF,zG] at m;try simp only[zA,zB,zC,zD,zE] at m
  obtain⟨p,E⟩:∃z:vN,z={ y with i:=⟨y.i.A,y.i.cap,y.i.l.take (y.i.l.length / 2)⟩ }:=⟨_,rfl⟩
  rw[lS (enc:=Em) (n:=j*8+1) (x':=p) [_] [_] [.slice y.i.A (y.i.l.length / 2) y.i.cap] _ Sj e rfl (by rw[E];simp[Em,Sl.v];omega) rfl rfl] at m;refine S ⟨λh=>Y0 (by decide) h,?_⟩;refine vM ?_;replace m:=m.reO 0 O ((m.o 0 O).latK in1 (by decide) (show y.i.l.length / 2<=y.i.l.length by omega));simp only[zF,zG] at m;replace m:=m.pull 1 O;simp only[bG,bH,zF,zG] at m;replace m:=m.pull 1 O;simp only[bG,bH,zF,zG] at m;replace m:=Mem.bagSet (f:=(Zx 3)) (i:=j) (x:=p) (by omega) (m.cast0 (by rw[E];show oI _ _ _ _ _ _=oI _ _ _ (iz _) _ _;rw[bf,de (by omega)]));rw[<-eA (f:=(oIt 3)) (L:=ys) (x':=p) e (by rw[E];rfl)] at m;rw[<-eA (f:=(mIt 176)) (L:=ys) (x':=p) e (by rw[E];rfl)] at m;apply uR 6 [2,7] m;simp only[↓Z,jI,aa];intro u m;apply aQ 1 [] m;simp only[↓Z];exact aS O ⟨_,O,((m.b 7 O).full lE gE)⟩ ⟨_,O,m.ext,_,_,_,_,_,_,_,_,O,⟨(by first|omega|(simp;omega)),(m.o 6 rfl).le,by omega⟩,⟨(by first|omega|(simp;omega)),(m.o 5 rfl).le,by omega⟩,(uO.gset (i:=j) (y:=p) (I.mono (by decide)) (by rw[E];have h:=I.g y (ak e);exact⟨⟨by show (List.take _ _).length<=1000001;simp;omega,f_ h.1.2.1,h.1.2.2⟩,h.2.mono (by decide)⟩)),(((((((m.pull 6 rfl).pull 6 rfl).pull 6 rfl).pull 3 rfl).pull 6 rfl).pull 6 rfl).sel [N,N,N,N,N,N,X7,X7,X7,X7])⟩
 apply F 5 [0,0] m;simp only[↓Z];refine aZ O ?_ ?_<;>intro bg
 .refine vL m [N,N,N,N,N,N,N,N,N,N] [12] (.take 0 (.take 1 (.take 2 (.take 3 (.take 4 (.take 5 (.take 6 (.one 7 (.take 8 (.take 9 (.take 10 (.take 11 (.one 12 .nil))))))))))))) aB (by kernel_rfl) (bR (λ_ _ _ _ _ h=>h)) ?_;intro u m;refine D (by simp only[zw];rfl) (aV aF (aT (D (by simp only[zw];rfl) (aV aF (aT (D (by simp only[zw];rfl) (aV (cN rfl) (aT (D (by simp only[zw];rfl) (aV (aO (c:=0) oN rfl bC rfl rfl) ?_))))))))));simp only[J];refine aT (D (by simp only[zw];rfl) (eK rfl (λu m=>(lies1 (fY (m.o 5 rfl) Sj e 4 (u:=iV y.er) rfl) bW)) ?_));simp only[J];refine aT (D (by simp only[zw];rfl) (aV (aR underlying23 bC rfl rfl (by decide) (by decide) rfl) (aT (D (by simp only[zw];rfl) ?_))));simp only[J];refine eK O (λu m=>((m.b 8 O).lies1 bW O)) ?_;simp only[J];refine aT (jJ (by simp only[zw];rfl) ?_);refine eV m O O (vQ (n:=K) (k:=3) (by omega) (by omega)) ?_;intro u m;refine S ⟨λ_=>m,?_⟩;refine D (by simp only[zw];rfl) (aV (eH rfl rfl rfl) (aT (D (by simp only[zw];rfl) (aV (pW rfl rfl rfl) (aT (D (by simp only[zw];rfl) (aV (cN rfl) ?_)))))));simp only[J];refine aT (D (by simp only[zw];rfl) (aV (aO (c:=0) oN rfl bC rfl rfl) (aT (jJ (by simp only[zw];rfl) ?_))));simp only[J];refine kR (off:=(j*8+4)) m 5 O O O bC (show j*8+4+1<=ng*8 by omega) O ?_;intro u m;simp only[zF,zG] at m;try simp only[zA,zB,zC,zD,zE] at m
  obtain⟨p,E⟩:∃z:vN,z={ y with er:=IntKind.i64.wrap (IntKind.i64.wrap (y.er+K%3)-1) }:=⟨_,rfl⟩
  rw[lS (enc:=Em) (n:=j*8+4) (x':=p) [_,_,_,_] [_] [U (IntKind.i64.wrap (IntKind.i64.wrap (y.er+K%3)-1))] _ Sj e rfl (by rw[E];rfl) rfl rfl] at m;refine S ⟨λh=>Y0 (by decide) h,?_⟩;refine vM ?_;rw[<-eA (f:=(Zx 3)) (L:=ys) (x':=p) e (by rw[E];rfl)] at m;rw[<-eA (f:=(oIt 3)) (L:=ys) (x':=p) e (by rw[E];rfl)] at m;rw[<-eA (f:=(mIt 176)) (L:=ys) (x':=p) e (by rw[E];rfl)] at m;apply uR 6 [1,7] m;simp only[↓Z,jI,aa];intro u m;apply aQ 1 [] m;simp only[↓Z];exact aS O ⟨_,O,((m.b 7 O).full lE gE)⟩ ⟨_,O,m.ext,_,_,_,_,_,_,_,_,O,⟨(by first|omega|(simp;omega)),(m.o 6 rfl).le,by omega⟩,⟨(by first|omega|(simp;omega)),(m.o 5 rfl).le,by omega⟩,(uO.gset (i:=j) (y:=p) (I.mono (by decide)) (by rw[E];have h:=I.g y (ak e);exact⟨⟨f_ h.1.1,f_ h.1.2.1,h.1.2.2⟩,h.2.mono (by decide)⟩)),(((((((m.pull 6 O).pull 6 O).pull 6 O).pull 6 O).pull 6 O).pull 6 O).sel [N,N,N,N,N,N,X7,X7,X7,X7])⟩
 apply F 5 [0,0] m;simp only[↓Z];refine aZ O ?_ ?_<;>intro bh
 .refine vL m [N,N,N,N,N,N,N,N,N,N] [12] (.take 0 (.take 1 (.take 2 (.take 3 (.take 4 (.take 5 (.take 6 (.one 7 (.take 8 (.take 9 (.take 10 (.take 11 (.one 12 .nil))))))))))))) aB (by kernel_rfl) (bR (λ_ _ _ _ _ h=>h)) ?_;intro u m;refine D (by simp only[zw];rfl) (aV aF (aT (D (by simp only[zw];rfl) (aV aF (aT (D (by simp only[zw];rfl) (aV (cN rfl) (aT (D (by simp only[zw];rfl) (aV (aO (c:=0) oN rfl bC rfl rfl) ?_))))))))));simp only[J];refine aT (D (by simp only[zw];rfl) (eK rfl (λu m=>(lies1 (fY (m.o 5 rfl) Sj e 5 (u:=iV y.tot) rfl) bW)) ?_));simp only[J];refine aT (D (by simp only[zw];rfl) (aV (aR underlying23 bC rfl rfl (by decide) (by decide) rfl) (aT (D (by simp only[zw];rfl) ?_))));simp only[J];refine eK O (λu m=>((m.b 8 O).lies1 bW O)) ?_;simp only[J];refine aT (jJ (by simp only[zw];rfl) ?_);refine eV m O O (vQ (n:=K) (k:=3) (by omega) (by omega)) ?_;intro u m;refine S ⟨λ_=>m,?_⟩;refine D (by simp only[zw];rfl) (aV (eH rfl rfl rfl) (aT (D (by simp only[zw];rfl) (aV (pW rfl rfl rfl) (aT (D (by simp only[zw];rfl) (aV (cN rfl) ?_)))))));simp only[J];refine aT (D (by simp only[zw];rfl) (aV (aO (c:=0) oN rfl bC rfl rfl) (aT (jJ (by simp only[zw];rfl) ?_))));simp only[J];refine kR (off:=(j*8+5)) m 5 O O O bC (show j*8+5+1<=ng*8 by omega) O ?_;intro u m;simp only[zF,zG] at m;try simp only[zA,zB,zC,zD,zE] at m
  obtain⟨p,E⟩:∃z:vN,z={ y with tot:=IntKind.i64.wrap (IntKind.i64.wrap (y.tot+K%3)-1) }:=⟨_,rfl⟩
  rw[lS (enc:=Em) (n:=j*8+5) (x':=p) [_,_,_,_,_] [_] [U (IntKind.i64.wrap (IntKind.i64.wrap (y.tot+K%3)-1))] _ Sj e rfl (by rw[E];rfl) rfl rfl] at m;refine S ⟨λh=>Y0 (by decide) h,?_⟩;refine vM ?_;rw[<-eA (f:=(Zx 3)) (L:=ys) (x':=p) e (by rw[E];rfl)] at m;rw[<-eA (f:=(oIt 3)) (L:=ys) (x':=p) e (by rw[E];rfl)] at m;rw[<-eA (f:=(mIt 176)) (L:=ys) (x':=p) e (by rw[E];rfl)] at m;apply uR 6 [1,7] m;simp only[↓Z,jI,aa];intro u m;apply aQ 1 [] m;simp only[↓Z];exact aS O ⟨_,O,((m.b 7 O).full lE gE)⟩ ⟨_,O,m.ext,_,_,_,_,_,_,_,_,O,⟨(by first|omega|(simp;omega)),(m.o 6 rfl).le,by omega⟩,⟨(by first|omega|(simp;omega)),(m.o 5 rfl).le,by omega⟩,(uO.gset (i:=j) (y:=p) (I.mono (by decide)) (by rw[E];have h:=I.g y (ak e);exact⟨⟨f_ h.1.1,f_ h.1.2.1,h.1.2.2⟩,h.2.mono (by decide)⟩)),(((((((m.pull 6 O).pull 6 O).pull 6 O).pull 6 O).pull 6 O).pull 6 O).sel [N,N,N,N,N,N,X7,X7,X7,X7])⟩
 apply F 5 [0,0] m;simp only[↓Z];refine aZ O ?_ ?_<;>intro bi
 .refine vL m [N,N,N,N,N,N,N,N,N,N] [13] (.take 0 (.take 1 (.take 2 (.take 3 (.take 4 (.take 5 (.take 6 (.one 7 (.take 8 (.one 9 (.one 10 (.take 11 (.take 12 (.one 13 .nil)))))))))))))) aB (by kernel_rfl) (bR (λ_ _ _ _ _ h=>h)) ?_;intro u m;refine D (by simp only[zw];rfl) (aV aF (aT (D (by simp only[zw];rfl) (aV aF (aT (D (by simp only[zw];rfl) (aV (cN rfl) (aT (D (by simp only[zw];rfl) (aV (aO (c:=1) oN rfl aJ rfl rfl) ?_))))))))));simp only[J];refine aT (D (by simp only[zw];rfl) (eK rfl (λu m=>(show eZ _ _ _ _ (W y.dl) from (aj6 (m.o 5 rfl) Sj e 6 rfl).lies bE aJ)) ?_));simp only[J];refine aT (D (by simp only[zw];rfl) (aV (aR underlying23 bC rfl rfl (by decide) (by decide) rfl) (aT (D (by simp only[zw];rfl) ?_))));simp only[J];refine eK O (λu m=>((m.b 8 O).lies1 bW O)) ?_;simp only[J];refine aT (jJ (by simp only[zw];rfl) ?_);refine eV m O O (vQ (n:=K) (k:=3) (by omega) (by omega)) ?_;intro u m;refine S ⟨λ_=>m,?_⟩;refine D (by simp only[zw];rfl) ?_;simp only[J];refine aV (pW O O (bN (by omega) (by omega))) (aT (jJ (by simp only[zw];rfl) ?_));simp only[J];refine eV m O O (iT (n:=K%3-1) (show gF _ by unfold gF;omega)) ?_;intro u m;refine S ⟨λ_=>m,?_⟩;refine jJ (by simp only[zw];rfl) ?_;simp only[J];refine eV m O O (uJ (a:=y.dl) (b:=K%3-1) ((I.g y (ak e)).2.mono (by decide)) ((aj8 (show gF (K%3-1) by unfold gF;omega)).mono (by decide))) ?_;intro u m;refine S ⟨λ_=>m,?_⟩;refine D (by simp only[zw];rfl) (aV (cN rfl) (aT (D (by simp only[zw];rfl) (aV (aO (c:=1) oN rfl aJ rfl rfl) (aT (jJ (by simp only[zw];rfl) ?_))))));simp only[J];refine kR (off:=(j*8+6)) m 5 O O O aJ (show j*8+6+2<=ng*8 by omega) O ?_;intro u m;simp only[zF,zG] at m;try simp only[zA,zB,zC,zD,zE] at m
  obtain⟨p,E⟩:∃z:vN,z={ y with dl:=y.dl+(K%3-1) }:=⟨_,rfl⟩
  rw[lS (enc:=Em) (n:=j*8+6) (x':=p) [_,_,_,_,_,_] [_,_] [.bool (cQ (y.dl+(K%3-1))),.string (dQ (y.dl+(K%3-1)))] _ Sj e rfl (by rw[E];rfl) rfl rfl] at m;refine S ⟨λh=>Y0 (by decide) h,?_⟩;refine vM ?_;rw[<-eA (f:=(Zx 3)) (L:=ys) (x':=p) e (by rw[E];rfl)] at m;rw[<-eA (f:=(oIt 3)) (L:=ys) (x':=p) e (by rw[E];rfl)] at m;rw[<-eA (f:=(mIt 176)) (L:=ys) (x':=p) e (by rw[E];rfl)] at m;apply uR 6 [1,7] m;simp only[↓Z,jI,aa];intro u m;apply aQ 1 [] m;simp only[↓Z];exact aS O ⟨_,O,((m.b 7 O).full lE gE)⟩ ⟨_,O,m.ext,_,_,_,_,_,_,_,_,O,⟨(by first|omega|(simp;omega)),(m.o 6 rfl).le,by omega⟩,⟨(by first|omega|(simp;omega)),(m.o 5 rfl).le,by omega⟩,(uO.gset (i:=j) (y:=p) (I.mono (by decide)) (by rw[E];have h:=I.g y (ak e);exact⟨⟨f_ h.1.1,f_ h.1.2.1,h.1.2.2⟩,(h.2.add (aj8 (n:=K%3-1) (show gF _ by unfold gF;omega))).mono (by decide)⟩)),(((((((m.pull 6 rfl).pull 6 rfl).pull 6 rfl).pull 6 rfl).pull 6 rfl).pull 6 rfl).sel [N,N,N,N,N,N,X7,X7,X7,X7])⟩
 apply F 5 [0,0] m;simp only[↓Z];refine aZ O ?_ ?_<;>intro bq
 .have aj:=(I.g y (ak e)).1;apply F 5 [0] m;simp only[↓Z,Nj,aa];refine bA O (lies1 (fY (m.o 5 O) Sj e 3 (u:=.slice y.m.A y.m.l.length y.m.cap) O) Pg) ?_;simp only[J];apply aL 3 [0,0] m;simp only[↓Z,aaY];refine aZ O ?_ ?_<;>intro br
  .apply F 1 [] m;simp only[↓Z];obtain⟨P,af⟩:∃i,(K%(y.m.l.length:Int)).toNat=i:=⟨_,rfl⟩
   have aw:P<y.m.l.length:=by rw[<-af];exact Is (by omega)
   refine gc (mq m aB (by kernel_rfl) ?_);refine cW 5 [9] ?_;simp only[↓Z,Lo,dN,Nj,ac,C,aa];apply R;omega;refine ql O (λu m=>(lies1 (fY (m.o 5 O) Sj e 3 (u:=.slice y.m.A y.m.l.length y.m.cap) O) Pg)) ?_;simp only[J];refine aK (iL O vA O) ?_;simp only[J];refine X O O (Cp (z:=K) (n:=y.m.l.length) (i:=P) af (by omega) (by omega)) (aK aI (bD ?_));intro u m;simp only[J];replace m:=m.pull 1 O;simp only[bG,bH,zF,zG] at m;replace m:=m.bagPull j (j:=(mIt 176) y) (by rw[dc,e];rfl);replace m:=m.cast0 (b:=oI 176 6 y.m.A y.m.l.length y.m.cap (y.m.l.flatMap dE)) O;have bF:=(m.o 0 rfl).le;refine gc (vL m [X7,N,N,N,N,N,N,N,N,N,N] [17] (.take 0 (.take 1 (.take 2 (.take 3 (.take 4 (.take 5 (.take 6 (.take 7 (.take 8 (.take 9 (.take 10 (.take 11 (.take 12 (.take 13 (.one 14 (.take 15 (.take 16 (.one 17 .nil)))))))))))))))))) aB (by kernel_rfl) (bR (λ_ _ _ _ _ h=>h)) ?_);intro u m;refine D (by simp only[zw];rfl) (aV aF (aT (D (by simp only[zw];rfl) (aV aF (aT (D (by simp only[zw];rfl) (aV (cN rfl) (aT (D (by simp only[zw];rfl) (aV (aO (c:=0) oN rfl Br rfl rfl) ?_))))))))));simp only[J];refine aT (D (by simp only[zw];rfl) (eK rfl (λu m=>(lies1 (fY (m.o 5 rfl) Sj e 3 (u:=.slice y.m.A y.m.l.length y.m.cap) rfl) Pg)) ?_));simp only[J];refine aT (D (by simp only[zw];rfl) (aV aF (aT (D (by simp only[zw];rfl) ?_))));simp only[J];refine aV (gR vA tK O O (ab _) (by omega) (by omega)) (aT (D (by simp only[zw];rfl) (aV aF (aT (D (by simp only[zw];rfl) (aV (cN rfl) (aT (D (by simp only[zw];rfl) (aV (aO (c:=0) oN rfl Br rfl rfl) ?_)))))))));simp only[J];refine aT (D (by simp only[zw];rfl) (eK rfl (λu m=>(lies1 (fY (m.o 5 rfl) Sj e 3 (u:=.slice y.m.A y.m.l.length y.m.cap) rfl) Pg)) ?_));simp only[J];refine aT (D (by simp only[zw];rfl) (aV aF (aT (D (by simp only[zw];rfl) ?_))));simp only[J];refine aV (eH O O (bN (by omega) (by omega))) (aT (D (by simp only[zw];rfl) ?_));simp only[J];refine aV (gS vA tK O O (show _=P+1 by omega) (by omega) (by omega) O) (aT (jJ (by simp only[zw];rfl) ?_));simp only[J];refine abE m 0 O (q:=P) (by omega) O vA Nf O (by decide) O O (news:=(y.m.l.drop (P+1)).flatMap dE) (by rw[dZ Bk,ef]) (((m.o 0 O).lat Bk (by decide)).cellsD Bk (by decide) (m.o 0 O).le) (Jg _) (by omega) (by omega) ?_;intro ap az u m;simp only[zF,zG] at m;refine S ⟨λ_=>m.sel [X7,N,N,N,N,N,N,N,N,N,N],?_⟩;refine D (by simp only[zw];rfl) (aV (cN rfl) (aT (D (by simp only[zw];rfl) (aV (aO (c:=0) oN rfl Br rfl rfl) (aT (jJ (by simp only[zw];rfl) ?_))))));simp only[J];refine kR (off:=(j*8+3)) m 6 O O O Br (show j*8+3+1<=ng*8 by omega) O ?_;intro u m;simp only[zF,zG] at m;try simp only[zA,zB,zC,zD,zE] at m
   obtain⟨p,E⟩:∃z:vN,z={ y with m:=⟨ap,az,y.m.l.take P++y.m.l.drop (P+1)⟩ }:=⟨_,rfl⟩
   rw[lS (enc:=Em) (n:=j*8+3) (x':=p) [_,_,_] [_] [.slice ap (P+(y.m.l.length-(P+1))) az] _ Sj e rfl (by rw[E];simp[Em,Sl.v];omega) rfl rfl] at m;refine S ⟨λh=>Y0 (by decide) h,?_⟩;refine vM ?_;replace m:=m.pull 1 O;simp only[bG,bH,zF,zG] at m;replace m:=m.pull 1 O;simp only[bG,bH,zF,zG] at m;replace m:=Mem.bagSet (f:=(mIt 176)) (i:=j) (x:=p) (by omega) (m.cast0 (by rw[E];show oI _ _ _ _ _ _=oI _ _ _ (iz _) _ (List.flatMap _ _);rw[au,tY Bk,a_,bf,ef,de (by omega)]));rw[<-eA (f:=(Zx 3)) (L:=ys) (x':=p) e (by rw[E];rfl)] at m;rw[<-eA (f:=(oIt 3)) (L:=ys) (x':=p) e (by rw[E];rfl)] at m;apply uR 6 [2,7] m;simp only[↓Z,jI,aa];intro u m;apply aQ 1 [] m;simp only[↓Z];exact aS O ⟨_,O,((m.b 7 O).full lE gE)⟩ ⟨_,O,m.ext,_,_,_,_,_,_,_,_,O,⟨(by first|omega|(simp;omega)),(m.o 6 rfl).le,by omega⟩,⟨(by first|omega|(simp;omega)),(m.o 5 rfl).le,by omega⟩,(uO.gset (i:=j) (y:=p) (I.mono (by decide)) (by rw[E];have h:=I.g y (ak e);exact⟨⟨f_ h.1.1,f_ h.1.2.1,by show (List.take _ _++List.drop _ _).length<=1000000;simp;omega⟩,h.2.mono (by decide)⟩)),(((((((m.pull 6 rfl).pull 6 rfl).pull 6 rfl).pull 6 rfl).pull 6 rfl).pull 5 rfl).sel [N,N,N,N,N,N,X7,X7,X7,X7])⟩
  apply qW 6 [1,7] m;simp only[↓Z,jI,aa];intro u m;apply aQ 2 [] m;simp only[↓Z];exact aS O ⟨_,O,((m.b 7 O).full lE gE)⟩ ⟨_,O,m.ext,_,_,_,_,_,_,_,_,O,⟨(by first|omega|(simp;omega)),(m.o 6 rfl).le,by omega⟩,⟨(by first|omega|(simp;omega)),(m.o 5 rfl).le,by omega⟩,(I.mono (by decide)),(((((((m.pull 6 rfl).pull 6 rfl).pull 6 rfl).pull 6 rfl).pull 6 rfl).pull 6 rfl).sel [N,N,N,N,N,N,X7,X7,X7,X7])⟩
 apply F 5 [0,0] m;simp only[↓Z];refine aZ O ?_ ?_<;>intro bs
 .have ad:=I.c x (ak M);apply F 5 [0] m;simp only[↓Z,vI,aa];refine bA O (lies1 (fY (m.o 6 O) Vl M 0 (u:=.slice x.s.A x.s.l.length x.s.cap) O) qJ) ?_;simp only[J];apply aL 3 [0,0] m;simp only[↓Z,gN];refine aZ O ?_ ?_<;>intro bt
  .replace m:=m.pull 4 O;simp only[bG,bH,zF,zG] at m;replace m:=m.bagPull i (j:=(tIt 43) x) (by rw[dc,M];rfl);replace m:=m.cast0 (b:=oI 43 9 x.s.A x.s.l.length x.s.cap (x.s.l.flatMap aP)) O;have bI:=(m.o 0 rfl).le;refine vL m [X7,N,N,N,N,N,N,N,N,N,N] [14] (.take 0 (.take 1 (.take 2 (.take 3 (.take 4 (.take 5 (.take 6 (.take 7 (.take 8 (.take 9 (.take 10 (.one 11 (.take 12 (.take 13 (.one 14 .nil))))))))))))))) aB (by kernel_rfl) (bR (λ_ _ _ _ _ h=>h)) ?_;intro u m;refine D (by simp only[zw];rfl) (aV aF (aT (D (by simp only[zw];rfl) (aV aF (aT (D (by simp only[zw];rfl) (aV (cN rfl) (aT (D (by simp only[zw];rfl) (aV (aO (c:=0) sW rfl rU rfl rfl) ?_))))))))));simp only[J];refine aT (D (by simp only[zw];rfl) (eK rfl (λu m=>(lies1 (fY (m.o 6 rfl) Vl M 0 (u:=.slice x.s.A x.s.l.length x.s.cap) rfl) qJ)) ?_));simp only[J];refine aT (D (by simp only[zw];rfl) (aV (gR gB bK rfl rfl (show ji 0=0 from rfl) (by omega) (by omega)) (aT (D (by simp only[zw];rfl) (aV aF (aT (D (by simp only[zw];rfl) (aV (cN rfl) (aT (D (by simp only[zw];rfl) (aV (aO (c:=0) sW rfl rU rfl rfl) ?_)))))))))));simp only[J];refine aT (D (by simp only[zw];rfl) (eK rfl (λu m=>(lies1 (fY (m.o 6 rfl) Vl M 0 (u:=.slice x.s.A x.s.l.length x.s.cap) rfl) qJ)) ?_));simp only[J];refine aT (D (by simp only[zw];rfl) (aV (gS gB bK rfl rfl (show ji 1=1 from rfl) (by omega) (by omega) rfl) (aT (jJ (by simp only[zw];rfl) ?_))));simp only[J];refine abE m 0 O (q:=0) (by omega) O gB mS O (by decide) O O (news:=(x.s.l.drop 1).flatMap aP) (by rw[tA,ef]) (((m.o 0 O).lat Pb (by decide)).cellsD Pb (by decide) (m.o 0 O).le) (qF _) (by omega) (by omega) ?_;intro aq aA u m;simp only[zF,zG] at m;refine S ⟨λ_=>m.sel [X7,N,N,N,N,N,N,N,N,N,N],?_⟩;refine D (by simp only[zw];rfl) (aV (cN rfl) (aT (D (by simp only[zw];rfl) (aV (aO (c:=0) sW rfl rU rfl rfl) (aT (jJ (by simp only[zw];rfl) ?_))))));simp only[J];refine kR (off:=(i*3)) m 7 O O O rU (show i*3+0+1<=nc*3 by omega) O ?_;intro u m;simp only[zF,zG] at m;try simp only[zA,zB,zC,zD,zE] at m
   obtain⟨Q,T⟩:∃z:oH,z={ x with s:=⟨aq,aA,x.s.l.drop 1⟩ }:=⟨_,rfl⟩
   rw[lS (enc:=Fx) (n:=i*3) (x':=Q) [] [_] [.slice aq (0+(x.s.l.length-1)) aA] _ Vl M rfl (by rw[T];simp[Fx,Sl.v]) rfl rfl] at m;refine S ⟨λh=>Y0 (by decide) h,?_⟩;refine vM ?_;replace m:=m.pull 1 O;simp only[bG,bH,zF,zG] at m;replace m:=m.pull 1 O;simp only[bG,bH,zF,zG] at m;replace m:=Mem.bagSet (f:=(tIt 43)) (i:=i) (x:=Q) (by omega) (m.cast0 (by rw[T];show oI _ _ _ _ _ _=oI _ _ _ (iz _) _ (List.flatMap _ _);rw[ef,Nat.zero_mul,List.take_zero,cv,ae]));apply uR 6 [2,7] m;simp only[↓Z,jI,aa];intro u m;apply aQ 1 [] m;simp only[↓Z];exact aS O ⟨_,O,((m.b 7 O).full lE gE)⟩ ⟨_,O,m.ext,_,_,_,_,_,_,_,_,O,⟨(by first|omega|(simp;omega)),(m.o 6 rfl).le,by omega⟩,⟨(by first|omega|(simp;omega)),(m.o 5 rfl).le,by omega⟩,(uO.cset (i:=i) (x:=Q) (I.mono (by decide)) (by rw[T];exact⟨λt ht=>ad.1 t (List.mem_of_mem_drop ht),by show (List.drop _ _).length<=2000;simp;omega⟩)),(((((((m.pull 6 rfl).pull 6 rfl).pull 2 rfl).pull 6 rfl).pull 6 rfl).pull 6 rfl).sel [N,N,N,N,N,N,X7,X7,X7,X7])⟩
  apply qW 6 [1,7] m;simp only[↓Z,jI,aa];intro u m;apply aQ 2 [] m;simp only[↓Z];exact aS O ⟨_,O,((m.b 7 O).full lE gE)⟩ ⟨_,O,m.ext,_,_,_,_,_,_,_,_,O,⟨(by first|omega|(simp;omega)),(m.o 6 rfl).le,by omega⟩,⟨(by first|omega|(simp;omega)),(m.o 5 rfl).le,by omega⟩,(I.mono (by decide)),(((((((m.pull 6 rfl).pull 6 rfl).pull 6 rfl).pull 6 rfl).pull 6 rfl).pull 6 rfl).sel [N,N,N,N,N,N,X7,X7,X7,X7])⟩
 apply F 5 [0,0] m;simp only[↓Z];refine aZ O ?_ ?_<;>intro bu
 .have ad:=I.c x (ak M);apply F 5 [0] m;simp only[↓Z,vI,aa];refine bA O (lies1 (fY (m.o 6 O) Vl M 0 (u:=.slice x.s.A x.s.l.length x.s.cap) O) qJ) ?_;simp only[J];apply aL 3 [0,0] m;simp only[↓Z,gN];refine aZ O ?_ ?_<;>intro bv
  .apply F 1 [] m;simp only[↓Z];obtain⟨P,af⟩:∃i,(K%(x.s.l.length:Int)).toNat=i:=⟨_,rfl⟩
   have aw:P<x.s.l.length:=by rw[<-af];exact Is (by omega)
   refine gc (mq m aB (by kernel_rfl) ?_);refine cW 5 [9] ?_;simp only[↓Z,Lo,dN,vI,ac,C,aa];apply R;omega;refine ql O (λu m=>(lies1 (fY (m.o 6 O) Vl M 0 (u:=.slice x.s.A x.s.l.length x.s.cap) O) qJ)) ?_;simp only[J];refine aK (iL O gB O) ?_;simp only[J];refine X O O (Cp (z:=K) (n:=x.s.l.length) (i:=P) af (by omega) (by omega)) (aK aI (bD ?_));intro u m;simp only[J];obtain⟨V,av⟩:∃i,(q3%((3:Nat):Int)).toNat=i:=⟨_,rfl⟩
   have ar:V<3:=by rw[<-av];exact Is (by omega)
   obtain⟨t,ht⟩:∃t,x.s.l[P]? = H t:=⟨_,ah aw⟩
   replace m:=m.pull 4 O;simp only[bG,bH,zF,zG] at m;replace m:=m.bagPull i (j:=(tIt 43) x) (by rw[dc,M];rfl);replace m:=m.cast0 (b:=oI 43 9 x.s.A x.s.l.length x.s.cap (x.s.l.flatMap aP)) O;obtain⟨aM,al⟩:=(m.o 0 rfl).some (by omega);rw[al] at m;refine gc (vL m [N,N,N,N,N,N,N,N,N,N,N] [16] (.take 0 (.take 1 (.take 2 (.take 3 (.take 4 (.take 5 (.take 6 (.take 8 (.take 13 (.one 7 (.take 9 (.take 10 (.take 11 (.take 12 (.take 14 (.take 15 (.one 16 .nil))))))))))))))))) aB (by kernel_rfl) (bR (λ_ _ _ _ _ h=>h)) ?_);intro u m;refine D (by simp only[zw];rfl) (aV aF (aT (D (by simp only[zw];rfl) (aV (cN rfl) (aT (D (by simp only[zw];rfl) (aV (aO (c:=0) sW rfl rU rfl rfl) (aT (D (by simp only[zw];rfl) ?_)))))))));simp only[J];refine eK O (λu m=>(lies1 (fY (m.o 7 O) Vl M 0 (u:=.slice (H ⟨aM,0,X8⟩) x.s.l.length x.s.cap) (by rw[<-al];rfl)) qJ)) ?_;simp only[J];refine aT (D (by simp only[zw];rfl) (aV aF (aT (D (by simp only[zw];rfl) (aV (aR underlying23 bC rfl rfl (by decide) (by decide) rfl) (aT (D (by simp only[zw];rfl) ?_)))))));simp only[J];refine eK O (λu m=>((m.b 9 O).lies1 bW O)) ?_;simp only[J];refine aT (D (by simp only[zw];rfl) (aV (aN gB bK rfl rfl (by omega) (by omega) Zh) (aT (D (by simp only[zw];rfl) ?_))));simp only[J];refine aV (aN gB bK O O (by omega) (by omega) Zh) (aT (jJ (by simp only[zw];rfl) ?_));simp only[J];refine eV m O O (Cp (z:=q3) (n:=3) (i:=V) av (by omega) (by omega)) ?_;intro u m;refine S ⟨λ_=>m,?_⟩;refine D (by simp only[zw];rfl) ?_;simp only[J];refine aV (aR fR aD O O (by omega) (by omega) abd) (aT (D (by simp only[zw];rfl) (aV (aO (c:=0) iZ rfl bC rfl rfl) (aT (D (by simp only[zw];rfl) ?_)))));simp only[J];refine eK O (λu m=>(lies1 (fY (m.o 0 O) Pb ht (V*3) (arO ar)) bW)) ?_;simp only[J];refine aT (D (by simp only[zw];rfl) (aV (eH rfl rfl rfl) (aT (D (by simp only[zw];rfl) ?_))));simp only[J];refine aV (aR fR aD O O (by omega) (by omega) abd) (aT (D (by simp only[zw];rfl) (aV (aO (c:=0) iZ rfl bC rfl rfl) (aT (jJ (by simp only[zw];rfl) ?_)))));simp only[J];refine kR (off:=(P*9+V*3)) m 0 O O O bC (show P*9+V*3+1<=x.s.l.length*9 by omega) O ?_;intro u m;simp only[zF,zG] at m;simp only[zA,zB,zC,zD,zE] at m;rw[aqb ht ar] at m;refine S ⟨λh=>Y0 (by decide) h,?_⟩;refine vM ?_;obtain⟨Q,T⟩:∃z:oH,z={ x with s:=⟨x.s.A,x.s.cap,x.s.l.set P (t.setC V ⟨IntKind.i64.wrap ((t.cor V).x+1),(t.cor V).y,(t.cor V).z⟩)⟩ }:=⟨_,rfl⟩
   rw[<-al] at m;replace m:=m.pull 1 O;simp only[bG,bH,zF,zG] at m;replace m:=m.pull 1 O;simp only[bG,bH,zF,zG] at m;replace m:=Mem.bagSet (f:=(tIt 43)) (i:=i) (x:=Q) (by omega) (m.cast0 (by rw[T];show oI _ _ _ _ _ _=oI _ _ _ (iz _) _ _;rw[fc]));rw[show xs.flatMap Fx=(xs.set i Q).flatMap Fx from (Zv Vl M (by rw[T];show [Sl.v _,_,_]=[Sl.v _,_,_];simp only[Sl.v,fc])).symm] at m;apply uR 6 [2,7] m;simp only[↓Z,jI,aa];intro u m;apply aQ 1 [] m;simp only[↓Z];exact aS O ⟨_,O,((m.b 7 O).full lE gE)⟩ ⟨_,O,m.ext,_,_,_,_,_,_,_,_,O,⟨(by first|omega|(simp;omega)),(m.o 6 rfl).le,by omega⟩,⟨(by first|omega|(simp;omega)),(m.o 5 rfl).le,by omega⟩,(uO.cset (i:=i) (x:=Q) (I.mono (by decide)) (by rw[T];exact⟨aej ad.1 ht (amq _) (Zg (ad.1 t (ak ht))).2.1 (Zg (ad.1 t (ak ht))).2.2,by show (List.set _ _ _).length<=2000;rw[fc];exact ad.2⟩)),(((((((m.pull 6 O).pull 6 O).pull 2 O).pull 6 O).pull 6 O).pull 6 O).sel [N,N,N,N,N,N,X7,X7,X7,X7])⟩
  apply qW 6 [1,7] m;simp only[↓Z,jI,aa];intro u m;apply aQ 2 [] m;simp only[↓Z];exact aS O ⟨_,O,((m.b 7 O).full lE gE)⟩ ⟨_,O,m.ext,_,_,_,_,_,_,_,_,O,⟨(by first|omega|(simp;omega)),(m.o 6 rfl).le,by omega⟩,⟨(by first|omega|(simp;omega)),(m.o 5 rfl).le,by omega⟩,(I.mono (by decide)),(((((((m.pull 6 rfl).pull 6 rfl).pull 6 rfl).pull 6 rfl).pull 6 rfl).pull 6 rfl).sel [N,N,N,N,N,N,X7,X7,X7,X7])⟩
 apply F 5 [0,0] m;simp only[↓Z];refine aZ O ?_ ?_<;>intro bw
 .obtain⟨a6,a4⟩:∃r,(if zn<0 then 0 else zn:Int).tmod (nc:Int)=r:=⟨_,rfl⟩
  refine vL m [N,N,N,N,N,X7,N,N,N,N] [13] (.take 0 (.take 1 (.take 2 (.take 3 (.take 4 (.one 5 (.take 6 (.take 7 (.one 8 (.take 9 (.one 10 (.one 11 (.take 12 (.one 13 .nil)))))))))))))) aB (by kernel_rfl) (bR (λ_ _ _ _ _ h=>h)) ?_;intro u m;refine D (by simp only[zw];rfl) (aV (aO (c:=0) nD rfl lN rfl rfl) (aT (D (by simp only[zw];rfl) ?_)));simp only[J];refine eK O (λu m=>((m.b 0 O).lies1 yA O)) ?_;simp only[J];refine aT (D (by simp only[zw];rfl) (aV aF (aT (D (by simp only[zw];rfl) (aV (sV rfl rfl rfl) (aT (D (by simp only[zw];rfl) (aV (aO (c:=0) nD rfl lM rfl rfl) (aT (jJ (by simp only[zw];rfl) ?_))))))))));simp only[J];refine bA O ((m.b 0 O).lies1 vY O) ?_;simp only[J];refine S ⟨λ_=>m.sel [N,N,N,N,N,X7,N,N,N,N],?_⟩;refine D (by simp only[zw];rfl) (aV (iL rfl uZ rfl) (aT (D (by simp only[zw];rfl) ?_)));simp only[J];refine aV (cS O O (by omega) a4) (aT (jJ (by simp only[zw];rfl) ?_));simp only[J];refine cO cF (z:=U 0) (by kernel_rfl) O O O ?_;intro u g5 Y h_ k_;replace m:=m.newB Y h_ k_;simp only[J];replace m:=m.own 0 O (n:=1) (c:=1) O (eU O);simp only[zG] at m;refine S ⟨λ_=>m.sel [X7,N,N,N,N,N,X7,N,N,N,N],?_⟩;refine D (by simp only[zw];rfl) (aV (Pn rfl rfl) (aT (jJ (by simp only[zw];rfl) ?_)));simp only[J];refine Jr O ?_;intro u g6 Y h_ k_;replace m:=m.newB Y h_ k_;refine S ⟨λ_=>m.sel [X7,X7,N,N,N,N,N,X7,N,N,N,N],?_⟩;refine jJ (by simp only[zw];rfl) ?_;simp only[J];refine bJ m 7 O O wU ach O (by decide) O O O (m.b 0 O).rowsO (fU O) (by omega) (by omega) ?_;intro aE bx u m;simp only[zF,zG] at m;refine S ⟨λ_=>m.sel [X7,X7,N,N,N,N,N,X7,N,N,N,N],?_⟩;refine D (by simp only[zw];rfl) (aV (aO (c:=0) nD rfl lN rfl rfl) (aT (jJ (by simp only[zw];rfl) ?_)));simp only[J];refine cH (off:=1) m 2 O O O lN (eU O) ⟨O,O⟩ ?_;intro u m;simp only[J,zy,zx,over,aa] at m;refine S ⟨λh=>Y0 (by decide) h,?_⟩;refine vM ?_;replace m:=m.pull 5 O;simp only[bG,bH,zF,zG] at m;replace m:=m.pull 2 O;simp only[bG,bH,zF,zG] at m;obtain⟨y3,ai⟩:∃y:vN,y=⟨9,⟨H ⟨g5,0,X8⟩,1,[a6]⟩,⟨X8,0,[]⟩,⟨X8,0,[]⟩,0,0,0⟩:=⟨_,rfl⟩
  replace m:=Mem.bagSnoc (f:=(Zx 3)) (x:=y3) (m.cast0 (by rw[ai];rfl));replace m:=m.nilO 3 1;replace m:=m.pull 5 O;simp only[bG,bH,zF,zG] at m;replace m:=m.pull 1 O;simp only[bG,bH,zF,zG] at m;replace m:=Mem.bagSnoc (f:=(oIt 3)) (x:=y3) (m.cast0 (by rw[ai];rfl));replace m:=m.nilO 176 6;replace m:=m.pull 5 O;simp only[bG,bH,zF,zG] at m;replace m:=m.pull 1 O;simp only[bG,bH,zF,zG] at m;replace m:=Mem.bagSnoc (f:=(mIt 176)) (x:=y3) (m.cast0 (by rw[ai];rfl));replace m:=m.reO 6 O ((m.o 6 O).as (show _=(ys++[y3]).flatMap Em by rw[au,ai];rfl));simp only[zF,zG] at m;apply uR 6 [5,8] m;simp only[↓Z,jI,aa];intro u m;apply aQ 1 [] m;simp only[↓Z];exact aS O ⟨_,O,((m.b 8 O).full lE gE)⟩ ⟨_,O,m.ext,_,_,_,_,_,_,_,_,O,⟨(by first|omega|(simp;omega)),(m.o 7 rfl).le,by omega⟩,⟨(by first|omega|(simp;omega)),(m.o 6 rfl).le,by omega⟩,(uO.gp (y:=y3) (I.mono (by decide)) (by rw[ai];exact⟨⟨by show (1:Nat)<=_;omega,bm _,bm _⟩,Nat.two_pow_pos 301⟩)),(((((((m.pull 7 rfl).pull 7 rfl).pull 7 rfl).pull 5 rfl).pull 5 rfl).pull 5 rfl).sel [N,N,N,N,N,N,X7,X7,X7,X7,X7])⟩
 apply qW 6 [1,7] m;simp only[↓Z,jI,aa];intro u m;apply aQ 2 [] m;simp only[↓Z];exact aS O ⟨_,O,((m.b 7 O).full lE gE)⟩ ⟨_,O,m.ext,_,_,_,_,_,_,_,_,O,⟨(by first|omega|(simp;omega)),(m.o 6 rfl).le,by omega⟩,⟨(by first|omega|(simp;omega)),(m.o 5 rfl).le,by omega⟩,(I.mono (by decide)),(((((((m.pull 6 rfl).pull 6 rfl).pull 6 rfl).pull 6 rfl).pull 6 rfl).pull 6 rfl).sel [N,N,N,N,N,N,X7,X7,X7,X7])⟩
def amr{mv:Mv}{p:Y}(a:ms[k]? = H mv)(b:Dw ms p=Dw (ms.drop k) p)(h:mv.1=p):Dw ms p=mv.2:=by
 rw[b,dw (av.1 a).1,(av.1 a).2,Dw,Z9 h]
def aj9{mv:Mv}{p:Y}(a:ms[k]? = H mv)(b:Dw ms p=Dw (ms.drop k) p)(h:¬mv.1=p):Dw ms p=Dw (ms.drop (k+1)) p:=by
 rw[b,dw (av.1 a).1,(av.1 a).2,Dw,K0 h]
def aka{p:Y}(a:ts[k]? = H t):Dx (ts.take (k+1)) p=(Dx (ts.take k) p||t.has p):=Gs a
def ams{p:Y}(a:ts[k]? = H t)(h:t.has p=N):Dx ts p=N:=Xe a h
def akb{p q:Y}(a:ts[k]? = H t):Ak (ts.take (k+1)) p q=(Ak (ts.take k) p q||(t.has p&&t.has q)):=Gs a
def Ns(t:T3)(p:Y):Dx [t] p=t.has p:=by simp[Dx]
def akc{e:E3}{p:Y}(a:rim[k]? = H e):onB (rim.take (k+1)) p=(onB (rim.take k) p||(decide (e.1=p)||decide (e.2=p))):=Gs a
def Se{p:Y}(w:an)(e:kO dE 6 w A vi ms)(y:vi<=1000000000):cX X9 158 [.slice A vi cap,pt p] w (λv _=>v=pt (Dw ms p)):=by
 refine⟨bP func158 (by kernel_rfl),?_⟩;have m:=Mem.refl w
 go_enter func158,ntmps158
 apply gJ 11 [0] m;simp only[↓Z,gC];intro h j u m;refine bT [5] [6,7,8,9,10,11,12,13,14,15,16,17,18,19,20,21,22,23] (λn vs q=>∃(k:Nat),vs=[U (k:Int)]/\Mem w q [bI j [U 0,U 0,U 0] 41,bI h (kS p) 41]/\(Dw ms p=Dw (ms.drop k) p)/\(k<=vi)/\(n=vi-k)) ?_ ?_
 .exact⟨_,0,O,m,O,bm _,O⟩
 intro n vs C l u x r;obtain⟨k,rfl,m,c,z,B⟩:=l;simp only[zu,zF,zG];apply F 8 [0,0] m;simp only[↓Z,aaY];refine aZ O ?_ ?_<;>intro D
 .obtain⟨mv,f,a,rfl,g⟩:=e.get (i:=k) (by omega);apply F 4 [0] m;simp only[↓Z];refine mq m aB (by kernel_rfl) (cW 7 [0,0,2] ?_);simp only[↓Z,Qm,Cf,aW,ab,ae,aa];refine⟨_,λu m=>((wF (g.ext m.ext)).lies aM aD),_,fX,by omega,?_⟩;refine bD ?_;intro u m;refine gc (aZ O (λd=>?_) (λd=>?_))
  .have o:=amr f c (Bl.1 d);apply qW 10 [0,0,0] m;simp only[↓Z,Qm,Qo,aW,ab,ae,aa];refine⟨_,λu m=>((Cj (g.ext m.ext)).lies aM aD),by omega,?_⟩;intro u m;refine aS O ⟨_,O,((m.b 0 O).full aM aD)⟩ ?_;try simp only[zD,zE]
   exact⟨_,O,m.ext,by rw[o];rfl⟩
  have s:=aj9 f c (mt Bl.2 d);apply F 7 [0] m;simp only[↓Z];apply R;omega;exact r (vi-(k+1)) _ _ (by omega) (by kernel_rfl) ⟨k+1,O,m,s,by omega,O⟩
 have t:k=vi:=by omega
 rw[t,show ms.drop vi=[] from fl (by rw[e.len];exact bg _)] at c;apply qW 7 [2,0] m;simp only[↓Z,aW,aa];intro u m;refine aS O ⟨_,O,((m.b 0 O).full aM aD)⟩ ?_;try simp only[zD,zE]
 exact⟨_,O,m.ext,by rw[c];rfl⟩
def Sf{p:Y}(w:an)(f:kO aP 9 w A vi ts)(y:vi<=1000000000):cX X9 157 [.slice A vi cap,pt p] w (λv _=>v=.bool (Dx ts p)):=by
 refine⟨bP func157 (by kernel_rfl),?_⟩;have m:=Mem.refl w
 go_enter func157,ntmps157
 apply gJ 11 [0] m;simp only[↓Z];intro h u m;refine bT [5] [4,6,7,8,9,10,11,12,13,14,15,16,17,18,19,20,21,22,23,24,25,26,27,28,29,30,31,32,33,34,35,36] (λn vs q=>∃(k:Nat),vs=[U (k:Int)]/\Mem w q [bI h (kS p) 41]/\(Dx (ts.take k) p=X7)/\(k<=vi)/\(n=vi-k)) ?_ ?_
 .exact⟨_,0,O,m,O,bm _,O⟩
 intro n vs D l u x r;obtain⟨k,rfl,m,b,z,B⟩:=l;simp only[zu,zF,zG];apply F 8 [0,0] m;simp only[↓Z,gN];refine aZ O ?_ ?_<;>intro E
 .obtain⟨t,g,a,rfl,e⟩:=f.get (i:=k) (by omega);apply F 4 [0] m;simp only[↓Z];refine mq m aB (by kernel_rfl) (cW 11 [0,0,1,8,0,0,1,8,0,0,1] ?_);simp only[↓Z,eY,cD,aW,ab,ae,ac,C,aa];refine⟨_,λu m=>((iX.cor (e.ext m.ext) (c:=0) (by omega)).lies aM aD),_,fX,_,λu m=>((iX.cor (e.ext m.ext) (c:=1) (by omega)).lies aM aD),_,fX,λ_=>⟨_,λu m=>((iX.cor (e.ext m.ext) (c:=2) (by omega)).lies aM aD),_,fX,λ_=>⟨by omega,?_⟩⟩⟩;refine bD ?_;intro u m;refine gc (dH O (λd=>?_) (λd=>?_))
  .have o:Dx ts p=N:=ams g (art.symm.trans d);apply F 5 [] m;simp only[↓Z];refine aS O O ?_;try simp only[zD,zE]
   exact⟨_,O,m.ext,by rw[o]⟩
  have j:Dx (ts.take (k+1)) p=X7:=by rw[aka g,b];exact art.symm.trans d
  apply F 7 [0] m;simp only[↓Z];apply R;omega;exact r (vi-(k+1)) _ _ (by omega) (by kernel_rfl) ⟨k+1,O,m,j,by omega,O⟩
 have s:k=vi:=by omega
 rw[s,show ts.take vi=ts from ap (by rw[f.len];exact bg _)] at b;apply F 6 [] m;simp only[↓Z];refine aS O O ?_;try simp only[zD,zE]
 exact⟨_,O,m.ext,by rw[b]⟩
def Gg{p:Y}(w:an)(d:kO dE 6 w A vi rim)(x:vi<=1000000000):cX X9 154 [.slice A vi cap,pt p] w (λv _=>v=.bool (onB rim p)):=by
 refine⟨bP func154 (by kernel_rfl),?_⟩;have m:=Mem.refl w
 go_enter func154,ntmps154
 apply gJ 11 [0] m;simp only[↓Z];intro h u m;refine bT [5] [4,6,7,8,9,10,11,12,13,14,15,16,17,18,19,20,21,22,23,24,25,26,27] (λn vs q=>∃(k:Nat),vs=[U (k:Int)]/\Mem w q [bI h (kS p) 41]/\(onB (rim.take k) p=X7)/\(k<=vi)/\(n=vi-k)) ?_ ?_
 .exact⟨_,0,O,m,O,bm _,O⟩
 intro n vs B l u t r;obtain⟨k,rfl,m,b,y,z⟩:=l;simp only[zu,zF,zG];apply F 8 [0,0] m;simp only[↓Z,yL];refine aZ O ?_ ?_<;>intro D
 .obtain⟨e,f,a,rfl,g⟩:=d.get (i:=k) (by omega);apply F 4 [0] m;simp only[↓Z];refine mq m aB (by kernel_rfl) (cW 9 [0,0,1,8,0,0,1] ?_);simp only[↓Z,yM,yN,aW,ab,ae,ac,C,aa];refine⟨_,λu m=>((wF (g.ext m.ext)).lies aM aD),_,fX,_,λu m=>((Cj (g.ext m.ext)).lies aM aD),_,fX,λ_=>⟨by omega,?_⟩⟩;refine bD ?_;intro u m;refine gc (dH O (λc=>?_) (λc=>?_))
  .have o:onB rim p=N:=Xe f (aru.symm.trans c);apply F 5 [] m;simp only[↓Z];refine aS O O ?_;try simp only[zD,zE]
   exact⟨_,O,m.ext,by rw[o]⟩
  have j:onB (rim.take (k+1)) p=X7:=by rw[akc f,b];exact aru.symm.trans c
  apply F 7 [0] m;simp only[↓Z];apply R;omega;exact r (vi-(k+1)) _ _ (by omega) (by kernel_rfl) ⟨k+1,O,m,j,by omega,O⟩
 have s:k=vi:=by omega
 rw[s,show rim.take vi=rim from ap (by rw[d.len];exact bg _)] at b;apply F 6 [] m;simp only[↓Z];refine aS O O ?_;try simp only[zD,zE]
 exact⟨_,O,m.ext,by rw[b]⟩
def Nt{p q:Y}(w:an)(f:kO aP 9 w A vi ts)(D:vi<=1000000000)(L:vi<=cap):cX X9 155 [.slice A vi cap,pt p,pt q] w (λv _=>v=.bool (Ak ts p q)):=by
 refine⟨bP func155 (by kernel_rfl),?_⟩;have m:=Mem.refl w
 go_enter func155,ntmps155
 apply gJ 12 [0] m;simp only[↓Z];intro l o u m;refine bT [7] [6,8,9,10,11,12,13,14,15,16,17,18,19,20,21,22,23,24,25,26,27,28,29,30,31,32,33] (λn vs y=>∃(k:Nat),vs=[U (k:Int)]/\Mem w y [bI o (kS q) 41,bI l (kS p) 41]/\(Ak (ts.take k) p q=X7)/\(k<=vi)/\(n=vi-k)) ?_ ?_
 .exact⟨_,0,O,m,O,bm _,O⟩
 intro n vs I s u C z;obtain⟨k,rfl,m,d,E,G⟩:=s;simp only[zu,zF,zG];apply F 8 [0,0] m;simp only[↓Z,gN];refine aZ O ?_ ?_<;>intro K
 .obtain⟨t,g,a,rfl,j⟩:=f.get (i:=k) (by omega);apply F 4 [0] m;simp only[↓Z];refine mh m [N,N] [(0,N),(1,N),(2,N),(3,N),(4,N),(5,N),(6,X7),(7,N)] aB (by kernel_rfl) (bR (λ_ _ _ _ _ h=>h)) (ol:=?_) ?e ?_
  case e=>simp only[zw,zQ,zR];try rfl
  intro u m;refine tL 4 [] ?_;simp only[↓Z];apply R;omega;refine aV (Le gB bK O O O (show _=k by omega) (show _=k+1 by omega) (by omega) (by omega) (by omega) (K0 (by omega))) ?_;simp only[J];refine eK O (λu m=>((m.b 1 O).full aM aD)) ?_;simp only[J];refine bX ?_;rw[show k+1-k=1 by omega];refine bY m O O (Sf (ts:=[t]) (p:=p) _ ((kO.one j).ext m.ext) (by decide)) ?_;rintro v u m rfl;refine S ⟨m,?_⟩;refine aV aI (aT ?_);apply aQ 1 [0] m;simp only[↓Z];refine mh m [N,N] [(0,N),(1,N),(2,N),(3,N),(4,N),(5,N),(6,X7),(7,N)] aB (by kernel_rfl) (bR (λ_ _ _ _ _ h=>h)) (ol:=?_) ?e ?_
  case e=>simp only[zw,zQ,zR];try rfl
  intro u m;refine tL 4 [] ?_;simp only[↓Z];apply R;omega;refine aV (Le gB bK O O O (show _=k by omega) (show _=k+1 by omega) (by omega) (by omega) (by omega) (K0 (by omega))) ?_;simp only[J];refine eK O (λu m=>((m.b 0 O).full aM aD)) ?_;simp only[J];refine bX ?_;rw[show k+1-k=1 by omega];refine bY m O O (Sf (ts:=[t]) (p:=q) _ ((kO.one j).ext m.ext) (by decide)) ?_;rintro v u m rfl;refine S ⟨m,?_⟩;refine aV aI (aT ?_);apply aQ 6 [2,0] m;simp only[↓Z];refine λ_=>?_;refine dH O ?_ ?_<;>intro c
  .have x:Ak ts p q=N:=Xe g (by rw[Ns,Ns] at c;exact c);apply F 5 [] m;simp only[↓Z];refine aS O O ?_;try simp only[zD,zE]
   exact⟨_,O,m.ext,by rw[x]⟩
  have r:Ak (ts.take (k+1)) p q=X7:=by rw[akb g,d];rw[Ns,Ns] at c;exact c
  apply F 7 [0] m;simp only[↓Z];apply R;omega;exact z (vi-(k+1)) _ _ (by omega) (by kernel_rfl) ⟨k+1,O,m,r,by omega,O⟩
 have B:k=vi:=by omega
 rw[B,show ts.take vi=ts from ap (by rw[f.len];exact bg _)] at d;apply F 6 [] m;simp only[↓Z];refine aS O O ?_;try simp only[zD,zE]
 exact⟨_,O,m.ext,by rw[d]⟩
def aqc{p q:Y}(w:an)(l:kO aP 9 w A vi ts)(y:vi<=1000000000):cX X9 200 [.slice A vi cap,pt p,pt q] w (λv _=>∃z:Int,v=U z/\(z = -1\/∃k:Nat,z=(k:Int)/\k<vi)):=by
 refine⟨bP func200 (by kernel_rfl),?_⟩;have m:=Mem.refl w
 go_enter func200,ntmps200
 apply gJ 12 [0] m;simp only[↓Z];intro g h u m;refine bT [7] [6,8,9,10,11,12,13,14,15,16,17,18,19,20,21,22,23,24,25,26,27,28,29,30,31,32,33,34,35,36,37,38,39] (λn vs o=>∃(k:Nat),vs=[U (k:Int)]/\Mem w o [bI h (kS q) 41,bI g (kS p) 41]/\(k<=vi)/\(n=vi-k)) ?_ ?_
 .exact⟨_,0,O,m,bm _,O⟩
 intro n vs G j u x s;obtain⟨k,rfl,m,B,D⟩:=j;simp only[zu,zF,zG];apply F 8 [0,0] m;simp only[↓Z,gN];refine aZ O ?_ ?_<;>intro I
 .obtain⟨t,E,a,rfl,e⟩:=l.get (i:=k) (by omega);apply F 21 [4,1,0] m;simp only[↓Z];apply R;omega;refine mq m aB (by kernel_rfl) (cW 9 [0,0,2] ?_);simp only[↓Z,eY,cD,aW,ab,ae,ac,C,aa];refine⟨_,λu m=>((iX.cor (e.ext m.ext) (c:=0) (by omega)).lies aM aD),_,fX,by omega,?_⟩;refine cU O (λd=>aF) (cU O (λd=>aF) (cU O (λd=>aF) (cU O (λd=>eH (m:=0) (n:=1) (r:=1) (cG d O) O (by decide)) ?_)));simp only[J];refine cU O (λd=>cS (m:=1) (n:=3) (r:=1) (cG d O) O (by decide) (by decide)) ?_;simp only[J];refine cU O (λd=>aN gB bK (cG d O) (cG d O) (by omega) (by omega) (kV (ab _))) (cU O (λd=>aR fR aD (cG d O) (cG d O) (by decide) (by decide) O) ?_);simp only[J];refine jR O (λd u m=>cT (cG d O) ((iX.cor (e.ext m.ext) (c:=1) (by omega)).lies aM aD)) (jR O (λd u m=>cT O ((m.b 0 O).full aM aD)) (cU O (λd=>rA (cG d O) (cG d O)) (aK (fB O O O) (bD ?_))));intro u m;refine gc ?_;simp only[J];refine dH O ?_ ?_<;>intro f
  .apply F 6 [] m;simp only[↓Z];exact aS O O ⟨_,O,m.ext,_,O,.inr ⟨_,O,by omega⟩⟩
  apply F 19 [1,0] m;simp only[↓Z,M];apply R;omega;refine mq m aB (by kernel_rfl) (cW 9 [0,0,2] ?_);simp only[↓Z,eY,cD,aW,ab,ae,ac,C,aa];refine⟨_,λu m=>((iX.cor (e.ext m.ext) (c:=1) (by omega)).lies aM aD),_,fX,by omega,?_⟩;refine cU O (λd=>aF) (cU O (λd=>aF) (cU O (λd=>aF) (cU O (λd=>eH (m:=1) (n:=1) (r:=2) (cG d O) O (by decide)) ?_)));simp only[J];refine cU O (λd=>cS (m:=2) (n:=3) (r:=2) (cG d O) O (by decide) (by decide)) ?_;simp only[J];refine cU O (λd=>aN gB bK (cG d O) (cG d O) (by omega) (by omega) (kV (ab _))) (cU O (λd=>aR fR aD (cG d O) (cG d O) (by decide) (by decide) O) ?_);simp only[J];refine jR O (λd u m=>cT (cG d O) ((iX.cor (e.ext m.ext) (c:=2) (by omega)).lies aM aD)) (jR O (λd u m=>cT O ((m.b 0 O).full aM aD)) (cU O (λd=>rA (cG d O) (cG d O)) (aK (fB O O O) (bD ?_))));intro u m;refine gc ?_;simp only[J];refine dH O ?_ ?_<;>intro f
  .apply F 6 [] m;simp only[↓Z];exact aS O O ⟨_,O,m.ext,_,O,.inr ⟨_,O,by omega⟩⟩
  apply F 19 [1,0] m;simp only[↓Z,M];apply R;omega;refine mq m aB (by kernel_rfl) (cW 9 [0,0,2] ?_);simp only[↓Z,eY,cD,aW,ab,ae,ac,C,aa];refine⟨_,λu m=>((iX.cor (e.ext m.ext) (c:=2) (by omega)).lies aM aD),_,fX,by omega,?_⟩;refine cU O (λd=>aF) (cU O (λd=>aF) (cU O (λd=>aF) (cU O (λd=>eH (m:=2) (n:=1) (r:=3) (cG d O) O (by decide)) ?_)));simp only[J];refine cU O (λd=>cS (m:=3) (n:=3) (r:=0) (cG d O) O (by decide) (by decide)) ?_;simp only[J];refine cU O (λd=>aN gB bK (cG d O) (cG d O) (by omega) (by omega) (kV (ab _))) (cU O (λd=>aR fR aD (cG d O) (cG d O) (by decide) (by decide) O) ?_);simp only[J];refine jR O (λd u m=>cT (cG d O) ((iX.cor (e.ext m.ext) (c:=0) (by omega)).lies aM aD)) (jR O (λd u m=>cT O ((m.b 0 O).full aM aD)) (cU O (λd=>rA (cG d O) (cG d O)) (aK (fB O O O) (bD ?_))));intro u m;refine gc ?_;simp only[J];refine dH O ?_ ?_<;>intro f
  .apply F 6 [] m;simp only[↓Z];exact aS O O ⟨_,O,m.ext,_,O,.inr ⟨_,O,by omega⟩⟩
  apply F 22 [2,0] m;simp only[↓Z,M];apply R;omega;exact s (vi-(k+1)) _ _ (by omega) (by kernel_rfl) ⟨k+1,O,m,by omega,O⟩
 apply F 6 [] m;simp only[↓Z];exact aS O O ⟨_,O,m.ext,_,O,.inl O⟩
def akd{p a0:Y}(w:an)(g:kO aP 9 w A vi ts)(o:vi<=1000000000):cX X9 156 [.slice A vi cap,pt p,pt a0] w (λv _=>∃q,v=pt q):=by
 refine⟨bP func156 (by kernel_rfl),?_⟩;have m:=Mem.refl w;obtain rfl:ts.length=vi:=g.len
 go_enter func156,ntmps156
 apply gJ 12 [0] m;simp only[↓Z,gC];intro h j k u m;refine bT [7] [8,9,10,11,12,13,14,15,16,17,18,19,20,21,22,23,24,25,26,27,28,29,30,31,32,33,34,35,36,37,38,39,40,41,42] (λn vs x=>∃(i:Nat)(a:Y),vs=[U (i:Int)]/\Mem w x [bI k [U 0,U 0,U 0] 41,bI j (kS a) 41,bI h (kS p) 41]/\(i<=ts.length)/\(n=ts.length-i)) ?_ ?_
 .exact⟨_,0,a0,O,m,bm _,O⟩
 intro n vs I l u y f;obtain⟨i,a,rfl,m,D,E⟩:=l;simp only[zu,zF,zG];apply F 8 [0,0] m;simp only[↓Z,gN];refine aZ O ?_ ?_<;>intro J
 .apply F 8 [3,2,0] m;simp only[↓Z,aW];refine bY m O O (aqc (p:=p) (q:=a) _ (g.ext m.ext) o) ?_;rintro v u m ⟨z,rfl,s⟩;apply aL 4 [] m;simp only[↓Z];rcases s with rfl|⟨q,rfl,K⟩
  .apply uR 11 [1,2,0] m;simp only[↓Z,aW,aa];apply R;omega;intro u m;exact aS O ⟨_,O,((m.b 0 O).full aM aD)⟩ ⟨_,O,m.ext,_,O⟩
  obtain⟨t,G,B,rfl,d⟩:=g.get (i:=q) (by omega);apply aQ 24 [2,4,1,0] m;simp only[↓Z];apply R;omega;refine mq m aB (by kernel_rfl) (cW 8 [0,0,3] ?_);simp only[↓Z,eY,cD,aW,ab,ae,ac,C,aa];refine⟨_,λu m=>((iX.cor (d.ext m.ext) (c:=0) (by omega)).lies aM aD),_,fX,by omega,?_⟩;refine bD ?_;intro u m;refine gc (aZ O (λe=>?_) (λe=>?_))
  .apply F 6 [0] m;simp only[↓Z,M];apply R;omega;refine aA (cS (m:=2) (n:=3) (r:=2) O O (by decide) (by decide)) ?_;apply kZ 12 [0,0,1,0] m;simp only[↓Z,eY,cD,aW,ab,ae,ac,C,aa];refine⟨_,λu m=>((iX.cor (d.ext m.ext) (c:=2) (by omega)).lies aM aD),by omega,?_⟩;intro u m;exact f (ts.length-(i+1)) _ _ (by omega) (by kernel_rfl) ⟨i+1,t.c,O,m,by omega,O⟩
  apply F 19 [1,0] m;simp only[↓Z,M];apply R;omega;refine mq m aB (by kernel_rfl) (cW 8 [0,0,3] ?_);simp only[↓Z,eY,cD,aW,ab,ae,ac,C,aa];refine⟨_,λu m=>((iX.cor (d.ext m.ext) (c:=1) (by omega)).lies aM aD),_,fX,by omega,?_⟩;refine bD ?_;intro u m;refine gc (aZ O (λe=>?_) (λe=>?_))
  .apply F 6 [0] m;simp only[↓Z,M];apply R;omega;refine aA (cS (m:=3) (n:=3) (r:=0) O O (by decide) (by decide)) ?_;apply kZ 12 [0,0,1,0] m;simp only[↓Z,eY,cD,aW,ab,ae,ac,C,aa];refine⟨_,λu m=>((iX.cor (d.ext m.ext) (c:=0) (by omega)).lies aM aD),by omega,?_⟩;intro u m;exact f (ts.length-(i+1)) _ _ (by omega) (by kernel_rfl) ⟨i+1,t.a,O,m,by omega,O⟩
  apply F 19 [1,0] m;simp only[↓Z,M];apply R;omega;refine mq m aB (by kernel_rfl) (cW 8 [0,0,3] ?_);simp only[↓Z,eY,cD,aW,ab,ae,ac,C,aa];refine⟨_,λu m=>((iX.cor (d.ext m.ext) (c:=2) (by omega)).lies aM aD),_,fX,by omega,?_⟩;refine bD ?_;intro u m;refine gc (aZ O (λe=>?_) (λe=>?_))
  .apply F 6 [0] m;simp only[↓Z,M];apply R;omega;refine aA (cS (m:=4) (n:=3) (r:=1) O O (by decide) (by decide)) ?_;apply kZ 12 [0,0,1,0] m;simp only[↓Z,eY,cD,aW,ab,ae,ac,C,aa];refine⟨_,λu m=>((iX.cor (d.ext m.ext) (c:=1) (by omega)).lies aM aD),by omega,?_⟩;intro u m;exact f (ts.length-(i+1)) _ _ (by omega) (by kernel_rfl) ⟨i+1,t.b,O,m,by omega,O⟩
  apply F 22 [2,0] m;simp only[↓Z,M];apply R;omega;exact f (ts.length-(i+1)) _ _ (by omega) (by kernel_rfl) ⟨i+1,a,O,m,by omega,O⟩
 apply qW 7 [2,0] m;simp only[↓Z,aW,aa];intro u m;exact aS O ⟨_,O,((m.b 0 O).full aM aD)⟩ ⟨_,O,m.ext,_,O⟩
def amt{N3:Nat}(w:an)(g:kO aP 9 w A vi fs)(o:kO aP 9 w A2 N2 gs)(f:kO dE 6 w A3 N3 rim)(s:vi<=1000000000)(B:N2<=1000000000)(D:N3<=1000000000):cX X9 100 [.slice A vi cap,.slice A2 N2 cap2,.slice A3 N3 cap3] w (λv _=>∃b,v=.bool b):=by
 refine⟨bP func100 (by kernel_rfl),?_⟩;have m:=Mem.refl w
 go_enter func100,ntmps100
 apply iD 10 [0] m;simp only[↓Z];refine bT [7] [6,8,9,10,11,12,13,14,15,16,17,18,19,20,21,22,23,24,25,26,27,28,29,30,31,32,33,34,35,36,37,38] (λn vs j=>∃(k:Nat),vs=[U (k:Int)]/\Mem w j []/\(k<=N3)/\(n=N3-k)) ?_ ?_
 .exact⟨_,0,O,m,bm _,O⟩
 intro n vs z d u r l;obtain⟨k,rfl,m,x,y⟩:=d;simp only[zu,zF,zG];apply F 8 [0,0] m;simp only[↓Z,yL];refine aZ O ?_ ?_<;>intro E
 .obtain⟨e,t,a,rfl,c⟩:=f.get (i:=k) (by omega);apply F 4 [0] m;simp only[↓Z];refine mh m [] [(0,N),(1,N),(2,N),(3,N),(4,N),(6,N),(7,N),(8,N),(9,N),(12,N),(13,N),(14,N),(15,N),(16,N),(18,N),(19,N),(20,N),(21,N),(5,N),(10,N),(17,N),(22,N),(11,X7),(23,X7),(24,N)] aB (by kernel_rfl) (bR (λ_ _ _ _ _ h=>h)) (ol:=?_) ?q ?_
  case q=>simp only[zw,zQ,zR];try rfl
  intro u m;refine tL 22 [0,0,0,0,0,0,0,0] ?_;simp only[↓Z,yM,yN,ab,ae,ac,C,aa];refine⟨_,λu m=>((wF (c.ext m.ext)).lies aM aD),_,λu m=>((Cj (c.ext m.ext)).lies aM aD),_,λu m=>((wF (c.ext m.ext)).lies aM aD),_,λu m=>((Cj (c.ext m.ext)).lies aM aD),by omega,?_⟩;refine bX (bY m O O (akd (p:=e.1) (a0:=e.2) _ (g.ext m.ext) (by omega)) ?_);rintro v u m ⟨I,rfl⟩;refine S ⟨m,?_⟩;refine bX ?_;simp only[J];refine bY m O O (akd (p:=e.1) (a0:=e.2) _ (o.ext m.ext) (by omega)) ?_;rintro v u m ⟨K,rfl⟩;refine S ⟨m,?_⟩;refine aV (Us O O) (aT (gc ?_));simp only[J];refine aZ O ?_ ?_<;>intro G
  .apply F 5 [] m;simp only[↓Z];exact aS O O ⟨_,O,m.ext,_,O⟩
  apply F 7 [0] m;simp only[↓Z];apply R;omega;exact l (N3-(k+1)) _ _ (by omega) (by kernel_rfl) ⟨k+1,O,m,by omega,O⟩
 apply F 6 [] m;simp only[↓Z];exact aS O O ⟨_,O,m.ext,_,O⟩
def adi{N3:Nat}(w:an)(g:kO aP 9 w A vi fs)(x:kO aP 9 w A2 N2 gs)(e:kO dE 6 w A3 N3 rim)(K:vi<=1000000000)(T:N2<=1000000000)(V:N3<=1000000000)(h:vi<=cap):cX X9 99 [.slice A vi cap,.slice A2 N2 cap2,.slice A3 N3 cap3] w (λv _=>∃b,v=.bool b):=by
 refine⟨bP func99 (by kernel_rfl),?_⟩;have m:=Mem.refl w
 go_enter func99,ntmps99
 apply iD 10 [0] m;simp only[↓Z];refine bT [7] [6,8,9,10,11,12,13,14,15,16,17,18,19,20,21,22,23,24,25,26,27,28,29,30,31,32,33,34,35,36,37,38,39,40,41,42,43,44,45,46,47,48,49,50,51] (λn vs o=>∃(k:Nat),vs=[U (k:Int)]/\Mem w o []/\(k<=N2)/\(n=N2-k)) ?_ ?_
 .exact⟨_,0,O,m,bm _,O⟩
 intro n vs S l u y s;obtain⟨k,rfl,m,L,P⟩:=l;simp only[zu,zF,zG];apply F 8 [0,0] m;simp only[↓Z,gN];refine aZ O ?_ ?_<;>intro W
 .obtain⟨t,Q,a,rfl,f⟩:=x.get (i:=k) (by omega);apply qW 37 [4,1,0,0,0,0] m;simp only[↓Z,eY,cD,gC,aW,ab,ae,ac,C,aa,M];refine⟨_,λu m=>((iX.cor (f.ext m.ext) (c:=0) (by omega)).lies aM aD),λz=>⟨by omega,?_⟩⟩;intro u m;refine aA (cS (m:=1) (n:=3) (r:=1) O O (by decide) (by decide)) ?_;apply kZ 10 [0,0,0,2,0] m;simp only[↓Z,eY,cD,gC,aW,ab,ae,ac,C,aa];refine⟨_,λu m=>((iX.cor (f.ext m.ext) (c:=1) (by omega)).lies aM aD),λB=>⟨by omega,?_⟩⟩;intro u m;refine bY m O O (Gg (p:=t.a) _ (e.ext m.ext) (by omega)) ?_;rintro v u m rfl;apply aL 1 [0] m;simp only[↓Z];refine kW O (λd=>aF) ?_;simp only[J];refine qH O (λd=>cT O ((m.b 0 O).full aM aD)) (rL m O O (λd=>by simp only[eo,df,fj,zA,zB,zC,zD,zE,d,lL];rfl) (λd=>Gg (p:=t.b) _ (e.ext m.ext) (by omega)) ?_);intro u m;refine aA (fB O O O) ?_;apply aL 6 [0] m;simp only[↓Z];refine kW O (λd=>aF) ?_;simp only[J];refine qH O (λd=>cT O ((m.b 1 O).full aM aD)) (qH O (λd=>cT O ((m.b 0 O).full aM aD)) (rL m O O (λd=>by simp only[eo,df,fj,zA,zB,zC,zD,zE,d,lL];rfl) (λd=>Nt (p:=t.a) (q:=t.b) _ (g.ext m.ext) (by omega) h) ?_));intro u m;refine kW O (λd=>sT (cG d O)) (aA (fB O O O) ?_);apply aL 1 [0] m;simp only[↓Z];refine dH O ?_ ?_<;>intro j
  .apply F 5 [] m;simp only[↓Z];exact aS O O ⟨_,O,m.ext,_,O⟩
  apply qW 35 [1,0,0,0,0] m;simp only[↓Z,eY,cD,gC,aW,M,ab,ae,ac,C,aa];refine⟨_,λu m=>((iX.cor (f.ext m.ext) (c:=1) (by omega)).lies aM aD),λD=>⟨by omega,?_⟩⟩;intro u m;refine aA (cS (m:=2) (n:=3) (r:=2) O O (by decide) (by decide)) ?_;apply kZ 10 [0,0,0,2,0] m;simp only[↓Z,eY,cD,gC,aW,ab,ae,ac,C,aa];refine⟨_,λu m=>((iX.cor (f.ext m.ext) (c:=2) (by omega)).lies aM aD),λE=>⟨by omega,?_⟩⟩;intro u m;refine bY m O O (Gg (p:=t.b) _ (e.ext m.ext) (by omega)) ?_;rintro v u m rfl;apply aL 1 [0] m;simp only[↓Z];refine kW O (λd=>aF) ?_;simp only[J];refine qH O (λd=>cT O ((m.b 0 O).full aM aD)) (rL m O O (λd=>by simp only[eo,df,fj,zA,zB,zC,zD,zE,d,lL];rfl) (λd=>Gg (p:=t.c) _ (e.ext m.ext) (by omega)) ?_);intro u m;refine aA (fB O O O) ?_;apply aL 6 [0] m;simp only[↓Z];refine kW O (λd=>aF) ?_;simp only[J];refine qH O (λd=>cT O ((m.b 1 O).full aM aD)) (qH O (λd=>cT O ((m.b 0 O).full aM aD)) (rL m O O (λd=>by simp only[eo,df,fj,zA,zB,zC,zD,zE,d,lL];rfl) (λd=>Nt (p:=t.b) (q:=t.c) _ (g.ext m.ext) (by omega) h) ?_));intro u m;refine kW O (λd=>sT (cG d O)) (aA (fB O O O) ?_);apply aL 1 [0] m;simp only[↓Z];refine dH O ?_ ?_<;>intro j
  .apply F 5 [] m;simp only[↓Z];exact aS O O ⟨_,O,m.ext,_,O⟩
  apply qW 35 [1,0,0,0,0] m;simp only[↓Z,eY,cD,gC,aW,M,ab,ae,ac,C,aa];refine⟨_,λu m=>((iX.cor (f.ext m.ext) (c:=2) (by omega)).lies aM aD),λG=>⟨by omega,?_⟩⟩;intro u m;refine aA (cS (m:=3) (n:=3) (r:=0) O O (by decide) (by decide)) ?_;apply kZ 10 [0,0,0,2,0] m;simp only[↓Z,eY,cD,gC,aW,ab,ae,ac,C,aa];refine⟨_,λu m=>((iX.cor (f.ext m.ext) (c:=0) (by omega)).lies aM aD),λI=>⟨by omega,?_⟩⟩;intro u m;refine bY m O O (Gg (p:=t.c) _ (e.ext m.ext) (by omega)) ?_;rintro v u m rfl;apply aL 1 [0] m;simp only[↓Z];refine kW O (λd=>aF) ?_;simp only[J];refine qH O (λd=>cT O ((m.b 0 O).full aM aD)) (rL m O O (λd=>by simp only[eo,df,fj,zA,zB,zC,zD,zE,d,lL];rfl) (λd=>Gg (p:=t.a) _ (e.ext m.ext) (by omega)) ?_);intro u m;refine aA (fB O O O) ?_;apply aL 6 [0] m;simp only[↓Z];refine kW O (λd=>aF) ?_;simp only[J];refine qH O (λd=>cT O ((m.b 1 O).full aM aD)) (qH O (λd=>cT O ((m.b 0 O).full aM aD)) (rL m O O (λd=>by simp only[eo,df,fj,zA,zB,zC,zD,zE,d,lL];rfl) (λd=>Nt (p:=t.c) (q:=t.a) _ (g.ext m.ext) (by omega) h) ?_));intro u m;refine kW O (λd=>sT (cG d O)) (aA (fB O O O) ?_);apply aL 1 [0] m;simp only[↓Z];refine dH O ?_ ?_<;>intro j
  .apply F 5 [] m;simp only[↓Z];exact aS O O ⟨_,O,m.ext,_,O⟩
  apply F 22 [2,0] m;simp only[↓Z,M];apply R;omega;exact s (N2-(k+1)) _ _ (by omega) (by kernel_rfl) ⟨k+1,O,(m.sel [X7,X7,X7,X7,X7,X7]),by omega,O⟩
 apply F 6 [] m;simp only[↓Z];exact aS O O ⟨_,O,m.ext,_,O⟩
def af4{m:Mv}(b:ms[i]? = H m)(h:Py f c ms rim i m=X7):Jv f c ms rim=X7:=by
 cases a:Jv f c ms rim with
 |false=>rfl
 |true=>rw[Pz.1 a i m b] at h;cases h
def aqd{a:Mv}{p:Y}{b:Bool}(h:ms[q]? = H a):((b&&(ms.take q).all λx=>decide (x.1≠p))&&decide (¬(a.1.x=p.x/\a.1.y=p.y/\a.1.z=p.z)))=(b&&(ms.take (q+1)).all λx=>decide (x.1≠p)):=by
 rw[cZ h,qh,Bool.and_assoc];simp only[Bl,List.all_cons,List.all_nil,Bool.and_true,ne_eq]
def amu{p:Y}{b:Bool}:b=(b&&(ms.take 0).all λx=>decide (x.1≠p)):=by simp
def arP{r f t s:Bool}(h:(((!r || !f) || !t)||s)=N):(r&&f&&t && !s)=X7:=by revert h;cases r<;>cases f<;>cases t<;>cases s<;>decide
def arQ{r f t s:Bool}(h:(((!r || !f) || !t)||s)=X7):(r&&f&&t && !s)=N:=by revert h;cases r<;>cases f<;>cases t<;>cases s<;>decide
def aqe{mv a:Mv}{j:Nat}(h:ms[j]? = H a):decide (a.1.Lt mv.1)=(decide (j+1=0)||(ms[j+1-1]?).any λx=>decide (x.1.Lt mv.1)):=by
 rw[Nat.add_sub_cancel,h];simp
def ake{y:T3}:(x.a.x=y.a.x/\x.a.y=y.a.y/\x.a.z=y.a.z/\x.b.x=y.b.x/\x.b.y=y.b.y/\x.b.z=y.b.z/\x.c.x=y.c.x/\x.c.y=y.c.y/\x.c.z=y.c.z)↔x=y:=
 ⟨λ⟨d,e,f,g,i,j,k,l,m⟩=>Yk (Y.eq d e f) (Y.eq g i j) (Y.eq k l m),λh=>by rw[h];exact⟨O,O,O,O,O,O,O,O,O⟩⟩
def arR    : gs.map (cV ms fs i)=Ao ms fs gs i 0:=rfl
def amv    : (Ao ms fs gs i q).length=gs.length:=by simp[Ao];omega
def amw(h:q=gs.length):Ao ms fs gs i q=gs.map (cV ms fs (i+1)):=by subst h;simp[Ao]
def amx(h:gs[q]? = H u):(Ao ms fs gs i q)[q]? = H (cV ms fs i u):=by
 have a:=(av.1 h).1;rw[Ao,dj (by simp;omega),dy,bf,de (by omega),Nat.sub_self,dc,dn,gi,h];rfl
def Lb(b:fs[i]? = H t):rY ms (fs.take (i+1)) u=rY ms (fs.take i) u+if (t.img ms).nd=N/\j u=j (t.img ms) then 1 else 0:=by
 unfold rY;rw[cZ b,List.filter_append,a_];by_cases h:(t.img ms).nd=N/\j u=j (t.img ms)
 .rw[Z9 h];simp[h]
 rw[K0 h];have:((t.img ms).nd&&decide (j u=j (t.img ms)))=X7:=by
  cases a:(t.img ms).nd with
  |false=>rfl
  |true=>rw[Y6 (λk=>h ⟨a,k⟩)];rfl
 simp[this]
def amy(ms:List Mv)(fs:List T3)(u:T3):rY ms fs u<=fs.length:=kn _ _
def akf(h:gs[q]? = H u)(v:am):over (Ao ms fs gs i q) q [v]=(gs.take q).map (cV ms fs (i+1))++v::(gs.drop (q+1)).map (cV ms fs i):=by
 have b:=(av.1 h).1;have e:Ao ms fs gs i q=(gs.take q).map (cV ms fs (i+1))++cV ms fs i u::(gs.drop (q+1)).map (cV ms fs i):=by
  rw[Ao,dw b,(av.1 h).2];rfl
 have a:((gs.take q).map (cV ms fs (i+1))).length=q:=by simp;omega
 rw[over,e,List.take_left' a,<-List.drop_drop,List.drop_left' a];simp
def amz(c:fs[i]? = H t)(a:(t.img ms).nd=N)(h:gs[q]? = H u)(b:j u=j (t.img ms)):over (Ao ms fs gs i q) q [U (((rY ms (fs.take i) u:Nat):Int)+1)]=Ao ms fs gs i (q+1):=by
 rw[akf h,Ao,cZ h,dh,di];have:cV ms fs (i+1) u=U (((rY ms (fs.take i) u:Nat):Int)+1):=by
  rw[cV,Lb c,Z9 ⟨a,b⟩];rfl
 simp[this]
def aqf(c:fs[i]? = H t)(h:gs[q]? = H u)(b:¬j u=j (t.img ms)):Ao ms fs gs i (q+1)=Ao ms fs gs i q:=by
 have a:=(av.1 h).1;have:cV ms fs (i+1) u=cV ms fs i u:=by rw[cV,Lb c,K0 (λk=>b k.2)];rfl
 rw[Ao,Ao,cZ h,dh,di,dw a,(av.1 h).2];simp[this]
def akg(b:fs[i]? = H t)(a:(t.img ms).nd=X7):gs.map (cV ms fs (i+1))=gs.map (cV ms fs i):=
 lf λu _=>by rw[cV,Lb b,K0 (λk=>by rw[a] at k;cases k.1)];rfl
def arS   : List.replicate gs.length (ky .i64 0)=gs.map (cV ms fs 0):=by
 have:gs.map (cV ms fs 0)=gs.map λ_=>ky .i64 0:=lf λu _=>rfl;rw[this,List.map_const']
def akh{a b c:Y}:((decide (¬(a.x=b.x/\a.y=b.y/\a.z=b.z))&&decide (¬(b.x=c.x/\b.y=c.y/\b.z=c.z)))&&decide (¬(c.x=a.x/\c.y=a.y/\c.z=a.z)))=(⟨a,b,c⟩:T3).nd:=by
 simp only[T3.nd,Bl,ne_eq]
def Vv(a:f[i]? = H t)(h:uA c (t.img ms)=X7):Fk f c ms=X7:=by
 rw[Fk,(List.all_eq_false.2 ⟨t,ak a,by rw[h];exact jw⟩)];rfl
def Sg(b:f[i]? = H t)(a:((f.take i).all λt=>uA c (t.img ms))=N)(h:uA c (t.img ms)=N):((f.take (i+1)).all λt=>uA c (t.img ms))=N:=by
 rw[cZ b,qh,a];simp[h]
def af5(a:c[q]? = H u)(h:¬((rY ms f u:Nat):Int)=1):Fk f c ms=X7:=by
 rw[Fk];have:(c.all λu=>decide (rY ms f u=1))=X7:=List.all_eq_false.2 ⟨u,ak a,by simpa using λk=>h (by omega)⟩;rw[this,Bool.and_false]
def aki(b:c[q]? = H u)(a:((c.take q).all λu=>decide (rY ms f u=1))=N)(h:((rY ms f u:Nat):Int)=1):((c.take (q+1)).all λu=>decide (rY ms f u=1))=N:=by
 rw[cZ b,qh,a];simp;omega
def Sh(a:c[q]? = H u):((c.take (q+1)).any λu=>decide (j u=j x))=((c.take q).any (λu=>decide (j u=j x))||decide (j u=j x)):=Gs a
def abF(h:x.nd=N):uA c x=c.any λu=>decide (j u=j x):=by rw[uA,h,Z9 rfl]
def abG(h:x.nd=X7):uA c x=Ak c x.a (if x.a=x.b then x.c else x.b):=by rw[uA,h,K0 jw]
def adj{N3 N4 S:Nat}{r:Option Addr}(w:an)(s:kO aP 9 w A vi fs)(K:kO aP 9 w A2 N2 gs)(e:kO dE 6 w A3 N3 ms)(E:kO dE 6 w r N4 rim)(hN:vi<=1000000000)(ad:N2<=1000000000)(af:N3<=1000000000)(ag:N4<=1000000000):cX X9 101 [.slice A vi cap,.slice A2 N2 cap2,.slice A3 N3 cap3,.slice r N4 S] w (λv _=>v=.bool (Jv fs gs ms rim)):=by
 refine⟨bP func101 (by kernel_rfl),?_⟩;have m:=Mem.refl w
 go_enter func101,ntmps101
 apply iD 10 [0] m;simp only[↓Z];refine bT [9] [8,10,11,12,13,14,15,16,17,18,19,20,21,22,23,24,25,26,27,28,29,30,31,32,33,34,35,36,37,38,39,40,41,42,43,44,45,46,47,48,49,50,51,52,53,54,55,56,57,58,59,60,61,62,63,64,65,66,67,68,69,70,71,72,73,74,75,76,77,78,79,80,81,82,83,84,85,86,87,88,89,90,91,92,93,94,95,96,97,98,99] (λn vs l=>∃(k:Nat),vs=[U (k:Int)]/\Mem w l []/\(∀i mv,i<k->ms[i]? = H mv->Py fs gs ms rim i mv=N)/\(k<=N3)/\(n=N3-k)) ?_ ?_
 .exact⟨_,0,O,m,λ_ _ h=>Y0 h (Nat.not_lt_zero _),bm _,O⟩
 intro n vs y d u K1 G;obtain⟨k,rfl,m,D,hk,hn⟩:=d;simp only[zu,zF,zG];apply F 8 [0,0] m;simp only[↓Z,aaY];refine aZ O ?_ ?_<;>intro ah
 .obtain⟨mv,C,a3,rfl,b⟩:=e.get (i:=k) (by omega);apply F 4 [0] m;simp only[↓Z];refine adS m [10] [21,22,23,24,25,26,27,28,29,30,31,32,33,34,35,36] (λvs=>vs=[.bool (decide (k=0)||(ms[k-1]?).any λx=>decide (x.1.Lt mv.1))]) ?_ ?_
  .intro K2 z;rcases et k with hk0|hk0
   .subst hk0;refine mq m aB (by kernel_rfl) (cW 17 [1,0,0,0,0,0,0,0,0,0,0,0,0] ?_);simp only[↓Z];apply R;omega;refine bD ?_;intro u m;exact gk (z _ _ (by kernel_rfl) m O)
   obtain⟨j,rfl⟩:∃j,k=j+1:=⟨k-1,by omega⟩
   obtain⟨g,f,a4,L,W⟩:=e.get (i:=j) (by omega);cases L;refine mq m aB (by kernel_rfl) (cW 6 [2,0,0,0] ?_);simp only[↓Z];apply R;omega;refine bU O (aK (aN vA tK O O (by omega) (by omega) (kV (show ji (((j+1:Nat):Int)-1)=j by omega))) ?_);refine cW 7 [0,0,0,0,0,0,0,0,0,0,0] ?_;simp only[↓Z,Cf,Qm,aa,ab,ae];refine⟨_,λu m=>((wF (W.ext m.ext)).lies aM aD),_,λu m=>((wF (b.ext m.ext)).lies aM aD),by omega,?_⟩;refine bU O (X O O (lB (p:=g.1) (q:=mv.1)) (aK (gD O) (aK aI (bD ?_))));intro u m;refine gk ?_;simp only[J];rw[aqe (mv:=mv) f];exact z _ _ (by kernel_rfl) m O
  intro vs y m d u;obtain rfl:=d;simp only[zu,zF,zG];apply aQ 8 [0,0,0] m;simp only[↓Z,Qm,Cf,ab,ae,aa];refine⟨_,λu m=>((wF (b.ext m.ext)).lies aM aD),by omega,?_⟩;refine bY m O O (Sf (p:=mv.1) _ (s.ext m.ext) (by omega)) ?_;rintro v u m rfl;apply aL 10 [0,0,0] m;simp only[↓Z,Qm,Qo,ab,ae,aa];refine⟨_,λu m=>((Cj (b.ext m.ext)).lies aM aD),by omega,?_⟩;refine bY m O O (Sf (p:=mv.2) _ (K.ext m.ext) (by omega)) ?_;rintro v u m rfl;apply aL 1 [0] m;simp only[↓Z];refine kW O (λa=>aF) (kW O (λa=>aF) (kW O (λa=>aF) ?_));simp only[J];refine kW O (λa=>aN vA tK (cG a O) (cG a O) (by omega) (by omega) (kV (ab _))) (kW O (λa=>aO (c:=2) underlying176 O aD (cG a O) O) ?_);simp only[J];refine qH O (λa=>cT (cG a O) ((Cj (b.ext m.ext)).lies aM aD)) (rL m O O (λa=>by simp only[eo,df,fj,zA,zB,zC,zD,zE,a,lL];rfl) (λa=>Sf (p:=mv.2) _ (s.ext m.ext) (by omega)) ?_);intro u m;refine aA (fB O O O) ?_;apply aL 7 [] m;simp only[↓Z];rw[@amu ms mv.2 (Dx gs mv.2&&Dx fs mv.2)];apply aQ 1 [0] m;simp only[↓Z];refine bT [12,13] [60,61,62,63,64,65,66,67,68,69,70,71,72,73,74,75,76,77,78,79] (λn vs l=>∃(q:Nat),vs=[.bool (Dx gs mv.2&&Dx fs mv.2&&(ms.take q).all λx=>decide (x.1≠mv.2)),U (q:Int)]/\Mem w l []/\(q<=N3)/\(n=N3-q)) ?_ ?_
  .exact⟨_,0,O,m,bm _,O⟩
  intro n vs y d u K3 I;obtain⟨q,rfl,m,hq,ak⟩:=d;simp only[zu,zF,zG];apply F 8 [0,0] m;simp only[↓Z,aaY];refine aZ O ?_ ?_<;>intro ai
  .obtain⟨mu,P,a5,M,Y⟩:=e.get (i:=q) (by omega);cases M;apply F 3 [0] m;simp only[↓Z];refine mq m aB (by kernel_rfl) (aK aF (aK aF (cU O (λa=>aF) (cU O (λa=>aF) ?_))));simp only[J];refine cU O (λa=>aN vA tK (cG a O) (cG a O) (by omega) (by omega) (kV (ab _))) (cU O (λa=>aO (c:=2) underlying176 O aD (cG a O) O) ?_);simp only[J];refine jR O (λa u m=>cT (cG a O) ((wF (Y.ext m.ext)).lies aM aD)) (cU O (λa=>aF) (cU O (λa=>aF) ?_));simp only[J];refine cU O (λa=>aN vA tK (cG a O) (cG a O) (by omega) (by omega) (kV (ab _))) (cU O (λa=>aO (c:=2) underlying176 O aD (cG a O) O) ?_);simp only[J];refine jR O (λa u m=>cT (cG a O) ((Cj (b.ext m.ext)).lies aM aD)) (cU O (λa=>Us (cG a O) (cG a O)) (aK (fB O O O) (aK aI (bD ?_))));intro u m;apply aQ 6 [0] m;simp only[↓Z];apply R;omega;rw[aqd P];exact I (N3-(q+1)) _ _ (by omega) (by kernel_rfl) ⟨q+1,O,m,by omega,O⟩
  have Q:q=N3:=by omega
  rw[Q,show ms.take N3=ms from ap (jk e.len)];apply F 9 [0,0,0] m;simp only[↓Z,Qm,Cf,ab,ae,aa];refine⟨_,λu m=>((wF (b.ext m.ext)).lies aM aD),by omega,?_⟩;refine bY m O O (Gg (p:=mv.1) _ (E.ext m.ext) (by omega)) ?_;rintro v u m rfl;apply aL 12 [3,3,2] m;simp only[↓Z];refine λ_=>λ_=>λ_=>?_;apply aQ 1 [0] m;simp only[↓Z];refine dH O ?_ ?_<;>intro B
  .have o:Py fs gs ms rim k mv=X7:=arP B;apply F 5 [] m;simp only[↓Z];refine aS O O ?_;try simp only[zD,zE]
   exact⟨_,O,m.ext,by rw[af4 C o]⟩
  have o:Py fs gs ms rim k mv=N:=arQ B;have V:∀i mv,i<k+1->ms[i]? = H mv->Py fs gs ms rim i mv=N:=λi g hi f=>by
   rcases Nat.lt_or_ge i k with h|h
   .exact D i g h f
   obtain rfl:i=k:=by omega
   obtain rfl:=Option.some.inj (C.symm.trans f);exact o
  apply F 7 [0] m;simp only[↓Z];apply R;omega;exact G (N3-(k+1)) _ _ (by omega) (by kernel_rfl) ⟨k+1,O,m,V,by omega,O⟩
 have aj:k=N3:=by omega
 have T:Jv fs gs ms rim=N:=Pz.2 λi mv t=>D i mv (by have:=(av.1 t).1;rw[e.len] at this;omega) t;apply F 6 [] m;simp only[↓Z];refine aS O O ?_;try simp only[zD,zE]
 exact⟨_,O,m.ext,by rw[T]⟩
def adk{N3:Nat}(w:an)(I:kO aP 9 w A vi fs)(M:kO aP 9 w A2 N2 gs)(G:kO dE 6 w A3 N3 ms)(hN:vi<=1000000000)(ax:N2<=1000000000)(ay:N3<=1000000000)(au:N2<=cap2)(az:N2<=1000000):cX X9 102 [.slice A vi cap,.slice A2 N2 cap2,.slice A3 N3 cap3] w (λv _=>v=.bool (Fk fs gs ms)):=by
 refine⟨bP func102 (by kernel_rfl),?_⟩;have m:=Mem.refl w
 go_enter func102,ntmps102
 apply iD 8 [0] m;simp only[↓Z,gN];refine jW cF gM O O O (ab _) (ab _) (by omega) (by omega) (by omega) (by omega) ?_;intro u D e_ h_ k_;replace m:=m.newB e_ h_ k_;apply aL 2 [] m;simp only[↓Z];obtain rfl:gs.length=N2:=M.len;rw[arS (ms:=ms) (fs:=fs)] at m;apply aQ 6 [0] m;simp only[↓Z];refine bT [8] [6,9,10,11,12,13,14,15,16,21,22,23,24,25,26,27,28,29,30,31,32,33,34,35,36,37,38,39,40,41,42,43,44,45,46,47,48,49,50,51,52,53,54,55,56,57,58,59,60,61,62,63,64,65,66,67,68,69,70,71,72,73,74,75,76,77,78,79,80,81,82,83,84,85,86,87,88,89,90,91,92,93,94,95,96,97] (λn vs r=>∃(k:Nat),vs=[U (k:Int)]/\Mem w r [bI D (gs.map (cV ms fs k)) 3]/\(((fs.take k).all λt=>uA gs (t.img ms))=N)/\(k<=vi)/\(n=vi-k)) ?_ ?_
 .exact⟨_,0,O,m,O,bm _,O⟩
 intro n vs L f u K1 T;obtain⟨k,rfl,m,s,hk,aI⟩:=f;simp only[zu,zF,zG];apply F 8 [0,0] m;simp only[↓Z,gN];refine aZ O ?_ ?_<;>intro aA
 .obtain⟨t,h,a,rfl,S⟩:=I.get (i:=k) (by omega);apply F 11 [0,0,0] m;simp only[↓Z,eY,cD,ab,ae,ac,C,aa];refine⟨_,λu m=>((iX.cor (S.ext m.ext) (c:=0) (by omega)).lies aM aD),by omega,?_⟩;refine bY m O O (Se (p:=t.a) _ (G.ext m.ext) (by omega)) ?_;rintro v u m rfl;apply kZ 11 [0,0,0,0] m;simp only[↓Z,gC,aW,eY,cD,aa,ab,ae,ac,C];refine λg2=>⟨_,λu m=>((iX.cor (S.ext m.ext) (c:=1) (by omega)).lies aM aD),by omega,?_⟩
  intro u m;refine bY m O O (Se (p:=t.b) _ (G.ext m.ext) (by omega)) ?_;rintro v u m rfl;apply kZ 11 [0,0,0,0] m;simp only[↓Z,gC,aW,eY,cD,aa,ab,ae,ac,C];refine λg3=>⟨_,λu m=>((iX.cor (S.ext m.ext) (c:=2) (by omega)).lies aM aD),by omega,?_⟩
  intro u m;refine bY m O O (Se (p:=t.c) _ (G.ext m.ext) (by omega)) ?_;rintro v u m rfl;apply kZ 11 [0,3,2,4,2,1] m;simp only[↓Z,gC,aW,aa];refine λg4=>⟨_,pK,_,pK,λ_=>?_⟩
  intro u m;apply aQ 3 [4,1,3,0] m;simp only[↓Z,aW];refine⟨_,pK,λ_=>?_⟩;refine dH O ?_ ?_<;>intro B
  .have g:(t.img ms).nd=N:=akh.symm.trans B;apply F 6 [3,2,1] m;simp only[↓Z,aW,Ah,aa];refine go (iE m O O (xA (t:=t.img ms)) 6 [0] ?_);simp only[↓Z,uE,fM,aa];intro E u m;apply aQ 7 [0] m;simp only[↓Z];refine bT [13,14] [66,67,68,69,70,71,72,73,74,75,76,77,78,79,80,81,82,83,84] (λn vs r=>∃(q:Nat),vs=[.bool ((gs.take q).any λu=>decide (j u=j (t.img ms))),U (q:Int)]/\Mem w r [bI E (aP (j (t.img ms))) 43,bI D (Ao ms fs gs k q) 3]/\(q<=gs.length)/\(n=gs.length-q)) ?_ ?_
   .rw[arR] at m;exact⟨_,0,O,(m.sel [N,X7,X7,X7,N]),bm _,O⟩
   intro n vs L f u K2 V;obtain⟨q,rfl,m,hq,ao⟩:=f;simp only[zu,zF,zG];apply F 8 [0,0] m;simp only[↓Z,gN];refine aZ O ?_ ?_<;>intro aE
   .obtain⟨e,d,a2,rfl,aw⟩:=M.get (i:=q) (by omega);have am:=amy ms (fs.take k) e;rw[bf] at am;apply F 4 [0] m;simp only[↓Z];refine mq m aB (by kernel_rfl) (cW 4 [0,1] ?_);simp only[↓Z,eY,ab,ae];refine⟨_,λu m=>((aw.ext m.ext).lies eD bK),by omega,?_⟩;refine X O O (xA (t:=e)) ?_;simp only[J];refine ql O (λu m=>((m.b 0 O).full eD bK)) ?_;simp only[J];refine aK (afc O O) (bD ?_);intro u m;refine gc ?_;simp only[J];refine aZ O ?_ ?_<;>intro Y
    .have o:j e=j (t.img ms):=ake.1 Y;apply F 11 [0,2,0] m;simp only[↓Z,lV,ab,ae,bi];refine⟨_,λu m=>(show eZ _ _ _ _ (U ((rY ms (fs.take k) e:Nat):Int)) from (m.b 1 O).lies1 (i:=q) bW (amx d)),by omega,?_⟩;refine cH m 1 O O O bC (by rw[amv];have:=(av.1 d).1;simp;omega) ⟨rfl,rfl⟩ ?_;intro u m;simp only[J] at m;rw[amz h g d o] at m;apply aL 7 [0] m;simp only[↓Z];apply R;omega;rw[show N=((gs.take (q+1)).any λu=>decide (j u=j (t.img ms))) by rw[Sh d,Y5 o,Bool.or_true]];exact V (gs.length-(q+1)) _ _ (by omega) (by kernel_rfl) ⟨q+1,O,m,by omega,O⟩
    have o:¬j e=j (t.img ms):=mt ake.2 Y;apply F 7 [0] m;simp only[↓Z];apply R;omega;rw[show ((gs.take q).any λu=>decide (j u=j (t.img ms)))=((gs.take (q+1)).any λu=>decide (j u=j (t.img ms))) by rw[Sh d,Y6 o,Bool.or_false]];rw[<-aqf h d o] at m;exact V (gs.length-(q+1)) _ _ (by omega) (by kernel_rfl) ⟨q+1,O,m,by omega,O⟩
   have ak:q=gs.length:=by omega
   rw[amw ak] at m;rw[ak,ga];apply F 7 [0] m;simp only[↓Z];refine dH O ?_ ?_<;>intro ad
   .have l:=Vv h ((abF g).trans (by simpa using ad));apply F 5 [] m;simp only[↓Z];refine aS O O ?_;try simp only[zD,zE]
    exact⟨_,O,m.ext,by rw[l]⟩
   have Q:=Sg h s ((abF g).trans (by simpa using ad));apply F 7 [0] m;simp only[↓Z];apply R;omega;exact T (vi-(k+1)) _ _ (by omega) (by kernel_rfl) ⟨k+1,O,(m.sel [X7,N]),Q,by omega,O⟩
  have g:(t.img ms).nd=X7:=akh.symm.trans B;apply qW 12 [2,0,4,3] m;simp only[↓Z,aW,gC,aa];intro E u m;apply aQ 2 [0] m;simp only[↓Z];refine⟨_,fX,?_⟩;refine qO m 0 [] [91] (λvs i=>vs=[]/\i=bI E [U (if (t.img ms).a=(t.img ms).b then (t.img ms).c else (t.img ms).b).x,U (if (t.img ms).a=(t.img ms).b then (t.img ms).c else (t.img ms).b).y,U (if (t.img ms).a=(t.img ms).b then (t.img ms).c else (t.img ms).b).z] 41) ?_ ?_
  .intro K3 W;refine aZ O ?_ ?_<;>intro af
   .have P:(t.img ms).a=(t.img ms).b:=Bl.1 af;apply qW 4 [2,0,0] m;simp only[↓Z,aW,aa];intro u m;exact W _ _ _ (by kernel_rfl) m ⟨O,by rw[Z9 P];rfl⟩
   have P:¬(t.img ms).a=(t.img ms).b:=mt Bl.2 af;apply F 1 [0] m;simp only[↓Z];exact W _ _ _ (by kernel_rfl) m ⟨O,by rw[K0 P];rfl⟩
  intro vs i L m f u;obtain⟨rfl,rfl⟩:=f;simp only[zF,zG] at m;simp only[zu,zF,zG];apply aQ 5 [4,1,0] m;simp only[↓Z,aW];refine bY m O O (Nt (p:=(t.img ms).a) (q:=if (t.img ms).a=(t.img ms).b then (t.img ms).c else (t.img ms).b) _ (M.ext m.ext) (by omega) au) ?_;rintro v u m rfl;apply aL 7 [0] m;simp only[↓Z];refine dH O ?_ ?_<;>intro ai
  .have l:=Vv h ((abG g).trans (by simpa using ai));apply F 5 [] m;simp only[↓Z];refine aS O O ?_;try simp only[zD,zE]
   exact⟨_,O,m.ext,by rw[l]⟩
  have Q:=Sg h s ((abG g).trans (by simpa using ai));apply F 7 [0] m;simp only[↓Z];apply R;omega;rw[<-akg (gs:=gs) h g] at m;exact T (vi-(k+1)) _ _ (by omega) (by kernel_rfl) ⟨k+1,O,(m.sel [X7,X7,X7,X7,N]),Q,by omega,O⟩
 have aG:k=vi:=by omega
 have aq:(fs.all λt=>uA gs (t.img ms))=N:=by rw[ap (by rw[I.len];omega)] at s;exact s
 rw[show gs.map (cV ms fs k)=gs.map λu=>ky .i64 ((rY ms fs u:Nat):Int) from lf λu _=>by rw[cV,ap (by rw[I.len];omega)]] at m;apply F 7 [0] m;simp only[↓Z];refine bT [17] [6,98,99,100,101,102,103,104,105,106,107,108] (λn vs r=>∃(q:Nat),vs=[U (q:Int)]/\Mem w r [bI D (gs.map λu=>ky .i64 ((rY ms fs u:Nat):Int)) 3]/\(((gs.take q).all λu=>decide (rY ms fs u=1))=N)/\(q<=gs.length)/\(n=gs.length-q)) ?_ ?_
 .exact⟨_,0,O,m,O,bm _,O⟩
 intro n vs L f u K4 al;obtain⟨q,rfl,m,K,hq,ao⟩:=f;simp only[zu,zF,zG];apply F 8 [0,0] m;simp only[↓Z,gG];refine aZ O ?_ ?_<;>intro aF
 .obtain⟨e,d⟩:∃e,gs[q]? = H e:=⟨_,ah (by omega)⟩
  apply F 11 [0,2,0,0] m;simp only[↓Z,lV,ab,ae,bi];refine⟨_,λu m=>((m.b 0 O).lies1 (i:=q) bW (by rw[dc,d];rfl)),by omega,?_⟩;refine aZ O ?_ ?_<;>intro aj
  .have l:=af5 d aj;apply F 5 [] m;simp only[↓Z];refine aS O O ?_;try simp only[zD,zE]
   exact⟨_,O,m.ext,by rw[l]⟩
  have B:=aki d K (Classical.not_not.1 aj);apply F 7 [0] m;simp only[↓Z];apply R;omega;exact al (gs.length-(q+1)) _ _ (by omega) (by kernel_rfl) ⟨q+1,O,m,B,by omega,O⟩
 have ar:Fk fs gs ms=N:=by rw[ap (by omega)] at K;rw[Fk,aq,K];rfl
 apply F 6 [] m;simp only[↓Z];refine aS O O ?_;try simp only[zD,zE]
 exact⟨_,O,m.ext,by rw[ar]⟩
end
section
attribute [local irreducible] be c_ fS cE cP Code.wp
variable{q:Y}
def amA(m n:Int):(if m<n then n else m)=max m n:=by split<;>omega
def aez(p q:Y):(q.sub p).dot (q.sub p)=((uB p q:Nat):Int):=by unfold uB;have:=ab6 (q.sub p);omega
def Cq{p:Y}[I3 p][I3 q]:Bd 200 ((uB p q:Nat):Int):=by rw[<-aez];exact (K.up:Bd 200 ((q.sub p).dot (q.sub p)))
def aqg(n:Nat):eS n<=n:=by
 obtain⟨h,_⟩:=tS n;rcases et (eS n) with e|e
 .omega
 exact ay (Nat.le_mul_of_pos_left _ e) h
def Lc{n:Nat}(h:Bd 200 ((n:Nat):Int)):Bd 200 ((eS n:Nat):Int):=by
 have a:(n:Int).natAbs<2^200:=h;show (eS n:Int).natAbs<2^200
 have:=aqg n;omega
def akj{p:Y}(h:eS (uB p q)*eS (uB p q)=uB p q):((eS (uB p q):Nat):Int)=Jy p q:=by rw[Jy,Z9 h,Int.add_zero]
def amB{p:Y}(h:¬eS (uB p q)*eS (uB p q)=uB p q):((eS (uB p q):Nat):Int)+1=Jy p q:=by rw[Jy,K0 h]
def amC{p:Y}[I3 p][I3 q]:Bd 250 (Jy p q):=by
 have h:(eS (uB p q):Int).natAbs<2^200:=Lc Cq;show (Jy p q).natAbs<2^250
 have a:(2:Nat)^200+1<=2^250:=by decide
 unfold Jy;split<;>omega
end
section
attribute [local irreducible] be c_ fS cE cP Code.wp
attribute [local congr] fE fF eN fD
variable{vi cap N2 cap2:Nat}
def amD{a b:Int}(h:gF a)(k:gF b):gF (max a b):=by
 rcases Int.le_total a b with e|e
 .rw[Int.max_eq_right e];exact k
 rw[Int.max_eq_left e];exact h
def anB{n:Nat}:bV (((eS n:Nat):Int)*((eS n:Nat):Int)-(n:Int))<0↔¬eS n*eS n=n:=by
 have h:=(tS n).1;have a:((eS n:Nat):Int)*((eS n:Nat):Int)=((eS n*eS n:Nat):Int):=by simp
 rw[a];generalize eS n*eS n=r at h;unfold bV;split
 .exact⟨λ_=>by omega,λ_=>by omega⟩
 split
 .exact⟨λk=>by omega,λk=>by omega⟩
 exact⟨λk=>by omega,λk=>by omega⟩
def abH{p q:Y}[I3 p][I3 q]:dO X9 103 [pt p,pt q] (.tuple #[U (Jw (Jy p q)),.bool (decide (gF (Jy p q)))]):=by
 intro w;refine⟨bP func103 (by kernel_rfl),?_⟩;have m:=Mem.refl w
 go_enter func103,ntmps103
 apply gJ 11 [2,1,0] m;simp only[↓Z,aW];intro j k u m;refine iE m O O (ajk (p:=p) (q:=q)) 3 [0] ?_;simp only[↓Z,eX,cB,aa];intro l u m;rw[aez] at m;apply aQ 3 [1,0] m;simp only[↓Z,cB];refine iE m O O (alP (a:=((uB p q:Nat):Int)) (Cq.mono (by decide)) (by omega)) 7 [0] ?_;simp only[↓Z,eX,cB,aa];intro f u m;rw[Int.natAbs_natCast] at m;apply aQ 2 [0] m;simp only[↓Z];refine mq m aB (by kernel_rfl) (ql O (λu m=>((m.b 0 O).full bE aJ)) ?_);simp only[J];refine ql O (λu m=>((m.b 0 O).full bE aJ)) ?_;simp only[J];refine X O O (sR (a:=((eS (uB p q):Nat):Int)) (b:=((eS (uB p q):Nat):Int)) ((Lc Cq).mono (by decide)) ((Lc Cq).mono (by decide))) ?_;simp only[J];refine ql O (λu m=>((m.b 1 O).full bE aJ)) ?_;simp only[J];refine X O O (aiO (a:=((eS (uB p q):Nat):Int)*((eS (uB p q):Nat):Int)) (b:=((uB p q:Nat):Int)) (((Lc Cq).mul (Lc Cq)).mono (by decide)) (Cq.mono (by decide))) (aK (oJ O O) (bD ?_));intro u m;refine gc ?_;simp only[J];refine qO m 0 [] [23,24,25] (λvs i=>vs=[]/\i=bI f [.bool (cQ (Jy p q)),.string (dQ (Jy p q))] 37) ?_ ?_
 .intro h d;refine aZ O ?_ ?_<;>intro e
  .have c:=anB.1 e;refine cC m 3 aB (by kernel_rfl) ?_;simp only[zy];refine ql O (λu m=>((m.b 0 O).full bE aJ)) ?_;simp only[J];refine X O O (iT (n:=1) (show gF 1 by unfold gF;decide)) ?_;simp only[J];refine X O O (uJ (a:=((eS (uB p q):Nat):Int)) (b:=1) ((Lc Cq).mono (by decide)) K.up) (bD ?_);intro u m;simp only[J];refine aX m 0 O O O aJ (eU O) O ?_;intro u m;simp only[zy,zx,over,zF,zG,aa] at m;refine S (gk ?_);rw[amB c] at m;exact d _ _ _ (by kernel_rfl) m ⟨O,O⟩
  have c:=Classical.not_not.1 (mt anB.2 e);apply F 1 [0] m;simp only[↓Z];rw[akj c] at m;exact d _ _ _ (by kernel_rfl) m ⟨O,O⟩
 intro vs i o m g u;obtain⟨rfl,rfl⟩:=g;simp only[zF,zG] at m;simp only[zu,zF,zG];apply aQ 3 [1,0] m;simp only[↓Z,cB];refine iE m O O (ajr (a:=Jy p q) (amC.mono (by decide))) 6 [] ?_;simp only[↓Z];intro u m;exact kN O O O ⟨_,O,m.ext,O⟩
def af6{fs gs:List T3}{ms:List Mv}{N3 af:Nat}{A t B:Option Addr}(w:an)(b:cI w A vi fs)(c:cI w t N2 gs)(r:kO dE 6 w B N3 ms)(hN:vi<=300000)(ap:N2<=300000)(aq:N3<=10000000)(d:∀mv∈ms,I3 mv.1/\I3 mv.2)(ai:vi<=cap)(al:N2<=cap2):cX X9 57 [.slice A vi cap,.slice t N2 cap2,.slice B N3 af] w (λv _=>∃x z,v=.tuple #[U x,U z]/\gF x):=by
 refine⟨bP func57 (by kernel_rfl),?_⟩;have m:=Mem.refl w;have a:gF 0:=by unfold gF;omega
 go_enter func57,ntmps57
 apply iD 8 [0] m;simp only[↓Z];refine bY m O O (yR _ (b.ext m.ext) (by omega)) ?_;rintro v u m ⟨am,rfl⟩;apply aL 8 [0,0] m;simp only[↓Z];refine aZ O ?_ ?_<;>intro ar
 .apply F 7 [] m;simp only[↓Z];exact kN O O O ⟨_,O,m.ext,_,_,O,a⟩
 apply F 4 [0] m;simp only[↓Z];refine bY m O O (yR _ (c.ext m.ext) (by omega)) ?_;rintro v u m ⟨ao,rfl⟩;apply aL 8 [0,0] m;simp only[↓Z];refine aZ O ?_ ?_<;>intro au
 .apply F 7 [] m;simp only[↓Z];exact kN O O O ⟨_,O,m.ext,_,_,O,a⟩
 apply F 4 [0] m;simp only[↓Z];refine bB O O (Qz _ (b.ext m.ext) (by omega)) ?_;rintro v u g ⟨f,⟨G,J,n4,Y,rfl,h⟩,aG⟩;replace m:=m.newO g h;subst Y;have aJ:=b.len;apply aL 5 [0] m;simp only[↓Z];refine bB O O (Qz _ (c.ext m.ext) (by omega)) ?_;rintro v u g ⟨l,⟨I,K,n5,ad,rfl,h⟩,aI⟩;replace m:=m.newO g h;subst ad;have aK:=c.len;apply aL 11 [0,0] m;simp only[↓Z,yL];refine aZ O ?_ ?_<;>intro s
 .apply F 6 [] m;simp only[↓Z];exact kN O O O ⟨_,O,m.ext,_,_,O,a⟩
 apply F 7 [0] m;simp only[↓Z];refine bT [11] [6,7,39,40,41,42,43,44,45,46,47,48,49,50,51,52,53] (λn vs j=>∃(k:Nat),vs=[U (k:Int)]/\Mem w j [oI 170 6 I l.length K (l.flatMap dE),oI 170 6 G f.length J (f.flatMap dE)]/\(k<=f.length)/\(n=f.length-k)) ?_ ?_
 .exact⟨_,0,O,m,bm _,O⟩
 intro n vs Q d u K1 S;obtain⟨k,rfl,m,M,P⟩:=d;simp only[zu,zF,zG];apply F 8 [0,0] m;simp only[↓Z,yL];refine aZ O ?_ ?_<;>intro av
 .obtain⟨e,L⟩:∃e,f[k]? = H e:=⟨_,ah (by omega)⟩
  obtain⟨e2,W⟩:∃e,l[k]? = H e:=⟨_,ah (by omega)⟩
  obtain⟨gO,rfl⟩:=(m.o 1 rfl).some (by omega);obtain⟨gP,rfl⟩:=(m.o 0 rfl).some (by omega);apply F 4 [0] m;simp only[↓Z];refine mq m aB (by kernel_rfl) (cW 9 [0,4,0,4] ?_);simp only[↓Z,yM,ab,ae];refine⟨_,λu m=>(lA (((m.o 1 O).at Bk L).lies Dd mP)),_,λu m=>(lA (((m.o 0 O).at Bk W).lies Dd mP)),_,alA,by omega,?_⟩;refine bD ?_;intro u m;refine gc (aZ O (λV=>?_) (λV=>?_))
  .apply F 6 [] m;simp only[↓Z];exact kN O O O ⟨_,O,m.ext,_,_,O,a⟩
  apply F 7 [0] m;simp only[↓Z];apply R;omega;exact S (f.length-(k+1)) _ _ (by omega) (by kernel_rfl) ⟨k+1,O,m,by omega,O⟩
 skip
 apply F 6 [0] m;simp only[↓Z];refine bY m O O (adi _ (b.lat.ext m.ext) (c.lat.ext m.ext) ((m.o 1 O).lat Bk (by decide)) (by omega) (by omega) (by omega) ai) ?_;rintro v u m ⟨aE,rfl⟩;apply aL 7 [0] m;simp only[↓Z];refine bY m O O (amt _ (b.lat.ext m.ext) (c.lat.ext m.ext) ((m.o 1 O).lat Bk (by decide)) (by omega) (by omega) (by omega)) ?_;rintro v u m ⟨aF,rfl⟩;apply aL 9 [3,0] m;simp only[↓Z];refine λ_=>?_;refine dH O ?_ ?_<;>intro aw
 .apply F 6 [] m;simp only[↓Z];exact kN O O O ⟨_,O,m.ext,_,_,O,a⟩
 apply F 7 [0] m;simp only[↓Z];refine bY m O O (adj _ (b.lat.ext m.ext) (c.lat.ext m.ext) (r.ext m.ext) ((m.o 1 O).lat Bk (by decide)) (by omega) (by omega) (by omega) (by omega)) ?_;rintro v u m rfl;apply aL 8 [0] m;simp only[↓Z];refine dH O ?_ ?_<;>intro ax
 .apply F 6 [] m;simp only[↓Z];exact kN O O O ⟨_,O,m.ext,_,_,O,a⟩
 apply F 6 [0] m;simp only[↓Z];refine bY m O O (adk _ (b.lat.ext m.ext) (c.lat.ext m.ext) (r.ext m.ext) (by omega) (by omega) (by omega) al (by omega)) ?_;rintro v u m rfl;apply aL 8 [0] m;simp only[↓Z];refine dH O ?_ ?_<;>intro ay
 .apply F 6 [] m;simp only[↓Z];exact kN O O O ⟨_,O,m.ext,_,_,O,a⟩
 apply F 11 [0] m;simp only[↓Z];refine bT [16,17] [6,7,18,19,80,81,82,83,84,85,86,87,88,89,90,91,92,93,94,95,96,97,98,99,100,101,102,103,104] (λn vs j=>∃(k:Nat)(y:Int),vs=[U y,U (k:Int)]/\Mem w j []/\(gF y)/\(k<=N3)/\(n=N3-k)) ?_ ?_
 .exact⟨_,0,_,O,(m.sel [X7,X7]),a,bm _,O⟩
 intro n vs Q d u K2 T;obtain⟨k,y,rfl,m,C,M,P⟩:=d;simp only[zu,zF,zG];apply F 8 [0,0] m;simp only[↓Z,aaY];refine aZ O ?_ ?_<;>intro az
 .obtain⟨mv,D,a3,rfl,E⟩:=r.get (i:=k) (by omega);haveI:=(d mv (ak D)).1;haveI:=(d mv (ak D)).2;apply F 4 [0] m;simp only[↓Z];refine mq m aB (by kernel_rfl) (cW 10 [0,0,0,0] ?_);simp only[↓Z,Qm,Cf,Qo,ab,ae,aa];refine⟨_,λu m=>((wF (E.ext m.ext)).lies aM aD),_,λu m=>((Cj (E.ext m.ext)).lies aM aD),by omega,?_⟩;refine X O O (abH (p:=mv.1) (q:=mv.2)) (cW 5 [] ?_);simp only[↓Z];refine bD ?_;intro u m;apply aQ 6 [0] m;simp only[↓Z];refine dH O ?_ ?_<;>intro ag
  .apply F 6 [] m;simp only[↓Z];exact kN O O O ⟨_,O,m.ext,_,_,O,a⟩
  have s:gF (Jy mv.1 mv.2):=by simpa using ag
  have aj:=amD C s;apply F 1 [] m;simp only[↓Z];rw[Jw,Z9 s];apply aQ 3 [0] m;simp only[↓Z];refine aA (sV O O (amA _ _)) ?_;apply aL 8 [0] m;simp only[↓Z];apply R;omega;exact T (N3-(k+1)) _ _ (by omega) (by kernel_rfl) ⟨k+1,_,O,m,aj,by omega,O⟩
 skip
 apply F 8 [] m;simp only[↓Z];exact kN O O O ⟨_,O,m.ext,_,_,O,C⟩
def aeA{ts:List T3}(h:∀t∈ts,IT t)(b:ts.length<=100000):Bd 264 (fA qR ts):=uW (m:=200) (λu a=>by haveI:=h u a;exact tV) (by omega)
def akk{fs gs:List T3}{A e:Option Addr}(w:an)(c:cI w A vi fs)(d:cI w e N2 gs)(g:vi<=100000)(h:N2<=100000):cX X9 60 [.slice A vi cap,.slice e N2 cap2] w (λv _=>v=W (fA qR fs-fA qR gs)):=by
 refine⟨bP func60 (by kernel_rfl),?_⟩;have m:=Mem.refl w
 go_enter func60,ntmps60
 apply gJ 7 [0] m;simp only[↓Z,eX];intro f u m;refine bY m O O (Gd _ (c.ext m.ext) (by omega)) ?_;rintro v u m rfl;apply aL 1 [0] m;simp only[↓Z];refine bY m O O (Gd _ (d.ext m.ext) (by omega)) ?_;rintro v u m rfl;simp only[J];refine iE m O O (Ch (a:=fA qR fs) (b:=fA qR gs) ((aeA c.it (by have:=c.len;omega)).mono (by decide)) ((aeA d.it (by have:=d.len;omega)).mono (by decide))) 3 [0] ?_;simp only[↓Z,cB,aa];intro u m;exact aS O ⟨_,O,((m.b 0 O).full bE aJ)⟩ ⟨_,O,m.ext,O⟩
def adl{w0 w:an}{K:It}{ar aq e cc d p kk ec E cl:Nat}{A B C I:Option Addr}{xs:List oH}{ys:List vN}{zs:List Rnc}{Y:List It}{l:List Int}{lv sz:Int}(m:Mem w0 w [bI ar [.slice A e cc,.slice B d p] 31,oI 65 3 A e cc (xs.flatMap Fx),oI 70 8 B d p (ys.flatMap Em),bI aq [.slice C kk ec] 75,oI 165 4 C kk ec (zs.flatMap rnC),fN Y,K])(hG:Mo Y xs ys)(hS:MSt Y zs)(hL:pL Y (Mn nB 1 ⟨I,cl,l⟩))(aJ:l.length=E)(hl:inG xs l)(cz:jV (Aq xs) l<=1536)(co:kk<=1000000)(ct:E<=1000000)(cq:e<=1000000)(cr:d<=1000000):Qt X9 24 [.pointer (H ⟨ar,0,X8⟩),.slice I E cl,U lv,U sz,.pointer (H ⟨aq,0,X8⟩)] w (λv w'=>∃(A' B' C':Option Addr)(a7 ba a8 bb a6 bc:Nat)(am:List oH)(bn:List vN)(bo:List Rnc)(aD:List It)(s:Sl Int),v=.slice s.A s.l.length s.cap/\Mem w0 w' [bI ar [.slice A' a7 ba,.slice B' a8 bb] 31,oI 65 3 A' a7 ba (am.flatMap Fx),oI 70 8 B' a8 bb (bn.flatMap Em),bI aq [.slice C' a6 bc] 75,oI 165 4 C' a6 bc (bo.flatMap rnC),fN aD,K]/\(∀j∈Y,j∈aD)/\Mo aD am bn/\MSt aD bo/\XE xs am/\(pL aD (Mn nB 1 s)/\inG am s.l)/\jV (Aq am) s.l+jV (uzG am) l<=jV (Aq xs) l/\a6<=kk+1/\a7<=e+jV (Aq xs) l/\a8<=d+1/\s.l.length<=jV (Aq xs) l):=by
 refine⟨bP func24 (by kernel_rfl),?_⟩;have bl:=(m.o 1 rfl).num Vl (by decide);have aM:=(m.o 2 rfl).num Sj (by decide);have bw:(tF xs ys).cs.length=e:=by rw[<-bl];simp[tF]
 have bx:(tF xs ys).gs.length=d:=by rw[<-aM];simp[tF]
 have bf:∀z∈l,0<=z/\z<(e:Int):=λz Q=>by have:=hl z Q;omega
 go_enter func24,ntmps24
 apply iD 10 [1,0] m;simp only[↓Z,jI];refine bB O O (Vn (G:=tF xs ys) (l:=l) _ (hG.at (m.get 5 O).1 (m.o 1 O) (m.o 2 O)) bw bx (aJ▸(m.says 5 O hL).r) bf (by omega) (by rw[aew hl];omega)) ?_;rintro v u P ⟨ce,cg,cw,bu,rfl,X⟩;replace m:=m.newO P X;have ax:=GrAt.it (l:=l) (hG.at (m.get 6 rfl).1 (m.o 2 rfl) (m.o 3 rfl));have b3:=aew (ys:=ys) hl;obtain⟨ts,b4⟩:∃ts,ts=kK (tF xs ys).cs l:=⟨_,rfl⟩
 rw[<-b4] at m bu ax b3;subst bu;apply aL 9 [0,0] m;simp only[↓Z,gN];refine aZ O ?_ ?_<;>intro cj
 .apply F 5 [] m;simp only[↓Z];exact aS rfl rfl ⟨_,rfl,A,B,C,e,cc,d,p,kk,ec,xs,ys,zs,Y,⟨X8,0,[]⟩,rfl,m.sel [X7,N,N,N,N,N,N,N],λ_ h=>h,hG,hS,XE.refl xs,⟨λ_ _=>⟨kO.nil _ _,bg _⟩,λz h=>(by cases h)⟩,(by rw[Cm];have:=Nm (l:=l) (λz _=>aje (xs:=xs) (z:=z));omega),(by first|exact by omega|omega),pe _ _,ov _,bm _⟩
 apply F 7 [0] m;simp only[↓Z,gN];refine aA (gL O O (by omega) (show IntKind.i64.wrap ((ts.length:Int).tdiv 2)=((ts.length / 2:Nat):Int) from by rw[show (ts.length:Int).tdiv 2=((ts.length / 2:Nat):Int) from O];exact bN (by omega) (by omega))) ?_;simp only[J];replace m:=m.pull 6 O;simp only[bG,bH,zF,zG] at m;replace m:=m.pull 6 O;simp only[bG,bH,zF,zG] at m;replace m:=m.pull 6 O;simp only[bG,bH,zF,zG] at m;replace m:=m.pack3;refine qQ O O (afY (ts:=ts) m hS (by omega) (λu h=>amk (h.1 _ (bv ..)) ax) (by omega) (by omega)) ?_;rintro v u ⟨C2,k2,e2,aI,aR,s12,mv,rfl,m,av,a0,a4,⟨aw,bh⟩,b2,cp,bX⟩;simp only[J];replace m:=m.unpack3;have al:=hG.mono av;have bd:=hL.mono av;apply aL 6 [] m;simp only[↓Z];replace m:=m.pull 2 O;simp only[bG,bH,zF,zG] at m;replace m:=m.pull 2 O;simp only[bG,bH,zF,zG] at m;replace m:=m.pull 2 O;simp only[bG,bH,zF,zG] at m;replace m:=m.pull 6 O;simp only[bG,bH,zF,zG] at m;replace m:=m.pull 6 O;simp only[bG,bH,zF,zG] at m;replace m:=m.pull 6 O;simp only[bG,bH,zF,zG] at m;apply aQ 11 [0,0] m;simp only[↓Z,gN];apply R;omega;refine aZ O ?_ ?_<;>intro ck
 .apply F 5 [] m;simp only[↓Z];exact aS rfl rfl ⟨_,rfl,A,B,C2,e,cc,d,p,k2,e2,xs,ys,aI,aR,⟨X8,0,[]⟩,rfl,m.sel [N,N,N,N,N,N,X7,N],av,al,a0,XE.refl xs,⟨λ_ _=>⟨kO.nil _ _,bg _⟩,λz h=>(by cases h)⟩,(by rw[Cm];have:=Nm (l:=l) (λz _=>aje (xs:=xs) (z:=z));omega),(by first|exact a4|omega),pe _ _,ov _,bm _⟩
 apply F 6 [0] m;simp only[↓Z];refine bY m O O (af6 (fs:=ts) (gs:=s12.l) (ms:=mv.l) _ ((m.o 6 O).tris ax) (m.says 5 O aw).1 (m.says 5 O bh).r (by omega) (by omega) (by omega) bX (m.o 6 O).le (m.says 5 O aw).2) ?_;rintro v u m ⟨T,z7,rfl,h7⟩;apply aL 13 [1,0] m;simp only[↓Z,jI];refine bY m O O (ac6 (G:=tF xs ys) (l:=l) _ (al.at (m.get 5 O).1 (m.o 1 O) (m.o 2 O)) bw bx (aJ▸(m.says 5 O bd).r) bf (by omega) (amn al aM) (ap9 al)) ?_;rintro v u m ⟨gt,rfl,hgt⟩;simp only[J];refine iE m O O (ajv (a:=T) (b:=gt) h7 hgt) 13 [0,3] ?_;simp only[↓Z];refine λ_=>?_;intro u m;apply aQ 1 [0] m;simp only[↓Z];refine dH O ?_ ?_<;>intro be
 .apply F 5 [] m;simp only[↓Z];exact aS rfl rfl ⟨_,rfl,A,B,C2,e,cc,d,p,k2,e2,xs,ys,aI,aR,⟨X8,0,[]⟩,rfl,m.sel [N,N,N,N,N,N,X7,N],av,al,a0,XE.refl xs,⟨λ_ _=>⟨kO.nil _ _,bg _⟩,λz h=>(by cases h)⟩,(by rw[Cm];have:=Nm (l:=l) (λz _=>aje (xs:=xs) (z:=z));omega),(by first|exact a4|omega),pe _ _,ov _,bm _⟩
 have bq:gF (T+gt):=by simp at be;exact be.2
 apply F 10 [0] m;simp only[↓Z];refine bY m O O (akk (fs:=ts) (gs:=s12.l) _ ((m.o 6 O).tris ax) (m.says 5 O aw).1 (by omega) (by omega)) ?_;rintro v u m rfl;apply kZ 2 [] m;simp only[↓Z,aq3,aib,aa];intro bp u m;apply uR 6 [0,0] m;simp only[↓Z,ad1,aa];intro u m;refine bB O O (Rt (ts:=s12.l) _ (m.says 6 O aw).1 (by omega)) ?_;rintro v u P ⟨bE,aE,bF,i,rfl,a9,aU,hM⟩;replace m:=m.plus hM;clear hM;simp only[dx,cv] at m;have cG:=aU.len;apply aL 2 [] m;simp only[↓Z];replace m:=m.pull 8 O;simp only[bG,bH,zF,zG] at m;replace m:=m.pull 1 O;simp only[bG,bH,zF,zG] at m;replace m:=m.bagJoin;obtain⟨j3,a2⟩:∃j,j=i.map (Sl.it 43 9 aP)++aR:=⟨_,rfl⟩
 rw[<-a2] at m;have aj:∀j∈aR,j∈j3:=λj h=>by rw[a2];exact List.mem_append_right _ h
 have b1:∀s∈i,pL j3 (En s):=λs hs=>pL.own (by rw[a2];exact List.mem_append_left _ (fg hs)) λu h=>Vk h (aU.it s hs);have aW:=al.mono aj;have bS:=a0.mono aj;have bZ:=bh.mono aj;have aX:=bd.mono aj;have bV:=(XB.of aW (ay (jk aM) (ov d))).app (n:=d) (L:=i) b1 (by rw[aU.sum];exact b2);replace m:=m.nilO 3 1;apply aQ 6 [0] m;simp only[↓Z];refine bT [20] [81,82,83,84,85,86,87,88,89,90,91,92,93,94,95,96,97,98,99,100,101,102,103,104,105,106,107,108,109,110,111,112,113,114,115] (λn vs wl=>∃(k af:Nat)(M ai:Option Addr)(V ao:Nat),vs=[U (k:Int)]/\Mem w0 wl [oI 3 1 M k V ((vP e k).flatMap nB),fN j3,oI 44 1 bE aE bF (i.flatMap Lx),bI bp [U lv,.slice I E cl,.slice M k V,.slice mv.A mv.l.length mv.cap,U T,U (Jw (T+gt)),.bool (cQ (fA qR ts-fA qR s12.l)),.string (dQ (fA qR ts-fA qR s12.l))] 70,bI ar [.slice ai af ao,.slice B d p] 31,oI 65 3 ai af ao ((xs++Ge d (i.take k)).flatMap Fx),oI 70 8 B d p (ys.flatMap Em),bI aq [.slice C2 k2 e2] 75,oI 165 4 C2 k2 e2 (aI.flatMap rnC),K]/\(af=e+k)/\(k<=aE)/\(n=aE-k)) ?_ ?_
 .exact⟨_,0,_,_,_,_,_,O,((m.reO 5 O ((m.o 5 O).as (by simp[Ge]))).sel [N,N,N,N,N,N,N,N,N,X7,N]),O,by omega,O⟩
 intro n vs wr hI u K1 bM
 obtain⟨k,af,M,ai,V,ao,rfl,m,ca,hk,hn⟩:=hI;simp only[zu,zF,zG];apply F 8 [0,0] m;simp only[↓Z,ah8];refine aZ O ?_ ?_<;>intro cm
 .obtain⟨cx,bz⟩:∃x,i[k]? = H x:=⟨_,ah (by omega)⟩
  obtain⟨ch,rfl⟩:=(m.o 2 rfl).some (by omega);apply F 4 [0] m;simp only[↓Z];refine vL m [X7,N,N,N,N,N,N,N,N,N] [10] (.take 0 (.take 1 (.take 2 (.take 3 (.take 4 (.take 5 (.take 6 (.one 7 (.one 8 (.take 9 (.one 10 .nil))))))))))) aB (by kernel_rfl) (bR (λ_ _ _ _ _ h=>h)) ?_;intro u m;refine D (by simp only[zw];rfl) (aV (aO (c:=0) oN rfl iF rfl rfl) (aT (D (by simp only[zw];rfl) ?_)));simp only[J];refine eK O (λu m=>((m.b 2 O).lies1 mA O)) ?_;simp only[J];refine aT (D (by simp only[zw];rfl) (aV aF (aT (D (by simp only[zw];rfl) (aV (cN rfl) (aT (D (by simp only[zw];rfl) (aV (aO (c:=0) nD rfl lM rfl rfl) (aT (D (by simp only[zw];rfl) ?_))))))))));simp only[J];refine eK O (λu m=>((m.b 3 O).lies1 vY O)) ?_;simp only[J];refine aT (D (by simp only[zw];rfl) (aV (iL rfl uZ rfl) (aT (jJ (by simp only[zw];rfl) ?_))));simp only[J];refine cO cF (z:=U 0) (by kernel_rfl) O O O ?_;intro u b8 P X k_;replace m:=m.newB P X k_;refine S ⟨λ_=>m.sel [X7,X7,N,N,N,N,N,N,N,N,N],?_⟩;refine jJ (by simp only[zw];rfl) ?_;simp only[J];refine bJ m 1 O O cF gM O (by decide) O O O (m.b 0 O).rowsO (fU O) (by omega) (by omega) ?_;intro M cB u m;simp only[zF,zG] at m;refine S ⟨λ_=>m.sel [X7,X7,N,N,N,N,N,N,N,N,N],?_⟩;refine D (by simp only[zw];rfl) (aV (aO (c:=0) oN rfl iF rfl rfl) (aT (jJ (by simp only[zw];rfl) ?_)));simp only[J];refine cH (off:=2) m 4 O O O iF (eU O) ⟨O,O⟩ ?_;intro u m;simp only[J,zy,zx,over,aa] at m;refine S ⟨λh=>Y0 (by decide) h,?_⟩;refine vM (gc ?_);refine vL m [N,N,N,N,N,N,X7,N,N,N,N] [19] (.take 0 (.take 1 (.take 2 (.take 3 (.take 4 (.take 5 (.take 6 (.take 7 (.take 8 (.take 9 (.take 10 (.take 11 (.take 12 (.take 13 (.take 14 (.one 15 (.one 16 (.take 17 (.take 18 (.one 19 .nil)))))))))))))))))))) aB (by kernel_rfl) (bR (λ_ _ _ _ _ h=>h)) ?_;intro u m;refine D (by simp only[zw];rfl) (aV aF (aT (D (by simp only[zw];rfl) (aV aF (aT (D (by simp only[zw];rfl) (aV (cN rfl) (aT (D (by simp only[zw];rfl) (aV (aO (c:=0) nD rfl lM rfl rfl) ?_))))))))));simp only[J];refine aT (D (by simp only[zw];rfl) (eK rfl (λu m=>((m.b 5 rfl).lies1 vY rfl)) ?_));simp only[J];refine aT (D (by simp only[zw];rfl) (aV aF (aT (D (by simp only[zw];rfl) (aV aF (aT (D (by simp only[zw];rfl) ?_)))))));simp only[J];refine aV (aN If rU O O (by omega) (by omega) (mQ (ab _))) (aT (D (by simp only[zw];rfl) ?_));simp only[J];refine eK O (λu m=>(lies1 (Rk (m.o 3 O) bz) qJ)) ?_;simp only[J];refine aT (D (by simp only[zw];rfl) (aV aF (aT (D (by simp only[zw];rfl) (aV (cN rfl) (aT (D (by simp only[zw];rfl) (aV (aO (c:=0) nD rfl lN rfl rfl) (aT (D (by simp only[zw];rfl) ?_))))))))));simp only[J];refine eK O (λu m=>((m.b 5 O).lies1 yA O)) ?_;simp only[J];refine aT (D (by simp only[zw];rfl) (aV (iL rfl wU rfl) (aT (D (by simp only[zw];rfl) (aV (wV rfl rfl rfl) (aT (jJ (by simp only[zw];rfl) ?_)))))));simp only[J];refine Jq O ?_;intro u cy P X k_;replace m:=m.newB P X k_;refine S ⟨λ_=>m.sel [X7,N,N,N,N,N,N,X7,N,N,N,N],?_⟩;refine jJ (by simp only[zw];rfl) ?_;simp only[J];refine bJ m 7 O O uZ acg O (by decide) O O O (m.b 0 O).rowsO (fU O) (by omega) (by omega) ?_;intro ai cD u m;simp only[zF,zG] at m;refine S ⟨λ_=>m.sel [X7,N,N,N,N,N,N,X7,N,N,N,N],?_⟩;refine D (by simp only[zw];rfl) (aV (cN rfl) (aT (D (by simp only[zw];rfl) (aV (aO (c:=0) nD rfl lM rfl rfl) (aT (jJ (by simp only[zw];rfl) ?_))))));simp only[J];refine cH m 6 O O O lM (eU O) ⟨O,O⟩ ?_;intro u m;simp only[J,zy,zx,over,aa] at m;refine S ⟨λh=>Y0 (by decide) h,?_⟩;refine vM ?_;apply aQ 6 [0] m;simp only[↓Z];apply R;omega;exact bM (aE-(k+1)) _ _ (by omega) (by kernel_rfl) ⟨k+1,_,_,_,_,_,O,(((m.reO 2 O ((m.o 2 O).as (by rw[Sc,au,<-ca];rfl))).reO 7 rfl ((m.o 7 rfl).as (by rw[af0 bz,<-di,au (xs:=xs++Ge d (i.take k))];rfl))).sel [X7,X7,N,N,N,N,N,N,N,N,N,N]),by omega,by omega,rfl⟩
 obtain rfl:k=aE:=by omega
 rw[ap (jk a9)] at m;apply F 7 [0] m;simp only[↓Z];refine bT [21] [116,117,118,119,120,121,122,123,124,125,126,127,128,129,130,131,132,133,134,135,136] (λn vs wl=>∃(q:Nat)(f:List oH),vs=[U (q:Int)]/\Mem w0 wl [oI 3 1 M k V ((vP e k).flatMap nB),fN j3,bI bp [U lv,.slice I E cl,.slice M k V,.slice mv.A mv.l.length mv.cap,U T,U (Jw (T+gt)),.bool (cQ (fA qR ts-fA qR s12.l)),.string (dQ (fA qR ts-fA qR s12.l))] 70,bI ar [.slice ai af ao,.slice B d p] 31,oI 65 3 ai af ao (f.flatMap Fx),oI 70 8 B d p (ys.flatMap Em),bI aq [.slice C2 k2 e2] 75,oI 165 4 C2 k2 e2 (aI.flatMap rnC),K]/\(XE (xs++Ge d i) f)/\(usG f (l.take q))/\(XB j3 (d+1) f)/\(q<=E)/\(n=E-q)) ?_ ?_
 .exact⟨_,0,_,rfl,(m.sel [N,N,X7,N,N,N,N,N,N,N]),XE.refl _,(λz h=>by cases h),bV,by omega,rfl⟩
 intro n vs wr hI u K2 bO
 obtain⟨q,f,rfl,m,az,a5,bk,hq,hn⟩:=hI;simp only[zu,zF,zG];apply F 8 [0,0] m;simp only[↓Z,gG];refine aZ O ?_ ?_<;>intro cn
 .obtain⟨z,Q⟩:∃x,l[q]? = H x:=⟨_,ah (by omega)⟩
  obtain⟨bA,a1⟩:=aml (m.says 1 rfl aX) Q;replace a1:I=H bA:=a1;subst a1;have bs:=az.inG ((XE.app (Ge d i)).inG hl);obtain⟨b7,cu⟩:=bs z (ak Q);obtain⟨c,rfl⟩:=ee b7;obtain⟨x2,aK⟩:∃x,f[c]? = H x:=⟨_,ah (by omega)⟩
  have cA:=(m.o 4 rfl).num Vl (by decide);obtain⟨ci,rfl⟩:=(m.o 4 rfl).some (by omega);apply F 3 [0] m;simp only[↓Z];refine cC m 15 aB (by kernel_rfl) ?_;simp only[zy];refine cW 11 [4,0,2] ?_;simp only[↓Z,gH,lP,lV,jH,aa,ab,ae,bi];refine⟨_,λu m=>(lies1 (amm (m.says 1 O aX) Q O) bW),by omega,?_⟩;refine cW 4 [4] ?_;simp only[↓Z,oA,Ae,sB,nX,ab,ae,aa];apply R;omega;refine bD ?_;intro u m;refine kR (off:=(c*3+2)) m 4 O O O bC (show c*3+2+1<=af*3 by omega) O ?_;intro u m;simp only[zF,zG] at m;simp only[zA,zB,zC,zD,zE] at m;rw[af1 aK] at m;refine S ?_;apply aQ 6 [0] m;simp only[↓Z];apply R;omega;exact bO (E-(q+1)) _ _ (by omega) (by kernel_rfl) ⟨q+1,_,O,m,az.trans (XE.mark aK),aj0 a5 bs Q aK,bk.mark aK,by omega,O⟩
 obtain rfl:q=E:=by omega
 rw[ap (jk aJ)] at a5;apply F 2 [0] m;simp only[↓Z];refine vL m [N,N,N,N,N,X7,N,N,N] [10] (.take 0 (.take 1 (.take 2 (.take 3 (.take 4 (.take 5 (.one 6 (.one 7 (.take 8 (.take 9 (.one 10 .nil))))))))))) aB (by kernel_rfl) (bR (λ_ _ _ _ _ h=>h)) ?_;intro u m;refine D (by simp only[zw];rfl) (aV aF (aT (D (by simp only[zw];rfl) (aV aF (aT (D (by simp only[zw];rfl) (aV (cN rfl) (aT (D (by simp only[zw];rfl) (aV (aO (c:=0) nD rfl lN rfl rfl) ?_))))))))));simp only[J];refine aT (D (by simp only[zw];rfl) (eK rfl (λu m=>((m.b 3 rfl).lies1 yA rfl)) ?_));simp only[J];refine aT (D (by simp only[zw];rfl) (eK rfl (λu m=>((m.b 2 rfl).full Xq qK)) ?_));simp only[J];refine aT (jJ (by simp only[zw];rfl) ?_);refine Jr O ?_;intro u b8 P X k_;replace m:=m.newB P X k_;refine S ⟨λ_=>m.sel [X7,N,N,N,N,N,X7,N,N,N],?_⟩;refine jJ (by simp only[zw];rfl) ?_;simp only[J];refine bJ m 6 O O wU ach O (by decide) O O O (m.b 0 O).rowsO (fU O) (by omega) (by omega) ?_;intro cf cE u m;simp only[zF,zG] at m;refine S ⟨λ_=>m.sel [X7,N,N,N,N,N,X7,N,N,N],?_⟩;refine D (by simp only[zw];rfl) (aV (cN rfl) (aT (D (by simp only[zw];rfl) (aV (aO (c:=0) nD rfl lN rfl rfl) (aT (jJ (by simp only[zw];rfl) ?_))))));simp only[J];refine cH (off:=1) m 4 O O O lN (eU O) ⟨O,O⟩ ?_;intro u m;simp only[J,zy,zx,over,aa] at m;refine S ⟨λh=>Y0 (by decide) h,?_⟩;refine vM ?_;obtain⟨W,ag⟩:∃x:Sl Int,x=⟨M,V,vP e k⟩:=⟨_,rfl⟩
 rw[show oI 3 1 M k V ((vP e k).flatMap nB)=W.it 3 1 nB by rw[ag,Sl.it,xF]] at m;replace m:=m.pull 2 O;simp only[bG,bH,zF,zG] at m;replace m:=m.pull 2 O;simp only[bG,bH,zF,zG] at m;replace m:=m.bagPush;obtain⟨j4,a3⟩:∃j,j=W.it 3 1 nB::j3:=⟨_,rfl⟩
 rw[<-a3] at m;have ad:∀j∈j3,j∈j4:=λj h=>by rw[a3];exact br _ h
 have bK:∀j∈Y,j∈j4:=λj h=>ad j (aj j (av j h));replace m:=m.pull 7 O;simp only[bG,bH,zF,zG] at m;replace m:=m.pull 7 O;simp only[bG,bH,zF,zG] at m;replace m:=m.pull 7 O;simp only[bG,bH,zF,zG] at m;replace m:=m.pull 7 O;simp only[bG,bH,zF,zG] at m;replace m:=m.pull 7 O;simp only[bG,bH,zF,zG] at m;obtain⟨y,hy⟩:∃y:vN,y=⟨lv,⟨I,cl,l⟩,W,mv,T,Jw (T+gt),fA qR ts-fA qR s12.l⟩:=⟨_,rfl⟩
 replace m:=m.reO 2 O ((m.o 2 O).as (show _=(ys++[y]).flatMap Em by rw[au,hy,da,List.flatMap_nil];show _=_++([iV lv,.slice I l.length cl,W.v,_,_,_,_,_]++[]);rw[aJ,ag,Sl.v,xF];rfl));simp only[zF,zG] at m;have bj:pL j4 (Mn nB 1 W):=pL.own (by rw[a3];exact bv ..) λu h=>Sl.at in1 (by decide) h;have bQ:=aX.mono ad;have b0:=bZ.mono ad;have b5:pL j4 (al6 y):=λu hu=>by rw[hy];exact⟨bQ u hu,bj u hu,b0 u hu⟩
 have b6:GpB y:=by rw[hy];exact⟨by show gF (Jw _);rw[Jw,Z9 bq];exact bq,⟨(by show l.length<=1000000;omega),(by rw[ag];show (vP e k).length<=1000000;rw[xF];omega),(by show mv.l.length<=1000000;omega)⟩,((aeA ax (by omega)).sub (aeA (λt ht=>(m.says 5 rfl (aw.mono (λj h=>ad j (aj j h)))).1.it t ht) (by omega))).mono (by decide)⟩
 have bL:Mo j4 f (ys++[y]):=bk.group ad (λy hy=>(aW.g y hy).mono ad) aW.gb aM b5 b6;have bU:=bS.mono ad;have cb:=(XE.app (xs:=xs) (Ge d i)).trans az;have bt:inG (xs++Ge d i) (vP e k):=λz Q=>by have:=afZ Q;rw[a_,ajY];omega
 have b9:inG f W.l:=by rw[ag];exact az.inG bt
 have cd:jV (Aq f) W.l+jV (uzG f) l<=jV (Aq xs) l:=by rw[a5.sum,ag];show jV (Aq f) (vP e k)+0<=_;rw[az.sumsz bt,<-bl,abC k (jk a9.symm),ap (jk a9),aU.sum];omega
 apply aQ 7 [8] m;simp only[↓Z,vJ,Ek,aa];exact aS O O ⟨_,O,_,_,_,_,_,_,_,_,_,f,ys++[y],aI,j4,W,by rw[ag];exact Y1 (Value.slice M · V) (xF e k).symm,m.sel [N,N,N,N,N,N,X7,X7,N],bK,bL,bU,cb,⟨bj,b9⟩,cd,a4,by omega,bg _,by rw[ag,xF];omega⟩
def amE{P:Program}{l:List am}{x y:Operand}{T T' ty E:ba}(c:P.underlying T=H (.pointer E))(d:ev l x=.pointer X8)(e:ev l y=.pointer X8):gX P l (.binOp .eql T x y T') ty (.bool N):=λw o b _=>by
 obtain⟨D,a⟩:∃D,Op.maxDepth=D+1:=⟨9999,rfl⟩
 simp[execOp,b,dM,d,e,eqGuard,binOp,Op.equal,a,Op.equalIn,run_underlying c]
def Zw{w0 w:an}{S:List (Option Nat)}{E:ba}{g n k:Nat}{l:List Int}{z:Int}(h:Ow w0 w S E 1 (H ⟨g,0,X8⟩) n cap (l.flatMap nB))(a:l[k]? = H z):w.cell? ⟨g,k,X8⟩=H (U z):=by
 have:=fY h in1 a 0 (u:=iV z) rfl;rwa [bi,gi] at this
def anC{xs:List oH}{c:Nat}{x:oH}(h:xs[c]? = H x):unG xs (c:Int)=decide (x.used<0):=by unfold unG;rw[ab,h];rfl
def Vw{xss:List (List T3)}{A:Option Addr}{size bits:Int}(w:an)(bZ:Dj w A vi xss)(hN:vi<=1536)(b9:(xss.map iz).sum<=1536)(cE:15<=bits/\bits<=18):cX X9 7 [.slice A vi cap,U size,U bits,.pointer X8] w (λv w'=>∃(A' B':Option Addr)(n c m' d:Nat)(G:Gr),v=.agg #[.slice A' n c,.slice B' m' d]/\GrAt w' A' B' G/\(G.cs.length=n/\n<=c/\n<=40000)/\(G.gs.length=m'/\m'<=d/\m'<=200000)/\(∀x∈G.cs,x.ts.length<=2000)/\∀g∈G.gs,gF g.tot/\(g.ins.length<=1000000/\g.outs.length<=1000000/\g.mv.length<=1000000)/\Bd 300 g.dl):=by
 refine⟨bP func7 (by kernel_rfl),?_⟩;have m:=Mem.refl w
 go_enter func7,ntmps7
 apply gJ 8 [0] m;simp only[↓Z,aaV];intro g1 u m;refine aA (amE underlying72 O O) ?_;apply kZ 10 [] m;simp only[↓Z,aq5,aaV,aa];intro g2 g3 u m;apply aQ 3 [0] m;simp only[↓Z];refine aA aI ?_;replace m:=m.nilO 3 1;apply aL 1 [] m;simp only[↓Z];replace m:=m.nilO 65 3;replace m:=m.nilO 70 8;replace m:=m.nilO 165 4;replace m:=m.bagNil;apply aQ 6 [0] m;simp only[↓Z];refine bT [10,11] [26,27,28,29,30,31,32,33,34,35,36,37,38,39,40,41,42,43,44,45,46] (λn vs wl=>∃(k:Nat)(W e:Option Addr)(ad t:Nat)(xs:List oH)(js:List It),vs=[.slice W k ad,U (k:Int)]/\Mem w wl [fN js,oI 165 4 X8 0 0 (([]:List Rnc).flatMap rnC),oI 70 8 X8 0 0 (([]:List vN).flatMap Em),oI 65 3 e k t (xs.flatMap Fx),oI 3 1 W k ad ((nA k).flatMap nB),bI g3 [.slice e k t,.slice X8 0 0] 31,bI g2 [.slice X8 0 0] 75,bI g1 [.slice X8 0 0,.slice X8 0 0] 31]/\(Mo js xs [])/\(xs.length=k)/\(jV (Aq xs) (nA k)=((xss.take k).map iz).sum)/\(k<=vi)/\(n=vi-k)) ?_ ?_
 .exact⟨_,0,_,_,_,_,[],[],O,m,Mo.nil,O,O,by omega,O⟩
 intro n vs wr X u K1 bO
 obtain⟨k,W,e,ad,t,xs,js,rfl,m,hG,bx,bp,hk,hn⟩:=X;simp only[zu,zF,zG];apply F 8 [0,0] m;simp only[↓Z,ah8];refine aZ O ?_ ?_<;>intro cN
 .obtain⟨l,a8,a,B,nl,cl,rfl,ax,a6,c6⟩:=bZ.get (i:=k) (by omega);have cY:=a6.len;have ca:=af3 a8;have cV:=aex (xss:=xss) (k+1);apply F 7 [0] m;simp only[↓Z];refine cO cF (z:=U 0) (by kernel_rfl) O O O ?_;intro u g4 V Y k_;replace m:=m.newB V Y k_;simp only[J];refine bJ m 5 O O cF gM O (by decide) O O O (m.b 0 O).rowsO (fU O) (by omega) (by omega) ?_;intro W df u m;simp only[zF,zG] at m;apply aL 2 [0] m;simp only[↓Z];refine vL m [N,N,N,N,X7,N,N,N,N] [11] (.take 0 (.take 1 (.take 2 (.take 3 (.take 4 (.take 5 (.one 6 (.take 7 (.one 8 (.one 9 (.take 10 (.one 11 .nil)))))))))))) aB (by kernel_rfl) (bR (λ_ _ _ _ _ h=>h)) ?_;intro u m;refine D (by simp only[zw];rfl) (aV (aO (c:=0) nD rfl lM rfl rfl) (aT (D (by simp only[zw];rfl) ?_)));simp only[J];refine eK O (λu m=>((m.b 5 O).lies1 vY O)) ?_;simp only[J];refine aT (D (by simp only[zw];rfl) (aV aF (aT (D (by simp only[zw];rfl) (aV aF (aT (D (by simp only[zw];rfl) ?_)))))));simp only[J];refine aV (aN If rU O O (by omega) (by omega) (lK (ab _))) (aT (D (by simp only[zw];rfl) ?_));simp only[J];refine eK O (λu m=>(lies1 (m.ext.cell ax) qJ)) ?_;simp only[J];refine aT (jJ (by simp only[zw];rfl) ?_);refine bB O O (uH (ts:=l) _ (a6.ext m.ext) (by omega)) ?_;rintro v u V ⟨A4,c4,n4,b5,rfl,Y⟩;replace m:=m.newO V Y;have bs:=jZ l;obtain rfl:n4=(bS l).length:=by rw[b5,bs]
  refine S ?_;refine⟨λ_=>m.sel [X7,N,N,N,N,X7,N,N,N,N],?_⟩;refine D (by simp only[zw];rfl) (aV (wV rfl rfl rfl) (aT (jJ (by simp only[zw];rfl) ?_)));simp only[J];refine Jq O ?_;intro u g5 V Y k_;replace m:=m.newB V Y k_;refine S ⟨λ_=>m.sel [X7,X7,N,N,N,N,X7,N,N,N,N],?_⟩;refine jJ (by simp only[zw];rfl) ?_;simp only[J];refine bJ m 6 O O uZ acg O (by decide) O O O (m.b 0 O).rowsO (fU O) (by omega) (by omega) ?_;intro e dk u m;simp only[zF,zG] at m;refine S ⟨λ_=>m.sel [X7,X7,N,N,N,N,X7,N,N,N,N],?_⟩;refine D (by simp only[zw];rfl) (aV (aO (c:=0) nD rfl lM rfl rfl) (aT (jJ (by simp only[zw];rfl) ?_)));simp only[J];refine cH m 8 O O O lM (eU O) ⟨O,O⟩ ?_;intro u m;simp only[J,zy,zx,over,aa] at m;refine S ⟨λh=>Y0 (by decide) h,?_⟩;refine vM ?_;replace m:=m.pull 3 O;simp only[bG,bH,zF,zG] at m;replace m:=m.pull 2 O;simp only[bG,bH,zF,zG] at m;obtain⟨s4,aX⟩:∃x:Sl T3,x=⟨A4,c4,bS l⟩:=⟨_,rfl⟩
  replace m:=m.bagPush;rw[show oI 43 9 A4 (bS l).length c4 ((bS l).flatMap aP)=s4.it 43 9 aP by rw[aX];rfl] at m;apply aQ 6 [0] m;simp only[↓Z];apply R;omega;exact bO (vi-(k+1)) _ _ (by omega) (by kernel_rfl) ⟨k+1,_,_,_,_,(xs++[⟨s4,-1,-1⟩]),_,O,(((m.reO 6 O ((m.o 6 O).as (by rw[uN,au];rfl))).reO 5 rfl ((m.o 5 rfl).as (by rw[au,aX];rfl))).sel [N,X7,X7,N,N,N,N,N,N,N]),hG.lay (by rw[aX];exact nK a6.it) (by rw[aX];show (bS l).length<=2000;omega),(by simp;omega),(by rw[<-bx,amp,bx,bp,ca,aX];show _+(bS l).length=_;rw[bs]),by omega,rfl⟩
 apply F 7 [] m;simp only[↓Z];rw[K0 (by omega)];apply aQ 6 [0] m;simp only[↓Z];refine bT [10,12] [13,14,15,16,17,18,19,20,21,49,50,51,52,53,54,55,56,57,58,59,60,61,62,63,64,65,66,67,68,69,70,71,72,73,74,75,76,77,78,79,80,81,82,83,84,85,86,87,88,89,90,91,92,93,94,95,96,97,98,99,100,101,102,103,104,105,106,107,108,109,110,111,112,113,114,115,116,117,118,119,120,121,122,123,124,125,126,127,128,129,130,131,132,133,134,135,136,137,138,139,140,141,142,143,144,145] (λn vs wl=>∃(lv E ad:Nat)(W:Option Addr)(cur:List Int)(e L Q:Option Addr)(nc t ng K kk P:Nat)(xs:List oH)(ys:List vN)(zs:List Rnc)(js:List It),vs=[.slice W E ad,U (lv:Int)]/\Mem w wl [fN js,oI 165 4 Q kk P (zs.flatMap rnC),oI 70 8 L ng K (ys.flatMap Em),oI 65 3 e nc t (xs.flatMap Fx),oI 3 1 W E ad (cur.flatMap nB),bI g3 [.slice e nc t,.slice L ng K] 31,bI g2 [.slice Q kk P] 75,bI g1 [.slice X8 0 0,.slice X8 0 0] 31]/\(Mo js xs ys)/\(MSt js zs)/\(inG xs cur)/\(cur.length=E)/\(jV (Aq xs) cur<=1536)/\(1<=lv/\lv<=8)/\(E<=1536*lv)/\(nc<=1536*lv)/\(ng<=13824*lv)/\(kk<=13824*lv)/\(n=8-lv)) ?_ ?_
 .exact⟨_,1,_,_,_,(nA k),_,_,_,_,_,_,_,_,_,xs,[],[],_,O,m,hG,MSt.nil,(λz C=>by have:=Do.1 C;omega),xE k,(by rw[bp];exact ay (aex k) b9),by omega,by omega,by omega,by omega,by omega,O⟩
 intro n vs wr X u K2 bQ
 obtain⟨lv,E,ad,W,cur,e,L,Q,nc,t,ng,K,kk,P,xs,ys,zs,js,rfl,m,hG,hS,aU,ax,cp,c0,cG,cI,cJ,cK,hn⟩:=X;have a8:=(m.o 3 rfl).num Vl (by decide);have cc:=(m.o 2 rfl).num Sj (by decide);simp only[zu,zF,zG];apply F 7 [0,5,0] m;simp only[↓Z];refine λ_=>⟨by omega,?_⟩
 apply aQ 1 [0] m;simp only[↓Z];refine dH O ?_ ?_<;>intro b4
 .have c9:lv<=22/\bits<=22-lv:=by simp at b4;omega
  apply F 5 [0] m;simp only[↓Z];refine aA aI ?_;replace m:=m.nilO 44 1;apply aL 7 [0] m;simp only[↓Z];refine bT [13,14] [59,60,61,62,63,64,65,66,67,68,69,70,71,72,73,74,75,76] (λn vs wl=>∃(k:Nat)(a1:Option Addr)(a4:Nat),vs=[.slice a1 k a4,U (k:Int)]/\Mem w wl [oI 44 1 a1 k a4 (((cur.take k).map (slG xs)).flatMap Lx),fN js,oI 165 4 Q kk P (zs.flatMap rnC),oI 70 8 L ng K (ys.flatMap Em),oI 65 3 e nc t (xs.flatMap Fx),oI 3 1 W E ad (cur.flatMap nB),bI g3 [.slice e nc t,.slice L ng K] 31,bI g2 [.slice Q kk P] 75,bI g1 [.slice X8 0 0,.slice X8 0 0] 31]/\(k<=E)/\(n=E-k)) ?_ ?_
  .exact⟨_,0,_,_,O,m,by omega,O⟩
  intro n vs wr X u K3 bU
  obtain⟨k,a1,a4,rfl,m,hk,hn⟩:=X;simp only[zu,zF,zG];apply F 8 [0,0] m;simp only[↓Z,gG];refine aZ O ?_ ?_<;>intro cP
  .obtain⟨z,C⟩:∃x,cur[k]? = H x:=⟨_,ah (by omega)⟩
   obtain⟨a9,cd⟩:=aU z (ak C);obtain⟨c,rfl⟩:=ee a9;obtain⟨bd,rfl⟩:=(m.o 5 rfl).some (by omega);obtain⟨x,hx⟩:∃x,xs[c]? = H x:=⟨_,ah (by omega)⟩
   have cw:=(m.o 4 rfl).num Vl (by decide);obtain⟨bL,rfl⟩:=(m.o 4 rfl).some (by omega);apply F 3 [0] m;simp only[↓Z];refine mh m [X7,N,N,N,N,N,N,N,N] [(0,N),(1,N),(3,N),(4,N),(5,N),(2,N),(6,N),(7,N),(8,N),(9,N),(10,X7),(11,X7),(12,N)] aB (by kernel_rfl) (bR (λ_ _ _ _ _ h=>h)) (ol:=?_) ?b6 ?_
   case b6=>simp only[zw,zQ,zR];try rfl
   intro u m;refine tL 9 [6,0,2] ?_;simp only[↓Z,gH,lV,lP,sB,vI,aa,ab,ae,bi];refine⟨_,λu m=>(lies1 (Zw (m.o 4 O) C) bW),by omega,?_⟩;refine eK O (λu m=>(lies1 (fY (m.o 3 O) Vl hx 0 O) qJ)) ?_;simp only[J];refine bX (cO If (z:=.slice X8 0 0) (by kernel_rfl) O O O ?_);intro u g4 V Y k_;replace m:=m.newB V Y k_;refine S ⟨m.sel [X7,X7,N,N,N,N,N,N,N,N],?_⟩;refine bX ?_;simp only[J];refine bJ m 1 O O If Xn O (by decide) O O O (m.b 0 O).rowsO (fU O) (by omega) (by omega) ?_;intro a1 dg u m;simp only[zF,zG] at m;refine S ⟨m.sel [X7,X7,N,N,N,N,N,N,N,N],?_⟩;refine aV aI (aT ?_);apply aQ 6 [0] m;simp only[↓Z];apply R;omega;exact bU (E-(k+1)) _ _ (by omega) (by kernel_rfl) ⟨k+1,_,_,O,((m.reO 1 O ((m.o 1 O).as (by rw[cZ C,dh,au];show _=_++[(slG xs (c:Int)).v];rw[aqa hx];rfl))).sel [X7,N,N,N,N,N,N,N,N,N]),by omega,rfl⟩
  obtain rfl:E=k:=by omega
  rw[ap (jk ax)] at m;apply F 8 [0] m;simp only[↓Z];apply R;omega;refine aA (cS O O (by omega) O) ?_;apply aL 1 [0,0] m;simp only[↓Z];refine bB rfl rfl (Lz (xs:=(cur.map (slG xs)).map Sl.l) _ (aj2 (m.o 0 rfl) (λs hs=>by obtain⟨z,_,rfl⟩:=du.1 hs;exact (aj1 hG (m.get 1 rfl).1 z).1)) (by omega) (λl hl=>by obtain⟨s,hs,rfl⟩:=du.1 hl;obtain⟨z,_,rfl⟩:=du.1 hs;exact ay (aj1 hG (m.get 1 O).1 z).2 (by decide))) ?_;rintro v u V ⟨bF,aD,bc,T,rfl,cj,a0,da,hM⟩;replace m:=m.plus hM;clear hM;simp only[dx,cv] at m;have bE:(T.flatMap Sl.l).Perm (nA cur.length):=by rw[ax];exact a0
  apply aL 4 [0] m;simp only[↓Z];refine aA aI ?_;replace m:=m.nilO 3 1;apply aL 7 [0] m;simp only[↓Z];refine bT [16,17] [18,19,85,86,87,88,89,90,91,92,93,94,95,96,97,98,99,100,101,102,103,104,105,106,107,108,109,110,111,112,113,114,115,116,117,118,119] (λn vs wl=>∃(i ao:Nat)(av:Option Addr)(aR:Nat)(ag:List Int)(e L Q:Option Addr)(aj t al K ai P:Nat)(I:List oH)(aE:List vN)(aJ:List Rnc)(af:List It),vs=[.slice av ao aR,U (i:Int)]/\Mem w wl [oI 3 1 av ao aR (ag.flatMap nB),fN (T.map (Sl.it 3 1 nB)),oI 22 1 bF aD bc (T.flatMap Lx),fN af,oI 165 4 Q ai P (aJ.flatMap rnC),oI 70 8 L al K (aE.flatMap Em),oI 65 3 e aj t (I.flatMap Fx),oI 3 1 W E ad (cur.flatMap nB),bI g3 [.slice e aj t,.slice L al K] 31,bI g2 [.slice Q ai P] 75,bI g1 [.slice X8 0 0,.slice X8 0 0] 31]/\(Mo af I aE)/\(MSt af aJ)/\(XE xs I)/\(inG I ag)/\(ag.length=ao)/\(jV (Aq I) ag+jV (uzG I) (Gf cur ((T.take i).flatMap Sl.l))<=jV (Aq xs) (Gf cur ((T.take i).flatMap Sl.l)))/\(aj<=nc+jV (Aq xs) (Gf cur ((T.take i).flatMap Sl.l)))/\(al<=ng+i)/\(ai<=kk+i)/\(ao<=jV (Aq xs) (Gf cur ((T.take i).flatMap Sl.l)))/\(i<=aD)/\(n=aD-i)) ?_ ?_
  .exact⟨_,0,_,_,_,[],_,_,_,_,_,_,_,_,_,_,_,_,_,rfl,(m.sel [N,N,N,X7,N,N,N,N,N,N,N,N]),hG,hS,XE.refl _,(λz h=>by cases h),rfl,bg _,pe _ _,bg _,bg _,bm _,bm _,rfl⟩
  intro n vs wr X u K4 bV
  obtain⟨i,ao,av,aR,ag,e,L,Q,aj,t,al,K,ai,P,I,aE,aJ,af,rfl,m,be,bj,az,bb,bl,bn,b2,cL,cM,b3,hi,hn⟩:=X;have cn:=anA (f:=Aq xs) i bE;simp only[zu,zF,zG];apply F 8 [0,0] m;simp only[↓Z,am3];refine aZ O ?_ ?_<;>intro cQ
  .obtain⟨M,ar⟩:∃x,T[i]? = H x:=⟨_,ah (by omega)⟩
   obtain⟨bK,rfl⟩:=(m.o 2 rfl).some (by omega);have bu:=Vi ar a0;have dm:=Fw ar;have cr:=Rl T (i+1);rw[a0.length_eq,xE] at cr;apply F 5 [0] m;simp only[↓Z];refine aA aI ?_;replace m:=m.nilO 3 1;apply aL 7 [0] m;simp only[↓Z];refine bT [18,19] [91,92,93,94,95,96,97,98,99,100,101,102,103,104,105,106,107,108,109,110,111,112] (λn vs wl=>∃(j:Nat)(am:Option Addr)(aw:Nat),vs=[.slice am j aw,U (j:Int)]/\Mem w wl [oI 3 1 am j aw ((Gf cur (M.l.take j)).flatMap nB),oI 3 1 av ao aR (ag.flatMap nB),fN (T.map (Sl.it 3 1 nB)),oI 22 1 (H ⟨bK,0,X8⟩) aD bc (T.flatMap Lx),fN af,oI 165 4 Q ai P (aJ.flatMap rnC),oI 70 8 L al K (aE.flatMap Em),oI 65 3 e aj t (I.flatMap Fx),oI 3 1 W E ad (cur.flatMap nB),bI g3 [.slice e aj t,.slice L al K] 31,bI g2 [.slice Q ai P] 75,bI g1 [.slice X8 0 0,.slice X8 0 0] 31]/\(j<=M.l.length)/\(n=M.l.length-j)) ?_ ?_
   .exact⟨_,0,_,_,O,m,bm _,O⟩
   intro n vs wr X u K5 bY
   obtain⟨j,am,aw,rfl,m,hj,hn⟩:=X;simp only[zu,zF,zG];apply F 7 [0] m;simp only[↓Z,Vf,ab,ae,bi];apply R;omega;refine bA O (lies1 (Rk (m.o 3 O) ar) mA) ?_;simp only[J];apply aL 3 [0,0] m;simp only[↓Z,gG];refine aZ O ?_ ?_<;>intro cR
   .obtain⟨p,hp⟩:∃x,M.l[j]? = H x:=⟨_,ah (by omega)⟩
    obtain⟨b7,c1⟩:=bu p (ak hp);obtain⟨q,rfl⟩:=ee b7;obtain⟨cA,bq⟩:=abk (m.get 2 rfl).1 ar hp;obtain⟨z,C⟩:∃x,cur[q]? = H x:=⟨_,ah (by omega)⟩
    obtain⟨bd,rfl⟩:=(m.o 8 rfl).some (by omega);apply F 9 [0] m;simp only[↓Z,Vf,ab,ae,bi];apply R;omega;refine bA O (lies1 (aep (m.o 3 O) ar bq) mA) ?_;simp only[J];apply aL 5 [0,2,0,2,0] m;simp only[↓Z,lV,ab,ae,bi];refine⟨_,λu m=>(lies1 (abl (m.get 2 O).1 ar hp bq) bW),_,λu m=>(lies1 (Zw (m.o 8 O) C) bW),by omega,?_⟩;refine cO cF (z:=U 0) (by kernel_rfl) O O O ?_;intro u g4 V Y k_;replace m:=m.newB V Y k_;simp only[J];refine bJ m 1 O O cF gM O (by decide) O O O (m.b 0 O).rowsO (fU O) (by omega) (by omega) ?_;intro am dj u m;simp only[zF,zG] at m;apply aL 8 [0] m;simp only[↓Z];apply R;omega;exact bY (M.l.length-(j+1)) _ _ (by omega) (by kernel_rfl) ⟨j+1,_,_,O,((m.reO 1 O ((m.o 1 O).as (by rw[aj3 hp C,au];rfl))).sel [X7,N,N,N,N,N,N,N,N,N,N,N,N]),by omega,rfl⟩
   obtain rfl:j=M.l.length:=by omega
   rw[ap (bg _)] at m;apply F 1 [] m;simp only[↓Z];obtain⟨ba,bw⟩:∃x:Sl Int,x=⟨am,aw,Gf cur M.l⟩:=⟨_,rfl⟩
   have bt:(Gf cur M.l).length=M.l.length:=by simp[Gf]
   rw[show oI 3 1 am M.l.length aw ((Gf cur M.l).flatMap nB)=ba.it 3 1 nB by rw[bw,Sl.it,bt]] at m;replace m:=m.pull 4 O;simp only[bG,bH,zF,zG] at m;replace m:=m.pull 1 O;simp only[bG,bH,zF,zG] at m;replace m:=m.bagPush;have bo:∀j∈af,j∈ba.it 3 1 nB::af:=λj h=>br _ h;have bM:=be.mono bo;have b0:=bj.mono bo;have ck:pL (ba.it 3 1 nB::af) (Mn nB 1 ⟨am,aw,Gf cur M.l⟩):=by rw[<-bw];exact pL.own (bv ..) λu h=>Sl.at in1 (by decide) h
   have bC:inG xs (Gf cur M.l):=aj5 aU λp hp=>by have:=bu p hp;omega
   have de:=az.sumsz bC;have a2:=amo (cur:=cur) ar;have cu:=anA (f:=Aq xs) (i+1) (ax.symm▸a0:(T.flatMap Sl.l).Perm (nA cur.length));rw[a2,kL] at cu;apply aQ 6 [0] m;simp only[↓Z];replace m:=m.pull 0 O;simp only[bG,bH,zF,zG] at m;replace m:=m.pull 4 O;simp only[bG,bH,zF,zG] at m;replace m:=m.pull 9 O;simp only[bG,bH,zF,zG] at m;replace m:=m.pull 6 O;simp only[bG,bH,zF,zG] at m;replace m:=m.pull 7 O;simp only[bG,bH,zF,zG] at m;replace m:=m.pull 9 O;simp only[bG,bH,zF,zG] at m;replace m:=m.pack6;refine qQ O O (adl (l:=Gf cur M.l) m bM b0 ck bt (az.inG bC) (by omega) (by omega) (by omega) (by omega) (by omega)) ?_;rintro v u ⟨cy,cz,cx,c3,cB,c5,cC,c2,cD,cg,ch,ci,ce,cf,rfl,m,cU,bN,b1,a3,⟨co,ct⟩,dn,c7,db,dc,c8⟩;simp only[J];replace m:=m.unpack6;refine bJ m 6 O O cF gM O (by decide) O O (by rw[dZ in1,bi]) ((m.says 5 O co).r.cells in1 (by decide)) (Zj _) (by omega) (by omega) ?_;intro av di u m;simp only[zF,zG] at m;rw[<-au] at m;apply aL 2 [] m;simp only[↓Z];replace m:=m.pull 10 O;simp only[bG,bH,zF,zG] at m;replace m:=m.pull 4 O;simp only[bG,bH,zF,zG] at m;replace m:=m.pull 2 O;simp only[bG,bH,zF,zG] at m;replace m:=m.pull 10 O;simp only[bG,bH,zF,zG] at m;replace m:=m.pull 4 O;simp only[bG,bH,zF,zG] at m;replace m:=m.pull 5 O;simp only[bG,bH,zF,zG] at m;replace m:=m.pull 6 O;simp only[bG,bH,zF,zG] at m;replace m:=m.pull 7 O;simp only[bG,bH,zF,zG] at m;replace m:=m.pull 10 O;simp only[bG,bH,zF,zG] at m;replace m:=m.pull 10 O;simp only[bG,bH,zF,zG] at m;replace m:=m.pull 10 O;simp only[bG,bH,zF,zG] at m;apply aQ 6 [0] m;simp only[↓Z];apply R;omega;have b8:=aj5 aU (λp hp=>by have:=adh (i:=i) a0 p hp;omega:∀p∈(T.take i).flatMap Sl.l,0<=p/\p<(cur.length:Int));have e1:=a3.sumsz bb;have e2:=a3.sumuz (az.inG b8);exact bV (aD-(i+1)) _ _ (by omega) (by kernel_rfl) ⟨i+1,_,_,_,(ag++cf.l),_,_,_,_,_,_,_,_,_,cg,ch,ci,ce,O,m,bN,b1,az.trans a3,(λz C=>(bz.1 C).elim (a3.inG bb z) (ct z)),(by rw[a_,bl]),(by rw[a2,kL,kL,kL];omega),(by rw[a2,kL];omega),by omega,by omega,(by rw[a2,kL];omega),by omega,rfl⟩
  obtain rfl:aD=i:=by omega
  rw[ap (jk cj)] at bn b2 b3 cn;apply F 3 [0] m;simp only[↓Z];refine aA aI ?_;replace m:=m.nilO 3 1;apply aL 7 [0] m;simp only[↓Z];refine bT [20,21] [120,121,122,123,124,125,126,127,128,129,130,131,132,133,134,135,136,137,138,139,140,141,142] (λn vs wl=>∃(k nx:Nat)(aM:Option Addr)(a5:Nat),vs=[.slice aM nx a5,U (k:Int)]/\Mem w wl [oI 3 1 aM nx a5 (((cur.take k).filter (unG I)).flatMap nB),oI 3 1 av ao aR (ag.flatMap nB),fN af,oI 165 4 Q ai P (aJ.flatMap rnC),oI 70 8 L al K (aE.flatMap Em),oI 65 3 e aj t (I.flatMap Fx),oI 3 1 W E ad (cur.flatMap nB),bI g3 [.slice e aj t,.slice L al K] 31,bI g2 [.slice Q ai P] 75,bI g1 [.slice X8 0 0,.slice X8 0 0] 31]/\(((cur.take k).filter (unG I)).length=nx)/\(k<=E)/\(n=E-k)) ?_ ?_
  .exact⟨_,0,_,_,_,O,(m.sel [N,N,X7,X7,N,N,N,N,N,N,N,N]),O,bm _,O⟩
  intro n vs wr X u K6 bh
  obtain⟨k,nx,aM,a5,rfl,m,aW,hk,hn⟩:=X;have cm:=kn (unG I) (cur.take k);rw[aW,bf] at cm;simp only[zu,zF,zG];apply F 8 [0,0] m;simp only[↓Z,gG];refine aZ O ?_ ?_<;>intro cT
  .have dd:=az.le;obtain⟨z,C⟩:∃x,cur[k]? = H x:=⟨_,ah (by omega)⟩
   obtain⟨a9,cd⟩:=aU z (ak C);obtain⟨c,rfl⟩:=ee a9;obtain⟨bd,rfl⟩:=(m.o 6 rfl).some (by omega);obtain⟨x2,a7⟩:∃x,I[c]? = H x:=⟨_,ah (by omega)⟩
   have cw:=(m.o 5 rfl).num Vl (by decide);obtain⟨bL,rfl⟩:=(m.o 5 rfl).some (by omega);apply F 4 [0] m;simp only[↓Z];refine mq m aB (by kernel_rfl) (cW 9 [8,0,2,0,2] ?_);simp only[↓Z,gH,lP,lV,sB,nX,aa,ab,ae,bi];refine⟨_,λu m=>(lies1 (Zw (m.o 6 O) C) bW),_,λu m=>(lies1 (fY (m.o 5 O) Vl a7 2 O) bW),by omega,?_⟩;refine aK (oJ O O) (bD ?_);intro u m;refine gc ?_;simp only[J];refine aZ O ?_ ?_<;>intro bk
   .apply F 6 [0,2,0] m;simp only[↓Z,lV,ab,ae,bi];refine⟨_,λu m=>(lies1 (Zw (m.o 6 O) C) bW),by omega,?_⟩;refine cO cF (z:=U 0) (by kernel_rfl) O O O ?_;intro u g4 V Y k_;replace m:=m.newB V Y k_;simp only[J];refine bJ m 1 O O cF gM O (by decide) O O O (m.b 0 O).rowsO (fU O) (by omega) (by omega) ?_;intro aM cq u m;simp only[zF,zG] at m;apply aL 8 [0] m;simp only[↓Z];apply R;omega;have aq:=Ly (p:=unG I) C;rw[anC a7,Z9 (by simpa using bk)] at aq;exact bh (E-(k+1)) _ _ (by omega) (by kernel_rfl) ⟨k+1,_,_,_,O,((m.reO 1 O ((m.o 1 O).as (by rw[aq,au];rfl))).sel [X7,N,N,N,N,N,N,N,N,N,N]),(by rw[aq,a_,aW];rfl),by omega,rfl⟩
   apply F 7 [0] m;simp only[↓Z];apply R;omega;have aq:=Ly (p:=unG I) C;rw[anC a7,K0 (by simpa using bk),fw] at aq;exact bh (E-(k+1)) _ _ (by omega) (by kernel_rfl) ⟨k+1,_,_,_,O,(m.reO 0 O ((m.o 0 O).as (by rw[aq]))),(by rw[aq,aW]),by omega,O⟩
  obtain rfl:E=k:=by omega
  rw[ap (jk ax)] at m aW;apply F 4 [0] m;simp only[↓Z];refine bJ m 0 O O cF gM O (by decide) O O (m.o 1 O).own.1 (m.o 1 O).row (Zj _) (by omega) (by omega) ?_;intro aM cq u m;simp only[zF,zG] at m;refine aA aI ?_;simp only[J];replace m:=(m.pull 0 O).mv 5 O;simp only[bG,bH,zF,zG] at m;apply aL 1 [] m;simp only[↓Z];replace m:=m.pull 8 O;simp only[bG,bH,zF,zG] at m;replace m:=m.pull 8 O;simp only[bG,bH,zF,zG] at m;replace m:=m.pull 8 O;simp only[bG,bH,zF,zG] at m;replace m:=m.pull 8 O;simp only[bG,bH,zF,zG] at m;replace m:=m.pull 8 O;simp only[bG,bH,zF,zG] at m;replace m:=m.pull 8 O;simp only[bG,bH,zF,zG] at m;replace m:=m.pull 8 O;simp only[bG,bH,zF,zG] at m;replace m:=m.pull 8 O;simp only[bG,bH,zF,zG] at m;apply aQ 6 [0] m;simp only[↓Z];apply R;omega;exact bQ (8-(lv+1)) _ _ (by omega) (by kernel_rfl) ⟨lv+1,_,_,_,(cur.filter (unG I)++ag),_,_,_,_,_,_,_,_,_,I,aE,aJ,af,O,((m.reO 4 O ((m.o 4 O).as (by rw[au]))).sel [N,N,N,N,N,N,N,N,X7]),be,bj,(λz C=>(bz.1 C).elim (λh=>az.inG aU z ((List.mem_filter.1 h).1)) (bb z)),(by rw[a_,aW,bl]),(by exact ay (af2 (xs:=xs) bE bn) cp),by omega,by omega,by omega,by omega,by omega,O⟩
 apply qW 7 [6,7] m;simp only[↓Z,jI,aa];intro u m;exact aS O ⟨_,O,((m.b 7 O).full lE gE)⟩ ⟨_,O,m.ext,e,L,nc,t,ng,K,tF xs ys,O,hG.at (m.get 0 O).1 (m.o 3 O) (m.o 2 O),⟨by rw[<-a8];simp[tF],(m.o 3 rfl).le,by omega⟩,⟨by rw[<-cc];simp[tF],(m.o 2 rfl).le,by omega⟩,λx hx=>by obtain⟨y,hy,rfl⟩:=du.1 hx;exact (hG.cb y hy).2.2,λg hg=>by obtain⟨y,hy,rfl⟩:=du.1 hg;exact hG.gb y hy⟩
end
end Go.Proofs.YtbbokjbcdkgfgaaGreatDoor
