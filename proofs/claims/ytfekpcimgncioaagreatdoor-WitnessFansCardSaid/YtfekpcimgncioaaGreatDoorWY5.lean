/-
 Texts of one claim, laid together: RefG1, V3, Surf1, Surf3, Surf1b, V4, Wj, V6, K1, K2, K3, K4, Sfa, K5, K6, Sla, K7, K8, K9, K10, K11, Wo, Ch, Ci, Ck, Cl, Wp, Cm, Kt, K16, Round, Sides, LoopF, Seq, K26, Near2, Ifc, Tch1, K12, K13.
-/
import Derived.RangeFuncNested
import Derived.OrdersIn
import Derived.RangeFuncCalls
import Derived.RangeFuncBox
import Derived.Stop.Asserts
import Derived.Test.YtfekpcimgncioaaGreatDoorWY4
open Nat renaming reduceAdd->aa,reduceMul->ah,zero_add->aj,le_trans->ax,le_refl->ba,zero_le->bu,lt_succ_self->fu,not_lt_zero->mg,reduceSub->mx
open Int renaming reduceToNat->ag,toNat_natCast->ai,reduceAdd->R,reduceMul->gg,lt_trichotomy->rb
open Go renaming Value->ak,wp_region_lit->am,World->an,wpList->bf,TypeId->bh,Program->cg,run_underlying->cq,MapEntry->cu,Operand->cw,wpQuiet->M,execOp->N,Deferred->eh,wp_ret->i_,wp_skip->ja,wp_block->jd
open List renaming getElem?_eq_getElem->ap,mem_cons->av,getElem?_eq_some_iff->az,take_of_length_le->a_,length_cons->be,length_append->bg,flatMap_append->bi,map_cons->bm,mem_of_getElem?->bn,mem_singleton->bp,mem_cons_self->bq,mem_cons_of_mem->br,mem_append->bv,not_mem_nil->bw,pairwise_cons->b_,length_nil->cd,nil_append->cl,flatMap_cons->cz,mem_map->c_,map_append->db,cons_append->de,map_nil->df,mem_filter->di,toList_toArray->dx,length_map->eb,all_eq_true->ej,getElem?_drop->fa,getElem?_map->fi,mem_iff_getElem?->fp,filter_cons->ft,map_toArray->fx,append_nil->fz,length_filter_le->gd,filter_append->gl,mem_map_of_mem->gm,nodup_cons->gv,range->ii,pairwise_append->il,size_toArray->iq,length_singleton->iu,append_toArray->jj,push_toArray->jw,pairwise_singleton->ke,mem_singleton_self->kg,filter_sublist->ku,length_set->la,nodup_nil->lx,pairwise_map->mb,all_eq_false->mc,filter_nil->np,map_map->oq,any_eq_false->pa,filter_congr->qh,getElem_map->qi,flatMap_map->qj
open Go.Value renaming bool->bj
open Bool renaming and_eq_true->bt,false_ne_true->fh,not_eq_true'->ip,not_true->jq,not_false->km
open Go.Oper renaming mk->ci,upon->px,uponIn->rc,semAt->ru
open Go.Exit renaming inBlock->cn
open Array renaming getElem?_eq_some_iff->ec,replicate->ie,replicate_succ->jg,replicate_zero->jh,getElem?_setIfInBounds_ne->jp
open Prod.mk renaming injEq->fy
open List.Pairwise renaming nil->ma,imp->o_
open List.cons renaming injEq->nj
open Prod renaming fst->rq
set_option maxHeartbeats 8000000
set_option linter.unusedSimpArgs false
set_option linter.defProp false
set_option linter.unusedVariables false
set_option linter.unusedSectionVars false
open And renaming intro->I0
open Bool renaming true->Z,false->X9
open Option renaming some->H,none->G0
open Go.Proofs.Tryz renaming prog->G1
namespace Go.Proofs.YtfekpcimgncioaaGreatDoor
open Go.Proofs.Tryz
open Go.RowKit Go.Lith
set_option maxRecDepth 100000
section
variable{q:P3}{N cap N2 cap2 cap3:Nat}
abbrev Wk:=@underlying73
attribute [local irreducible] bf M fY cJ cU Code.wp
attribute [local congr] dK dL cZ dJ
def ang{p:P3}[I3 p][I3 q]:eS G1 214 [pt p,pt q] (wv (q.sub p)):=by
 intro w;refine⟨bK func214 (by kernel_rfl),?_⟩;have m:=Mem.refl w
 go_enter func214,ntmps214
 apply kX 7 [0] m;simp only[↓U,abT];intro f g i u m;refine iF 8 [0,1,2,3,4,5,6] [⟨7,5,95,[.bool X9,.string ⟨#[]⟩]⟩] aD (by kernel_rfl) (al1 ⟨_,_,_,O,by kernel_rfl,_,uB,O⟩) (ol:=?_) ?d ?_
 case d=>simp only[zw,zQ,zR];try rfl
 intro u a;replace m:=m.ext' a;refine fT (aY (c:=0) lQ O bL O O) ?_;simp only[I];refine iM O (λu e=>(((m.ext' e).b 1 O).lies1 bJ O)) ?_;simp only[I];refine iT O O (Cl Iw.h) (fT (aY (c:=0) lQ O bL O O) ?_);simp only[I];refine iM O (λu e=>(((m.ext' e).b 2 O).lies1 bJ O)) ?_;simp only[I];refine iT O O (Cl Iw.h) ?_;simp only[I];refine iT O O (ab2 D.up D.up) (Pp ?_);simp only[I];refine mf1 m ?_;intro j u m;simp only[zJ,zK,zF,zG];refine cB m 0 O O O aO (X O) O ?_;intro u m;simp only[zy,zx,bR,zF,zG,aa] at m;refine E ?_;apply S 1 [0] m;simp only[↓U];refine iF 8 [0,1,2,3,4,5,6] [⟨7,6,95,[.bool X9,.string ⟨#[]⟩]⟩] aD (by kernel_rfl) (al1 ⟨_,_,_,O,by kernel_rfl,_,uB,O⟩) (ol:=?_) ?d ?_
 case d=>simp only[zw,zQ,zR];try rfl
 intro u a;replace m:=m.ext' a;refine fT (aY (c:=0) lQ O bL O O) ?_;simp only[I];refine iM O (λu e=>(((m.ext' e).b 2 O).lies1 bJ O)) ?_;simp only[I];refine iT O O (Cl Iw.h) (fT (aY (c:=0) lQ O bL O O) ?_);simp only[I];refine iM O (λu e=>(((m.ext' e).b 3 O).lies1 bJ O)) ?_;simp only[I];refine iT O O (Cl Iw.h) ?_;simp only[I];refine iT O O (ab2 D.up D.up) (Pp ?_);simp only[I];refine mf1 m ?_;intro k u m;simp only[zJ,zK,zF,zG];refine cB m 0 O O O aO (X O) O ?_;intro u m;simp only[zy,zx,bR,zF,zG,aa] at m;refine E ?_;apply S 1 [0] m;simp only[↓U];refine iF 8 [0,1,2,3,4,5,6] [⟨7,7,95,[.bool X9,.string ⟨#[]⟩]⟩] aD (by kernel_rfl) (al1 ⟨_,_,_,O,by kernel_rfl,_,uB,O⟩) (ol:=?_) ?d ?_
 case d=>simp only[zw,zQ,zR];try rfl
 intro u a;replace m:=m.ext' a;refine fT (aY (c:=0) lQ O bL O O) ?_;simp only[I];refine iM O (λu e=>(((m.ext' e).b 3 O).lies1 bJ O)) ?_;simp only[I];refine iT O O (Cl Iw.h) (fT (aY (c:=0) lQ O bL O O) ?_);simp only[I];refine iM O (λu e=>(((m.ext' e).b 4 O).lies1 bJ O)) ?_;simp only[I];refine iT O O (Cl Iw.h) ?_;simp only[I];refine iT O O (ab2 D.up D.up) (Pp ?_);simp only[I];refine mf1 m ?_;intro l u m;simp only[zJ,zK,zF,zG];refine cB m 0 O O O aO (X O) O ?_;intro u m;simp only[zy,zx,bR,zF,zG,aa] at m;refine E ?_;apply Lc 9 [3,2,1,3] m;simp only[↓U,fB,ato,afL,aa];intro u m;exact aU O ⟨_,O,((m.b 3 O).full agU Nk)⟩ ⟨_,O,m.ext,O⟩
def af0{u v:P3}(i:Bv 400000 u)(j:Bv 400000 v):eS G1 212 [wv u,wv v] (W (u.dot v)):=by
 intro w;refine⟨bK func212 (by kernel_rfl),?_⟩;have m:=Mem.refl w
 go_enter func212,ntmps212
 apply kX 7 [0] m;simp only[↓U,lT];intro d f g u m;refine iF 12 [0,1,2,3,4,5,6,7,8,9,10] [⟨11,5,95,[.bool X9,.string ⟨#[]⟩]⟩] aD (by kernel_rfl) (al1 ⟨_,_,_,O,by kernel_rfl,_,uB,O⟩) (ol:=?_) ?c ?_
 case c=>simp only[zw,zQ,zR];try rfl
 intro u a;replace m:=m.ext' a;refine fT (aW underlying257 aO O O (by decide) (by decide) O) ?_;simp only[I];refine iM O (λu e=>(((m.ext' e).b 2 O).lies cE aO O O)) ?_;simp only[I,zy,aj,aa,ah,ag];refine fT (aW underlying257 aO O O (by decide) (by decide) O) ?_;simp only[I];refine iM O (λu e=>(((m.ext' e).b 1 O).lies cE aO O O)) ?_;simp only[I,zy,aj,aa,ah,ag];refine iT O O (ab3 D.up D.up) (fT (aW underlying257 aO O O (by decide) (by decide) O) ?_);simp only[I];refine iM O (λu e=>(((m.ext' e).b 2 O).lies cE aO O O)) ?_;simp only[I,zy,aj,aa,ah,ag];refine fT (aW underlying257 aO O O (by decide) (by decide) O) ?_;simp only[I];refine iM O (λu e=>(((m.ext' e).b 1 O).lies cE aO O O)) ?_;simp only[I,zy,aj,aa,ah,ag];refine iT O O (ab3 D.up D.up) ?_;simp only[I];refine iT O O (ab1 D.up D.up) (Pp ?_);simp only[I];refine mf1 m ?_;intro h u m;simp only[zJ,zK,zF,zG];refine cB m 0 O O O aO (X O) O ?_;intro u m;simp only[zy,zx,bR,zF,zG,aa] at m;refine E ?_;apply S 1 [0] m;simp only[↓U];refine dQ m 7 aD (by kernel_rfl) ?_;simp only[zy];refine fE 5 [1,4,3] ?_;simp only[↓U,fB,Vr,ag,ah,aa];apply I0;omega;refine jF O O (ab3 D.up D.up) ?_;simp only[I];refine jF O O (ab1 D.up D.up) (bM ?_);intro u m;simp only[I];refine cB m 1 O O O aO (X O) O ?_;intro u m;simp only[zy,zx,bR,zF,zG,aa] at m;refine E ?_;apply S 1 [] m;simp only[↓U];exact aU O ⟨_,O,((m.b 1 O).full cE aO)⟩ ⟨_,O,m.ext,O⟩
def anh{p:P3}[I3 p][I3 q]:eS G1 229 [pt p,pt q] (W ((q.sub p).dot (q.sub p))):=by
 intro w;refine⟨bK func229 (by kernel_rfl),?_⟩;have m:=Mem.refl w
 go_enter func229,ntmps229
 apply kX 10 [3,2,0] m;simp only[↓U,lT,aN];intro a c d u m;refine tK m O O ang 7 [0,1,1,0] ?_;simp only[↓U,abT,afL,aa];intro e u m;refine tK m O O (af0 Bv.of Bv.of) 3 [1] ?_;simp only[↓U,fB,aa];intro u m;exact aU O ⟨_,O,((m.b 1 O).full cE aO)⟩ ⟨_,O,m.ext,O⟩
def arz{n:Nat}:cA (((dO n:Nat):Int)*((dO n:Nat):Int)-(n:Int))<0↔¬dO n*dO n=n:=by
 have h:=(sW n).1;have h2:((dO n:Nat):Int)*((dO n:Nat):Int)=((dO n*dO n:Nat):Int):=by simp
 rw[h2];generalize dO n*dO n=r at h;unfold cA;split
 .exact⟨λ_=>by omega,λ_=>by omega⟩
 split
 .exact⟨λk=>by omega,λk=>by omega⟩
 exact⟨λk=>by omega,λk=>by omega⟩
section
variable{fs gs:List T3}{ms:List Mv}
def aw1(a:cD Z fs=0)(h:cD Z gs≠0):gR fs gs ms=(0,cD Z gs):=by
 rw[gR,K0 (λk=>k a),Z9 h]
def awj(a:cD Z fs=0)(b:cD Z gs=0)(h:¬Y fs=Y gs):gR fs gs ms=(0,30):=by
 rw[gR,K0 (λk=>k a),K0 (λk=>k b),Z9 h]
def aw2(b:cD Z fs=0)(c:cD Z gs=0)(a:Y fs=Y gs)(h:jP fs gs (Y fs)=Z\/oD fs gs (Y fs)=X9):gR fs gs ms=(0,30):=by
 rw[gR,K0 (λk=>k b),K0 (λk=>k c),K0 (λk=>k a),Z9 h]
def ahA(b:cD Z fs=0)(c:cD Z gs=0)(a:Y fs=Y gs)(h:¬(jP fs gs (Y fs)=Z\/oD fs gs (Y fs)=X9)):gR fs gs ms=if oE fs gs ms (Y fs)=X9 then ((0:Int),(31:Int)) else if mC fs gs ms=X9 then ((0:Int),(32:Int)) else match nF ms 0 with
 |some n=>(n,(0:Int))
 |none=>((0:Int),(3:Int)):=by
 rw[gR,K0 (λk=>k b),K0 (λk=>k c),K0 (λk=>k a),K0 h];cases nF ms 0<;>rfl
def awk{x y:Bool}(h:(x || !y)=Z):x=Z\/y=X9:=by revert h;cases x<;>cases y<;>decide
def awl{x y:Bool}(h:(x || !y)=X9):¬(x=Z\/y=X9):=by revert h;cases x<;>cases y<;>decide
end
def nob{b:Bool}(h:(!b)=Z):b=X9:=by cases b<;>revert h<;>decide
def awm{b:Bool}(h:(!b)=X9):b=Z:=by cases b<;>revert h<;>decide
def ani{x y:E3}:(x.1.x=y.1.x/\x.1.y=y.1.y/\x.1.z=y.1.z/\x.2.x=y.2.x/\x.2.y=y.2.y/\x.2.z=y.2.z)↔x=y:=
 ⟨λ⟨h1,h2,a,b,c,d⟩=>Prod.ext (P3.eq h1 h2 a) (P3.eq b c d),λh=>by rw[h];exact⟨O,O,O,O,O,O⟩⟩
def adT{p:P3}[I3 p][I3 q]:eS G1 163 [pt p,pt q] (.tuple #[G (abE (sF p q)),.bool (decide (nQ (sF p q)))]):=by
 intro w;refine⟨bK func163 (by kernel_rfl),?_⟩;have m:=Mem.refl w
 go_enter func163,ntmps163
 apply kX 11 [2,1,0] m;simp only[↓U,aN];intro j k u m;refine tK m O O (anh (p:=p) (q:=q)) 3 [0] ?_;simp only[↓U,lT,fB,aa];intro l u m;rw[ab5] at m;apply S 3 [1,0] m;simp only[↓U,fB];refine tK m O O (aqd (a:=((nW p q:Nat):Int)) (vQ.mono (by decide)) (by omega)) 7 [0] ?_;simp only[↓U,lT,fB,aa];intro f u m;rw[Int.natAbs_natCast] at m;apply S 2 [0] m;simp only[↓U];refine mq m aD (by kernel_rfl) (ql O (λu m=>((m.b 0 O).full cE aO)) ?_);simp only[I];refine ql O (λu m=>((m.b 0 O).full cE aO)) ?_;simp only[I];refine jF O O (ab3 (a:=((dO (nW p q):Nat):Int)) (b:=((dO (nW p q):Nat):Int)) ((Cn vQ).mono (by decide)) ((Cn vQ).mono (by decide))) ?_;simp only[I];refine ql O (λu m=>((m.b 1 O).full cE aO)) ?_;simp only[I];refine jF O O (at3 (a:=((dO (nW p q):Nat):Int)*((dO (nW p q):Nat):Int)) (b:=((nW p q:Nat):Int)) (((Cn vQ).mul (Cn vQ)).mono (by decide)) (vQ.mono (by decide))) (L (Cx O O) (bM ?_));intro u m;refine gc ?_;simp only[I];refine kS m 0 [] [23,24,25] (λvs i=>vs=[]/\i=bI f [.bool (fF (sF p q)),.string (iR (sF p q))] 95) ?_ ?_
 .intro h d;refine bB O ?_ ?_<;>intro e
  .have c:=arz.1 e;refine dQ m 3 aD (by kernel_rfl) ?_;simp only[zy];refine ql O (λu m=>((m.b 0 O).full cE aO)) ?_;simp only[I];refine jF O O (Cl (n:=1) (show nQ 1 by unfold nQ;decide)) ?_;simp only[I];refine jF O O (ab1 (a:=((dO (nW p q):Nat):Int)) (b:=1) ((Cn vQ).mono (by decide)) D.up) (bM ?_);intro u m;simp only[I];refine cB m 0 O O O aO (X O) O ?_;intro u m;simp only[zy,zx,bR,zF,zG,aa] at m;refine E (gk ?_);rw[ahx c] at m;exact d _ _ _ (by kernel_rfl) m ⟨O,O⟩
  have c:=Classical.not_not.1 (mt arz.2 e);apply aG 1 [0] m;simp only[↓U];rw[adR c] at m;exact d _ _ _ (by kernel_rfl) m ⟨O,O⟩
 intro vs i wr m g u;obtain⟨rfl,rfl⟩:=g;simp only[zF,zG] at m;simp only[zu,zF,zG];apply S 3 [1,0] m;simp only[↓U,fB];refine tK m O O (aua (a:=sF p q) (ahy.mono (by decide))) 6 [] ?_;simp only[↓U];intro u m;exact jG O O O ⟨_,O,m.ext,O⟩
def ajm{fs gs:List T3}{ms:List Mv}{N3:Nat}{A M P:Option Addr}(w:an)(c:cN w A N fs)(d:cN w M N2 gs)(t:pH bG 6 w P N3 ms)(hN:N<=300000)(aq:N2<=300000)(ar:N3<=10000000)(f:∀mv∈ms,I3 mv.1/\I3 mv.2)(ak:N<=cap)(am:N2<=cap2):dF G1 95 [.slice A N cap,.slice M N2 cap2,.slice P N3 cap3] w (λv _=>v=.tuple #[G (gR fs gs ms).1,G (gR fs gs ms).2]):=by
 refine⟨bK func95 (by kernel_rfl),?_⟩;have m:=Mem.refl w;have aw:(Y fs).length<=1000000:=by have h1:=uQ (all:=aR fs) (aR fs) [];have h2:=kF fs;have h3:=c.len;simp only[cd] at h1;unfold Y;omega
 have ax:(Y gs).length<=1000000:=by have h1:=uQ (all:=aR gs) (aR gs) [];have h2:=kF gs;have h3:=d.len;simp only[cd] at h1;unfold Y;omega
 go_enter func95,ntmps95
 apply fD 8 [0] m;simp only[↓U];refine cC m O O (Cg _ (c.ext m.ext) (by omega)) ?_;rintro v u m rfl;apply aJ 8 [0,0] m;simp only[↓U];refine bB O ?_ ?_<;>intro Q
 .apply aG 7 [] m;simp only[↓U];refine jG O O O ?_;try simp only[zD,zE]
  exact⟨_,O,m.ext,by rw[alN Q]⟩
 have a:cD Z fs=0:=Classical.not_not.1 Q;apply aG 4 [0] m;simp only[↓U];refine cC m O O (Cg _ (d.ext m.ext) (by omega)) ?_;rintro v u m rfl;apply aJ 8 [0,0] m;simp only[↓U];refine bB O ?_ ?_<;>intro R
 .apply aG 7 [] m;simp only[↓U];refine jG O O O ?_;try simp only[zD,zE]
  exact⟨_,O,m.ext,by rw[aw1 a R]⟩
 have b:cD Z gs=0:=Classical.not_not.1 R;apply aG 4 [0] m;simp only[↓U];refine aX O O (Lr _ (c.ext m.ext) (by omega)) ?_;rintro v u D ⟨A4,c4,n4,af,rfl,E⟩;replace m:=m.newO D E;subst af;apply aJ 5 [0] m;simp only[↓U];refine aX O O (Lr _ (d.ext m.ext) (by omega)) ?_;rintro v u D ⟨A5,c5,n5,ag,rfl,E⟩;replace m:=m.newO D E;subst ag;apply aJ 11 [0,0] m;simp only[↓U,xC];refine bB O ?_ ?_<;>intro j
 .have K:¬Y fs=Y gs:=λh=>j (by rw[h]);apply aG 6 [] m;simp only[↓U];refine jG O O O ?_;try simp only[zD,zE]
  exact⟨_,O,m.ext,by rw[awj a b K]⟩
 have ay:(Y fs).length=(Y gs).length:=by omega
 apply aG 7 [0] m;simp only[↓U];refine bU [11] [6,7,39,40,41,42,43,44,45,46,47,48,49,50,51,52,53] (λn vs F=>∃(k:Nat),vs=[G (k:Int)]/\Mem w F [oI 56 6 A5 (Y gs).length c5 ((Y gs).flatMap bG),oI 56 6 A4 (Y fs).length c4 ((Y fs).flatMap bG)]/\((Y fs).take k=(Y gs).take k)/\(k<=(Y fs).length)/\(n=(Y fs).length-k)) ?_ ?_
 .exact⟨_,0,O,m,O,bu _,O⟩
 intro n vs wr f u K1 ad;obtain⟨k,rfl,m,L,hk,hn⟩:=f;simp only[zu,zF,zG];apply aG 8 [0,0] m;simp only[↓U,xC];refine bB O ?_ ?_<;>intro au
 .obtain⟨e,s⟩:∃e,(Y fs)[k]? = H e:=⟨_,ap (by omega)⟩
  obtain⟨e2,J⟩:∃e,(Y gs)[k]? = H e:=⟨_,ap (by omega)⟩
  obtain⟨gO,rfl⟩:=(m.o 1 rfl).some (by omega);obtain⟨gP,rfl⟩:=(m.o 0 rfl).some (by omega);apply aG 4 [0] m;simp only[↓U];refine mq m aD (by kernel_rfl) (fE 9 [0,4,0,4] ?_);simp only[↓U,yE,ai,aj];refine⟨_,λu m=>(lA (((m.o 1 O).at yM s).lies sZ jD)),_,λu m=>(lA (((m.o 0 O).at yM J).lies sZ jD)),_,amv,by omega,?_⟩;refine bM ?_;intro u m;refine gc (bB O (λI=>?_) (λI=>?_))
  .have K:¬Y fs=Y gs:=λh=>by rw[h] at s;exact I (ani.2 (Option.some.inj (s.symm.trans J)))
   apply aG 6 [] m;simp only[↓U];refine jG O O O ?_;try simp only[zD,zE]
   exact⟨_,O,m.ext,by rw[awj a b K]⟩
  have ao:(Y fs).take (k+1)=(Y gs).take (k+1):=by rw[bV s,bV J,L,ani.1 (Classical.not_not.1 I)]
  apply aG 7 [0] m;simp only[↓U];apply I0;omega;exact ad ((Y fs).length-(k+1)) _ _ (by omega) (by kernel_rfl) ⟨k+1,O,m,ao,by omega,O⟩
 have l:Y fs=Y gs:=by rw[a_ (by omega),a_ (by omega)] at L;exact L
 apply aG 6 [0] m;simp only[↓U];refine cC m O O (amF _ (c.lat.ext m.ext) (d.lat.ext m.ext) ((m.o 1 O).lat yM (by decide)) (by omega) (by omega) (by omega) ak) ?_;rintro v u m rfl;apply aJ 7 [0] m;simp only[↓U];refine cC m O O (apP _ (c.lat.ext m.ext) (d.lat.ext m.ext) ((m.o 1 O).lat yM (by decide)) (by omega) (by omega) (by omega) (mE a).1 (mE b).1) ?_;rintro v u m rfl;apply aJ 9 [3,0] m;simp only[↓U];refine λ_=>?_;refine cQ O ?_ ?_<;>intro T
 .have g:=awk T;apply aG 6 [] m;simp only[↓U];refine jG O O O ?_;try simp only[zD,zE]
  exact⟨_,O,m.ext,by rw[aw2 a b l g]⟩
 have g:=awl T;apply aG 7 [0] m;simp only[↓U];refine cC m O O (amL _ (c.lat.ext m.ext) (d.lat.ext m.ext) (t.ext m.ext) ((m.o 1 O).lat yM (by decide)) (by omega) (by omega) (by omega) (by omega)) ?_;rintro v u m rfl;apply aJ 8 [0] m;simp only[↓U];refine cQ O ?_ ?_<;>intro V
 .have r:=nob V;apply aG 6 [] m;simp only[↓U];refine jG O O O ?_;try simp only[zD,zE]
  exact⟨_,O,m.ext,by rw[ahA a b l g,r];rfl⟩
 have r:=awm V;apply aG 6 [0] m;simp only[↓U];refine cC m O O (afQ _ (c.lat.ext m.ext) (d.lat.ext m.ext) (t.ext m.ext) (by omega) (by omega) (by omega) am (by omega)) ?_;rintro v u m rfl;apply aJ 8 [0] m;simp only[↓U];refine cQ O ?_ ?_<;>intro W
 .have x:=nob W;apply aG 6 [] m;simp only[↓U];refine jG O O O ?_;try simp only[zD,zE]
  exact⟨_,O,m.ext,by rw[ahA a b l g,r,x];rfl⟩
 have x:=awm W;apply aG 11 [0] m;simp only[↓U];refine bU [16,17] [6,7,18,19,80,81,82,83,84,85,86,87,88,89,90,91,92,93,94,95,96,97,98,99,100,101,102,103,104] (λn vs F=>∃(k:Nat)(y:Int),vs=[G y,G (k:Int)]/\Mem w F []/\(nF ms 0=nF (ms.drop k) y)/\(k<=N3)/\(n=N3-k)) ?_ ?_
 .exact⟨_,0,_,O,(m.sel [X9,X9]),O,bu _,O⟩
 intro n vs wr f u K2 ae;obtain⟨k,y,rfl,m,z,hk,hn⟩:=f;simp only[zu,zF,zG];apply aG 8 [0,0] m;simp only[↓U,Vd];refine bB O ?_ ?_<;>intro av
 .obtain⟨mv,B,a3,rfl,ab⟩:=t.get (i:=k) (by omega);haveI:=(f mv (bn B)).1;haveI:=(f mv (bn B)).2;apply aG 4 [0] m;simp only[↓U];refine mq m aD (by kernel_rfl) (fE 10 [0,0,0,0] ?_);simp only[↓U,Ig,sH,He,ai,aj,aa];refine⟨_,λu m=>((yS (ab.ext m.ext)).lies aF aA),_,λu m=>((Fm (ab.ext m.ext)).lies aF aA),by omega,?_⟩;refine jF O O (adT (p:=mv.1) (q:=mv.2)) (fE 5 [] ?_);simp only[↓U];refine bM ?_;intro u m;apply S 6 [0] m;simp only[↓U];refine cQ O ?_ ?_<;>intro X
  .have j:¬nQ (sF mv.1 mv.2):=by simpa using X
   have ah:=ahz B z j;apply aG 6 [] m;simp only[↓U];refine jG O O O ?_;try simp only[zD,zE]
   exact⟨_,O,m.ext,by rw[ahA a b l g,r,x,ah];rfl⟩
  have j:nQ (sF mv.1 mv.2):=by simpa using X
  have al:=adS B z j;apply aG 1 [] m;simp only[↓U];rw[abE,Z9 j];apply S 3 [0] m;simp only[↓U];refine C (wT O O (ahw _ _)) ?_;apply aJ 8 [0] m;simp only[↓U];apply I0;omega;exact ae (N3-(k+1)) _ _ (by omega) (by kernel_rfl) ⟨k+1,_,O,m,al,by omega,O⟩
 rw[List.drop_of_length_le (by rw[t.len];omega)] at z;apply aG 8 [] m;simp only[↓U];refine jG O O O ?_;try simp only[zD,zE]
 exact⟨_,O,m.ext,by rw[ahA a b l g,r,x,z];rfl⟩
def anj{fs gs:List T3}{ms:List Mv}{N3:Nat}{A a b:Option Addr}(w:an)(e:cN w A N fs)(i:cN w a N2 gs)(f:pH bG 6 w b N3 ms)(d:N<=300000)(g:N2<=300000)(h:N3<=10000000)(c:∀mv∈ms,I3 mv.1/\I3 mv.2)(j:N<=cap)(k:N2<=cap2):dF G1 46 [.slice A N cap,.slice a N2 cap2,.slice b N3 cap3] w (λv _=>v=.bool Z):=by
 refine⟨bK func46 (by kernel_rfl),?_⟩;have m:=Mem.refl w
 go_enter func46,ntmps46
 apply fD 9 [0] m;simp only[↓U];refine cC m O O (xK _ (e.ext m.ext) (i.ext m.ext) (f.ext m.ext) d g h c) ?_;rintro v u m rfl;apply aJ 11 [0] m;simp only[↓U];refine cC m O O (ajm _ (e.ext m.ext) (i.ext m.ext) (f.ext m.ext) d g h c j k) ?_;rintro v u m rfl;apply aJ 16 [0,4,0] m;simp only[↓U];refine λ_=>?_;refine aU O O ?_;try simp only[zD,zE]
 exact⟨_,O,m.ext,by simp⟩
def ahB{n k:Int}[Iw n](a:0<k)(h1:k<4611686018427387904):eS G1 220 [G n,G k] (G (n%k)):=by
 intro w;refine⟨bK func220 (by kernel_rfl),?_⟩;have m:=Mem.refl w;have b:=akN (n:=n) a
 go_enter func220,ntmps220
 apply fD 8 [0] m;simp only[↓U];refine C (cW O O (by omega) O) ?_;apply aJ 3 [0] m;simp only[↓U];apply I0;omega;refine C (cW O O (by omega) (agI a)) ?_;apply aJ 3 [] m;simp only[↓U];exact aU O O ⟨_,O,m.ext,O⟩
def yH{n k:Int}[Iw n](a:0<k)(h1:k<4611686018427387904):eS G1 43 [G n,G k] (G (n%k)):=by
 intro w;refine⟨bK func43 (by kernel_rfl),?_⟩;have m:=Mem.refl w;have b:=akN (n:=n) a
 go_enter func43,ntmps43
 apply fD 8 [0] m;simp only[↓U];refine C (cW O O (by omega) O) ?_;apply aJ 3 [0] m;simp only[↓U];apply I0;omega;refine C (cW O O (by omega) (agI a)) ?_;apply aJ 3 [] m;simp only[↓U];exact aU O O ⟨_,O,m.ext,O⟩
def ab8{x y:Nat}{A:Option Addr}{zs:List Int}(w:an)(c:vH w A N zs)(i:x<=6)(j:y<=6):dF G1 221 [G (x:Int),G (y:Int),G 10,.slice A N cap] w (λv _=>v=pt (uO 10 zs x y)):=by
 refine⟨bK func221 (by kernel_rfl),?_⟩;have m:=Mem.refl w
 go_enter func221,ntmps221
 apply kX 15 [0,0] m;simp only[↓U,cY,lS];intro h u m;refine bB O ?_ ?_<;>intro f
 .have d:(y*7+x)%N<N:=Nat.mod_lt _ (by omega);obtain⟨z,e,o,a,rfl,g⟩:=c.get d;have l:=uA (n:=z) (m:=64) (by decide);apply aG 8 [0] m;simp only[↓U,lS];apply I0;omega;refine C (cW O O (by omega) (Zj (k:=y*7+x))) (C (aP dS bL O O (Int.natCast_nonneg _) (Int.ofNat_lt.2 d) (oW (ai _))) ?_);apply aJ 1 [0,2,0] m;simp only[↓U];refine⟨_,λu m=>(lies1 (m.ext.cell g) bJ),?_⟩;refine tK m O O (ahB (n:=z) (k:=64) (by decide) (by decide)) 16 [0] ?_;simp only[↓U,yD,aN,aa];apply I0;omega;intro u m;refine aU O ⟨_,O,((m.b 0 O).full aF aA)⟩ ?_;try simp only[zD,zE]
  exact⟨_,O,m.ext,by simp only[pt,uO,akP c.len e]⟩
 apply sO 15 [0] m;simp only[↓U,yD,aN,R,aa];apply I0;omega;intro u m;refine aU O ⟨_,O,((m.b 0 O).full aF aA)⟩ ?_;try simp only[zD,zE]
 exact⟨_,O,m.ext,by simp[pt,uO,aoW c.len f]⟩
def Jt{a b c d:P3}(w:an):dF G1 222 [pt a,pt b,pt c,pt d] w (TS 39 (Da a b c d) w):=by
 refine⟨bK func222 (by kernel_rfl),?_⟩;have m:=Mem.refl w
 go_enter func222,ntmps222
 apply kX 18 [4,3,2,4,2,1,0] m;simp only[↓U,aN,nU,aa];intro h i j k u m;refine Ag O O ?_;intro u l e f g;replace m:=m.newB e f g;apply aJ 3 [] m;simp only[↓U];exact aU O O ⟨_,O,m.ext,⟨_,_,_,O,O,m.bo 0 O O (X O)⟩⟩
def aqg{n0:Int}[Iw n0]{A:Option Addr}{zs:List Int}(w:an)(g:vH w A N zs):dF G1 147 [G n0,G 10,.slice A N cap] w (TS 39 (Nd 10 zs (1+n0%6).toNat) w):=by
 refine⟨bK func147 (by kernel_rfl),?_⟩;have m:=Mem.refl w;have P:=uA (n:=n0) (m:=6) (by decide);obtain⟨q,p⟩:∃q:Nat,q=(1+n0%6).toNat:=⟨_,rfl⟩
 rw[<-p];have z:1+n0%6=(q:Int):=by omega
 go_enter func147,ntmps147
 apply fD 7 [0] m;simp only[↓U];refine tK m O O (ahB (n:=n0) (k:=6) (by decide) (by decide)) 3 [] ?_;simp only[↓U];apply I0;omega;intro u m;rw[z];apply S 2 [0] m;simp only[↓U];refine C aK ?_;replace m:=m.nilO 39 9;apply aJ 7 [0] m;simp only[↓U];refine bU [7,8] [9,10,11,12,13,17,18,19,20,21,22,23,24,25,26,27,28,29,30,31,32,33,34,35,36,37,38,39,40,41,42,43,44,45,46,47,48,49,50,51,52,53,54,55,56,57] (λn vs i=>∃(e:Option Addr)(f y:Nat),vs=[.slice e (fW 10 zs q y 0).length f,G (y:Int)]/\Mem w i [oI 39 9 e (fW 10 zs q y 0).length f ((fW 10 zs q y 0).flatMap aM)]/\(y<=q)/\(n=q-y)) ?_ ?_
 .exact⟨_,G0,0,0,O,m,bu _,O⟩
 intro n vs wr h u F r;obtain⟨e,f,y,rfl,m,T,Q⟩:=h;simp only[zu,zF,zG];apply aG 7 [0,0] m;simp only[↓U];refine bB O ?_ ?_<;>intro V
 .apply aG 8 [0] m;simp only[↓U];refine bU [7,9] [10,11,12,13,22,23,24,25,26,27,28,29,30,31,32,33,34,35,36,37,38,39,40,41,42,43,44,45,46,47,48,49,50,51,52,53,54,55,56,57] (λn vs i=>∃(e:Option Addr)(f x:Nat),vs=[.slice e (fW 10 zs q y x).length f,G (x:Int)]/\Mem w i [oI 39 9 e (fW 10 zs q y x).length f ((fW 10 zs q y x).flatMap aM)]/\(x<=q)/\(n=q-x)) ?_ ?_
  .exact⟨_,_,_,0,O,m,bu _,O⟩
  intro n vs wr h u H t;obtain⟨e,f,x,rfl,m,R,X⟩:=h;simp only[zu,zF,zG];apply aG 7 [0,0] m;simp only[↓U];refine bB O ?_ ?_<;>intro W
  .apply aG 9 [0] m;simp only[↓U];refine cC m O O (ab8 (x:=x) (y:=y) _ (g.ext m.ext) (by omega) (by omega)) ?_;rintro v u m rfl;apply iV 10 [0,0] m;simp only[↓U,cY,aN,aa];intro J;apply I0;omega;intro u m;refine cC m O O (ab8 (x:=x+1) (y:=y) _ (g.ext m.ext) (by omega) (by omega)) ?_;rintro v u m rfl;apply iV 11 [0,0] m;simp only[↓U,cY,aN,aa];intro K;apply I0;omega;intro u m;refine cC m O O (ab8 (x:=x+1) (y:=y+1) _ (g.ext m.ext) (by omega) (by omega)) ?_;rintro v u m rfl;apply iV 10 [0,0] m;simp only[↓U,cY,aN,aa];intro L;apply I0;omega;intro u m;refine cC m O O (ab8 (x:=x) (y:=y+1) _ (g.ext m.ext) (by omega) (by omega)) ?_;rintro v u m rfl;apply iV 9 [0,4,3,2,1,0] m;simp only[↓U,cY,aN,aa];intro M u m;refine aX O O (Jt (a:=uO 10 zs x y) (b:=uO 10 zs (x+1) y) (c:=uO 10 zs (x+1) (y+1)) (d:=uO 10 zs x (y+1)) _) ?_;rintro v u j ⟨E,cap2,_,rfl,rfl,l⟩;replace m:=m.newO j l;simp only[I];refine bW m 5 O O fP kL O (by decide) O O (m.o 0 O).own.1 (m.o 0 O).row (rS _) (by have:=Ej (s:=10) (zs:=zs) (n:=q) (y:=y) (x:=x) (by omega) (by omega) (by omega);show _+2<=_;omega) (by have:=Ej (s:=10) (zs:=zs) (n:=q) (y:=y) (x:=x) (by omega) (by omega) (by omega);show (_+2)*72<=_;omega) ?_;intro e f u m;simp only[zF,zG] at m;rw[akQ,akR] at m;rw[akR];apply aJ 8 [0] m;simp only[↓U];apply I0;omega;exact t (q-(x+1)) _ _ (by omega) (by kernel_rfl) ⟨_,_,x+1,O,(m.sel [X9,X9,X9,X9,X9,Z]),by omega,O⟩
  have B:x=q:=by omega
  rw[B,aa8] at m ⊢;apply aG 7 [0] m;simp only[↓U];apply I0;omega;exact r (q-(y+1)) _ _ (by omega) (by kernel_rfl) ⟨_,_,y+1,O,m,by omega,O⟩
 have D:y=q:=by omega
 rw[D,Bm] at m ⊢;apply aG 7 [] m;simp only[↓U];exact aU O O ⟨_,O,m.ext,⟨_,_,_,O,O,(m.o 0 O)⟩⟩
end
section
attribute [local irreducible] bf M fY cJ cU Code.wp
end
section
attribute [local irreducible] bf M fY cJ cU Code.wp
attribute [local congr] dK dL cZ dJ
variable{cap N:Nat}
def adU{w0 w:an}{S:List (Option Nat)}{E:bh}{g n k:Nat}{t:T3}{ts:List T3}(h:Ow w0 w S E 9 (H ⟨g,0,G0⟩) n cap (ts.flatMap aM))(a:ts[k]? = H t):jS w ⟨g,k*9,G0⟩ (aM t):=by
 have:=h.tri a;rw[eD,aj] at this;exact this
def aub{p:P3}(w:an)(i:Sm 100 p):dF G1 219 [pt p,G 8] w (TS 39 (Ei p 8) w):=by
 refine⟨bK func219 (by kernel_rfl),?_⟩;have m:=Mem.refl w;have D:=i.1;have E:=i.2.1;have F:=i.2.2
 go_enter func219,ntmps219
 apply kX 8 [] m;simp only[↓U,atv];intro B k u m;apply S 24 [9,1,2,0] m;simp only[↓U,iW,j,aa];apply I0;omega;refine C (cW (m:=0) (n:=2) (r:=0) O O (by decide) (by decide)) ?_;apply aJ 6 [2,0] m;simp only[↓U,iX,j,gg,aa];apply I0;omega;refine C (iO (m:=0) (n:=2) (r:=0) O O (by decide) (by decide)) (C (cW (m:=0) (n:=2) (r:=0) O O (by decide) (by decide)) ?_);apply aJ 6 [2,0] m;simp only[↓U,kC,j,gg,aa];apply I0;omega;refine C (iO (m:=0) (n:=4) (r:=0) O O (by decide) (by decide)) ?_;apply iV 15 [0] m;simp only[↓U,yD,sJ,aN,gg,aa,ag,ah,R];apply I0;omega;intro u m;apply S 14 [1,2,0] m;simp only[↓U,iW,j,aa];apply I0;omega;refine C (cW (m:=1) (n:=2) (r:=1) O O (by decide) (by decide)) ?_;apply aJ 6 [2,0] m;simp only[↓U,iX,j,gg,aa];apply I0;omega;refine C (iO (m:=1) (n:=2) (r:=0) O O (by decide) (by decide)) (C (cW (m:=0) (n:=2) (r:=0) O O (by decide) (by decide)) ?_);apply aJ 6 [2,0] m;simp only[↓U,kC,j,gg,aa];apply I0;omega;refine C (iO (m:=1) (n:=4) (r:=0) O O (by decide) (by decide)) ?_;apply iV 15 [0] m;simp only[↓U,yD,sJ,aN,gg,aa,ag,ah,R];apply I0;omega;intro u m;apply S 14 [1,2,0] m;simp only[↓U,iW,j,aa];apply I0;omega;refine C (cW (m:=2) (n:=2) (r:=0) O O (by decide) (by decide)) ?_;apply aJ 6 [2,0] m;simp only[↓U,iX,j,gg,aa];apply I0;omega;refine C (iO (m:=2) (n:=2) (r:=1) O O (by decide) (by decide)) (C (cW (m:=1) (n:=2) (r:=1) O O (by decide) (by decide)) ?_);apply aJ 6 [2,0] m;simp only[↓U,kC,j,gg,aa];apply I0;omega;refine C (iO (m:=2) (n:=4) (r:=0) O O (by decide) (by decide)) ?_;apply iV 15 [0] m;simp only[↓U,yD,sJ,aN,gg,aa,ag,ah,R];apply I0;omega;intro u m;apply S 14 [1,2,0] m;simp only[↓U,iW,j,aa];apply I0;omega;refine C (cW (m:=3) (n:=2) (r:=1) O O (by decide) (by decide)) ?_;apply aJ 6 [2,0] m;simp only[↓U,iX,j,gg,aa];apply I0;omega;refine C (iO (m:=3) (n:=2) (r:=1) O O (by decide) (by decide)) (C (cW (m:=1) (n:=2) (r:=1) O O (by decide) (by decide)) ?_);apply aJ 6 [2,0] m;simp only[↓U,kC,j,gg,aa];apply I0;omega;refine C (iO (m:=3) (n:=4) (r:=0) O O (by decide) (by decide)) ?_;apply iV 15 [0] m;simp only[↓U,yD,sJ,aN,gg,aa,ag,ah,R];apply I0;omega;intro u m;apply S 14 [1,2,0] m;simp only[↓U,iW,j,aa];apply I0;omega;refine C (cW (m:=4) (n:=2) (r:=0) O O (by decide) (by decide)) ?_;apply aJ 6 [2,0] m;simp only[↓U,iX,j,gg,aa];apply I0;omega;refine C (iO (m:=4) (n:=2) (r:=2) O O (by decide) (by decide)) (C (cW (m:=2) (n:=2) (r:=0) O O (by decide) (by decide)) ?_);apply aJ 6 [2,0] m;simp only[↓U,kC,j,gg,aa];apply I0;omega;refine C (iO (m:=4) (n:=4) (r:=1) O O (by decide) (by decide)) ?_;apply iV 15 [0] m;simp only[↓U,yD,sJ,aN,gg,aa,ag,ah,R];apply I0;omega;intro u m;apply S 14 [1,2,0] m;simp only[↓U,iW,j,aa];apply I0;omega;refine C (cW (m:=5) (n:=2) (r:=1) O O (by decide) (by decide)) ?_;apply aJ 6 [2,0] m;simp only[↓U,iX,j,gg,aa];apply I0;omega;refine C (iO (m:=5) (n:=2) (r:=2) O O (by decide) (by decide)) (C (cW (m:=2) (n:=2) (r:=0) O O (by decide) (by decide)) ?_);apply aJ 6 [2,0] m;simp only[↓U,kC,j,gg,aa];apply I0;omega;refine C (iO (m:=5) (n:=4) (r:=1) O O (by decide) (by decide)) ?_;apply iV 15 [0] m;simp only[↓U,yD,sJ,aN,gg,aa,ag,ah,R];apply I0;omega;intro u m;apply S 14 [1,2,0] m;simp only[↓U,iW,j,aa];apply I0;omega;refine C (cW (m:=6) (n:=2) (r:=0) O O (by decide) (by decide)) ?_;apply aJ 6 [2,0] m;simp only[↓U,iX,j,gg,aa];apply I0;omega;refine C (iO (m:=6) (n:=2) (r:=3) O O (by decide) (by decide)) (C (cW (m:=3) (n:=2) (r:=1) O O (by decide) (by decide)) ?_);apply aJ 6 [2,0] m;simp only[↓U,kC,j,gg,aa];apply I0;omega;refine C (iO (m:=6) (n:=4) (r:=1) O O (by decide) (by decide)) ?_;apply iV 15 [0] m;simp only[↓U,yD,sJ,aN,gg,aa,ag,ah,R];apply I0;omega;intro u m;apply S 14 [1,2,0] m;simp only[↓U,iW,j,aa];apply I0;omega;refine C (cW (m:=7) (n:=2) (r:=1) O O (by decide) (by decide)) ?_;apply aJ 6 [2,0] m;simp only[↓U,iX,j,gg,aa];apply I0;omega;refine C (iO (m:=7) (n:=2) (r:=3) O O (by decide) (by decide)) (C (cW (m:=3) (n:=2) (r:=1) O O (by decide) (by decide)) ?_);apply aJ 6 [2,0] m;simp only[↓U,kC,j,gg,aa];apply I0;omega;refine C (iO (m:=7) (n:=4) (r:=1) O O (by decide) (by decide)) ?_;apply iV 15 [0] m;simp only[↓U,yD,sJ,aN,gg,aa,ag,ah,R];apply I0;omega;intro u m;apply S 8 [2] m;simp only[↓U];apply I0;omega;change Mem w _ [bI k [G (dH p 8 0).x,G (dH p 8 0).y,G (dH p 8 0).z,G (dH p 8 1).x,G (dH p 8 1).y,G (dH p 8 1).z,G (dH p 8 2).x,G (dH p 8 2).y,G (dH p 8 2).z,G (dH p 8 3).x,G (dH p 8 3).y,G (dH p 8 3).z,G (dH p 8 4).x,G (dH p 8 4).y,G (dH p 8 4).z,G (dH p 8 5).x,G (dH p 8 5).y,G (dH p 8 5).z,G (dH p 8 6).x,G (dH p 8 6).y,G (dH p 8 6).z,G (dH p 8 7).x,G (dH p 8 7).y,G (dH p 8 7).z] _,_] at m;apply S 9 [1,1,1,1,0] m;simp only[↓U,sJ,aN,ag,ah,aa];apply I0;omega;refine aX O O (Jt (a:=dH p 8 0) (b:=dH p 8 2) (c:=dH p 8 3) (d:=dH p 8 1) _) ?_;rintro v u e ⟨g,h,_,rfl,rfl,f⟩;replace m:=m.newO e f;apply aJ 13 [2,2,2,2,0] m;simp only[↓U,sJ,aN,ag,ah,aa];apply I0;omega;refine aX O O (Jt (a:=dH p 8 4) (b:=dH p 8 5) (c:=dH p 8 7) (d:=dH p 8 6) _) ?_;rintro v u e ⟨l,H,_,rfl,rfl,f⟩;replace m:=m.newO e f;simp only[I];refine bW m 1 O O fP kL O (by decide) O O (m.o 0 O).own.1 (m.o 0 O).row (rS _) (X O) (X O) ?_;intro g h u m;simp only[zF,zG] at m;apply aJ 13 [3,3,3,3,0] m;simp only[↓U,sJ,aN,ag,ah,aa];apply I0;omega;refine aX O O (Jt (a:=dH p 8 0) (b:=dH p 8 1) (c:=dH p 8 5) (d:=dH p 8 4) _) ?_;rintro v u e ⟨q,J,_,rfl,rfl,f⟩;replace m:=m.newO e f;simp only[I];refine bW m 2 O O fP kL O (by decide) O O (m.o 0 O).own.1 (m.o 0 O).row (rS _) (X O) (X O) ?_;intro g h u m;simp only[zF,zG] at m;apply aJ 13 [4,4,4,4,0] m;simp only[↓U,sJ,aN,ag,ah,aa];apply I0;omega;refine aX O O (Jt (a:=dH p 8 2) (b:=dH p 8 6) (c:=dH p 8 7) (d:=dH p 8 3) _) ?_;rintro v u e ⟨s,K,_,rfl,rfl,f⟩;replace m:=m.newO e f;simp only[I];refine bW m 3 O O fP kL O (by decide) O O (m.o 0 O).own.1 (m.o 0 O).row (rS _) (X O) (X O) ?_;intro g h u m;simp only[zF,zG] at m;apply aJ 13 [5,5,5,5,0] m;simp only[↓U,sJ,aN,ag,ah,aa];apply I0;omega;refine aX O O (Jt (a:=dH p 8 0) (b:=dH p 8 4) (c:=dH p 8 6) (d:=dH p 8 2) _) ?_;rintro v u e ⟨t,L,_,rfl,rfl,f⟩;replace m:=m.newO e f;simp only[I];refine bW m 4 O O fP kL O (by decide) O O (m.o 0 O).own.1 (m.o 0 O).row (rS _) (X O) (X O) ?_;intro g h u m;simp only[zF,zG] at m;apply aJ 13 [6,6,6,6,0] m;simp only[↓U,sJ,aN,ag,ah,aa];apply I0;omega;refine aX O O (Jt (a:=dH p 8 1) (b:=dH p 8 3) (c:=dH p 8 7) (d:=dH p 8 5) _) ?_;rintro v u e ⟨A,M,_,rfl,rfl,f⟩;replace m:=m.newO e f;simp only[I];refine bW m 5 O O fP kL O (by decide) O O (m.o 0 O).own.1 (m.o 0 O).row (rS _) (X O) (X O) ?_;intro g h u m;simp only[zF,zG] at m;apply aJ 3 [] m;simp only[↓U];exact aU O O ⟨_,O,m.ext,⟨_,_,_,O,O,((m.o 5 O)).as (by simp only[Ei,bi])⟩⟩
def ank{b:Nat}(w:an)(a:b<134217728):dF G1 146 [G (b:Int),G 8,.agg #[G 4,G 5,G 6]] w (TS 39 (ain b) w):=by
 refine⟨bK func146 (by kernel_rfl),?_⟩;have m:=Mem.refl w;have P:=a
 go_enter func146,ntmps146
 apply kX 7 [0] m;simp only[↓U];intro z u m;refine C aK ?_;replace m:=m.nilO 39 9;apply aJ 7 [0] m;simp only[↓U];refine bU [7,8] [9,10,11,12,13,14,15,16,17,18,19,20,21,22,23,24,25,26,27,28,29,30,31,32,33,34,35,36,37,38,39,40,41,42,43,44,45,46,47,48,49,50,51,52,53,54,55,56,57,58,59,60,61,62,63,64,65,66,67,68,69,70,71,72,73,74,75,76,77,78,79,80,81,82,83,84,85,86,87,88,89,90,91,92,93,94,95,96,97,98,99,100,101,102,103,104,105,106,107,108,109,110,111,112,113,114,115,116,117,118,119,120,121,122,123,124,125,126,127,128,129,130,131,132,133,134,135,136,137,138,139] (λn vs y=>∃(d:Option Addr)(e k:Nat),vs=[.slice d (jC b k 0).length e,G (k:Int)]/\Mem w y [oI 39 9 d (jC b k 0).length e ((jC b k 0).flatMap aM),bI z [G 4,G 5,G 6] 30]/\(k<=27)/\(n=27-k)) ?_ ?_
 .exact⟨_,G0,0,0,O,m,bu _,O⟩
 intro n vs wr r u Y A;obtain⟨d,e,k,rfl,m,hk,hn⟩:=r;simp only[zu,zF,zG];apply aG 6 [0,0] m;simp only[↓U];refine bB O ?_ ?_<;>intro ab
 .apply aG 6 [0] m;simp only[↓U];refine C (cW O O (by omega) (Zj (k:=k) (c:=3))) ?_;apply aJ 5 [0] m;simp only[↓U];refine C (iO O O (by omega) (ado (n:=3) (by omega))) ?_;simp only[I];refine C (cW O O (by omega) (Zj (k:=k / 3) (c:=3))) ?_;apply aJ 5 [0] m;simp only[↓U];refine C (iO O O (by omega) (ado (n:=9) (by omega))) ?_;apply aJ 7 [0] m;simp only[↓U];refine C (gB amc fV O (mZ (by omega) (by omega))) ?_;simp only[I];refine C (pE O O (by omega) (avf (by omega) (by omega))) (C (zX O O (avg (akO a))) ?_);apply aJ 2 [0,0] m;simp only[↓U];refine bB O ?_ ?_<;>intro F
  .have x:Qu b k=X9:=by unfold Qu;exact Y6 (by have:=F;simp only[ai] at this;omega)
   rw[aio x] at m ⊢;apply aG 6 [0] m;simp only[↓U];apply I0;omega;exact A (27-(k+1)) _ _ (by omega) (by kernel_rfl) ⟨_,_,k+1,O,m,by omega,O⟩
  have x:Qu b k=Z:=by unfold Qu;exact Y5 (by have:=F;simp only[ai] at this;omega)
  apply aG 14 [2,2] m;simp only[↓U,iW,j,iX,aa];apply I0;omega;apply Lc 9 [2] m;simp only[↓U,kC,j,yD,cY,aa];intro g2;apply I0;omega;intro u m;apply Lc 6 [0,1,0] m;simp only[↓U,aN,aa];intro u m;refine aX O O (aub (p:=vP k) _ (aq6 (by omega))) ?_;rintro v u q ⟨X,W,_,rfl,rfl,s⟩;replace m:=m.newO q s;obtain⟨gc,rfl⟩:=(m.o 0 rfl).some (by rw[wB];decide);rw[wB] at m ⊢;apply aJ 6 [] m;simp only[↓U,Dg,aa];apply S 3 [] m;simp only[↓U,Dg,aa];apply S 2 [] m;simp only[↓U,Dg,atr,aa];apply Lc 2 [0] m;simp only[↓U,atq,atp,aa];intro K u m;apply S 6 [0] m;simp only[↓U];refine bU [7,15] [16,17,18,19,66,67,68,69,70,71,72,73,74,75,76,77,78,79,80,81,82,83,84,85,86,87,88,89,90,91,92,93,94,95,96,97,98,99,100,101,102,103,104,105,106,107,108,109,110,111,112,113,114,115,116,117,118,119,120,121,122,123,124,125,126,127,128,129,130,131,132,133,134,135,136,137,138,139] (λn vs y=>∃(d:Option Addr)(e f:Nat),vs=[.slice d (jC b k f).length e,G (f:Int)]/\Mem w y [bI K Gp 270,oI 39 9 (H ⟨gc,0,G0⟩) 12 W ((Ei (vP k) 8).flatMap aM),oI 39 9 d (jC b k f).length e ((jC b k f).flatMap aM),bI z [G 4,G 5,G 6] 30]/\(f<=6)/\(n=6-f)) ?_ ?_
  .exact⟨_,_,_,0,O,(m.sel [Z,Z,X9,Z,Z]),bu _,O⟩
  intro n vs wr r u K2 D;obtain⟨d,e,f,rfl,m,ae,af⟩:=r;simp only[zu,zF,zG];apply aG 6 [0,0] m;simp only[↓U];refine bB O ?_ ?_<;>intro ad
  .have g:f<6:=by omega
   have hs:=avk f;obtain⟨t,u0,L,M,V⟩:=akW (n:=k) g;apply aG 16 [0,2] m;simp only[↓U,ams,nT,ai,aj,ag,ah,aa];refine⟨_,λu m=>((m.b 0 O).lies1 (i:=f*3) bJ (avh g)),by omega,?_⟩;apply S 13 [0,2] m;simp only[↓U,ams,nT,ai,aj,ag,ah,aa];refine⟨_,λu m=>((m.b 0 O).lies1 (i:=f*3+1) bJ (avi g)),by omega,?_⟩;apply S 12 [0,2,0,3,0,3,0] m;simp only[↓U];refine⟨_,λu m=>((m.b 0 O).lies1 (i:=f*3+2) bJ (avj g)),λ_=>λ_=>⟨by omega,?_⟩⟩;apply S 6 [3,0,3,0,3,0] m;simp only[↓U];refine λ_=>λ_=>λ_=>?_;apply S 7 [0] m;simp only[↓U];refine gM O (λa=>aI) (gM O (λa=>aI) ?_);simp only[I];refine gM O (λa=>qW (B a O) O (cF (by omega) (by omega))) (gM O (λa=>aI) ?_);simp only[I];refine gM O (λa=>fZ (B a O) (B a O) (cF (by omega) (by omega))) ?_;simp only[I];refine gM O (λa=>qW (B a O) O (cF (by omega) (by omega))) (gM O (λa=>aI) ?_);simp only[I];refine gM O (λa=>fZ (B a O) (B a O) (cF (by omega) (by omega))) (gM O (λa=>gB amc fV (B a O) (mZ (by have h:=vin a;omega) (by have h:=vin a;omega))) ?_);simp only[I];refine gM O (λa=>pE (B a O) (B a O) (by have h:=vin a;omega) (avf (by have h:=vin a;omega) (by have h:=vin a;omega))) (gM rfl (λa=>zX (B a rfl) rfl (avg (akO P))) (gM rfl (λa=>acw (B a rfl) rfl) (C (gY rfl rfl rfl) ?_)));simp only[I];apply aJ 1 [0] m;simp only[↓U];refine lL O ?_ ?_<;>intro J
   .have l:=(acR (b:=b) (n:=k) (f:=f)).symm.trans J;refine mh m [Z,Z,X9,Z] [(0,Z),(1,Z),(2,Z),(3,Z),(4,Z),(6,Z),(7,Z),(8,Z),(9,Z),(10,Z),(5,Z),(11,Z),(12,X9),(13,X9),(14,Z)] aD (by kernel_rfl) (bT (λ_ _ _ _ _ h=>h)) (ol:=?_) ?T ?_
    case T=>simp only[zw,zQ,zR];try rfl
    intro u m;refine Dk 4 [] ?_;simp only[↓U];apply I0;omega;refine bY (aP fP bA O O (by omega) (by omega) (akb (show _=2*f by omega))) (Dk 4 [] ?_);simp only[↓U];apply I0;omega;refine bY (aP fP bA O O (by omega) (by omega) (akb (show _=2*f+1 by omega))) (Dk 2 [0,1,0,1] ?_);simp only[↓U];refine⟨_,λu m=>((adU (m.o 1 O) L).lies dG bA),_,λu m=>((adU (m.o 1 O) M).lies dG bA),?_⟩;refine bQ (Ag O O ?_);intro u g4 q s N;replace m:=m.newB q s N;refine E ⟨m.sel [X9,Z,Z,X9,Z],?_⟩;refine bQ ?_;simp only[I];refine bW m 3 O O fP kL O (by decide) O O O (m.b 0 O).rowsO (jB O) (by have:=Nf (b:=b) (n:=k) (f:=f) (by omega) (by omega);omega) (by have:=Nf (b:=b) (n:=k) (f:=f) (by omega) (by omega);omega) ?_;intro d e u m;simp only[zF,zG] at m;rw[ais V l,agK g l] at m;rw[agK g l];refine E ⟨m.sel [X9,Z,Z,X9,Z],?_⟩;refine bY aK (bO ?_);apply S 6 [0] m;simp only[↓U];apply I0;omega;exact D (6-(f+1)) _ _ (by omega) (by kernel_rfl) ⟨_,_,f+1,O,(m.sel [X9,Z,Z,Z,Z]),by omega,O⟩
   have l:=(acR (b:=b) (n:=k) (f:=f)).symm.trans J;rw[<-aeV l] at m ⊢;apply aG 7 [0] m;simp only[↓U];apply I0;omega;exact D (6-(f+1)) _ _ (by omega) (by kernel_rfl) ⟨_,_,f+1,O,m,by omega,O⟩
  have Q:f=6:=by omega
  rw[Q,aeU x] at m ⊢;apply aG 7 [0] m;simp only[↓U];apply I0;omega;exact A (27-(k+1)) _ _ (by omega) (by kernel_rfl) ⟨_,_,k+1,O,(m.sel [X9,X9,Z,Z]),by omega,O⟩
 have R:k=27:=by omega
 rw[R,Td] at m ⊢;apply aG 7 [] m;simp only[↓U];exact aU O O ⟨_,O,m.ext,⟨_,_,_,O,O,(m.o 0 O)⟩⟩
def auc{kind bits:Int}[Iw kind][Iw bits]{A:Option Addr}{zs:List Int}(w:an)(f:vH w A N zs):dF G1 87 [G kind,G bits,.slice A N cap] w (TS 39 (vT kind bits zs) w):=by
 refine⟨bK func87 (by kernel_rfl),?_⟩;have m:=Mem.refl w;have i:=uA (n:=bits) (m:=134217728) (by decide);haveI:Iw (kind.tdiv 3):=⟨(acS (Iw.h (n:=kind))).2⟩
 go_enter func87,ntmps87
 apply fD 8 [0] m;simp only[↓U];refine tK m O O (yH (n:=kind) (k:=3) (by decide) (by decide)) 2 [0,0] ?_;simp only[↓U];intro u m;refine bB O ?_ ?_<;>intro d
 .apply aG 3 [0] m;simp only[↓U];refine tK m O O (yH (n:=bits) (k:=134217728) (by decide) (by decide)) 1 [0] ?_;simp only[↓U,yD,aa];intro u m;rw[show bits%134217728=(((bits%134217728).toNat:Nat):Int) by omega];refine aX O O (ank (b:=(bits%134217728).toNat) _ (by omega)) ?_;rintro v u a ⟨e,g,_,rfl,rfl,c⟩;replace m:=m.newO a c;apply aJ 3 [] m;simp only[↓U];refine aU O O ?_;try simp only[zD,zE]
  exact⟨_,O,m.ext,by rw[vT,Z9 d];exact⟨_,_,_,O,O,(m.o 0 O)⟩⟩
 apply aG 4 [0] m;simp only[↓U];refine C (iO O O (by omega) (acS (Iw.h (n:=kind))).1) ?_;apply aJ 1 [0] m;simp only[↓U];refine aX O O (aqg (n0:=kind.tdiv 3) _ (f.ext m.ext)) ?_;rintro v u a ⟨e,g,_,rfl,rfl,c⟩;replace m:=m.newO a c;apply aJ 3 [] m;simp only[↓U];refine aU O O ?_;try simp only[zD,zE]
 exact⟨_,O,m.ext,by rw[vT,K0 d];exact⟨_,_,_,O,O,(m.o 0 O)⟩⟩
def aud{i:Nat}{L:Int}(h:((decide ((i:Int)<(N:Int))&&decide ((i:Int)<12))&&decide (0<L))=Z):i<N/\i<12/\0<L:=by
 simp only[bt,Y2] at h;omega
def aw3{x y z:Bool}(h:((x&&y) && !z)=Z):x=Z/\y=Z/\z=X9:=by revert h;cases x<;>cases y<;>cases z<;>decide
def ajn{ts:List T3}{qs:List Q4}{NQ a0:Nat}{A AQ:Option Addr}(w:an)(T:cN w A N ts)(hN:N<=100000)(hQ:pH q4C 4 w AQ NQ qs)(s:∀q∈qs,IQ q):dF G1 88 [.slice A N cap,.slice AQ NQ a0] w (λv w'=>∃us ms r H D J i,v=.tuple #[.slice r us.length H,.slice D ms.length J]/\Mem w w' [oI 55 6 D ms.length J (ms.flatMap bG),oI 39 9 r us.length H (us.flatMap aM)]/\i<=12/\Nz (Y ts) ts i us ms):=by
 refine⟨bK func88 (by kernel_rfl),?_⟩;have m:=Mem.refl w;obtain rfl:ts.length=N:=T.len;have a7:(Y ts).length<=1000000:=by have h1:=uQ (all:=aR ts) (aR ts) [];have h2:=kF ts;simp only[cd] at h1;unfold Y;omega
 go_enter func88,ntmps88
 apply fD 8 [0] m;simp only[↓U];refine aX O O (Lr _ (T.ext m.ext) (by omega)) ?_;rintro v u f ⟨A6,c6,n6,aQ,rfl,g⟩;replace m:=m.newO f g;subst aQ;apply aJ 4 [0] m;simp only[↓U];refine Kl fP (c:=9) (by kernel_rfl)  ?_;intro u g1 f g B;replace m:=m.newB f g B;simp only[I];replace m:=m.own 0 O (n:=0) (c:=9) O (X O);simp only[zG] at m;apply aJ 1 [0] m;simp only[↓U];refine bW m 0 O O fP kL O (by decide) O O (by rw[Kr,T.len]) (cN.cells (T.ext m.ext)) (rS _) (by omega) (by omega) ?_;intro r aw u m;simp only[zF,zG] at m;rw[cl,aj] at m;rw[aj];apply aJ 4 [0] m;simp only[↓U];refine C aK ?_;replace m:=m.nilO 55 6;apply aJ 7 [0] m;simp only[↓U];refine bU [7,8,9] [10,11,12,13,14,15,16,17,18,19,20,21,27,28,29,30,31,32,33,34,35,36,37,38,39,40,41,42,43,44,45,46,47,48,49,50,51,52,53,54,55,56,57,58,59,60,61,62,63,64,65,66,67,68,69,70,71,72,73,74,75,76,77,78,79,80,81,82,83,84,85,86,87,88,89,90,91,92,93,94,95,96,97,98,99,100,101,102,103,104,105,106,107,108,109,110,111,112,113,114,115,116,117,118,119,120,121,122,123,124,125,126,127,128,129,130,131,132,133,134,135,136,137,138,139,140,141,142,143,144,145,146,147,148,149,150,151,152,153,154,155,156,157,158,159,160,161,162,163,164,165,166,167,168,169,170,171,172,173,174,175,176,177,178,179,180,181,182,183,184,185,186,187,188,189,190,191,192,193,194,195,196,197,198,199,200] (λn vs wl=>∃(us:List T3)(ms:List Mv)(r:Option Addr)(H:Nat)(D:Option Addr)(J i:Nat),vs=[.slice r us.length H,.slice D ms.length J,G (i:Int)]/\Mem w wl [oI 55 6 D ms.length J (ms.flatMap bG),oI 39 9 r us.length H (us.flatMap aM),oI 56 6 A6 (Y ts).length c6 ((Y ts).flatMap bG)]/\(Nz (Y ts) ts i us ms)/\(i<=12)/\(n=12-i)) ?_ ?_
 .exact⟨_,_,[],_,_,_,_,0,O,m,Nz.nil,bu _,O⟩
 intro n vs wr s u K1 af;obtain⟨us,ms,r,H,D,J,i,rfl,m,W,hi,hn⟩:=s;simp only[zu,zF,zG];apply aG 9 [0,3,0] m;simp only[↓U,avR];refine λ_=>?_;apply S 3 [4,0,0] m;simp only[↓U,jL];refine λ_=>?_;refine cQ O ?_ ?_<;>intro ay
 .obtain⟨ba,bb,bc⟩:=aud ay;obtain⟨q,hq,a1,rfl,K⟩:=hQ.get (i:=i) (by omega);obtain⟨aU,av,aV,aY⟩:=s q (bn hq);haveI:Iw q.a:=⟨aU⟩
  haveI:Iw q.b:=⟨av⟩
  haveI:Iw q.c:=⟨aV⟩
  haveI:Iw q.d:=⟨aY⟩
  haveI:Iw (q.b.tdiv 40):=⟨(alP av).2⟩
  have bf:=W.len;have ax:0<us.length:=by omega
  obtain⟨gO,rfl⟩:=(m.o 1 rfl).some ax;obtain⟨k,hk,aO⟩:=agL (q:=q.a) ax;obtain⟨c,hc,ar⟩:∃c:Nat,q.d%3=(c:Int)/\c<3:=agL (N:=3) (by decide);obtain⟨t,P⟩:=ar3 aO;have a5:=uA (n:=q.b) (m:=40) (by decide);have a6:=uA (n:=q.c) (m:=300) (by decide);apply aG 7 [0] m;simp only[↓U];refine C (aP Wk wJ O O (by omega) (by omega) (qY (ai _))) ?_;apply aJ 4 [0,2,0] m;simp only[↓U,afH,jL,ag,ah,aa];refine⟨_,λu m=>(lies1 ((K.ext m.ext) 0 _ O) bJ),by omega,?_⟩;refine tK m O O (yH (n:=q.a) (k:=(us.length:Int)) (by omega) (by omega)) 2 [] ?_;simp only[↓U];intro u m;rw[hk];apply Lc 7 [0,1] m;simp only[↓U,eO,mH,ai,aj];refine⟨_,λu m=>(lA (((m.o 1 O).tri P).lies dG bA)),λg2=>⟨by omega,?_⟩⟩;intro u m;apply Lc 3 [0,0] m;simp only[↓U,fJ,aa];intro u m;refine iF 26 [0,1,2,3,4,5,6,7,8,9,10,11,12,13,14,15,16,17,18,19,20,21,22,23,24] [⟨25,12,30,[G 0,G 0,G 0]⟩] aD (by kernel_rfl) (al1 ⟨_,_,_,O,by kernel_rfl,_,eH,O⟩) (ol:=?_) ?L ?_
  case L=>simp only[zw,zQ,zR];try rfl
  intro u f;replace m:=m.ext' f;refine fT aI ?_;simp only[I];refine fT (qW O O (cF (by omega) (by omega))) ?_;simp only[I];refine fT (fZ O O (cF (by omega) (by omega))) (fT aI (fT aI ?_));simp only[I];refine fT (aP Wk wJ O O (by omega) (by omega) (qY (ai _))) (fT (aW underlying191 bL O O (by decide) (by decide) O) ?_);simp only[I];refine iM O (λu e=>(lies1 ((K.ext (m.ext' e).ext) 1 _ O) bJ)) ?_;simp only[I];refine iT O O (yH (n:=q.b) (k:=40) (by decide) (by decide)) ?_;simp only[I];refine fT (fZ O O (cF (by omega) (by omega))) (fT aI (fT aI ?_));simp only[I];refine fT (aP Wk wJ O O (by omega) (by omega) (qY (ai _))) (fT (aW underlying191 bL O O (by decide) (by decide) O) ?_);simp only[I];refine iM O (λu e=>(lies1 ((K.ext (m.ext' e).ext) 1 _ O) bJ)) ?_;simp only[I];refine fT (iO O O (by omega) (alP (Iw.h (n:=q.b))).1) ?_;simp only[I];refine iT O O (yH (n:=q.b.tdiv 40) (k:=200) (by decide) (by decide)) (fT aI (fT aI ?_));simp only[I];refine fT (aP Wk wJ O O (by omega) (by omega) (qY (ai _))) (fT (aW underlying191 bL O O (by decide) (by decide) O) ?_);simp only[I];refine iM O (λu e=>(lies1 ((K.ext (m.ext' e).ext) 2 _ O) bJ)) ?_;simp only[I];refine iT O O (yH (n:=q.c) (k:=300) (by decide) (by decide)) ?_;simp only[I];refine fT (zW O O (cF (by omega) (by omega))) (fT (Nl O O O) (Pp ?_));simp only[I];refine mf1 m ?_;intro g3 u m;simp only[zJ,zK,zF,zG];refine cB m 0 O O O aA (X O) O ?_;intro u m;simp only[zy,zx,bR,zF,zG,aa] at m;refine E ?_;obtain⟨p,M⟩:∃p,p=asS i q:=⟨_,rfl⟩
  rw[show 100+50*(i:Int)+q.b%40=p.x by rw[M];rfl,show q.b.tdiv 40%200=p.y by rw[M];rfl,show q.c%300-50=p.z by rw[M];rfl] at m;have au:aai i p:=by rw[M];exact apu i q
  clear M;apply S 4 [0] m;simp only[↓U];refine C (aP Wk wJ O O (by omega) (by omega) (qY (ai _))) ?_;apply aJ 2 [0,2,0] m;simp only[↓U,afH,ag,ah,aa];refine⟨_,λu m=>(lies1 ((K.ext m.ext) 3 _ O) bJ),by omega,?_⟩;refine tK m O O (yH (n:=q.d) (k:=3) (by decide) (by decide)) 2 [] ?_;simp only[↓U];intro u m;rw[hc];apply Lc 6 [0,0] m;simp only[↓U,l,cY,ai,aj];refine⟨_,λu m=>(lA ((jS.cor (c:=c) (show jS _ _ (aM t) from ((m.b 1 O)).row 0) (by omega)).lies aF aA)),λg4=>⟨by omega,?_⟩⟩;intro u m;apply Lc 6 [0,0] m;simp only[↓U,aN,aa];apply I0;omega;intro u m;refine C (cW O O (by omega) (Zj (k:=c+1))) ?_;apply iV 4 [0,0,0] m;simp only[↓U,l,cY,aN,ai,aj,aa];refine⟨_,λu m=>(lA ((jS.cor (c:=(c+1)%3) (show jS _ _ (aM t) from ((m.b 2 O)).row 0) (by omega)).lies aF aA)),λg5=>⟨by omega,?_⟩⟩;intro u m;apply S 5 [0] m;simp only[↓U];apply I0;omega;refine C (cW O O (by omega) (Zj (k:=c+2))) ?_;apply iV 4 [0,0,0] m;simp only[↓U,l,cY,aN,ai,aj,aa];refine⟨_,λu m=>(lA ((jS.cor (c:=(c+2)%3) (show jS _ _ (aM t) from ((m.b 3 O)).row 0) (by omega)).lies aF aA)),λg6=>⟨by omega,?_⟩⟩;intro u m;apply S 6 [2,3,0] m;simp only[↓U,aN];refine cC m O O (amE (p:=(t.cor ((c+1)%3))) (q:=(t.cor c)) _ ((m.o 6 O).lat ar4 (by decide)) (by omega)) ?_;rintro v u m rfl;apply aJ 6 [3,0] m;simp only[↓U,aN];refine cC m O O (Ci (p:=(t.cor c)) _ ((m.o 7 O).lat yM (by decide)) (by omega)) ?_;rintro v u m rfl;apply aJ 1 [0] m;simp only[↓U];refine fS O (λV=>aI) ?_;simp only[I];refine eN O (λV=>bE O ((m.b 1 O).full aF aA)) (yF m O O (λV=>by simp only[dx,bm,df,zA,zB,zC,zD,zE,V,jK];rfl) (λV=>Ci (p:=(t.cor ((c+1)%3))) _ ((m.o 7 rfl).lat yM (by decide)) (by omega)) ?_);intro u m;refine C (dR O O O) ?_;apply aJ 7 [0] m;simp only[↓U];refine C (aP Wk wJ O O (by omega) (by omega) (qY (ai _))) ?_;apply aJ 2 [0,2,0] m;simp only[↓U,afH,ag,ah,aa];refine⟨_,λu m=>(lies1 ((K.ext m.ext) 3 _ O) bJ),by omega,?_⟩;refine C (cW O O (by omega) O) ?_;apply aJ 5 [0,3,0,3] m;simp only[↓U];refine λ_=>λ_=>?_;apply S 1 [0] m;simp only[↓U];refine cQ O ?_ ?_<;>intro aq
  .obtain⟨a3,ae,a4⟩:=aw3 aq;obtain⟨ab,a8⟩|⟨j,o,x,ab,ad,aE,a9⟩:=aav us (t.cor ((c+1)%3)) (t.cor c)
   .rw[ab] at ae;simp at ae
   rw[ab];have bd:=(az.1 ad).1;have aS:¬(uW (Y ts) (t.cor c)=Z/\uW (Y ts) (t.cor ((c+1)%3))=Z):=λh=>by have h3:=aq;rw[h.1,h.2] at h3;simp at h3
   apply sO 7 [0,1] m;simp only[↓U,eO,mH,ai,aj];refine⟨_,λu m=>(lA (((m.o 6 O).tri ad).lies dG bA)),λg7=>⟨by omega,?_⟩⟩;intro u m;apply Lc 4 [0] m;simp only[↓U,fJ,aa];intro u m;apply Lc 4 [1,0] m;simp only[↓U,l,aN,cY,ag,ah,aa];intro Q;apply I0;omega;intro u m;apply S 15 [4,1] m;simp only[↓U];apply I0;omega;apply S 5 [0] m;simp only[↓U];refine mq m aD (by kernel_rfl) (fE 7 [2,5,6,2,4] ?_);simp only[↓U,l,aN,ag,ah,aa];refine⟨_,lO,_,lO,λ_=>⟨by omega,?_⟩⟩;refine bM ?_;intro u m;refine gc (kS m 0 [] [147,148,149] (λvs i=>vs=[]/\i=bI Q [G (lH (o.cor 0) (o.cor 0) (t.cor c) (t.cor ((c+1)%3))).x,G (lH (o.cor 0) (o.cor 0) (t.cor c) (t.cor ((c+1)%3))).y,G (lH (o.cor 0) (o.cor 0) (t.cor c) (t.cor ((c+1)%3))).z] 30) ?_ ?_)
   .intro K2 ak;refine cQ O ?_ ?_<;>intro F
    .apply sO 6 [2,0] m;simp only[↓U,l,aN,ag,ah,aa];apply I0;omega;intro u m;refine gk ?_;exact ak _ _ _ (by kernel_rfl) m ⟨O,by rw[alQ (e:=(o.cor 0)) (x:=o.cor 0) F]<;>rfl⟩
    apply aG 1 [0] m;simp only[↓U];exact ak _ _ _ (by kernel_rfl) m ⟨O,by rw[alR (e:=(o.cor 0)) (x:=o.cor 0) F]<;>rfl⟩
   intro vs i wr m s u;obtain⟨rfl,rfl⟩:=s;simp only[zF,zG] at m;simp only[zu,zF,zG];apply S 15 [1] m;simp only[↓U,R];apply I0;omega;apply S 3 [0] m;simp only[↓U];refine mq m aD (by kernel_rfl) (fE 7 [2,5,6,2,4] ?_);simp only[↓U,l,aN,ag,ah,aa];refine⟨_,lO,_,lO,λ_=>⟨by omega,?_⟩⟩;refine bM ?_;intro u m;refine gc (kS m 0 [] [147,148,149] (λvs i=>vs=[]/\i=bI Q [G (lH (lH (o.cor 0) (o.cor 0) (t.cor c) (t.cor ((c+1)%3))) (o.cor 1) (t.cor c) (t.cor ((c+1)%3))).x,G (lH (lH (o.cor 0) (o.cor 0) (t.cor c) (t.cor ((c+1)%3))) (o.cor 1) (t.cor c) (t.cor ((c+1)%3))).y,G (lH (lH (o.cor 0) (o.cor 0) (t.cor c) (t.cor ((c+1)%3))) (o.cor 1) (t.cor c) (t.cor ((c+1)%3))).z] 30) ?_ ?_)
   .intro K3 al;refine cQ O ?_ ?_<;>intro F
    .apply sO 6 [2,0] m;simp only[↓U,l,aN,ag,ah,aa];apply I0;omega;intro u m;refine gk ?_;exact al _ _ _ (by kernel_rfl) m ⟨O,by rw[alQ (e:=(lH (o.cor 0) (o.cor 0) (t.cor c) (t.cor ((c+1)%3)))) (x:=o.cor 1) F]<;>rfl⟩
    apply aG 1 [0] m;simp only[↓U];exact al _ _ _ (by kernel_rfl) m ⟨O,by rw[alR (e:=(lH (o.cor 0) (o.cor 0) (t.cor c) (t.cor ((c+1)%3)))) (x:=o.cor 1) F]<;>rfl⟩
   intro vs i wr m s u;obtain⟨rfl,rfl⟩:=s;simp only[zF,zG] at m;simp only[zu,zF,zG];apply S 15 [1] m;simp only[↓U,R];apply I0;omega;apply S 3 [0] m;simp only[↓U];refine mq m aD (by kernel_rfl) (fE 7 [2,5,6,2,4] ?_);simp only[↓U,l,aN,ag,ah,aa];refine⟨_,lO,_,lO,λ_=>⟨by omega,?_⟩⟩;refine bM ?_;intro u m;refine gc (kS m 0 [] [147,148,149] (λvs i=>vs=[]/\i=bI Q [G (lH (lH (lH (o.cor 0) (o.cor 0) (t.cor c) (t.cor ((c+1)%3))) (o.cor 1) (t.cor c) (t.cor ((c+1)%3))) (o.cor 2) (t.cor c) (t.cor ((c+1)%3))).x,G (lH (lH (lH (o.cor 0) (o.cor 0) (t.cor c) (t.cor ((c+1)%3))) (o.cor 1) (t.cor c) (t.cor ((c+1)%3))) (o.cor 2) (t.cor c) (t.cor ((c+1)%3))).y,G (lH (lH (lH (o.cor 0) (o.cor 0) (t.cor c) (t.cor ((c+1)%3))) (o.cor 1) (t.cor c) (t.cor ((c+1)%3))) (o.cor 2) (t.cor c) (t.cor ((c+1)%3))).z] 30) ?_ ?_)
   .intro K4 am;refine cQ O ?_ ?_<;>intro F
    .apply sO 6 [2,0] m;simp only[↓U,l,aN,ag,ah,aa];apply I0;omega;intro u m;refine gk ?_;exact am _ _ _ (by kernel_rfl) m ⟨O,by rw[alQ (e:=(lH (lH (o.cor 0) (o.cor 0) (t.cor c) (t.cor ((c+1)%3))) (o.cor 1) (t.cor c) (t.cor ((c+1)%3)))) (x:=o.cor 2) F]<;>rfl⟩
    apply aG 1 [0] m;simp only[↓U];exact am _ _ _ (by kernel_rfl) m ⟨O,by rw[alR (e:=(lH (lH (o.cor 0) (o.cor 0) (t.cor c) (t.cor ((c+1)%3))) (o.cor 1) (t.cor c) (t.cor ((c+1)%3)))) (x:=o.cor 2) F]<;>rfl⟩
   intro vs i wr m s u;obtain⟨rfl,rfl⟩:=s;simp only[zF,zG] at m;simp only[zu,zF,zG];apply S 15 [2] m;simp only[↓U,R];apply I0;omega;apply S 8 [5,6,3] m;simp only[↓U,aN,nU,aa];apply S 1 [0] m;simp only[↓U,eO,ai,aj];apply I0;omega;refine aa5 m 8 O O O bA (by simp only[be,cd,aj,aa,ag,ah];omega) rfl ?_;intro u m;simp only[zF,zG] at m;try simp only[aj] at m
   rw[show bR (us.flatMap aM) (k*9) [G (t.cor c).x,G (t.cor c).y,G (t.cor c).z,G p.x,G p.y,G p.z,G (t.cor ((c+2)%3)).x,G (t.cor ((c+2)%3)).y,G (t.cor ((c+2)%3)).z]=(us.set k (⟨(t.cor c),p,(t.cor ((c+2)%3))⟩:T3)).flatMap aM from Tf (u:=(⟨(t.cor c),p,(t.cor ((c+2)%3))⟩:T3)) P] at m;apply aJ 9 [4,6,1] m;simp only[↓U,aN,nU,aa];apply S 1 [0] m;simp only[↓U,eO,ai,aj];apply I0;omega;refine aa5 m 8 O O O bA (by simp only[be,cd,aj,aa,ag,ah];omega) rfl ?_;intro u m;simp only[zF,zG] at m;try simp only[aj] at m
   rw[show bR ((us.set k (⟨(t.cor c),p,(t.cor ((c+2)%3))⟩:T3)).flatMap aM) (j*9) [G (t.cor ((c+1)%3)).x,G (t.cor ((c+1)%3)).y,G (t.cor ((c+1)%3)).z,G p.x,G p.y,G p.z,G (lH (lH (lH (o.cor 0) (o.cor 0) (t.cor c) (t.cor ((c+1)%3))) (o.cor 1) (t.cor c) (t.cor ((c+1)%3))) (o.cor 2) (t.cor c) (t.cor ((c+1)%3))).x,G (lH (lH (lH (o.cor 0) (o.cor 0) (t.cor c) (t.cor ((c+1)%3))) (o.cor 1) (t.cor c) (t.cor ((c+1)%3))) (o.cor 2) (t.cor c) (t.cor ((c+1)%3))).y,G (lH (lH (lH (o.cor 0) (o.cor 0) (t.cor c) (t.cor ((c+1)%3))) (o.cor 1) (t.cor c) (t.cor ((c+1)%3))) (o.cor 2) (t.cor c) (t.cor ((c+1)%3))).z]=((us.set k (⟨(t.cor c),p,(t.cor ((c+2)%3))⟩:T3)).set j (⟨(t.cor ((c+1)%3)),p,(Jg o (t.cor c) (t.cor ((c+1)%3)))⟩:T3)).flatMap aM from Tf (u:=(⟨(t.cor ((c+1)%3)),p,(Jg o (t.cor c) (t.cor ((c+1)%3)))⟩:T3)) (ap (by simp only[la];omega))] at m;apply aJ 7 [6,4,3] m;simp only[↓U,aN,nU,aa];apply S 4 [6,5,1] m;simp only[↓U,aN,nU,aa];refine go (Ag O O ?_);intro u g9 f g B;replace m:=m.newB f g B;simp only[I];refine bW m 9 O O fP kL O (by decide) O O O (m.b 0 O).rowsO (jB O) (by omega) (by omega) ?_;intro r aw u m;simp only[zF,zG] at m;rw[show (((us.set k (⟨(t.cor c),p,(t.cor ((c+2)%3))⟩:T3)).set j (⟨(t.cor ((c+1)%3)),p,(Jg o (t.cor c) (t.cor ((c+1)%3)))⟩:T3)).flatMap aM)++_=(((us.set k (⟨(t.cor c),p,(t.cor ((c+2)%3))⟩:T3)).set j (⟨(t.cor ((c+1)%3)),p,(Jg o (t.cor c) (t.cor ((c+1)%3)))⟩:T3))++[(⟨p,(t.cor ((c+1)%3)),(t.cor ((c+2)%3))⟩:T3),(⟨p,(t.cor c),(Jg o (t.cor c) (t.cor ((c+1)%3)))⟩:T3)]).flatMap aM by rw[bi];rfl] at m;rw[show us.length+2=(((us.set k (⟨(t.cor c),p,(t.cor ((c+2)%3))⟩:T3)).set j (⟨(t.cor ((c+1)%3)),p,(Jg o (t.cor c) (t.cor ((c+1)%3)))⟩:T3))++[(⟨p,(t.cor ((c+1)%3)),(t.cor ((c+2)%3))⟩:T3),(⟨p,(t.cor c),(Jg o (t.cor c) (t.cor ((c+1)%3)))⟩:T3)]).length by simp only[bg,la,be,cd]] at m;rw[show us.length+2=(((us.set k (⟨(t.cor c),p,(t.cor ((c+2)%3))⟩:T3)).set j (⟨(t.cor ((c+1)%3)),p,(Jg o (t.cor c) (t.cor ((c+1)%3)))⟩:T3))++[(⟨p,(t.cor ((c+1)%3)),(t.cor ((c+2)%3))⟩:T3),(⟨p,(t.cor c),(Jg o (t.cor c) (t.cor ((c+1)%3)))⟩:T3)]).length by simp only[bg,la,be,cd]];apply aJ 2 [0] m;simp only[↓U];refine mh m [Z,Z,Z,Z,Z,Z,Z,Z,X9,Z,Z] [(0,Z),(2,Z),(1,Z),(3,Z),(4,X9),(5,Z),(6,X9),(7,X9),(8,Z)] aD (by kernel_rfl) (bT (λ_ _ _ _ _ h=>h)) (ol:=?_) ?L ?_
   case L=>simp only[zw,zQ,zR];try rfl
   intro u m;refine Dk 4 [7,6] ?_;simp only[↓U,aN];refine bQ (cC m O O (Fo (p:=(t.cor c)) _ ((m.o 8 O).lat yM (by decide)) (by omega)) ?_);rintro v u m rfl;refine E ⟨m.sel [Z,Z,Z,Z,Z,Z,Z,Z,X9,Z,Z],?_⟩;refine bY (rV O O) (bQ ?_);simp only[I];refine tA O ?_;intro u a2 f g B;replace m:=m.newB f g B;refine E ⟨m.sel [X9,Z,Z,Z,Z,Z,Z,Z,Z,X9,Z,Z],?_⟩;refine bQ ?_;simp only[I];refine bW m 9 O O Hx abc O (by decide) O O O (m.b 0 O).rowsO (jB O) (by omega) (by omega) ?_;intro D aZ u m;simp only[zF,zG] at m;rw[show ms.flatMap bG++_=(ms++[(p,mY ms (t.cor c))]).flatMap bG by rw[bi];rfl] at m;rw[show ms.length+1=(ms++[(p,mY ms (t.cor c))]).length by simp] at m;rw[show ms.length+1=(ms++[(p,mY ms (t.cor c))]).length by simp];refine E ⟨m.sel [X9,Z,Z,Z,Z,Z,Z,Z,Z,X9,Z,Z],?_⟩;refine bY aK (bO ?_);apply S 6 [0] m;simp only[↓U];apply I0;omega;exact af (12-(i+1)) _ _ (by omega) (by kernel_rfl) ⟨(((us.set k (⟨(t.cor c),p,(t.cor ((c+2)%3))⟩:T3)).set j (⟨(t.cor ((c+1)%3)),p,(Jg o (t.cor c) (t.cor ((c+1)%3)))⟩:T3))++[(⟨p,(t.cor ((c+1)%3)),(t.cor ((c+2)%3))⟩:T3),(⟨p,(t.cor c),(Jg o (t.cor c) (t.cor ((c+1)%3)))⟩:T3)]),(ms++[(p,mY ms (t.cor c))]),_,_,_,_,i+1,O,(m.sel [X9,X9,X9,X9,X9,X9,X9,X9,X9,Z,Z,Z]),.step W (.edge k j t o x c _ P ar ad aE aS au),by omega,O⟩
  apply aG 8 [3,2,4] m;simp only[↓U,aN,nU,aa];apply S 1 [0] m;simp only[↓U,eO,ai,aj];apply I0;omega;refine aa5 m 6 O O O bA (by simp only[be,cd,aj,aa,ag,ah];omega) rfl ?_;intro u m;simp only[zF,zG] at m;try simp only[aj] at m
  rw[show bR (us.flatMap aM) (k*9) [G (t.cor c).x,G (t.cor c).y,G (t.cor c).z,G (t.cor ((c+1)%3)).x,G (t.cor ((c+1)%3)).y,G (t.cor ((c+1)%3)).z,G p.x,G p.y,G p.z]=(us.set k (⟨(t.cor c),(t.cor ((c+1)%3)),p⟩:T3)).flatMap aM from Tf (u:=(⟨(t.cor c),(t.cor ((c+1)%3)),p⟩:T3)) P] at m;apply aJ 7 [2,1,4] m;simp only[↓U,aN,nU,aa];apply S 4 [1,3,4] m;simp only[↓U,aN,nU,aa];refine go (Ag O O ?_);intro u g7 f g B;replace m:=m.newB f g B;simp only[I];refine bW m 7 O O fP kL O (by decide) O O O (m.b 0 O).rowsO (jB O) (by omega) (by omega) ?_;intro r aw u m;simp only[zF,zG] at m;rw[show ((us.set k (⟨(t.cor c),(t.cor ((c+1)%3)),p⟩:T3)).flatMap aM)++_=((us.set k (⟨(t.cor c),(t.cor ((c+1)%3)),p⟩:T3))++[(⟨(t.cor ((c+1)%3)),(t.cor ((c+2)%3)),p⟩:T3),(⟨(t.cor ((c+2)%3)),(t.cor c),p⟩:T3)]).flatMap aM by rw[bi];rfl] at m;rw[show us.length+2=((us.set k (⟨(t.cor c),(t.cor ((c+1)%3)),p⟩:T3))++[(⟨(t.cor ((c+1)%3)),(t.cor ((c+2)%3)),p⟩:T3),(⟨(t.cor ((c+2)%3)),(t.cor c),p⟩:T3)]).length by simp only[bg,la,be,cd]] at m;rw[show us.length+2=((us.set k (⟨(t.cor c),(t.cor ((c+1)%3)),p⟩:T3))++[(⟨(t.cor ((c+1)%3)),(t.cor ((c+2)%3)),p⟩:T3),(⟨(t.cor ((c+2)%3)),(t.cor c),p⟩:T3)]).length by simp only[bg,la,be,cd]];apply aJ 2 [0] m;simp only[↓U];refine mh m [Z,Z,Z,Z,Z,Z,X9,Z,Z] [(0,Z),(2,Z),(1,Z),(3,Z),(4,X9),(5,Z),(6,X9),(7,X9),(8,Z)] aD (by kernel_rfl) (bT (λ_ _ _ _ _ h=>h)) (ol:=?_) ?L ?_
  case L=>simp only[zw,zQ,zR];try rfl
  intro u m;refine Dk 4 [5,4] ?_;simp only[↓U,aN];refine bQ (cC m O O (Fo (p:=(t.cor c)) _ ((m.o 6 O).lat yM (by decide)) (by omega)) ?_);rintro v u m rfl;refine E ⟨m.sel [Z,Z,Z,Z,Z,Z,X9,Z,Z],?_⟩;refine bY (rV O O) (bQ ?_);simp only[I];refine tA O ?_;intro u Q f g B;replace m:=m.newB f g B;refine E ⟨m.sel [X9,Z,Z,Z,Z,Z,Z,X9,Z,Z],?_⟩;refine bQ ?_;simp only[I];refine bW m 7 O O Hx abc O (by decide) O O O (m.b 0 O).rowsO (jB O) (by omega) (by omega) ?_;intro D aZ u m;simp only[zF,zG] at m;rw[show ms.flatMap bG++_=(ms++[(p,mY ms (t.cor c))]).flatMap bG by rw[bi];rfl] at m;rw[show ms.length+1=(ms++[(p,mY ms (t.cor c))]).length by simp] at m;rw[show ms.length+1=(ms++[(p,mY ms (t.cor c))]).length by simp];refine E ⟨m.sel [X9,Z,Z,Z,Z,Z,Z,X9,Z,Z],?_⟩;refine bY aK (bO ?_);apply S 6 [0] m;simp only[↓U];apply I0;omega;exact af (12-(i+1)) _ _ (by omega) (by kernel_rfl) ⟨((us.set k (⟨(t.cor c),(t.cor ((c+1)%3)),p⟩:T3))++[(⟨(t.cor ((c+1)%3)),(t.cor ((c+2)%3)),p⟩:T3),(⟨(t.cor ((c+2)%3)),(t.cor c),p⟩:T3)]),(ms++[(p,mY ms (t.cor c))]),_,_,_,_,i+1,O,(m.sel [X9,X9,X9,X9,X9,X9,X9,Z,Z,Z]),.step W (.tri k t c _ P ar au),by omega,O⟩
 apply aG 9 [] m;simp only[↓U];exact jG O O O ⟨_,O,m.ext,us,ms,_,_,_,_,i,O,m.sel [Z,Z,X9],hi,W⟩
end
end Go.Proofs.YtfekpcimgncioaaGreatDoor
namespace Go.Lith
open Go.RowKit
def Wl(e:P3):List T3:=[⟨⟨0,0,0⟩,⟨0,30,0⟩,e⟩,⟨⟨0,30,0⟩,⟨30,0,0⟩,e⟩,⟨⟨30,0,0⟩,⟨0,0,0⟩,e⟩,⟨⟨0,0,0⟩,⟨30,0,0⟩,⟨0,0,30⟩⟩,⟨⟨30,0,0⟩,⟨0,30,0⟩,⟨0,0,30⟩⟩,⟨⟨0,30,0⟩,⟨0,0,0⟩,⟨0,0,30⟩⟩]
def Wm:List T3:=[⟨⟨0,0,0⟩,⟨0,30,0⟩,⟨30,0,0⟩⟩,⟨⟨0,0,0⟩,⟨30,0,0⟩,⟨0,0,30⟩⟩,⟨⟨30,0,0⟩,⟨0,30,0⟩,⟨0,0,30⟩⟩,⟨⟨0,30,0⟩,⟨0,0,0⟩,⟨0,0,30⟩⟩]
def awn:gR (Wl ⟨3,4,1⟩) Wm [(⟨3,4,1⟩,⟨0,0,0⟩)]=(6,0):=by decide +kernel
def awo:gR (Wl ⟨3,4,1⟩) Wm [(⟨3,4,1⟩,⟨0,0,30⟩)]=(0,32):=by decide +kernel
def awp:gR (Wl ⟨3,4,1⟩) Wm []=(0,32):=by decide +kernel
def awq:gR (Wl ⟨3,4,1⟩) Wm [(⟨0,0,30⟩,⟨0,0,0⟩)]=(0,32):=by decide +kernel
theorem ahC:I3 ⟨0,0,0⟩:=⟨by decide,by decide,by decide⟩
theorem ahD:I3 ⟨0,0,30⟩:=⟨by decide,by decide,by decide⟩
theorem ajo:I3 ⟨3,4,1⟩:=⟨by decide,by decide,by decide⟩
theorem Rx(e:P3)[h:I3 e]:∀t∈Wl e,IT t:=λt f=>by
 have a:I3 ⟨0,0,0⟩:=ahC;have b:I3 ⟨30,0,0⟩:=⟨by decide,by decide,by decide⟩
 have c:I3 ⟨0,30,0⟩:=⟨by decide,by decide,by decide⟩
 have d:I3 ⟨0,0,30⟩:=ahD;simp only[Wl,av,bw,Y3] at f;rcases f with rfl|rfl|rfl|rfl|rfl|rfl
 .exact⟨a,c,h⟩
 .exact⟨c,b,h⟩
 .exact⟨b,a,h⟩
 .exact⟨a,b,d⟩
 .exact⟨b,c,d⟩
 exact⟨c,a,d⟩
theorem Ry:∀t∈Wm,IT t:=λt e=>by
 have a:I3 ⟨0,0,0⟩:=ahC;have b:I3 ⟨30,0,0⟩:=⟨by decide,by decide,by decide⟩
 have c:I3 ⟨0,30,0⟩:=⟨by decide,by decide,by decide⟩
 have d:I3 ⟨0,0,30⟩:=ahD;simp only[Wm,av,bw,Y3] at e;rcases e with rfl|rfl|rfl|rfl
 .exact⟨a,c,b⟩
 .exact⟨a,b,d⟩
 .exact⟨b,c,d⟩
 exact⟨c,a,d⟩
structure Srf(l us:List T3)(ms:List Mv):Prop where
 ll:l.length<=400
 ul:us.length<=424
 ml:ms.length<=12
 lm:∀x∈bP l,Mid x
 um:∀x∈bP us,Mid x
 mm:∀m∈ms,Mid m.1/\Mid m.2
def Nz.srf{rim:List E3}{kind bits:Int}{zs:List Int}{us:List T3}{i:Nat}{ms:List Mv}(h:Nz rim (vT kind bits zs) i us ms)(g:i<=12):Srf (vT kind bits zs) us ms:=by
 obtain⟨h1,h2⟩:=h.len;obtain⟨d,b⟩:=h.pts;have e:=acU (kind:=kind) (bits:=bits) (zs:=zs);have a:=alT (acT (kind:=kind) (bits:=bits) (zs:=zs));exact⟨e,by omega,by omega,a,λx f=>(d x f).mid a (by omega),λm c=>⟨(b m c).1.mid a (by omega),(b m c).2.mid a (by omega)⟩⟩
theorem Ju{ts:List T3}(h:∀x∈bP ts,Mid x):∀t∈ts,IT t:=avD λx a=>(h x a).i3
end Go.Lith
namespace Go.Proofs.YtfekpcimgncioaaGreatDoor
open Go.Proofs.Tryz
open Go.RowKit Go.Lith
set_option maxRecDepth 100000
section
attribute [local irreducible] bf M fY cJ cU Code.wp
attribute [local congr] dK dL cZ dJ
def aqh{e:P3}(w:an):dF G1 86 [pt e] w (λv w'=>∃g c1 h c2,v=.tuple #[.slice g 6 c1,.slice h 4 c2]/\Mem w w' [oI 39 9 g 6 c1 ((Wl e).flatMap aM),oI 39 9 h 4 c2 (Wm.flatMap aM)]):=by
 refine⟨bK func86 (by kernel_rfl),?_⟩;have m:=Mem.refl w
 go_enter func86,ntmps86
 refine aV λr i=>am (Tb m O ?_);intro B u m;refine C aK (C aK (E (i _ _ ?_)));refine aV λs j=>am (C ac0 ?_);simp only[I];refine kR m eH O ?_;intro D u m;simp only[I];refine cB m 0 O O O aA (X O) O ?_;intro u m;simp only[zy,zx,bR,zF,zG,aa] at m;refine E (j _ _ ?_);refine aV λt k=>am (C (abf O) ?_);simp only[I];refine kR m eH O ?_;intro F u m;simp only[I];refine cB m 0 O O O aA (X O) O ?_;intro u m;simp only[zy,zx,bR,zF,zG,aa] at m;refine E (k _ _ ?_);refine aV λx l=>am (C (abg O) ?_);simp only[I];refine kR m eH O ?_;intro G u m;simp only[I];refine cB m 0 O O O aA (X O) O ?_;intro u m;simp only[zy,zx,bR,zF,zG,aa] at m;refine E (l _ _ ?_);refine aV λy o=>am (C (abh O) ?_);simp only[I];refine kR m eH O ?_;intro H u m;simp only[I];refine cB m 0 O O O aA (X O) O ?_;intro u m;simp only[zy,zx,bR,zF,zG,aa] at m;refine E (o _ _ ?_);refine aV λz p=>am (aS O ((m.b 3 O).full aF aA) ?_);simp only[I];refine aS O ((m.b 1 O).full aF aA) ?_;simp only[I];refine aS O ((m.b 2 O).full aF aA) ?_;simp only[I];refine C (eW O O O) ?_;simp only[I];refine aS O ((m.b 3 O).full aF aA) ?_;simp only[I];refine aS O ((m.b 2 O).full aF aA) ?_;simp only[I];refine aS O ((m.b 0 O).full aF aA) ?_;simp only[I];refine C (eW O O O) ?_;simp only[I];refine aS O ((m.b 2 O).full aF aA) ?_;simp only[I];refine aS O ((m.b 1 O).full aF aA) ?_;simp only[I];refine aS O ((m.b 0 O).full aF aA) ?_;simp only[I];refine C (eW O O O) ?_;simp only[I];refine aS O ((m.b 1 O).full aF aA) ?_;simp only[I];refine aS O ((m.b 3 O).full aF aA) ?_;simp only[I];refine aS O ((m.b 0 O).full aF aA) ?_;simp only[I];refine C (eW O O O) ?_;simp only[I];refine Zs O O O O ?_;intro u J a d f;replace m:=m.newB a d f;simp only[I];replace m:=m.own 0 O (n:=4) (c:=9) O (X O);simp only[zG] at m;refine C aK (E (p _ _ ?_));refine aV λA q=>am ?_;simp only[I];refine aS O ((m.b 4 O).full aF aA) ?_;simp only[I];refine aS O ((m.b 2 O).full aF aA) ?_;simp only[I];refine aS O ((m.b 5 O).full aF aA) ?_;simp only[I];refine C (eW O O O) ?_;simp only[I];refine aS O ((m.b 2 O).full aF aA) ?_;simp only[I];refine aS O ((m.b 3 O).full aF aA) ?_;simp only[I];refine aS O ((m.b 5 O).full aF aA) ?_;simp only[I];refine C (eW O O O) ?_;simp only[I];refine aS O ((m.b 3 O).full aF aA) ?_;simp only[I];refine aS O ((m.b 4 O).full aF aA) ?_;simp only[I];refine aS O ((m.b 5 O).full aF aA) ?_;simp only[I];refine C (eW O O O) ?_;simp only[I];refine aS O ((m.b 4 O).full aF aA) ?_;simp only[I];refine aS O ((m.b 3 O).full aF aA) ?_;simp only[I];refine aS O ((m.b 1 O).full aF aA) ?_;simp only[I];refine C (eW O O O) ?_;simp only[I];refine aS O ((m.b 3 O).full aF aA) ?_;simp only[I];refine aS O ((m.b 2 O).full aF aA) ?_;simp only[I];refine aS O ((m.b 1 O).full aF aA) ?_;simp only[I];refine C (eW O O O) ?_;simp only[I];refine aS O ((m.b 2 O).full aF aA) ?_;simp only[I];refine aS O ((m.b 4 O).full aF aA) ?_;simp only[I];refine aS O ((m.b 1 O).full aF aA) ?_;simp only[I];refine C (eW O O O) ?_;simp only[I];refine aiF O O O O O O ?_;intro u K a d f;replace m:=m.newB a d f;simp only[I];replace m:=m.own 0 O (n:=6) (c:=9) O (X O);simp only[zG] at m;refine C aI (C aK (C aK (E (q _ _ ?_))));refine i_ ?_;simp only[I];try simp only[cn,Exit.then,Y4]
 refine jG O O O ?_;try simp only[zD,zE]
 exact⟨_,O,m.ext,_,_,_,_,O,m.sel [Z,Z,X9,X9,X9,X9,X9]⟩
def anl  : eS G1 41 [] (.bool Z):=by
 intro w;refine⟨bK func41 (by kernel_rfl),?_⟩;have m:=Mem.refl w
 go_enter func41,ntmps41
 apply kX 13 [0,1,0] m;simp only[↓U,yD,cY,aN,aa];intro j u m;refine aX O O (aqh (e:=(⟨3,4,1⟩:P3)) _) ?_;rintro v u a ⟨i,c2,g,c1,rfl,f⟩;replace m:=m.plus f;clear f;simp only[de,cl] at m;apply iV 18 [0,4] m;simp only[↓U,yD,cY,aN,amg,aa];intro k u m;refine go (tA O ?_);intro u l a b d;replace m:=m.newB a b d;simp only[I];replace m:=m.own 0 O (n:=1) (c:=6) O (X O);simp only[zG] at m;refine cC m O O (xK (fs:=Wl ⟨3,4,1⟩) (gs:=Wm) (ms:=[((⟨3,4,1⟩:P3),(⟨0,0,0⟩:P3))]) _ ((m.o 2 O).tris (haveI:=ajo;Rx _)) ((m.o 3 rfl).tris Ry) (((m.o 0 rfl)).lat yM (by decide)) (by decide) (by decide) (by decide) (λmv h=>by obtain rfl:=bp.1 h;exact⟨ajo,ahC⟩)) ?_;rintro v u m rfl;simp only[I];rw[awn];dsimp only;apply aJ 13 [5,2,0] m;simp only[↓U,aN,amg,aa];refine tA O ?_;intro u p a b d;replace m:=m.newB a b d;simp only[I];replace m:=m.own 0 O (n:=1) (c:=6) O (X O);simp only[zG] at m;refine cC m O O (xK (fs:=Wl ⟨3,4,1⟩) (gs:=Wm) (ms:=[((⟨3,4,1⟩:P3),(⟨0,0,30⟩:P3))]) _ ((m.o 3 O).tris (haveI:=ajo;Rx _)) ((m.o 4 rfl).tris Ry) (((m.o 0 rfl)).lat yM (by decide)) (by decide) (by decide) (by decide) (λmv h=>by obtain rfl:=bp.1 h;exact⟨ajo,ahD⟩)) ?_;rintro v u m rfl;simp only[I];rw[awo];dsimp only;apply aJ 10 [0] m;simp only[↓U];refine cC m O O (xK (fs:=Wl ⟨3,4,1⟩) (gs:=Wm) (ms:=[]) _ ((m.o 3 O).tris (haveI:=ajo;Rx _)) ((m.o 4 rfl).tris Ry) (pH.nil _ _) (by decide) (by decide) (by decide) (λmv h=>by cases h)) ?_;rintro v u m rfl;simp only[I];rw[awp];dsimp only;apply aJ 12 [3,0] m;simp only[↓U,aN,amg,aa];refine tA O ?_;intro u q a b d;replace m:=m.newB a b d;simp only[I];replace m:=m.own 0 O (n:=1) (c:=6) O (X O);simp only[zG] at m;refine cC m O O (xK (fs:=Wl ⟨3,4,1⟩) (gs:=Wm) (ms:=[((⟨0,0,30⟩:P3),(⟨0,0,0⟩:P3))]) _ ((m.o 4 O).tris (haveI:=ajo;Rx _)) ((m.o 5 rfl).tris Ry) (((m.o 0 rfl)).lat yM (by decide)) (by decide) (by decide) (by decide) (λmv h=>by obtain rfl:=bp.1 h;exact⟨ahD,ahC⟩)) ?_;rintro v u m rfl;simp only[I];rw[awq];dsimp only;apply aJ 29 [1,0,0,1,0,0,1,0,0,1,0,0,1] m;simp only[↓U];exact aU O O ⟨_,O,m.ext,O⟩
def aue{kind bits:Int}[Iw kind][Iw bits]{k t g s:Nat}{h f:Option Addr}{zs:List Int}{r:List Q4}(w:an)(z:vH w h k zs)(y:pH q4C 4 w f g r)(x:∀q∈r,IQ q):dF G1 42 [.agg #[G kind,G bits,.slice h k t,.slice f g s]] w (λv w'=>∃us ms b d c e a l i,v=.tuple #[.slice b us.length d,.slice a (vT kind bits zs).length l,.slice c ms.length e]/\Mem w w' [oI 55 6 c ms.length e (ms.flatMap bG),oI 39 9 b us.length d (us.flatMap aM),oI 39 9 a (vT kind bits zs).length l ((vT kind bits zs).flatMap aM)]/\i<=12/\Nz (Y (vT kind bits zs)) (vT kind bits zs) i us ms):=by
 refine⟨bK func42 (by kernel_rfl),?_⟩;have m:=Mem.refl w;have E:=acU (kind:=kind) (bits:=bits) (zs:=zs)
 go_enter func42,ntmps42
 apply kX 15 [1,1,1,0] m;simp only[↓U,apF,j,apG,apH,avN,aa];intro D u m;refine aX O O (auc (kind:=kind) (bits:=bits) _ (z.ext m.ext)) ?_;rintro v u n ⟨a,F,_,rfl,rfl,A⟩;replace m:=m.newO n A;apply aJ 7 [2,0] m;simp only[↓U,apI,avQ,aa];refine aX O O (ajn _ ((m.o 0 O).tris (Ju (alT acT))) (by omega) (y.ext m.ext) x) ?_;rintro v u n ⟨us,ms,b,d,c,e,i,rfl,p,B,C⟩;replace m:=m.plus p;clear p;simp only[de,cl] at m;apply aJ 16 [] m;simp only[↓U];exact awO O O O O ⟨_,O,m.ext,us,ms,_,_,_,_,_,_,i,O,m.sel [Z,Z,Z,X9],B,C⟩
end
section
attribute [local irreducible] bf M fY cJ cU Code.wp
variable{q:P3}
def anm{x y z:Int}{d:Nat}(w:an)(c:fK w d [G x,G y,G z] 3):amM G1 125 [.slice (H ⟨d,0,G0⟩) 3 3] w (G (if x=0 then if y=0 then z else y else x)):=by
 refine⟨ak2,?_⟩;have m:=iL.refl w
 go_enter func125,ntmps125
 refine aV λQ f=>am (C aK (E (f _ _ ?_)));try clear f Q
 refine aV λR g=>am (C aK (E (g _ _ ?_)));try clear g R
 refine aV λS h=>aV λT i=>am (C aI (C (qG O dS O) ?_));simp only[I];refine C aI (E (i _ _ ?_));try clear i T
 refine jd (wp_loop_rounds 4 (Eb (aV λU j=>am (C (sU (m:=0) (n:=3) O O (by decide)) (E (j _ _ ?_))))));try clear j U
 refine aV λV k=>wU O (ja (k _ _ ?_));try clear k V
 refine aV λW l=>jd (aV λX o=>am ?_);simp only[I];refine C (aP dS bL O O (by decide) (by omega) O) ?_;simp only[I];refine aS O ((c.ext m.ext.ext).lies1 bJ O) ?_;simp only[I];refine C aK (E (o _ _ ?_));try clear o X
 refine aV λY p=>am (C aI (C aI (C (sT O O) ?_)));simp only[I];refine E (p _ _ ?_);try clear p Y
 refine bB O ?_ ?_<;>intro a
 .refine aV λaa q=>am (C aI (C aK (E (q _ _ ?_))));try clear q aa
  refine i_ ?_;simp only[I];try simp only[cn,Exit.then,Y4]
  refine aU O O ?_;try simp only[zD,zE]
  exact⟨_,O,m.ext,by rw[K0 a]⟩
 have b:x=0:=by omega
 refine ja (l _ _ ?_);try clear l W
 refine am (C (fZ (m:=0) (n:=1) (r:=1) O O (by decide)) (C aI (E (mM (aV λab s=>am (C (sU (m:=1) (n:=3) O O (by decide)) (E (s _ _ ?_))))))));try clear s ab
 refine aV λad t=>wU O (ja (t _ _ ?_));try clear t ad
 refine aV λae u=>jd (aV λaf v=>am ?_);simp only[I];refine C (aP dS bL O O (by decide) (by omega) O) ?_;simp only[I];refine aS O ((c.ext m.ext.ext).lies1 bJ O) ?_;simp only[I];refine C aK (E (v _ _ ?_));try clear v af
 refine aV λag A=>am (C aI (C aI (C (sT O O) ?_)));simp only[I];refine E (A _ _ ?_);try clear A ag
 refine bB O ?_ ?_<;>intro a
 .refine aV λah B=>am (C aI (C aK (E (B _ _ ?_))));try clear B ah
  refine i_ ?_;simp only[I];try simp only[cn,Exit.then,Y4]
  refine aU O O ?_;try simp only[zD,zE]
  exact⟨_,O,m.ext,by rw[Z9 b,K0 a]⟩
 have e:y=0:=by omega
 refine ja (u _ _ ?_);try clear u ae
 refine am (C (fZ (m:=1) (n:=1) (r:=2) O O (by decide)) (C aI (E (mM (aV λai D=>am (C (sU (m:=2) (n:=3) O O (by decide)) (E (D _ _ ?_))))))));try clear D ai
 refine aV λaj F=>wU O (ja (F _ _ ?_));try clear F aj
 refine aV λak J=>jd (aV λal K=>am ?_);simp only[I];refine C (aP dS bL O O (by decide) (by omega) O) ?_;simp only[I];refine aS O ((c.ext m.ext.ext).lies1 bJ O) ?_;simp only[I];refine C aK (E (K _ _ ?_));try clear K al
 refine aV λao L=>am (C aI (C aI (C (sT O O) ?_)));simp only[I];refine E (L _ _ ?_);try clear L ao
 refine bB O ?_ ?_<;>intro a
 .refine aV λap M=>am (C aI (C aK (E (M _ _ ?_))));try clear M ap
  refine i_ ?_;simp only[I];try simp only[cn,Exit.then,Y4]
  refine aU O O ?_;try simp only[zD,zE]
  exact⟨_,O,m.ext,by rw[Z9 b,Z9 e]⟩
 have Z:z=0:=by omega
 refine ja (J _ _ ?_);try clear J ak
 refine am (C (fZ (m:=2) (n:=1) (r:=3) O O (by decide)) (C aI (E (mM (aV λaq N=>am (C (Il (m:=3) (n:=3) O O (by decide)) (E (N _ _ ?_))))))));try clear N aq
 refine aV λau av=>Qs O (wp_exit (h _ _ ?_));try clear h S
 refine aV λar P=>am (C aI ?_);simp only[I];refine C aK (E (P _ _ ?_));try clear P ar
 refine i_ ?_;simp only[I];try simp only[cn,Exit.then,Y4]
 refine aU O O ?_;try simp only[zD,zE]
 exact⟨_,O,m.ext,by rw[Z9 b,Z9 e,Z]⟩
def af1(s t:T3):Int:=if sQ s.a t.a=0 then if sQ s.b t.b=0 then sQ s.c t.c else sQ s.b t.b else sQ s.a t.a
def Ma(s t:T3):(af1 s t<0)↔s.Lt t:=by
 unfold af1 T3.Lt;split
 . rename_i h
   have c:=oT.1 h;have n1:¬s.a.Lt t.a:=λk=>P3.lt_irrefl _ (c▸k);split
   . rename_i g
     have d:=oT.1 g;have n2:¬s.b.Lt t.b:=λk=>P3.lt_irrefl _ (d▸k);rw[nD];simp[c,d,P3.lt_irrefl]
   rename_i g
   have d:¬s.b=t.b:=λe=>g (oT.2 e);rw[nD];simp[c,d,P3.lt_irrefl]
 rename_i h
 have c:¬s.a=t.a:=λe=>h (oT.2 e);rw[nD];simp[c]
instance:Inhabited T3:=⟨⟨⟨0,0,0⟩,⟨0,0,0⟩,⟨0,0,0⟩⟩⟩
def ann:Go.Sort.SWO (Go.Proofs.ltOf af1) where
 irrefl a:=by simp only[Go.Proofs.ltOf,Y7,Ma];exact T3.lt_irrefl a
 trans x y z h1 h2:=by
  simp only[Go.Proofs.ltOf,Y2,Ma] at *
  exact T3.lt_trans h1 h2
 ntrans x y z h1 h2:=by
  simp only[Go.Proofs.ltOf,Y7,Ma] at *
  intro h;rcases T3.lt_tri y x with k|k|k
  .exact Y0 (T3.lt_trans k h) (by first|exact h2|exact h1)
  .subst k;first|exact h2 h|exact h1 h
  first|exact h1 k|exact h2 k
def ab9(t:T3):∀v∈aM t,v.oneCell'=Z:=λv h=>by
 simp only[aM,av,bw,Y3] at h;rcases h with rfl|rfl|rfl|rfl|rfl|rfl|rfl|rfl|rfl<;>rfl
def aqi{p q:T3}:vS G1 113 [tr p,tr q] (G (af1 p q)):=by
 intro w;refine⟨bK func113 (by kernel_rfl),?_⟩;have m:=iL.refl w
 go_enter func113,ntmps113
 refine aV λf d=>am (qJ m O ?_);intro h u m;simp only[I];refine qJ m O ?_;intro i u m;refine C aK (E (d _ _ ?_));try clear d f
 refine aV λg e=>?_;simp only[I];refine Tc m 15 aD (by kernel_rfl) ?_;simp only[zy];refine L (aW fN aA O O (by decide) (by decide) O) ?_;simp only[I];refine Xg O (λu m=>((m.b 1 O).lies aF aA O O)) ?_;simp only[I,zy,aj,aa,ah,ag];refine L (aW fN aA O O (by decide) (by decide) O) ?_;simp only[I];refine Xg O (λu m=>((m.b 0 O).lies aF aA O O)) ?_;simp only[I,zy,aj,aa,ah,ag];refine Ks O O (Hf (p:=p.a) (q:=q.a)) (L (aW fN aA O O (by decide) (by decide) O) ?_);simp only[I];refine Xg O (λu m=>((m.b 1 O).lies aF aA O O)) ?_;simp only[I,zy,aj,aa,ah,ag];refine L (aW fN aA O O (by decide) (by decide) O) ?_;simp only[I];refine Xg O (λu m=>((m.b 0 O).lies aF aA O O)) ?_;simp only[I,zy,aj,aa,ah,ag];refine Ks O O (Hf (p:=p.b) (q:=q.b)) (L (aW fN aA O O (by decide) (by decide) O) ?_);simp only[I];refine Xg O (λu m=>((m.b 1 O).lies aF aA O O)) ?_;simp only[I,zy,aj,aa,ah,ag];refine L (aW fN aA O O (by decide) (by decide) O) ?_;simp only[I];refine Xg O (λu m=>((m.b 0 O).lies aF aA O O)) ?_;simp only[I,zy,aj,aa,ah,ag];refine Ks O O (Hf (p:=p.c) (q:=q.c)) (bM ?_);intro u m;simp only[I];refine adL m dS (z:=G 0) (by kernel_rfl) O O O O O O O ?_;intro j u m;simp only[I];refine abW m O O (anm _ (m.b 0 O)) ?_;intro u m;refine C aK (E (e _ _ ?_));try clear e g
 refine i_ ?_;simp only[I];try simp only[cn,Exit.then,Y4]
 refine aU O O ?_;try simp only[zD,zE]
 exact⟨_,O,m.ext,O⟩
def auf{p:P3}(h:p.x=q.x/\p.y=q.y/\p.z=q.z):(0:Int)=sQ p q:=(oT.2 (P3.eq h.1 h.2.1 h.2.2)).symm
def aug{p:P3}(h:p.Lt q):(-1:Int)=sQ p q:=(Z9 h).symm
def auh{p:P3}(h1:¬(p.x=q.x/\p.y=q.y/\p.z=q.z))(h2:¬p.Lt q):(1:Int)=sQ p q:=by
 unfold sQ;rcases P3.lt_tri p q with h|h|h
 .exact Y0 h h2
 .exact Y0 (by rw[h];exact⟨O,O,O⟩) h1
 rw[K0 h2,Z9 h]
def Wn{p:P3}:vS G1 70 [pt p,pt q] (G (sQ p q)):=by
 intro w;refine⟨bK func70 (by kernel_rfl),?_⟩;have m:=iL.refl w
 go_enter func70,ntmps70
 refine aV λk a=>am (qJ m O ?_);intro v u m;simp only[I];refine qJ m O ?_;intro x u m;refine C aK (E (a _ _ ?_));try clear a k
 refine aV λl c=>jd (aV λn d=>am ?_);simp only[I];refine aS O ((m.b 1 O).full aF aA) ?_;simp only[I];refine aS O ((m.b 0 O).full aF aA) ?_;simp only[I];refine C (oQ O O) (C aK (E (d _ _ ?_)));try clear d n
 simp only[I];refine bB O ?_ ?_<;>intro i
 .refine aV λo e=>am (C aK (E (e _ _ ?_)));try clear e o
  refine i_ ?_;simp only[I];try simp only[cn,Exit.then,Y4]
  refine aU O O ?_;try simp only[zD,zE]
  exact⟨_,O,m.ext,by rw[<-auf i]⟩
 refine aV λr f=>am (aS O ((m.b 1 O).full aF aA) ?_);simp only[I];refine aS O ((m.b 0 O).full aF aA) ?_;simp only[I];refine Rj m O O (uD (p:=p) (q:=q)) ?_;intro u m;refine C aK (E (f _ _ ?_));try clear f r
 simp only[I];refine bB O ?_ ?_<;>intro j
 .refine aV λs g=>am (C aK (E (g _ _ ?_)));try clear g s
  refine i_ ?_;simp only[I];try simp only[cn,Exit.then,Y4]
  refine aU O O ?_;try simp only[zD,zE]
  exact⟨_,O,m.ext,by rw[<-aug j]⟩
 refine ja (c _ _ ?_);try clear c l
 refine aV λt h=>am (C aK (E (h _ _ ?_)));try clear h t
 refine i_ ?_;simp only[I];try simp only[cn,Exit.then,Y4]
 refine aU O O ?_;try simp only[zD,zE]
 exact⟨_,O,m.ext,by rw[<-auh i j]⟩
end
section
attribute [local irreducible] bf M fY cJ cU Code.wp
attribute [local congr] dK dL cZ dJ
variable{ts:List T3}{cap:Nat}{u x q:P3}{t:T3}
def ajp{w0 w:an}{is:List It}{A:Option Addr}{n cap:Nat}{xs:List T3}(m:Mem w0 w is)(k:Nat)(c:is[k]? = H (oI 39 9 A n cap (xs.flatMap aM)))(d:n<4611686018427387904) :
 Calls G1 112 [.slice A n cap,.func (.func 113) #[] #[]].toArray w λe w'=>∃v i,e=.returned v/\Mem w0 w' (is.set k i)/\(v=.tuple #[]/\∃ys:List T3,i=oI 39 9 A n cap (ys.flatMap aM)/\ys.Perm xs/\ys.Pairwise λa b=>ltOf af1 b a=X9):=
 Es (enc:=aM) Tryz.sort112 (λw=>rK dG w) (λw=>eT bA w) (λ_=>rfl) (by decide) ab9 af1 ann (λx y=>aqi) m k c d
def af2{ys:List T3}(h:ys.Perm (ts.map F))(c:ys.Pairwise λa b=>Go.Proofs.ltOf af1 b a=X9):ys=dM ts:=
 alZ h (c.imp λ{a b} h k=>by
  have:=(Ma b a).2 k;simp[Go.Proofs.ltOf] at h;omega)
def adV{N:Nat}{A:Option Addr}(w:an)(e:cN w A N ts)(E:N<=10000000):dF G1 55 [.slice A N cap] w (SL 39 9 ((dM ts).flatMap aM) ts.length w):=by
 refine⟨bK func55 (by kernel_rfl),?_⟩;have m:=Mem.refl w;have s:=e.len
 go_enter func55,ntmps55
 apply fD 6 [0] m;simp only[↓U];refine C aK ?_;replace m:=m.nilO 39 9;apply aJ 9 [0] m;simp only[↓U,jL];refine bU [3,8] [5,9,10,11,12,13,14,15,16,17] (λn vs p=>∃(k:Nat)(c:Option Addr)(d:Nat),vs=[.slice c k d,G (k:Int)]/\Mem w p [oI 39 9 c k d (((ts.take k).map F).flatMap aM)]/\(k<=N)/\(n=N-k)) ?_ ?_
 .exact⟨_,0,_,_,O,m,bu _,O⟩
 intro n vs wr g u z q
 obtain⟨k,c,d,rfl,m,H,J⟩:=g;simp only[zu,zF,zG];apply aG 5 [0,0] m;simp only[↓U];refine bB O ?_ ?_<;>intro K
 .obtain⟨t,j,_,a,rfl,y⟩:=e.get (i:=k) (by omega);apply sO 13 [0,1,0,1,0] m;simp only[↓U,eO,mH,fJ,ai,aj,aa];refine⟨_,λu m=>((y.ext m.ext).lies dG bA),λB=>⟨by omega,?_⟩⟩;intro u m;refine nX m O O On ?_;intro u m;simp only[I];refine nJ O ?_;intro u D f h l;replace m:=m.newB f h l;simp only[I];refine bW m 2 O O fP kL O (by decide) O O O (m.b 0 O).rowsO (jB O) (by omega) (by omega) ?_;intro c d u m;simp only[zF,zG] at m;rw[show ((ts.take k).map F).flatMap aM++_=((ts.take (k+1)).map F).flatMap aM by rw[bV j,db,bi];rfl] at m;apply aJ 7 [0] m;simp only[↓U];apply I0;omega;exact q (N-(k+1)) _ _ (by omega) (by kernel_rfl) ⟨k+1,_,_,O,(m.sel [X9,X9,Z]),by omega,O⟩
 obtain rfl:k=N:=by omega
 rw[show ts.take k=ts from a_ (by omega)] at m;apply aG 4 [0] m;simp only[↓U];refine nK m 0 (bK func112 (by kernel_rfl)) O O (λm=>ajp m 0 O (by omega)) ?_;rintro v i u m ⟨rfl,ys,rfl,x,r⟩;simp only[zF,zG] at m;simp only[I];obtain rfl:=af2 x r;apply aJ 7 [] m;simp only[↓U];exact aU O O ⟨_,O,m.ext,⟨_,_,_,s.symm,O,(m.o 0 O)⟩⟩
def ano{v:P3}(h:x.x=u.x/\x.y=u.y/\x.z=u.z):K u v x=v:=by
 rw[show x=u from P3.eq h.1 h.2.1 h.2.2];exact lR
def af3{v:P3}(h:¬(x.x=u.x/\x.y=u.y/\x.z=u.z)):K u v x=x:=gD λe=>h (by rw[e];exact⟨rfl,rfl,rfl⟩)
def pne{p:P3}:decide (¬(p.x=q.x/\p.y=q.y/\p.z=q.z))=decide (p≠q):=decide_eq_decide.2 ⟨λh e=>h (by rw[e];exact⟨rfl,rfl,rfl⟩),λh e=>h (P3.eq e.1 e.2.1 e.2.2)⟩
def ahE{p:P3}:eS G1 54 [tr t,pt p,pt q] (.tuple #[tr (pT p q t),.bool (pT p q t).nd]):=by
 intro w;refine⟨bK func54 (by kernel_rfl),?_⟩;have m:=Mem.refl w
 go_enter func54,ntmps54
 apply kX 31 [4,1,0] m;simp only[↓U,mH];intro f v A B;apply I0;omega;intro u m;refine mq m aD (by kernel_rfl) (fE 5 [4,3] ?_);simp only[↓U,l,aN,ag,ah,aa];refine⟨_,fH,by omega,?_⟩;refine bM ?_;intro u m;refine gc (kS m 3 [] [17,18,19] (λvs i=>vs=[]/\i=bI f [G (K p q t.a).x,G (K p q t.a).y,G (K p q t.a).z,G (t.b).x,G (t.b).y,G (t.b).z,G (t.c).x,G (t.c).y,G (t.c).z] 39) ?_ ?_)
 . intro o g
   refine bB O ?_ ?_<;>intro d
   .apply sO 6 [2,3,0] m;simp only[↓U,aN,l,ag,ah,aa];apply I0;omega;intro u m;exact g _ _ _ (by kernel_rfl) m ⟨O,by rw[ano d]<;>rfl⟩
   apply aG 1 [0] m;simp only[↓U];exact g _ _ _ (by kernel_rfl) m ⟨O,by rw[af3 d]<;>rfl⟩
 intro vs i wr m e u
 obtain⟨rfl,rfl⟩:=e;simp only[zF,zG] at m;simp only[zu,zF,zG];apply S 21 [1,0] m;simp only[↓U,R];apply I0;omega;refine mq m aD (by kernel_rfl) (fE 5 [4,3] ?_);simp only[↓U,l,aN,ag,ah,aa];refine⟨_,fH,by omega,?_⟩;refine bM ?_;intro u m;refine gc (kS m 3 [] [17,18,19] (λvs i=>vs=[]/\i=bI f [G (K p q t.a).x,G (K p q t.a).y,G (K p q t.a).z,G (K p q t.b).x,G (K p q t.b).y,G (K p q t.b).z,G (t.c).x,G (t.c).y,G (t.c).z] 39) ?_ ?_)
 . intro r j
   refine bB O ?_ ?_<;>intro d
   .apply sO 6 [2,3,0] m;simp only[↓U,aN,l,ag,ah,aa];apply I0;omega;intro u m;exact j _ _ _ (by kernel_rfl) m ⟨O,by rw[ano d]<;>rfl⟩
   apply aG 1 [0] m;simp only[↓U];exact j _ _ _ (by kernel_rfl) m ⟨O,by rw[af3 d]<;>rfl⟩
 intro vs i wr m e u
 obtain⟨rfl,rfl⟩:=e;simp only[zF,zG] at m;simp only[zu,zF,zG];apply S 21 [1,0] m;simp only[↓U,R];apply I0;omega;refine mq m aD (by kernel_rfl) (fE 5 [4,3] ?_);simp only[↓U,l,aN,ag,ah,aa];refine⟨_,fH,by omega,?_⟩;refine bM ?_;intro u m;refine gc (kS m 3 [] [17,18,19] (λvs i=>vs=[]/\i=bI f [G (K p q t.a).x,G (K p q t.a).y,G (K p q t.a).z,G (K p q t.b).x,G (K p q t.b).y,G (K p q t.b).z,G (K p q t.c).x,G (K p q t.c).y,G (K p q t.c).z] 39) ?_ ?_)
 . intro s k
   refine bB O ?_ ?_<;>intro d
   .apply sO 6 [2,3,0] m;simp only[↓U,aN,l,ag,ah,aa];apply I0;omega;intro u m;exact k _ _ _ (by kernel_rfl) m ⟨O,by rw[ano d]<;>rfl⟩
   apply aG 1 [0] m;simp only[↓U];exact k _ _ _ (by kernel_rfl) m ⟨O,by rw[af3 d]<;>rfl⟩
 intro vs i wr m e u
 obtain⟨rfl,rfl⟩:=e;simp only[zF,zG] at m;simp only[zu,zF,zG];apply S 14 [2,0] m;simp only[↓U,R];apply I0;omega;refine mh m [X9,Z,Z,Z] [(1,Z),(3,Z),(0,Z),(2,Z),(4,Z),(5,Z),(6,Z),(7,Z),(9,Z),(8,Z),(10,Z),(11,Z),(12,Z),(13,Z),(14,Z),(16,Z),(15,Z),(17,Z),(18,Z),(19,Z),(20,X9),(21,Z)] aD (by kernel_rfl) (bT (λ_ _ _ _ _ h=>h)) (ol:=?_) ?n ?_
 case n=>simp only[zw,zQ,zR];try rfl
 intro u m;refine Dk 10 [3,3,3,6,3,3,6,3,3] ?_;simp only[↓U,l,fJ,aN,ag,ah,aa];refine⟨_,lO,_,lO,λ_=>⟨_,lO,λ_=>⟨by omega,?_⟩⟩⟩;refine bQ (cB m 0 O O O bA (X O) O ?_);intro u m;simp only[zy,zx,bR,zF,zG,aa] at m;refine E ⟨m.sel [X9,Z,Z,Z],?_⟩;refine bY aK (bO ?_);apply S 1 [] m;simp only[↓U];refine jG O ⟨_,O,((m.b 0 O).full dG bA)⟩ O ?_;try simp only[zD,zE]
 exact⟨_,O,m.ext,by rw[pne,pne,pne]<;>rfl⟩
def ajq{p:P3}{k:Nat}(h:ts[k]? = H t):vN p q (ts.take (k+1))=vN p q (ts.take k)++if (pT p q t).nd then [pT p q t] else []:=by
 rw[bV h];unfold vN;rw[db,gl]
 congr 1
 rw[bm,df,ft,np]
theorem Ou{p:P3}(a:I3 q)(b:I3 x):I3 (K p q x):=by
 unfold K;split
 .exact a
 exact b
theorem aca{p:P3}(d:I3 q)(h:∀t∈ts,IT t):∀t∈vN p q ts,IT t:=λt f=>by
 obtain⟨s,e,rfl⟩:=c_.1 (di.1 f).1;have:=h s e;exact⟨Ou d this.a,Ou d this.b,Ou d this.c⟩
def anp{p:P3}(ts:List T3):(gF ts p q).length=(vN p q ts).length:=tS _
def af4{N:Nat}{A:Option Addr}{p:P3}[I3 p][I3 q](w:an)(g:cN w A N ts)(T:N<=10000000):dF G1 22 [.slice A N cap,pt p,pt q] w (SL 39 9 ((gF ts p q).flatMap aM) (gF ts p q).length w):=by
 refine⟨bK func22 (by kernel_rfl),?_⟩;have m:=Mem.refl w;have ab:=g.len
 go_enter func22,ntmps22
 apply kX 8 [0] m;simp only[↓U];intro s B u m;refine C aK ?_;replace m:=m.nilO 39 9;apply aJ 9 [0] m;simp only[↓U,jL];refine bU [7,14] [9,10,11,15,16,17,18,19,20,21,22,23,24,25,26,27,28,29,30] (λn vs H=>∃(k:Nat)(d:Option Addr)(e:Nat),vs=[.slice d (vN p q (ts.take k)).length e,G (k:Int)]/\Mem w H [oI 39 9 d (vN p q (ts.take k)).length e ((vN p q (ts.take k)).flatMap aM),bI B [G q.x,G q.y,G q.z] 30,bI s [G p.x,G p.y,G p.z] 30]/\(k<=N)/\(n=N-k)) ?_ ?_
 .exact⟨_,0,_,_,O,m,bu _,O⟩
 intro n vs wr D u P j
 obtain⟨k,d,e,rfl,m,V,W⟩:=D;simp only[zu,zF,zG];apply aG 5 [0,0] m;simp only[↓U];refine bB O ?_ ?_<;>intro Y
 .obtain⟨t,E,_,a,rfl,L⟩:=g.get (i:=k) (by omega);have c:=ajq (p:=p) (q:=q) E;have J:=ahe p q (ts.take k);rw[List.length_take] at J;apply sO 15 [0,1,0,1,4,3,0] m;simp only[↓U,eO,mH,fJ,aN,ai,aj,aa];refine⟨_,λu m=>((L.ext m.ext).lies dG bA),λQ=>⟨by omega,?_⟩⟩;intro u m;refine tK m O O (ahE (t:=t) (p:=p) (q:=q)) 11 [0,0] ?_;simp only[↓U,mH,fJ,aa];intro R u m;refine cQ O ?_ ?_<;>intro l
  .rw[l,Z9 rfl] at c;apply aG 3 [1,0] m;simp only[↓U,fJ];refine nJ O ?_;intro u S f h F;replace m:=m.newB f h F;simp only[I];refine bW m 3 O O fP kL O (by decide) O O O (m.b 0 O).rowsO (jB O) (by omega) (by omega) ?_;intro d e u m;simp only[zF,zG] at m;rw[show (vN p q (ts.take k)).flatMap aM++_=(vN p q (ts.take (k+1))).flatMap aM by rw[c,bi];rfl] at m;have r:(vN p q (ts.take k)).length+1=(vN p q (ts.take (k+1))).length:=by rw[c,bg];rfl
   rw[r] at m;rw[r];apply aJ 7 [0] m;simp only[↓U];apply I0;omega;exact j (N-(k+1)) _ _ (by omega) (by kernel_rfl) ⟨k+1,_,_,O,(m.sel [X9,X9,X9,Z,Z,Z]),by omega,O⟩
  rw[l,K0 fh,fz] at c;apply aG 6 [0] m;simp only[↓U];apply I0;omega;rw[<-c] at m ⊢;exact j (N-(k+1)) _ _ (by omega) (by kernel_rfl) ⟨k+1,_,_,O,(m.sel [X9,X9,Z,Z,Z]),by omega,O⟩
 obtain rfl:k=N:=by omega
 rw[show ts.take k=ts from a_ (by omega)] at m ⊢;apply aG 4 [0] m;simp only[↓U];refine aX O O (adV (ts:=vN p q ts) _ ((m.o 0 O).tris (aca X3 g.it)) (by have:=ahe p q ts;omega)) ?_;rintro v u f ⟨M,ad,X,K,rfl,h⟩;replace m:=m.newO f h;apply aJ 3 [] m;simp only[↓U];exact aU O O ⟨_,O,m.ext,⟨_,_,_,by rw[K,anp],O,(m.o 0 O)⟩⟩
end
end Go.Proofs.YtfekpcimgncioaaGreatDoor
namespace Go.Lith
open Go.RowKit
variable{q x:P3}
def rG(D:List (P3×Hd))(p:P3):Hd:=(bS D p).getD ⟨G0,0,0⟩
def nbK(p:P3)(q:P3):List P3:=if q≠p then [q] else []
def nbT(p:P3)(t:T3):List P3:=nbK p t.a++nbK p t.b++nbK p t.c
def oU(ts:List T3)(p:P3):List P3:=(ts.filter λt=>t.has p).flatMap (nbT p)
def Hg{p:P3}:x∈nbK p q↔x=q/\x≠p:=by
 unfold nbK;split
 .rename_i h;rw[bp];exact⟨λe=>⟨e,e▸h⟩,λe=>e.1⟩
 rename_i h;exact⟨λe=>(by cases e),λe=>Y0 (e.1▸e.2) h⟩
def vF{ts:List T3}{p:P3}:x∈oU ts p↔Oa ts p x=Z:=by
 unfold oU;rw[Fa,kM,List.mem_flatMap];constructor
 . rintro⟨t,d,b⟩
   obtain⟨h1,h2⟩:=di.1 d;unfold nbT at b;rw[bv,bv,Hg,Hg,Hg] at b;have a:x≠p:=by rcases b with (h|h)|h<;>exact h.2
   have c:t.has x=Z:=gK.2 (by rcases b with (h|h)|h<;>simp[h.1]);exact⟨a,t,h1,h2,c⟩
 rintro⟨a,t,h1,h2,c⟩
 refine⟨t,di.2 ⟨h1,h2⟩,?_⟩;unfold nbT;rw[bv,bv,Hg,Hg,Hg];rcases gK.1 c with e|e|e
 .exact .inl (.inl ⟨e,a⟩)
 .exact .inl (.inr ⟨e,a⟩)
 exact .inr ⟨e,a⟩
def anq{p:P3}(h:¬(q.x=p.x/\q.y=p.y/\q.z=p.z)):nbK p q=[q]:=Z9 λe=>h (by rw[e];exact⟨rfl,rfl,rfl⟩)
def anr{p:P3}(h:¬¬(q.x=p.x/\q.y=p.y/\q.z=p.z)):nbK p q=[]:=K0 λk=>h λe=>k (P3.eq e.1 e.2.1 e.2.2)
def ans{fs:List T3}{p:P3}{k:Nat}{t:T3}(h:fs[k]? = H t):(fs.take (k+1)).flatMap (nbT p)=(fs.take k).flatMap (nbT p)++nbK p t.a++nbK p t.b++nbK p t.c:=by
 rw[bV h,bi,cz,List.flatMap_nil,fz];unfold nbT;simp only[List.append_assoc]
end Go.Lith
namespace Go.Proofs.YtfekpcimgncioaaGreatDoor
open Go.Proofs.Tryz
open Go.RowKit Go.Lith
set_option maxRecDepth 100000
attribute [local irreducible] bf M fY cJ cU Code.wp
attribute [local congr] dK dL cZ dJ
variable{t:T3}
def acb{F E gf N cap s:Nat}{A:Option Addr}{B:Array cu}{D:List (P3×Hd)}{ts:List T3}{p:P3}(w:an)(af:fK w F [.slice A N cap,.map (H E),.map (H gf)] 109)(ae:gQ w E B s)(ab:bC pt Hd.v D B s)(W:∀p,cN w (rG D p).A (rG D p).n (ts.filter λt=>t.has p)/\(rG D p).n<=(rG D p).cap)(hN:ts.length<=10000000):dF G1 62 [.pointer (H ⟨F,0,G0⟩),pt p] w (λv w'=>∃g es c,v=.map (H g)/\Mem w w' [mI g es c]/\bC pt bj (eE [] (oU ts p)) es c):=by
 refine⟨bK func62 (by kernel_rfl),?_⟩;have m:=Mem.refl w
 go_enter func62,ntmps62
 apply kX 7 [0] m;simp only[↓U];intro T u m;refine iB m ?_;intro r u m;have d:=bC.nil (K:=P3) (V:=Bool) pt bj;apply aJ 4 [0] m;simp only[↓U];refine mq m aD (by kernel_rfl) (fE 3 [] ?_);simp only[↓U,Vf,aa];refine ql O (λu m=>((af.ext m.ext).lies1 agQ O)) ?_;simp only[I];refine ql O (λu m=>((m.b 1 O).full aF aA)) ?_;simp only[I];refine kI (λu m=>dA (ek:=pt) (en:=Hd.v) (k:=p) (v0:=⟨G0,0,0⟩) underlying106 agO eL O O (ae.ext m.ext) ab) ?_;simp only[I];refine L (qG O fP O) (L aI (bM ?_));intro u m;simp only[I];obtain⟨⟨A9,q,ap⟩,Q⟩:∃h:Hd,h=(bS D p).getD ⟨G0,0,0⟩:=⟨_,rfl⟩
 have j:=W p;unfold rG at j;rw[<-Q] at j;obtain⟨j,ag⟩:=j;simp only at j ag;have am:=j.len;have al:=gd (λt=>T3.has t p) ts;rw[<-Q];simp only[Hd.v];apply S 1 [0] m;simp only[↓U];refine bU [18] [7,9,19,20,21,22,23,24,25,26,27,28,29,30,31,32] (λn vs Y=>∃(k:Nat)(es:Array cu)(c:Nat),vs=[G (k:Int)]/\Mem w Y [mI r es c,bI T [G p.x,G p.y,G p.z] 30]/\(bC pt bj (eE [] (((ts.filter λt=>t.has p).take k).flatMap (nbT p))) es c)/\(k<=q)/\(n=q-k)) ?_ ?_
 .exact⟨_,0,_,_,O,m,d,bu _,O⟩
 intro n vs wr f u K1 ad
 obtain⟨k,o,l,rfl,m,d,hk,hn⟩:=f;simp only[zu,zF,zG];apply aG 5 [0,0] m;simp only[↓U];refine bB O ?_ ?_<;>intro ak
 .obtain⟨t,X,_,a,rfl,ah⟩:=j.get (i:=k) (by omega);apply sO 29 [0,1,0,1,4,1,0] m;simp only[↓U,eO,mH,fJ,ai,aj,aa];refine⟨_,λu m=>((ah.ext m.ext).lies dG bA),λg3=>⟨by omega,?_⟩⟩;intro u m;refine C (jY O O) ?_;apply iV 9 [0,1,4,0] m;simp only[↓U,cY,aN,aa];refine λg4=>⟨_,lO,?_⟩
  intro u m;refine kS m 2 [] [29,30] (λvs i=>∃(es:Array cu)(c:Nat),vs=[]/\i=mI r es c/\(bC pt bj (eE [] ((((ts.filter λt=>t.has p).take k).flatMap (nbT p))++nbK p t.a)) es c)) ?_ ?_
  . intro K2 J
    refine bB O ?_ ?_<;>intro e
    .apply aG 3 [1,0] m;simp only[↓U,aN];refine eP (ek:=pt) (en:=bj) (a:=t.a) (v:=Z) m 2 O gN eL O O O d ?_;intro o l u m d;simp only[zF,zG] at m;rw[<-jM] at d;apply aJ 1 [0] m;simp only[↓U];exact J _ _ _ (by kernel_rfl) m ⟨_,_,O,O,by rw[anq e];exact d⟩
    apply aG 1 [0] m;simp only[↓U];exact J _ _ _ (by kernel_rfl) m ⟨_,_,O,O,by rw[anr e,fz];exact d⟩
  intro vs i wr m f u
  obtain⟨o,l,rfl,rfl,d⟩:=f;simp only[zF,zG] at m;simp only[zu,zF,zG];apply S 17 [1,0] m;simp only[↓U,R];apply I0;omega;refine C (jZ O O) ?_;apply iV 9 [0,1,5,0] m;simp only[↓U,cY,aN,aa];refine λg5=>⟨_,lO,?_⟩
  intro u m;refine kS m 3 [] [29,30] (λvs i=>∃(es:Array cu)(c:Nat),vs=[]/\i=mI r es c/\(bC pt bj (eE [] (((((ts.filter λt=>t.has p).take k).flatMap (nbT p))++nbK p t.a)++nbK p t.b)) es c)) ?_ ?_
  . intro K3 M
    refine bB O ?_ ?_<;>intro e
    .apply aG 3 [1,0] m;simp only[↓U,aN];refine eP (ek:=pt) (en:=bj) (a:=t.b) (v:=Z) m 3 O gN eL O O O d ?_;intro o l u m d;simp only[zF,zG] at m;rw[<-jM] at d;apply aJ 1 [0] m;simp only[↓U];exact M _ _ _ (by kernel_rfl) m ⟨_,_,O,O,by rw[anq e];exact d⟩
    apply aG 1 [0] m;simp only[↓U];exact M _ _ _ (by kernel_rfl) m ⟨_,_,O,O,by rw[anr e,fz];exact d⟩
  intro vs i wr m f u
  obtain⟨o,l,rfl,rfl,d⟩:=f;simp only[zF,zG] at m;simp only[zu,zF,zG];apply S 17 [1,0] m;simp only[↓U,R];apply I0;omega;refine C (kA O O) ?_;apply iV 9 [0,1,6,0] m;simp only[↓U,cY,aN,aa];refine λg6=>⟨_,lO,?_⟩
  intro u m;refine kS m 4 [] [29,30] (λvs i=>∃(es:Array cu)(c:Nat),vs=[]/\i=mI r es c/\(bC pt bj (eE [] ((((((ts.filter λt=>t.has p).take k).flatMap (nbT p))++nbK p t.a)++nbK p t.b)++nbK p t.c)) es c)) ?_ ?_
  . intro K4 P
    refine bB O ?_ ?_<;>intro e
    .apply aG 3 [1,0] m;simp only[↓U,aN];refine eP (ek:=pt) (en:=bj) (a:=t.c) (v:=Z) m 4 O gN eL O O O d ?_;intro o l u m d;simp only[zF,zG] at m;rw[<-jM] at d;apply aJ 1 [0] m;simp only[↓U];exact P _ _ _ (by kernel_rfl) m ⟨_,_,O,O,by rw[anq e];exact d⟩
    apply aG 1 [0] m;simp only[↓U];exact P _ _ _ (by kernel_rfl) m ⟨_,_,O,O,by rw[anr e,fz];exact d⟩
  intro vs i wr m f u
  obtain⟨o,l,rfl,rfl,d⟩:=f;simp only[zF,zG] at m;simp only[zu,zF,zG];apply S 18 [2,0] m;simp only[↓U,R];apply I0;omega;exact ad (q-(k+1)) _ _ (by omega) (by kernel_rfl) ⟨k+1,_,_,O,(m.sel [X9,X9,X9,X9,Z,Z]),by rw[ans X];exact d,by omega,O⟩
 obtain rfl:k=q:=by omega
 rw[show (ts.filter λt=>t.has p).take k=ts.filter λt=>t.has p from a_ (by omega)] at d;apply aG 7 [] m;simp only[↓U];exact aU O O ⟨_,O,m.ext,_,_,_,O,m.sel [Z,X9],d⟩
def ant{r:T3}[IT t][IT r]:eS G1 172 [tr t,tr r] (G (al0 t r)):=by
 intro w;refine⟨bK func172 (by kernel_rfl),?_⟩;have m:=Mem.refl w
 go_enter func172,ntmps172
 apply kX 7 [0] m;simp only[↓U];intro a c u m;refine mq m aD (by kernel_rfl) (ql O (λu m=>((m.b 1 O).full dG bA)) ?_);simp only[I];refine jF O O Wj ?_;simp only[I];refine ql O (λu m=>((m.b 0 O).full dG bA)) ?_;simp only[I];refine jF O O Wj ?_;simp only[I];refine jF O O (Ft Bv.of Bv.of) ?_;simp only[I];refine jF O O (Oq D.up) (L aK (bM ?_));intro u m;apply S 1 [] m;simp only[↓U];exact aU O O ⟨_,O,m.ext,O⟩
def af5{r:T3}{k:Nat}(a:k<3)(h:Jm t k<Jl r k):Qf t r=X9:=by
 unfold Qf ai0
 match k,a with
 |0,_=>simp[h]
 |1,_=>simp[h]
 |2,_=>simp[h]
def af6{r:T3}{k:Nat}(a:k<3)(h:Jm r k<Jl t k):Qf t r=X9:=by
 unfold Qf ai0
 match k,a with
 |0,_=>simp[h]
 |1,_=>simp[h]
 |2,_=>simp[h]
def aui{r:T3}(c:¬Jm t 0<Jl r 0)(h1:¬Jm t 1<Jl r 1)(h2:¬Jm t 2<Jl r 2)(g0:¬Jm r 0<Jl t 0)(a:¬Jm r 1<Jl t 1)(b:¬Jm r 2<Jl t 2):Qf t r=Z:=by
 unfold Qf ai0;simp[c,h1,h2,g0,a,b]
def auj{r:T3}:eS G1 175 [.agg #[G (Jl t 0),G (Jl t 1),G (Jl t 2),G (Jm t 0),G (Jm t 1),G (Jm t 2)],.agg #[G (Jl r 0),G (Jl r 1),G (Jl r 2),G (Jm r 0),G (Jm r 1),G (Jm r 2)]] (.bool (Qf t r)):=by
 intro w;refine⟨bK func175 (by kernel_rfl),?_⟩;have m:=Mem.refl w
 go_enter func175,ntmps175
 apply kX 29 [4,1] m;simp only[↓U];intro e f;apply I0;omega;intro u m;by_cases b:Jm t 0<Jl r 0
 .refine gc (mq m aD (by kernel_rfl) ?_);refine fE 8 [2,1] ?_;simp only[↓U,kO,nT,j,kN,aa,ag,ah];apply I0;omega;refine L (sU O O b) (L aI (Kf O ?_));refine fE 9 [0,0,0,0,0,0,0,0] ?_;simp only[↓U];refine bM ?_;intro u m;apply S 6 [] m;simp only[↓U];refine aU O O ?_;try simp only[zD,zE]
  exact⟨_,O,m.ext,by rw[af5 (k:=0) (by decide) b]⟩
 refine gc (mq m aD (by kernel_rfl) ?_);refine fE 8 [2,1] ?_;simp only[↓U,kO,nT,j,kN,aa,ag,ah];apply I0;omega;refine L (Il O O b) (L aI (rI O (L aI ?_)));refine fE 9 [0,0,0,1,0,0,0,0,2,0,0] ?_;simp only[↓U,kO,nT,j,kN,aa,ag,ah];apply I0;omega;refine bM ?_;intro u m;refine gc (bB O (λa=>?_) (λa=>?_))
 .have q0:=a;apply aG 5 [] m;simp only[↓U];refine aU O O ?_;try simp only[zD,zE]
  exact⟨_,O,m.ext,by rw[af6 (k:=0) (by decide) q0]⟩
 have q0:=a;apply aG 22 [1] m;simp only[↓U,R];apply I0;omega;by_cases h1:Jm t 1<Jl r 1
 .refine gc (mq m aD (by kernel_rfl) ?_);refine fE 8 [2,1] ?_;simp only[↓U,kO,nT,j,kN,aa,ag,ah];apply I0;omega;refine L (sU O O h1) (L aI (Kf O ?_));refine fE 9 [0,0,0,0,0,0,0,0] ?_;simp only[↓U];refine bM ?_;intro u m;apply S 6 [] m;simp only[↓U];refine aU O O ?_;try simp only[zD,zE]
  exact⟨_,O,m.ext,by rw[af5 (k:=1) (by decide) h1]⟩
 refine gc (mq m aD (by kernel_rfl) ?_);refine fE 8 [2,1] ?_;simp only[↓U,kO,nT,j,kN,aa,ag,ah];apply I0;omega;refine L (Il O O h1) (L aI (rI O (L aI ?_)));refine fE 9 [0,0,0,1,0,0,0,0,2,0,0] ?_;simp only[↓U,kO,nT,j,kN,aa,ag,ah];apply I0;omega;refine bM ?_;intro u m;refine gc (bB O (λa=>?_) (λa=>?_))
 .have c:=a;apply aG 5 [] m;simp only[↓U];refine aU O O ?_;try simp only[zD,zE]
  exact⟨_,O,m.ext,by rw[af6 (k:=1) (by decide) c]⟩
 have c:=a;apply aG 22 [1] m;simp only[↓U,R];apply I0;omega;by_cases h2:Jm t 2<Jl r 2
 .refine gc (mq m aD (by kernel_rfl) ?_);refine fE 8 [2,1] ?_;simp only[↓U,kO,nT,j,kN,aa,ag,ah];apply I0;omega;refine L (sU O O h2) (L aI (Kf O ?_));refine fE 9 [0,0,0,0,0,0,0,0] ?_;simp only[↓U];refine bM ?_;intro u m;apply S 6 [] m;simp only[↓U];refine aU O O ?_;try simp only[zD,zE]
  exact⟨_,O,m.ext,by rw[af5 (k:=2) (by decide) h2]⟩
 refine gc (mq m aD (by kernel_rfl) ?_);refine fE 8 [2,1] ?_;simp only[↓U,kO,nT,j,kN,aa,ag,ah];apply I0;omega;refine L (Il O O h2) (L aI (rI O (L aI ?_)));refine fE 9 [0,0,0,1,0,0,0,0,2,0,0] ?_;simp only[↓U,kO,nT,j,kN,aa,ag,ah];apply I0;omega;refine bM ?_;intro u m;refine gc (bB O (λa=>?_) (λa=>?_))
 .have d:=a;apply aG 5 [] m;simp only[↓U];refine aU O O ?_;try simp only[zD,zE]
  exact⟨_,O,m.ext,by rw[af6 (k:=2) (by decide) d]⟩
 have d:=a;apply aG 19 [2] m;simp only[↓U,R];apply I0;omega;refine aU O O ?_;try simp only[zD,zE]
 exact⟨_,O,m.ext,by rw[aui b h1 h2 q0 c d]⟩
end Go.Proofs.YtfekpcimgncioaaGreatDoor
namespace Go.Lith
open Go.RowKit
section
variable{P:cg}{l:List ak}{T ty:bh}{x y:cw}{k:IntKind}{m:Int}
def anu{n c:Nat}{E:bh}{a:Addr}(d:P.underlying T=H (.array n E))(hc:dW P E c)(f:ev l x=.pointer (H a)) :
 iD P l (.slice T x G0 G0 G0) ty (.slice (H a) n n):=λw o b _=>by
 have e:(if n=0 then a else a.add (0*c))=a:=by
  split
  .rfl
  simp[Addr.add]
 simp[N,b,cK,f,Instr.sliceAt,Instr.sliceBounds,Instr.sliceBound,asIntOf,cq d,eT hc,Instr.sureAddr,e];intro _;simp[Addr.add]
def af7{n c q:Nat}{E:bh}{a b:Addr}(h:P.underlying T=H (.array n E))(hc:dW P E c)(i:ev l x=.pointer (H a))(j:ev l y=.int k m)(g:m.toNat=q)(d:0<=m)(h1:m<=n)(e:(if n=q then a else a.add (q*c))=b) :
 iD P l (.slice T x (H y) G0 G0) ty (.slice (H b) (n-q) (n-q)):=λw o f _=>by
 subst g;subst e;simp[N,f,cK,i,j,Instr.sliceAt,Instr.sliceBounds,Instr.sliceBound,asIntOf,cq h,eT hc,Instr.sureAddr,d,h1]
def ajs{n len cap:Nat}{E:bh}{A:Option Addr}(b:P.underlying T=H (.array n E))(c:ev l x=.slice A len cap)(h:n<=len) :
 iD P l (.sliceToArrayPointer T x) ty (.pointer A):=λw o a _=>by
 have:¬len<n:=by omega
 simp[N,a,cK,c,Instr.arrayAt,cq b,this]
end
end Go.Lith
namespace Go.Proofs.YtfekpcimgncioaaGreatDoor
open Go.Proofs.Tryz
open Go.RowKit Go.Lith
set_option maxRecDepth 100000
attribute [local irreducible] bf M fY cJ cU Code.wp
attribute [local congr] dK dL cZ dJ
variable{t:T3}{g90 g91 ga gf gx gy N cap cx cf nm cm no co nr cr cy:Nat}{A Am Ao Ar:Option Addr}{q k:P3}{os ms:List T3}
def Ov(m n:Int):(if n<m then n else m)=min m n:=by omega
def Ox(m n:Int):(if m<n then n else m)=max m n:=by omega
def adX  : eS G1 173 [tr t] (.agg #[G (Jl t 0),G (Jl t 1),G (Jl t 2),G (Jm t 0),G (Jm t 1),G (Jm t 2)]):=by
 intro w;refine⟨bK func173 (by kernel_rfl),?_⟩;have m:=Mem.refl w
 go_enter func173,ntmps173
 apply kX 14 [2,2] m;simp only[↓U,afJ,l,iW,j,iX,ag,ah,aa];intro D E;apply I0;omega;intro u m;apply S 13 [2,2,2,2] m;simp only[↓U,kC,j,Dg,l,iW,iX,aa,ag,ah];apply I0;omega;apply Lc 7 [0,0] m;simp only[↓U,atk,afJ,afI,aa];intro e u m;refine C (af7 fN aA O O O (by decide) (by decide) O) ?_;apply iV 27 [3,1,3,0,1] m;simp only[↓U,reduceIte,xE,Aq,aN,cY,iW,j,iX,Nat.reduceEqDiff,ah,aa,ag];intro F;apply I0;omega;intro u m;apply S 21 [1,1,4,1,0] m;simp only[↓U,j,kC,Dg,aa];apply I0;omega;refine C (jV O O) ?_;apply aJ 3 [0] m;simp only[↓U];refine kS m 1 [] [46,47,48,49,50,51,52,53,54,55,56,57,58,59,60,61,62,63] (λvs i=>vs=[]/\i=bI e [G (min t.a.x t.b.x),G t.a.y,G t.a.z,G (max t.a.x t.b.x),G t.a.y,G t.a.z] 222) ?_ ?_
 . intro q f
   refine zvt [Z,X9,Z,Z] [[],[],[],[],[],[2],[],[],[],[],[],[2],[],[],[],[],[1],[],[],[1]] (.take 0 (.take 1 (.take 2 (.take 3 (.take 4 (.take 6 (.take 8 (.take 9 (.take 10 (.take 12 (.take 14 (.take 17 (.two 5 (.take 7 (.one 11 (.take 13 (.take 15 (.one 16 (.take 18 (.one 19 .nil))))))) 11 (.take 13 (.one 5 (.take 7 (.take 15 (.one 16 (.take 18 (.one 19 .nil)))))))))))))))))))) m aD (by kernel_rfl) (bT (λ_ _ _ _ _ h=>h)) ?_;simp only[↓U,↓zzu,kN,nT,kO,j,Ov,Ox,aa,ag,ah];apply I0;omega;intro u m;exact gk (f _ _ _ (by kernel_rfl) m ⟨O,(by first|rfl|trivial)⟩)
 intro vs i wr m d u
 obtain⟨rfl,rfl⟩:=d;simp only[zF,zG] at m;simp only[zu,zF,zG];apply S 18 [1,0] m;simp only[↓U,R];apply I0;omega;refine C (jW O O) ?_;apply aJ 3 [0] m;simp only[↓U];refine kS m 1 [] [46,47,48,49,50,51,52,53,54,55,56,57,58,59,60,61,62,63] (λvs i=>vs=[]/\i=bI e [G (min t.a.x t.b.x),G (min t.a.y t.b.y),G t.a.z,G (max t.a.x t.b.x),G (max t.a.y t.b.y),G t.a.z] 222) ?_ ?_
 . intro r g
   refine zvt [Z,X9,Z,Z] [[],[],[],[],[],[2],[],[],[],[],[],[2],[],[],[],[],[1],[],[],[1]] (.take 0 (.take 1 (.take 2 (.take 3 (.take 4 (.take 6 (.take 8 (.take 9 (.take 10 (.take 12 (.take 14 (.take 17 (.two 5 (.take 7 (.one 11 (.take 13 (.take 15 (.one 16 (.take 18 (.one 19 .nil))))))) 11 (.take 13 (.one 5 (.take 7 (.take 15 (.one 16 (.take 18 (.one 19 .nil)))))))))))))))))))) m aD (by kernel_rfl) (bT (λ_ _ _ _ _ h=>h)) ?_;simp only[↓U,↓zzu,kN,nT,kO,j,Ov,Ox,aa,ag,ah];apply I0;omega;intro u m;exact gk (g _ _ _ (by kernel_rfl) m ⟨O,(by first|rfl|trivial)⟩)
 intro vs i wr m d u
 obtain⟨rfl,rfl⟩:=d;simp only[zF,zG] at m;simp only[zu,zF,zG];apply S 18 [1,0] m;simp only[↓U,R];apply I0;omega;refine C (jX O O) ?_;apply aJ 3 [0] m;simp only[↓U];refine kS m 1 [] [46,47,48,49,50,51,52,53,54,55,56,57,58,59,60,61,62,63] (λvs i=>vs=[]/\i=bI e [G (min t.a.x t.b.x),G (min t.a.y t.b.y),G (min t.a.z t.b.z),G (max t.a.x t.b.x),G (max t.a.y t.b.y),G (max t.a.z t.b.z)] 222) ?_ ?_
 . intro s k
   refine zvt [Z,X9,Z,Z] [[],[],[],[],[],[2],[],[],[],[],[],[2],[],[],[],[],[1],[],[],[1]] (.take 0 (.take 1 (.take 2 (.take 3 (.take 4 (.take 6 (.take 8 (.take 9 (.take 10 (.take 12 (.take 14 (.take 17 (.two 5 (.take 7 (.one 11 (.take 13 (.take 15 (.one 16 (.take 18 (.one 19 .nil))))))) 11 (.take 13 (.one 5 (.take 7 (.take 15 (.one 16 (.take 18 (.one 19 .nil)))))))))))))))))))) m aD (by kernel_rfl) (bT (λ_ _ _ _ _ h=>h)) ?_;simp only[↓U,↓zzu,kN,nT,kO,j,Ov,Ox,aa,ag,ah];apply I0;omega;intro u m;exact gk (k _ _ _ (by kernel_rfl) m ⟨O,(by first|rfl|trivial)⟩)
 intro vs i wr m d u
 obtain⟨rfl,rfl⟩:=d;simp only[zF,zG] at m;simp only[zu,zF,zG];apply Lc 34 [2,1,4,0] m;simp only[↓U,Aq,aN,cY,R,ag,ah,aa];intro H;apply I0;omega;intro u m;apply S 25 [1,1,1,4,1] m;simp only[↓U,iW,j,iX,kC,Dg,aa];apply I0;omega;apply S 2 [0] m;simp only[↓U];refine C (jV O O) ?_;apply aJ 3 [0] m;simp only[↓U];refine kS m 2 [] [46,47,48,49,50,51,52,53,54,55,56,57,58,59,60,61,62,63] (λvs i=>vs=[]/\i=bI e [G (min (min t.a.x t.b.x) t.c.x),G (min t.a.y t.b.y),G (min t.a.z t.b.z),G (max (max t.a.x t.b.x) t.c.x),G (max t.a.y t.b.y),G (max t.a.z t.b.z)] 222) ?_ ?_
 . intro v n
   refine zvt [Z,Z,X9,Z,Z] [[],[],[],[],[],[3],[],[],[],[],[],[3],[],[],[],[],[2],[],[],[2]] (.take 0 (.take 1 (.take 2 (.take 3 (.take 4 (.take 6 (.take 8 (.take 9 (.take 10 (.take 12 (.take 14 (.take 17 (.two 5 (.take 7 (.one 11 (.take 13 (.take 15 (.one 16 (.take 18 (.one 19 .nil))))))) 11 (.take 13 (.one 5 (.take 7 (.take 15 (.one 16 (.take 18 (.one 19 .nil)))))))))))))))))))) m aD (by kernel_rfl) (bT (λ_ _ _ _ _ h=>h)) ?_;simp only[↓U,↓zzu,kN,nT,kO,j,Ov,Ox,aa,ag,ah];apply I0;omega;intro u m;exact gk (n _ _ _ (by kernel_rfl) m ⟨O,(by first|rfl|trivial)⟩)
 intro vs i wr m d u
 obtain⟨rfl,rfl⟩:=d;simp only[zF,zG] at m;simp only[zu,zF,zG];apply S 18 [1,0] m;simp only[↓U,R];apply I0;omega;refine C (jW O O) ?_;apply aJ 3 [0] m;simp only[↓U];refine kS m 2 [] [46,47,48,49,50,51,52,53,54,55,56,57,58,59,60,61,62,63] (λvs i=>vs=[]/\i=bI e [G (min (min t.a.x t.b.x) t.c.x),G (min (min t.a.y t.b.y) t.c.y),G (min t.a.z t.b.z),G (max (max t.a.x t.b.x) t.c.x),G (max (max t.a.y t.b.y) t.c.y),G (max t.a.z t.b.z)] 222) ?_ ?_
 . intro A o
   refine zvt [Z,Z,X9,Z,Z] [[],[],[],[],[],[3],[],[],[],[],[],[3],[],[],[],[],[2],[],[],[2]] (.take 0 (.take 1 (.take 2 (.take 3 (.take 4 (.take 6 (.take 8 (.take 9 (.take 10 (.take 12 (.take 14 (.take 17 (.two 5 (.take 7 (.one 11 (.take 13 (.take 15 (.one 16 (.take 18 (.one 19 .nil))))))) 11 (.take 13 (.one 5 (.take 7 (.take 15 (.one 16 (.take 18 (.one 19 .nil)))))))))))))))))))) m aD (by kernel_rfl) (bT (λ_ _ _ _ _ h=>h)) ?_;simp only[↓U,↓zzu,kN,nT,kO,j,Ov,Ox,aa,ag,ah];apply I0;omega;intro u m;exact gk (o _ _ _ (by kernel_rfl) m ⟨O,(by first|rfl|trivial)⟩)
 intro vs i wr m d u
 obtain⟨rfl,rfl⟩:=d;simp only[zF,zG] at m;simp only[zu,zF,zG];apply S 18 [1,0] m;simp only[↓U,R];apply I0;omega;refine C (jX O O) ?_;apply aJ 3 [0] m;simp only[↓U];refine kS m 2 [] [46,47,48,49,50,51,52,53,54,55,56,57,58,59,60,61,62,63] (λvs i=>vs=[]/\i=bI e [G (min (min t.a.x t.b.x) t.c.x),G (min (min t.a.y t.b.y) t.c.y),G (min (min t.a.z t.b.z) t.c.z),G (max (max t.a.x t.b.x) t.c.x),G (max (max t.a.y t.b.y) t.c.y),G (max (max t.a.z t.b.z) t.c.z)] 222) ?_ ?_
 . intro B p
   refine zvt [Z,Z,X9,Z,Z] [[],[],[],[],[],[3],[],[],[],[],[],[3],[],[],[],[],[2],[],[],[2]] (.take 0 (.take 1 (.take 2 (.take 3 (.take 4 (.take 6 (.take 8 (.take 9 (.take 10 (.take 12 (.take 14 (.take 17 (.two 5 (.take 7 (.one 11 (.take 13 (.take 15 (.one 16 (.take 18 (.one 19 .nil))))))) 11 (.take 13 (.one 5 (.take 7 (.take 15 (.one 16 (.take 18 (.one 19 .nil)))))))))))))))))))) m aD (by kernel_rfl) (bT (λ_ _ _ _ _ h=>h)) ?_;simp only[↓U,↓zzu,kN,nT,kO,j,Ov,Ox,aa,ag,ah];apply I0;omega;intro u m;exact gk (p _ _ _ (by kernel_rfl) m ⟨O,(by first|rfl|trivial)⟩)
 intro vs i wr m d u
 obtain⟨rfl,rfl⟩:=d;simp only[zF,zG] at m;simp only[zu,zF,zG];apply Lc 32 [2,2,3,3] m;simp only[↓U,afI,R,aa];apply I0;omega;intro u m;exact aU O ⟨_,O,((m.b 3 O).full agR Zo)⟩ ⟨_,O,m.ext,O⟩
def ajt{cy:Nat}{ex ey ef:Array cu}{X Y F:List (P3×Bool)}{ts:List T3}{p:P3}(w:an)(b:fK w g91 [.pointer (H ⟨g90,0,G0⟩),G p.x,G p.y,G p.z,G q.x,G q.y,G q.z,.map (H gx),.map (H gy),.slice Am nm cm,.slice Ao no co,.slice Ar nr cr] 218)(h:fK w g90 [.slice A N cap,.map (H ga),.map (H gf)] 109)(g:gQ w gx ex cx)(e:bC pt bj X ex cx)(f:gQ w gf ef cf)(d:bC pt bj F ef cf):dF G1 100 [.pointer (H ⟨g91,0,G0⟩)] w (λv _=>v=.bool ((bS X q).getD X9 && !(bS F p).getD X9)):=by
 refine⟨bK func100 (by kernel_rfl),?_⟩;have m:=Mem.refl w
 go_enter func100,ntmps100
 apply fD 5 [0] m;simp only[↓U];refine mq m aD (by kernel_rfl) (fE 3 [] ?_);simp only[↓U,Vp,aa];refine ql O (λu m=>((b.ext m.ext).lies1 wD O)) ?_;simp only[I];refine fE 3 [] ?_;simp only[↓U,Vo,aa];refine ql O (λu m=>((b.ext m.ext).lies aF aA O O)) ?_;simp only[I,zy,aj,aa,ah,ag];refine kI (λu m=>dA (ek:=pt) (en:=bj) (k:=q) (v0:=X9) gN iN eL O O (g.ext m.ext) e) ?_;simp only[I];refine L aI (bZ O (λa=>aI) (bZ O (λa=>eX (B a O)) (bZ O (λa=>aY (c:=0) oZ O Tp (B a O) O) ?_)));simp only[I];refine eG O (λa u m=>bE (B a O) ((b.ext m.ext).lies1 abd O)) (bZ O (λa=>eX (B a O)) (bZ O (λa=>aY (c:=0) underlying109 O Gq (B a O) O) ?_));simp only[I];refine eG O (λa u m=>bE (B a O) ((h.ext m.ext).lies1 wD O)) (bZ O (λa=>aI) (bZ O (λa=>eX (B a O)) (bZ O (λa=>aY (c:=2) oZ O aA (B a O) O) ?_)));simp only[I];refine eG O (λa u m=>bE (B a O) ((b.ext m.ext).lies aF aA O O)) ?_;simp only[I,zy,aj,aa,ah,ag];refine eG O (λa u m=>dA (ek:=pt) (en:=bj) (k:=p) (v0:=X9) gN iN eL (B a O) (B a O) (f.ext m.ext) d) ?_;simp only[I];refine bZ O (λa=>lB (B a O)) (L (dR O O O) (L aK (bM ?_)));intro u m;apply S 1 [] m;simp only[↓U];exact aU O O ⟨_,O,m.ext,O⟩
def Jv(Y:List (P3×Bool))(a:List (P3×Bool)):Nat:=((a.map (·.1)).filter λk=>(bS Y k).getD X9).length
def auk{Y a:List (P3×Bool)}{b:Bool}(h:(bS Y k).getD X9=Z):Jv Y (a++[(k,b)])=Jv Y a+1:=by
 unfold Jv;rw[db,gl,bg];simp[h]
def aul{Y a:List (P3×Bool)}{b:Bool}(h:(bS Y k).getD X9=X9):Jv Y (a++[(k,b)])=Jv Y a:=by
 unfold Jv;rw[db,gl,bg];simp[h]
def ahF(Y a:List (P3×Bool)):Jv Y a<=a.length:=by
 unfold Jv;have:=gd (λk=>(bS Y k).getD X9) (a.map (·.1));rwa [eb] at this
def aju{Y a D:List (P3×Bool)}(h:a.Perm D):Jv Y a=Jv Y D:=by
 unfold Jv;exact ((h.map rq).filter _).length_eq
def ajv{cf:Nat}{ex ey ef:Array cu}{X Y F:List (P3×Bool)}{ts:List T3}{p:P3}(w:an)(K:fK w g91 [.pointer (H ⟨g90,0,G0⟩),G p.x,G p.y,G p.z,G q.x,G q.y,G q.z,.map (H gx),.map (H gy),.slice Am nm cm,.slice Ao no co,.slice Ar nr cr] 218)(ad:fK w g90 [.slice A N cap,.map (H ga),.map (H gf)] 109)(i:gQ w gx ex cx)(h:bC pt bj X ex cx)(R:gQ w gy ey cy)(Q:bC pt bj Y ey cy)(ab:X.length<=100000000):dF G1 101 [.pointer (H ⟨g91,0,G0⟩)] w (λv _=>v=.bool (decide (Jv Y X=2))):=by
 refine⟨bK func101 (by kernel_rfl),?_⟩;have m:=Mem.refl w
 go_enter func101,ntmps101
 apply fD 14 [0] m;simp only[↓U,Vp,aa];refine aS O ((K.ext m.ext).lies1 wD O) ?_;simp only[I];refine tE m gN O (i.ext m.ext) ?_;intro M u m;apply aJ 2 [0] m;simp only[↓U];refine bU [3] [4,10,11,12,13,14,15,16,17,18,19,20,21] (λn vs P=>∃(a rs:List (P3×Bool)) (d:Array Nat) (c:Nat),vs=[G (c:Int)]/\Mem w P [iI M gx cx d]/\(lU pt bj X ex d a rs)/\(c=Jv Y a)/\(n=rs.length)) ?_ ?_
 .exact⟨_,[],X,#[],0,O,m,lU.start h,O,O⟩
 intro n vs wr L u T E
 obtain⟨a,rs,d,c,rfl,m,f,o,t⟩:=L;have ae:=f.len;simp only[zu,zF,zG];apply aG 2 [0] m;simp only[↓U];refine Er m 0 O O (i.ext m.ext) h f ?_;intro V kk vv d u m s;simp only[zF,zG] at m;refine C (nS O) ?_;apply aJ 2 [0] m;simp only[↓U];refine cQ O ?_ ?_<;>intro J
 .obtain⟨g,D,e,B,j⟩:=Dd J s;apply aG 4 [0] m;simp only[↓U];refine eB (pY O (m.r 0 O) (i.ext m.ext) h j) ?_;simp only[I];apply iV 5 [0,0] m;simp only[↓U,cY,aN,aa];intro W u m;refine mq m aD (by kernel_rfl) (fE 3 [] ?_);simp only[↓U,amm,aa];refine ql O (λu m=>((K.ext m.ext).lies1 wD O)) ?_;simp only[I];refine ql O (λu m=>((m.b 0 O).full aF aA)) ?_;simp only[I];refine kI (λu m=>dA (ek:=pt) (en:=bj) (k:=g) (v0:=X9) gN iN eL O O (R.ext m.ext) Q) ?_;simp only[I];refine bM ?_;intro u m;refine gc (cQ O (λl=>?_) (λl=>?_))
  .apply aG 2 [0] m;simp only[↓U];refine C (fZ O O (cF (by have:=ahF Y a;omega) (by have:=ahF Y a;omega))) ?_;apply aJ 3 [0] m;simp only[↓U];exact E e.length _ _ (by rw[t,B.length_eq];exact fu _) (by kernel_rfl) ⟨a++[(g,D)],e,_,c+1,O,(m.sel [X9,Z]),j,by rw[auk l,o],O⟩
  apply aG 2 [0] m;simp only[↓U];exact E e.length _ _ (by rw[t,B.length_eq];exact fu _) (by kernel_rfl) ⟨a++[(g,D)],e,_,c,O,(m.sel [X9,Z]),j,by rw[aul l,o],O⟩
 obtain rfl:=Db J s;have S:=aju (Y:=Y) f.done;apply aG 8 [0] m;simp only[↓U];refine aU O O ?_;try simp only[zD,zE]
 exact⟨_,O,m.ext,by rw[<-S,<-o];exact Y1 bj (decide_eq_decide.2 (by omega))⟩
def ajw(F Y:List (P3×Bool))(q k:P3):Bool:=decide (¬(k.x=q.x/\k.y=q.y/\k.z=q.z))&&(bS F k).getD X9 && !(bS Y k).getD X9
def acd(X Y F:List (P3×Bool))(q:P3):Bool:=!(bS F q).getD X9||(X.map rq).all λk=>!ajw F Y q k
def aum{X Y F:List (P3×Bool)}(h:(!(bS F q).getD X9)=Z):acd X Y F q=Z:=by unfold acd;rw[h];rfl
def aqj{X Y F:List (P3×Bool)}{b:Bool}{a rs:List (P3×Bool)}(h:(!(bS F q).getD X9)=X9)(d:(a++[(k,b)]++rs).Perm X)(c:ajw F Y q k=Z):acd X Y F q=X9:=by
 unfold acd;rw[h,Bool.false_or,mc];refine⟨k,c_.2 ⟨(k,b),d.mem_iff.1 (by simp),O⟩,by rw[c];decide⟩
def anv{X Y F:List (P3×Bool)}{a:List (P3×Bool)}(d:a.Perm X)(b:∀x∈a,ajw F Y q x.1=X9):acd X Y F q=Z:=by
 unfold acd;rw[Bool.or_eq_true];refine .inr (ej.2 λk c=>?_);obtain⟨x,e,rfl⟩:=c_.1 c;rw[b x (d.mem_iff.2 e)];rfl
def anw{ex ey ef:Array cu}{X Y F:List (P3×Bool)}{ts:List T3}{p:P3}(w:an)(d:fK w g91 [.pointer (H ⟨g90,0,G0⟩),G p.x,G p.y,G p.z,G q.x,G q.y,G q.z,.map (H gx),.map (H gy),.slice Am nm cm,.slice Ao no co,.slice Ar nr cr] 218)(Q:fK w g90 [.slice A N cap,.map (H ga),.map (H gf)] 109)(j:gQ w gx ex cx)(i:bC pt bj X ex cx)(ae:gQ w gy ey cy)(ab:bC pt bj Y ey cy)(D:gQ w gf ef cf)(t:bC pt bj F ef cf):dF G1 103 [.pointer (H ⟨g91,0,G0⟩)] w (λv _=>v=.bool (acd X Y F q)):=by
 refine⟨bK func103 (by kernel_rfl),?_⟩;have m:=Mem.refl w
 go_enter func103,ntmps103
 apply fD 6 [0] m;simp only[↓U];refine mq m aD (by kernel_rfl) (fE 3 [] ?_);simp only[↓U,aml,aa];refine ql O (λu m=>((d.ext m.ext).lies1 abd O)) ?_;simp only[I];refine L (eX O) (fE 1 [] ?_);simp only[↓U,Vg,aa];refine ql O (λu m=>((Q.ext m.ext).lies1 wD O)) ?_;simp only[I];refine fE 3 [] ?_;simp only[↓U,Vo,aa];refine ql O (λu m=>((d.ext m.ext).lies aF aA O O)) ?_;simp only[I,zy,aj,aa,ah,ag];refine kI (λu m=>dA (ek:=pt) (en:=bj) (k:=q) (v0:=X9) gN iN eL O O (D.ext m.ext) t) ?_;simp only[I];refine L (lB O) (bM ?_);intro u m;refine gc ?_;simp only[I];refine cQ O ?_ ?_<;>intro J
 .apply aG 5 [] m;simp only[↓U];refine aU O O ?_;try simp only[zD,zE]
  exact⟨_,O,m.ext,by rw[aum J]⟩
 apply aG 7 [0] m;simp only[↓U,Vp,aa];refine aS O ((d.ext m.ext).lies1 wD O) ?_;simp only[I];refine tE m gN O (j.ext m.ext) ?_;intro r1 u m;apply aJ 2 [0] m;simp only[↓U];refine bU [] [2,3,22,23,24,25,26,27,28,29,30,31,32,33,34,35,36,37,38,39,40,41,42,43,44,45,46,47,48,49,50,51] (λn vs wl=>∃(e rs:List (P3×Bool)) (f:Array Nat),vs=[]/\Mem w wl [iI r1 gx cx f]/\(lU pt bj X ex f e rs)/\(∀x∈e,ajw F Y q x.1=X9)/\(n=rs.length)) ?_ ?_
 .exact⟨_,[],X,#[],rfl,m,lU.start i,(λx h=>(by cases h)),rfl⟩
 intro n vs wr R u K1 ad
 obtain⟨e,rs,f,rfl,m,s,E,S⟩:=R;simp only[zu,zF,zG];apply aG 2 [0] m;simp only[↓U];refine Er m 0 O O (j.ext m.ext) i s ?_;intro bb kk vv f u m o;simp only[zF,zG] at m;refine C (nS O) ?_;apply aJ 2 [0] m;simp only[↓U];refine cQ O ?_ ?_<;>intro K
 .obtain⟨g,W,P,T,l⟩:=Dd K o;apply aG 4 [0] m;simp only[↓U];refine eB (pY O (m.r 0 O) (j.ext m.ext) i l) ?_;simp only[I];apply iV 5 [0,0] m;simp only[↓U,cY,aN,aa];intro g2 u m;refine mq m aD (by kernel_rfl) (fE 4 [1] ?_);simp only[↓U,aN,Vo,aa];refine ql O (λu m=>((d.ext m.ext).lies aF aA O O)) ?_;simp only[I,zy,aj,aa,ah,ag];refine L (Gu O O) (L aI (bZ O (λa=>aI) (bZ O (λa=>eX (B a O)) ?_)));simp only[I];refine bZ O (λa=>aY (c:=0) oZ O Tp (B a O) O) ?_;simp only[I];refine eG O (λa u m=>bE (B a O) ((d.ext m.ext).lies1 abd O)) (bZ O (λa=>eX (B a O)) (bZ O (λa=>aY (c:=0) underlying109 O Gq (B a O) O) ?_));simp only[I];refine eG O (λa u m=>bE (B a O) ((Q.ext m.ext).lies1 wD O)) (eG O (λa u m=>bE O ((m.b 0 O).full aF aA)) (eG O (λa u m=>dA (ek:=pt) (en:=bj) (k:=g) (v0:=X9) gN iN eL (B a O) (B a O) (D.ext m.ext) t) ?_));simp only[I];refine L (dR O O O) (L aI (bZ O (λa=>aI) (bZ O (λa=>eX (B a O)) ?_)));simp only[I];refine bZ O (λa=>aY (c:=0) oZ O Gq (B a O) O) ?_;simp only[I];refine eG O (λa u m=>bE (B a O) ((d.ext m.ext).lies1 wD O)) (eG O (λa u m=>bE O ((m.b 0 O).full aF aA)) (eG O (λa u m=>dA (ek:=pt) (en:=bj) (k:=g) (v0:=X9) gN iN eL (B a O) (B a O) (ae.ext m.ext) ab) ?_));simp only[I];refine bZ O (λa=>lB (B a O)) (L (dR O O O) (bM ?_));intro u m;refine gc ?_;simp only[I];refine cQ O ?_ ?_<;>intro M
  .apply aG 5 [] m;simp only[↓U];refine aU O O ?_;try simp only[zD,zE]
   exact⟨_,O,m.ext,by rw[aqj J l.1 M]⟩
  apply aG 2 [0] m;simp only[↓U];exact ad P.length _ _ (by rw[S,T.length_eq];exact fu _) (by kernel_rfl) ⟨e++[(g,W)],P,_,O,(m.sel [X9,Z]),l,(λx V=>(bv.1 V).elim (E x) λh=>(by rw[bp.1 h];exact M)),O⟩
 obtain rfl:=Db K o;apply aG 6 [] m;simp only[↓U];refine aU O O ?_;try simp only[zD,zE]
 exact⟨_,O,m.ext,by rw[anv s.done E]⟩
def Jw  : decide (cA t.normal.x=0/\cA t.normal.y=0/\cA t.normal.z=0)=oY t:=by
 unfold oY;refine decide_eq_decide.2 ?_;rw[gX,gX,gX];show (vV t.a t.b t.c).x=0/\(vV t.a t.b t.c).y=0/\(vV t.a t.b t.c).z=0↔_
 unfold Rq;generalize vV t.a t.b t.c=n;by_cases h1:n.x=0<;>by_cases h2:n.y=0<;>by_cases d:n.z=0<;>simp[h1,h2,d]
def ajx(o t:T3):Bool:=!oY t&&decide (al0 o t=1)
def af8(os ms:List T3):Bool:=(os.zip ms).all λx=>ajx x.1 x.2
def anx{k:Nat}{x:T3×T3}:(os.zip ms)[k]? = H x↔os[k]? = H x.1/\ms[k]? = H x.2:=by
 obtain⟨a,b⟩:=x;rw[List.getElem?_zip_eq_some]
def aqk{k:Nat}{o:T3}(b:os[k]? = H o)(c:ms[k]? = H t)(h:(oY t||decide (¬al0 o t=1))=Z):af8 os ms=X9:=by
 unfold af8;rw[mc];refine⟨(o,t),bn (anx.2 ⟨b,c⟩),?_⟩;unfold ajx;cases a:oY t<;>rw[a] at h<;>simp at h ⊢;exact h
def anz(h:∀(j:Nat)(o t:T3),os[j]? = H o->ms[j]? = H t->ajx o t=Z):af8 os ms=Z:=by
 unfold af8;rw[ej];intro x b;obtain⟨j,a⟩:=fp.1 b;obtain⟨h1,h2⟩:=anx.1 a;exact h j _ _ h1 h2
def awr{o:T3}(h:(oY t||decide (¬al0 o t=1))=X9):ajx o t=Z:=by
 unfold ajx;cases a:oY t<;>rw[a] at h<;>simp at h ⊢;exact h
def af9{cx cy cf:Nat}{ex ey ef:Array cu}{X Y F:List (P3×Bool)}{ts:List T3}{p:P3}(w:an)(C:fK w g91 [.pointer (H ⟨g90,0,G0⟩),G p.x,G p.y,G p.z,G q.x,G q.y,G q.z,.map (H gx),.map (H gy),.slice Am nm cm,.slice Ao no co,.slice Ar nr cr] 218)(af:fK w g90 [.slice A N cap,.map (H ga),.map (H gf)] 109)(M:cN w Am nm ms)(l:cN w Ao no os)(P:no=nm)(W:nm<=10000000):dF G1 104 [.pointer (H ⟨g91,0,G0⟩)] w (λv _=>v=.bool (af8 os ms)):=by
 refine⟨bK func104 (by kernel_rfl),?_⟩;have m:=Mem.refl w;subst P
 go_enter func104,ntmps104
 apply fD 10 [0] m;simp only[↓U,Lp,aa];refine aS O ((C.ext m.ext).lies1 nZ O) ?_;simp only[I];apply aJ 4 [0] m;simp only[↓U,jL];refine bU [10] [2,3,4,11,12,13,14,15,16,17,18,19,20,21,22,23,24,25,26,27,28,29] (λn vs J=>∃(k:Nat),vs=[G (k:Int)]/\Mem w J []/\(∀(j:Nat)(o t:T3),j<k->os[j]? = H o->ms[j]? = H t->ajx o t=Z)/\(k<=no)/\(n=no-k)) ?_ ?_
 .exact⟨_,0,O,m,(λj o t h=>by omega),bu _,O⟩
 intro n vs wr D u S K
 obtain⟨k,rfl,m,s,hk,hn⟩:=D;simp only[zu,zF,zG];apply aG 5 [0,0] m;simp only[↓U];refine bB O ?_ ?_<;>intro ab
 .obtain⟨t,g,ae,a,rfl,Q⟩:=M.get (i:=k) (by omega);obtain⟨o,f,ad,T,rfl,R⟩:=l.get (i:=k) (by omega);apply sO 13 [0,1,0,0] m;simp only[↓U,eO,mH,fJ,ai,aj,aa];refine⟨_,λu m=>((Q.ext m.ext).lies dG bA),λV=>⟨by omega,?_⟩⟩;intro u m;refine mq m aD (by kernel_rfl) (ql O (λu m=>((m.b 0 O).full dG bA)) ?_);simp only[I];refine jF O O (ab7 (t:=t)) (L aI (fU O (λd=>aI) (fU O (λd=>eX (B d O)) ?_)));simp only[I];refine fU O (λd=>aY (c:=0) oZ O iA (B d O) O) ?_;simp only[I];refine jU O (λd u m=>bE (B d O) ((C.ext m.ext).lies1 nZ O)) (fU O (λd=>aI) ?_);simp only[I];refine fU O (λd=>aP fP bA (B d O) (B d O) (by omega) (by omega) (qY (ai _))) ?_;simp only[I];refine jU O (λd u m=>bE (B d O) ((R.ext m.ext).lies dG bA)) (jU O (λd u m=>bE O ((m.b 0 O).full dG bA)) (agH O O (λd=>by simp only[dx,bm,df,zA,zB,zC,zD,zE,d,jK];rfl) (λd=>ant (t:=o) (r:=t)) (fU rfl (λd=>sT (B d rfl) rfl) (L (gY rfl rfl rfl) (bM ?_)))));intro u m;refine gc ?_;simp only[I];refine cQ O ?_ ?_<;>intro e
  .rw[Jw] at e;apply aG 5 [] m;simp only[↓U];refine aU O O ?_;try simp only[zD,zE]
   exact⟨_,O,m.ext,by rw[aqk f g e]⟩
  rw[Jw] at e;apply aG 6 [0] m;simp only[↓U];apply I0;omega;exact K (no-(k+1)) _ _ (by omega) (by kernel_rfl) ⟨k+1, rfl, (m.sel [X9]), (λj E t2 hj h1 h2=> by
   rcases Nat.lt_or_ge j k with h|h
   .exact s j E t2 h h1 h2
   obtain rfl:j=k:=by omega
   rw[f] at h1;rw[g] at h2;cases h1;cases h2;exact awr e),by omega,O⟩
 apply aG 6 [] m;simp only[↓U];refine aU O O ?_;try simp only[zD,zE]
 exact⟨_,O,m.ext,by rw[anz λj o t h1 h2=>s j o t (by have:=(az.1 h1).1;have:=l.len;omega) h1 h2]⟩
def ajy{w:an}{ts:List T3}(h:cN w A N ts)(b:A.isNone=Z):ts=[]:=by
 cases A with
 |some a=>cases b
 |none=>
  cases ts with
  |nil=>rfl
  |cons t ts=>
   obtain⟨a,e,_⟩:=h.row 0 t rfl;cases e
def anA{ts:List T3}(w:an)(a:cN w A N ts)(j:N<=10000000):dF G1 169 [.slice A N cap] w (SL 39 9 (ts.flatMap aM) ts.length w):=by
 refine⟨bK func169 (by kernel_rfl),?_⟩;have m:=Mem.refl w;have g:=a.len
 go_enter func169,ntmps169
 apply fD 8 [0] m;simp only[↓U];refine C (Sn fP O O) ?_;apply aJ 1 [0] m;simp only[↓U];refine cQ O ?_ ?_<;>intro f
 .obtain rfl:=ajy a f;apply aG 5 [] m;simp only[↓U];exact aU O O ⟨_,O,m.ext,⟨G0,0,0,O,O,Ow.nil _ _ _ _⟩⟩
 apply aG 3 [0] m;simp only[↓U];refine Kl fP (c:=9) (by kernel_rfl)  ?_;intro u i b d e;replace m:=m.newB b d e;simp only[I];replace m:=m.own 0 O (n:=0) (c:=9) O (X O);simp only[zG] at m;apply aJ 1 [0] m;simp only[↓U];refine bW m 0 O O fP kL O (by decide) O O (by rw[Kr,a.len]) (cN.cells (a.ext m.ext)) (rS _) (by omega) (by omega) ?_;intro h k u m;simp only[zF,zG] at m;simp only[aj,cl] at m ⊢;apply aJ 3 [] m;simp only[↓U];exact aU O O ⟨_,O,m.ext,⟨_,_,_,g.symm,O,(m.o 0 O)⟩⟩
end Go.Proofs.YtfekpcimgncioaaGreatDoor
namespace Go.Lith
open Go.RowKit
variable{t:T3}{f:P3->P3}{l ts us:List T3}{x y a u c:P3}{D:List Mv}{m:Mv}
def adY{u:T3}(h:abF t u):sY u=sY t:=by
 have k:=abG h;have e:∀s:T3,sY s = !s.nd:=λs=>by
  cases a:s.nd with
  |true=>
   obtain⟨h1,h2,b⟩:=vM.1 a;simp[sY,h1,h2,b]
  |false=>
   rcases alX.1 a with h|h|h<;>simp[sY,h]
 rw[e,e,k]
def aws(h:(t.mapP f).nd=X9):hF f t=[]:=K0 (by rw[h];exact fh)
def aun(h:(t.mapP f).nd=Z):hF f t=[F (t.mapP f)]:=Z9 h
/-! ### Corners in order -/
def ahG{p:P3}:∀{ps:List P3},tL ps->(ps.dropWhile λx=>decide (x.Lt p)).head? ≠ H p->∀x∈ps.dropWhile λx=>decide (x.Lt p),p.Lt x
 | [],_,_,x,h=>by cases h
 |y::ys,d,a,x,h=>by
  obtain⟨h1,h2⟩:=b_.1 d;rw[List.dropWhile_cons] at h a;split at h
  . rename_i b
    rw[Z9 b] at a;exact ahG h2 a x h
  rename_i b
  rw[K0 b] at a;have c:p.Lt y:=by
   rcases lt_tri y p with k|k|k
   .exact Y0 (Y5 k) b
   .rw[k] at a;exact Y0 O a
   exact k
  rcases av.1 h with rfl|h
  .exact c
  exact P3.lt_trans c (h1 x h)
def Co{ps:List P3}{p:P3}(b:tL ps):tL (iG ps p):=by
 unfold iG;split
 .exact b
 rename_i h
 have d:(ps.drop (acW ps p))=ps.dropWhile λx=>decide (x.Lt p):=abv ps;have i:(ps.take (acW ps p))=ps.takeWhile λx=>decide (x.Lt p):=abu ps;have c:=b;rw[tL,<-List.takeWhile_append_dropWhile (p:=λx=>decide (x.Lt p)) (l:=ps)] at c;obtain⟨h1,h2,e⟩:=il.1 c;have f:=ahG (p:=p) b (by rw[<-d,List.head?_drop];exact h);have g:∀x∈ps.takeWhile λx=>decide (x.Lt p),x.Lt p:=λx hx=>Y9 (afl (p:=λx:P3=>decide (x.Lt p)) hx);rw[d,i];refine il.2 ⟨il.2 ⟨h1,ke _ _,λx hx y a=>?_⟩,h2,λx hx y a=>?_⟩
 .rw[bp.1 a];exact g x hx
 rcases bv.1 hx with hx|hx
 .exact e x hx y a
 rw[bp.1 hx];exact f y a
def sM(ts:List T3):tL (cR ts):=by
 have:∀(ts:List T3)(ps:List P3),tL ps->tL (ts.foldl (λps t=>iG (iG (iG ps t.a) t.b) t.c) ps):=by
  intro ts
  induction ts with
  |nil=>exact λps h=>h
  |cons t ts ih=>exact λps h=>ih _ (Co (Co (Co h)))
 exact this ts [] ma
/-! ### Lists turned,mapped,chosen from -/
def Wo{p:P3}:J (dM l) p x y↔J l p x y:=by
 rw[apy (oG l)];constructor
 . intro h
   obtain⟨t,c,b⟩:=fC.1 h;obtain⟨s,a,rfl⟩:=c_.1 c;exact fC.2 ⟨s,a,(adB (kY s)).1 b⟩
 intro h
 obtain⟨s,a,b⟩:=fC.1 h;exact fC.2 ⟨F s,gm a,(adB (kY s)).2 b⟩
def oV{b:P3}:(a,b)∈aR ts↔∃y,J ts a b y:=by
 constructor
 . intro h
   rw[<-mX] at h;obtain⟨⟨e,y⟩,d,c⟩:=c_.1 h;simp only at c;subst c;exact⟨y,d⟩
 rintro⟨y,h⟩
 exact Ca h
def ajz(t:T3):(Yi (F t)).Perm (Yi t):=by
 rcases kY t with h|h|h
 .rw[h]
 .rw[h];exact List.perm_append_comm (l₁:=[(t.b,t.c),(t.c,t.a)]) (l₂:=[(t.a,t.b)])
 rw[h];exact List.perm_append_comm (l₁:=[(t.c,t.a)]) (l₂:=[(t.a,t.b),(t.b,t.c)])
def Mb:∀l:List T3,(aR (l.map F)).Perm (aR l)
 | []=>.refl _
 |t::l=>(ajz t).append (Mb l)
def oK(l:List T3):(aR (dM l)).Perm (aR l):=((oG l).flatMap_right _).trans (Mb l)
def auo{p:P3}:J (ts.map (T3.mapP f)) p x y↔∃g i j,J ts g i j/\f g=p/\f i=x/\f j=y:=by
 constructor
 . intro h
   obtain⟨t,k,e⟩:=fC.1 h;obtain⟨s,d,rfl⟩:=c_.1 k;rcases Jk.1 e with ⟨rfl,rfl,rfl⟩|⟨rfl,rfl,rfl⟩|⟨rfl,rfl,rfl⟩
   .exact⟨s.a,s.b,s.c,fC.2 ⟨s,d,Jk.2 (.inl ⟨O,O,O⟩)⟩,O,O,O⟩
   .exact⟨s.b,s.c,s.a,fC.2 ⟨s,d,Jk.2 (.inr (.inl ⟨O,O,O⟩))⟩,O,O,O⟩
   exact⟨s.c,s.a,s.b,fC.2 ⟨s,d,Jk.2 (.inr (.inr ⟨O,O,O⟩))⟩,O,O,O⟩
 rintro⟨g,i,j,h,rfl,rfl,rfl⟩
 obtain⟨s,d,e⟩:=fC.1 h;refine fC.2 ⟨s.mapP f,gm d,Jk.2 ?_⟩;rcases Jk.1 e with ⟨rfl,rfl,rfl⟩|⟨rfl,rfl,rfl⟩|⟨rfl,rfl,rfl⟩
 .exact .inl ⟨O,O,O⟩
 .exact .inr (.inl ⟨O,O,O⟩)
 exact .inr (.inr ⟨O,O,O⟩)
def aup{p:P3}:J (ts.filter T3.nd) p x y↔J ts p x y/\p≠x/\x≠y/\y≠p:=by
 constructor
 . intro h
   obtain⟨t,e,d⟩:=fC.1 h;obtain⟨h1,h2⟩:=di.1 e;obtain⟨a,b,c⟩:=vM.1 h2;refine⟨fC.2 ⟨t,h1,d⟩,?_⟩;rcases Jk.1 d with ⟨rfl,rfl,rfl⟩|⟨rfl,rfl,rfl⟩|⟨rfl,rfl,rfl⟩
   .exact⟨a,b,c⟩
   .exact⟨b,c,a⟩
   exact⟨c,a,b⟩
 rintro⟨h,a,b,c⟩
 obtain⟨t,e,d⟩:=fC.1 h;refine fC.2 ⟨t,di.2 ⟨e,vM.2 ?_⟩,d⟩;rcases Jk.1 d with ⟨rfl,rfl,rfl⟩|⟨rfl,rfl,rfl⟩|⟨rfl,rfl,rfl⟩
 .exact⟨a,b,c⟩
 .exact⟨c,a,b⟩
 exact⟨b,c,a⟩
def Jy{v p:P3}:J (gF us u v) p x y↔(∃a b c,J us a b c/\K u v a=p/\K u v b=x/\K u v c=y)/\p≠x/\x≠y/\y≠p:=by
 unfold gF vN;rw[Wo,aup];exact and_congr_left λ_=>auo (f:=K u v)
def q{b:P3}(h:J ts a b c):J ts b c a:=qO h
def jR(dg:nE ts){b:P3}(h:J ts a b c):a≠b/\b≠c/\c≠a:=by
 obtain⟨t,g,i⟩:=fC.1 h;obtain⟨d,e,f⟩:=Yh (dg t g);rcases Jk.1 i with ⟨rfl,rfl,rfl⟩|⟨rfl,rfl,rfl⟩|⟨rfl,rfl,rfl⟩
 .exact⟨d,e,f⟩
 .exact⟨e,f,d⟩
 exact⟨f,d,e⟩
def gL{b:P3}(h:J ts a b c):iE ts a b=Z:=Jd (Ca h)
def pW{b:P3}(h:J ts a b c):iE ts a c=Z:=gJ (gL (q (q h)))
def Mc{b:P3}(h:iE ts a b=Z)(c:a≠b):(∃y,J ts a b y)\/∃y,J ts b a y:=(Uj h c).imp oV.1 oV.1
/-! ### Closed sets in place of rings -/
def Wp(N:P3->P3->Prop):Prop:=∀S:P3->Prop,(∃x,S x)->(∀x,S x->(∃y,N x y)/\∀y,N x y->S y)->∀x y,N x y->S x
def uC.back{N:P3->P3->Prop}(fn:∀x y z,N x y->N x z->y=z){s:P3}(hc:Cyc N s)(h:uC N s x):uC N x s:=by
 induction h with
 |refl=>exact .refl _
 |@tail b c _ k ih=>
  rcases ih.head with rfl|⟨d,a,r⟩
  . obtain⟨y,e,r⟩:=hc
    rw[fn _ _ _ k e];exact r
  rw[fn _ _ _ k a];exact r
def Wp.ring{N:P3->P3->Prop}(fn:∀x y z,N x y->N x z->y=z)(h:Wp N):pB N:=λs hc=>h (uC N s) ⟨s,.refl _⟩ λx a=>⟨by
 rcases (a.back fn hc).head with rfl|⟨d,b,_⟩
 .exact hc.imp λ_ h=>h.1
 exact⟨d,b⟩,λ_ c=>.tail a c⟩
def ahH{N:P3->P3->Prop}{E:List P3}(k:∀x y,N x y->x∈E){S:P3->Prop}(l:∃x,S x)(hc:∀x,S x->(∃y,N x y)/\∀y,N x y->S y):∃s,S s/\Cyc N s:=by
 refine Classical.byContradiction λt=>?_;obtain⟨q,j⟩:=l
 -- longer and longer lists of different points,each reached from all before
 have key:∀n,∃L:List P3,L.length=n/\L.Nodup/\(∀x∈L,x∈E)/\∃a,S a/\∀x∈L,∃y,N x y/\S x/\uC N y a:=by
  intro n
  induction n with
  |zero=>exact⟨[],rfl,lx,λx h=>(by cases h),q,j,λx h=>(by cases h)⟩
  |succ n ih=>
   obtain⟨L,h1,h2,d,a,e,i⟩:=ih;obtain⟨⟨b,c⟩,r⟩:=hc a e;have o:a∉L:=λm=>by
    obtain⟨y,g,_,f⟩:=i a m;exact t ⟨a,e,y,g,f⟩
   refine⟨a::L,by simp[h1],gv.2 ⟨o,h2⟩,λx hx=>?_,b,r b c,λx hx=>?_⟩
   . rcases av.1 hx with rfl|hx
     .exact k _ _ c
     exact d x hx
   rcases av.1 hx with rfl|hx
   .exact⟨b,c,e,.refl _⟩
   obtain⟨y,g,p,f⟩:=i x hx
   exact⟨y,g,p,.tail f c⟩
 obtain⟨L,h1,h2,d,_⟩:=key (E.length+1);have:=oC h2 d;omega
def pB.sets{N:P3->P3->Prop}{E:List P3}(a:∀x y,N x y->x∈E)(h:pB N):Wp N:=λS b hc=>by
 obtain⟨s,c,e⟩:=ahH a b hc;have key:∀x,uC N s x->S x:=λx d=>by
  induction d with
  |refl=>exact c
  |tail _ k ih=>exact (hc _ ih).2 _ k
 exact λx y f=>key x (h s e x y f)
/-! ### A path in a corner's place -/
structure Pth(u c1 c2:P3)(A P N N':P3->P3->Prop):Prop where
 n:∀x y,N x y↔A x y\/(x=c1/\y=u)\/(x=u/\y=c2)
 n':∀x y,N' x y↔A x y\/P x y
 a:∀x y,A x y->x≠u/\y≠u/\x≠c1/\y≠c2
 p:∀x y,P x y->uC P c1 x/\uC P y c2
 pc:uC P c1 c2
 i:∀x y,P x y->(x=c1\/((∀z,¬A x z)/\∀z,¬A z x))/\(y=c2\/((∀z,¬A y z)/\∀z,¬A z y))
 pe:∀y,¬P c2 y
 pu:∀x y,P x y->x≠u/\y≠u
 n1:c1≠u
 n2:c2≠u
 n3:c1≠c2
section
variable{u c1 c2:P3}{A P N N':P3->P3->Prop}
def Pth.nopin(h:Pth u c1 c2 A P N N')(s:Wp N):Wp N':=by
 rintro S' ⟨m,j⟩ f;have up:∀a b,uC P a b->S' a->S' b:=λa b r t=>by
  induction r with
  |refl=>exact t
  |tail _ k ih=>exact (f _ ih).2 _ ((h.n' _ _).2 (.inr k))
 have all:=s (λx=>(x=u/\S' c2)\/(x≠u/\S' x/\(x=c1\/∃y,A x y))) (by
  obtain⟨⟨y,c⟩,_⟩:=f m j;rcases (h.n' _ _).1 c with k|k
  .exact⟨m,.inr ⟨(h.a _ _ k).1,j,.inr ⟨y,k⟩⟩⟩
  .exact⟨u,.inl ⟨O,up _ _ (h.p _ _ k).2 ((f _ j).2 _ c)⟩⟩) (λx w=>by
  rcases w with ⟨rfl,h2⟩|⟨v,d,rfl|⟨B,l⟩⟩
  . refine⟨⟨c2,(h.n _ _).2 (.inr (.inr ⟨O,O⟩))⟩,λy c=>?_⟩
    rcases (h.n _ _).1 c with k|⟨e,_⟩|⟨_,rfl⟩
    .exact Y0 O (h.a _ _ k).1
    .exact Y0 e.symm h.n1
    obtain⟨z,g⟩:=(f _ h2).1
    rcases (h.n' _ _).1 g with k|k
    .exact .inr ⟨h.n2,h2,.inr ⟨z,k⟩⟩
    exact Y0 k (h.pe z)
  . refine⟨⟨u,(h.n _ _).2 (.inr (.inl ⟨O,O⟩))⟩,λy c=>?_⟩
    rcases (h.n _ _).1 c with k|⟨_,rfl⟩|⟨e,_⟩
    .exact Y0 O (h.a _ _ k).2.2.1
    .exact .inl ⟨O,up _ _ h.pc d⟩
    exact Y0 e h.n1
  refine⟨⟨B,(h.n _ _).2 (.inl l)⟩,λy c=>?_⟩
  rcases (h.n _ _).1 c with k|⟨e,_⟩|⟨e,_⟩
  . have o:=(f _ d).2 y ((h.n' _ _).2 (.inl k))
    refine .inr ⟨(h.a _ _ k).2.1,o,?_⟩;obtain⟨z,g⟩:=(f _ o).1;rcases (h.n' _ _).1 g with q|q
    .exact .inr ⟨z,q⟩
    rcases (h.i _ _ q).1 with e|⟨_,e⟩
    .exact .inl e
    exact Y0 k (e x)
  .exact Y0 e (h.a _ _ l).2.2.1
  exact Y0 e v)
 intro x y C;rcases (h.n' _ _).1 C with k|k
 . rcases all x y ((h.n _ _).2 (.inl k)) with ⟨e,_⟩|⟨_,d,_⟩
   .exact Y0 e (h.a _ _ k).1
   exact d
 rcases all c1 u ((h.n _ _).2 (.inr (.inl ⟨rfl,rfl⟩))) with ⟨e,_⟩|⟨_,d,_⟩
 .exact Y0 e h.n1
 exact up _ _ (h.p _ _ k).1 d
def Pth.fan(h:Pth u c1 c2 A P N N'){a z:P3}(m:a≠u)(j:∀y,P a y->a=c1)(k:Jj N' a z):Jj N a z:=by
 have g:uC N c1 c2:=.tail (.one ((h.n _ _).2 (.inr (.inl ⟨rfl,rfl⟩)))) ((h.n _ _).2 (.inr (.inr ⟨rfl,rfl⟩)));have key:∀b,uC N' a b->b≠u/\(uC N a b\/(uC N a c1/\∃x,P x b)):=λb r=>by
  induction r with
  |refl=>exact⟨m,.inl (.refl _)⟩
  |@tail b c _ s ih=>
   rcases (h.n' _ _).1 s with k|k
   . refine⟨(h.a _ _ k).2.1,.inl ?_⟩
     rcases ih.2 with r|⟨r,x,f⟩
     .exact .tail r ((h.n _ _).2 (.inl k))
     rcases (h.i _ _ f).2 with rfl|⟨e,_⟩
     .exact .tail (r.trans g) ((h.n _ _).2 (.inl k))
     exact Y0 k (e c)
   refine⟨(h.pu _ _ k).2,.inr ⟨?_,b,k⟩⟩
   rcases ih.2 with r|⟨r,_⟩
   . rcases (h.i _ _ k).1 with rfl|⟨_,e⟩
     .exact r
     cases r with
     |refl=>rw[<-j _ k];exact .refl _
     |@tail w _ r s=>
      rcases (h.n _ _).1 s with q|⟨_,q⟩|⟨_,q⟩
      .exact Y0 q (e w)
      .exact Y0 q (h.pu _ _ k).1
      rw[q] at k;exact Y0 k (h.pe c)
   exact r
 obtain⟨t,l⟩:=key z k.1;refine⟨?_,λy o=>?_⟩
 . rcases l with r|⟨r,x,f⟩
   .exact r
   rcases (h.p _ _ f).2.head with e|⟨w,d,_⟩
   .rw[e];exact r.trans g
   exact Y0 ((h.n' _ _).2 (.inr d)) (k.2 w)
 rcases (h.n _ _).1 o with q|⟨rfl,_⟩|⟨e,_⟩
 .exact k.2 y ((h.n' _ _).2 (.inl q))
 . rcases h.pc.head with e|⟨w,d,_⟩
   .exact h.n3 e
   exact k.2 w ((h.n' _ _).2 (.inr d))
 exact t e
def Ins.nopin_out{p b c:P3}(h:Ins p b c N N')(j:pB N'):pB N:=by
 rintro s ⟨y,g,d⟩ a i f;obtain⟨n1,n2⟩:=h.no _ _ g;have hc:Cyc N' s:=by
  by_cases e:s=b/\y=c
  . obtain⟨rfl,rfl⟩:=e
    exact⟨p,(h.iff _ _).2 (.inr (.inl ⟨O,O⟩)),(uC.one ((h.iff _ _).2 (.inr (.inr ⟨O,O⟩)))).trans (h.up d)⟩
  exact⟨y,(h.iff _ _).2 (.inl ⟨g,e⟩),h.up d⟩
 obtain⟨n3,_⟩:=h.no _ _ f;have k:∃w,N' a w:=by
  by_cases e:a=b/\i=c
  .exact⟨p,(h.iff _ _).2 (.inr (.inl ⟨e.1,O⟩))⟩
  exact⟨i,(h.iff _ _).2 (.inl ⟨f,e⟩)⟩
 obtain⟨w,l⟩:=k;rcases h.down n1 (j s hc a w l) with ⟨_,r⟩|⟨e,_⟩
 .exact r
 exact Y0 e n3
end
structure fA(us:List T3)(u v c1 c2:P3):Prop where
 dg:nE us
 nd:(aR us).Nodup
 pin:∀p,pB (J us p)
 ne:u≠v
 int:∀x,(∃y,J us u x y)↔∃y,J us x u y
 h1:J us u v c1
 h2:J us v u c2
 hc:c1≠c2
 com:∀b,b≠v->b≠u->iE us u b=Z->iE us v b=Z->b=c1\/b=c2
def ahI{v:P3}(h:K u v x≠v):K u v x=x:=by
 unfold K at h ⊢;split
 .rename_i e;rw[Z9 e] at h;exact Y0 O h
 rfl
def ace{v:P3}(a:y≠v)(h:K u v x=y):x=y:=(ahI (h▸a)).symm.trans h
def acf{v:P3}(a:u≠v)(x:P3):K u v x≠u:=by
 unfold K;split
 .exact Ne.symm a
 rename_i h;exact h
def aga{v:P3}(h:K u v x=v):x=u\/x=v:=by
 unfold K at h;split at h
 .exact .inl (by assumption)
 exact .inr h
section
variable{us:List T3}{u v c1 c2:P3}
def fA.fn(_c:fA us u v c1 c2){a b x y:P3}(h:J us a b x)(k:J us a b y):x=y:=wZ _c.nd h k
def fA.inj(c:fA us u v c1 c2){a b x y:P3}(h:J us a x b)(k:J us a y b):x=y:=c.fn (q (q h)) (q (q k))
def fA.d1(c:fA us u v c1 c2):∃d,J us u c1 d/\d≠v/\d≠u:=by
 obtain⟨d,a⟩:=(c.int c1).2 ⟨v,q (q c.h1)⟩;exact⟨d,a,λe=>c.hc (c.fn (q (q (e▸a))) c.h2),(jR c.dg a).2.2⟩
def fA.d2(c:fA us u v c1 c2):∃d,J us c2 u d/\d≠v/\d≠u:=by
 obtain⟨d,a⟩:=(c.int c2).1 ⟨v,q c.h2⟩;exact⟨d,a,λe=>c.hc (c.fn c.h1 (q (e▸a))),Ne.symm (jR c.dg a).2.1⟩
def fA.c1v(c:fA us u v c1 c2):c1≠v/\c1≠u:=⟨Ne.symm (jR c.dg c.h1).2.1,(jR c.dg c.h1).2.2⟩
def fA.c2v(c:fA us u v c1 c2):c2≠v/\c2≠u:=⟨(jR c.dg c.h2).2.2,Ne.symm (jR c.dg c.h2).2.1⟩
/-! ### The corners behind each other,afterwards -/
def fA.nu(c:fA us u v c1 c2){p x y:P3}(h:J (gF us u v) p x y):p≠u/\x≠u/\y≠u:=by
 obtain⟨⟨a,b,d,_,rfl,rfl,rfl⟩,_⟩:=Jy.1 h;exact⟨acf c.ne _,acf c.ne _,acf c.ne _⟩
def fA.far(c:fA us u v c1 c2){p x y:P3}(f:p≠u)(d:p≠v):J (gF us u v) p x y↔∃a b,J us p a b/\K u v a=x/\K u v b=y/\x≠y:=by
 rw[Jy];constructor
 . rintro⟨⟨l,a,b,h,j,g,i⟩,_,k,_⟩
   obtain rfl:=ace d j;exact⟨a,b,h,g,i,k⟩
 rintro⟨a,b,h,rfl,rfl,k⟩
 obtain⟨n1,_,n3⟩:=jR c.dg h;refine⟨⟨p,a,b,h,gD f,O,O⟩,λe=>?_,k,λe=>?_⟩
 .exact n1 (ace d e.symm).symm
 exact n3 (ace d e)
def fA.mid(c:fA us u v c1 c2){x y:P3}:J (gF us u v) v x y↔(J us v x y/\x≠u/\y≠u)\/(J us u x y/\x≠v/\y≠v):=by
 rw[Jy];constructor
 . rintro⟨⟨g,i,j,h,f,rfl,rfl⟩,a,b,d⟩
   obtain⟨n1,_,n3⟩:=jR c.dg h;have ex:=ahI (Ne.symm a);have ey:=ahI d;rw[ex] at a b ⊢;rw[ey] at b d ⊢;rcases aga f with rfl|rfl
   .exact .inr ⟨h,Ne.symm a,d⟩
   exact .inl ⟨h,λe=>by rw[e,lR] at ex;exact c.ne ex.symm,λe=>by rw[e,lR] at ey;exact c.ne ey.symm⟩
 rintro (⟨h,a,b⟩|⟨h,a,b⟩)<;>obtain⟨n1,n2,n3⟩:=jR c.dg h
 .exact⟨⟨v,x,y,h,gD (Ne.symm c.ne),gD a,gD b⟩,n1,n2,n3⟩
 exact⟨⟨u,x,y,h,lR,gD (Ne.symm n1),gD n3⟩,Ne.symm a,n2,b⟩
/-! ### Edges -/
def fA.e_far(c:fA us u v c1 c2){a b:P3}(h1:a≠u)(h2:a≠v)(d:b≠v):(∃y,J (gF us u v) a b y)↔b≠u/\∃y,J us a b y:=by
 constructor
 . rintro⟨y,h⟩
   obtain⟨l,k,i,f,_,_⟩:=(c.far h1 h2).1 h;have e:=ace d f;exact⟨f▸acf c.ne _,k,e▸i⟩
 rintro⟨j,y,h⟩
 refine⟨K u v y,(c.far h1 h2).2 ⟨b,y,h,gD j,O,λe=>?_⟩⟩;by_cases g:y=u
 .rw[g,lR] at e;exact d e
 rw[gD g] at e;exact (jR c.dg h).2.1 e
def fA.e_out(c:fA us u v c1 c2){b:P3}(a:b≠u)(d:b≠v):(∃y,J (gF us u v) v b y)↔(∃y,J us v b y/\y≠u)\/∃y,J us u b y/\y≠v:=by
 constructor
 . rintro⟨y,h⟩
   rcases c.mid.1 h with ⟨h,_,k⟩|⟨h,_,k⟩
   .exact .inl ⟨y,h,k⟩
   exact .inr ⟨y,h,k⟩
 rintro (⟨y,h,k⟩|⟨y,h,k⟩)
 .exact⟨y,c.mid.2 (.inl ⟨h,a,k⟩)⟩
 exact⟨y,c.mid.2 (.inr ⟨h,d,k⟩)⟩
def fA.e_in(c:fA us u v c1 c2){b:P3}(a:b≠u)(d:b≠v):(∃y,J (gF us u v) b v y)↔(∃y,J us b v y/\y≠u)\/∃y,J us b u y/\y≠v:=by
 constructor
 . rintro⟨y,h⟩
   rcases c.mid.1 (q h) with ⟨h,k,_⟩|⟨h,k,_⟩
   .exact .inl ⟨y,q (q h),k⟩
   exact .inr ⟨y,q (q h),k⟩
 rintro (⟨y,h,k⟩|⟨y,h,k⟩)
 .exact⟨y,q (q (c.mid.2 (.inl ⟨q h,k,a⟩)))⟩
 exact⟨y,q (q (c.mid.2 (.inr ⟨q h,k,d⟩)))⟩
def fA.e_v(c:fA us u v c1 c2){b:P3}(f:b≠u)(j:b≠v) :
 (((∃y,J (gF us u v) v b y)↔∃y,J us v b y)/\((∃y,J (gF us u v) b v y)↔∃y,J us b v y)) \/
 ((∃y,J (gF us u v) v b y)/\(∃y,J (gF us u v) b v y)/\iE us v b=X9/\iE us u b=Z):=by
 rw[c.e_out f j,c.e_in f j];by_cases k:iE us u b=Z
 . by_cases g:iE us v b=Z
   . left
     rcases c.com b j f k g with rfl|rfl
     . obtain⟨d,i,l,_⟩:=c.d1
       refine⟨⟨λ_=>⟨u,q c.h1⟩,λ_=>.inr ⟨d,i,l⟩⟩,⟨λh=>?_,λ⟨y,h⟩=>.inl ⟨y,h,λe=>?_⟩⟩⟩
       . rcases h with ⟨y,h,_⟩|⟨y,h,e⟩
         .exact⟨y,h⟩
         exact Y0 (c.fn h (q (q c.h1))) e
       rw[e] at h
       exact c.hc (c.fn (q h) c.h2).symm.symm
     obtain⟨d,i,l,_⟩:=c.d2
     refine⟨⟨λh=>?_,λ⟨y,h⟩=>.inl ⟨y,h,λe=>?_⟩⟩,⟨λ_=>⟨u,q (q c.h2)⟩,λ_=>.inr ⟨d,i,l⟩⟩⟩
     . rcases h with ⟨y,h,_⟩|⟨y,h,e⟩
       .exact⟨y,h⟩
       exact Y0 (c.fn h (q c.h2)) e
     rw[e] at h
     exact c.hc (c.fn c.h1 (q (q h)))
   right
   have a:∀y,¬J us v b y/\¬J us b v y:=λy=>⟨λh=>g (gL h),λh=>g (gJ (gL h))⟩
   have o:(∃y,J us u b y)/\∃y,J us b u y:=by
    rcases Mc k (Ne.symm f) with h|h
    .exact⟨h,(c.int b).1 h⟩
    exact⟨(c.int b).2 h,h⟩
   obtain⟨⟨y,m⟩,p,n⟩:=o;refine⟨.inr ⟨y,m,λe=>(a u).2 (q (e▸m))⟩,.inr ⟨p,n,λe=>(a u).1 (q (q (e▸n)))⟩,by simpa using g,k⟩
 left
 have a:∀y,¬J us u b y/\¬J us b u y:=λy=>⟨λh=>k (gL h),λh=>k (gJ (gL h))⟩
 refine⟨⟨λh=>?_,λ⟨y,h⟩=>.inl ⟨y,h,λe=>(a v).2 (q (e▸h))⟩⟩,⟨λh=>?_,λ⟨y,h⟩=>.inl ⟨y,h,λe=>(a v).1 (q (q (e▸h)))⟩⟩⟩
 . rcases h with ⟨y,h,_⟩|⟨y,h,_⟩
   .exact⟨y,h⟩
   exact Y0 h (a y).1
 rcases h with ⟨y,h,_⟩|⟨y,h,_⟩
 .exact⟨y,h⟩
 exact Y0 h (a y).2
def fA.bord(c:fA us u v c1 c2)(e:E3):rA (gF us u v) e↔rA us e:=by
 obtain⟨a,b⟩:=e;unfold rA;simp only[oV];by_cases j:a=u
 . subst j
   refine⟨λh=>?_,λh=>Y0 ((c.int b).1 h.1) h.2⟩;obtain⟨⟨y,h⟩,_⟩:=h;exact Y0 O (c.nu h).1
 by_cases k:b=u
 . subst k
   refine⟨λh=>?_,λh=>Y0 ((c.int a).2 h.1) h.2⟩;obtain⟨⟨y,h⟩,_⟩:=h;exact Y0 O (c.nu h).2.1
 by_cases l:a=v
 . subst l
   by_cases d:b=a
   . subst d
     exact⟨λ⟨⟨y,h⟩,_⟩=>Y0 O (Jy.1 h).2.1,λ⟨⟨y,h⟩,_⟩=>Y0 O (jR c.dg h).1⟩
   rcases c.e_v k d with ⟨f,g⟩|⟨_,g,i,_⟩
   .rw[f,g]
   refine⟨λh=>Y0 g h.2,λ⟨⟨y,h⟩,_⟩=>?_⟩
   rw[gL h] at i;cases i
 by_cases d:b=v
 . subst d
   rcases c.e_v j l with ⟨f,g⟩|⟨f,_,i,_⟩
   .rw[f,g]
   refine⟨λh=>Y0 f h.2,λ⟨⟨y,h⟩,_⟩=>?_⟩
   rw[gJ (gL h)] at i;cases i
 rw[c.e_far j l d,c.e_far k d l]
 simp[j,k]
/-! ### No edge twice -/
def fA.inj_s(c:fA us u v c1 c2){b x y:P3}(h:J us u b x)(a:x≠v)(k:J us v b y)(d:y≠u):False:=by
 obtain⟨n1,_,_⟩:=jR c.dg h;obtain⟨n2,_,_⟩:=jR c.dg k;rcases c.com b (Ne.symm n2) (Ne.symm n1) (gL h) (gL k) with rfl|rfl
 .exact d (c.fn k (q c.h1))
 exact a (c.fn h (q c.h2))
def fA.inj_t(c:fA us u v c1 c2){b x y:P3}(h:J us b u x)(a:x≠v)(k:J us b v y)(d:y≠u):False:=by
 obtain⟨n1,_,_⟩:=jR c.dg h;obtain⟨n2,_,_⟩:=jR c.dg k;rcases c.com b n2 n1 (gJ (gL h)) (gJ (gL k)) with rfl|rfl
 .exact a (c.fn h (q (q c.h1)))
 exact d (c.fn k (q (q c.h2)))
def Wq(u v:P3):∀us:List T3,vN u v us=(us.filter λt=>(pT u v t).nd).map (pT u v)
 | []=>rfl
 |t::us=>by
  have ih:=Wq u v us;unfold vN at ih ⊢;rw[bm,ft,ft];split
  .rw[bm,ih]
  exact ih
def aaB(f:P3->P3):∀ts:List T3,aR (ts.map (T3.mapP f))=(aR ts).map λe=>(f e.1,f e.2)
 | []=>rfl
 |t::ts=>by
  have ih:=aaB f ts;unfold aR at ih ⊢;rw[bm,cz,cz,db,ih];rfl
def aaC{p:T3->Bool}:∀ts:List T3,(aR (ts.filter p)).Sublist (aR ts)
 | []=>.refl _
 |t::ts=>by
  have ih:=aaC (p:=p) ts;unfold aR at ih ⊢;rw[ft];split
  .rw[cz,cz];exact (List.Sublist.refl _).append ih
  rw[cz];exact ih.trans (List.sublist_append_right _ _)
def fA.nodup(c:fA us u v c1 c2):(aR (gF us u v)).Nodup:=by
 unfold gF;rw[(oK _).nodup_iff,Wq];show (aR (List.map (T3.mapP (K u v)) _)).Nodup
 rw[aaB,List.Nodup,mb];refine (c.nd.sublist (aaC us)).imp_of_mem λ{e g} D E H A=>H ?_;have C:∀{a b:P3},(a,b)∈aR (us.filter λt=>(pT u v t).nd)->∃y,J us a b y/\K u v a≠K u v b/\K u v b≠K u v y/\K u v y≠K u v a:=λh=>by
  obtain⟨y,h⟩:=oV.1 h;obtain⟨t,F,z⟩:=fC.1 h;obtain⟨h1,h2⟩:=di.1 F;obtain⟨q,r,s⟩:=vM.1 h2;refine⟨y,fC.2 ⟨t,h1,z⟩,?_⟩;rcases Jk.1 z with ⟨rfl,rfl,rfl⟩|⟨rfl,rfl,rfl⟩|⟨rfl,rfl,rfl⟩
  .exact⟨q,r,s⟩
  .exact⟨r,s,q⟩
  exact⟨s,q,r⟩
 obtain⟨a,b⟩:=e;obtain⟨I,L⟩:=g;obtain⟨y,k,m1,m2,l⟩:=C D;obtain⟨M,m,B,n,o⟩:=C E;simp only[fy] at A;obtain⟨G,w⟩:=A;have two:∀{x i:P3},K u v x=K u v i->x=i\/(x=u/\i=v)\/(x=v/\i=u):=λ{x i} h=>by
  by_cases j:x=u
  . rw[j,lR] at h
    rcases aga h.symm with e|e
    .exact .inl (j.trans e.symm)
    exact .inr (.inl ⟨j,e⟩)
  rw[gD j] at h
  by_cases p:i=u
  .rw[p,lR] at h;exact .inr (.inr ⟨h,p⟩)
  rw[gD p] at h;exact .inl h
 have f:K u v v=v:=gD (Ne.symm c.ne);have d:∀{y},K u v y≠v->y≠v/\y≠u:=λh=>⟨λe=>h (by rw[e,f]),λe=>h (by rw[e,lR])⟩
 rcases two G with rfl|⟨rfl,rfl⟩|⟨rfl,rfl⟩
 . rcases two w with rfl|⟨rfl,rfl⟩|⟨rfl,rfl⟩
   .rfl
   . rw[lR] at m2;rw[f] at n
     exact Y0 (c.inj_t k (d (Ne.symm m2)).1 m (d (Ne.symm n)).2) id
   rw[f] at m2;rw[lR] at n
   exact Y0 (c.inj_t m (d (Ne.symm n)).1 k (d (Ne.symm m2)).2) id
 . rw[lR] at m1 l;rw[f] at B o
   rcases two w with rfl|⟨rfl,rfl⟩|⟨rfl,rfl⟩
   .exact Y0 (c.inj_s k (d l).1 m (d o).2) id
   .rw[lR] at m1;exact Y0 O m1
   rw[f] at m1;exact Y0 O m1
 rw[f] at m1 l;rw[lR] at B o
 rcases two w with rfl|⟨rfl,rfl⟩|⟨rfl,rfl⟩
 .exact Y0 (c.inj_s m (d o).1 k (d l).2) id
 .rw[lR] at m1;exact Y0 O m1
 rw[f] at m1;exact Y0 O m1
end
structure yV(l us:List T3)(f:P3->P3):Prop where
 dg:nE us
 nd:(aR us).Nodup
 pin:∀v,pB (J us v)
 bd:∀e,rA us e↔rA l e
 sub:∀x∈bP l,x∈bP us
 fix:∀x∈bP l,f x=x
 img:∀x∈bP us,f x∈bP l
 hit:(Aj f us).Perm (l.map F)
 pair:∀t∈us,∀x y,t.has x=Z->t.has y=Z->iE l (f x) (f y)=Z
 keep:∀e∈aR l,uW (Y l) e.1=Z->uW (Y l) e.2=Z->e∈aR us
 fan:∀v a z,rA l (v,a)->Jj (J l v) a z->Jj (J us v) a z
def yV.refl(dg:nE l)(nd:(aR l).Nodup)(pin:∀v,pB (J l v)):yV l l (λx=>x):=
 ⟨dg,nd,pin,λ_=>Iff.rfl,λ_ h=>h,λ_ _=>rfl,λ_ h=>h,by rw[apx dg λ_ _=>rfl],λt a x y b c=>kM.2 ⟨t,a,b,c⟩,λ_ h _ _=>h,λ_ _ _ _ h=>h⟩
def yV.congr{g:P3->P3}(h:yV l us f)(e:∀x∈bP us,f x=g x):yV l us g:=
 ⟨h.dg,h.nd,h.pin,h.bd,h.sub,λx a=>(e x (h.sub x a)).symm.trans (h.fix x a),λx a=>e x a▸h.img x a,Uv e▸h.hit,
  λt b x y a c=>by rw[<-e x (sG b a),<-e y (sG b c)];exact h.pair t b x y a c,h.keep,h.fan⟩
def yV.rim(h:yV l us f):Y us=Y l:=xY h.bd
def yV.trans{mid:List T3}{g:P3->P3}(h:yV l mid f)(k:yV mid us g):yV l us (λx=>f (g x)):=by
 refine⟨k.dg,k.nd,k.pin,λe=>(k.bd e).trans (h.bd e),λx b=>k.sub x (h.sub x b),λx b=>?_,λx b=>h.img _ (k.img x b),?_,λt j x y b n=>?_,λe d h1 h2=>?_,λv a z c i=>?_⟩
 . show f (g x)=x
   rw[k.fix x (h.sub x b),h.fix x b]
 . rw[aam]
   refine (k.hit.flatMap_right (hF f)).trans ?_;have e:(mid.map F).flatMap (hF f)=Aj f mid:=by
    unfold Aj;rw[qj]
    congr 1
    exact funext λt=>abJ (kY t)
   rw[e];exact h.hit
 . obtain⟨u,m,o,p⟩:=kM.1 (k.pair t j x y b n)
   exact h.pair u m _ _ o p
 .refine k.keep e (h.keep e d h1 h2) ?_ ?_<;>rw[h.rim]<;>assumption
 exact k.fan v a z ((h.bd _).2 c) (h.fan v a z c i)
def nV   : x∈bP ts↔∃a b,J ts x a b:=by
 constructor
 . intro h
   obtain⟨t,d,e⟩:=lI.1 h;rcases e with rfl|rfl|rfl
   .exact⟨t.b,t.c,fC.2 ⟨t,d,Jk.2 (.inl ⟨O,O,O⟩)⟩⟩
   .exact⟨t.c,t.a,fC.2 ⟨t,d,Jk.2 (.inr (.inl ⟨O,O,O⟩))⟩⟩
   exact⟨t.a,t.b,fC.2 ⟨t,d,Jk.2 (.inr (.inr ⟨O,O,O⟩))⟩⟩
 rintro⟨a,b,h⟩
 exact (Ai (Ca h)).1
def adZ(u v:P3):∀us:List T3,Aj (K u v) us=(vN u v us).map F
 | []=>rfl
 |t::us=>by
  have ih:=adZ u v us;unfold Aj vN at ih ⊢;rw[cz,bm,ft,ih];cases h:(pT u v t).nd with
  |true=>rw[Z9 rfl,bm,aun (f:=K u v) h];rfl
  |false=>rw[K0 fh,aws (f:=K u v) h];rfl
def ajA(u v:P3)(us:List T3):(Aj (K u v) us).Perm ((gF us u v).map F):=by
 rw[adZ];unfold gF;refine List.Perm.trans ?_ ((oG _).map F).symm;rw[oq];have e:(vN u v us).map (F∘F)=(vN u v us).map F:=List.map_congr_left λt a=>adv (kY t) (ahd us t a);rw[e]
section
variable{us:List T3}{u v c1 c2:P3}
def fA.m1(c:fA us u v c1 c2):∃d,J (gF us u v) v c1 d:=by
 obtain⟨d,a,b,_⟩:=c.d1;exact⟨d,c.mid.2 (.inr ⟨a,c.c1v.1,b⟩)⟩
def fA.m2(c:fA us u v c1 c2):∃d,J (gF us u v) v d c2:=by
 obtain⟨d,a,b,_⟩:=c.d2;exact⟨d,c.mid.2 (.inr ⟨q a,b,c.c2v.1⟩)⟩
def ahJ{u v x a:P3}(h:K u v x=K u v a):x=a\/(x=u/\a=v)\/(x=v/\a=u):=by
 by_cases b:x=u
 . rw[b,lR] at h
   rcases aga h.symm with e|e
   .exact .inl (b.trans e.symm)
   exact .inr (.inl ⟨b,e⟩)
 rw[gD b] at h
 by_cases c:a=u
 .rw[c,lR] at h;exact .inr (.inr ⟨h,c⟩)
 rw[gD c] at h;exact .inl h
def fA.third(c:fA us u v c1 c2){a b z:P3}(h:J us a b z)(e:K u v z=K u v a):K u v a=v/\(b=c1\/b=c2):=by
 rcases ahJ e with e|⟨rfl,rfl⟩|⟨rfl,rfl⟩
 .exact Y0 e (jR c.dg h).2.2
 .exact⟨gD (Ne.symm c.ne),.inl (c.fn (q (q h)) c.h1)⟩
 exact⟨lR,.inr (c.fn (q (q h)) c.h2)⟩
def fA.cv(c:fA us u v c1 c2){b:P3}(h:b=c1\/b=c2):iE (gF us u v) v b=Z:=by
 obtain⟨d,a⟩:=c.m1;obtain⟨e,f⟩:=c.m2;rcases h with rfl|rfl
 .exact gL a
 exact pW f
def fA.pairN(c:fA us u v c1 c2){a b z:P3}(h:J us a b z)(l:K u v a≠K u v b):iE (gF us u v) (K u v a) (K u v b)=Z:=by
 by_cases i:K u v z=K u v a
 . obtain⟨g,d⟩:=c.third h i
   have k:K u v b=b:=gD (d.elim (λe=>e▸c.c1v.2) λe=>e▸c.c2v.2);rw[g,k];exact c.cv d
 by_cases f:K u v b=K u v z
 . obtain⟨g,d⟩:=c.third (q (q h)) f
   have j:K u v a=a:=gD (d.elim (λe=>e▸c.c1v.2) λe=>e▸c.c2v.2);rw[j,f,g];exact gJ (c.cv d)
 exact gL (Jy.2 ⟨⟨a,b,z,h,O,O,O⟩,l,f,i⟩)
def fA.img(c:fA us u v c1 c2){x:P3}(i:x∈bP us):K u v x∈bP (gF us u v):=by
 obtain⟨d,g⟩:=c.m1;by_cases f:K u v x=v
 .rw[f];exact nV.2 ⟨_,_,g⟩
 obtain⟨a,b,h⟩:=nV.1 i;have j:=ahI f;by_cases e:K u v x=K u v a
 . rcases ahJ e with e|⟨rfl,_⟩|⟨rfl,_⟩
   .exact Y0 e (jR c.dg h).1
   .exact Y0 lR f
   exact Y0 (gD (Ne.symm c.ne)) f
 exact Nt.1 (Nu (c.pairN h e))
def fA.no_deg(_c:fA us u v c1 c2):nE (gF us u v):=λt a=>by
 obtain⟨b,c,d⟩:=vM.1 (al4 us u v t a);simp[sY,b,c,d]
/-! ### Round each corner -/
def fA.fnm(c:fA us u v c1 c2){a b x y:P3}(h:J (gF us u v) a b x)(k:J (gF us u v) a b y):x=y:=wZ c.nodup h k
def fA.same(c:fA us u v c1 c2){p:P3}(b:p≠u)(d:p≠v)(a:iE us u p=X9)(x y:P3):J (gF us u v) p x y↔J us p x y:=by
 have no:∀{x y},J us p x y->x≠u/\y≠u:=λh=>⟨λe=>(by rw[e] at h;rw[gJ (gL h)] at a;cases a),λe=>(by rw[e] at h;rw[gJ (pW h)] at a;cases a)⟩
 rw[c.far b d];constructor
 . rintro⟨f,g,h,rfl,rfl,_⟩
   rwa [gD (no h).1,gD (no h).2]
 intro h
 exact⟨x,y,h,gD (no h).1,gD (no h).2,(jR c.dg h).2.1⟩
def fA.ren1(c:fA us u v c1 c2){p:P3}(f:p≠u)(g:p≠v)(a:iE us v p=X9):Ren u v (J us p) (J (gF us u v) p):=by
 have no:∀x y,J us p x y->x≠v/\y≠v:=λx y h=>⟨λe=>(by rw[e] at h;rw[gJ (gL h)] at a;cases a),λe=>(by rw[e] at h;rw[gJ (pW h)] at a;cases a)⟩
 refine⟨no,λx y=>?_⟩;rw[c.far f g];constructor
 . rintro⟨b,d,h,rfl,rfl,_⟩
   exact⟨b,d,h,O,O⟩
 rintro⟨b,d,h,rfl,rfl⟩
 refine⟨b,d,h,O,O,λe=>?_⟩;exact (jR c.dg h).2.1 (abI (q:=u) (p:=v) (no _ _ h).1 (no _ _ h).2 e)
def Md{u v x:P3}(a:x≠v):ren v u (K u v x)=x:=by
 by_cases e:x=u
 .rw[e,lR,are]
 rw[gD e,ag7 a]
def fA.ren2(c:fA us u v c1 c2){p:P3}(f:p≠u)(g:p≠v)(e:iE us v p=X9):Ren v u (J (gF us u v) p) (J us p):=by
 have r:=c.ren1 f g e;refine⟨λx y h=>(c.nu h).2,λx y=>⟨λh=>?_,?_⟩⟩
 . obtain⟨n1,n2⟩:=r.no _ _ h
   exact⟨K u v x,K u v y,(r.iff _ _).2 ⟨x,y,h,O,O⟩,(Md n1).symm,(Md n2).symm⟩
 rintro⟨a,b,h,rfl,rfl⟩
 obtain⟨x,y,d,rfl,rfl⟩:=(r.iff _ _).1 h;obtain⟨n1,n2⟩:=r.no _ _ d;show J us p (ren v u (K u v x)) (ren v u (K u v y))
 rwa [Md n1,Md n2]
def fA.ins1(c:fA us u v c1 c2):∃d,Ins u d v (J (gF us u v) c1) (J us c1):=by
 obtain⟨d,j,o,f⟩:=c.d1;have h1:J us c1 u v:=q (q c.h1);have a:J us c1 d u:=q j;have l:K u v v=v:=gD (Ne.symm c.ne);have k:J (gF us u v) c1 d v:=(c.far c.c1v.2 c.c1v.1).2 ⟨d,u,a,gD f,lR,o⟩;refine⟨d,λx y h=>(c.nu h).2,k,λx y=>⟨λh=>?_,λh=>?_⟩⟩
 . by_cases ex:x=u
   .subst ex;exact .inr (.inr ⟨O,c.fn h h1⟩)
   by_cases ey:y=u
   .subst ey;exact .inr (.inl ⟨c.inj h a,O⟩)
   refine .inl ⟨(c.far c.c1v.2 c.c1v.1).2 ⟨x,y,h,gD ex,gD ey,(jR c.dg h).2.1⟩,λe=>?_⟩;rw[e.1,e.2] at h;exact c.ne (c.fn a h)
 rcases h with ⟨h,i⟩|⟨rfl,rfl⟩|⟨rfl,rfl⟩
 . obtain⟨m,n,b,rfl,rfl,g⟩:=(c.far c.c1v.2 c.c1v.1).1 h
   by_cases ex:m=u
   . subst ex
     rw[c.fn b h1,lR,l] at g;exact Y0 O g
   by_cases ey:n=u
   . subst ey
     rw[c.inj b a,lR,gD f] at i;exact Y0 ⟨O,O⟩ i
   rwa [gD ex,gD ey]
 .exact a
 exact h1
def fA.ins2(c:fA us u v c1 c2):∃d,Ins u v d (J (gF us u v) c2) (J us c2):=by
 obtain⟨d,a,n,b⟩:=c.d2;have h1:J us c2 v u:=q (q c.h2);have k:K u v v=v:=gD (Ne.symm c.ne);have j:J (gF us u v) c2 v d:=(c.far c.c2v.2 c.c2v.1).2 ⟨u,d,a,lR,gD b,Ne.symm n⟩;refine⟨d,λx y h=>(c.nu h).2,j,λx y=>⟨λh=>?_,λh=>?_⟩⟩
 . by_cases ex:x=u
   .subst ex;exact .inr (.inr ⟨O,c.fn h a⟩)
   by_cases ey:y=u
   .subst ey;exact .inr (.inl ⟨c.inj h h1,O⟩)
   refine .inl ⟨(c.far c.c2v.2 c.c2v.1).2 ⟨x,y,h,gD ex,gD ey,(jR c.dg h).2.1⟩,λe=>?_⟩;rw[e.1,e.2] at h;exact b (c.fn h h1)
 rcases h with ⟨h,i⟩|⟨rfl,rfl⟩|⟨rfl,rfl⟩
 . obtain⟨l,m,f,rfl,rfl,g⟩:=(c.far c.c2v.2 c.c2v.1).1 h
   by_cases ex:l=u
   . subst ex
     rw[c.fn f a,lR,gD b] at i;exact Y0 ⟨O,O⟩ i
   by_cases ey:m=u
   . subst ey
     rw[c.inj f h1,lR,k] at g;exact Y0 O g
   rwa [gD ex,gD ey]
 .exact h1
 exact a
def fA.ring(c:fA us u v c1 c2):uC (J us u) c1 v/\∀x y,J us u x y->uC (J us u) v x/\uC (J us u) x v:=by
 have fn:∀x y z,J us u x y->J us u x z->y=z:=λ_ _ _ h k=>c.fn h k;obtain⟨s,j,hc⟩:=ahH (N:=J us u) (E:=bP us) (λx y h=>(Ai (Ca h)).2) (S:=λx=>∃y,J us u x y) ⟨v,c1,c.h1⟩ λx i=>⟨i,λy a=>(c.int y).2 ⟨x,q (q a)⟩⟩
 have all:=c.pin u s hc;have e:=all v c1 c.h1;have f:=e.back fn hc;have b:∀x y,J us u x y->uC (J us u) v x:=λx y h=>f.trans (all x y h);have d:uC (J us u) c1 v:=by
  rcases f.head with rfl|⟨w,g,r⟩
  . obtain⟨y,a,r⟩:=hc
    rw[c.fn c.h1 a];exact r
  rw[c.fn c.h1 g];exact r.trans e
 exact⟨d,λx y h=>⟨b x y h,(b x y h).back fn ⟨c1,c.h1,d⟩⟩⟩
def fA.pth(c:fA us u v c1 c2):Pth u c1 c2 (λx y=>J us v x y/\x≠u/\y≠u) (λx y=>J us u x y/\x≠v/\y≠v) (J us v) (J (gF us u v) v):=by
 obtain⟨o,m⟩:=c.ring;have l:J us v c1 u:=q c.h1;have j:J us u c2 v:=q c.h2;have tail:∀b,uC (J us u) v b->b=v\/uC (λx y=>J us u x y/\x≠v/\y≠v) c1 b:=λb r=>by
  induction r with
  |refl=>exact .inl rfl
  |@tail b d _ s ih=>
   by_cases g:d=v
   .exact .inl g
   by_cases i:b=v
   .subst i;rw[c.fn s c.h1];exact .inr (.refl _)
   rcases ih with e|r
   .exact Y0 e i
   exact .inr (.tail r ⟨s,i,g⟩)
 have head:∀a,a≠v->∀b,uC (J us u) a b->(b≠v/\uC (λx y=>J us u x y/\x≠v/\y≠v) a b)\/uC (λx y=>J us u x y/\x≠v/\y≠v) a c2:=λa k b r=>by
  induction r with
  |refl=>exact .inl ⟨k,.refl _⟩
  |@tail b d _ s ih=>
   rcases ih with ⟨i,r⟩|r
   . by_cases g:d=v
     .subst g;rw[<-c.inj s j];exact .inr r
     exact .inl ⟨g,.tail r ⟨s,i,g⟩⟩
   exact .inr r
 have n:∀a,a≠v->uC (J us u) a v->uC (λx y=>J us u x y/\x≠v/\y≠v) a c2:=λa k r=>by
  rcases head a k v r with ⟨e,_⟩|r
  .exact Y0 O e
  exact r
 refine⟨λx y=>⟨λh=>?_,?_⟩,λx y=>c.mid,λx y h=>⟨h.2.1,h.2.2,λe=>?_,λe=>?_⟩,λx y h=>⟨?_,?_⟩,n c1 c.c1v.1 o,λx y h=>⟨?_,?_⟩,λy h=>h.2.2 (c.fn h.1 j),λx y h=>⟨Ne.symm (jR c.dg h.1).1,(jR c.dg h.1).2.2⟩,c.c1v.2,c.c2v.2,c.hc⟩
 . by_cases ex:x=u
   .subst ex;exact .inr (.inr ⟨O,c.fn h c.h2⟩)
   by_cases ey:y=u
   .subst ey;exact .inr (.inl ⟨c.inj h l,O⟩)
   exact .inl ⟨h,ex,ey⟩
 . rintro (⟨h,_⟩|⟨rfl,rfl⟩|⟨rfl,rfl⟩)
   .exact h
   .exact l
   exact c.h2
 . have h:=h
   rw[e] at h;exact h.2.2 (c.fn h.1 l)
 . have h:=h
   rw[e] at h;exact h.2.1 (c.inj h.1 c.h2)
 . rcases tail x (m x y h.1).1 with e|r
   .exact Y0 e h.2.1
   exact r
 . obtain⟨z,f⟩:=(c.int y).2 ⟨x,q (q h.1)⟩
   exact n y h.2.2 (m y z f).2
 . by_cases e:x=c1
   .exact .inl e
   refine .inr ⟨λz f=>?_,λz f=>?_⟩
   . rcases c.com x h.2.1 (Ne.symm (jR c.dg h.1).1) (gL h.1) (gL f.1) with rfl|rfl
     .exact e O
     exact h.2.2 (c.fn h.1 j)
   rcases c.com x h.2.1 (Ne.symm (jR c.dg h.1).1) (gL h.1) (pW f.1) with rfl|rfl
   .exact e O
   exact h.2.2 (c.fn h.1 j)
 by_cases e:y=c2
 .exact .inl e
 refine .inr ⟨λz f=>?_,λz f=>?_⟩
 . rcases c.com y h.2.2 (jR c.dg h.1).2.2 (pW h.1) (gL f.1) with rfl|rfl
   .exact h.2.1 (c.inj h.1 c.h1)
   exact e O
 rcases c.com y h.2.2 (jR c.dg h.1).2.2 (pW h.1) (pW f.1) with rfl|rfl
 .exact h.2.1 (c.inj h.1 c.h1)
 exact e O
def fA.nopin(c:fA us u v c1 c2)(p:P3):pB (J (gF us u v) p):=by
 by_cases a:p=u
 . rintro s ⟨y,i,_⟩
   exact Y0 a (c.nu i).1
 by_cases b:p=v
 . subst b
   exact (c.pth.nopin ((c.pin p).sets (E:=bP us) λx y h=>(Ai (Ca h)).2)).ring λ_ _ _ h k=>c.fnm h k
 by_cases e:p=c1
 .subst e;obtain⟨d,h⟩:=c.ins1;exact h.nopin_out (c.pin p)
 by_cases f:p=c2
 .subst f;obtain⟨d,h⟩:=c.ins2;exact h.nopin_out (c.pin p)
 cases g:iE us u p with
 |false=>exact afx (c.same a b g) (c.pin p)
 |true=>
  have j:iE us v p=X9:=by
   cases h:iE us v p with
   |false=>rfl
   |true=>exact Y0 (c.com p b a g h) λh=>h.elim e f
  exact (c.ren1 a b j).nopin (c.pin p)
def fA.check(c:fA us u v c1 c2):cD Z (gF us u v)=0:=lJ.2 ⟨c.no_deg,c.nodup,c.nopin⟩
def fA.fan(c:fA us u v c1 c2){p a z:P3}(i:rA (gF us u v) (p,a))(k:Jj (J (gF us u v) p) a z):Jj (J us p) a z:=by
 obtain⟨I,H⟩:=oV.1 i.1;obtain⟨f,l,_⟩:=c.nu H;have o:z≠u:=by
  obtain⟨r,_⟩:=k;cases r with
  |refl=>exact l
  |tail _ s=>exact (c.nu s).2.2
 by_cases g:p=v
 . subst g
   refine c.pth.fan l (λy b=>?_) k;have B:a≠p:=b.2.1;rcases c.e_v l B with ⟨_,_⟩|⟨_,h2,_⟩
   . have G:=(c.bord _).1 i
     obtain⟨w,E⟩:=oV.1 G.1;rcases c.com a B l (gL b.1) (gL E) with e|e
     .exact e
     rw[e] at b;exact Y0 (c.fn b.1 (q c.h2)) b.2.2
   exact Y0 (oV.2 h2) i.2
 by_cases t:p=c1
 .subst t;obtain⟨d,h⟩:=c.ins1;exact h.fan o k
 by_cases A:p=c2
 .subst A;obtain⟨d,h⟩:=c.ins2;exact h.fan o k
 cases m:iE us u p with
 |false=>exact alV (λx y=>(c.same f g m x y).symm) k
 |true=>
  have j:iE us v p=X9:=by
   cases h:iE us v p with
   |false=>rfl
   |true=>exact Y0 (c.com p g f m h) λh=>h.elim t A
  have C:(∃y,J (gF us u v) v p y)/\∃y,J (gF us u v) p v y:=by
   rcases c.e_v f g with ⟨h1,h2⟩|⟨h1,h2,_⟩
   . rw[c.e_out f g,c.e_in f g]
     have D:(∃y,J us u p y)/\∃y,J us p u y:=by
      rcases Mc m (Ne.symm f) with h|h
      .exact⟨h,(c.int p).1 h⟩
      exact⟨(c.int p).2 h,h⟩
     obtain⟨⟨y,b⟩,F,n⟩:=D;refine⟨.inr ⟨y,b,λe=>?_⟩,.inr ⟨F,n,λe=>?_⟩⟩
     .rw[e] at b;rw[gJ (gL (q b))] at j;cases j
     rw[e] at n;rw[gJ (pW n)] at j;cases j
   exact⟨h1,h2⟩
  refine (c.ren2 f g j).fan (λe=>?_) (λe=>?_) o k
  .rw[e] at i;exact i.2 (oV.2 C.1)
  obtain⟨y,b⟩:=C.2
  rw[e] at k;exact k.2 y b
def fA.acc(c:fA us u v c1 c2)(r:Jn us u v=Z):yV (gF us u v) us (K u v):=by
 have G:Y (gF us u v)=Y us:=xY c.bord;refine⟨c.dg,c.nd,c.pin,λe=>(c.bord e).symm,λx d=>?_,λx d=>?_,λx d=>c.img d,ajA u v us,λt s x y d i=>?_,λe g h1 h2=>?_,λp a z m w=>c.fan m w⟩
 . obtain⟨a,b,h⟩:=nV.1 d
   obtain⟨⟨E,H,I,h,n,_,_⟩,_⟩:=Jy.1 h;by_cases e:E=u
   .rw[e,lR] at n;rw[<-n];exact nV.2 ⟨_,_,c.h2⟩
   rw[gD e] at n;rw[<-n];exact nV.2 ⟨_,_,h⟩
 . obtain⟨a,b,h⟩:=nV.1 d
   exact gD (c.nu h).1
 . by_cases e:K u v x=K u v y
   .rw[<-e];exact Nt.2 (c.img (sG s d))
   have F:x≠y:=λh=>e (by rw[h])
   rcases Mc (kM.2 ⟨t,s,d,i⟩) F with ⟨z,h⟩|⟨z,h⟩
   .exact c.pairN h e
   exact gJ (c.pairN h (Ne.symm e))
 obtain⟨a,b⟩:=e
 rw[G] at h1 h2;simp only at h1 h2;obtain⟨y,i⟩:=oV.1 g;obtain⟨q,m,_⟩:=c.nu i;have new:∀b,b≠u->b≠v->uW (Y us) v=Z->uW (Y us) b=Z->iE us v b=X9->iE us u b=Z->False:=λb A B C D j l=>by
  unfold Jn at r;rw[C,jq,Bool.false_or,ej] at r;have:=r b (Cc.2 (Fa.2 ⟨A,l⟩));rw[D] at this;unfold Oa at this;rw[j] at this;simp[B] at this
 rw[oV] at g ⊢;by_cases o:a=v
 . subst o
   by_cases f:b=a
   .rw[f] at i;exact Y0 O (jR c.no_deg i).1
   rcases c.e_v m f with ⟨k,_⟩|⟨_,_,j,l⟩
   .exact k.1 g
   exact (new b m f h1 h2 j l).elim
 by_cases f:b=v
 . subst f
   rcases c.e_v q o with ⟨_,k⟩|⟨_,_,j,l⟩
   .exact k.1 g
   exact (new a q o h2 h1 j l).elim
 exact ((c.e_far q o f).1 g).2
end
/-! ### From the conditions -/
def aql{v:P3}(hc:cD Z us=0)(m:wF us u v=Z)(w:Ha us u v=Z):∃c1 c2,fA us u v c1 c2:=by
 obtain⟨dg,nd,pin⟩:=lJ.1 hc;unfold wF at m;obtain⟨C,c⟩:=Bool.and_eq_true_iff.1 m;have c:uW (Y us) u=X9:=by simpa using c
 obtain⟨o,f⟩:=Fa.1 C;have int:∀x,(∃y,J us u x y)↔∃y,J us x u y:=λx=>by
  rw[<-oV,<-oV];have k:∀e∈Y us,e.1≠u/\e.2≠u:=λe f=>by
   unfold uW at c;rw[pa] at c;have:=c e f;simpa using this
  constructor
  . intro h
    exact Decidable.byContradiction λg=>(k (u,x) (uZ.2 ⟨h,g⟩)).1 O
  intro h
  exact Decidable.byContradiction λg=>(k (x,u) (uZ.2 ⟨h,g⟩)).2 O
 have d:(∃y,J us u v y)/\∃y,J us v u y:=by
  rcases Mc f (Ne.symm o) with h|h
  .exact⟨h,(int v).1 h⟩
  exact⟨(int v).2 h,h⟩
 obtain⟨⟨c1,h1⟩,c2,h2⟩:=d;have fn:∀{a b x y},J us a b x->J us a b y->x=y:=λh k=>wZ nd h k;have D:((nbL us u).filter (Oa us v)).Nodup:=by
  unfold nbL;refine ((o_ (λ{a b} h e=>?_) (sM us)).sublist ku).sublist ku;exact P3.lt_irrefl b (e▸h)
 have mem:∀{b},b∈(nbL us u).filter (Oa us v)↔(b≠u/\iE us u b=Z)/\b≠v/\iE us v b=Z:=λ{b}=>by
  rw[di,Cc,Fa,Fa]
 have p:((nbL us u).filter (Oa us v)).length=2:=Y9 w;have m1:c1∈(nbL us u).filter (Oa us v):=mem.2 ⟨⟨(jR dg h1).2.2,pW h1⟩,Ne.symm (jR dg h1).2.1,gL (q h1)⟩;have m2:c2∈(nbL us u).filter (Oa us v):=mem.2 ⟨⟨Ne.symm (jR dg h2).2.1,gL (q h2)⟩,(jR dg h2).2.2,pW h2⟩;have n:c1≠c2:=λe=>by
  subst e;have k:J us u c1 v:=q h2;have B:Cyc (J us u) v:=⟨c1,h1,.one k⟩
  have F:∀b,uC (J us u) v b->b=v\/b=c1:=λb r=>by
   induction r with
   |refl=>exact .inl rfl
   |tail _ s ih=>
    rcases ih with rfl|rfl
    .exact .inr (fn s h1)
    exact .inl (fn s k)
  have all:∀b∈(nbL us u).filter (Oa us v),b∈[c1]:=λb t=>by
   obtain⟨⟨i,j⟩,l,_⟩:=mem.1 t;have d:∃y,J us u b y:=by
    rcases Mc j (Ne.symm i) with h|h
    .exact h
    exact (int b).2 h
   obtain⟨y,z⟩:=d;rcases F b (pin u v B b y z) with e|e
   .exact Y0 e l
   rw[e];exact kg _
  have:=oC D all;rw[p] at this;simp at this
 refine⟨c1,c2,dg,nd,pin,Ne.symm o,int,h1,h2,n,λb i j l A=>?_⟩;have:=full (S:=[c1,c2]) (E:=(nbL us u).filter (Oa us v)) (by simp[n]) (λx hx=>by
  rcases av.1 hx with rfl|hx
  .exact m1
  rw[bp.1 hx];exact m2) (by rw[p];exact ba _) b (mem.2 ⟨⟨j,l⟩,i,A⟩)
 simpa using this
/-! ### Edges,each once -/
def aqm(ps:List E3)(e:E3):List E3:=if kG ps e=0/\kG ps (e.2,e.1)=0 then ps++[e] else ps
def Fu(es:List E3):List E3:=es.foldl aqm []
def Ym(ts:List T3):Int:=((cR ts).length:Int)-(Fu (aR ts)).length+ts.length
def yW(e:E3):E3:=(e.2,e.1)
def Me(e:E3):yW (yW e)=e:=rfl
def wP{es:List E3}{e:E3}:kG es e=0↔e∉es:=by
 have:=pN (es:=es) (e:=e);constructor
 .intro h k;have:=this.2 k;omega
 intro h;exact Nat.eq_zero_of_not_pos λk=>h (this.1 k)
def Qy(es:List E3):List E3:=es.filter λe=>!decide (yW e∈es)
def yX{α:Type}[DecidableEq α]{x:α}:∀{l:List α},l.Nodup->x∈l->(l.filter λy=>!decide (y=x)).length+1=l.length
 | [],_,h=>by cases h
 |y::l,a,h=>by
  obtain⟨h1,h2⟩:=gv.1 a;rw[ft];by_cases e:y=x
  . subst e
    have:(l.filter λz=>!decide (z=y))=l:=List.filter_eq_self.2 λz c=>by
     have:z≠y:=λe=>h1 (e▸c);simp[this]
    simp[this]
  have b:x∈l:=(av.1 h).resolve_left λk=>e k.symm
  have ih:=yX h2 b;simp[e];omega
def ad0(es:List E3)(e:E3):Fu (es++[e])=aqm (Fu es) e:=by
 unfold Fu;rw[List.foldl_append];rfl
def ad1{α:Type}{P:List α->Prop}(h0:P [])(h1:∀l a,P l->P (l++[a]))(l:List α):P l:=by
 have:∀n (l:List α),l.length=n->P l:=by
  intro n
  induction n with
  |zero=>intro l hl;rw[List.length_eq_zero_iff.1 hl];exact h0
  |succ n ih=>
   intro l hl;have hne:l≠[]:=λe=>by rw[e] at hl;cases hl
   rw[<-List.dropLast_concat_getLast hne];exact h1 _ _ (ih _ (by rw[List.length_dropLast,hl];rfl))
 exact this _ l O
theorem aqn:∀(es:List E3)(e:E3),(e∈Fu es\/yW e∈Fu es)↔(e∈es\/yW e∈es):=by
 intro es
 induction es using ad1 with
 |h0=>intro e;exact Iff.rfl
 |h1 es a ih=>
  intro e;rw[ad0];unfold aqm;have d:=ih a;split
  . have:=ih e
    simp only[bv,bp]
    grind
  rename_i b
  rw[wP,wP] at b;have b:a∈Fu es\/yW a∈Fu es:=by
   by_cases k:a∈Fu es
   .exact .inl k
   exact .inr (Decidable.byContradiction λf=>b ⟨k,f⟩)
  have c:=d.1 b;rw[ih e];simp only[bv,bp];constructor
  . rintro (h|h)
    .exact .inl (.inl h)
    exact .inr (.inl h)
  rintro ((h|rfl)|(h|h))
  .exact .inl h
  .exact c
  .exact .inr h
  have:e=yW a:=by rw[<-Me e,h]
  rw[this,Me];exact c.symm
def aqo:∀es:List E3,es.Nodup->(∀e∈es,e.1≠e.2)->2*(Fu es).length=es.length+(Qy es).length:=by
 intro es
 induction es using ad1 with
 |h0=>intro _ _;rfl
 |h1 es a ih=>
  intro g d;obtain⟨n1,n2⟩:=tN.1 g;have ih:=ih n1 λe b=>d e (List.mem_append_left _ b);have i:=d a (List.mem_append_right _ (kg _));have l:yW a≠a:=λe=>i (Y1 rq e).symm;have j:(Qy (es++[a]))=(es.filter λe=>!decide (yW e∈es) && !decide (e=yW a))++if yW a∈es then [] else [a]:=by
   unfold Qy;rw[gl]
   congr 1
   . refine qh λe b=>?_
     rw[<-Bool.not_or]
     congr 1
     rw[<-Bool.decide_or];refine decide_eq_decide.2 ?_;rw[bv,bp];exact or_congr Iff.rfl ⟨λh=>by rw[<-h,Me],λh=>by rw[h,Me]⟩
   rw[ft,np]
   by_cases k:yW a∈es
   .simp[k]
   simp[k,l]
  rw[j,ad0];unfold aqm;have f:=aqn es a;by_cases k:yW a∈es
  . have c:¬(kG (Fu es) a=0/\kG (Fu es) (a.2,a.1)=0):=λh=>by
     rw[wP,wP] at h;exact (f.2 (.inr k)).elim h.1 h.2
    rw[K0 c,Z9 k,fz,bg];have h1:(es.filter λe=>!decide (yW e∈es) && !decide (e=yW a))=(Qy es).filter λe=>!decide (e=yW a):=by
     unfold Qy;rw[List.filter_filter];exact qh λe _=>Bool.and_comm _ _
    have h2:yW a∈Qy es:=by
     unfold Qy;refine di.2 ⟨k,?_⟩;rw[Me];simp[n2]
    have m:=yX (n1.sublist (l₁:=Qy es) ku) h2;rw[h1];simp only[iu];omega
  have c:kG (Fu es) a=0/\kG (Fu es) (a.2,a.1)=0:=by
   rw[wP,wP];have:¬(a∈Fu es\/yW a∈Fu es):=λh=>(f.1 h).elim n2 k;exact⟨λh=>this (.inl h),λh=>this (.inr h)⟩
  rw[Z9 c,K0 k,bg,bg,bg];have h1:(es.filter λe=>!decide (yW e∈es) && !decide (e=yW a))=Qy es:=by
   unfold Qy;refine qh λe b=>?_;have:e≠yW a:=λh=>k (h▸b);simp[this]
  rw[h1];simp only[iu];omega
def aaD{α:Type}[DecidableEq α]{l m:List α}(h1:l.Nodup)(h2:m.Nodup)(h:∀x,x∈l↔x∈m):l.length=m.length:=
 Nat.le_antisymm (oC h1 λx a=>(h x).1 a) (oC h2 λx a=>(h x).2 a)
def Qj(nd:(aR ts).Nodup):(Qy (aR ts)).length=(Y ts).length:=by
 refine aaD (nd.sublist ku) (pO ts).nodup λe=>?_;rw[uZ];unfold Qy rA;rw[di,ip,Y7];rfl
def agb(dg:nE ts):∀e∈aR ts,e.1≠e.2:=λe c=>by
 obtain⟨a,b⟩:=e;obtain⟨y,h⟩:=oV.1 c;exact (jR dg h).1
def Rz(dg:nE ts)(nd:(aR ts).Nodup):2*(Fu (aR ts)).length=3*ts.length+(Y ts).length:=by
 rw[aqo _ nd (agb dg),Qj nd,kF];omega
/-! ### Triangles -/
def Ij(u v:P3)(t:T3):Bool:=t.has u&&t.has v
theorem ad2{u v:P3}(i:u≠v):∀ts:List T3,nE ts->(ts.filter (Ij u v)).length=kG (aR ts) (u,v)+kG (aR ts) (v,u)
 | [],_=>rfl
 |t::ts,dg=>by
  have ih:=ad2 i ts λs g=>dg s (br _ g);obtain⟨j,l,m⟩:=Yh (dg t (bq ..));have e:aR (t::ts)=(t.a,t.b)::(t.b,t.c)::(t.c,t.a)::aR ts:=rfl;rw[e,oS,oS,oS,oS,oS,oS,ft];simp only[fy];have h:Ij u v t=Z↔(t.a=u/\t.b=v)\/(t.b=u/\t.c=v)\/(t.c=u/\t.a=v)\/(t.a=v/\t.b=u)\/(t.b=v/\t.c=u)\/(t.c=v/\t.a=u):=by
   unfold Ij;rw[bt,gK,gK]
   grind
  by_cases d:Ij u v t=Z
  . rw[Z9 d,be,ih]
    have f:=h.1 d
    grind
  rw[K0 d,ih]
  have f:=λk=>d (h.2 k)
  grind
section
variable{us:List T3}{u v c1 c2:P3}
def fA.faces(c:fA us u v c1 c2):(gF us u v).length+2=us.length:=by
 unfold gF;rw[tS];have h1:(vN u v us).length=(us.filter λt=>(pT u v t).nd).length:=by rw[Wq,eb]
 have h2:(us.filter λt=>(pT u v t).nd)=us.filter λt=>!Ij u v t:=qh λt d=>by
  have:=asX (u:=u) (v:=v) c.ne (nd_of (c.dg t d));unfold Ij;cases b:(pT u v t).nd<;>cases e:t.has u<;>cases f:t.has v<;>simp[b,e,f] at this ⊢
 have g:(us.filter (Ij u v)).length=2:=by
  rw[ad2 c.ne us c.dg];have h:=Gw.1 c.nd (u,v);have i:=Gw.1 c.nd (v,u);have j:=pN.2 (Ca c.h1);have k:=pN.2 (Ca c.h2);omega
 have a:∀l:List T3,(l.filter (Ij u v)).length+(l.filter λt=>!Ij u v t).length=l.length:=λl=>by
  induction l with
  |nil=>rfl
  |cons t l ih=>
   rw[ft,ft];cases Ij u v t<;>simp<;>omega
 have:=a us;rw[h1,h2];omega
def fA.cors(c:fA us u v c1 c2)(x:P3):x∈bP (gF us u v)↔x∈bP us/\x≠u:=by
 constructor
 . intro h
   obtain⟨a,b,h⟩:=nV.1 h;refine⟨?_,(c.nu h).1⟩;obtain⟨⟨f,i,j,h,d,_,_⟩,_⟩:=Jy.1 h;by_cases e:f=u
   .rw[e,lR] at d;rw[<-d];exact nV.2 ⟨_,_,c.h2⟩
   rw[gD e] at d;rw[<-d];exact nV.2 ⟨_,_,h⟩
 rintro⟨h,g⟩
 have:=c.img h;rwa [gD g] at this
def uF(ts:List T3):(cR ts).Nodup:=by
 have h:=sM ts;unfold tL at h;refine o_ (S:=λa b:P3=>a≠b) (λ{a b} k e=>?_) h;rw[e] at k;exact P3.lt_irrefl b k
def fA.ncors(c:fA us u v c1 c2):(cR (gF us u v)).length+1=(cR us).length:=by
 have a:u∈cR us:=mN.2 (nV.2 ⟨_,_,c.h1⟩);rw[<-yX (uF us) a]
 congr 1
 refine aaD (uF _) ((uF us).sublist ku) λx=>?_;rw[di,mN,mN,c.cors];simp
def fA.euler(c:fA us u v c1 c2):Ym (gF us u v)=Ym us:=by
 have h1:=Rz c.dg c.nd;have h2:=Rz c.no_deg c.nodup;have b:=c.faces;have d:=c.ncors;have a:Y (gF us u v)=Y us:=xY c.bord;rw[a] at h2;unfold Ym;omega
end
/-! ### All along -/
def aqp(D:List Mv)(x:P3):P3:=(bS D x).getD x
structure Ws(l0 l:List T3)(D:List Mv):Prop where
 ck:cD Z l=0
 acc:yV l l0 (aqp D)
 nk:(D.map (·.1)).Nodup
 gone:∀m∈D,m.1∉bP l/\m.2∈bP l/\m.1∈bP l0
 num:(cR l).length+D.length=(cR l0).length
 eul:Ym l=Ym l0
 le:l.length<=l0.length
def Ws.zero(h:cD Z l=0):Ws l l []:=by
 obtain⟨h1,h2,a⟩:=lJ.1 h;exact⟨h,yV.refl h1 h2 a,lx,λm h=>(by cases h),rfl,rfl,ba _⟩
def ahK(x:P3):bS (D.map λe=>(e.1,f e.2)) x=(bS D x).map f:=by
 induction D with
 |nil=>rfl
 |cons m D ih=>
  rw[bm];unfold bS;simp only;split
  .rfl
  exact ih
def Wt{v:P3}(h:u∉D.map (·.1)):(toF D u v).map (·.1)=D.map (·.1)++[u]:=by
 unfold toF;have e:(D.map λe=>(e.1,K u v e.2)).map (·.1)=D.map (·.1):=by
  rw[oq];rfl
 rw[wL,e,K0 h]
def aqq{v:P3}(g:(D.map (·.1)).Nodup)(h:u∉D.map (·.1))(f:m∈toF D u v):m=(u,v)\/∃e∈D,m=(e.1,K u v e.2):=by
 have d:((toF D u v).map (·.1)).Nodup:=by
  rw[Wt h];exact tN.2 ⟨g,h⟩
 have a:bS (toF D u v) m.1=H m.2:=lG d f;unfold toF at a;rw[kH,ahK] at a;split at a
 . rename_i e
   cases a;left;rw[e]
 obtain⟨b,c,i⟩:=Option.map_eq_some_iff.1 a
 exact .inr ⟨(m.1,b),rW c,by rw[i]⟩
def Ws.step{l0:List T3}{v:P3}(r:Ws l0 l D)(h:dZ l u v=Z):Ws l0 (gF l u v) (toF D u v):=by
 unfold dZ at h;simp only[bt] at h;obtain⟨⟨⟨⟨⟨n,o⟩,_⟩,k⟩,_⟩,_⟩:=h;obtain⟨c1,c2,c⟩:=aql r.ck n o;have d:u∈bP l:=nV.2 ⟨_,_,c.h1⟩;have p:v∈bP l:=nV.2 ⟨_,_,c.h2⟩;have a:u∉D.map (·.1):=λb=>by
  obtain⟨m,q,rfl⟩:=c_.1 b;exact (r.gone m q).1 d
 have s:v∈bP (gF l u v):=(c.cors v).2 ⟨p,Ne.symm c.ne⟩;refine⟨c.check,((c.acc k).trans r.acc).congr λx t=>?_,?_,λm b=>?_,?_,c.euler.trans r.eul,?_⟩
 . unfold aqp toF
   rw[kH,ahK];split
   . rename_i e
     subst e;rw[kW.2 a];exact lR
   rename_i e
   cases bS D x with
   |none=>exact gD (Ne.symm e)
   |some y=>rfl
 . rw[Wt a]
   exact tN.2 ⟨r.nk,a⟩
 . rcases aqq r.nk a b with rfl|⟨e,j,rfl⟩
   .exact⟨λh=>((c.cors u).1 h).2 O,s,r.acc.sub u d⟩
   obtain⟨f,g,i⟩:=r.gone e j
   exact⟨λh=>f ((c.cors _).1 h).1,c.img g,i⟩
 . have h1:=Y1 List.length (Wt (v:=v) a)
   rw[eb,bg,eb,iu] at h1;have:=c.ncors;have:=r.num;omega
 have:=c.faces
 have:=r.le;omega
def Ws.run{l0:List T3}{want:Int}:∀(n:Nat){l:List T3}{q:P3->List Int}{D:List Mv},Ws l0 l D->Ws l0 (oH n want l q D).1 (oH n want l q D).2
 |0,_,_,_,r=>r
 |n+1,l,q,D,r=>by
  unfold oH;split
  .exact r
  cases a:Df l q with
  |none=>exact r
  |some c=>exact Ws.run n (r.step (Oe a).2)
/-! ### The ends of fans -/
def anB{v:P3}(dg:nE ts)(nd:(aR ts).Nodup)(d:rA ts (v,a)):∃z,Jj (J ts v) a z:=by
 have key:∀n,(∃x,pP ts v n a=H x)\/∃z,Jj (J ts v) a z:=by
  intro n
  induction n with
  |zero=>exact .inl ⟨a,rfl⟩
  |succ n ih=>
   rcases ih with ⟨x,b⟩|h
   . cases c:bD ts v x with
     |none=>exact .inr ⟨x,(Ut nd).2 ⟨n,b⟩,λy e=>by rw[(Bz nd).1 e] at c;cases c⟩
     |some y=>exact .inl ⟨y,by rw[pQ,b,Option.bind_some,c]⟩
   exact .inr h
 rcases key (ts.length+1) with ⟨x,b⟩|h
 . have:=abz dg nd d.2 b
   omega
 exact h
def Sa{v z:P3}(dg:nE ts)(nd:(aR ts).Nodup)(c:rA ts (v,a))(h:Jj (J ts v) a z):tQ ts v ts.length a=z:=by
 obtain⟨i,b⟩:=(Ut nd).1 h.1;refine afo i ts.length a z (abz dg nd c.2 b) b ?_;cases d:bD ts v z with
 |none=>rfl
 |some y=>exact Y0 ((Bz nd).2 d) (h.2 y)
/-! ### Accepted -/
def ajB{K:Type}[DecidableEq K]{c b:List K}(h:c.Perm b)(a:K):rF c a=rF b a:=(h.filter _).length_eq
structure Mvs(l us:List T3)(ms:List Mv):Prop where
 pl:(ms.map (·.1)).Pairwise P3.Lt
 ic:∀m∈ms,m.1∈bP us
 nl:∀m∈ms,m.1∉bP l
 to:∀m∈ms,m.2∈bP l
def xL   : x∈bP (dM l)↔x∈bP l:=by
 rw[nV,nV];exact X1 λa=>X1 λb=>Wo
def Hh   : t∈dM l↔∃s∈l,F s=t:=by
 rw[(oG l).mem_iff,c_]
def Wu(e:E3):rA (dM l) e↔rA l e:=by
 unfold rA;rw[(oK l).mem_iff,(oK l).mem_iff]
def Oy  : nE (dM l)↔nE l:=by
 constructor
 . intro h t a
   rw[<-adY (kY t)];exact h _ (Hh.2 ⟨t,a,O⟩)
 intro h t a
 obtain⟨s,b,rfl⟩:=Hh.1 a;rw[adY (kY s)];exact h s b
def Oz(p:P3):J (dM l) p=J l p:=funext λ_=>funext λ_=>X2 Wo
def ad3  : cD Z (dM l)=0↔cD Z l=0:=by
 rw[lJ,lJ,Oy,(oK l).nodup_iff];simp only[Oz]
def ajC(l:List T3):(Aj f (dM l)).Perm (Aj f l):=by
 refine ((oG l).flatMap_right (hF f)).trans ?_;have e:(l.map F).flatMap (hF f)=Aj f l:=by
  unfold Aj;rw[qj]
  congr 1
  exact funext λt=>abJ (kY t)
 rw[e]
def yV.of_canon{s:List T3}(h:yV l (dM s) f):yV l s f:=by
 refine⟨Oy.1 h.dg,(oK s).nodup_iff.1 h.nd,λv=>Oz (l:=s) v▸h.pin v,λe=>(Wu e).symm.trans (h.bd e),λx b=>xL.1 (h.sub x b),h.fix,λx b=>h.img x (xL.2 b),(ajC s).symm.trans h.hit,λt i x y b j=>?_,λe d h1 h2=>(oK s).mem_iff.1 (h.keep e d h1 h2),λv a z c g=>Oz (l:=s) v▸h.fan v a z c g⟩;exact h.pair (F t) (Hh.2 ⟨t,i,O⟩) x y (by rw[adw (kY t)];exact b) (by rw[adw (kY t)];exact j)
def aqr{ms:List Mv}(A:yV l us (mY ms))(M:Mvs l us ms)(dg:nE l)(nd:(aR l).Nodup)(pin:∀v,pB (J l v)){n:Int}(E:nF ms 0=H n):gR us l ms=(n,0):=by
 have c1:cD Z us=0:=lJ.2 ⟨A.dg,A.nd,A.pin⟩;have c2:cD Z l=0:=lJ.2 ⟨dg,nd,pin⟩;have C:jP us l (Y us)=X9:=by
  unfold jP;rw[pa];intro e g k;simp only[bt,ip] at k;obtain⟨⟨s,w⟩,x⟩:=k;rw[A.rim] at s w;rw[Jd (A.keep e g s w)] at x;cases x
 have B:oD us l (Y us)=Z:=by
  unfold oD;rw[ej];intro e g;obtain⟨v,a⟩:=e;have p:rA us (v,a):=uZ.1 g;have f:rA l (v,a):=(A.bd _).1 p;obtain⟨z,r⟩:=anB dg nd f;exact Y5 ((Sa A.dg A.nd p (A.fan v a z f r)).trans (Sa dg nd f r).symm)
 have S:oE us l ms (Y us)=Z:=tR.2 λi m o=>by
  have d:=bn o;have I:(decide (i=0)||(ms[i-1]?).any λk=>decide (k.1.Lt m.1))=Z:=by
   cases i with
   |zero=>rfl
   |succ i=>
    have T:=(az.1 o).1;have h1:ms[i]? = H ms[i]:=ap (by omega);have h2:=List.pairwise_iff_getElem.1 M.pl i (i+1) (by rw[eb];omega) (by rw[eb];omega) (by omega);rw[qi,qi] at h2;rw[Nat.add_sub_cancel,h1,<-(az.1 o).2];simp[h2]
  have K:sB us m.1=Z:=Ew.2 (M.ic m d);have L:sB l m.2=Z:=Ew.2 (M.to m d);have N:sB us m.2=Z:=Ew.2 (A.sub _ (M.to m d));have P:(ms.all λk=>decide (k.1≠m.2))=Z:=ej.2 λk D=>Y5 λe=>M.nl k D (e▸M.to m d);have Q:uW (Y us) m.1=X9:=by
   cases q:uW (Y us) m.1 with
   |false=>rfl
   |true=>rw[A.rim] at q;exact Y0 (adm q) (M.nl m d)
  rw[sC,I,K,L,N,P,Q];rfl
 have R:mC us l ms=Z:=by
  have hit:=A.hit;rw[<-ag9] at hit;unfold mC;rw[bt,ej,ej];refine⟨λt j=>?_,λu G=>Y5 ?_⟩
  . cases h:(t.img ms).nd with
    |true=>
     refine (Um h).2 (hit.mem_iff.1 ?_);exact c_.2 ⟨t,di.2 ⟨j,h⟩,O⟩
    |false=>
     have h1:t.has t.a=Z:=gK.2 (.inl rfl);have h2:t.has t.b=Z:=gK.2 (.inr (.inl rfl));have y:t.has t.c=Z:=gK.2 (.inr (.inr rfl));exact (Je h).2 ⟨A.pair t j _ _ h1 h2,A.pair t j _ _ h2 y⟩
  rw[Li,ajB hit]
  have h1:=Jf (aah nd) (F u);have h2:=Ex.2 (c_.2 ⟨u,G,rfl⟩:F u∈l.map F);omega
 rw[gR,K0 (λk=>k c1),K0 (λk=>k c2),K0 (λk=>k A.rim),K0 (by rw[C,B];simp),K0 (by rw[S];simp),K0 (by rw[R];simp),E]
/-! ### The moves in order -/
def Pa(p:P3):∀l:List P3,(aiZ p l).Perm (p::l)
 | []=>.refl _
 |q::l=>by
  rw[aiZ];split
  .exact ((Pa p l).cons q).trans (.swap ..)
  exact .refl _
def lP:∀l:List P3,(Ak l).Perm l
 | []=>.refl _
 |p::l=>(Pa p _).trans ((lP l).cons p)
def Qk{p:P3}:∀{l:List P3},l.Pairwise P3.Lt->p∉l->(aiZ p l).Pairwise P3.Lt
 | [],_,_=>ke _ _
 |q::l,h,a=>by
  rw[aiZ];obtain⟨h1,h2⟩:=b_.1 h;split
  . rename_i k
    refine b_.2 ⟨λx hx=>?_,Qk h2 λk=>a (br _ k)⟩;rcases av.1 ((Pa p l).subset hx) with rfl|hx
    .exact k
    exact h1 x hx
  rename_i k
  have b:p.Lt q:=by
   rcases lt_tri q p with e|e|e
   .exact Y0 e k
   .exact Y0 (e▸bq ..) a
   exact e
  refine b_.2 ⟨λx hx=>?_,h⟩;rcases av.1 hx with rfl|hx
  .exact b
  exact P3.lt_trans b (h1 x hx)
def Cp:∀{l:List P3},l.Nodup->(Ak l).Pairwise P3.Lt
 | [],_=>ma
 |p::l,h=>by
  obtain⟨h1,h2⟩:=gv.1 h;exact Qk (Cp h2) λk=>h1 ((lP l).mem_iff.1 k)
def Cq(D:List Mv):(kU D).map (·.1)=Ak (D.map (·.1)):=by
 unfold kU;rw[oq];exact List.map_id _
def ajD(b:(D.map (·.1)).Nodup)(x:P3):mY (kU D) x=aqp D x:=by
 rw[abB];unfold aqp;have a:((kU D).map (·.1)).Nodup:=by rw[Cq];exact (lP _).nodup_iff.2 b
 cases h:bS D x with
 |none=>
  have h1:x∉(kU D).map (·.1):=by
   rw[Cq,(lP _).mem_iff];exact kW.1 h
  rw[kW.2 h1]
 |some y=>
  have h1:x∈Ak (D.map (·.1)):=(lP _).mem_iff.2 (c_.2 ⟨_,rW h,rfl⟩);have h2:(x,y)∈kU D:=c_.2 ⟨x,h1,by rw[h];rfl⟩;rw[lG a h2]
def Pb(b:m∈kU D):m∈D:=by
 obtain⟨x,a,rfl⟩:=c_.1 b;have a:=(lP _).mem_iff.1 a;cases h:bS D x with
 |none=>exact Y0 a (kW.1 h)
 |some y=>exact rW h
def Av(D:List Mv):(kU D).length=D.length:=by
 have:=Y1 List.length (Cq D);rw[eb,(lP _).length_eq,eb] at this;exact this
structure arA(s:List T3)(r:List T3)(ms:List Mv):Prop where
 ck:cD Z r=0
 acc:yV r s (mY ms)
 mv:Mvs r s ms
 num:(cR r).length+ms.length=(cR s).length
 eul:Ym r=Ym s
 le:r.length<=s.length
def Mf{m:List T3}(h:∀x,x∈bP l↔x∈bP m):cR l=cR m:=by
 have k:∀x,x∈cR l↔x∈cR m:=λx=>by rw[mN,mN];exact h x
 exact Ty (sM l) (sM m) k
def ajE{s:List T3}(dg:nE s)(nd:(aR s).Nodup):Ym (dM s)=Ym s:=by
 have h1:=Rz dg nd;have h2:=Rz (Oy.2 dg) ((oK s).nodup_iff.2 nd);rw[xY Wu,tS] at h2;unfold Ym;rw[Mf λx=>xL,tS];omega
def tX{s:List T3}{want:Int}(h:cD Z s=0):arA s (nG s want).1 (nG s want).2:=by
 have b:=ad3.2 h;unfold nG;rw[K0 (λk=>k b)];have r:=Ws.run (want:=want) (dM s).length (q:=xN (dM s)) (Ws.zero b);obtain⟨h1,h2,c⟩:=lJ.1 h;refine⟨r.ck,(r.acc.congr λx _=>(ajD r.nk x).symm).of_canon,⟨by rw[Cq];exact Cp r.nk,λm a=>xL.1 (r.gone m (Pb a)).2.2,λm a=>(r.gone m (Pb a)).1,λm a=>(r.gone m (Pb a)).2.1⟩,?_,r.eul.trans (ajE h1 h2),?_⟩
 . rw[Av,<-Mf λx=>xL (l:=s)]
   exact r.num
 rw[<-tS s];exact r.le
def Wv{l ys:List P3}(c:l.Nodup)(h:ys.Perm l)(d:ys.Pairwise λa b=>¬b.Lt a):ys=Ak l:=by
 have h1:ys.Pairwise P3.Lt:=(d.and (h.nodup_iff.2 c)).imp λ{a b} k=>by
  rcases P3.lt_tri a b with e|e|e
  .exact e
  .exact Y0 e k.2
  exact Y0 e k.1
 exact Jb P3.lt_irrefl (λ_ _ _=>P3.lt_trans) h1 (Cp c) λp=>by rw[h.mem_iff,(lP l).mem_iff]
def kT(t:T3):T3:=match Uy t with
 | [a,b,c]=>⟨a,b,c⟩
 |_=>t
def acg(t:T3):Uy t=[(kT t).a,(kT t).b,(kT t).c]:=by
 have h:(Uy t).length=3:=(lP _).length_eq;unfold kT;generalize Uy t=L at h;rcases L with _|⟨a,_|⟨b,_|⟨c,_|⟨d,L⟩⟩⟩⟩<;>simp only[be,cd] at h<;>first|omega|rfl
def anC{s:T3}:kT s=kT t↔Uy s=Uy t:=by
 rw[acg s,acg t];constructor
 .intro h;rw[h]
 intro h
 simp only[nj,Y8] at h;obtain⟨a,b,c⟩:=h;cases d:kT s;cases e:kT t;simp only[d,e] at a b c;rw[a,b,c]
def ad4  : (l.map kT).Nodup↔(l.map Uy).Nodup:=by
 unfold List.Nodup;rw[mb,mb];exact⟨λh=>h.imp λk e=>k (anC.2 e),λh=>h.imp λk e=>k (anC.1 e)⟩
def Ww(h:t.nd=Z):[t.a,t.b,t.c].Nodup:=by
 obtain⟨h1,h2,d⟩:=(vM (t:=t)).1 h;simp only[gv,av,bw,Y3,not_or,not_false_eq_true,lx,Y8];exact⟨⟨h1,λe=>d e.symm⟩,h2⟩
def auq{L:List T3}{k:Nat}(g:L[k]? = H t)(h:kT t∈(L.take k).map kT):decide ((L.map Uy).Nodup)=X9:=by
 rw[Y7,<-ad4];intro d;obtain⟨s,f,e⟩:=c_.1 h;obtain⟨j,a⟩:=fp.1 f;rw[List.getElem?_take] at a;split at a
 . rename_i m
   have h1:(L.map kT)[j]? = H (kT t):=by rw[fi,a];exact Y1 H e
   have h2:(L.map kT)[k]? = H (kT t):=by rw[fi,g];rfl
   obtain⟨i,b⟩:=az.1 h1;obtain⟨l,c⟩:=az.1 h2;have:=(List.getElem_inj d).1 (b.trans c.symm);omega
 cases a
def aqs{L:List T3}{k:Nat}(g:L[k]? = H t)(f:((L.take k).map kT).Nodup)(h:kT t∉(L.take k).map kT):((L.take (k+1)).map kT).Nodup:=by
 rw[bV g,db];exact List.nodup_append.2 ⟨f,by simp,λa c b d e=>h (by rw[bp.1 d] at e;exact e▸c)⟩
end Go.Lith
namespace Go.Proofs.YtfekpcimgncioaaGreatDoor
open Go.Proofs.Tryz
open Go.RowKit Go.Lith
set_option maxRecDepth 100000
attribute [local irreducible] bf M fY cJ cU Code.wp
attribute [local congr] dK dL cZ dJ
variable{N cap:Nat}
def anD{w:an}{A:Option Addr}{ps:List P3}(h:pH gA 3 w A N ps)(b:A.isNone=Z):ps=[]:=by
 cases A with
 |some a=>cases b
 |none=>
  cases ps with
  |nil=>rfl
  |cons t ts=>
   obtain⟨a,e,_⟩:=h.row 0 t rfl;cases e
def aw5{w:an}{g:Nat}{t:T3}{T:bh}(h:fK w g (aM t) T):pH gA 3 w (H ⟨g,0,G0⟩) 3 [t.a,t.b,t.c]:=⟨rfl,λi x d=>by
 refine⟨⟨g,0,G0⟩,O,?_⟩;rcases i with _|_|_|i<;>simp at d<;>subst d
 .exact (h.row 0).take 3
 .exact (h.row 3).take 3
 exact (h.row 6).take 3⟩
def anE{ps:List P3}{A:Option Addr}(w:an)(a:pH gA 3 w A N ps)(j:N<=10000000):dF G1 170 [.slice A N cap] w (SL 30 3 (ps.flatMap gA) ps.length w):=by
 refine⟨bK func170 (by kernel_rfl),?_⟩;have m:=Mem.refl w;have g:=a.len
 go_enter func170,ntmps170
 apply fD 8 [0] m;simp only[↓U];refine C (Sn kK O O) ?_;apply aJ 1 [0] m;simp only[↓U];refine cQ O ?_ ?_<;>intro f
 .obtain rfl:=anD a f;apply aG 5 [] m;simp only[↓U];exact aU O O ⟨_,O,m.ext,⟨G0,0,0,O,O,Ow.nil _ _ _ _⟩⟩
 apply aG 3 [0] m;simp only[↓U];refine Kl kK (c:=3) (by kernel_rfl)  ?_;intro u i b d e;replace m:=m.newB b d e;simp only[I];replace m:=m.own 0 O (n:=0) (c:=3) O (X O);simp only[zG] at m;apply aJ 1 [0] m;simp only[↓U];refine bW m 0 O O kK vK O (by decide) O O (by rw[show (ps.flatMap pI).length=ps.length*3 from alD,a.len]) ((a.ext m.ext).cells Mt (by decide)) (Ti _) (by omega) (by omega) ?_;intro h k u m;simp only[zF,zG] at m;simp only[aj,cl] at m ⊢;apply aJ 3 [] m;simp only[↓U];exact aU O O ⟨_,O,m.ext,⟨_,_,_,g.symm,O,(m.o 0 O)⟩⟩
def ahL{w0 w:an}{is:List It}{A:Option Addr}{n cap:Nat}{xs:List P3}(m:Mem w0 w is)(k:Nat)(j:is[k]? = H (oI 30 3 A n cap (xs.flatMap gA)))(l:n<4611686018427387904) :
 Calls G1 128 [.slice A n cap,.func (.func 70) #[] #[]].toArray w λe w'=>∃v i,e=.returned v/\Mem w0 w' (is.set k i)/\(v=.tuple #[]/\∃ys:List P3,i=oI 30 3 A n cap (ys.flatMap gA)/\ys.Perm xs/\ys.Pairwise λa b=>¬b.Lt a):=
 (Es (enc:=gA) Tryz.sort128 (λw=>rK aF w) (λw=>eT aA w) (λ_=>rfl) (by decide) Pv sQ adc (λx y=>Wn) m k j l).mono (by
  rintro e w' ⟨v,i,h1,h2,c,ys,d,f,g⟩;exact⟨v,i,h1,h2,c,ys,d,f,g.imp λh=>by simpa[Go.Proofs.ltOf,nD] using h⟩)
def arB:rX G1 38 tr:=by
 refine rX.agg (cs:=λp=>#[G p.a.x,G p.a.y,G p.a.z,G p.b.x,G p.b.y,G p.b.z,G p.c.x,G p.c.y,G p.c.z]) (λ_=>rfl) underlying38 (λe p=>?_) (λp q=>?_) (λp=>?_)
 . refine tF.array (d:=9999) underlying38 aA λi j=>?_
   obtain rfl|rfl|rfl:=(by omega:i=0\/i=1\/i=2)
   . refine⟨_,dD aF aA O,?_⟩
     refine tF.struct (d:=9998) lQ λf g=>?_;simp only[av,bw,Y3] at g;rcases g with rfl|rfl|rfl
     .exact⟨_,cL bJ O,tF.int (d:=9997) fV⟩
     .exact⟨_,cL bJ O,tF.int (d:=9997) fV⟩
     exact⟨_,cL bJ O,tF.int (d:=9997) fV⟩
   . refine⟨_,dD aF aA O,?_⟩
     refine tF.struct (d:=9998) lQ λf g=>?_;simp only[av,bw,Y3] at g;rcases g with rfl|rfl|rfl
     .exact⟨_,cL bJ O,tF.int (d:=9997) fV⟩
     .exact⟨_,cL bJ O,tF.int (d:=9997) fV⟩
     exact⟨_,cL bJ O,tF.int (d:=9997) fV⟩
   refine⟨_,dD aF aA O,?_⟩
   refine tF.struct (d:=9998) lQ λf g=>?_;simp only[av,bw,Y3] at g;rcases g with rfl|rfl|rfl
   .exact⟨_,cL bJ O,tF.int (d:=9997) fV⟩
   .exact⟨_,cL bJ O,tF.int (d:=9997) fV⟩
   exact⟨_,cL bJ O,tF.int (d:=9997) fV⟩
 .exact (asd _).iff ⟨λh=>Jc (P3.eq h.1 h.2.1 h.2.2.1) (P3.eq h.2.2.2.1 h.2.2.2.2.1 h.2.2.2.2.2.1) (P3.eq h.2.2.2.2.2.2.1 h.2.2.2.2.2.2.2.1 h.2.2.2.2.2.2.2.2),λh=>by subst h;simp only[X7]⟩
 simp[tr,Instr.sameBits]
def ajF{Q R ga gf gx gy cx cy cf D cm no co d cr:Nat}{A M Ao P:Option Addr}{ex ey ef:Array cu}{X Y F:List (P3×Bool)}{ts:List T3}{p q:P3}{ms rs:List T3}(w:an)(W:fK w R [.pointer (H ⟨Q,0,G0⟩),G p.x,G p.y,G p.z,G q.x,G q.y,G q.z,.map (H gx),.map (H gy),.slice M D cm,.slice Ao no co,.slice P d cr] 218)(ax:fK w Q [.slice A N cap,.map (H ga),.map (H gf)] 109)(J:cN w M D ms)(j:cN w P d rs)(ag:∀t∈ms++rs,t.nd=Z)(hN:D+d<=10000000):dF G1 102 [.pointer (H ⟨R,0,G0⟩)] w (λv _=>v=.bool (decide (((ms++rs).map Uy).Nodup))):=by
 refine⟨bK func102 (by kernel_rfl),?_⟩;have m:=Mem.refl w;have au:=J.len;have av:=j.len;have hit:∀t∈ms++rs,IT t:=λt f=>(bv.1 f).elim (J.it t) (j.it t)
 go_enter func102,ntmps102
 apply fD 6 [0] m;simp only[↓U];refine iB m ?_;intro q8 u m;have e:=bC.nil (K:=T3) (V:=Bool) tr bj;apply aJ 4 [0] m;simp only[↓U];refine mh m [Z] [(0,Z),(1,Z),(2,Z),(5,Z),(6,Z),(7,Z),(11,Z),(3,Z),(8,Z),(4,X9),(9,X9),(10,Z)] aD (by kernel_rfl) (bT (λ_ _ _ _ _ h=>h)) (ol:=?_) ?ak ?_
 case ak=>simp only[zw,zQ,zR];try rfl
 intro u m;refine Dk 7 [] ?_;simp only[↓U,Lp,Vq,aa];refine mU O (λu m=>((W.ext m.ext).lies1 nZ O)) ?_;simp only[I];refine mU O (λu m=>((W.ext m.ext).lies1 nZ O)) ?_;simp only[I];refine bQ (aX O O (anA (ts:=ms) _ (J.ext m.ext) (by omega)) ?_);rintro v u r ⟨L,T,g,aq,rfl,s⟩;replace m:=m.newO r s;refine E ⟨m.sel [X9,Z],?_⟩;refine bQ ?_;simp only[I];refine bW m 0 O O fP kL O (by decide) O O (by rw[Kr,j.len]) (cN.cells (j.ext m.ext)) (rS _) (by omega) (by omega) ?_;intro L T u m;simp only[zF,zG] at m;rw[<-bi] at m;refine E ⟨m.sel [X9,Z],?_⟩;refine bY (qG O fP O) (bO ?_);apply S 1 [0] m;simp only[↓U];refine bU [20] [2,5,6,7,21,22,23,24,25,26,27,28,29,30,31,32,33,34,35,36,37] (λn vs wl=>∃(k:Nat)(es:Array cu)(c:Nat),vs=[G (k:Int)]/\Mem w wl [oI 39 9 L (g+d) T ((ms++rs).flatMap aM),mI q8 es c]/\(bC tr bj (eE [] (((ms++rs).take k).map kT)) es c)/\((((ms++rs).take k).map kT).Nodup)/\(k<=g+d)/\(n=g+d-k)) ?_ ?_
 .exact⟨_,0,_,_,O,m,e,lx,bu _,O⟩
 intro n vs wr hI u K1 ae
 obtain⟨k,ab,c8,rfl,m,e,B,hk,hn⟩:=hI;simp only[zu,zF,zG];apply aG 5 [0,0] m;simp only[↓U];refine bB O ?_ ?_<;>intro ap
 .obtain⟨t,f,ar,a,ad,al⟩:=((m.o 0 rfl).tris hit).get (i:=k) (by omega);subst ad;apply aG 6 [0] m;simp only[↓U,eO,ai,aj];apply I0;omega;refine aS O (al.lies dG bA) ?_;simp only[I];apply iV 5 [0,0] m;simp only[↓U,mH,fJ,aa];intro g2 u m;refine C (anu fN aA O) ?_;apply aJ 5 [0] m;simp only[↓U,reduceIte,Nat.reduceEqDiff,ah,aa];refine aX O O (anE (ps:=[t.a,t.b,t.c]) _ (aw5 (m.b 0 O)) (by decide)) ?_;rintro v u r ⟨A6,aw,n6,af,rfl,s⟩;replace m:=m.newO r s;obtain rfl:n6=3:=af;apply aJ 5 [0] m;simp only[↓U];refine nK m 0 ae1 O O (λm=>ahL m 0 O (by decide)) ?_;rintro v i u m ⟨rfl,ys,rfl,ao,am⟩;simp only[zF,zG] at m;simp only[I];obtain rfl:ys=[(kT t).a,(kT t).b,(kT t).c]:=by rw[<-acg];exact Wv (Ww (ag t (bn f))) ao am
  obtain⟨g6,rfl⟩:=(m.o 0 rfl).some (by decide);apply aJ 4 [0] m;simp only[↓U];refine C (ajs underlying38 O (by decide)) ?_;simp only[I];refine aS O (show lC _ _ _ _ (tr (kT t)) from (m.o 0 O).rows.lies ar8 ak9) ?_;simp only[I];apply iV 8 [0,1,0] m;simp only[↓U,avP,arl,aa];intro g3 u m;refine eB (dA (ek:=tr) (en:=bj) (k:=kT t) (v0:=X9) underlying219 iN arB O O (m.p 4 O) e) ?_;simp only[I];apply aJ 1 [0] m;simp only[↓U];refine cQ O ?_ ?_<;>intro l
  .rw[mB,Y2] at l;apply aG 5 [] m;simp only[↓U];refine aU O O ?_;try simp only[zD,zE]
   exact⟨_,O,m.ext,by rw[auq f l]⟩
  rw[mB,Y7] at l;apply aG 4 [1,0] m;simp only[↓U,arl];refine eP (ek:=tr) (en:=bj) (a:=kT t) (v:=Z) m 4 O underlying219 arB O O O e ?_;intro ab c8 u m e;simp only[zF,zG] at m;rw[<-jM] at e;apply aJ 6 [0] m;simp only[↓U];apply I0;omega;exact ae (g+d-(k+1)) _ _ (by omega) (by kernel_rfl) ⟨k+1,_,_,O,(m.sel [X9,X9,X9,Z,Z]),by rw[bV f,db];exact e,aqs f B l,by omega,O⟩
 obtain rfl:k=g+d:=by omega
 rw[show (ms++rs).take (g+d)=(ms++rs) from a_ (by rw[bg];omega)] at B;apply aG 6 [] m;simp only[↓U];refine aU O O ?_;try simp only[zD,zE]
 exact⟨_,O,m.ext,by rw[Y5 (ad4.1 B)]⟩
end Go.Proofs.YtfekpcimgncioaaGreatDoor
namespace Go.Lith
open Go.RowKit
variable{β:Type}
def Ql(o:Oper):Bool:=match o.op with|.defer _=>X9|_=>Z
def anF{o:Oper}(h:Ql o=Z):∀c,o.op≠.defer c:=λc e=>by unfold Ql at h;rw[e] at h;cases h
section
variable{P:cg}{Q:Exit->Act->an->Prop}{r n:Nat}
def ach{row:String}{args:Array ak}{w:an}{R:ak->an->Prop}(h:Rows P row args w R):RowsIn (Fence.wide.inRound r) n P row args w R:=
 λc cs _=>let ⟨v,w',q,s⟩:=h c cs;⟨v,w',q,stepsIn_wide.2 s⟩
def Yn{f:FuncId}{args:Array ak}{w:an}{R:Ending->an->Prop}(h:Calls P f args w R):CallsIn (Fence.wide.inRound r) n P f args w R:=
 (callsIn_wide (n:=n)).2 h
def Oper.wpIn_of{o:Oper}{a:Act}{w:an}{K:Act->an->Prop}(c:Ql o=Z)(h:o.wp P a w K Q):o.wpIn (Fence.wide.inRound r) n P a w K Q:=by
 unfold Oper.wp at h;refine⟨λ_ _=>trivial,?_⟩;rw[Oper.semAt_eq _ _ _ (anF c)];generalize (N a.eval o).run P w=z at *
 have b:(Fence.wide.inRound r).depth.isSome=Z->1<=n:=λh=>by cases h
 cases z with
 |ok x w'=>cases x<;>simp only[px,rc] at h ⊢<;>first|exact h|exact⟨b,Yn h⟩|exact⟨b,ach h⟩|exact h.elim
 |halt x w'=>cases x<;>simp only[px,rc] at h ⊢<;>exact h
def Fv{ops:Array Oper}(c:¬LetsOut Q):∀(l:List Oper)(a:Act)(w:an),l.all Ql=Z->bf P ops Q l a w->wpListIn (Fence.wide.inRound r) n P ops Q l a w
 | [],a,w,_,h=>h
 |o::l,a,w,b,h=>by
  simp only[List.all_cons,bt] at b;simp only[bf] at h;simp only[wpListIn];split
  . rename_i d
    rw[Z9 d] at h;rcases h with h|⟨_,h⟩
    .exact Oper.wpIn_of b.1 (Oper.wp_mono (λa w k=>Fv c l a w b.2 k) h)
    exact Y0 h c
  rename_i d
  rw[K0 d] at h;exact⟨λ_ _=>trivial,Fv c l _ w b.2 h⟩
def Cr{md:Region.Mode}{ops:Array Oper}(c:¬LetsOut Q)(b:∀(i:Nat)(o:Oper),ops[i]? = H o->Ql o=Z):∀(f:Nat)(d:Array Bool)(a:Act)(w:an),wpAny P md ops Q f d a w->wpAnyIn (Fence.wide.inRound r) n P md ops Q f d a w
 |0,d,a,w,h=>h
 |f+1,d,a,w,h=>by
  refine⟨h.1,λi j=>?_⟩;have h2:=h.2 i j;unfold wpOp at h2;unfold wpOpIn;split
  . rename_i l
    simp only[l] at h2;exact Cr c b f _ a w h2
  rename_i o g
  simp only[g] at h2;split
  . rename_i e
    rw[Z9 e] at h2;rcases h2 with h2|⟨_,h2⟩
    .exact Oper.wpIn_of (b i o g) (Oper.wp_mono (λa w k=>Cr c b f _ a w k) h2)
    exact Y0 h2 c
  rename_i e
  rw[K0 e] at h2;exact⟨λ_ _=>trivial,Cr c b f _ _ w h2⟩
class Ik(Q:Exit->Act->an->Prop):Prop where
 h:¬LetsOut Q
instance {K:Act->an->Prop}[q:Ik Q]:Ik (Exit.then K Q):=⟨λ⟨a,w,k⟩=>q.h ⟨a,w,k⟩⟩
instance {id:Nat}[q:Ik Q]:Ik (cn id Q):=⟨λ⟨a,w,k⟩=>q.h ⟨a,w,k⟩⟩
instance {α:Type}{B:Nat}{Kp:an->an->Prop}{I:List α->an->Prop}{Ix:Code->List α->an->Prop}{xs:List α}{W:an}:Ik (ownPostG B Kp I Ix xs W):=⟨λ⟨_,_,k⟩=>k⟩
instance:Ik (λ_ _ _=>False):=⟨λ⟨_,_,k⟩=>k⟩
def cO{id:Nat}{l:List Oper}{a:Act}{w:an}[c:Ik Q](h:bf P l.toArray Q l a w)(b:l.all Ql=Z:=by rfl):(Code.region id l.toArray X9).wpIn (Fence.wide.inRound r) n P Q a w:=wpIn_region_lit (Fv c.h l a w b h)
def pD{c1 c2:Code}{a:Act}{w:an}(h:∀K:Act->an->Prop,(∀a w,c2.wpIn (Fence.wide.inRound r) n P Q a w->K a w)->c1.wpIn (Fence.wide.inRound r) n P (Exit.then K Q) a w):(Code.seq c1 c2).wpIn (Fence.wide.inRound r) n P Q a w:=wpIn_seq_k h
variable{l:List ak}{ds:List eh}{w:an}{c1 c2:Code}
def Cs{x:cw}{b:Bool}(d:ev l x=.bool b)(c:b=Z->c1.wpIn (Fence.wide.inRound r) n P Q (Fr l ds) w)(a:b=X9->c2.wpIn (Fence.wide.inRound r) n P Q (Fr l ds) w):(Code.cond x c1 c2).wpIn (Fence.wide.inRound r) n P Q (Fr l ds) w:=by
 refine wpIn_cond (t:=b) (by rw[iP,cK];exact d) ?_;cases b with
 |false=>exact a rfl
 |true=>exact c rfl
def rB{id:Nat}{c:Code}{a:Act}(h:c.wpIn (Fence.wide.inRound r) n P (cn id Q) a w):(Code.block id c).wpIn (Fence.wide.inRound r) n P Q a w:=wpIn_block h
def anG{a:Act}(h:Q .normal a w):Code.skip.wpIn (Fence.wide.inRound r) n P Q a w:=wpIn_skip h
def Sb{a:Act}(h:Q .ret a w):Code.ret.wpIn (Fence.wide.inRound r) n P Q a w:=wpIn_ret h
def Dp{C:an->Prop}{id:Nat}{a:Act}{l:List Oper}(k:Nat)(z:¬LetsOut Q)(v:l.all Ql=Z)(y:P.follows .mixedOrders=Z)(d:Region.lexTailB .any l.toArray k=Z)
 (u:C { w with drawn:=w.drawn+1 })
 (h:M P l.toArray C (λc=>∀w',C w'->bf P l.toArray Q (l.drop k) c w') (l.take k) a):(Code.region id l.toArray Z).wpIn (Fence.wide.inRound r) n P Q a w:=by
 simp only[Region.lexTailB,bt,Y2] at d;obtain⟨⟨⟨⟨G,p⟩,A⟩,hc⟩,F⟩:=d;have L:k<l.length:=by simpa using p
 have b:(l.take k).length=k:=by simp;omega
 have s:(l.drop k).length=l.toArray.size-k:=by simp
 have I:HeadInv .any l.toArray k (ie l.toArray.size X9):=
  ⟨by simp,λj K _ m=>(by rw[getD_replicate_false] at m;cases m),λt _ B=>getD_in (by simpa using B) (getD_replicate_false _ _)⟩
 have H:=Bb (md:=.any) (g:=l.toArray.size-k) G A hc p (l.take k) 0 _ a (λj f=>by
  have D:j<k:=by rw[b] at f;exact f
  simp[D]) (by simpa using b) I (by rw[b];exact F) h
 refine wpIn_region_any y ?_;have:=wR (Q':=Q) (g:=l.toArray.size-k) (λJ c e w' E=>by
  have:=wpAny_of_seq (md:=.any) (Q':=Q) (l.drop k) k J c w' (λj=>by simp[fa]) (by rw[s];exact e.1) (e.2 w' E);rwa [s] at this) _ _ _ _ u H
 rw[b,show k+(l.toArray.size-k)=l.toArray.size by omega] at this;refine Cr z (λi o q=>?_) _ _ _ _ this;have x:o∈l:=by rw[List.getElem?_toArray] at q;exact bn q
 exact ej.1 v o x
structure RX(w w':an):Prop where
 os:w'.os=w.os
 tape:w'.tape=w.tape
 output:w'.output=w.output
 ko:KeepsOthers w w'
def RX.refl(w:an):RX w w:=⟨rfl,rfl,rfl,KeepsOthers.refl w⟩
def RX.ext{W u a:an}(h:RX W u)(e:eQ u a):RX W a:=⟨e.os.trans h.os,e.tape.trans h.tape,e.output.trans h.output,h.ko.trans ⟨e.size,λk o b _=>e.block b⟩⟩
def RX.chg{W u b:an}{g:Nat}{cs:List ak}{t:bh}(h:RX W u)(c:fK u g cs t)(e:Chg u b g):RX W b:=
 ⟨e.os.trans h.os,e.tape.trans h.tape,e.output.trans h.output,h.ko.trans ⟨Nat.le_of_eq e.size.symm,λk o a d=>(e.block k λf=>by
  subst f;rw[show u.heap[k]? = _ from c] at a;cases a;cases d).trans a⟩⟩
structure mK(W w0 w:an)(is:List It):Prop extends Mem w0 w is where
 rx:RX W w
def mK.start{w0 w:an}{is:List It}(m:Mem w0 w is):mK w w0 w is:=⟨m,RX.refl w⟩
def mK.e{W w0 w w':an}{is:List It}(m:mK W w0 w is)(e:eQ w w'):mK W w0 w' is:=⟨m.ext' e,m.rx.ext e⟩
section
variable{W w0:an}{is:List It}{ops:Array Oper}{rest:List Oper}{d:Nat}{ty T:bh}{pos:String}{after:Array Edge}{x y:cw}{v:ak}
def Mg{cs:List ak}{z:ak}(m:mK W w0 w is)(b:qD P T z)(f:z.cells=cs.toArray)(h:∀g u,mK W w0 u (bI g cs T::is)->bf P ops Q rest (Fr (l.set d (.pointer (H ⟨g,0,G0⟩))) ds) u) :
 bf P ops Q (ci (H d) (.alloc T) ty pos after G0::rest) (Fr l ds) w:=xO b f λu g e c a=>h g u ⟨m.toMem.newB e c a,m.rx.ext e⟩
def ahM{g off:Nat}{cs us:List ak}{t:bh}(m:mK W w0 w is)(k:Nat)(c:is[k]? = H (bI g cs t))(i:ev l x=.pointer (H ⟨g,off,G0⟩))(f:(ev l y).cells=us.toArray)(hc:dW P T us.length)(n:off+us.length<=cs.length)(h1:(us.all (·.oneCell'))=Z)
 (h:∀u,mK W w0 u (is.set k (bI g (bR cs off us) t))->bf P ops Q rest (Fr l ds) u):bf P ops Q (ci G0 (.store T x y) ty pos after G0::rest) (Fr l ds) w:=
 tY i f hc (m.b k c) n (jB h1) λu a d=>h u ⟨m.put k c a.os a.tape a.output (by rw[a.size];exact ba _) (λb _ j=>a.block b λe=>j (by rw[e];rfl)) d (.inl λ_ h=>h),m.rx.chg (m.b k c) a⟩
def Fw{g off:Nat}{cs us:List ak}{t:bh}(m:mK W w0 w is)(k:Nat)(a:is[k]? = H (bI g cs t))(c:ev l x=.pointer (H ⟨g,off,G0⟩))(b:ev l y=.agg us.toArray)(hc:dW P T us.length)(d:off+us.length<=cs.length)(h1:(us.all (·.oneCell'))=Z)
 (h:∀u,mK W w0 u (is.set k (bI g (bR cs off us) t))->bf P ops Q rest (Fr l ds) u):bf P ops Q (ci G0 (.store T x y) ty pos after G0::rest) (Fr l ds) w:=ahM m k a c (by rw[b];rfl) hc d h1 h
def jE{g off:Nat}{cs:List ak}{v:ak}{t:bh}(m:mK W w0 w is)(k:Nat)(a:is[k]? = H (bI g cs t))(c:ev l x=.pointer (H ⟨g,off,G0⟩))(b:ev l y=v)(hc:dW P T 1)(d:off+1<=cs.length)(h1:v.oneCell'=Z/\v.cells = #[v])
 (h:∀u,mK W w0 u (is.set k (bI g (bR cs off [v]) t))->bf P ops Q rest (Fr l ds) u):bf P ops Q (ci G0 (.store T x y) ty pos after G0::rest) (Fr l ds) w:=ahM (us:=[v]) m k a c (by rw[b];exact h1.2) hc d (by simp[h1.1]) h
def Sc{f:FuncId}{a:cw}{xs:Array cw}{args:List ak}{first cap:Array ak}{a0:Array bh}(m:mK W w0 w is)(b:ev l a=.func (.func f) first cap)(c:first.toList++xs.toList.map (ev l)++cap.toList=args)(hc:eS P f args v)
 (h:∀u,mK W w0 u is->bf P ops Q rest (Fr (l.set d v) ds) u):bf P ops Q (ci (H d) (.call { callee:=.value a,args:=xs,argTypes:=a0 }) ty pos after G0::rest) (Fr l ds) w:=
 Qz b c hc λu e=>h u (m.e e)
def Aw{id:Nat}{a:Act}{l:List Oper}[g:Ik Q](m:mK W w0 w is)(k:Nat)(f:P.follows .mixedOrders=Z)(c:Region.lexTailB .any l.toArray k=Z)
 (h:M P l.toArray (λu=>mK W w0 u is) (λb=>∀u,mK W w0 u is->bf P l.toArray Q (l.drop k) b u) (l.take k) a) (d:l.all Ql=Z:=by rfl):(Code.region id l.toArray Z).wpIn (Fence.wide.inRound r) n P Q a w:=
 Dp (C:=λu=>mK W w0 u is) k g.h d f c (m.e (eQ.refl w).drawn) h
variable{Qq:Act->Prop}
def Ho{a:Addr}(c:ev l x=.pointer (H a))(b:∀u,mK W w0 u is->lC P u T a v)(h:M P ops (λu=>mK W w0 u is) Qq rest (Fr (l.set d v) ds)):M P ops (λu=>mK W w0 u is) Qq (ci (H d) (.load T x) ty pos after G0::rest) (Fr l ds):=
 kI (λu m=>bE c (b u m)) h
def ajG{f:FuncId}{a:cw}{xs:Array cw}{args:List ak}{first cap:Array ak}{a0:Array bh}(g:ev l a=.func (.func f) first cap)(j:first.toList++xs.toList.map (ev l)++cap.toList=args)(hc:eS P f args v)
 (h:M P ops (λu=>mK W w0 u is) Qq rest (Fr (l.set d v) ds)):M P ops (λu=>mK W w0 u is) Qq (ci (H d) (.call { callee:=.value a,args:=xs,argTypes:=a0 }) ty pos after G0::rest) (Fr l ds):=by
 refine wpQuiet_step λK c=>?_;rw[Z9 (by simp[Region.wanted])];refine⟨v,λw' i=>?_,?_⟩
 . unfold Oper.quietAt
   rw[iP,rJ (hc w').1 g j _ rfl];refine⟨O,(hc w').2.mono ?_⟩;rintro e k ⟨u,rfl,b,rfl⟩;exact⟨O,i.e b⟩
 show K ((Fr l ds).put (H d) v)
 rw[gV];exact c _ h
end
end
/-! ### Within the fence that bars nothing: a head of quiet operations,then a tail that may yield -/
section
variable{P:cg}{Q:Exit->Act->an->Prop}{n:Nat}{C:an->Prop}{ops:Array Oper}{md:Region.Mode}
def ad5{row:String}{args:Array ak}{w:an}{R:ak->an->Prop}(h:Rows P row args w R):RowsIn Fence.wide n P row args w R:=
 λc cs _=>let ⟨v,w',q,s⟩:=h c cs;⟨v,w',q,stepsIn_wide.2 s⟩
def Oper.wpIn_q{o:Oper}{a:Act}{w:an}{K:Act->an->Prop}(h:o.wp P a w K (λ_ _ _=>False)):o.wpIn Fence.wide n P a w K Q:=by
 unfold Oper.wp at h;refine⟨λ_ _=>trivial,?_⟩;show rc _ _ _ _ _ _ _ ((N a.eval o).run P w)
 generalize (N a.eval o).run P w=z at *
 have b:Fence.wide.depth.isSome=Z->1<=n:=λh=>by cases h
 cases z with
 |ok x w'=>
  cases x<;>simp only[px,rc] at h ⊢<;>first
   |exact h
   |exact⟨b,(callsIn_wide.2 h).mono λe d k=>by cases e with|returned v=>exact k|panicked c=>exact k.elim|outgrown=>exact (k.elim λ_ k=>k.elim λ_ k=>k.elim)⟩
   |exact⟨b,ad5 h⟩
   |exact h.elim
 |halt x w'=>cases x<;>simp only[px,rc] at h ⊢<;>first|exact h|exact h.elim
def anH{i:Nat}{K:Act->an->Prop}{a:Act}{w:an}(h:wpOp P ops (λ_ _ _=>False) i K a w):wpOpIn Fence.wide n P ops Q i K a w:=by
 unfold wpOp at h;unfold wpOpIn;split
 . rename_i c
   simp only[c] at h;exact h
 rename_i o d
 simp only[d] at h;split
 . rename_i b
   rw[Z9 b] at h;rcases h with h|⟨_,_,_,h⟩
   .exact Oper.wpIn_q h
   exact h.elim
 rename_i b
 rw[K0 b] at h;exact⟨λ_ _=>trivial,h⟩
def Ax{k g:Nat}{L:Array Bool->Act->Prop}(d:∀b a,L b a->∀w,C w->wpAnyIn Fence.wide n P md ops Q g b a w) :
 ∀(f:Nat)(b:Array Bool)(a:Act)(w:an),C w->Mw P md ops C k L f b a->wpAnyIn Fence.wide n P md ops Q (f+g) b a w
 |0,b,a,w,c,h=>by rw[aj];exact d _ _ h w c
 |f+1,b,a,w,c,h=>by
  rw[show f+1+g=(f+g)+1 by omega];exact⟨λl=>Y0 l h.1,λi m=>anH (wpOp_of_qOp c (λe w' o j=>Ax d f _ e w' o j) (h.2 i m).2)⟩
def Fx:∀(l:List Oper)(k:Nat)(c:Array Bool)(a:Act)(w:an),(∀j,l[j]? = ops[k+j]?) ->
 Region.seqB md ops l.length k c=Z->wpListIn Fence.wide n P ops Q l a w->wpAnyIn Fence.wide n P md ops Q l.length c a w
 | [],_,_,_,_,_,b,h=>⟨by simpa[Region.seqB] using b,h⟩
 |o::l,k,c,a,w,e,b,h=>by
  have m:ops[k]? = H o:=by simpa using (e 0).symm
  simp only[be,Region.seqB,bt,Y2] at b;refine⟨λh1=>(by rw[b.1] at h1;cases h1),λi d=>?_⟩;rw[b.1] at d;have q:i=k:=by simpa using d
  subst q;have p:wpOpIn Fence.wide n P ops Q i (wpListIn Fence.wide n P ops Q l) a w:=by unfold wpOpIn;simp only[m];exact h
  exact wpOpIn_mono (λf w' g=>Fx l (i+1) _ f w' (λj=>by have:=e (j+1);simpa[Nat.add_assoc,Nat.add_comm 1 j] using this) b.2 g) p
def Cu{w:an}{id:Nat}{a:Act}{l:List Oper}(k:Nat)(q:P.follows .mixedOrders=Z)(d:Region.lexTailB .any l.toArray k=Z)
 (p:C { w with drawn:=w.drawn+1 })
 (h:M P l.toArray C (λc=>∀w',C w'->wpListIn Fence.wide n P l.toArray Q (l.drop k) c w') (l.take k) a):(Code.region id l.toArray Z).wpIn Fence.wide n P Q a w:=by
 simp only[Region.lexTailB,bt,Y2] at d;obtain⟨⟨⟨⟨y,m⟩,r⟩,hc⟩,x⟩:=d;have D:k<l.length:=by simpa using m
 have b:(l.take k).length=k:=by simp;omega
 have o:(l.drop k).length=l.toArray.size-k:=by simp
 have z:HeadInv .any l.toArray k (ie l.toArray.size X9):=
  ⟨by simp,λj B _ i=>(by rw[getD_replicate_false] at i;cases i),λt _ s=>getD_in (by simpa using s) (getD_replicate_false _ _)⟩
 have H:=Bb (md:=.any) (g:=l.toArray.size-k) y r hc m (l.take k) 0 _ a (λj f=>by
  have u:j<k:=by rw[b] at f;exact f
  simp[u]) (by simpa using b) z (by rw[b];exact x) h
 refine wpIn_region_any q ?_;have:=Ax (Q:=Q) (n:=n) (g:=l.toArray.size-k) (λA c e w' v=>by
  have:=Fx (md:=.any) (Q:=Q) (n:=n) (l.drop k) k A c w' (λj=>by simp[fa]) (by rw[o];exact e.1) (e.2 w' v);rwa [o] at this) _ _ _ _ p H
 rw[b,show k+(l.toArray.size-k)=l.toArray.size by omega] at this;exact this
def Sd{l:List ak}{ds:List eh}{w:an}{y d:Nat}{f:FuncId}{a:cw}{xs:Array cw}{args:List ak}{a0:Array bh}{ty:bh}{pos:String}{after:Array Edge}{rest:List Oper}{tmps:Array ak}{assign c:Code}{R:Ending->an->Prop}
 (m:ev l a=.func (.yield y) #[] #[]) (q:xs.toList.map (ev l)=args) (b:(Instr.yield y args.toArray).run P w=.ok (.round y f tmps assign c) w) (k:RoundIn Fence.wide (n-1) P y f tmps assign c w R)
 (h:∀e w',R e w'->∃v,e=.returned v/\wpListIn Fence.wide n P ops Q rest (Fr (l.set d v) ds) w') :
 wpListIn Fence.wide n P ops Q (ci (H d) (.call { callee:=.value a,args:=xs,argTypes:=a0 }) ty pos after G0::rest) (Fr l ds) w:=by
 refine wpListIn_plain O λK j=>?_;refine⟨λ_ _=>trivial,?_⟩;have e:(Fr l ds).eval=ev l:=funext cK;have g:args.toArray = #[]++xs.map (ev l) ++ #[]:=by
  rw[<-q];apply Array.ext';simp
 have i:(N (Fr l ds).eval (ci (H d) (.call { callee:=.value a,args:=xs,argTypes:=a0 }) ty pos after G0)).run P w=.ok (.round y f tmps assign c) w:=by
  rw[g] at b;simp[N,resolve,e,m,Deferred.ofValue,invoke] at b ⊢;exact b
 rw[show ru Fence.wide.round=ru G0 from rfl,Oper.semAt_none,i];refine⟨λ(h:Fence.wide.depth.isSome=Z)=>(by cases h),k.mono λe w' p=>?_⟩;obtain⟨v,rfl,o⟩:=h e w' p;exact j _ _ (by rw[gV];exact o)
def yY{l:List ak}{ds:List eh}{w:an}{d:Nat}{op:Op}{ty:bh}{pos:String}{after:Array Edge}{rest:List Oper}{v:ak}(b:Dh P l op ty v w)(h:wpListIn Fence.wide n P ops Q rest (Fr (l.set d v) ds) w):wpListIn Fence.wide n P ops Q (ci (H d) op ty pos after G0::rest) (Fr l ds) w:=by
 refine wpListIn_plain O λK a=>?_;refine⟨λ_ _=>trivial,?_⟩;rw[show ru Fence.wide.round=ru G0 from rfl,Oper.semAt_none,iP,b _ rfl rfl];show K ((Fr l ds).put (H d) v) w
 rw[gV];exact a _ _ h
end
def Se(B:Nat)(g:β->Nat)(cs:β->List ak)(t:bh):OwnFrom B λs W=>fK W (g s) (cs s) t:=λs X Y row d b c=>by
 have a:X.heap[g s]? = H (.cells (cs s).toArray t (0,0)):=d;show Y.heap[g s]? = _
 rw[grownBy_keeps_cells b (λr e=>(c r e).2) a rfl];exact a
def ahN{B:Nat}{w:an}(h:w.heap.size<=B):OwnFrom B λ(_:β) W=>eQ w W:=ownFrom_below (ba _) h
def aqt(is:List It):Prop:=∀i∈is,∃g cs t,i=bI g cs t
def ahO{B:Nat}{w:an}(F:β->List It)(hF:∀s,aqt (F s))(h:w.heap.size<=B):OwnFrom B λs W=>Mem w W (F s):=λs W b row a c e=>by
 refine⟨ahN (β:=Unit) h () W b row a.ext c e,λi d=>?_,a.ge,a.nd⟩;obtain⟨g,cs,t,rfl⟩:=hF s i d;exact Se (β:=Unit) B (λ_=>g) (λ_=>cs) t () W b row (a.all _ d) c e
end Go.Lith
namespace Go.Proofs.YtfekpcimgncioaaGreatDoor
open Go.Proofs.Tryz
open Go.RowKit Go.Lith
section
attribute [local go_sem] Oper.semAt_some
def arC(t:T3)(k:Nat):Array ak:=#[pt (t.cor k),pt (t.cor ((k+1)%3))]
set_option maxRecDepth 100000 in
def ajH(n:Nat)(hn:1<=n)(l Bs n₀:Nat)(t:T3)(J Jx:List Nat->an->Prop)
 (hJd:∀s W,J s W->J s W.drew) (hY:∀pre x W,J pre W->pre.length<3->YieldAt Fence.wide (n-1) G1 l (arC t x) W λe W'=>
  (e=.returned (.bool Z)/\J (pre++[x]) W'/\oJ n₀ Bs W W')\/(e=.returned (.bool X9)/\Jx (pre++[x]) W'))
 (W:an) (hBs:fK W Bs (aM t) 39) (h0:J [] W) :
 CallsIn Fence.wide n G1 337 #[.func (.yield l) #[] #[],.pointer (H ⟨Bs,0,G0⟩)] W λe W'=>(∃v,e=.returned v) /\
  ((∃ys:List Nat,ys=[0,1,2]/\J ys W')\/(∃pre,(∀k∈pre,k<3)/\Jx pre W')):=by
 refine callsIn_of_wp func337 O trivial ?_ O;simp only[ntmps337,iq,be,cd,aa,mx,jg,jh,jw,jj,cl,de]
 gi_wp2
 gi_loopw [4] (λi wr=>∃(k:Nat),k<=3/\i=G (k:Int)/\J (ii k) wr/\oJ n₀ Bs W wr)
  (λi _=>(3-intOf i).toNat)
 case atStart=>exact⟨0,by omega,rfl,h0,oJ.refl _ _ _⟩
 case round=>
  obtain⟨k,hk,rfl,hJs,hnx⟩:=hrel;have hB:fK wr Bs (aM t) 39:=hnx.2.trans hBs;have hD:fK wr.drew Bs (aM t) 39:=hB;have hk4:k=0\/k=1\/k=2\/k=3:=by omega
  rcases hk4 with rfl|rfl|rfl|rfl
  . obtain⟨fn,tmps,assign,body,hy,hR⟩:=hY (ii 0) 0 wr.drew (hJd _ _ hJs) (by decide)
    gi_wp2
    rename_i K1 hK1 K2 hK2;refine Cu (C:=λu=>u=wr.drew) 9 aD (by kernel_rfl) O ?_;simp only[zy];refine L aI (L aI (L (aW fN aA O O (by decide) (by decide) O) ?_));simp only[I,zy,aj,aa,ah,ag];refine kI (λu hu=>bE O (hu▸(jS.cor (c:=0) (hD.row 0) (by decide)).lies aF aA)) ?_;simp only[I];refine L aI (L (fZ (m:=0) (n:=1) (r:=1) O O (by decide)) (L (cW (m:=1) (n:=3) (r:=1) O O (by decide) (by decide)) ?_));simp only[I];refine L (aW fN aA O O (by decide) (by decide) O) ?_;simp only[I,zy,aj,aa,ah,ag];refine kI (λu hu=>bE O (hu▸(jS.cor (c:=1) (hD.row 0) (by decide)).lies aF aA)) ?_;simp only[I];refine bM ?_;rintro u rfl;try simp only[zy]
    refine Sd O O hy hR ?_;rintro e W3 (⟨rfl,hJ3,hk3⟩|⟨rfl,hJx3⟩)
    . refine⟨_,O,?_⟩
      simp only[I];refine yY (lB O _) (wpListIn_nil (hK2 _ _ ?_));simp only[I,jq]
      gi_wp2
      go_roundw
      case rel=>exact⟨0+1,by decide,rfl,hJ3,hnx.trans ((show oJ n₀ Bs wr wr.drew from⟨(Below.refl _ _).drew,rfl⟩).trans hk3)⟩
      case measure=>simp[intOf]
    refine⟨_,O,?_⟩
    simp only[I];refine yY (lB O _) (wpListIn_nil (hK2 _ _ ?_));simp only[I,km]
    gi_wp2
    refine bodyPost_ret (results_none O _ _ _) O ?_;exact⟨⟨_,O⟩,.inr ⟨_,by decide,hJx3⟩⟩
  . obtain⟨fn,tmps,assign,body,hy,hR⟩:=hY (ii 1) 1 wr.drew (hJd _ _ hJs) (by decide)
    gi_wp2
    rename_i K1 hK1 K2 hK2;refine Cu (C:=λu=>u=wr.drew) 9 aD (by kernel_rfl) O ?_;simp only[zy];refine L aI (L aI (L (aW fN aA O O (by decide) (by decide) O) ?_));simp only[I,zy,aj,aa,ah,ag];refine kI (λu hu=>bE O (hu▸(jS.cor (c:=1) (hD.row 0) (by decide)).lies aF aA)) ?_;simp only[I];refine L aI (L (fZ (m:=1) (n:=1) (r:=2) O O (by decide)) (L (cW (m:=2) (n:=3) (r:=2) O O (by decide) (by decide)) ?_));simp only[I];refine L (aW fN aA O O (by decide) (by decide) O) ?_;simp only[I,zy,aj,aa,ah,ag];refine kI (λu hu=>bE O (hu▸(jS.cor (c:=2) (hD.row 0) (by decide)).lies aF aA)) ?_;simp only[I];refine bM ?_;rintro u rfl;try simp only[zy]
    refine Sd O O hy hR ?_;rintro e W3 (⟨rfl,hJ3,hk3⟩|⟨rfl,hJx3⟩)
    . refine⟨_,O,?_⟩
      simp only[I];refine yY (lB O _) (wpListIn_nil (hK2 _ _ ?_));simp only[I,jq]
      gi_wp2
      go_roundw
      case rel=>exact⟨1+1,by decide,rfl,hJ3,hnx.trans ((show oJ n₀ Bs wr wr.drew from⟨(Below.refl _ _).drew,rfl⟩).trans hk3)⟩
      case measure=>simp[intOf]
    refine⟨_,O,?_⟩
    simp only[I];refine yY (lB O _) (wpListIn_nil (hK2 _ _ ?_));simp only[I,km]
    gi_wp2
    refine bodyPost_ret (results_none O _ _ _) O ?_;exact⟨⟨_,O⟩,.inr ⟨_,by decide,hJx3⟩⟩
  . obtain⟨fn,tmps,assign,body,hy,hR⟩:=hY (ii 2) 2 wr.drew (hJd _ _ hJs) (by decide)
    gi_wp2
    rename_i K1 hK1 K2 hK2;refine Cu (C:=λu=>u=wr.drew) 9 aD (by kernel_rfl) O ?_;simp only[zy];refine L aI (L aI (L (aW fN aA O O (by decide) (by decide) O) ?_));simp only[I,zy,aj,aa,ah,ag];refine kI (λu hu=>bE O (hu▸(jS.cor (c:=2) (hD.row 0) (by decide)).lies aF aA)) ?_;simp only[I];refine L aI (L (fZ (m:=2) (n:=1) (r:=3) O O (by decide)) (L (cW (m:=3) (n:=3) (r:=0) O O (by decide) (by decide)) ?_));simp only[I];refine L (aW fN aA O O (by decide) (by decide) O) ?_;simp only[I,zy,aj,aa,ah,ag];refine kI (λu hu=>bE O (hu▸(jS.cor (c:=0) (hD.row 0) (by decide)).lies aF aA)) ?_;simp only[I];refine bM ?_;rintro u rfl;try simp only[zy]
    refine Sd O O hy hR ?_;rintro e W3 (⟨rfl,hJ3,hk3⟩|⟨rfl,hJx3⟩)
    . refine⟨_,O,?_⟩
      simp only[I];refine yY (lB O _) (wpListIn_nil (hK2 _ _ ?_));simp only[I,jq]
      gi_wp2
      go_roundw
      case rel=>exact⟨2+1,by decide,rfl,hJ3,hnx.trans ((show oJ n₀ Bs wr wr.drew from⟨(Below.refl _ _).drew,rfl⟩).trans hk3)⟩
      case measure=>simp[intOf]
    refine⟨_,O,?_⟩
    simp only[I];refine yY (lB O _) (wpListIn_nil (hK2 _ _ ?_));simp only[I,km]
    gi_wp2
    refine bodyPost_ret (results_none O _ _ _) O ?_;exact⟨⟨_,O⟩,.inr ⟨_,by decide,hJx3⟩⟩
  gi_wp2
  go_end0
  exact⟨⟨_,O⟩,.inl ⟨_,O,hJs⟩⟩
end
section
section
variable{w0 w:an}{is:List It}
def dI(D:Nat)(o:Obj):It where
 own b:=H D=H b
 P w:=w.heap[D]? = H o
 lt w b h e:=by cases e;exact (ec.1 h).1
 st w w' h _ k:=(k D rfl).trans h
def _root_.Go.Lith.Mem.putD{D:Nat}{o o':Obj}(m:Mem w0 w is)(k:Nat)(a:is[k]? = H (dI D o)):Mem w0 (w.putObj D o') (is.set k (dI D o')):=by
 have c:D<w.heap.size:=(dI D o).lt w D (m.get k a) rfl;refine m.put k a O O O (by show _<=(w.heap.setIfInBounds D o').size;simp) (λb _ d=>World.putObj_heap_other (λe=>d (by rw[e];rfl))) ?_ (.inl λ_ h=>h);show (w.heap.setIfInBounds D o')[D]? = H o'
 simp[c]
def _root_.Go.Lith.Mem.addD{D:Nat}{x:Option (List eh)}(m:Mem w0 w is)(e:aqt is)(h:w.heap[D]? = H (.deferred x))(f:w0.heap.size<=D):Mem w0 w (dI D (.deferred x)::is):=by
 refine⟨m.ext,λi hi=>?_,λi hi b c=>?_,b_.2 ⟨λj d b h1 h2=>?_,m.nd⟩⟩
 . rcases av.1 hi with rfl|hi
   .exact h
   exact m.all i hi
 . rcases av.1 hi with rfl|hi
   .cases c;exact f
   exact m.ge i hi b c
 obtain⟨g,cs,t,rfl⟩:=e j d
 cases h1;cases h2;have a:w.heap[D]? = H (.cells cs.toArray t (0,0)):=m.all _ d;rw[h] at a;cases a
def arD{P:cg}{l:List ak}{n:Nat}{fn:Func}{R:Ending->an->Prop}{w:an}(h:bodyPost P fn R .ret (Fr l) w):bodyPostM Fence.wide n P fn R .ret (Fr l) w:=by
 obtain⟨_,v,b,a⟩:=h;exact⟨v,b,a⟩
def ad6{W u:an}{a:Nat}{cs:List ak}{t:bh}(rx:RX W u)(h1:fK W a cs t)(h2:fK u a cs t):oJ 0 a W u:=
 ⟨⟨rx.os,rx.tape,rx.output,rx.ko.size,λk b=>Y0 b (mg _)⟩,(show u.heap[a]? = _ from h2).trans (show W.heap[a]? = _ from h1).symm⟩
def anI{g k:Nat}{c1 c2:List ak}{T1 T2:bh}(m:Mem w0 w is)(h1:fK w g c1 T1)(h2:fK w k c2 T2)(l:k≠g)(f:∀o∈is.map (·.own),¬o g)(h:∀o∈is.map (·.own),¬o k)(e:w0.heap.size<=g)(ek:w0.heap.size<=k):Mem w0 w (bI k c2 T2::bI g c1 T1::is):=by
 refine⟨m.ext,λi hi=>?_,λi hi b d=>?_,b_.2 ⟨λj hj b c a=>?_,b_.2 ⟨λj hj b c a=>?_,m.nd⟩⟩⟩
 . rcases av.1 hi with rfl|hi
   .exact h2
   rcases av.1 hi with rfl|hi
   .exact h1
   exact m.all i hi
 . rcases av.1 hi with rfl|hi
   .cases d;exact ek
   rcases av.1 hi with rfl|hi
   .cases d;exact e
   exact m.ge i hi b d
 . cases c
   rcases av.1 hj with rfl|hj
   .cases a;exact l O
   exact h _ (gm hj) a
 cases c
 exact f _ (gm hj) a
def anJ{g k:Nat}{c1 c2:List ak}{T1 T2:bh}(m:Mem w0 w (bI k c2 T2::bI g c1 T1::is)):k≠g/\(∀o∈is.map (·.own),¬o g)/\(∀o∈is.map (·.own),¬o k)/\w0.heap.size<=g/\w0.heap.size<=k:=by
 obtain⟨h1,h2⟩:=b_.1 m.nd;obtain⟨c,_⟩:=b_.1 h2;refine⟨λe=>h1 _ bq k O (by rw[e];rfl),λo b h=>?_,λo b h=>?_,m.ge _ (br _ bq) g rfl,m.ge _ bq k rfl⟩
 . obtain⟨i,a,rfl⟩:=c_.1 b
   exact c i a g O h
 obtain⟨i,a,rfl⟩:=c_.1 b
 exact h1 i (br _ a) k O h
def ad7{α:Type}{L:List ak}{go:cw}{gf j N h i d1 d2:Nat}{assign ad:Code}{Q:Exit->Act->an->Prop}{P:cg}{S E:List α->Prop}{v1 v2:α->ak}{c1 c2:α->List ak}{T1 T2 tB:bh}{csB:List ak}
 (hf:ev L go=.func (.func gf) #[] #[.pointer (H ⟨j,0,G0⟩)]) (he:Lith.Entr P gf) (ag:SeqStopsK Fence.wide 3 P gf #[.pointer (H ⟨j,0,G0⟩)] (λx=>#[v1 x,v2 x]) (oJ 0 j) S E N w)
 (I p:List α->List It) (J v:List α->Prop) (R:∀pre,aqt (I pre)) (Z:∀pre,aqt (p pre)) (ab:∀pre,(I pre).map (·.own)=(I []).map (·.own)) (q:∀pre,bI j csB tB∈I pre)
 (m:Mem w0 w (I [])) (hJ:J [])
 (al:∀(r:Nat)(pre:List α)(x:α)(W:an)(K:Act->an->Prop),mK W w0 W (I pre)->(∀g k u,mK W w0 u (bI k (c2 x) T2::bI g (c1 x) T1::I pre)->K (Fr ((((L.set h (v1 x)).set i (v2 x)).set d1 (.pointer (H ⟨g,0,G0⟩))).set d2 (.pointer (H ⟨k,0,G0⟩)))) u) ->
  assign.wpIn (Fence.wide.inRound r) 2 P (Exit.then K (λ_ _ _=>False)) (Fr ((L.set h (v1 x)).set i (v2 x))) W)
 (ah:∀(r:Nat) (pre:List α) (x:α) (g k:Nat) (W:an) (Q':Exit->Act->an->Prop) [Ik Q'],J pre->pre.length<N->mK W w0 W (bI k (c2 x) T2::bI g (c1 x) T1::I pre) ->
  (∀a u,mK W w0 u (I (pre++[x]))->J (pre++[x])->Q' .normal a u)->(∀a u,mK W w0 u (p (pre++[x]))->v (pre++[x])->Q' .ret a u) ->
  ad.wpIn (Fence.wide.inRound r) 2 P Q' (Fr ((((L.set h (v1 x)).set i (v2 x)).set d1 (.pointer (H ⟨g,0,G0⟩))).set d2 (.pointer (H ⟨k,0,G0⟩)))) W)
 (ai:∀(D:Nat)(xs:List α)(u:an),S xs->J xs->Mem w0 u (dI D (.deferred (H []))::I xs)->Q .normal (Fr L [{ target:=.collected D,args:=#[] }]) u)
 (aj:∀(D:Nat)(pre:List α)(u:an),E pre->v pre->Mem w0 u (dI D (.deferred (H []))::p pre)->Q .ret (Fr L [{ target:=.collected D,args:=#[] }]) u) :
 (Code.rangeFunc go #[h,i] assign ad).wp P Q (Fr L) w:=by
 refine (wpIn_wide (n:=4)).1 ?_;have s:=m.ext.size;refine wpIn_rangeFunc_ownH (F:=Fence.wide) O (by omega) (gf:=gf) (lb:=#[.pointer (H ⟨j,0,G0⟩)]) (by rw[cK];exact hf) trivial (λargs u=>vZ he) ag oJ.trans
  (λW l o o' hl ho hc _=>⟨⟨rfl,rfl,rfl,by show _<=(W.heap.setIfInBounds l o').size;simp,λk hk=>Y0 hk (mg _)⟩,World.putObj_heap_other (λe=>by
   have hb:=(m.all _ (q [])).lt;omega)⟩) (Below.refl _ _) (λ_=>rfl)
  (λpre W=>Mem w0 W (I pre)/\J pre) (λc pre W=>Mem w0 W (p pre)/\(c=.ret/\v pre))
  (OwnFrom.and (ahO I R s) (ownFrom_pure _ J)) (λc=>OwnFrom.and (ahO p Z s) (ownFrom_pure _ _)) ⟨m,hJ⟩
  (λx z W=>∃g k,z=Fr ((((L.set h (v1 x)).set i (v2 x)).set d1 (.pointer (H ⟨g,0,G0⟩))).set d2 (.pointer (H ⟨k,0,G0⟩)))/\fK W g (c1 x) T1/\fK W k (c2 x) T2/\k≠g/\(∀o∈(I []).map (·.own),¬o g)/\(∀o∈(I []).map (·.own),¬o k)/\w0.heap.size<=g/\w0.heap.size<=k)
  (λx z _ X Y row hs T V=>by
   obtain⟨g,k,e,h1,h2,A⟩:=hs;exact⟨g,k,e,Se (β:=Unit) _ (λ_=>g) (λ_=>c1 x) T1 () X Y row h1 T V,Se (β:=Unit) _ (λ_=>k) (λ_=>c2 x) T2 () X Y row h2 T V,A⟩)
  ?_ ?_ ?_ ?_
 . intro r pre x W K d hK
   have e:((#[h,i].zip #[v1 x,v2 x]).foldl (λt (y:Tmp×ak)=>t.setIfInBounds y.1 y.2) (Fr L).tmps)=((L.set h (v1 x)).set i (v2 x)).toArray:=by simp
   have:=al r pre x W K (mK.start d.1) (λg k u b=>?_)
   . simp only at this ⊢
     rw[e];exact this
   have U:=anJ b.toMem
   rw[ab pre] at U;have aa:Mem w0 u (I pre):=b.toMem.tl.tl;exact hK _ _ (b.rx.ko.from _) (ad6 b.rx (d.1.all _ (q pre)) (aa.all _ (q pre))) ⟨aa,d.2⟩ ⟨g,k,O,b.all _ (br _ bq),b.all _ bq,U⟩
 . rintro r pre x z W _ _ ⟨d,ae⟩ ⟨g,k,rfl,h1,h2,A,G,M,h6,h7⟩ hN
   rw[<-ab pre] at G M;refine ah r pre x g k W _ ae hN (mK.start (anI d h1 h2 A G M h6 h7)) (λa u b f=>?_) (λa u b f=>?_)
   .exact⟨b.rx.ko.from _,ad6 b.rx (d.all _ (q pre)) (b.all _ (q _)),b.toMem,f⟩
   exact⟨b.rx.ko.from _,b.toMem,O,f⟩
 . rintro D xs W B hS ⟨d,f⟩ C
   exact ai D xs W hS f (Lith.Mem.addD d (R xs) C (ax s B))
 rintro D c pre W B af ⟨d,rfl,f⟩ C
 exact wpIn_ret (aj D pre W af f (Lith.Mem.addD d (Z pre) C (ax s B)))
end
end
end Go.Proofs.YtfekpcimgncioaaGreatDoor
namespace Go.Lith
open Go.RowKit Go.ChangeMaps Go.MapKept
variable{w:an}
def ad8{u:an}(e:eQ w u):w.grownBy u G0:=⟨e.os,e.tape,e.output,e.size,λk a _=>Below.block e k a⟩
section
variable{K V:Type}[DecidableEq K]{P:cg}{T M E ty:bh}{ek:K->ak}{en:V->ak}{w:an}{g c r:Nat}{es:Array cu}{D:List (K×V)}
variable{ds:List eh}{l:List ak}{x:cw}{ops:Array Oper}{Q:Exit->Act->an->Prop}{rest:List Oper}{d:Nat}{pos:String}{after:Array Edge}
def aqu{seen:Array Nat}{q rs:List (K×V)}(E:ev l x=.pointer (H ⟨r,0,G0⟩))(n:uT w r g c seen c)(p:gQ w g es c)(t:bC ek en D es c)(z:lU ek en D es seen q rs)
 (h:∀b i j m u,w.grownBy u (H r)->gQ u g es c->uT u r g c m c->Nxt ek en D es q rs b i j m->bf P ops Q rest (Fr (l.set d (Ie b i j)) ds) u) :
 bf P ops Q (ci (H d) (.next x X9) ty pos after G0::rest) (Fr l ds) w:=by
 obtain⟨b,i,j,m,f,I,C,y⟩:=Zu (P:=P) (ty:=ty) (s:=0) n p t z;have a:f.heap=w.heap/\f.os=w.os/\f.tape=w.tape/\f.output=w.output:=by rcases I with rfl|rfl<;>exact⟨rfl,rfl,rfl,rfl⟩
 have F:g≠r:=λe=>by
  subst e;have h1:w.heap[g]? = H (.map es c):=p;rw[show w.heap[g]? = _ from n] at h1;cases h1
 refine lK (w':=setBlock f r (.mapIter (H g) c m c)) (v:=Ie b i j) (λo B G=>by simp[N,B,cK,E,G,C]) (h b i j m _ ⟨a.2.1,a.2.2.1,a.2.2.2,by simp[setBlock,a.1],λk _ A=>?_⟩ ?_ ?_ y)
 . simp only[setBlock,a.1]
   exact jp λe=>A (by rw[e])
 . show (setBlock f r _).heap[g]? = _
   simp only[setBlock,a.1];rw[jp (Ne.symm F)];exact p
 exact iU (w:=f) (o:=.mapIter (H g) c seen c) (by rw[a.1];exact n)
end
def aqv(is:List It):Prop:=∀i∈is,(∃g cs t,i=bI g cs t)\/∃E c A n cap xs,i=oI E c A n cap xs
def aur{β:Type}(B:Nat)(E:bh)(c:Nat)(A:Option Addr)(n cap:Nat)(xs:List ak):OwnFrom B λ(_:β) W=>(oI E c A n cap xs).P W:=λs X Y row b f i=>by
 refine⟨b.1,?_⟩;rcases b.2 with h|⟨g,cap,j,h1,h2,a,d⟩
 .exact .inl h
 exact .inr ⟨g,cap,j,h1,h2,by
  rw[grownBy_keeps_cells f (λr e=>(i r e).2) a rfl];exact a,d⟩
def ad9{β:Type}{B:Nat}(F:β->List It)(hF:∀s,aqv (F s))(h:w.heap.size<=B):OwnFrom B λs W=>Mem w W (F s):=λs W b row a d f=>by
 refine⟨ahN (β:=Unit) h () W b row a.ext d f,λi e=>?_,a.ge,a.nd⟩;rcases hF s i e with ⟨g,cs,t,rfl⟩|⟨E,c,A,n,cap,xs,rfl⟩
 .exact Se (β:=Unit) B (λ_=>g) (λ_=>cs) t () W b row (a.all _ e) d f
 exact aur (β:=Unit) B E c A n cap xs () W b row (a.all _ e) d f
def Mem.addC{w0:an}{is:List It}{D:Nat}{x:Option (List eh)}(m:Mem w0 w is)(l:aqv is)(h:w.heap[D]? = H (.deferred x))(p:w0.heap.size<=D):Mem w0 w (Go.Proofs.YtfekpcimgncioaaGreatDoor.dI D (.deferred x)::is):=by
 refine⟨m.ext,λi hi=>?_,λi hi b f=>?_,b_.2 ⟨λj a b h1 h2=>?_,m.nd⟩⟩
 . rcases av.1 hi with rfl|hi
   .exact h
   exact m.all i hi
 . rcases av.1 hi with rfl|hi
   .cases f;exact p
   exact m.ge i hi b f
 cases h1
 rcases l j a with ⟨g,cs,t,rfl⟩|⟨E,c,A,n,cap,xs,rfl⟩
 . cases h2
   have d:w.heap[D]? = H (.cells cs.toArray t (0,0)):=m.all _ a;rw[h] at d;cases d
 have o:=m.all _ a
 rcases o.2 with ⟨e,_⟩|⟨g,r,q,e,_,k,_⟩
 .cases e;cases h2
 cases e
 cases h2;rw[h] at k;cases k
def RX.wr{W u b:an}{A:Option Addr}{w0:an}{S:List (Option Nat)}{E:bh}{c n cap:Nat}{xs:List ak}(h:RX W u)(f:Ow w0 u S E c A n cap xs)(e:Wr u b A):RX W b:=
 ⟨e.os.trans h.os,e.tape.trans h.tape,e.output.trans h.output,h.ko.trans ⟨e.size,λk o a j=>(e.block k (ec.1 a).1 λd=>by
  rcases f.cases with ⟨rfl,_⟩|⟨g,l,rfl,_,i,_⟩
  .cases d
  cases d
  rw[i] at a;cases a;cases j).trans a⟩⟩
section
variable{P:cg}{Q:Exit->Act->an->Prop}{W w0 w:an}{is:List It}{ops:Array Oper}{rest:List Oper}{d:Nat}{ty T:bh}{pos:String}{after:Array Edge}{x y:cw}{l:List ak}{ds:List eh}
def anK{E:bh}{c n cap b p mcap:Nat}{A B:Option Addr}{z:ak}{xs news:List ak}{a0:Array bh}(m:mK W w0 w is)(k:Nat)(t:is[k]? = H (oI E c A n cap xs))(F:a0 = #[T,T])(K:P.underlying T=H (.slice E))(G:(P.info? E).map (λi=>(i.size,i.bytes,i.zero))=H (c,b,H z))(M:z.cells.size=c)(hc:0<c)
 (J:ev l x=.slice A n cap) (L:ev l y=.slice B p mcap) (I:news.length=p*c) (U:∀j u,news[j]? = H u->∃a,B=H a/\w.cell? (a.add j)=H u) (h1:∀u∈news,u.oneCell'=Z) (R:n+p<=9223372036854775807) (V:(n+p)*b<=140737488355328)
 (h:∀q r u,mK W w0 u (is.set k (oI E c q (n+p) r (xs++news)))->bf P ops Q rest (Fr (l.set d (.slice q (n+p) r)) ds) u) :
 bf P ops Q (ci (H d) (.call { callee:=.builtin .append,args:=#[x,y],argTypes:=a0 }) ty pos after G0::rest) (Fr l ds) w:=
 Zf F K G M hc m.ext J (m.o k t) L I U h1 R V λq r u C f hF=>h q r u ⟨m.put k t f.os f.tape f.output f.size (λb s S=>f.block b s S) (by
  refine⟨C.own.1,?_⟩;rcases C.cases with ⟨rfl,v,rfl,_⟩|⟨g,N,rfl,_,h2,D⟩
  .exact .inl ⟨by rw[v],v⟩
  .exact .inr ⟨g,r,N,O,bu _,h2,D⟩) (by
  rcases hF with rfl|hF
  .exact .inl λ_ h=>h
  exact .inr λb s=>by
   have e:Pq q=H b:=s;rw[hF] at e;cases e;exact ba _),m.rx.wr (m.o k t) f⟩
def aea{W u:an}(h:RX W u):KeepsWalks W u:=⟨h.ko.size,λk o a b=>h.ko.same k o a (by cases o<;>first|rfl|cases b)⟩
def anL{α j:Type}{L:List ak}{go:cw}{gf v N p d1:Nat}{assign J:Code}{S:List α->Prop}{v1:α->ak}{c1:α->List ak}{T1:bh}
 (hf:ev L go=.func (.func gf) #[] #[.pointer (H ⟨v,0,G0⟩)]) (Z:Lith.Entr P gf) (ad:SeqStopsK Fence.wide 3 P gf #[.pointer (H ⟨v,0,G0⟩)] (λx=>#[v1 x]) KeepsWalks S (λ_=>True) N w)
 (F:j->List It) (R:List α->j->Prop) (hF:∀s,aqv (F s)) (ab:∀W s d pre E,R pre s->R E d->Mem w0 W (F s)->Mem w0 W (F d)->R pre d) {s0:j} (m:Mem w0 w (F s0)) (U:R [] s0)
 (ag:∀(r:Nat)(pre:List α)(x:α)(s:j)(W:an)(K:Act->an->Prop),R pre s->mK W w0 W (F s)->(∀g u,mK W w0 u (bI g (c1 x) T1::F s)->K (Fr ((L.set p (v1 x)).set d1 (.pointer (H ⟨g,0,G0⟩)))) u) ->
  assign.wpIn (Fence.wide.inRound r) 2 P (Exit.then K (λ_ _ _=>False)) (Fr (L.set p (v1 x))) W)
 (ae:∀(r:Nat) (pre:List α) (x:α) (g:Nat) (s:j) (W:an) (Q':Exit->Act->an->Prop) [Ik Q'],pre.length<N->R pre s->mK W w0 W (bI g (c1 x) T1::F s) ->
  (∀a u d,mK W w0 u (F d)->R (pre++[x]) d->Q' .normal a u)->J.wpIn (Fence.wide.inRound r) 2 P Q' (Fr ((L.set p (v1 x)).set d1 (.pointer (H ⟨g,0,G0⟩)))) W)
 (af:∀(D:Nat)(xs:List α)(s:j)(u:an),S xs->R xs s->Mem w0 u (Go.Proofs.YtfekpcimgncioaaGreatDoor.dI D (.deferred (H []))::F s)->Q .normal (Fr L [{ target:=.collected D,args:=#[] }]) u) :
 (Code.rangeFunc go #[p] assign J).wp P Q (Fr L) w:=by
 refine (wpIn_wide (n:=4)).1 ?_;have C:=m.ext.size;have own:OwnFrom w.heap.size λ(pre:List α) W=>∃s,R pre s/\Mem w0 W (F s):=λpre X Y row ⟨s,b,k⟩ A B=>⟨s,b,ad9 (β:=Unit) (λ_=>F s) (λ_=>hF s) C () X Y row k A B⟩
 have abk:∀(g:Nat)(x:α)(s:j),aqv (bI g (c1 x) T1::F s):=λg x s i hi=>by
  rcases av.1 hi with rfl|hi
  .exact .inl ⟨_,_,_,O⟩
  exact hF s i hi
 refine wpIn_rangeFunc_ownH (F:=Fence.wide) O (by omega) (gf:=gf) (lb:=#[.pointer (H ⟨v,0,G0⟩)]) (by rw[cK];exact hf) trivial (λargs u=>vZ Z) ad KeepsWalks.trans
  (λW l o o' _ ho _ hw=>KeepsWalks.putObj o' ho hw) (Below.refl _ _) (λ_=>rfl)
  (λpre W=>∃s,R pre s/\Mem w0 W (F s)) (λ_ _ _=>False)
  own (λ_ _ _ _ _ h _ _=>h) ⟨s0,U,m⟩
  (λx z W=>∃g s pre,z=Fr ((L.set p (v1 x)).set d1 (.pointer (H ⟨g,0,G0⟩)))/\R pre s/\Mem w0 W (bI g (c1 x) T1::F s))
  (λx z _ X Y row b A B=>by
   obtain⟨g,s,pre,e,h1,h2⟩:=b;exact⟨g,s,pre,e,h1,ad9 (β:=Unit) (λ_=>bI g (c1 x) T1::F s) (λ_=>abk g x s) C () X Y row h2 A B⟩)
  ?_ ?_ ?_ ?_
 . rintro r pre x W K ⟨s,b,k⟩ M
   have e:((#[p].zip #[v1 x]).foldl (λt (y:Tmp×ak)=>t.setIfInBounds y.1 y.2) (Fr L).tmps)=(L.set p (v1 x)).toArray:=by simp
   have:=ag r pre x s W K b (mK.start k) (λg u f=>M _ _ (f.rx.ko.from _) (aea f.rx) ⟨s,b,f.toMem.tl⟩ ⟨g,s,pre,rfl,b,f.toMem⟩);simp only at this ⊢;rw[e];exact this
 . rintro r pre x z W _ _ ⟨s,b,k⟩ ⟨g,d,E,rfl,aa,I⟩ T
   have q:=ab W s d pre E b aa k I.tl;refine ae r pre x g d W _ T q (mK.start I) (λa u s2 f h2=>?_);exact⟨f.rx.ko.from _,aea f.rx,s2,h2,f.toMem⟩
 . rintro D xs W G V ⟨s,b,k⟩ q
   exact af D xs s W V b (Lith.Mem.addC k (hF s) q (ax C G))
 rintro D c pre W G ah h q
 exact h.elim
end
end Go.Lith
namespace Go.Proofs.YtfekpcimgncioaaGreatDoor
open Go.Proofs.Tryz
open Go.RowKit Go.Lith
set_option maxRecDepth 100000
attribute [local irreducible] bf M fY cJ cU Code.wp
attribute [local congr] dK dL cZ dJ
variable{N gf Bs:Nat}
def anM{i:Nat}(l Bs g c:Nat){es:Array cu}{D:List (P3×P3)}(J w:List P3->an->Prop)(W:an)(k:AbidesFrom W.heap.size J)
 (hY:∀pre x f,J pre f->pre.length<D.length->YieldAt Fence.wide (i-1) G1 l #[pt x] f λe d=>(e=.returned (.bool Z)/\J (pre++[x]) d/\KeepsWalks f d)\/(e=.returned (.bool X9)/\w (pre++[x]) d))
 (A:gQ W g es c) (j:bC pt pt D es c) (hB:fK W Bs [.map (H g)] 99) (z:J [] W) :
 CallsIn Fence.wide i G1 129 #[.func (.yield l) #[] #[],.pointer (H ⟨Bs,0,G0⟩)] W λe d=>(∃v,e=.returned v)/\((∃xs:List P3,xs.Perm (D.map (·.1))/\J xs d)\/(∃pre,True/\w pre d)):=by
 refine callsIn_of_wp func129 O trivial ?_ O;simp only[ntmps129,iq,be,cd,aa,mx,jg,jh,jw,jj,cl,de];refine wpIn_wide.2 ?_;refine aV λK1 G=>am (aS O (hB.lies1 ale O) ?_);simp only[I];refine agX En O A λR r y hr hI=>E (G _ _ ?_);have ah:J [] R:=k [] W R G0 z (ad8 y) (λ_ h=>by cases h);have ak:=A.ext y;clear z G K1;refine jd ?_;simp only[I];refine Gh [] [3,6,7,8,9,10,11,12,13] (λn vs s=>∃(a rs:List (P3×P3)) (q:Array Nat),vs=[]/\gQ s g es c/\uT s r g c q c/\lU pt pt D es q a rs/\J (a.map (·.1)) s/\n=rs.length) ?_ ?_
 . apply Exists.intro
   simp only[zQ,zR,zD,zE];exact⟨[],D,#[],trivial,ak,hI,lU.start j,ah,O⟩
 intro n vs wr hL u
 obtain⟨a,rs,q,rfl,ao,T,o,aj,hn⟩:=hL;have av:=o.len;simp only[zu,zF,zG];refine aV λK5 K=>am (aqu O T ao j o λbb kk vv ar P ap V S B=>?_);refine C (nS O) (E (K _ _ ?_));have U:J (a.map (·.1)) P:=k _ _ _ _ aj ap (λr' e=>by cases e;exact⟨hr,_,T,O⟩);clear K K5;refine aV λK6 L=>?_;simp only[I];refine cQ O ?_ ?_<;>intro ab
 . obtain⟨p,kb,ae,F,Y⟩:=Dd ab B
   refine ja (L _ _ ?_);clear L K6;refine jd (aV λK7 M=>am (eB (pY O S V j Y) ?_));simp only[I];refine C (dV O O) ?_;have m:=Mem.refl P;simp only[I];refine kR m eH O ?_;clear m;intro g2 u2 m;simp only[I];refine cB m 0 O O O aA (X O) O ?_;clear m;intro Q m;simp only[zy,zx,bR,zF,zG,aa] at m;refine E (M _ _ ?_);clear M K7;have ai:J (a.map (·.1)) Q:=k _ _ _ _ U (ad8 m.ext) (λ_ h=>by cases h);have al:=V.ext m.ext;have ag:=S.ext m.ext;have af:=m.b 0 rfl;obtain⟨fn,tmps,aq,au,hy,hR⟩:=hY (a.map (·.1)) p Q ai (by have:=F.length_eq;rw[eb];simp only[be] at this;omega);refine aV λK8 N=>(wpIn_wide (n:=i)).1 (wpIn_region_lit (yY (aI _) ?_));simp only[I];refine yY (bE O (af.full aF aA)) ?_;simp only[I];refine Sd (args:=[pt p]) O O hy hR ?_;rintro e w4 (⟨rfl,t,ad⟩|⟨rfl,t⟩)
   . refine⟨_,O,yY (lB O _) (N _ _ ?_)⟩
     simp only[I];refine Qs O (ja ?_);simp only[cn,Exit.then];refine⟨ae.length,_,?_,O,?_,?_⟩
     .rw[hn,F.length_eq];exact fu _
     .simp only[I,zv]
     simp only[zQ,zR,zD,zE]
     exact⟨a++[(p,kb)],ae,_,trivial,ad.same g _ al O,ad.same r _ ag O,Y,by rw[db];exact t,O⟩
   refine⟨_,O,yY (lB O _) (N _ _ ?_)⟩
   simp only[I];refine wU O (i_ ?_);simp only[cn,Exit.then];exact au8 O ⟨⟨_,O⟩,.inr ⟨_,trivial,t⟩⟩
 obtain rfl:=Db ab B
 refine wp_exit ?_;simp only[cn,Exit.then,Y4];exact So O ⟨⟨_,O⟩,.inl ⟨a.map (·.1),o.done.map _,U⟩⟩
def Qm{w:an}{Bs g c:Nat}{es:Array cu}{D:List (P3×P3)}(b:gQ w g es c)(h:bC pt pt D es c)(a:fK w Bs [.map (H g)] 99) :
 SeqStopsK Fence.wide 3 G1 129 #[.pointer (H ⟨Bs,0,G0⟩)] (λx:P3=>#[pt x]) KeepsWalks (λxs=>xs.Perm (D.map (·.1))) (λ_=>True) D.length w:=λl J e W d i _ j f=>
 anM l Bs g c J e W i j ((d.block g b.lt).trans b) h ((d.block Bs a.lt).trans a) f
structure SlS where
 A:Option Addr
 n:Nat
 cap:Nat
 xs:List ak
def aqw{w0 W:an}{g:Nat}{s a:SlS}{pre j:List P3}(h:s.n=pre.length/\s.xs=pre.flatMap pI)(l:a.n=j.length/\a.xs=j.flatMap pI)(m:Mem w0 W [bI g [.slice s.A s.n s.cap] 65,oI 30 3 s.A s.n s.cap s.xs])(c:Mem w0 W [bI g [.slice a.A a.n a.cap] 65,oI 30 3 a.A a.n a.cap a.xs]):a.n=pre.length/\a.xs=pre.flatMap pI:=by
 obtain⟨A,n,cap,xs⟩:=s;obtain⟨r,n',w,v⟩:=a;dsimp only at h l m c ⊢;have e:W.heap[g]? = _:=m.b 0 rfl;rw[show W.heap[g]? = _ from c.b 0 rfl] at e;simp only[Option.some.injEq,Obj.cells.injEq,List.toArray_inj,nj,Value.slice.injEq,Y8] at e;obtain⟨rfl,rfl,rfl⟩:=e;refine⟨h.1,?_⟩;rcases (m.o 1 rfl).cases with ⟨rfl,_,_,d⟩|⟨t,u,rfl,_,p,_,_,_,d⟩
 . rcases (c.o 1 rfl).cases with ⟨_,_,_,f⟩|⟨k,q,e,_⟩
   .rw[f,<-h.2,d]
   cases e
 rcases (c.o 1 rfl).cases with ⟨e,_⟩|⟨k,q,e,_,i,_,_,_,f⟩
 .cases e
 cases e
 rw[p] at i;cases i;rw[<-f,d,h.2]
def anN{q:Nat}(w:an):dF G1 69 [.map (H q)] w (λv w'=>∃g,v=.func (.func 129) #[] #[.pointer (H ⟨g,0,G0⟩)]/\w.heap.size<=g/\fK w' g [.map (H q)] 99):=by
 refine⟨bK func69 (by kernel_rfl),?_⟩;have m:=Mem.refl w
 go_enter func69,ntmps69
 apply kX 7 [0] m;simp only[↓U];intro a u m;refine C eR ?_;simp only[I,fx,bm,df];apply aJ 3 [] m;simp only[↓U];exact aU O O ⟨_,O,m.ext,a,O,m.ge _ bq a O,(m.b 0 O)⟩
def Jz{α:Type}{n:Nat}{P:cg}{g:Nat}{lb:Array ak}{c:α->Array ak}{a:an->an->Prop}{S b:List α->Prop}{w u:an}(h:SeqStopsK Fence.wide n P g lb c a S b N w)(e:eQ w u):SeqStopsK Fence.wide n P g lb c a S b N u:=λl J d W f=>h l J d W (Below.trans e (Below.mono f (Below.size e)))
def aeb{S:List P3->Prop}(w:an)(P:Entr G1 gf)(T:SeqStopsK Fence.wide 3 G1 gf #[.pointer (H ⟨Bs,0,G0⟩)] (λx:P3=>#[pt x]) KeepsWalks S (λ_=>True) N w)(hN:N<=10000000):dF G1 193 [.slice G0 0 0,.func (.func gf) #[] #[.pointer (H ⟨Bs,0,G0⟩)]] w (λv w'=>∃xs:List P3,SL 30 3 (xs.flatMap pI) xs.length w v w'/\S xs):=by
 refine⟨bK func193 (by kernel_rfl),?_⟩;have m:=Mem.refl w;refine (callsIn_wide (n:=4)).1 (callsIn_of_wp_marks func193 O trivial ?_ O);simp only[ntmps193,iq,be,cd,aa,mx,jg,jh,jw,jj,cl,de];refine wpIn_wide.2 ?_;refine aV λy l=>am (avc m O O ?_);intro G u m;refine C aK (E (l _ _ ?_));try clear l y
 refine aV λz p=>aV λB q=>?_;simp only[I];replace m:=m.nilO 30 3;refine am (C aI (E (q _ _ ?_)));try clear q B
 refine jd ?_;simp only[I];replace m:=m.s01;refine anL (L:=_) (v1:=λx=>pt x) (c1:=pI) (T1:=30) (d1:=5) O P (Jz T m.ext) (λs:SlS=>[bI G [.slice s.A s.n s.cap] 65,oI 30 3 s.A s.n s.cap s.xs]) (λpre s=>s.n=pre.length/\s.xs=pre.flatMap pI) (λs i j=>?_) (λW s s2 pre ad h h2 m1 m2=>aqw h h2 m1 m2) (s0:=⟨G0,0,0,[]⟩) m ⟨O,O⟩ ?_ ?_ ?_
 .simp only[av,bw,Y3] at j;rcases j with rfl|rfl;exact .inl ⟨_,_,_,O⟩;exact .inr ⟨_,_,_,_,_,_,O⟩
 .intro r pre x s W K hs m g;try dsimp only at m g ⊢
  simp only[zF,zG];refine cO (Mg m eH O ?_);intro U u m;simp only[I];refine Fw m 0 O O O aA (X O) O ?_;intro u m;simp only[zy,zx,bR,zF,zG,aa] at m;exact E (g _ _ m)
 .rintro r pre x V ⟨d,n1,e,R⟩ W Q' _ ab ⟨a,c⟩ m k;dsimp only at m k a c ⊢;subst c
  simp only[zF,zG];refine rB (cO (aS O ((m.b 1 O).lies1 alb O) ?_));simp only[I];refine aS O ((m.b 0 O).full aF aA) ?_;simp only[I];refine tC O ?_;intro u Y f M Q;replace m:mK _ _ _ _:=⟨m.toMem.newB f M Q,m.rx.ext f⟩
  simp only[I];refine anK m 3 O O kK vK O (by decide) O O O (m.b 0 O).rowsO (jB O) (by omega) (by omega) ?_;intro d e u m;simp only[zF,zG] at m;rw[show pre.flatMap pI++_=(pre++[x]).flatMap pI by rw[bi];rfl] at m;simp only[I];refine jE m 2 O O O ala (X O) ⟨O,O⟩ ?_;intro u m;simp only[I,zy,zx,bR,aa] at m;exact E (k _ _ ⟨d,n1+1,e,(pre++[x]).flatMap pI⟩ ⟨m.toMem.sel [X9,X9,Z,Z],m.rx⟩ ⟨by simp[a],O⟩)
 rintro D xs ⟨d,n1,e,R⟩ u J ⟨a,c⟩ m;dsimp only at m a c;subst c;refine p _ _ ?_;try clear p z
 refine aV λF t=>am (aS O ((m.b 1 O).lies1 alb O) ?_);simp only[I];refine C aK (E (t _ _ ?_));try clear t F
 refine i_ ?_;simp only[I];try simp only[cn,Exit.then,Y4]
 refine aeO (Def.mk (m.get 0 O)) ?_;replace m:=m.putD (o':=.deferred G0) 0 O;simp only[zF,zG] at m;refine aU O O ?_;try simp only[zD,zE]
 exact⟨_,O,m.ext,xs,⟨d,e,n1,a,O,(m.o 2 O)⟩,J⟩
def agc{S:List P3->Prop}(w:an)(e:Entr G1 gf)(g:SeqStopsK Fence.wide 3 G1 gf #[.pointer (H ⟨Bs,0,G0⟩)] (λx:P3=>#[pt x]) KeepsWalks S (λ_=>True) N w)(b:N<=10000000):dF G1 127 [.func (.func gf) #[] #[.pointer (H ⟨Bs,0,G0⟩)]] w (λv w'=>∃xs:List P3,SL 30 3 (xs.flatMap pI) xs.length w v w'/\S xs):=by
 refine⟨bK func127 (by kernel_rfl),?_⟩;have m:=Mem.refl w
 go_enter func127,ntmps127
 apply fD 7 [0] m;simp only[↓U];refine aX O O (aeb _ e (Jz g m.ext) b) ?_;rintro v u a ⟨xs,⟨h,j,i,f,rfl,d⟩,c⟩;replace m:=m.newO a d;apply aJ 3 [] m;simp only[↓U];exact aU O O ⟨_,O,m.ext,xs,⟨_,_,_,f,O,(m.o 0 O)⟩,c⟩
def aec{S:List P3->Prop}(w:an)(h:Entr G1 gf)(n:SeqStopsK Fence.wide 3 G1 gf #[.pointer (H ⟨Bs,0,G0⟩)] (λx:P3=>#[pt x]) KeepsWalks S (λ_=>True) N w)(f:∀xs,S xs->xs.length<=N)(e:N<=10000000):dF G1 68 [.func (.func gf) #[] #[.pointer (H ⟨Bs,0,G0⟩)],.func (.func 70) #[] #[]] w (λv w'=>∃xs ys:List P3,SL 30 3 (ys.flatMap gA) xs.length w v w'/\S xs/\ys.Perm xs/\ys.Pairwise λa b=>¬b.Lt a):=by
 refine⟨bK func68 (by kernel_rfl),?_⟩;have m:=Mem.refl w
 go_enter func68,ntmps68
 apply fD 7 [0] m;simp only[↓U];refine aX O O (agc _ h (Jz n m.ext) e) ?_;rintro v u d ⟨xs,⟨p,r,q,j,rfl,g⟩,c⟩;replace m:=m.newO d g;apply aJ 6 [0] m;simp only[↓U];refine nK m 0 ae1 O O (λm=>ahL m 0 O (by have:=f xs c;omega)) ?_;rintro v i u m ⟨rfl,ys,rfl,l,k⟩;simp only[zF,zG] at m;apply aJ 7 [] m;simp only[↓U];exact aU O O ⟨_,O,m.ext,xs,ys,⟨_,_,_,j,O,(m.o 0 O)⟩,c,l,k⟩
end Go.Proofs.YtfekpcimgncioaaGreatDoor
namespace Go.Lith
open Go.RowKit
def Ka(u:P3):Nat:=if u.x≠0 then 0 else if u.y≠0 then 1 else 2
def Qn(a b c:Int):Prop:=(0<=a/\0<=b/\0<=c)\/(a<=0/\b<=0/\c<=0)
/-! ### Corners -/
section
variable{P:cg}{ds:List eh}{l:List ak}{x y:cw}{T T' v7 t ty:bh}{v z:ak}
end
section
variable{P:cg}{ds:List eh}{l:List ak}{ty:bh}{v u:ak}
variable{ops:Array Oper}{Q:Exit->Act->an->Prop}{rest:List Oper}{d:Nat}{pos:String}{after:Array Edge}{w w0:an}{is:List It}
end
section
variable{P:cg}{w0:an}{is:List It}{l:List ak}{ty:bh}{u:ak}
variable{ops:Array Oper}{Q:Act->Prop}{rest:List Oper}{d:Nat}{pos:String}{after:Array Edge}{v:ak}{ds:List eh}
end
section
variable{P:cg}{l:List ak}{x y z:cw}{ty:bh}{k:IntKind}{m n q r:Int}
def aus{a0:Array bh}(c:ev l x=.int k m)(d:ev l y=.int k n)(e:ev l z=.int k q)(b:(if q<(if n<m then n else m) then q else if n<m then n else m)=r):iD P l (.call { callee:=.builtin .min,args:=#[x,y,z],argTypes:=a0 }) ty (.int k r):=λw o a _=>by
 subst b;simp[N,a,resolve,invoke,builtin,Builtin.min_,Builtin.min2,cK,c,d,e]
def aut{a0:Array bh}(c:ev l x=.int k m)(d:ev l y=.int k n)(e:ev l z=.int k q)(b:(if (if m<n then n else m)<q then q else if m<n then n else m)=r):iD P l (.call { callee:=.builtin .max,args:=#[x,y,z],argTypes:=a0 }) ty (.int k r):=λw o a _=>by
 subst b;simp[N,a,resolve,invoke,builtin,Builtin.max_,Builtin.max2,cK,c,d,e]
end
end Go.Lith
namespace Go.Proofs.YtfekpcimgncioaaGreatDoor
open Go.Proofs.Tryz
open Go.RowKit Go.Lith
set_option maxRecDepth 100000
attribute [local irreducible] bf M fY cJ cU Code.wp
attribute [local congr] dK dL cZ dJ
variable{u c d q s:P3}{a:Int}
def aci(u:P3):Int:=if u.x≠0 then 0 else if u.y≠0 then 1 else if u.z≠0 then 2 else -1
def Mh{n:Int}:¬cA n=0↔n≠0:=not_congr gX
def Hi{n:Int}(h:¬¬cA n=0):¬n≠0:=λk=>h (Mh.2 k)
def anO(h:¬Z3 u):aci u=(Ka u:Int):=by
 unfold aci Ka;unfold Z3 at h
 repeat' split
 all_goals first|rfl|(exfalso;omega)
def anP(h:Z3 u):aci u = -1:=by
 obtain⟨h1,h2,a⟩:=h;simp[aci,h1,h2,a]
class N4(p:P3):Prop where
 x : -549755813888<p.x/\p.x<549755813888
 y : -549755813888<p.y/\p.y<549755813888
 z : -549755813888<p.z/\p.z<549755813888
theorem N3.cross{v:P3}(a:N3 u)(b:N3 v):N4 (u.cross v):=by
 have h1:=Di a.y b.z;have h2:=Di a.z b.y;have c:=Di a.z b.x;have d:=Di a.x b.z;have e:=Di a.x b.y;have f:=Di a.y b.x;exact⟨by simp only[P3.cross];omega,by simp only[P3.cross];omega,by simp only[P3.cross];omega⟩
def rH{b:Int}(c : -549755813888<a/\a<549755813888)(d:b.natAbs<524288) : -288230376151711744<a*b/\a*b<288230376151711744:=by
 have h:(a*b).natAbs<=549755813887*524287:=by rw[Int.natAbs_mul];exact Nat.mul_le_mul (by omega) (by omega)
 omega
def ahP  : eS G1 304 [sg u] (G (aci u)):=by
 intro w;refine⟨bK func304 (by kernel_rfl),?_⟩;have m:=Mem.refl w
 go_enter func304,ntmps304
 apply kX 26 [1,4,1,0] m;simp only[↓U,amd];intro e;apply I0;omega;intro u m;refine C (jV O O) ?_;apply aJ 8 [0,0] m;simp only[↓U];refine bB O ?_ ?_<;>intro a
 .apply aG 6 [] m;simp only[↓U];refine aU O O ?_;try simp only[zD,zE]
  exact⟨_,O,m.ext,by rw[aci,Z9 (Mh.1 a)]⟩
 have b:=a;apply aG 19 [1,0] m;simp only[↓U,R];apply I0;omega;refine C (jW O O) ?_;apply aJ 8 [0,0] m;simp only[↓U];refine bB O ?_ ?_<;>intro a
 .apply aG 6 [] m;simp only[↓U];refine aU O O ?_;try simp only[zD,zE]
  exact⟨_,O,m.ext,by rw[aci,K0 (Hi b),Z9 (Mh.1 a)]⟩
 have c:=a;apply aG 19 [1,0] m;simp only[↓U,R];apply I0;omega;refine C (jX O O) ?_;apply aJ 8 [0,0] m;simp only[↓U];refine bB O ?_ ?_<;>intro a
 .apply aG 6 [] m;simp only[↓U];refine aU O O ?_;try simp only[zD,zE]
  exact⟨_,O,m.ext,by rw[aci,K0 (Hi b),K0 (Hi c),Z9 (Mh.1 a)]⟩
 have d:=a;apply aG 19 [2] m;simp only[↓U,R];apply I0;omega;refine aU O O ?_;try simp only[zD,zE]
 exact⟨_,O,m.ext,by rw[aci,K0 (Hi b),K0 (Hi c),K0 (Hi d)]⟩
def acj{v:P3}(a:N4 u)(b:N3 v):eS G1 308 [nv u,nv v] (G (u.dot v)):=by
 intro w;refine⟨bK func308 (by kernel_rfl),?_⟩;have m:=Mem.refl w
 go_enter func308,ntmps308
 apply kX 12 [2,1,0] m;simp only[↓U,vO,j,ag,ah,aa];intro d e;apply I0;omega;intro u m;refine C (qW O O (cF (by have h1:=rH a.x b.x;have h2:=rH a.y b.y;have c:=rH a.z b.z;omega) (by have h1:=rH a.x b.x;have h2:=rH a.y b.y;have c:=rH a.z b.z;omega))) ?_;apply aJ 4 [2,1,0] m;simp only[↓U,vO,j,ag,ah,aa];apply I0;omega;refine C (qW O O (cF (by have h1:=rH a.x b.x;have h2:=rH a.y b.y;have c:=rH a.z b.z;omega) (by have h1:=rH a.x b.x;have h2:=rH a.y b.y;have c:=rH a.z b.z;omega))) (C (fZ rfl rfl (cF (by have h1:=rH a.x b.x;have h2:=rH a.y b.y;have c:=rH a.z b.z;omega) (by have h1:=rH a.x b.x;have h2:=rH a.y b.y;have c:=rH a.z b.z;omega))) ?_);apply aJ 4 [2,1,0] m;simp only[↓U,vO,j,ag,ah,aa];apply I0;omega;refine C (qW O O (cF (by have h1:=rH a.x b.x;have h2:=rH a.y b.y;have c:=rH a.z b.z;omega) (by have h1:=rH a.x b.x;have h2:=rH a.y b.y;have c:=rH a.z b.z;omega))) (C (fZ rfl rfl (cF (by have h1:=rH a.x b.x;have h2:=rH a.y b.y;have c:=rH a.z b.z;omega) (by have h1:=rH a.x b.x;have h2:=rH a.y b.y;have c:=rH a.z b.z;omega))) ?_);apply aJ 3 [] m;simp only[↓U];exact aU O O ⟨_,O,m.ext,O⟩
def xM{a b:P3}[I3 a][I3 b][I3 c][I3 d]:eS G1 243 [pt a,pt b,pt c,pt d] (G (cA (((b.sub a).cross (c.sub a)).dot (d.sub a)))):=by
 intro w;refine⟨bK func243 (by kernel_rfl),?_⟩;have m:=Mem.refl w
 go_enter func243,ntmps243
 apply kX 15 [4,3,2,1,0] m;simp only[↓U,aN];intro j k l n u m;refine Zt O O O O ?_;intro u o e f g;replace m:=m.newB e f g;simp only[I];refine cC m O O (aaA _ (m.b 0 O)) ?_;rintro v u m ⟨bo,rfl,i⟩;apply aJ 1 [0] m;simp only[↓U];refine lL O ?_ ?_<;>intro h
 .obtain⟨_,_,_,_⟩:=i h;apply aG 1 [0] m;simp only[↓U];refine mq m aD (by kernel_rfl) (ql O (λu m=>((m.b 4 O).full aF aA)) ?_);simp only[I];refine ql O (λu m=>((m.b 3 O).full aF aA)) ?_;simp only[I];refine jF O O sL ?_;simp only[I];refine ql O (λu m=>((m.b 4 O).full aF aA)) ?_;simp only[I];refine ql O (λu m=>((m.b 2 O).full aF aA)) ?_;simp only[I];refine jF O O sL ?_;simp only[I];refine jF O O (Ii X3 X3) ?_;simp only[I];refine ql O (λu m=>((m.b 4 O).full aF aA)) ?_;simp only[I];refine ql O (λu m=>((m.b 1 O).full aF aA)) ?_;simp only[I];refine jF O O sL ?_;simp only[I];refine jF O O (acj (N3.cross X3 X3) X3) ?_;simp only[I];refine jF O O ab4 (L aK (bM ?_));intro u m;apply S 1 [] m;simp only[↓U];exact aU O O ⟨_,O,m.ext,O⟩
 apply aG 2 [0] m;simp only[↓U];refine mq m aD (by kernel_rfl) (ql O (λu m=>((m.b 4 O).full aF aA)) ?_);simp only[I];refine ql O (λu m=>((m.b 3 O).full aF aA)) ?_;simp only[I];refine jF O O mQ ?_;simp only[I];refine ql O (λu m=>((m.b 4 O).full aF aA)) ?_;simp only[I];refine ql O (λu m=>((m.b 2 O).full aF aA)) ?_;simp only[I];refine jF O O mQ ?_;simp only[I];refine jF O O (Cm Bv.of Bv.of) ?_;simp only[I];refine ql O (λu m=>((m.b 4 O).full aF aA)) ?_;simp only[I];refine ql O (λu m=>((m.b 1 O).full aF aA)) ?_;simp only[I];refine jF O O mQ ?_;simp only[I];refine jF O O (Ft Bv.of Bv.of) ?_;simp only[I];refine jF O O (Oq D.up) (L aK (bM ?_));intro u m;apply S 1 [] m;simp only[↓U];exact aU O O ⟨_,O,m.ext,O⟩
def Ay{p:P3}:eS G1 305 [pt p,pt q] (.tuple #[pt (xZ p q),pt (Dt p q)]):=by
 intro w;refine⟨bK func305 (by kernel_rfl),?_⟩;have m:=Mem.refl w
 go_enter func305,ntmps305
 apply kX 12 [3,4,0] m;simp only[↓U,cY,aN];intro c d e f u m;refine tK m O O uD.pure 1 [0] ?_;simp only[↓U];intro u m;refine bB O ?_ ?_<;>intro a
 .apply aG 1 [0] m;simp only[↓U];refine zvt [X9,X9,Z,Z] [[1],[2],[1],[0]] (.take 0 (.take 1 (.one 2 (.one 3 .nil)))) m aD (by kernel_rfl) (bT (λ_ _ _ _ _ h=>h)) ?_;simp only[↓U,↓zzu,aN,aa];intro u m;apply S 1 [] m;simp only[↓U];refine jG O ⟨_,O,((m.b 1 O).full aF aA)⟩ ⟨_,O,((m.b 0 O).full aF aA)⟩ ?_;try simp only[zD,zE]
  exact⟨_,O,m.ext,by rw[xZ,Dt,Z9 a,Z9 a];rfl⟩
 apply aG 2 [0] m;simp only[↓U];refine zvt [X9,X9,Z,Z] [[2],[1],[1],[0]] (.take 0 (.take 1 (.one 2 (.one 3 .nil)))) m aD (by kernel_rfl) (bT (λ_ _ _ _ _ h=>h)) ?_;simp only[↓U,↓zzu,aN,aa];intro u m;apply S 1 [] m;simp only[↓U];refine jG O ⟨_,O,((m.b 1 O).full aF aA)⟩ ⟨_,O,((m.b 0 O).full aF aA)⟩ ?_;try simp only[zD,zE]
 exact⟨_,O,m.ext,by rw[xZ,Dt,K0 a,K0 a];rfl⟩
instance (a b c:Int):Decidable (Qn a b c):=inferInstanceAs (Decidable (_\/_))
instance {p q:P3}[I3 p][I3 q]:I3 (xZ p q):=by unfold xZ;split<;>assumption
instance {p q:P3}[I3 p][I3 q]:I3 (Dt p q):=by unfold Dt;split<;>assumption
def aqx{b c:Int}:(decide (0<=(if c<(if b<a then b else a) then c else if b<a then b else a))||decide ((if (if a<b then b else a)<c then c else if a<b then b else a)<=0))=decide (Qn a b c):=by
 unfold Qn;rw[<-Bool.decide_or]
 congr 1
 apply X2;constructor
 .intro h
  repeat' split at h
  all_goals omega
 intro h
 repeat' split
 all_goals omega
def aqy{b c:Int}:eS G1 307 [.agg #[G a,G b,G c]] (.bool (decide (Qn a b c))):=by
 intro w;refine⟨bK func307 (by kernel_rfl),?_⟩;have m:=Mem.refl w
 go_enter func307,ntmps307
 apply kX 13 [1,1,1,0] m;simp only[↓U,nT,j,ag,ah,aa];intro e;apply I0;omega;intro u m;refine C (aus O O O O) ?_;apply aJ 2 [0,0] m;simp only[↓U];refine gM O (λd=>aW xT bL O O (by decide) (by decide) O) ?_;simp only[I];refine lX O (λd=>bE (B d O) ((m.b 0 O).lies1 bJ O)) (gM O (λd=>aW xT bL O O (by decide) (by decide) O) ?_);simp only[I];refine lX O (λd=>bE (B d O) ((m.b 0 O).lies1 bJ O)) (gM O (λd=>aW xT bL O O (by decide) (by decide) O) ?_);simp only[I];refine lX O (λd=>bE (B d O) ((m.b 0 O).lies1 bJ O)) (gM O (λd=>aut (B d O) (B d O) (B d O) O) (gM O (λd=>Hr (B d O) O) (C (gY O O O) ?_)));apply aJ 3 [] m;simp only[↓U];refine aU O O ?_;try simp only[zD,zE]
 exact⟨_,O,m.ext,by rw[<-aqx]⟩
def ahQ{t:T3}(w:an):dF G1 303 [tr t] w (λv w'=>∃g,v=.func (.func 337) #[] #[.pointer (H ⟨g,0,G0⟩)]/\w.heap.size<=g/\fK w' g (aM t) 39):=by
 refine⟨bK func303 (by kernel_rfl),?_⟩;have m:=Mem.refl w
 go_enter func303,ntmps303
 apply kX 7 [0] m;simp only[↓U];intro a u m;refine C eR ?_;simp only[I,fx,bm,df];apply aJ 3 [] m;simp only[↓U];exact aU O O ⟨_,O,m.ext,_,O,m.ge _ bq _ O,(m.b 0 O)⟩
def Qo(n:Nat)(m:1<=n)(a c:Nat)(t:T3)(w:an)(b:fK w a (aM t) 39):SeqStopsK Fence.wide n G1 337 #[.pointer (H ⟨a,0,G0⟩)] (λx:Nat=>arC t x) (oJ c a) (λys=>ys=[0,1,2]) (λpre=>∀k∈pre,k<3) 3 w:=λl J d W i g o j f=>
 ajH n m l a c t J d (λs W h=>g s W _ G0 h ⟨rfl,rfl,rfl,ba _,λ_ _ _=>rfl⟩ (λr e=>by cases e)) j W ((i.block a b.lt).trans b) f
def Fy{l:List ak}{ty:bh}{x y:cw}{v:P3}{k:Nat}(c:k<3)(a:ev l x=sg v)(b:ev l y=G (k:Int)):iD G1 l (.index 36 x y) ty (G (cA (qR v k))):=by
 have h:k=0\/k=1\/k=2:=by omega
 rcases h with rfl|rfl|rfl
 .exact jV a b
 .exact jW a b
 exact jX a b
def ahR(n:Int) : -1<=cA n/\cA n<=1:=by
 unfold cA;split
 .omega
 split<;>omega
def aaE(m n:Int):IntKind.i64.wrap (cA m*cA n)=cA m*cA n:=by
 have h1:=ahR m;have h2:=ahR n;have a:cA m = -1\/cA m=0\/cA m=1:=by omega
 rcases a with h|h|h<;>rw[h]<;>exact cF (by omega) (by omega)
def aed{a b:P3}[I3 a][I3 b][I3 c][I3 d]{f k:Nat}(w:an)(g:fK w f [G (k:Int)] 3)(e:k<3):dF G1 338 [pt a,pt b,pt c,pt d,.pointer (H ⟨f,0,G0⟩)] w (λv _=>v=.bool (decide (cA (qR (vV a b c) k)*cA (qR (vV a b d) k)<=0))):=by
 refine⟨bK func338 (by kernel_rfl),?_⟩;have m:=Mem.refl w
 go_enter func338,ntmps338
 apply kX 9 [0] m;simp only[↓U];intro h i j l u m;refine mq m aD (by kernel_rfl) (fE 4 [4,3,4,2] ?_);simp only[↓U,aN];refine jF O O (uE (a:=a) (b:=b) (c:=a) (d:=c)) ?_;simp only[I];refine ql O (λu m=>((g.ext m.ext).lies1 bJ O)) ?_;simp only[I];refine L ((Fy (v:=vV a b c) e O O)) (fE 4 [4,3,4,1] ?_);simp only[↓U,aN];refine jF O O (uE (a:=a) (b:=b) (c:=a) (d:=d)) ?_;simp only[I];refine ql O (λu m=>((g.ext m.ext).lies1 bJ O)) ?_;simp only[I];refine L ((Fy (v:=vV a b d) e O O)) (L (qW O O (aaE _ _)) (L (Hr O O) (L aK ?_)));simp only[I];refine bM ?_;intro u m;apply S 1 [] m;simp only[↓U];exact aU O O ⟨_,O,m.ext,O⟩
section
variable{P:cg}{ops:Array Oper}{Q:Exit->Act->an->Prop}{rest:List Oper}{d j:Nat}{ty:bh}{pos:String}{after:Array Edge}{v:ak}{b:Bool}{ds:List eh}{l:List ak}{w w0:an}{is:List It}
variable{f:FuncId}{fo:cw}{xs:Array cw}{args:List ak}{first cap:Array ak}{a0:Array bh}
def ahS(m:Mem w0 w is)(a:yielded ops l.toArray j=H b)(c:b=Z->ev l fo=.func (.func f) first cap)(g:b=Z->first.toList++xs.toList.map (ev l)++cap.toList=args)(hc:b=Z->dF P f args w λx _=>x=v)
 (h:∀u,Mem w0 u is->bf P ops Q rest (Fr (l.set d (Xh b v)) ds) u):bf P ops Q (ci (H d) (.call { callee:=.value fo,args:=xs,argTypes:=a0 }) ty pos after (H (j,Z))::rest) (Fr l ds) w:=by
 cases b with
 |false=>simp only[Hu] at h;exact nN a (h w m)
 |true=>simp only[jK] at h;exact gE a (cC m (c rfl) (g rfl) (hc rfl) λx u m e=>by subst e;exact h u m)
end
def Ga(h:¬Z3 u):Ka u=Rq u/\Rq u<3:=by
 unfold Ka Rq;unfold Z3 at h;by_cases h1:u.x=0<;>by_cases h2:u.y=0<;>by_cases a:u.z=0<;>simp[h1,h2,a] at h ⊢
def arE(h:Z3 u):¬Rq u<3:=by
 obtain⟨h1,h2,a⟩:=h;simp[Rq,h1,h2,a]
def anQ{b:Int}:cA a*cA b<=0↔a*b<=0:=by
 unfold cA;rcases rb a 0 with ha|ha|ha<;>rcases rb b 0 with hb|hb|hb
 . have:=Int.mul_pos_of_neg_of_neg ha hb
   simp[ha,hb];omega
 .simp[hb]
 . have:=Int.mul_neg_of_neg_of_pos ha hb
   have:¬b<0:=by omega
   simp[ha,hb,this];omega
 .simp[ha]
 .simp[ha]
 .simp[ha]
 . have:=Int.mul_neg_of_pos_of_neg ha hb
   have:¬a<0:=by omega
   simp[ha,hb,this];omega
 .simp[hb]
 have:=Int.mul_pos ha hb
 have:¬a<0:=by omega
 have:¬b<0:=by omega
 simp[*]
def vX(p q r s:P3):T3:=if xZ p q=Dt p q then ⟨xZ r s,Dt r s,xZ p q⟩ else ⟨xZ p q,Dt p q,xZ r s⟩
theorem aaF{p:P3}(a:I3 p)(b:I3 q):I3 (xZ p q)/\I3 (Dt p q):=by
 unfold xZ Dt;split
 .exact⟨b,a⟩
 exact⟨a,b⟩
instance {p q r s:P3}[hp:I3 p][hq:I3 q][hr:I3 r][hs:I3 s]:IT (vX p q r s):=by
 unfold vX;split
 .exact⟨(aaF hr hs).1,(aaF hr hs).2,(aaF hp hq).1⟩
 exact⟨(aaF hp hq).1,(aaF hp hq).2,(aaF hr hs).1⟩
def auu{p r:P3}(h:(xZ p q).x=(Dt p q).x/\(xZ p q).y=(Dt p q).y/\(xZ p q).z=(Dt p q).z):vX p q r s=⟨xZ r s,Dt r s,xZ p q⟩:=Z9 (P3.eq h.1 h.2.1 h.2.2)
def auv{p r:P3}(h:¬((xZ p q).x=(Dt p q).x/\(xZ p q).y=(Dt p q).y/\(xZ p q).z=(Dt p q).z)):vX p q r s=⟨xZ p q,Dt p q,xZ r s⟩:=K0 λe=>h (by rw[e];exact⟨rfl,rfl,rfl⟩)
def arF(u:P3):Rq u<=3:=by
 unfold Rq;split
 .omega
 split
 .omega
 split<;>omega
def awu{p r:P3}(h:Z3 (Ji p q r s)):(oY (vX p q r s) && !decide ((Dt p q).Lt (xZ r s)) && !decide ((Dt r s).Lt (xZ p q)))=mF p q r s:=by
 unfold mF;rw[K0 (arE h)];unfold avE
 congr 2
 unfold vX oY alU;split
 . refine decide_eq_decide.2 ?_
   have:=arF (vV (xZ r s) (Dt r s) (xZ p q));simp only;omega
 refine decide_eq_decide.2 ?_
 have:=arF (vV (xZ p q) (Dt p q) (xZ r s));simp only;omega
def aqz{p r:P3}(h:¬Z3 (Ji p q r s)):(decide (cA (Ke p q r s)=0)&&decide (cA (qR (vV p q r) (Rq (Ji p q r s)))*cA (qR (vV p q s) (Rq (Ji p q r s)))<=0)&&decide (cA (qR (vV r s p) (Rq (Ji p q r s)))*cA (qR (vV r s q) (Rq (Ji p q r s)))<=0))=mF p q r s:=by
 unfold mF;rw[Z9 (Ga h).2];simp only[anQ,gX]
def Sf{p r:P3}[I3 p][I3 q][I3 r][I3 s]:eS G1 306 [pt p,pt q,pt r,pt s] (.bool (mF p q r s)):=by
 intro w;refine⟨bK func306 (by kernel_rfl),?_⟩;have m:=Mem.refl w
 go_enter func306,ntmps306
 apply kX 13 [4,3,2] m;simp only[↓U,aN];intro v A D E u m;apply S 1 [1,0] m;simp only[↓U,aN];refine nX m O O (uE (a:=p) (b:=q) (c:=r) (d:=s)) ?_;intro u m;simp only[I];refine tK m O O (ahP (u:=Ji p q r s)) 5 [0] ?_;simp only[↓U,awU,j,aa];intro F u m;by_cases f:Z3 (Ji p q r s)
 .rw[anP f] at m;apply S 10 [1,2,5,4,0] m;simp only[↓U,j,aN];apply I0;omega;refine tK m O O (Ay (p:=p) (q:=q)) 10 [4,3,3,2,0] ?_;simp only[↓U,aN,aa];intro u m;refine tK m O O (Ay (p:=r) (q:=s)) 12 [2,1,5,4,3] ?_;simp only[↓U,aN,nU,aa];intro u m;apply Lc 10 [0,6,5] m;simp only[↓U,mH,fJ,aN,aa];refine λl=>⟨_,fH,?_⟩
  intro u m;refine gc (kS m 0 [] [62,63,64,65] (λvs i=>vs=[]/\i=bI l [G (vX p q r s).a.x,G (vX p q r s).a.y,G (vX p q r s).a.z,G (vX p q r s).b.x,G (vX p q r s).b.y,G (vX p q r s).b.z,G (vX p q r s).c.x,G (vX p q r s).c.y,G (vX p q r s).c.z] 39) ?_ ?_)
  . intro o g
    refine bB O ?_ ?_<;>intro h
    .apply sO 6 [4,3,6,0] m;simp only[↓U,aN,nU,fJ,aa];intro u m;apply S 1 [0] m;simp only[↓U];exact g _ _ _ (by kernel_rfl) m ⟨O,by rw[auu h]<;>rfl⟩
    apply aG 1 [0] m;simp only[↓U];exact g _ _ _ (by kernel_rfl) m ⟨O,by rw[auv h]<;>rfl⟩
  intro vs i wr m n u
  obtain⟨rfl,rfl⟩:=n;simp only[zF,zG] at m;simp only[zu,zF,zG];apply S 3 [1,0] m;simp only[↓U,fJ];refine tK m O O (ab7 (t:=vX p q r s)) 1 [0] ?_;simp only[↓U];intro u m;refine eN O (λe=>bE O ((m.b 4 O).full aF aA)) (eN O (λe=>bE O ((m.b 3 O).full aF aA)) (agG m O O (λe=>by simp only[dx,bm,df,zA,zB,zC,zD,zE,e,jK];rfl) (λe=>(uD (p:=Dt p q) (q:=xZ r s)).pure) ?_));intro u m;refine fS O (λe=>lB (B e O)) (C (dR O O O) ?_);apply aJ 1 [0] m;simp only[↓U];refine eN O (λe=>bE O ((m.b 2 O).full aF aA)) (eN O (λe=>bE O ((m.b 5 O).full aF aA)) (agG m O O (λe=>by simp only[dx,bm,df,zA,zB,zC,zD,zE,e,jK];rfl) (λe=>(uD (p:=Dt r s) (q:=xZ p q)).pure) ?_));intro u m;refine fS O (λe=>lB (B e O)) (C (dR O O O) ?_);apply aJ 3 [] m;simp only[↓U];refine aU O O ?_;try simp only[zD,zE]
  exact⟨_,O,m.ext,by rw[Jw,awu f]⟩
 rw[anO f,(Ga f).1] at m;apply S 7 [1,1,0] m;simp only[↓U,j];apply I0;omega;refine C eR ?_;simp only[I,fx,bm,df];apply aJ 8 [5,4,3,2,0] m;simp only[↓U,aN];refine tK m O O (xM (a:=p) (b:=q) (c:=r) (d:=s)) 2 [0,0] ?_;simp only[↓U];intro u m;refine fS O (λe=>aI) ?_;simp only[I];refine eN O (λe=>bE O ((m.b 4 O).full aF aA)) (eN O (λe=>bE O ((m.b 3 O).full aF aA)) (eN O (λe=>bE O ((m.b 2 O).full aF aA)) (eN O (λe=>bE O ((m.b 1 O).full aF aA)) (ahS m O (λe=>B e O) (λe=>by simp only[dx,bm,df,zA,zB,zC,zD,zE,e,jK];rfl) (λe=>aed (a:=p) (b:=q) (c:=r) (d:=s) (k:=Rq (Ji p q r s)) _ (m.b 0 rfl) (Ga f).2) ?_))));intro u m;refine C (dR O O O) ?_;apply aJ 1 [0] m;simp only[↓U];refine fS O (λe=>aI) ?_;simp only[I];refine eN O (λe=>bE O ((m.b 2 O).full aF aA)) (eN O (λe=>bE O ((m.b 1 O).full aF aA)) (eN O (λe=>bE O ((m.b 4 O).full aF aA)) (eN O (λe=>bE O ((m.b 3 O).full aF aA)) (ahS m O (λe=>B e O) (λe=>by simp only[dx,bm,df,zA,zB,zC,zD,zE,e,jK];rfl) (λe=>aed (a:=r) (b:=s) (c:=p) (d:=q) (k:=Rq (Ji p q r s)) _ (m.b 0 rfl) (Ga f).2) ?_))));intro u m;refine C (dR O O O) ?_;apply aJ 3 [] m;simp only[↓U];refine aU O O ?_;try simp only[zD,zE]
 exact⟨_,O,m.ext,by rw[<-aqz f];rfl⟩
end Go.Proofs.YtfekpcimgncioaaGreatDoor
