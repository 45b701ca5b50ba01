/-
 Texts of one claim, laid together: Rchk2, Bag, W2, Ent, W3, K1, K2, K3, Ref1, Ref2, Ref3, Ref4, Ref5, Ref6, Ref7, Wide6, Wide1, Wide2, Wide3, Wide4, Wide5, Back, Wide7, Wide8, Wide9, Wide10, Geo1, Exact, Exact2, K6, Pack, Pack2, K22, K23, Meas1, RefG1.
-/
import Derived.RangeFuncNested
import Derived.RangeFuncBound
import Derived.RangeFuncCalls
import Derived.RangeFuncBox
import Derived.RangeFuncLeaves
import Derived.Shelf.Abstract
import Derived.Shelf.RegionOpen
import Derived.WalkKit
import Derived.OwnWalkIn
import Derived.TacticsInMore
import Derived.LoopNIn
import Derived.LoopIn
import Derived.Maps.AppendAt
import Derived.Test.YtfekpcimgncioaaGreatDoorCF2
open Nat renaming reduceAdd->aa,reduceMul->ag,zero_add->ai,le_refl->ar,le_trans->be,zero_le->bn,mul_one->dt,lt_succ_self->fx,lt_of_lt_of_le->gw,min_eq_left->ij,add_sub_cancel->im,eq_zero_or_pos->ji,reduceSub->ld,ne_of_gt->lp,mul_zero->lq,sub_le->rf
open Int renaming reduceToNat->ad,toNat_natCast->ah,reduceAdd->an,natAbs_mul->kd,sub_eq_add_neg->qh
open Go renaming Value->aj,World->ak,wp_region_lit->av,wpList->az,MapEntry->cu,wpQuiet->cw,wp_ret->jv,wp_block->ki,wp_skip->km
open List renaming getElem?_eq_getElem->am,getElem?_eq_some_iff->ao,mem_cons->ap,length_append->aq,take_of_length_le->au,flatMap_append->aw,length_cons->ay,mem_singleton->a_,mem_append->bh,map_cons->bi,length_take->bj,length_nil->bm,nil_append->bz,not_mem_nil->cd,getElem?_eq_none->cg,length_map->cj,append_assoc->cn,cons_append->cq,map_append->de,map_nil->dh,replicate->di,length_set->fm,take_length->fq,eq_nil_of_length_eq_zero->ft,pairwise_append->fu,length_filter_le->fw,length_drop->gg,set_cons_succ->gn,filter_append->gp,getD_eq_getElem?_getD->gr,map_toArray->gt,mem_append_right->gu,size_toArray->ib,length_singleton->ic,mem_append_left->il,set_cons_zero->iy,getD_cons_zero->jb,getD_cons_succ->jc,append_toArray->jd,mem_singleton_self->jg,push_toArray->jr,eq_of_mem_replicate->jw,take_zero->kx,drop_length->me,drop_zero->nt
open Go.Oper renaming mk->bu,semAt_some->rl
open Go.Value renaming bool->bw,oneCell'->qk
open Go.Exit renaming inBlock->dq
open Option renaming getD_some->dx,map_some->gh,getD_none->mg
open Array renaming getElem?_eq_some_iff->el,replicate_succ->iv,replicate_zero->iw,getElem?_modify->kn,ext_getElem?->li
open UInt8 renaming ofNat->fa,toNat_ofNat'->jy
open Option.some renaming inj->fc
open Bool renaming not_false->gd
open Prod renaming snd->qv
set_option maxHeartbeats 8000000
set_option linter.unusedSimpArgs false
set_option linter.defProp false
set_option linter.unusedVariables false
set_option linter.unusedSectionVars false
open And renaming intro->I0
open Bool renaming true->Z,false->X3
open Option renaming some->X4,none->X5
namespace Go.Proofs.YtfekpcimgncioaaGreatDoor
open Go.Proofs.Tryz
open Go.RowKit Go.Lith
variable{ts:List T3}{N cap:Nat}{op:Bool}
abbrev lS:=@underlying233
abbrev Mz:=@underlying284
abbrev pE:=@underlying285
set_option maxRecDepth 100000
attribute [local irreducible] az cw fW bX cP Code.wp
attribute [local congr] dK dL cR dJ
def Ts{all a:List E3}{e:E3}(h:0<jO all (e.2,e.1)\/0<jO a e):qH all a e=a:=J h
def Yv{all a:List E3}{e:E3}{k:Nat}(h1:¬0<jO all (e.2,e.1))(h2:¬0<jO a e)(h:ahc a e=k):qH all a e=a.take k++[e]++a.drop k:=by
 rw[qH,X (λh=>h.elim h1 h2),adY,h]
def asf{w:ak}{a:Addr}{e:E3}(h:kV w a (cJ e)):kV w a [X6 e.1.x,X6 e.1.y,X6 e.1.z,X6 e.2.x,X6 e.2.y,X6 e.2.z]:=h
def gt0{n:Nat}:((0:Int)<(n:Int))↔0<n:=by omega
def ak0{A:Option Addr}(w:ak)(F:bW w A N ts)(hN:N<=100000000):cY prog 28 [.slice A N cap] w (SL 56 6 ((bB ts).flatMap cJ) (bB ts).length w):=by
 refine⟨bJ func28 (by kernel_rfl),?_⟩;have m:=Mem.refl w
 go_enter func28,ntmps28
 apply fF 7 [0] m;simp only[↓U];refine bF O O (agk _ (F.ext m.ext) (by omega)) ?_;rintro v u f ⟨P,M,n3,an,rfl,g⟩;replace m:=m.newO f g;have af:=pG ts;have ao:=F.len;apply aH 4 [0] m;simp only[↓U];refine aD aM ?_;replace m:=m.nilO 56 6;apply aH 7 [0] m;simp only[↓U];refine bT [4,5] [6,7,8,9,12,13,14,15,16,17,18,19,20,21,22,23,24,25,26,27,28,29,30,31,32,33,34,35,36,37,38,39,40,41,42,43,44,45,46,47,48,49,50,51,52,53,54,55,56,57,58,59,60,61,62,63] (λn vs z=>∃(k c q:Nat) (l:Option Addr),vs=[.slice l c q,X6 (k:Int)]/\Mem w z [oI 56 6 l c q ((((aX ts).take k).foldl (qH (aX ts)) []).flatMap cJ),oI 56 6 P n3 M ((aX ts).flatMap cJ)]/\(c<=k)/\(k<=n3)/\(n=n3-k)) ?_ ?_
 .exact⟨_,0,_,_,_,O,m,ar _,bn _,O⟩
 intro n vs wr s u Y p;obtain⟨k,c,q,l,rfl,m,aj,hk,hn⟩:=s;simp only[zu,zF,zG];apply L 8 [0,0] m;simp only[↓U,Ys];refine bC O ?_ ?_<;>intro ab
 .obtain⟨e,H⟩:∃e,(aX ts)[k]? = X4 e:=⟨_,am (by omega)⟩
  obtain⟨S,rfl⟩:=(m.o 1 rfl).some (by omega);apply xI 14 [0,4,0] m;simp only[↓U,Ti,Yt,Bz,ah,ai,aa];refine⟨_,λu m=>(lA ((asf ((m.o 1 O).at Ly H)).lies Sz qN)),λQ=>⟨by omega,?_⟩⟩;intro u m;obtain⟨B,E⟩:∃B,B=((aX ts).take k).foldl (qH (aX ts)) []:=⟨_,rfl⟩
  rw[<-E] at m;have D:B.length=c:=(m.o 1 rfl).num Ly (by decide);have ap:=(m.o 1 rfl).le;have hs:=ahd (all:=aX ts) H;rw[<-E] at hs;rcases ji (jO (aX ts) (e.2,e.1)) with hz | hz
  .apply aT 7 [1,1,0] m;simp only[↓U,Ca,aP,Gs,ad,ag,aa];apply I0;omega;refine cK m O O (Qg (es:=aX ts) (e:=(e.2,e.1)) _ ((m.o 2 O).lat Ly (by decide)) (by omega)) ?_;rintro v u m rfl;apply aH 4 [2,0,0,1,0] m;simp only[↓U,Bz];apply I0;omega;refine eP O (cK m O O (Qg (es:=B) (e:=e) _ ((m.o 1 O).lat Ly (by decide)) (by omega)) ?_);rintro v u m rfl;apply aH 3 [0,0,0] m;simp only[↓U];refine bC O ?_ ?_<;>intro I
   .rw[Ts (.inr (gt0.1 I))] at hs;apply L 6 [0] m;simp only[↓U];apply I0;omega;exact p (n3-(k+1)) _ _ (by omega) (by kernel_rfl) ⟨k+1,_,_,_,O,((m.reO 1 O ((m.o 1 O).as (by rw[hs]))).sel [X3,Z,Z]),by omega,by omega,O⟩
   have K:¬0<jO B e:=λh=>I (gt0.2 h);apply L 7 [0] m;simp only[↓U];refine bT [7] [8,36,37,38,39,40,41,42,43,44,45,46,47,48,49] (λn vs z=>∃(j:Nat),vs=[X6 (j:Int)]/\Mem w z [bI Q (cJ e) 56,oI 56 6 l c q ((B).flatMap cJ),oI 56 6 (X4 ⟨S,0,X5⟩) n3 M ((aX ts).flatMap cJ)]/\(Pre (λx=>ltE x e) B j)/\(j<=c)/\(n=c-j)) ?_ ?_
   .exact⟨_,0,O,m,Pre.zero,bn _,O⟩
   intro n vs wr s u K2 T;obtain⟨j,rfl,m,r,hj,al⟩:=s;simp only[zu,zF,zG];apply L 8 [0,0] m;simp only[↓U,Ys];refine bC O ?_ ?_<;>intro ae
   .obtain⟨x,t⟩:∃x,B[j]? = X4 x:=⟨_,am (by omega)⟩
    obtain⟨gP,rfl⟩:=(m.o 1 rfl).some (by omega);apply L 3 [0] m;simp only[↓U];refine mq m aB (by kernel_rfl) (cX 5 [0,4,1] ?_);simp only[↓U,Ti,Bz,ah,ai];refine⟨_,λu m=>(lA (((m.o 1 O).at Ly t).lies Sz qN)),by omega,?_⟩;refine eH O O (akY (a:=x) (b:=e)) (aK aM (aZ ?_));intro u m;apply aT 6 [0] m;simp only[↓U];refine gF O ?_ ?_<;>intro J
    .have C:ahc B e=j:=apL r t (by simpa using J);rw[Yv (by omega) K C] at hs;apply L 3 [0] m;simp only[↓U];refine aD aM ?_;replace m:=m.nilO 56 6;apply aH 6 [0] m;simp only[↓U];refine aD (nK wS qN O O (ah _) (by omega) (by omega)) ?_;simp only[G];refine bN m 0 O O wS Ds O (by decide) O O (by rw[iX Ly,bj,ij (show j<=B.length by omega)]) ((((m.o 2 O).lat Ly (by decide)).take (k:=j) (by omega)).cells Ly (by decide)) (aap _) (by omega) (by omega) ?_;intro d i u m;simp only[zF,zG] at m;rw[bz,ai] at m;simp only[ai];apply aH 6 [2,0] m;simp only[↓U,Bz];refine Mn O ?_;intro u R f g y;replace m:=m.newB f g y;simp only[G];refine bN m 1 O O wS Ds O (by decide) O O O (m.b 0 O).rowsO (fN O) (by omega) (by omega) ?_;intro d i u m;simp only[zF,zG] at m;apply aH 6 [0] m;simp only[↓U];refine aD (uO wS qN O O (ah _) (by omega) (by omega) O) ?_;simp only[G];refine bN m 1 O O wS Ds O (by decide) O O (by rw[iX Ly,gg,D]) (((m.o 3 O).lat Ly (by decide)).cellsD Ly (by decide) (by omega)) (aap _) (by omega) (by omega) ?_;intro d i u m;simp only[zF,zG] at m;refine aD aM ?_;simp only[G];replace m:=(m.pull 1 O).mv 2 O;simp only[dZ,eA,zF,zG] at m;apply aH 7 [0] m;simp only[↓U];apply I0;omega;exact p (n3-(k+1)) _ _ (by omega) (by kernel_rfl) ⟨k+1,_,_,_,O,((m.reO 2 O ((m.o 2 O).as (by rw[hs,aw,aw];rfl))).sel [X3,X3,Z,Z]),by omega,by omega,rfl⟩
    have X:=r.step t (by simpa using J);apply L 7 [0] m;simp only[↓U];apply I0;omega;exact T (c-(j+1)) _ _ (by omega) (by kernel_rfl) ⟨j+1,O,m,X,by omega,O⟩
   have V:j=B.length:=by omega
   have C:ahc B e=j:=by rw[V] at r ⊢;exact aje r
   rw[Yv (by omega) K C] at hs;apply L 3 [0] m;simp only[↓U];refine aD aM ?_;replace m:=m.nilO 56 6;apply aH 6 [0] m;simp only[↓U];refine aD (nK wS qN O O (ah _) (by omega) (by omega)) ?_;simp only[G];refine bN m 0 O O wS Ds O (by decide) O O (by rw[iX Ly,bj,ij (show j<=B.length by omega)]) ((((m.o 2 O).lat Ly (by decide)).take (k:=j) (by omega)).cells Ly (by decide)) (aap _) (by omega) (by omega) ?_;intro d i u m;simp only[zF,zG] at m;rw[bz,ai] at m;simp only[ai];apply aH 6 [2,0] m;simp only[↓U,Bz];refine Mn O ?_;intro u R f g y;replace m:=m.newB f g y;simp only[G];refine bN m 1 O O wS Ds O (by decide) O O O (m.b 0 O).rowsO (fN O) (by omega) (by omega) ?_;intro d i u m;simp only[zF,zG] at m;apply aH 6 [0] m;simp only[↓U];refine aD (uO wS qN O O (ah _) (by omega) (by omega) O) ?_;simp only[G];refine bN m 1 O O wS Ds O (by decide) O O (by rw[iX Ly,gg,D]) (((m.o 3 O).lat Ly (by decide)).cellsD Ly (by decide) (by omega)) (aap _) (by omega) (by omega) ?_;intro d i u m;simp only[zF,zG] at m;refine aD aM ?_;simp only[G];replace m:=(m.pull 1 O).mv 2 O;simp only[dZ,eA,zF,zG] at m;apply aH 7 [0] m;simp only[↓U];apply I0;omega;exact p (n3-(k+1)) _ _ (by omega) (by kernel_rfl) ⟨k+1,_,_,_,O,((m.reO 2 O ((m.o 2 O).as (by rw[hs,aw,aw];rfl))).sel [X3,X3,Z,Z]),by omega,by omega,rfl⟩
  rw[Ts (.inl hz)] at hs;apply aT 7 [1,1,0] m;simp only[↓U,Ca,aP,Gs,ad,ag,aa];apply I0;omega;refine cK m O O (Qg (es:=aX ts) (e:=(e.2,e.1)) _ ((m.o 2 O).lat Ly (by decide)) (by omega)) ?_;rintro v u m rfl;apply aH 15 [1,0,0,0,0,0] m;simp only[↓U];apply I0;omega;exact p (n3-(k+1)) _ _ (by omega) (by kernel_rfl) ⟨k+1,_,_,_,O,((m.reO 1 O ((m.o 1 O).as (by rw[hs]))).sel [X3,Z,Z]),by omega,by omega,O⟩
 have W:k=(aX ts).length:=by omega
 rw[W,fq] at m;apply L 7 [] m;simp only[↓U];exact aS O O ⟨_,O,m.ext,⟨_,_,_,((m.o 0 O).num Ly (by decide)).symm,O,(m.o 0 O)⟩⟩
def agl(h:ts.any xB=Z):fO op ts=20:=by simp[fO,h]
def agm(h:ts.any xB=X3)(h2:(aX ts).any (λe=>decide (1<jO (aX ts) e))=Z):fO op ts=21:=by rw[fO,h,h2];rfl
def agn(h:ts.any xB=X3)(h2:(aX ts).any (λe=>decide (1<jO (aX ts) e))=X3)(a:(!op&&decide (0<(bB ts).length))=X3)(b:(aQ ts).any (Jg ts)=Z):fO op ts=23:=by rw[fO,h,h2,a,b];rfl
def ak1(h:ts.any xB=X3)(h2:(aX ts).any (λe=>decide (1<jO (aX ts) e))=X3)(a:(!op&&decide (0<(bB ts).length))=X3)(b:(aQ ts).any (Jg ts)=X3):fO op ts=0:=by rw[fO,h,h2,a,b];rfl
def gt1{n:Nat}:((1:Int)<(n:Int))↔1<n:=by omega
def aot{A:Option Addr}(w:ak)(g:bW w A N ts)(R:N<=100000000):cY prog 79 [.slice A N cap,.bool Z] w (λv _=>v=X6 (fO Z ts)):=by
 refine⟨bJ func79 (by kernel_rfl),?_⟩;have m:=Mem.refl w;have aw:=g.len;have aq:=pG ts;have ap:=wK ts
 go_enter func79,ntmps79
 apply fF 10 [0] m;simp only[↓U];refine bT [5] [4,11,12,13,14,15,16,17,18,19,20,21,22,23,24,25,26,27,28,29,30,31,32,33,34,35,36,37,38,39,40,41,42,43,44,45,46,47,48,49,50,51,52,53] (λn vs j=>∃(k:Nat),vs=[X6 (k:Int)]/\Mem w j []/\((ts.take k).any xB=X3)/\(k<=N)/\(n=N-k)) ?_ ?_
 .exact⟨_,0,O,m,O,bn _,O⟩
 intro n vs wr f u K1 T;obtain⟨k,rfl,m,l,E,F⟩:=f;simp only[zu,zF,zG];apply L 8 [0,0] m;simp only[↓U,gM];refine bC O ?_ ?_<;>intro al
 .obtain⟨t,H,_,a,rfl,d⟩:=g.get (i:=k) (by omega);apply L 4 [0] m;simp only[↓U];refine mq m aB (by kernel_rfl) (cX 13 [0,0,0,0,12,0,0,0,0] ?_);simp only[↓U,fR,bQ,ah,ai,ad,ag,aa];refine⟨_,λu m=>((kV.cor ((d.ext m.ext)) (c:=0) (by decide)).lies aG aA),_,λu m=>((kV.cor ((d.ext m.ext)) (c:=1) (by decide)).lies aG aA),_,eQ,_,λu m=>((kV.cor ((d.ext m.ext)) (c:=1) (by decide)).lies aG aA),_,λu m=>((kV.cor ((d.ext m.ext)) (c:=2) (by decide)).lies aG aA),_,eQ,λ_=>⟨by omega,?_⟩⟩;refine aK aJ (lN O (λb=>aJ) (lN O (λb=>aJ) ?_));simp only[G];refine lN O (λb=>aR fC aW (bL b O) (bL b O) (by omega) (by omega) (tM (ah _))) (lN O (λb=>aN eB aA (bL b O) O (by decide) (by decide) O) ?_);simp only[G];refine uC O (λb u m=>bD (bL b O) ((kV.cor ((d.ext m.ext)) (c:=2) (by decide)).lies aG aA)) (lN O (λb=>aJ) (lN O (λb=>aJ) ?_));simp only[G];refine lN O (λb=>aR fC aW (bL b O) (bL b O) (by omega) (by omega) (tM (ah _))) (lN O (λb=>aN eB aA (bL b O) O (by decide) (by decide) O) ?_);simp only[G];refine uC O (λb u m=>bD (bL b O) ((kV.cor ((d.ext m.ext)) (c:=0) (by decide)).lies aG aA)) (lN O (λb=>uT (bL b O) (bL b O)) (aK (gJ O O O) (aZ ?_)));intro u m;refine gc ?_;simp only[G];refine gF O ?_ ?_<;>intro I
  .have S:=Jh (p:=xB) H (aaq.symm.trans I);apply L 5 [] m;simp only[↓U];refine aS O O ?_;try simp only[zD,zE]
   exact⟨_,O,m.ext,by rw[agl S]⟩
  have X:(ts.take (k+1)).any xB=X3:=by rw[xZ H,l,<-aaq];exact I
  apply L 7 [0] m;simp only[↓U];apply I0;omega;exact T (N-(k+1)) _ _ (by omega) (by kernel_rfl) ⟨k+1,O,m,X,by omega,O⟩
 have q:k=N:=by omega
 rw[q,show ts.take N=ts from au (by omega)] at l;apply L 4 [0] m;simp only[↓U];refine bF O O (agk _ (g.ext m.ext) (by omega)) ?_;rintro v u y ⟨M,ae,n3,ar,rfl,z⟩;replace m:=m.newO y z;have ax:=(m.o 0 rfl).le;apply aH 8 [0] m;simp only[↓U];refine bT [7] [4,56,57,58,59,60,61,62,63,64,65,66,67,68] (λn vs j=>∃(k:Nat),vs=[X6 (k:Int)]/\Mem w j [oI 56 6 M n3 ae ((aX ts).flatMap cJ)]/\(((aX ts).take k).any (λe=>decide (1<jO (aX ts) e))=X3)/\(k<=n3)/\(n=n3-k)) ?_ ?_
 .exact⟨_,0,O,m,O,bn _,O⟩
 intro n vs wr f u K2 V;obtain⟨k,rfl,m,s,E,F⟩:=f;simp only[zu,zF,zG];apply L 8 [0,0] m;simp only[↓U,Ys];refine bC O ?_ ?_<;>intro an
 .obtain⟨e,B⟩:∃e,(aX ts)[k]? = X4 e:=⟨_,am (by omega)⟩
  obtain⟨Q,rfl⟩:=(m.o 0 rfl).some (by omega);apply L 10 [0,4,0] m;simp only[↓U,Ti,ah,ai];refine⟨_,λu m=>(lA (((m.o 0 O).at Ly B).lies Sz qN)),by omega,?_⟩;refine cK m O O (Qg (es:=aX ts) (e:=e) _ ((m.o 0 O).lat Ly (by decide)) (by omega)) ?_;rintro v u m rfl;apply aH 2 [0,0] m;simp only[↓U];refine bC O ?_ ?_<;>intro J
  .have hc:=Jh (p:=(λe=>decide (1<jO (aX ts) e))) B (Y0 (gt1.1 J));apply L 5 [] m;simp only[↓U];refine aS O O ?_;try simp only[zD,zE]
   exact⟨_,O,m.ext,by rw[agm l hc]⟩
  have aj:((aX ts).take (k+1)).any (λe=>decide (1<jO (aX ts) e))=X3:=by rw[xZ B,s,Y (λh=>J (gt1.2 h))];rfl
  apply L 7 [0] m;simp only[↓U];apply I0;omega;exact V (n3-(k+1)) _ _ (by omega) (by kernel_rfl) ⟨k+1,O,m,aj,by omega,O⟩
 have q:k=(aX ts).length:=by omega
 rw[q,fq] at s;apply L 18 [0,0,0,0,0] m;simp only[↓U,Bool.not_true,gd];refine bF O O (My _ (g.ext m.ext) R) ?_;rintro v u y ⟨P,af,r,av,rfl,z⟩;replace m:=m.newO y z;have ay:=(m.o 0 rfl).le;apply aH 8 [0] m;simp only[↓U];refine bT [9] [4,10,79,80,81,82,83,84,85,86,87,88,89,90,91] (λn vs j=>∃(k:Nat),vs=[X6 (k:Int)]/\Mem w j [oI 30 3 P r af ((aQ ts).flatMap iD)]/\(((aQ ts).take k).any (Jg ts)=X3)/\(k<=r)/\(n=r-k)) ?_ ?_
 .exact⟨_,0,O,(m.sel [Z,X3]),O,bn _,O⟩
 intro n vs wr f u K3 W;obtain⟨k,rfl,m,D,E,F⟩:=f;simp only[zu,zF,zG];apply L 8 [0,0] m;simp only[↓U,gV];refine bC O ?_ ?_<;>intro ao
 .obtain⟨x,C⟩:∃x,(aQ ts)[k]? = X4 x:=⟨_,am (by omega)⟩
  obtain⟨Q,rfl⟩:=(m.o 0 rfl).some (by omega);apply L 10 [0,0,0] m;simp only[↓U,gG,ah,ai];refine⟨_,λu m=>(lA (((m.o 0 O).at Ag C).lies aG aA)),by omega,?_⟩;refine cK m O O (ahO (p:=x) _ (g.ext m.ext) (by omega)) ?_;rintro v u m rfl;apply aH 6 [0] m;simp only[↓U];refine gF O ?_ ?_<;>intro K
  .have hp:=Jh (p:=Jg ts) C K;apply L 5 [] m;simp only[↓U];refine aS O O ?_;try simp only[zD,zE]
   exact⟨_,O,m.ext,by rw[agn l s O hp]⟩
  have ab:((aQ ts).take (k+1)).any (Jg ts)=X3:=by rw[xZ C,D,K];rfl
  apply L 7 [0] m;simp only[↓U];apply I0;omega;exact W (r-(k+1)) _ _ (by omega) (by kernel_rfl) ⟨k+1,O,m,ab,by omega,O⟩
 have q:k=(aQ ts).length:=by omega
 rw[q,fq] at D;apply L 6 [] m;simp only[↓U];refine aS O O ?_;try simp only[zD,zE]
 exact⟨_,O,m.ext,by rw[ak1 l s O D]⟩
def aaY{A:Option Addr}(w:ak)(b:bW w A N ts)(a:N<=100000000):cY prog 30 [.slice A N cap] w (λv _=>v=X6 (fO Z ts)):=by
 refine⟨bJ func30 (by kernel_rfl),?_⟩;have m:=Mem.refl w
 go_enter func30,ntmps30
 apply fF 7 [0] m;simp only[↓U];refine cK m O O (aot _ (b.ext m.ext) a) ?_;rintro v u m rfl;apply aH 3 [] m;simp only[↓U];exact aS O O ⟨_,O,m.ext,O⟩
end Go.Proofs.YtfekpcimgncioaaGreatDoor
namespace Go.Lith
open Go.RowKit
section
variable {w0 w w':ak} {is:List It}
def Mem.plus{d:List It}(m:Mem w0 w is)(h:Mem w w' d):Mem w0 w' (d++is):=by
 have a:=m.ext' h.ext;refine⟨a.ext,λi hi=>?_,λi hi b c=>?_,fu.2 ⟨h.nd,m.nd,λi hi j e b h1 h2=>?_⟩⟩
 .exact (bh.1 hi).elim (h.all i) (a.all i)
 . rcases bh.1 hi with hi | hi
   .exact be m.ext.size (h.ge i hi b c)
   exact a.ge i hi b c
 have f:=h.ge i hi b h1
 have g:=j.lt w b (m.all j e) h2;omega
end
structure Hd where
 A:Option Addr
 n:Nat
 cap:Nat
def Hd.v(h:Hd):aj:=.slice h.A h.n h.cap
def bW.takeL{w:ak}{A:Option Addr}{N k:Nat}{ts:List T3}(h:bW w A N ts)(b:k<=N):bW w A k (ts.take k) :=
 ⟨by rw[bj,h.len];exact ij b,λt c=>h.it t (List.mem_of_mem_take c),λi t a=>by
  rw[List.getElem?_take] at a;split at a
  .exact h.row i t a
  cases a⟩
def bW.dropL{w:ak}{A:Option Addr}{N k cap:Nat}{ts:List T3}(h:bW w A N ts)(f:k<=N)(hc:N<=cap):bW w (if cap=k then A else A.map (·.add (k*9))) (N-k) (ts.drop k) :=
 ⟨by rw[gg,h.len],λt d=>h.it t (List.mem_of_mem_drop d),λi t b=>by
  rw[List.getElem?_drop] at b;obtain⟨a,e,hr⟩:=h.row _ t b;have c:=(ao.1 b).1;rw[h.len] at c;rw[X (by omega),e];refine⟨_,O,?_⟩;rw[jD,<-Nat.add_mul];exact hr⟩
end Go.Lith
namespace Go.Proofs.YtfekpcimgncioaaGreatDoor
open Go.Proofs.Tryz
open Go.RowKit Go.Lith
set_option maxRecDepth 100000
attribute [local irreducible] az cw fW bX cP Code.wp
attribute [local congr] dK dL cR dJ
variable{E:List E3}{ts:List T3}{cap:Nat}{kp:E3}
def ak2{t:T3}:dF prog 234 [tr t] (.agg #[X6 t.a.x,X6 t.a.y,X6 t.a.z,X6 t.b.x,X6 t.b.y,X6 t.b.z,X6 t.b.x,X6 t.b.y,X6 t.b.z,X6 t.c.x,X6 t.c.y,X6 t.c.z,X6 t.c.x,X6 t.c.y,X6 t.c.z,X6 t.a.x,X6 t.a.y,X6 t.a.z]):=by
 intro w;refine⟨bJ func234 (by kernel_rfl),?_⟩;have m:=Mem.refl w
 go_enter func234,ntmps234
 apply gH 23 [2,2,2,2,2,2] m;simp only[↓U,asa,bQ,aP,Mu,asb,ad,ag,aa];intro d e;apply I0;omega;intro u m;apply Mr 3 [0] m;simp only[↓U,ar9,aa];intro u m;exact aS O ⟨_,O,((m.b 0 O).full an2 ahx)⟩ ⟨_,O,m.ext,O⟩
def asg{e:E3}:dF prog 236 [ed e] (ed (e.2,e.1)):=by
 intro w;refine⟨bJ func236 (by kernel_rfl),?_⟩;have m:=Mem.refl w
 go_enter func236,ntmps236
 apply gH 15 [2,2,0] m;simp only[↓U,Dy,Dz,aP,To,Mu,vX,aa];intro a c u m;exact aS O ⟨_,O,((m.b 0 O).full Fj uS)⟩ ⟨_,O,m.ext,O⟩
def aeY{e:E3}(h:(!!(cG (gA [] E) e).getD X3)=Z):X3=decide (E++[e]).Nodup:=by
 rw[Bool.not_not] at h;exact (Y λk=>(rL.1 k).2 (ab1.1 h)).symm
def aaZ{e:E3}{b:Bool}(a:b=decide E.Nodup)(h:(!!(cG (gA [] E) e).getD X3)=X3):b=decide (E++[e]).Nodup:=by
 rw[Bool.not_not] at h;rw[a,decide_eq_decide,rL];exact⟨λk=>⟨k,λh2=>by rw[ab1.2 h2] at h;cases h⟩,And.left⟩
def mE{K:Type}[DecidableEq K](a:List K)(k:K):gA [] (a++[k])=fP (gA [] a) k Z:=ajl [] a [k]
def Tt{N:Nat}{A:Option Addr}(w:ak)(o:bW w A N ts)(hN:N<=10000000):cY prog 164 [.slice A N cap] w (λv w'=>∃g es c,v=.tuple #[.map (X4 g),.bool (decide (aX ts).Nodup)]/\Mem w w' [mI g es c]/\bY ed bw (gA [] (aX ts)) es c):=by
 refine⟨bJ func164 (by kernel_rfl),?_⟩;have m:=Mem.refl w
 go_enter func164,ntmps164
 apply fF 7 [0] m;simp only[↓U];refine lU m ?_;intro E u m;have d:=bY.nil (K:=E3) (V:=Bool) ed bw;apply aH 14 [0] m;simp only[↓U,gM];refine bT [5,13] [7,9,14,15,16,17,18,19,20,21,22,23,24,25,26,27] (λn vs F=>∃(k:Nat) (es:Array cu) (c:Nat) (b:Bool),vs=[.bool b,X6 (k:Int)]/\Mem w F [mI E es c]/\(bY ed bw (gA [] (aX (ts.take k))) es c)/\(b=decide (aX (ts.take k)).Nodup)/\(k<=N)/\(n=N-k)) ?_ ?_
 .exact⟨_,0,_,_,Z,O,m,d,O,bn _,O⟩
 intro n vs wr h u R H;obtain⟨k,es,c,z,rfl,m,d,j,hk,hn⟩:=h;simp only[zu,zF,zG];apply L 5 [0,0] m;simp only[↓U];refine bC O ?_ ?_<;>intro ab
 .obtain⟨t,q,_,a,rfl,Q⟩:=o.get (i:=k) (by omega);apply xI 13 [0,1,0,1,0] m;simp only[↓U,fR,lL,dM,ah,ai,aa];refine⟨_,λu m=>((Q.ext m.ext).lies cD aW),λX=>⟨by omega,?_⟩⟩;intro u m;refine lD m O O ak2 16 [4,1,0] ?_;simp only[↓U];apply I0;omega;intro u m;refine aD (Wh O O) ?_;apply lK 7 [0,1,0] m;simp only[↓U,Dy,vX,aa];intro Y u m;refine mJ m 2 aaC O O (λm=>aaX (p:=(t.a,t.b)) m 2 O d) ?_;rintro v i u m ⟨rfl,r,l,rfl,e⟩;simp only[zF,zG] at m;simp only[G];rw[<-mE] at e;clear d;have d:=e;clear e;apply aH 2 [0] m;simp only[↓U];refine Tf m [5] [] (λvs=>∃(b:Bool),vs=[.bool b]/\(b=decide (((aX (ts.take k))++[(t.a,t.b)])).Nodup)) ?_ ?_
  .intro S s;refine cL O ?_ ?_<;>intro f
   .apply L 3 [0] m;simp only[↓U];exact s _ _ (by kernel_rfl) m ⟨X3,O,aeY f⟩
   skip
   apply L 1 [0] m;simp only[↓U];exact s _ _ (by kernel_rfl) m ⟨z,O,aaZ j f⟩
  intro vs wr m h u;obtain⟨B,rfl,I⟩:=h;simp only[zu,zF,zG];apply aT 17 [1,0] m;simp only[↓U,an];apply I0;omega;refine aD (Wi O O) ?_;apply lK 7 [0,1,0] m;simp only[↓U,Dy,vX,aa];intro g4 u m;refine mJ m 3 aaC O O (λm=>aaX (p:=(t.b,t.c)) m 3 O d) ?_;rintro v i u m ⟨rfl,r,l,rfl,e⟩;simp only[zF,zG] at m;simp only[G];rw[<-mE] at e;clear d;have d:=e;clear e;apply aH 2 [0] m;simp only[↓U];refine Tf m [5] [] (λvs=>∃(b:Bool),vs=[.bool b]/\(b=decide ((((aX (ts.take k))++[(t.a,t.b)])++[(t.b,t.c)])).Nodup)) ?_ ?_
  .intro T x;refine cL O ?_ ?_<;>intro f
   .apply L 3 [0] m;simp only[↓U];exact x _ _ (by kernel_rfl) m ⟨X3,O,aeY f⟩
   skip
   apply L 1 [0] m;simp only[↓U];exact x _ _ (by kernel_rfl) m ⟨B,O,aaZ I f⟩
  intro vs wr m h u;obtain⟨C,rfl,J⟩:=h;simp only[zu,zF,zG];apply aT 17 [1,0] m;simp only[↓U,an];apply I0;omega;refine aD (Wj O O) ?_;apply lK 7 [0,1,0] m;simp only[↓U,Dy,vX,aa];intro g5 u m;refine mJ m 4 aaC O O (λm=>aaX (p:=(t.c,t.a)) m 4 O d) ?_;rintro v i u m ⟨rfl,r,l,rfl,e⟩;simp only[zF,zG] at m;simp only[G];rw[<-mE] at e;clear d;have d:=e;clear e;apply aH 2 [0] m;simp only[↓U];refine Tf m [5] [] (λvs=>∃(b:Bool),vs=[.bool b]/\(b=decide (((((aX (ts.take k))++[(t.a,t.b)])++[(t.b,t.c)])++[(t.c,t.a)])).Nodup)) ?_ ?_
  .intro W y;refine cL O ?_ ?_<;>intro f
   .apply L 3 [0] m;simp only[↓U];exact y _ _ (by kernel_rfl) m ⟨X3,O,aeY f⟩
   skip
   apply L 1 [0] m;simp only[↓U];exact y _ _ (by kernel_rfl) m ⟨C,O,aaZ J f⟩
  intro vs wr m h u;obtain⟨D,rfl,M⟩:=h;simp only[zu,zF,zG];apply aT 18 [2,0] m;simp only[↓U,an];apply I0;omega;exact H (N-(k+1)) _ _ (by omega) (by kernel_rfl) ⟨k+1,_,_,D,O,(m.sel [X3,X3,X3,X3,Z]),by rw[vE q];simpa[cn] using d,by rw[M,vE q];simp only[cn,cq,bz],by omega,rfl⟩
 have P:k=N:=by omega
 rw[P,show ts.take N=ts from au (by rw[o.len];exact ar _)] at d j;apply L 9 [] m;simp only[↓U];refine wE O O O ?_;try simp only[zD,zE]
 exact⟨_,O,m.ext,_,_,_,by rw[j],m,d⟩
def ash{a:List (E3 × Bool)}{b:Bool}(h:(!(cG (gA [] E) (kp.2,kp.1)).getD X3)=Z):((a++[(kp,b)]).map (·.1)).filter (λe=>decide ((e.2,e.1)∉E))=(a.map (·.1)).filter (λe=>decide ((e.2,e.1)∉E))++[kp]:=by
 rw[sJ] at h;simp only[de,gp,bi,dh];rw[List.filter_cons_of_pos (by simpa using h)];rfl
def asi{a:List (E3 × Bool)}{b:Bool}(h:(!(cG (gA [] E) (kp.2,kp.1)).getD X3)=X3):((a++[(kp,b)]).map (·.1)).filter (λe=>decide ((e.2,e.1)∉E))=(a.map (·.1)).filter (λe=>decide ((e.2,e.1)∉E)):=by
 rw[sJ] at h;simp only[de,gp,bi,dh];rw[List.filter_cons_of_neg (by simpa using h)];simp
def ak3{b:List (E3 × Bool)}(h:b.Perm (gA [] E)):(∀a,a∈(b.map (·.1)).filter (λe=>decide ((e.2,e.1)∉E))↔a∈E/\(a.2,a.1)∉E)/\((b.map (·.1)).filter (λe=>decide ((e.2,e.1)∉E))).length<=E.length:=by
 refine⟨λa=>?_,?_⟩
 .rw[List.mem_filter,(h.map (·.1)).mem_iff,vJ];simp
 refine be (fw _ _) ?_;have:=pI E [];rw[cj,h.length_eq];simpa using this
def ahP{g c:Nat}{es:Array cu}(w:ak)(h:iR w g es c)(f:bY ed bw (gA [] E) es c):cY prog 165 [.map (X4 g)] w (λv w'=>∃g es c o,v=.map (X4 g)/\Mem w w' [mI g es c]/\bY ed bw (gA [] o) es c/\(∀a,a∈o↔a∈E/\(a.2,a.1)∉E)/\o.length<=E.length):=by
 refine⟨bJ func165 (by kernel_rfl),?_⟩;have m:=Mem.refl w
 go_enter func165,ntmps165
 apply fF 6 [0] m;simp only[↓U];refine lU m ?_;intro H u m;have b:=bY.nil (K:=E3) (V:=Bool) ed bw;apply aH 6 [0] m;simp only[↓U];refine xC m underlying208 O (h.ext m.ext) ?_;intro I u m;apply aH 2 [0] m;simp only[↓U];refine bT [] [4,8,9,10,11,12,13,14,15,16,17,18,19] (λn vs J=>∃(d rs:List (E3 × Bool)) (j:Array Nat) (q:Array cu) (c2:Nat),vs=[]/\Mem w J [iI I g c j,mI H q c2]/\(bY ed bw (gA [] ((d.map (·.1)).filter (λe=>decide ((e.2,e.1)∉E)))) q c2)/\(oJ ed bw (gA [] E) es j d rs)/\(n=rs.length)) ?_ ?_
 .exact⟨_,[],gA [] E,#[],_,_,O,m,b,oJ.start f,O⟩
 intro n vs wr F u M B;obtain⟨d,rs,j,q,c2,rfl,m,b,y,z⟩:=F;simp only[zu,zF,zG];apply L 2 [0] m;simp only[↓U];refine Ol m 0 O O (h.ext m.ext) f y ?_;intro N R S j u m x;simp only[zF,zG] at m;refine aD (qJ O) ?_;apply aH 2 [0] m;simp only[↓U];refine cL O ?_ ?_<;>intro C
 .obtain⟨kp,A,l,hp,t⟩:=Jj C x;apply L 4 [0] m;simp only[↓U];refine fI (uE O (m.r 0 O) (h.ext m.ext) f t) ?_;simp only[G];apply lK 8 [0,1,0] m;simp only[↓U,Dy,vX,aa];intro Q u m;refine jG m O O asg ?_;intro u m;simp only[G];refine fI (eN (ek:=ed) (en:=bw) (k:=(kp.2,kp.1)) (v0:=X3) underlying208 pB Ec O O (h.ext m.ext) f) ?_;simp only[G];apply aH 2 [0] m;simp only[↓U];refine cL O ?_ ?_<;>intro D
  .apply L 3 [1,0] m;simp only[↓U,vX];refine mJ m 2 aaC O O (λm=>aaX (p:=kp) m 2 O b) ?_;rintro v i u m ⟨rfl,T,P,rfl,s⟩;simp only[zF,zG] at m;simp only[G];rw[<-mE] at s;clear b;have b:=s;clear s;apply aH 2 [0] m;simp only[↓U];exact B l.length _ _ (by rw[z,hp.length_eq];exact fx _) (by kernel_rfl) ⟨d++[(kp,A)],l,_,_,_,O,(m.sel [X3,Z,Z]),by rw[ash D];exact b,t,O⟩
  apply L 2 [0] m;simp only[↓U];exact B l.length _ _ (by rw[z,hp.length_eq];exact fx _) (by kernel_rfl) ⟨d++[(kp,A)],l,_,_,_,O,(m.sel [X3,Z,Z]),by rw[asi D];exact b,t,O⟩
 obtain rfl:=Ji C x;apply L 7 [] m;simp only[↓U];exact aS O O ⟨_,O,m.ext,_,_,_,_,O,m.sel [X3,Z],b,ak3 y.done⟩
def ahQ{c ps:List E3}(d:∀a,a∈c↔a∈aX ts/\(a.2,a.1)∉aX ts)(hp:ps.Perm ((gA [] c).map (·.1)))(hs:ps.Pairwise λa b=>¬Lm b a):ps=bB ts:=by
 refine Oo ?_ (rT ts) λa=>?_
 .have e:ps.Nodup:=hp.nodup_iff.2 (Hj _ _ .nil);refine List.Pairwise.imp₂ (λa b (h:¬Lm b a) (k:a≠b)=>?_) hs e;rcases Lm.tri a b with h1 | h1 | h1
  .exact h1
  .exact Z8 h1 k
  exact Z8 h1 h
 rw[hp.mem_iff,vJ,Rz,d];simp
def ahR{N:Nat}{A:Option Addr}(w:ak)(h:bW w A N ts)(R:N<=10000000):cY prog 98 [.slice A N cap] w (SL 56 6 ((bB ts).flatMap cJ) (bB ts).length w):=by
 refine⟨bJ func98 (by kernel_rfl),?_⟩;have m:=Mem.refl w;have ae:=h.len;have ab:=pG ts
 go_enter func98,ntmps98
 apply fF 7 [0] m;simp only[↓U];refine bF O O (Tt _ (h.ext m.ext) (by omega)) ?_;rintro v u a ⟨M,V,H,rfl,c,x⟩;replace m:=m.plus c;clear c;simp only[cq,bz] at m;apply aH 8 [0] m;simp only[↓U];refine aD aM ?_;replace m:=m.nilO 56 6;apply aH 5 [0] m;simp only[↓U];refine bF O O (ahP _ (m.p 1 O) x) ?_;rintro v u a ⟨P,W,I,r,rfl,c,y,B,ad⟩;replace m:=m.plus c;clear c;simp only[cq,bz] at m;simp only[G];refine bF O O (ahN _ (m.p 0 O) y (by have h1:=pI r [];simp only[bm] at h1;omega)) ?_;rintro v u a ⟨j,s,E,_,rfl,g,ps,rfl,C,D⟩;replace m:=m.newO a g;obtain rfl:=ahQ B C D;obtain rfl:(bB ts).length=s:=(m.o 0 rfl).num Ly (by decide);have af:=(m.o 0 rfl).le;have X:(bB ts).length<=(aX ts).length:=by have:=Jf (all:=aX ts) (aX ts) [];simpa[bB] using this
 apply aH 4 [0] m;simp only[↓U,arY];refine bT [5,17] [7,18,19,20,21,22,23,24,25,26,27,28,29] (λn vs t=>∃(k:Nat) (d:Option Addr) (f:Nat),vs=[.slice d k f,X6 (k:Int)]/\Mem w t [oI 215 6 j (bB ts).length E ((bB ts).flatMap cJ),oI 56 6 d k f (((bB ts).take k).flatMap cJ)]/\(k<=(bB ts).length)/\(n=(bB ts).length-k)) ?_ ?_
 .exact⟨_,0,_,_,O,(m.sel [Z,X3,Z,X3]),bn _,O⟩
 intro n vs wr l u F z;obtain⟨k,d,f,rfl,m,S,T⟩:=l;simp only[zu,zF,zG];apply L 5 [0,0] m;simp only[↓U];refine bC O ?_ ?_<;>intro Y
 .obtain⟨e,i⟩:∃e,(bB ts)[k]? = X4 e:=⟨_,am (by omega)⟩
  obtain⟨Q,rfl⟩:=(m.o 0 rfl).some (by omega);apply xI 17 [0,4,0,1,1,0] m;simp only[↓U,arZ,Dy,vX,To,aP,Dz,Gs,ah,ai,aa];refine⟨_,λu m=>(lA (((m.o 0 O).at Ly i).lies Fj uS)),λJ=>⟨by omega,?_⟩⟩;intro u m;refine Mn O ?_;intro u K a g q;replace m:=m.newB a g q;simp only[G];refine bN m 3 O O wS Ds O (by decide) O O O (m.b 0 O).rowsO (fN O) (by omega) (by omega) ?_;intro d f u m;simp only[zF,zG] at m;apply aH 7 [0] m;simp only[↓U];apply I0;omega;exact z ((bB ts).length-(k+1)) _ _ (by omega) (by kernel_rfl) ⟨k+1,_,_,O,((m.reO 3 O ((m.o 3 O).as (by rw[bV i,aw];rfl))).sel [X3,X3,Z,Z]),by omega,rfl⟩
 obtain rfl:k=(bB ts).length:=by omega
 rw[fq] at m;apply L 7 [] m;simp only[↓U];exact aS O O ⟨_,O,m.ext,⟨_,_,_,O,O,(m.o 1 O)⟩⟩
end Go.Proofs.YtfekpcimgncioaaGreatDoor
namespace Go.Lith
open Go.RowKit Go.ChangeMaps Go.MapKept
def aou{K V:Type}[DecidableEq K](ek:K->aj)(en:V->aj)(D:List (K × V))(k:K)(es:Array cu)(c b:Nat):Prop :=
 ∀u,∃p,es.findIdx? (λe=>(e.born:Int) == (b:Int))=X4 p/\bY ek en (fP D k u) (es.modify p λe=>{ e with val:=en u }) c
section
variable {K V:Type} [DecidableEq K] {P:Program} {T M E ty:TypeId} {ek:K->aj} {en:V->aj} {w w0:ak} {g c:Nat} {es:Array cu} {D:List (K × V)}
def asj{α:Type}{l:List α}{p:Nat}{x:α}(h:l[p]? = X4 x):l.set p x=l:=by
 apply List.ext_getElem?;intro j;rw[List.getElem?_set];split
 .rename_i e;subst e;rw[J (ao.1 h).1,h]
 rfl
def acA{b p:Nat}(g:(es.toList.map (·.born)).Nodup){e:cu}(c:es[p]? = X4 e)(a:e.born=b):es.findIdx? (λe=>(e.born:Int) == (b:Int))=X4 p:=by
 rw[Array.findIdx?_eq_some_iff_getElem];have hp:=(el.1 c).1;have d:=(el.1 c).2;refine⟨hp,by rw[d,a];simp,λj i=>?_⟩;have h:j<es.size:=by omega
 simp only[Bool.not_eq_true,beq_eq_false_iff_ne,ne_eq,Int.natCast_inj];intro f;have h1:(es.toList.map (·.born))[j]'(by simpa using h)=(es.toList.map (·.born))[p]'(by simpa using hp):=by
  simp only[List.getElem_map,Array.getElem_toList];rw[f,d,a]
 have:=(List.getElem_inj g).1 h1;omega
def aeZ{p:Nat}{e:cu}(a:es[p]? = X4 e)(k u:aj)(c:e.key=k):(es.modify p λe=>{ e with val:=u })=es.modify p λe=>{ e with key:=k,val:=u }:=by
 apply li;intro j;rw[kn,kn];split
 .rename_i b;subst b;rw[a];simp[c]
 rfl
def aov(b:bY ek en D es c){p:Nat}{k:K}{v:V}(hp:D[p]? = X4 (k,v)):∃e,es[p]? = X4 e/\e.key=ek k/\e.val=en v:=by
 have h2:=C (λL=>L[p]?) b.cells;simp only[List.getElem?_map,hp,gh] at h2;rw[Array.getElem?_toList] at h2;cases a:es[p]? with
 | none=>rw[a] at h2;cases h2
 | some x =>
  rw[a] at h2;simp only[gh,Option.some.injEq,Vw,Prod.mk.injEq] at h2;exact⟨x,O,h2.1,h2.2⟩
def Wo{v0:V}(x:P.underlying M=X4 (.map T E))(q:nJ P E (en v0))(d:tA P T ek)(h:iR w g es c)(a:bY ek en D es c)(k:K) :
 ∃r o b,(Instr.mapEntry M (.map (X4 g)) (ek k)).run P w=.ok (.tuple #[en ((cG D k).getD v0),X6 (b:Nat)]) (setBlock w g (.map r o))/\bY ek en (fP D k ((cG D k).getD v0)) r o/\aou ek en D k r o b:=by
 unfold iR at h;cases l:rG D k 0 with
 | none =>
  obtain⟨f,h1,_⟩:=rK D k 0 l;obtain⟨C,y,q⟩:=q;have A:(zeroValue E).run P w=.ok (en v0) w:=by simp[zeroValue,typeInfo,program,Sem.run,y,q]
  have s:=a.push k v0;refine⟨_,_,c,?_,by rw[f,h1];exact s,λu=>⟨es.size,acA s.nd (e:={ key:=ek k,val:=en v0,born:=c }) (by simp) O,?_⟩⟩
  . simp only[Instr.mapEntry,Sem.run_bind,run_underlying x,Result.andThen,getObj,Sem.run,h,Sem.run_pure,d.chk,vH d k w a,l,Option.map_none,A,run_setObj_map _ h,f,mg,goInt]
    rfl
  rw[h1]
  have e:((es.push { key:=ek k,val:=en v0,born:=c }).modify es.size λe=>{ e with val:=en u })=es.push { key:=ek k,val:=en u,born:=c }:=by
   apply li;intro j;rw[kn,Array.getElem?_push,Array.getElem?_push];split
   .rename_i m;subst m;simp
   rename_i m;simp[Ne.symm m]
  rw[e];exact a.push k u
 | some p =>
  obtain⟨j,v⟩:=p;obtain⟨p,rfl,hp,f,h1,_⟩:=mX D k 0 j v l;rw[ai] at l;obtain⟨e,i,n,B⟩:=aov a hp;have z:((es[p]?).map (·.key)).getD (ek k)=ek k:=by rw[i];simp[n]
  have t:(es.modify p λe=>{ e with key:=ek k })=es:=by
   apply li;intro j;rw[kn];split
   .rename_i m;subst m;rw[i];simp[<-n]
   rfl
  refine⟨es,c,e.born,?_,by rw[f,dx,h1,asj hp];exact a,λu=>⟨p,acA a.nd i O,?_⟩⟩
  . simp only[Instr.mapEntry,Sem.run_bind,run_underlying x,Result.andThen,getObj,Sem.run,h,Sem.run_pure,d.chk,vH d k w a,l,gh,z,Instr.keyThatStays,d.bits,K0,t,run_setObj_map _ h,f,dx,i,n,d.bits,K0,Sem.run_pure,t,goInt]
    rfl
  rw[h1,aeZ i (ek k) (en u) n]
  exact a.set hp u
def Po{b:Nat}{k:K}(a:iR w g es c)(f:aou ek en D k es c b)(u:V) :
 ∃d,(Instr.entryStore M (.map (X4 g)) (X6 (b:Nat)) (en u)).run P w=.ok () (setBlock w g (.map d c))/\bY ek en (fP D k u) d c:=by
 obtain⟨p,hp,e⟩:=f u;unfold iR at a;refine⟨_,?_,e⟩;simp only[Instr.entryStore,Sem.run_bind,Result.andThen,getObj,Sem.run,a,Sem.run_pure,asInt,asIntOf,hp];exact run_setObj_map _ a
def aow{ds:List Deferred}{l:List aj}{op:Op}{ops:Array Oper}{Q:Exit->Act->ak->Prop}{rest:List Oper}{pos:String}{after:Array Edge}
 (h:∀o:Oper,o.op=op->∃v w',(execOp (Fr l).eval o).run P w=.ok (.value v) w'/\az P ops Q rest (Fr l ds) w'):az P ops Q (bu X5 op ty pos after X5::rest) (Fr l ds) w:=by
 refine wpList_plain O λK a=>?_;unfold Oper.wp;obtain⟨v,w',hr,b⟩:=h (bu X5 op ty pos after X5) rfl;rw[jY,hr];exact a _ _ b
variable {is:List It} {ds:List Deferred} {l:List aj} {x y z:Operand} {ops:Array Oper} {Q:Exit->Act->ak->Prop} {rest:List Oper} {d:Nat} {pos:String} {after:Array Edge}
def Ay{v0:V}{a:K}(m:Mem w0 w is)(k:Nat)(q:is[k]? = X4 (mI g es c))(v:P.underlying M=X4 (.map T E))(B:nJ P E (en v0))(C:tA P T ek)(z:ev l x=.map (X4 g))(A:ev l y=ek a)(r:bY ek en D es c)
 (h:∀i f b u,Mem w0 u (is.set k (mI g i f))->bY ek en (fP D a ((cG D a).getD v0)) i f->aou ek en D a i f b->az P ops Q rest (Fr (l.set d (.tuple #[en ((cG D a).getD v0),X6 (b:Nat)])) ds) u) :
 az P ops Q (bu (X4 d) (.mapEntry M x y) ty pos after X5::rest) (Fr l ds) w:=by
 have n:=m.p k q;obtain⟨i,f,b,hr,F,s⟩:=Wo v B C n r a;have j:=qI (w:=w) (g:=g) (.map i f);refine mG (w':=setBlock w g (.map i f)) (λo t H=>by simp[execOp,t,H,cN,z,A,hr]) (h i f b _ ?_ F s);exact m.put k q j.os j.tape j.output (by rw[j.size];exact ar _) (λb _ G=>j.block b λe=>G (by rw[e];rfl)) (jM n) (.inl λ_ h=>h)
def qT{v:V}{a:K}{b:Nat}(m:Mem w0 w is)(k:Nat)(j:is[k]? = X4 (mI g es c))(r:ev l x=.map (X4 g))(s:ev l y=X6 (b:Nat))(t:ev l z=en v)(n:aou ek en D a es c b)
 (h:∀d u,Mem w0 u (is.set k (mI g d c))->bY ek en (fP D a v) d c->az P ops Q rest (Fr l ds) u):az P ops Q (bu X5 (.entryStore M x y z) ty pos after X5::rest) (Fr l ds) w:=by
 have i:=m.p k j;obtain⟨d,hr,A⟩:=Po (P:=P) (M:=M) i n v;have f:=qI (w:=w) (g:=g) (.map d c);refine Io (w':=setBlock w g (.map d c)) (λo q=>by simp[execOp,q,cN,r,s,t,hr]) (h d _ ?_ A);exact m.put k j f.os f.tape f.output (by rw[f.size];exact ar _) (λb _ B=>f.block b λe=>B (by rw[e];rfl)) (jM i) (.inl λ_ h=>h)
end
end Go.Lith
namespace Go.Proofs.YtfekpcimgncioaaGreatDoor
open Go.Proofs.Tryz
open Go.RowKit Go.Lith
section
set_option maxRecDepth 100000
attribute [local irreducible] az cw fW bX cP Code.wp
attribute [local congr] dK dL cR dJ
variable{K:Type}{s a y:H}{z N cap:Nat}{ts:List T3}{t:T3}
def sQ(n:Nat):aj:=X6 (n:Int)
def Na{V:Type}[DecidableEq K](xs:List (K × V))(k:K)(v:V):Gb [] (xs++[(k,v)])=fP (Gb [] xs) k v:=ajm [] xs [(k,v)]
def uU[DecidableEq K](a:List K)(k:K):xD [] (a++[k])=fP (xD [] a) k ((cG (xD [] a) k).getD 0+1):=ajo [] a [k]
def acB[DecidableEq K](a:List K)(k:K):(cG (xD [] a) k).getD 0=wF a k:=by rw[ab3];simp[cG]
def Qh[DecidableEq K](a:List K)(k:K):(cG (xD [] a) k).getD 0<=a.length:=by rw[acB];exact fw _ _
def asl{nx:H->Option H}{n:Nat}(h:¬a=s)(b:nx a=X4 y):Dh nx s (n+1) a z=Dh nx s n y (z+1):=by rw[Dh,X h,b]
def aox{nx:H->Option H}{n:Nat}(b:nx a=X5):Dh nx s n a z=(a,z):=by
 cases n with
 | zero=>rfl
 | succ n=>rw[Dh,b];split <;> rfl
def asm{nx:H->Option H}{M:Nat}(b:z<=M+1)(h:a=s\/¬z<=M):Dh nx s (M+1-z) a z=(a,z):=by
 rcases h with rfl | h
 .exact ajp
 rw[show M+1-z=0 by omega];rfl
def aso{x:H}:(¬x.x=y.x\/¬x.y=y.y\/¬x.z=y.z)↔¬x=y:=by
 rw[<-Ah];exact⟨λh k=>h.elim (λh=>h k.1) λh=>h.elim (λh=>h k.2.1) λh=>h k.2.2,λh=>by
  rcases Classical.em (x.x=y.x) with h1 | h1
  .rcases Classical.em (x.y=y.y) with h2 | h2
   .exact .inr (.inr λa=>h ⟨h1,h2,a⟩)
   exact .inr (.inl h2)
  exact .inl h1⟩
def ak4{M:Nat}(h:(decide (¬(a.x=s.x/\a.y=s.y/\a.z=s.z))&&decide ((z:Int)<=(M:Int)))=X3):a=s\/¬z<=M:=by
 rcases Classical.em (a=s) with k | k
 .exact .inl k
 refine .inr λb=>?_;rw[Y0 (mt Ah.1 k),Y0 (Int.ofNat_le.2 b)] at h;cases h
def ak5{es:Array cu}{d:Array Nat}{a:List (E3 × H)}(h:oJ ed pt (Gb [] (kL ts)) es d a [])(f:(aX ts).Nodup)(g:∀y∈a,¬aau ts y.1)(e:E3):¬aau ts e:=λb=>by
 obtain⟨x,c,_⟩:=id b;have h1:cG (Gb [] (kL ts)) e=X4 x:=by rw[<-c];exact Jm f e.1 e.2
 exact g _ (h.done.mem_iff.2 (sH h1)) b
def Yw(ts:List T3):(cF ts).length=ts.length*3:=qK ts
def ae0{A:Option Addr}(w:ak)(hT:bW w A N ts)(hN:N<=10000000)(aj:(aX ts).Nodup):cY prog 166 [.slice A N cap] w (λv _=>v=.bool ((aQ ts).any (Jg ts))):=by
 refine⟨bJ func166 (by kernel_rfl),?_⟩;have m:=Mem.refl w
 go_enter func166,ntmps166
 apply fF 6 [0] m;simp only[↓U];refine lU m ?_;intro W u m;have l:=bY.nil (K:=E3) (V:=H) ed pt;apply aH 4 [0] m;simp only[↓U];refine lU m ?_;intro R u m;have f:=bY.nil (K:=H) (V:=Nat) pt sQ;apply aH 10 [0] m;simp only[↓U,gM];refine bT [18] [6,7,8,19,20,21,22,23,24,25,26,27,28,29,30,31,32,33,34,35,36,37,38,39,40,41,42,43,44,45,46,47] (λn vs Y=>∃(k:Nat) (C j:Array cu) (B o:Nat),vs=[X6 (k:Int)]/\Mem w Y [mI R j o,mI W C B]/\(bY ed pt (Gb [] (kL (ts.take k))) C B)/\(bY pt sQ (xD [] (cF (ts.take k))) j o)/\(k<=N)/\(n=N-k)) ?_ ?_
 .exact⟨_,0,_,_,_,_,O,m,l,f,bn _,O⟩
 intro n vs wr q u K1 aN;obtain⟨k,C,j,B,o,rfl,m,l,f,hk,hn⟩:=q;simp only[zu,zF,zG];apply L 5 [0,0] m;simp only[↓U];refine bC O ?_ ?_<;>intro a5
 .obtain⟨t,ht,_,a,rfl,a3⟩:=hT.get (i:=k) (by omega);have aR:=Yw (ts.take k);rw[bj] at aR;apply xI 9 [0,1,0] m;simp only[↓U,fR,lL,dM,ah,ai,aa];refine⟨_,λu m=>((a3.ext m.ext).lies cD aW),λg3=>⟨by omega,?_⟩⟩;intro u m;apply aT 21 [1,4,1,0] m;simp only[↓U,dM];apply I0;omega;refine aD (uI O O) ?_;apply lK 5 [0,0] m;simp only[↓U,fB,aP,aa];intro g4 u m;refine cI m 13 aB (by kernel_rfl) ?_;simp only[zy];refine cX 4 [1] ?_;simp only[↓U,aP,an];apply I0;omega;refine aK (cT (m:=1) (n:=3) (r:=1) O O (by decide) (by decide)) (cX 5 [2] ?_);simp only[↓U,bQ,aP,Mu,ad,ag,aa,an];apply I0;omega;refine aK (cT (m:=2) (n:=3) (r:=2) O O (by decide) (by decide)) (cX 2 [2] ?_);simp only[↓U,bQ,aP,ad,ag,aa];apply I0;omega;refine aZ ?_;intro u m;refine nM (ek:=ed) (en:=pt) (a:=(t.a,t.b)) (v:=t.c) m 3 O Mz Ec O O O l ?_;intro C B u m l;simp only[zF,zG] at m;rw[<-Na] at l;refine aI (gc ?_);refine gY m 2 [] [40,41,42,43,44,45] (λvs i=>∃(es:Array cu) (c:Nat),vs=[]/\i=mI R es c/\(bY pt sQ (xD [] (((cF (ts.take k))++[t.a]))) es c)) ?_ ?_
  .intro K2 aw;refine Xg m [Z,Z,X3,Z] (.take 0 (.take 1 (.two 2 (.take 3 (.one 4 (.take 5 (.one 6 .nil)))) 4 (.take 5 (.one 2 (.take 3 (.one 6 .nil))))))) aB (by kernel_rfl) (bS (λ_ _ _ _ _ h=>h)) ?_;intro u m;have d:=Qh (cF (ts.take k)) t.a;try simp only[aq,ay,bm] at d
   refine eT (by simp only[zw];rfl) (bG aJ (bR (eT (by simp only[zw];rfl) ?_)));simp only[G];refine gW O (λu m=>((m.b 0 O).full aG aA)) ?_;simp only[G];refine bR ?_;refine abQ (by simp only[zw];rfl) (by simp only[zw];rfl) ?_ ?_
   .refine fI (eN (ek:=pt) (en:=sQ) (k:=t.a) (v0:=0) pE lO gD O O (m.p 2 O) f) ?_;simp only[G];refine aI ⟨m.sel [Z,Z,X3,Z],?_⟩;refine eT (by simp only[zw];rfl) (bG (fU rfl rfl (bZ (by omega) (by omega))) (bR (nT (by simp only[zw];rfl) ?_)));simp only[G];refine Ay (ek:=pt) (en:=sQ) (a:=t.a) (v0:=0) m 2 O pE lO gD O O f ?_;intro j o bs u m E s;simp only[zF,zG] at m;refine aI ⟨m.sel [Z,Z,X3,Z],?_⟩;refine eT (by simp only[zw];rfl) (bG (fG rfl rfl) (bR (nT (by simp only[zw];rfl) ?_)));simp only[G];refine qT (ek:=pt) (en:=sQ) (a:=t.a) (v:=(cG (xD [] (cF (ts.take k))) t.a).getD 0+1) m 2 O O O O s ?_;intro j u m f;simp only[zF,zG] at m;rw[<-uU] at f;refine aI ⟨m.sel [Z,Z,X3,Z],?_⟩;refine Gl (gk ?_);exact aw _ _ _ (by kernel_rfl) m ⟨_,_,O,O,f⟩
   refine Ay (ek:=pt) (en:=sQ) (a:=t.a) (v0:=0) m 2 O pE lO gD O O f ?_;intro j o bs u m E s;simp only[zF,zG] at m;refine aI ⟨m.sel [Z,Z,X3,Z],?_⟩;refine eT (by simp only[zw];rfl) (bG (fG rfl rfl) (bR (nT (by simp only[zw];rfl) ?_)));simp only[G];refine fI (eN (ek:=pt) (en:=sQ) (k:=t.a) (v0:=0) pE lO gD O O (m.p 2 O) E) ?_;simp only[G];rw[jP,J rfl,dx];refine aI ⟨m.sel [Z,Z,X3,Z],?_⟩;refine eT (by simp only[zw];rfl) (bG (fU rfl rfl (bZ (by omega) (by omega))) (bR (nT (by simp only[zw];rfl) ?_)));simp only[G];refine qT (ek:=pt) (en:=sQ) (a:=t.a) (v:=(cG (xD [] (cF (ts.take k))) t.a).getD 0+1) m 2 O O O O s ?_;intro j u m f;simp only[zF,zG] at m;rw[<-uU] at f;refine aI ⟨m.sel [Z,Z,X3,Z],?_⟩;refine Gl (gk ?_);exact aw _ _ _ (by kernel_rfl) m ⟨_,_,O,O,f⟩
  intro vs i wr m q u;obtain⟨j,o,rfl,rfl,f⟩:=q;simp only[zF,zG] at m;simp only[zu,zF,zG];apply aT 18 [1,0] m;simp only[↓U,an];apply I0;omega;refine aD (uJ O O) ?_;apply lK 5 [0,0] m;simp only[↓U,fB,aP,aa];intro g5 u m;refine cI m 13 aB (by kernel_rfl) ?_;simp only[zy];refine cX 4 [1] ?_;simp only[↓U,aP,an];apply I0;omega;refine aK (cT (m:=2) (n:=3) (r:=2) O O (by decide) (by decide)) (cX 5 [3] ?_);simp only[↓U,bQ,aP,Mu,ad,ag,aa,an];apply I0;omega;refine aK (cT (m:=3) (n:=3) (r:=0) O O (by decide) (by decide)) (cX 2 [3] ?_);simp only[↓U,bQ,aP,ad,ag,aa];apply I0;omega;refine aZ ?_;intro u m;refine nM (ek:=ed) (en:=pt) (a:=(t.b,t.c)) (v:=t.a) m 4 O Mz Ec O O O l ?_;intro C B u m l;simp only[zF,zG] at m;rw[<-Na] at l;refine aI (gc ?_);refine gY m 3 [] [40,41,42,43,44,45] (λvs i=>∃(es:Array cu) (c:Nat),vs=[]/\i=mI R es c/\(bY pt sQ (xD [] (((((cF (ts.take k))++[t.a]))++[t.b]))) es c)) ?_ ?_
  .intro K3 ax;refine Xg m [Z,Z,Z,X3,Z] (.take 0 (.take 1 (.two 2 (.take 3 (.one 4 (.take 5 (.one 6 .nil)))) 4 (.take 5 (.one 2 (.take 3 (.one 6 .nil))))))) aB (by kernel_rfl) (bS (λ_ _ _ _ _ h=>h)) ?_;intro u m;have d:=Qh (((cF (ts.take k))++[t.a])) t.b;try simp only[aq,ay,bm] at d
   refine eT (by simp only[zw];rfl) (bG aJ (bR (eT (by simp only[zw];rfl) ?_)));simp only[G];refine gW O (λu m=>((m.b 0 O).full aG aA)) ?_;simp only[G];refine bR ?_;refine abQ (by simp only[zw];rfl) (by simp only[zw];rfl) ?_ ?_
   .refine fI (eN (ek:=pt) (en:=sQ) (k:=t.b) (v0:=0) pE lO gD O O (m.p 3 O) f) ?_;simp only[G];refine aI ⟨m.sel [Z,Z,Z,X3,Z],?_⟩;refine eT (by simp only[zw];rfl) (bG (fU rfl rfl (bZ (by omega) (by omega))) (bR (nT (by simp only[zw];rfl) ?_)));simp only[G];refine Ay (ek:=pt) (en:=sQ) (a:=t.b) (v0:=0) m 3 O pE lO gD O O f ?_;intro j o bs u m E s;simp only[zF,zG] at m;refine aI ⟨m.sel [Z,Z,Z,X3,Z],?_⟩;refine eT (by simp only[zw];rfl) (bG (fG rfl rfl) (bR (nT (by simp only[zw];rfl) ?_)));simp only[G];refine qT (ek:=pt) (en:=sQ) (a:=t.b) (v:=(cG (xD [] (((cF (ts.take k))++[t.a]))) t.b).getD 0+1) m 3 O O O O s ?_;intro j u m f;simp only[zF,zG] at m;rw[<-uU] at f;refine aI ⟨m.sel [Z,Z,Z,X3,Z],?_⟩;refine Gl (gk ?_);exact ax _ _ _ (by kernel_rfl) m ⟨_,_,O,O,f⟩
   refine Ay (ek:=pt) (en:=sQ) (a:=t.b) (v0:=0) m 3 O pE lO gD O O f ?_;intro j o bs u m E s;simp only[zF,zG] at m;refine aI ⟨m.sel [Z,Z,Z,X3,Z],?_⟩;refine eT (by simp only[zw];rfl) (bG (fG rfl rfl) (bR (nT (by simp only[zw];rfl) ?_)));simp only[G];refine fI (eN (ek:=pt) (en:=sQ) (k:=t.b) (v0:=0) pE lO gD O O (m.p 3 O) E) ?_;simp only[G];rw[jP,J rfl,dx];refine aI ⟨m.sel [Z,Z,Z,X3,Z],?_⟩;refine eT (by simp only[zw];rfl) (bG (fU rfl rfl (bZ (by omega) (by omega))) (bR (nT (by simp only[zw];rfl) ?_)));simp only[G];refine qT (ek:=pt) (en:=sQ) (a:=t.b) (v:=(cG (xD [] (((cF (ts.take k))++[t.a]))) t.b).getD 0+1) m 3 O O O O s ?_;intro j u m f;simp only[zF,zG] at m;rw[<-uU] at f;refine aI ⟨m.sel [Z,Z,Z,X3,Z],?_⟩;refine Gl (gk ?_);exact ax _ _ _ (by kernel_rfl) m ⟨_,_,O,O,f⟩
  intro vs i wr m q u;obtain⟨j,o,rfl,rfl,f⟩:=q;simp only[zF,zG] at m;simp only[zu,zF,zG];apply aT 18 [1,0] m;simp only[↓U,an];apply I0;omega;refine aD (uK O O) ?_;apply lK 5 [0,0] m;simp only[↓U,fB,aP,aa];intro g6 u m;refine cI m 13 aB (by kernel_rfl) ?_;simp only[zy];refine cX 4 [1] ?_;simp only[↓U,aP,an];apply I0;omega;refine aK (cT (m:=3) (n:=3) (r:=0) O O (by decide) (by decide)) (cX 5 [4] ?_);simp only[↓U,bQ,aP,Mu,ad,ag,aa,an];apply I0;omega;refine aK (cT (m:=4) (n:=3) (r:=1) O O (by decide) (by decide)) (cX 2 [4] ?_);simp only[↓U,bQ,aP,ad,ag,aa];apply I0;omega;refine aZ ?_;intro u m;refine nM (ek:=ed) (en:=pt) (a:=(t.c,t.a)) (v:=t.b) m 5 O Mz Ec O O O l ?_;intro C B u m l;simp only[zF,zG] at m;rw[<-Na] at l;refine aI (gc ?_);refine gY m 4 [] [40,41,42,43,44,45] (λvs i=>∃(es:Array cu) (c:Nat),vs=[]/\i=mI R es c/\(bY pt sQ (xD [] (((((((cF (ts.take k))++[t.a]))++[t.b]))++[t.c]))) es c)) ?_ ?_
  .intro K4 az;refine Xg m [Z,Z,Z,Z,X3,Z] (.take 0 (.take 1 (.two 2 (.take 3 (.one 4 (.take 5 (.one 6 .nil)))) 4 (.take 5 (.one 2 (.take 3 (.one 6 .nil))))))) aB (by kernel_rfl) (bS (λ_ _ _ _ _ h=>h)) ?_;intro u m;have d:=Qh (((((cF (ts.take k))++[t.a]))++[t.b])) t.c;try simp only[aq,ay,bm] at d
   refine eT (by simp only[zw];rfl) (bG aJ (bR (eT (by simp only[zw];rfl) ?_)));simp only[G];refine gW O (λu m=>((m.b 0 O).full aG aA)) ?_;simp only[G];refine bR ?_;refine abQ (by simp only[zw];rfl) (by simp only[zw];rfl) ?_ ?_
   .refine fI (eN (ek:=pt) (en:=sQ) (k:=t.c) (v0:=0) pE lO gD O O (m.p 4 O) f) ?_;simp only[G];refine aI ⟨m.sel [Z,Z,Z,Z,X3,Z],?_⟩;refine eT (by simp only[zw];rfl) (bG (fU rfl rfl (bZ (by omega) (by omega))) (bR (nT (by simp only[zw];rfl) ?_)));simp only[G];refine Ay (ek:=pt) (en:=sQ) (a:=t.c) (v0:=0) m 4 O pE lO gD O O f ?_;intro j o bs u m E s;simp only[zF,zG] at m;refine aI ⟨m.sel [Z,Z,Z,Z,X3,Z],?_⟩;refine eT (by simp only[zw];rfl) (bG (fG rfl rfl) (bR (nT (by simp only[zw];rfl) ?_)));simp only[G];refine qT (ek:=pt) (en:=sQ) (a:=t.c) (v:=(cG (xD [] (((((cF (ts.take k))++[t.a]))++[t.b]))) t.c).getD 0+1) m 4 O O O O s ?_;intro j u m f;simp only[zF,zG] at m;rw[<-uU] at f;refine aI ⟨m.sel [Z,Z,Z,Z,X3,Z],?_⟩;refine Gl (gk ?_);exact az _ _ _ (by kernel_rfl) m ⟨_,_,O,O,f⟩
   refine Ay (ek:=pt) (en:=sQ) (a:=t.c) (v0:=0) m 4 O pE lO gD O O f ?_;intro j o bs u m E s;simp only[zF,zG] at m;refine aI ⟨m.sel [Z,Z,Z,Z,X3,Z],?_⟩;refine eT (by simp only[zw];rfl) (bG (fG rfl rfl) (bR (nT (by simp only[zw];rfl) ?_)));simp only[G];refine fI (eN (ek:=pt) (en:=sQ) (k:=t.c) (v0:=0) pE lO gD O O (m.p 4 O) E) ?_;simp only[G];rw[jP,J rfl,dx];refine aI ⟨m.sel [Z,Z,Z,Z,X3,Z],?_⟩;refine eT (by simp only[zw];rfl) (bG (fU rfl rfl (bZ (by omega) (by omega))) (bR (nT (by simp only[zw];rfl) ?_)));simp only[G];refine qT (ek:=pt) (en:=sQ) (a:=t.c) (v:=(cG (xD [] (((((cF (ts.take k))++[t.a]))++[t.b]))) t.c).getD 0+1) m 4 O O O O s ?_;intro j u m f;simp only[zF,zG] at m;rw[<-uU] at f;refine aI ⟨m.sel [Z,Z,Z,Z,X3,Z],?_⟩;refine Gl (gk ?_);exact az _ _ _ (by kernel_rfl) m ⟨_,_,O,O,f⟩
  intro vs i wr m q u;obtain⟨j,o,rfl,rfl,f⟩:=q;simp only[zF,zG] at m;simp only[zu,zF,zG];apply aT 18 [2,0] m;simp only[↓U,an];apply I0;omega;exact aN (N-(k+1)) _ _ (by omega) (by kernel_rfl) ⟨k+1,_,_,_,_,O,(m.sel [X3,X3,X3,X3,Z,Z]),by rw[ad6 ht];simpa[cn] using l,by rw[Ry ht];simpa[cn] using f,by omega,rfl⟩
 have aV:k=N:=by omega
 rw[aV,show ts.take N=ts from au (by rw[hT.len];exact ar _)] at l f;apply L 5 [0] m;simp only[↓U];refine xC m Mz O (m.p 1 O) ?_;intro r1 u m;apply aH 2 [0] m;simp only[↓U];refine bT [] [2,9,10,11,12,13,50,51,52,53,54,55,56,57,58,59,60,61,62,63,64,65,66,67,68,69,70,71,72,73,74,75,76,77,78,79,80,81,82,83,84,85,86,87,88,89,90,91,92,93,94] (λn vs Y=>∃(F rs:List (E3 × H)) (X:Array Nat),vs=[]/\Mem w Y [iI r1 W B X,mI R j o,mI W C B]/\(oJ ed pt (Gb [] (kL ts)) C X F rs)/\(∀y∈F,¬aau ts y.1)/\(n=rs.length)) ?_ ?_
 .exact⟨_,[],_,#[],rfl,m,oJ.start l,λ_ h=>(by cases h),rfl⟩
 intro n vs wr q u K5 aE;obtain⟨F,rs,X,rfl,m,aL,ao,hn⟩:=q;simp only[zu,zF,zG];apply L 2 [0] m;simp only[↓U];refine Ol m 0 O O (m.p 2 O) l aL ?_;intro bb kk vv X u m hN;simp only[zF,zG] at m;refine aD (qJ O) ?_;apply aH 2 [0] m;simp only[↓U];refine cL O ?_ ?_<;>intro aM
 .obtain⟨g,T,al,hp,ab⟩:=Jj aM hN;obtain⟨x,hx⟩:∃x,cG (Gb [] (kL ts)) g=X4 x:=by
   cases h:cG (Gb [] (kL ts)) g with
   | some x=>exact⟨x,rfl⟩
   | none =>
    refine Z8 ?_ (kZ.1 h);have h1:=ab.1.mem_iff (a:=(g,T));exact List.mem_map.2 ⟨_,h1.1 (by simp),O⟩
  have af:cC ts g.1 g.2=X4 x:=by rw[<-Jm aj];exact hx
  obtain⟨M,I⟩:∃M,M=wF (cF ts) g.1:=⟨_,rfl⟩
  have P:(cG (xD [] (cF ts)) g.1).getD 0=M:=by rw[acB,I]
  have a4:M<=30000000:=by have h1:=Qh (cF ts) g.1;rw[P,Yw,hT.len] at h1;omega
  apply L 4 [0] m;simp only[↓U];refine fI (uE O (m.r 0 O) (m.p 2 O) l ab) ?_;simp only[G];apply lK 12 [0,1,0] m;simp only[↓U,Dy,vX,aa];intro g4 u m;refine fI (eN (ek:=ed) (en:=pt) (k:=g) (v0:=⟨0,0,0⟩) Mz iF Ec O O (m.p 3 O) l) ?_;simp only[G];apply lK 3 [0] m;simp only[↓U,fB,aP,aa];intro g5 u m;rw[hx] at m;simp only[dx] at m;apply aT 2 [0] m;simp only[↓U];refine bT [10] [12,13,57,58,59,60,61,62,63,64,65,66,67,68,69,70,71,72,73,74,75,76,77,78,79,80,81,82] (λn vs Y=>∃(z:Nat) (a:H),vs=[X6 (z:Int)]/\Mem w Y [bI g5 (iD a) 30,bI g4 (cJ g) 215,iI r1 W B X,mI R j o,mI W C B]/\(Dh (cC ts g.1) g.2 M x 1=Dh (cC ts g.1) g.2 (M+1-z) a z)/\(1<=z)/\(z<=M+1)/\(n=M+1-z)) ?_ ?_
  .exact⟨_,1,x,O,m,O,ar _,by omega,O⟩
  intro n vs wr q u K6 aO;obtain⟨z,a,rfl,m,av,a7,a2,a6⟩:=q;simp only[zu,zF,zG];apply L 8 [1,2,0] m;simp only[↓U,aP,Dz,aa];refine⟨_,lQ,?_⟩;refine jI O (λd=>aJ) (jI O (λd=>aJ) (jI O (λd=>aU (c:=2) vS O aA O O) ?_));simp only[G];refine jH O (λd=>bD (bL d O) ((m.b 1 O).lies aG aA O O)) ?_;simp only[G,zy,ai,aa,ag,ad];refine jH O (λd=>eN (ek:=pt) (en:=sQ) (k:=g.1) (v0:=0) pE lO gD (bL d O) (bL d O) (m.p 3 O) f) ?_;simp only[G];refine jI O (λd=>Nz (bL d O) (bL d O)) (aD (eE O O O) ?_);apply aH 1 [0] m;simp only[↓U];refine cL O ?_ ?_<;>intro ae
  .have hs:¬a=g.2/\z<=M:=by rw[P] at ae;simpa[aso] using ae
   apply L 9 [2,1,0] m;simp only[↓U,To,aP,Mu,aa];refine fI (Xm (ek:=ed) (en:=pt) (k:=(g.1,a)) (v0:=⟨0,0,0⟩) Mz iF Ec O O (m.p 4 O) l) ?_;simp only[G];apply lK 13 [0,0] m;simp only[↓U,fB,aP,aa];intro g6 u m;refine cL O ?_ ?_<;>intro am
   .have a1:cC ts g.1 a=X5:=by rw[<-Jm aj];simpa using am
    have Q:=av.trans (aox a1);apply L 8 [2,3,0] m;simp only[↓U,aP,Dz,aa];refine⟨_,eQ,?_⟩;refine jI O (λd=>aJ) (jI O (λd=>aJ) (jI O (λd=>aU (c:=2) vS O aA O O) ?_));simp only[G];refine jH O (λd=>bD (bL d O) ((m.b 2 O).lies aG aA O O)) ?_;simp only[G,zy,ai,aa,ag,ad];refine jH O (λd=>eN (ek:=pt) (en:=sQ) (k:=g.1) (v0:=0) pE lO gD (bL d O) (bL d O) (m.p 4 O) f) ?_;simp only[G];refine jI O (λd=>xQ (bL d O) (bL d O)) (aD (eE O O O) ?_);apply aH 1 [0] m;simp only[↓U];refine cL O ?_ ?_<;>intro D
    .have hs:a=g.2/\z<M:=by rw[P] at D;simpa[<-Ah] using D
     apply L 5 [] m;simp only[↓U];refine aS O O ?_;try simp only[zD,zE]
     exact⟨_,O,m.ext,by have hp:aau ts g:=⟨x,af,by rw[im,<-I,Q];exact hs.1,by rw[im,<-I,Q];exact hs.2⟩;rw[pinned.2 ⟨g,hp⟩]⟩
    have hs:¬(a=g.2/\z<M):=by rw[P] at D;simpa[<-Ah] using D
    have ap:∀y∈F++[(g,T)],¬aau ts y.1:=λy hy=>by
     rcases bh.1 hy with hy | hy
     .exact ao y hy
     obtain rfl:=a_.1 hy;rintro⟨x2,h1,h2,S⟩;obtain rfl:x=x2:=fc (af.symm.trans h1);rw[im,<-I,Q] at h2 S;exact hs ⟨h2,S⟩
    apply L 2 [0] m;simp only[↓U];exact aE al.length _ _ (by rw[hn,hp.length_eq];exact fx _) (by kernel_rfl) ⟨F++[(g,T)],al,_,O,(m.sel [X3,X3,X3,Z,Z,Z]),ab,ap,O⟩
   obtain⟨y,hy⟩:∃y,cG (Gb [] (kL ts)) (g.1,a)=X4 y:=by
    cases h:cG (Gb [] (kL ts)) (g.1,a) with
    | some y=>exact⟨y,rfl⟩
    | none=>rw[h] at am;cases am
   have a0:cC ts g.1 a=X4 y:=by rw[<-Jm aj];exact hy
   rw[hy] at m;simp only[dx] at m;apply xI 12 [1,1,0] m;simp only[↓U,aP,aa];apply I0;omega;intro u m;exact aO (M+1-(z+1)) _ _ (by omega) (by kernel_rfl) ⟨z+1,y,O,(m.sel [X3,Z,Z,Z,Z,Z]),by rw[av,show M+1-z=(M+1-(z+1))+1 by omega,asl hs.1 a0],by omega,by omega,O⟩
  have aY:a=g.2\/¬z<=M:=by rw[P] at ae;exact ak4 ae
  have Q:=av.trans (asm a2 aY);apply L 8 [1,2,0] m;simp only[↓U,aP,Dz,aa];refine⟨_,eQ,?_⟩;refine jI O (λd=>aJ) (jI O (λd=>aJ) (jI O (λd=>aU (c:=2) vS O aA O O) ?_));simp only[G];refine jH O (λd=>bD (bL d O) ((m.b 1 O).lies aG aA O O)) ?_;simp only[G,zy,ai,aa,ag,ad];refine jH O (λd=>eN (ek:=pt) (en:=sQ) (k:=g.1) (v0:=0) pE lO gD (bL d O) (bL d O) (m.p 3 O) f) ?_;simp only[G];refine jI O (λd=>xQ (bL d O) (bL d O)) (aD (eE O O O) ?_);apply aH 1 [0] m;simp only[↓U];refine cL O ?_ ?_<;>intro D
  .have hs:a=g.2/\z<M:=by rw[P] at D;simpa[<-Ah] using D
   apply L 5 [] m;simp only[↓U];refine aS O O ?_;try simp only[zD,zE]
   exact⟨_,O,m.ext,by have hp:aau ts g:=⟨x,af,by rw[im,<-I,Q];exact hs.1,by rw[im,<-I,Q];exact hs.2⟩;rw[pinned.2 ⟨g,hp⟩]⟩
  have hs:¬(a=g.2/\z<M):=by rw[P] at D;simpa[<-Ah] using D
  have ap:∀y∈F++[(g,T)],¬aau ts y.1:=λy hy=>by
   rcases bh.1 hy with hy | hy
   .exact ao y hy
   obtain rfl:=a_.1 hy;rintro⟨x2,h1,h2,S⟩;obtain rfl:x=x2:=fc (af.symm.trans h1);rw[im,<-I,Q] at h2 S;exact hs ⟨h2,S⟩
  apply L 2 [0] m;simp only[↓U];exact aE al.length _ _ (by rw[hn,hp.length_eq];exact fx _) (by kernel_rfl) ⟨F++[(g,T)],al,_,O,(m.sel [X3,X3,Z,Z,Z]),ab,ap,O⟩
 obtain rfl:=Ji aM hN;apply L 6 [] m;simp only[↓U];refine aS O O ?_;try simp only[zD,zE]
 exact⟨_,rfl,m.ext,by cases h:(aQ ts).any (Jg ts) with | false=>rfl | true=>(obtain⟨e,he⟩:=pinned.1 h;exact Z8 he (ak5 aL aj ao e))⟩
def aoy(h:¬(aX ts).Nodup):(aX ts).any (λe=>decide (1<jO (aX ts) e))=Z:=by rw[Jl];exact Y0 h
def ak6(h:(aX ts).Nodup):(aX ts).any (λe=>decide (1<jO (aX ts) e))=X3:=by rw[Jl];exact Y λk=>k h
def ak7{A:Option Addr}(w:ak)(d:bW w A N ts)(f:N<=10000000):cY prog 97 [.slice A N cap,.bool Z] w (λv _=>v=X6 (fO Z ts)):=by
 refine⟨bJ func97 (by kernel_rfl),?_⟩;have m:=Mem.refl w
 go_enter func97,ntmps97
 apply fF 12 [0] m;simp only[↓U,gM];refine bT [11] [4,6,12,13,14,15,16,17,18,19,20,21,22,23,24,25,26,27,28,29,30,31,32,33,34] (λn vs r=>∃(k:Nat),vs=[X6 (k:Int)]/\Mem w r []/\((ts.take k).any xB=X3)/\(k<=N)/\(n=N-k)) ?_ ?_
 .exact⟨_,0,O,m,O,bn _,O⟩
 intro n vs wr o u B s;obtain⟨k,rfl,m,b,G,H⟩:=o;simp only[zu,zF,zG];apply L 5 [0,0] m;simp only[↓U];refine bC O ?_ ?_<;>intro K
 .obtain⟨t,g,_,a,rfl,z⟩:=d.get (i:=k) (by omega);apply xI 19 [0,1,0,1,1,6,1,1] m;simp only[↓U,fR,lL,dM,bQ,aP,ah,ai,aa,ad,ag];refine⟨_,λu m=>((z.ext m.ext).lies cD aW),λE=>⟨_,eQ,_,eQ,λ_=>⟨by omega,?_⟩⟩⟩;intro u m;apply aT 3 [6,1,1,0] m;simp only[↓U,bQ,aP,ad,ag,aa];refine⟨_,eQ,λ_=>⟨by omega,?_⟩⟩;refine gF O ?_ ?_<;>intro h
  .have q:=Jh (p:=xB) g (aaq.symm.trans h);apply L 5 [] m;simp only[↓U];refine aS O O ?_;try simp only[zD,zE]
   exact⟨_,O,m.ext,by rw[agl q]⟩
  have x:(ts.take (k+1)).any xB=X3:=by rw[xZ g,b,<-aaq];exact h
  apply L 6 [0] m;simp only[↓U];apply I0;omega;exact s (N-(k+1)) _ _ (by omega) (by kernel_rfl) ⟨k+1,O,(m.sel [X3]),x,by omega,O⟩
 have y:k=N:=by omega
 rw[y,show ts.take N=ts from au (by rw[d.len];exact ar _)] at b;apply L 4 [0] m;simp only[↓U];refine bF O O (Tt _ (d.ext m.ext) f) ?_;rintro v u D ⟨F,I,C,rfl,e,J⟩;replace m:=m.plus e;clear e;simp only[cq,bz] at m;apply aH 14 [0] m;simp only[↓U];refine cL O ?_ ?_<;>intro j
 .have c:¬(aX ts).Nodup:=by simpa using j
  apply L 5 [] m;simp only[↓U];refine aS O O ?_;try simp only[zD,zE]
  exact⟨_,O,m.ext,by rw[agm b (aoy c)]⟩
 have c:(aX ts).Nodup:=by simpa using j
 apply L 16 [0,0,0,0,0] m;simp only[↓U,Bool.not_true,gd];refine cK m O O (ae0 _ (d.ext m.ext) f c) ?_;rintro v u m rfl;apply aH 2 [0] m;simp only[↓U];refine cL O ?_ ?_<;>intro l
 .apply L 5 [] m;simp only[↓U];refine aS O O ?_;try simp only[zD,zE]
  exact⟨_,O,m.ext,by rw[agn b (ak6 c) O l]⟩
 apply L 7 [] m;simp only[↓U];refine aS O O ?_;try simp only[zD,zE]
 exact⟨_,O,m.ext,by rw[ak1 b (ak6 c) O l]⟩
def Az{A:Option Addr}(w:ak)(b:bW w A N ts)(a:N<=10000000):cY prog 49 [.slice A N cap] w (λv _=>v=X6 (fO Z ts)):=by
 refine⟨bJ func49 (by kernel_rfl),?_⟩;have m:=Mem.refl w
 go_enter func49,ntmps49
 apply fF 7 [0] m;simp only[↓U];refine cK m O O (ak7 _ (b.ext m.ext) a) ?_;rintro v u m rfl;apply aH 3 [] m;simp only[↓U];exact aS O O ⟨_,O,m.ext,O⟩
def asp(h1:t.b.Lt t.a)(h2:t.c.Lt t.b):dB t=⟨t.c,t.a,t.b⟩:=J ⟨H.lt_trans h2 h1,.inl h2⟩
def asq(h1:t.b.Lt t.a)(h2:¬t.c.Lt t.b):dB t=⟨t.b,t.c,t.a⟩:=by rw[dB,X (λh=>h.2.elim h2 λk=>k h1),J h1]
def asr(h1:¬t.b.Lt t.a)(h2:t.c.Lt t.a):dB t=⟨t.c,t.a,t.b⟩:=J ⟨h2,.inr h1⟩
def ass(h1:¬t.b.Lt t.a)(h2:¬t.c.Lt t.a):dB t=t:=by rw[dB,X (λh=>h2 h.1),X h1]
def ahS  : dF prog 111 [tr t] (tr (dB t)):=by
 intro w;refine⟨bJ func111 (by kernel_rfl),?_⟩;have m:=Mem.refl w
 go_enter func111,ntmps111
 apply gH 28 [3,1,0] m;simp only[↓U,lL];intro c d;apply I0;omega;intro u m;refine mq m aB (by kernel_rfl) (cX 6 [2,2] ?_);simp only[↓U,bQ,aP,ad,ag,aa];apply I0;omega;refine eH O O uL.pure (aZ ?_);intro u m;refine gc ?_;simp only[G];refine bC O ?_ ?_<;>intro a
 .have h1:=a;apply L 22 [1,0] m;simp only[↓U,an];apply I0;omega;refine mq m aB (by kernel_rfl) (cX 6 [2,2] ?_);simp only[↓U,bQ,aP,ad,ag,aa];apply I0;omega;refine eH O O uL.pure (aZ ?_);intro u m;refine gc ?_;simp only[G];refine bC O ?_ ?_<;>intro a
  .have h2:=a;apply L 20 [2,0] m;simp only[↓U,an];apply I0;omega;refine cI m 14 aB (by kernel_rfl) ?_;simp only[zy];refine cX 5 [2] ?_;simp only[↓U,bQ,aP,ad,ag,aa,an];apply I0;omega;refine aK (cT (m:=3) (n:=3) (r:=0) O O (by decide) (by decide)) (cX 4 [2] ?_);simp only[↓U,bQ,aP,ad,ag,aa,an];apply I0;omega;refine aK (cT (m:=4) (n:=3) (r:=1) O O (by decide) (by decide)) (cX 3 [2] ?_);simp only[↓U,bQ,aP,qQ,ad,ag,aa];apply I0;omega;refine aZ ?_;intro u m;refine bP m 0 O O O aW (gS O) O ?_;intro u m;simp only[zy,zx,over,zF,zG,aa] at m;refine aI ?_;apply aT 1 [] m;simp only[↓U];refine aS O ⟨_,O,((m.b 0 O).full cD aW)⟩ ?_;try simp only[zD,zE]
   exact⟨_,O,m.ext,by rw[asp h1 h2];rfl⟩
  have h2:=a;apply L 17 [2,0] m;simp only[↓U,an];apply I0;omega;refine cI m 14 aB (by kernel_rfl) ?_;simp only[zy];refine cX 5 [2] ?_;simp only[↓U,bQ,aP,ad,ag,aa,an];apply I0;omega;refine aK (cT (m:=2) (n:=3) (r:=2) O O (by decide) (by decide)) (cX 4 [2] ?_);simp only[↓U,bQ,aP,ad,ag,aa,an];apply I0;omega;refine aK (cT (m:=3) (n:=3) (r:=0) O O (by decide) (by decide)) (cX 3 [2] ?_);simp only[↓U,bQ,aP,qQ,ad,ag,aa];apply I0;omega;refine aZ ?_;intro u m;refine bP m 0 O O O aW (gS O) O ?_;intro u m;simp only[zy,zx,over,zF,zG,aa] at m;refine aI ?_;apply aT 1 [] m;simp only[↓U];refine aS O ⟨_,O,((m.b 0 O).full cD aW)⟩ ?_;try simp only[zD,zE]
  exact⟨_,O,m.ext,by rw[asq h1 h2];rfl⟩
 have h1:=a;apply L 19 [1,0] m;simp only[↓U,an];apply I0;omega;refine mq m aB (by kernel_rfl) (cX 6 [2,2] ?_);simp only[↓U,bQ,aP,ad,ag,aa];apply I0;omega;refine eH O O uL.pure (aZ ?_);intro u m;refine gc ?_;simp only[G];refine bC O ?_ ?_<;>intro a
 .have h2:=a;apply L 20 [2,0] m;simp only[↓U,an];apply I0;omega;refine cI m 14 aB (by kernel_rfl) ?_;simp only[zy];refine cX 5 [2] ?_;simp only[↓U,bQ,aP,ad,ag,aa,an];apply I0;omega;refine aK (cT (m:=3) (n:=3) (r:=0) O O (by decide) (by decide)) (cX 4 [2] ?_);simp only[↓U,bQ,aP,ad,ag,aa,an];apply I0;omega;refine aK (cT (m:=4) (n:=3) (r:=1) O O (by decide) (by decide)) (cX 3 [2] ?_);simp only[↓U,bQ,aP,qQ,ad,ag,aa];apply I0;omega;refine aZ ?_;intro u m;refine bP m 0 O O O aW (gS O) O ?_;intro u m;simp only[zy,zx,over,zF,zG,aa] at m;refine aI ?_;apply aT 1 [] m;simp only[↓U];refine aS O ⟨_,O,((m.b 0 O).full cD aW)⟩ ?_;try simp only[zD,zE]
  exact⟨_,O,m.ext,by rw[asr h1 h2];rfl⟩
 have h2:=a;apply L 17 [2,0] m;simp only[↓U,an];apply I0;omega;refine cI m 14 aB (by kernel_rfl) ?_;simp only[zy];refine cX 5 [2] ?_;simp only[↓U,bQ,aP,ad,ag,aa,an];apply I0;omega;refine aK (cT (m:=1) (n:=3) (r:=1) O O (by decide) (by decide)) (cX 4 [2] ?_);simp only[↓U,bQ,aP,ad,ag,aa,an];apply I0;omega;refine aK (cT (m:=2) (n:=3) (r:=2) O O (by decide) (by decide)) (cX 3 [2] ?_);simp only[↓U,bQ,aP,qQ,ad,ag,aa];apply I0;omega;refine aZ ?_;intro u m;refine bP m 0 O O O aW (gS O) O ?_;intro u m;simp only[zy,zx,over,zF,zG,aa] at m;refine aI ?_;apply aT 1 [] m;simp only[↓U];refine aS O ⟨_,O,((m.b 0 O).full cD aW)⟩ ?_;try simp only[zD,zE]
 exact⟨_,O,m.ext,by rw[ass h1 h2];rfl⟩
end
section
set_option maxRecDepth 100000
attribute [local irreducible] az cw fW bX cP Code.wp
variable{q:H}
def ak8{x y z:Int}{d:Nat}(w:ak)(c:fQ w d [X6 x,X6 y,X6 z] 3):akj prog 125 [.slice (X4 ⟨d,0,X5⟩) 3 3] w (X6 (if x=0 then if y=0 then z else y else x)):=by
 refine⟨ajW,?_⟩;have m:=iC.refl w
 go_enter func125,ntmps125
 refine bM λM f=>av (aD aM (aI (f _ _ ?_)));try clear f M
 refine bM λN g=>av (aD aM (aI (g _ _ ?_)));try clear g N
 refine bM λP h=>bM λQ i=>av (aD aJ (aD (Lp O eK O) ?_));simp only[G];refine aD aJ (aI (i _ _ ?_));try clear i Q
 refine ki (wp_loop_rounds 4 (Cr (bM λR j=>av (aD (rI (m:=0) (n:=3) O O (by decide)) (aI (j _ _ ?_))))));try clear j R
 refine bM λS k=>Ck O (km (k _ _ ?_));try clear k S
 refine bM λT l=>ki (bM λU o=>av ?_);simp only[G];refine aD (aR eK aY O O (by decide) (by omega) O) ?_;simp only[G];refine bE O ((c.ext m.ext.ext).lies1 bK O) ?_;simp only[G];refine aD aM (aI (o _ _ ?_));try clear o U
 refine bM λV p=>av (aD aJ (aD aJ (aD (rD O O) ?_)));simp only[G];refine aI (p _ _ ?_);try clear p V
 refine bC O ?_ ?_<;>intro a
 .refine bM λY q=>av (aD aJ (aD aM (aI (q _ _ ?_))));try clear q Y
  refine jv ?_;simp only[G];try simp only[dq,Exit.then,K0]
  refine aS O O ?_;try simp only[zD,zE]
  exact⟨_,O,m.ext,by rw[X a]⟩
 have b:x=0:=by omega
 refine km (l _ _ ?_);try clear l T
 refine av (aD (fU (m:=0) (n:=1) (r:=1) O O (by decide)) (aD aJ (aI (lI (bM λZ s=>av (aD (rI (m:=1) (n:=3) O O (by decide)) (aI (s _ _ ?_))))))));try clear s Z
 refine bM λaa t=>Ck O (km (t _ _ ?_));try clear t aa
 refine bM λab u=>ki (bM λad v=>av ?_);simp only[G];refine aD (aR eK aY O O (by decide) (by omega) O) ?_;simp only[G];refine bE O ((c.ext m.ext.ext).lies1 bK O) ?_;simp only[G];refine aD aM (aI (v _ _ ?_));try clear v ad
 refine bM λae A=>av (aD aJ (aD aJ (aD (rD O O) ?_)));simp only[G];refine aI (A _ _ ?_);try clear A ae
 refine bC O ?_ ?_<;>intro a
 .refine bM λaf B=>av (aD aJ (aD aM (aI (B _ _ ?_))));try clear B af
  refine jv ?_;simp only[G];try simp only[dq,Exit.then,K0]
  refine aS O O ?_;try simp only[zD,zE]
  exact⟨_,O,m.ext,by rw[J b,X a]⟩
 have e:y=0:=by omega
 refine km (u _ _ ?_);try clear u ab
 refine av (aD (fU (m:=1) (n:=1) (r:=2) O O (by decide)) (aD aJ (aI (lI (bM λag C=>av (aD (rI (m:=2) (n:=3) O O (by decide)) (aI (C _ _ ?_))))))));try clear C ag
 refine bM λah D=>Ck O (km (D _ _ ?_));try clear D ah
 refine bM λai E=>ki (bM λaj F=>av ?_);simp only[G];refine aD (aR eK aY O O (by decide) (by omega) O) ?_;simp only[G];refine bE O ((c.ext m.ext.ext).lies1 bK O) ?_;simp only[G];refine aD aM (aI (F _ _ ?_));try clear F aj
 refine bM λal H=>av (aD aJ (aD aJ (aD (rD O O) ?_)));simp only[G];refine aI (H _ _ ?_);try clear H al
 refine bC O ?_ ?_<;>intro a
 .refine bM λam I=>av (aD aJ (aD aM (aI (I _ _ ?_))));try clear I am
  refine jv ?_;simp only[G];try simp only[dq,Exit.then,K0]
  refine aS O O ?_;try simp only[zD,zE]
  exact⟨_,O,m.ext,by rw[J b,J e]⟩
 have W:z=0:=by omega
 refine km (E _ _ ?_);try clear E ai
 refine av (aD (fU (m:=2) (n:=1) (r:=3) O O (by decide)) (aD aJ (aI (lI (bM λan K=>av (aD (Gy (m:=3) (n:=3) O O (by decide)) (aI (K _ _ ?_))))))));try clear K an
 refine bM λap aq=>agY O (wp_exit (h _ _ ?_));try clear h P
 refine bM λao L=>av (aD aJ ?_);simp only[G];refine aD aM (aI (L _ _ ?_));try clear L ao
 refine jv ?_;simp only[G];try simp only[dq,Exit.then,K0]
 refine aS O O ?_;try simp only[zD,zE]
 exact⟨_,O,m.ext,by rw[J b,J e,W]⟩
def ae1(s t:T3):Int:=if rC s.a t.a=0 then if rC s.b t.b=0 then rC s.c t.c else rC s.b t.b else rC s.a t.a
def Kj(s t:T3):(ae1 s t<0)↔s.Lt t:=by
 unfold ae1 T3.Lt;split
 . rename_i h
   have c:=nP.1 h;have n1:¬s.a.Lt t.a:=λk=>H.lt_irrefl _ (c▸k);split
   . rename_i g
     have d:=nP.1 g;have n2:¬s.b.Lt t.b:=λk=>H.lt_irrefl _ (d▸k);rw[lV];simp[c,d,H.lt_irrefl]
   rename_i g
   have d:¬s.b=t.b:=λe=>g (nP.2 e);rw[lV];simp[c,d,H.lt_irrefl]
 rename_i h
 have c:¬s.a=t.a:=λe=>h (nP.2 e);rw[lV];simp[c]
instance:Inhabited T3:=⟨⟨⟨0,0,0⟩,⟨0,0,0⟩,⟨0,0,0⟩⟩⟩
def ak9:Go.Sort.SWO (Go.Proofs.ltOf ae1) where
 irrefl a:=by simp only[Go.Proofs.ltOf,Y1,Kj];exact T3.lt_irrefl a
 trans x y z h1 h2:=by
  simp only[Go.Proofs.ltOf,R,Kj] at *
  exact T3.lt_trans h1 h2
 ntrans x y z h1 h2:=by
  simp only[Go.Proofs.ltOf,Y1,Kj] at *
  intro h;rcases T3.lt_tri y x with k | k | k
  .exact Z8 (T3.lt_trans k h) (by first | exact h2 | exact h1)
  .subst k;first | exact h2 h | exact h1 h
  first | exact h1 k | exact h2 k
def aa0(t:T3):∀v∈aL t,v.oneCell'=Z:=λv h=>by
 simp only[aL,ap,cd,Z9] at h;rcases h with rfl | rfl | rfl | rfl | rfl | rfl | rfl | rfl | rfl <;> rfl
def aoz{p q:T3}:tN prog 113 [tr p,tr q] (X6 (ae1 p q)):=by
 intro w;refine⟨bJ func113 (by kernel_rfl),?_⟩;have m:=iC.refl w
 go_enter func113,ntmps113
 refine bM λf d=>av (oX m O ?_);intro h u m;simp only[G];refine oX m O ?_;intro i u m;refine aD aM (aI (d _ _ ?_));try clear d f
 refine bM λg e=>?_;simp only[G];refine Rp m 15 aB (by kernel_rfl) ?_;simp only[zy];refine aK (aN eB aA O O (by decide) (by decide) O) ?_;simp only[G];refine Vo O (λu m=>((m.b 1 O).lies aG aA O O)) ?_;simp only[G,zy,ai,aa,ag,ad];refine aK (aN eB aA O O (by decide) (by decide) O) ?_;simp only[G];refine Vo O (λu m=>((m.b 0 O).lies aG aA O O)) ?_;simp only[G,zy,ai,aa,ag,ad];refine Jc O O (Fo (p:=p.a) (q:=q.a)) (aK (aN eB aA O O (by decide) (by decide) O) ?_);simp only[G];refine Vo O (λu m=>((m.b 1 O).lies aG aA O O)) ?_;simp only[G,zy,ai,aa,ag,ad];refine aK (aN eB aA O O (by decide) (by decide) O) ?_;simp only[G];refine Vo O (λu m=>((m.b 0 O).lies aG aA O O)) ?_;simp only[G,zy,ai,aa,ag,ad];refine Jc O O (Fo (p:=p.b) (q:=q.b)) (aK (aN eB aA O O (by decide) (by decide) O) ?_);simp only[G];refine Vo O (λu m=>((m.b 1 O).lies aG aA O O)) ?_;simp only[G,zy,ai,aa,ag,ad];refine aK (aN eB aA O O (by decide) (by decide) O) ?_;simp only[G];refine Vo O (λu m=>((m.b 0 O).lies aG aA O O)) ?_;simp only[G,zy,ai,aa,ag,ad];refine Jc O O (Fo (p:=p.c) (q:=q.c)) (aZ ?_);intro u m;simp only[G];refine acu m eK (z:=X6 0) (by kernel_rfl) O O O O O O O ?_;intro j u m;simp only[G];refine aaJ m O O (ak8 _ (m.b 0 O)) ?_;intro u m;refine aD aM (aI (e _ _ ?_));try clear e g
 refine jv ?_;simp only[G];try simp only[dq,Exit.then,K0]
 refine aS O O ?_;try simp only[zD,zE]
 exact⟨_,O,m.ext,O⟩
def ast{p:H}(h:p.x=q.x/\p.y=q.y/\p.z=q.z):(0:Int)=rC p q:=(nP.2 (H.eq h.1 h.2.1 h.2.2)).symm
def asu{p:H}(h:p.Lt q):(-1:Int)=rC p q:=(J h).symm
def asv{p:H}(h1:¬(p.x=q.x/\p.y=q.y/\p.z=q.z))(h2:¬p.Lt q):(1:Int)=rC p q:=by
 unfold rC;rcases H.lt_tri p q with h | h | h
 .exact Z8 h h2
 .exact Z8 (by rw[h];exact⟨O,O,O⟩) h1
 rw[X h2,J h]
def Tu{p:H}:tN prog 70 [pt p,pt q] (X6 (rC p q)):=by
 intro w;refine⟨bJ func70 (by kernel_rfl),?_⟩;have m:=iC.refl w
 go_enter func70,ntmps70
 refine bM λk a=>av (oX m O ?_);intro v u m;simp only[G];refine oX m O ?_;intro x u m;refine aD aM (aI (a _ _ ?_));try clear a k
 refine bM λl c=>ki (bM λn d=>av ?_);simp only[G];refine bE O ((m.b 1 O).full aG aA) ?_;simp only[G];refine bE O ((m.b 0 O).full aG aA) ?_;simp only[G];refine aD (uT O O) (aD aM (aI (d _ _ ?_)));try clear d n
 simp only[G];refine bC O ?_ ?_<;>intro i
 .refine bM λo e=>av (aD aM (aI (e _ _ ?_)));try clear e o
  refine jv ?_;simp only[G];try simp only[dq,Exit.then,K0]
  refine aS O O ?_;try simp only[zD,zE]
  exact⟨_,O,m.ext,by rw[<-ast i]⟩
 refine bM λr f=>av (bE O ((m.b 1 O).full aG aA) ?_);simp only[G];refine bE O ((m.b 0 O).full aG aA) ?_;simp only[G];refine Pv m O O (uL (p:=p) (q:=q)) ?_;intro u m;refine aD aM (aI (f _ _ ?_));try clear f r
 simp only[G];refine bC O ?_ ?_<;>intro j
 .refine bM λs g=>av (aD aM (aI (g _ _ ?_)));try clear g s
  refine jv ?_;simp only[G];try simp only[dq,Exit.then,K0]
  refine aS O O ?_;try simp only[zD,zE]
  exact⟨_,O,m.ext,by rw[<-asu j]⟩
 refine km (c _ _ ?_);try clear c l
 refine bM λt h=>av (aD aM (aI (h _ _ ?_)));try clear h t
 refine jv ?_;simp only[G];try simp only[dq,Exit.then,K0]
 refine aS O O ?_;try simp only[zD,zE]
 exact⟨_,O,m.ext,by rw[<-asv i j]⟩
end
section
set_option maxRecDepth 100000
attribute [local irreducible] az cw fW bX cP Code.wp
attribute [local congr] dK dL cR dJ
variable{cap na nb ca cb:Nat}{A:Option Addr}{u x q:H}{xs ys:List Nat}
def ahT{w0 w:ak}{is:List It}{A:Option Addr}{n cap:Nat}{xs:List T3}(m:Mem w0 w is)(k:Nat)(c:is[k]? = X4 (oI 39 9 A n cap (xs.flatMap aL)))(d:n<4611686018427387904) :
 Calls prog 112 [.slice A n cap,.func (.func 113) #[] #[]].toArray w λe w'=>∃v i,e=.returned v/\Mem w0 w' (is.set k i)/\(v=.tuple #[]/\∃ys:List T3,i=oI 39 9 A n cap (ys.flatMap aL)/\ys.Perm xs/\ys.Pairwise λa b=>ltOf ae1 b a=X3) :=
 Dd (enc:=aL) Tryz.sort112 (λw=>pU cD w) (λw=>dY aW w) (λ_=>rfl) (by decide) aa0 ae1 ak9 (λx y=>aoz) m k c d
def ae2{ts ys:List T3}(h:ys.Perm (ts.map dB))(hs:ys.Pairwise λa b=>Go.Proofs.ltOf ae1 b a=X3):ys=aV ts :=
 ajI h (hs.imp λ{a b} h k=>by
  have:=(Kj b a).2 k;simp[Go.Proofs.ltOf] at h;omega)
def acC{ts:List T3}{N:Nat}(w:ak)(e:bW w A N ts)(D:N<=10000000):cY prog 55 [.slice A N cap] w (SL 39 9 ((aV ts).flatMap aL) ts.length w):=by
 refine⟨bJ func55 (by kernel_rfl),?_⟩;have m:=Mem.refl w;have s:=e.len
 go_enter func55,ntmps55
 apply fF 6 [0] m;simp only[↓U];refine aD aM ?_;replace m:=m.nilO 39 9;apply aH 9 [0] m;simp only[↓U,gM];refine bT [3,8] [5,9,10,11,12,13,14,15,16,17] (λn vs p=>∃(k:Nat) (c:Option Addr) (d:Nat),vs=[.slice c k d,X6 (k:Int)]/\Mem w p [oI 39 9 c k d (((ts.take k).map dB).flatMap aL)]/\(k<=N)/\(n=N-k)) ?_ ?_
 .exact⟨_,0,_,_,O,m,bn _,O⟩
 intro n vs wr g u z q
 obtain⟨k,c,d,rfl,m,E,F⟩:=g;simp only[zu,zF,zG];apply L 5 [0,0] m;simp only[↓U];refine bC O ?_ ?_<;>intro H
 .obtain⟨t,j,_,a,rfl,y⟩:=e.get (i:=k) (by omega);apply xI 13 [0,1,0,1,0] m;simp only[↓U,fR,lL,dM,ah,ai,aa];refine⟨_,λu m=>((y.ext m.ext).lies cD aW),λB=>⟨by omega,?_⟩⟩;intro u m;refine jG m O O ahS ?_;intro u m;simp only[G];refine fE O ?_;intro u C f h l;replace m:=m.newB f h l;simp only[G];refine bN m 2 O O fC iO O (by decide) O O O (m.b 0 O).rowsO (fN O) (by omega) (by omega) ?_;intro c d u m;simp only[zF,zG] at m;rw[show ((ts.take k).map dB).flatMap aL++_=((ts.take (k+1)).map dB).flatMap aL by rw[bV j,de,aw];rfl] at m;apply aH 7 [0] m;simp only[↓U];apply I0;omega;exact q (N-(k+1)) _ _ (by omega) (by kernel_rfl) ⟨k+1,_,_,O,(m.sel [X3,X3,Z]),by omega,O⟩
 obtain rfl:k=N:=by omega
 rw[show ts.take k=ts from au (by omega)] at m;apply L 4 [0] m;simp only[↓U];refine mJ m 0 (bJ func112 (by kernel_rfl)) O O (λm=>ahT m 0 O (by omega)) ?_;rintro v i u m ⟨rfl,ys,rfl,x,r⟩;simp only[zF,zG] at m;simp only[G];obtain rfl:=ae2 x r;apply aH 7 [] m;simp only[↓U];exact aS O O ⟨_,O,m.ext,⟨_,_,_,s.symm,O,(m.o 0 O)⟩⟩
def Yx{v:H}(h:x.x=u.x/\x.y=u.y/\x.z=u.z):gK u v x=v:=by
 rw[show x=u from H.eq h.1 h.2.1 h.2.2];exact kB
def Nb{v:H}(h:¬(x.x=u.x/\x.y=u.y/\x.z=u.z)):gK u v x=x:=fV λe=>h (by rw[e];exact⟨rfl,rfl,rfl⟩)
def pne{p:H}:decide (¬(p.x=q.x/\p.y=q.y/\p.z=q.z))=decide (p≠q):=decide_eq_decide.2 ⟨λh e=>h (by rw[e];exact⟨rfl,rfl,rfl⟩),λh e=>h (H.eq e.1 e.2.1 e.2.2)⟩
def ago{t:T3}{p:H}:dF prog 54 [tr t,pt p,pt q] (.tuple #[tr (gX p q t),.bool (gX p q t).nd]):=by
 intro w;refine⟨bJ func54 (by kernel_rfl),?_⟩;have m:=Mem.refl w
 go_enter func54,ntmps54
 apply gH 31 [4,1,0] m;simp only[↓U,lL];intro f s v A;apply I0;omega;intro u m;refine mq m aB (by kernel_rfl) (cX 5 [4,3] ?_);simp only[↓U,bQ,aP,ad,ag,aa];refine⟨_,eQ,by omega,?_⟩;refine aZ ?_;intro u m;refine gc (gY m 3 [] [17,18,19] (λvs i=>vs=[]/\i=bI f [X6 (gK p q t.a).x,X6 (gK p q t.a).y,X6 (gK p q t.a).z,X6 (t.b).x,X6 (t.b).y,X6 (t.b).z,X6 (t.c).x,X6 (t.c).y,X6 (t.c).z] 39) ?_ ?_)
 . intro n g
   refine bC O ?_ ?_<;>intro d
   .apply xI 6 [2,3,0] m;simp only[↓U,aP,bQ,ad,ag,aa];apply I0;omega;intro u m;exact g _ _ _ (by kernel_rfl) m ⟨O,by rw[Yx d] <;> rfl⟩
   apply L 1 [0] m;simp only[↓U];exact g _ _ _ (by kernel_rfl) m ⟨O,by rw[Nb d] <;> rfl⟩
 intro vs i wr m e u
 obtain⟨rfl,rfl⟩:=e;simp only[zF,zG] at m;simp only[zu,zF,zG];apply aT 21 [1,0] m;simp only[↓U,an];apply I0;omega;refine mq m aB (by kernel_rfl) (cX 5 [4,3] ?_);simp only[↓U,bQ,aP,ad,ag,aa];refine⟨_,eQ,by omega,?_⟩;refine aZ ?_;intro u m;refine gc (gY m 3 [] [17,18,19] (λvs i=>vs=[]/\i=bI f [X6 (gK p q t.a).x,X6 (gK p q t.a).y,X6 (gK p q t.a).z,X6 (gK p q t.b).x,X6 (gK p q t.b).y,X6 (gK p q t.b).z,X6 (t.c).x,X6 (t.c).y,X6 (t.c).z] 39) ?_ ?_)
 . intro o j
   refine bC O ?_ ?_<;>intro d
   .apply xI 6 [2,3,0] m;simp only[↓U,aP,bQ,ad,ag,aa];apply I0;omega;intro u m;exact j _ _ _ (by kernel_rfl) m ⟨O,by rw[Yx d] <;> rfl⟩
   apply L 1 [0] m;simp only[↓U];exact j _ _ _ (by kernel_rfl) m ⟨O,by rw[Nb d] <;> rfl⟩
 intro vs i wr m e u
 obtain⟨rfl,rfl⟩:=e;simp only[zF,zG] at m;simp only[zu,zF,zG];apply aT 21 [1,0] m;simp only[↓U,an];apply I0;omega;refine mq m aB (by kernel_rfl) (cX 5 [4,3] ?_);simp only[↓U,bQ,aP,ad,ag,aa];refine⟨_,eQ,by omega,?_⟩;refine aZ ?_;intro u m;refine gc (gY m 3 [] [17,18,19] (λvs i=>vs=[]/\i=bI f [X6 (gK p q t.a).x,X6 (gK p q t.a).y,X6 (gK p q t.a).z,X6 (gK p q t.b).x,X6 (gK p q t.b).y,X6 (gK p q t.b).z,X6 (gK p q t.c).x,X6 (gK p q t.c).y,X6 (gK p q t.c).z] 39) ?_ ?_)
 . intro r k
   refine bC O ?_ ?_<;>intro d
   .apply xI 6 [2,3,0] m;simp only[↓U,aP,bQ,ad,ag,aa];apply I0;omega;intro u m;exact k _ _ _ (by kernel_rfl) m ⟨O,by rw[Yx d] <;> rfl⟩
   apply L 1 [0] m;simp only[↓U];exact k _ _ _ (by kernel_rfl) m ⟨O,by rw[Nb d] <;> rfl⟩
 intro vs i wr m e u
 obtain⟨rfl,rfl⟩:=e;simp only[zF,zG] at m;simp only[zu,zF,zG];apply aT 14 [2,0] m;simp only[↓U,an];apply I0;omega;refine mh m [X3,Z,Z,Z] [(1,Z),(3,Z),(0,Z),(2,Z),(4,Z),(5,Z),(6,Z),(7,Z),(9,Z),(8,Z),(10,Z),(11,Z),(12,Z),(13,Z),(14,Z),(16,Z),(15,Z),(17,Z),(18,Z),(19,Z),(20,X3),(21,Z)] aB (by kernel_rfl) (bS (λ_ _ _ _ _ h=>h)) (ol:=?_) ?l ?_
 case l=>simp only[zw,zQ,zR];try rfl
 intro u m;refine Fq 10 [3,3,3,6,3,3,6,3,3] ?_;simp only[↓U,bQ,dM,aP,ad,ag,aa];refine⟨_,lQ,_,lQ,λ_=>⟨_,lQ,λ_=>⟨by omega,?_⟩⟩⟩;refine bO (bP m 0 O O O aW (gS O) O ?_);intro u m;simp only[zy,zx,over,zF,zG,aa] at m;refine aI ⟨m.sel [X3,Z,Z,Z],?_⟩;refine bG aM (bR ?_);apply aT 1 [] m;simp only[↓U];refine wE O ⟨_,O,((m.b 0 O).full cD aW)⟩ O ?_;try simp only[zD,zE]
 exact⟨_,O,m.ext,by rw[pne,pne,pne] <;> rfl⟩
def lZ{os:List Nat}{x:Nat}:os.map sK++[X6 (x:Int)]=(os++[x]).map sK:=by simp[sK]
def Tv{w0 w:ak}{S:List (Option Nat)}{E:TypeId}{n:Nat}{os:List Nat}(h:Ow w0 w S E 1 A n cap (os.map sK))(d:n=os.length)(b:eS 65536 os)(c:n<=17592186044416):gC w w.heap.size A n cap os/\∀a,A=X4 a->w0.heap.size<=a.block:=by
 obtain⟨_,_,e,r⟩:=gC.of_owns (show aiT w w0.heap.size E 1 (.slice A n cap) n _ from h.own) d b c;cases e;exact r
def aa1{b:Nat}(w:ak)(c:gC w b A na cap xs):cY prog 296 [.slice A na cap] w (λv _=>v=.slice A (trim xs).length cap):=by
 refine⟨bJ func296 (by kernel_rfl),?_⟩;have m:=Mem.refl w;obtain rfl:=c.eq;have p:=c.len;have s:=c.le;have r:=c.cap
 go_enter func296,ntmps296
 apply fF 6 [0] m;simp only[↓U];refine bT [0] [3,4,5,6,7,8,9,10,11,12,13,14,15,16,17,18,19] (λn vs h=>∃(k:Nat),vs=[.slice A k cap]/\Mem w h []/\(k<=xs.length)/\(trim (xs.take k)=trim xs)/\(n=k)) ?_ ?_
 .exact⟨_,xs.length,O,m,ar _,by rw[fq],O⟩
 intro n vs wr g u l i;obtain⟨k,rfl,m,o,d,q⟩:=g;simp only[zu,zF,zG];apply L 2 [] m;simp only[↓U];by_cases f:0<k
 .obtain⟨a,rfl,j,t⟩:=c.get (show k-1<xs.length by omega);apply aT 9 [1,0,0,0,0,0] m;simp only[↓U,kO];apply I0;omega;refine eP O (aD (aR eK aY O O (by omega) (by omega) (tL (show _=k-1 by omega))) ?_);apply aH 4 [0,0,2,0,0,0] m;simp only[↓U];refine⟨_,λu m=>(lies1 (m.ext.cell j) bK),?_⟩;refine bC O ?_ ?_<;>intro e
  .apply L 7 [0] m;simp only[↓U,kO];apply I0;omega;refine aD (nK eK aY O O (show _=k-1 by omega) (by omega) (by omega)) ?_;apply aH 3 [0] m;simp only[↓U];exact i (k-1) _ _ (by omega) (by kernel_rfl) ⟨k-1,O,m,by omega,Wy f (by omega) e d,O⟩
  apply L 7 [] m;simp only[↓U];refine aS O O ?_;try simp only[zD,zE]
  exact⟨_,O,m.ext,by rw[<-abG f (by omega) e d]⟩
 obtain rfl:k=0:=by omega
 apply aT 22 [2,0,0,0,0,0,0,0] m;simp only[↓U,kO];apply I0;omega;refine aS O O ?_;try simp only[zD,zE]
 exact⟨_,O,m.ext,by rw[<-abH d]⟩
def ahU{B:Option Addr}{b h:Nat}(w:ak)(d:gC w b A na ca xs)(c:gC w h B nb cb ys)(l:gZ xs)(ty:gZ ys):cY prog 283 [.slice A na ca,.slice B nb cb] w (λv _=>v=X6 (ord (val 65536 xs) (val 65536 ys))):=by
 refine⟨bJ func283 (by kernel_rfl),?_⟩;have m:=Mem.refl w;obtain rfl:=d.eq;obtain rfl:=c.eq;have t:=d.len;have E:=c.len
 go_enter func283,ntmps283
 apply fF 13 [0,0] m;simp only[↓U,kO];refine bC O ?_ ?_<;>intro y
 .apply L 9 [0,0] m;simp only[↓U,kO];refine bC O ?_ ?_<;>intro z
  .apply L 5 [] m;simp only[↓U];refine aS O O ?_;try simp only[zD,zE]
   exact⟨_,O,m.ext,by rw[ord,J (nL (by omega) d.digs c.digs ty (by omega))]⟩
  apply L 6 [] m;simp only[↓U];refine aS O O ?_;try simp only[zD,zE]
  exact⟨_,O,m.ext,by have:=nL (B:=65536) (by omega) c.digs d.digs l (by omega);rw[ord,X (by omega),J this]⟩
 apply L 10 [0] m;simp only[↓U,kO];apply I0;omega;refine bT [5] [4,19,20,21,22,23,24,25,26,27,28,29,30,31,32,33,34,35,36,37,38,39,40] (λn vs o=>∃(k:Nat),vs=[X6 ((k:Int)-1)]/\Mem w o []/\(k<=xs.length)/\(xs.drop k=ys.drop k)/\(n=k)) ?_ ?_
 .exact⟨_,xs.length,O,m,ar _,by rw[me,show xs.length=ys.length by omega,me],O⟩
 intro n vs wr j u r p;obtain⟨k,rfl,m,s,e,x⟩:=j;simp only[zu,zF,zG];apply L 6 [0,0] m;simp only[↓U];refine bC O ?_ ?_<;>intro C
 .apply L 4 [] m;simp only[↓U];obtain⟨a,rfl,f,_⟩:=d.get (show k-1<xs.length by omega);obtain⟨b,rfl,g,_⟩:=c.get (show k-1<ys.length by omega);refine gc (mq m aB (by kernel_rfl) (aK aJ (aK aJ ?_)));simp only[G];refine aK (aR eK aY O O (by omega) (by omega) (tL (show _=k-1 by omega))) (cX 3 [0,2] ?_);simp only[↓U];refine⟨_,λu m=>(lies1 (m.ext.cell f) bK),?_⟩;refine aK (aR eK aY O O (by omega) (by omega) (tL (show _=k-1 by omega))) ?_;simp only[G];refine ql O (λu m=>(lies1 (m.ext.cell g) bK)) ?_;simp only[G];refine aK (rD O O) (aZ ?_);intro u m;refine gc ?_;simp only[G];refine bC O ?_ ?_<;>intro D
  .apply L 2 [] m;simp only[↓U];have f:=d.at (show k-1<xs.length by omega);have g:=c.at (show k-1<ys.length by omega);refine gc (mq m aB (by kernel_rfl) (aK aJ (aK aJ ?_)));simp only[G];refine aK (aR eK aY O O (by omega) (by omega) (tL (show _=k-1 by omega))) (cX 3 [0,2] ?_);simp only[↓U];refine⟨_,λu m=>(lies1 (m.ext.cell f) bK),?_⟩;refine aK (aR eK aY O O (by omega) (by omega) (tL (show _=k-1 by omega))) ?_;simp only[G];refine ql O (λu m=>(lies1 (m.ext.cell g) bK)) ?_;simp only[G];refine aK (xQ O O) (aZ ?_);intro u m;refine gc ?_;simp only[G];refine bC O ?_ ?_<;>intro q
   .apply L 5 [] m;simp only[↓U];refine aS O O ?_;try simp only[zD,zE]
    exact⟨_,O,m.ext,by rw[ord,J (ab7 d.digs (by omega) (by omega) (by omega) e q)]⟩
   apply L 6 [] m;simp only[↓U];refine aS O O ?_;try simp only[zD,zE]
   exact⟨_,O,m.ext,by have:=ab7 c.digs (by omega) (by omega) (by omega) e.symm (by omega);rw[ord,X (by omega),J this]⟩
  apply L 7 [0] m;simp only[↓U];apply I0;omega;rw[show ((k:Int)-1-1)=((k-1:Nat):Int)-1 by omega];exact p (k-1) _ _ (by omega) (by kernel_rfl) ⟨k-1,O,m,by omega,ajs (by omega) (by omega) (by omega) e (by omega),O⟩
 apply L 6 [] m;simp only[↓U];refine aS O O ?_;try simp only[zD,zE]
 exact⟨_,O,m.ext,by have i:k=0:=(by omega);subst i;simp only[nt] at e;rw[e,ord,X (by omega),X (by omega)]⟩
def asw{B:Option Addr}(w:ak)(J:gC w w.heap.size A na ca xs)(E:gC w w.heap.size B nb cb ys)(ae:xs.length<=1000000000000)(af:ys.length<=1000000000000):cY prog 282 [.slice A na ca,.slice B nb cb] w (aqQ (val 65536 xs+val 65536 ys) (max xs.length ys.length+1)):=by
 refine⟨bJ func282 (by kernel_rfl),?_⟩;have m:=Mem.refl w;obtain rfl:=J.eq;obtain rfl:=E.eq;obtain⟨M,T⟩:∃M,M=max xs.length ys.length:=⟨_,rfl⟩
 rw[<-T]
 go_enter func282,ntmps282
 apply fF 6 [0] m;simp only[↓U];refine aD aM ?_;replace m:=m.nilO 3 1;apply aH 11 [0] m;simp only[↓U];refine bT [5,6,7] [8,9,10,11,12,13,14,15,16,17,18,19,20,21,22,23,24,25,26,27,28,29,30,31,32,33,34,35,36,37,38,39,40,41,42,43,44,45,46,47,48,49,50,51,52] (λn vs V=>∃(i c:Nat) (os:List Nat) (f:Option Addr) (g:Nat),vs=[.slice f i g,X6 (c:Int),X6 (i:Int)]/\Mem w V [oI 3 1 f i g (os.map sK)]/\(os.length=i)/\(val 65536 os+65536^i*c=val 65536 (xs.take i)+val 65536 (ys.take i))/\(eS 65536 os)/\(c<=1)/\(i<=M+1)/\(i=M+1->c=0)/\(n=M+1-i)) ?_ ?_
 .exact⟨_,0,0,[],X5,0,O,m,O,by simp[val],mV _,by omega,by omega,λ_=>rfl,O⟩
 intro n vs wr S u Y C;obtain⟨i,c,os,f,g,rfl,m,x,v,y,hc,hi,ab,hn⟩:=S;simp only[zu,zF,zG];apply L 2 [] m;simp only[↓U];rcases (show i<xs.length\/(¬i<xs.length/\i<ys.length)\/(¬i<xs.length/\¬i<ys.length/\0<c)\/(¬i<xs.length/\¬i<ys.length/\c=0) by omega) with F | ⟨F,P⟩ | ⟨F,P,ag⟩ | ⟨F,P,rfl⟩
 .apply aT 34 [1,0,0,0,0,0,0,1] m;simp only[↓U,kO];apply I0;omega;obtain⟨a,rfl,W,ad⟩:=J.get (show i<xs.length by omega);apply aT 9 [0,2] m;simp only[↓U,Ou,ah,ai,dt];refine⟨_,λu m=>(lies1 (m.ext.cell W) bK),by omega,?_⟩;obtain⟨d,t⟩:∃d:Nat,d=c+xs[i]:=⟨_,rfl⟩
  rw[show ((c:Int)+(xs[i]:Int))=(d:Int) by omega];have K:d=c+xs[i]?.getD 0:=by rw[am (by omega)];exact t
  have N:d<65537:=by omega
  apply aT 8 [0,0] m;simp only[↓U,kO];refine bC O ?_ ?_<;>intro aa
  .obtain⟨Q,rfl,H,X⟩:=E.get (show i<ys.length by omega);apply L 9 [0,2] m;simp only[↓U,Ou,ah,ai,dt];refine⟨_,λu m=>(lies1 (m.ext.cell H) bK),by omega,?_⟩;obtain⟨s,hs⟩:∃s:Nat,s=d+ys[i]:=⟨_,rfl⟩
   rw[show ((d:Int)+(ys[i]:Int))=(s:Int) by omega];have e:s=c+xs[i]?.getD 0+ys[i]?.getD 0:=by rw[am (l:=ys) (by omega)];simp only[dx];omega
   have I:s<131072:=by omega
   apply aT 4 [0] m;simp only[↓U];refine aD (cT O O (by omega) (qB (n:=65536))) ?_;simp only[G];refine gB eK (z:=X6 0) (by kernel_rfl) O O O ?_;intro u D j k p;replace m:=m.newB j k p;simp only[G];refine bN m 1 O O eK tQ O (by decide) O O O (m.b 0 O).rowsO (fN O) (by omega) (by omega) ?_;intro f g u m;simp only[zF,zG] at m;simp only[zA,zB,zC,zD,zE,lZ] at m;apply aH 4 [0] m;simp only[↓U];refine aD (iU O O (by omega) (uB (n:=65536) (by omega))) ?_;apply aH 8 [0] m;simp only[↓U];apply I0;omega;obtain⟨q,r⟩:=Ak x v y e;rw[show ((i:Int)+1)=((i+1:Nat):Int) by omega];exact C (M+1-(i+1)) _ _ (by omega) (by kernel_rfl) ⟨i+1,s / 65536,os++[s%65536],f,g,O,(m.sel [X3,Z]),by simp;omega,q,r,by omega,by omega,λh=>by rw[cg (l:=xs) (by omega),cg (l:=ys) (by omega)] at e;simp at e;omega,rfl⟩
  obtain⟨s,hs⟩:∃s:Nat,s=d:=⟨_,rfl⟩
  rw[<-hs];have e:s=c+xs[i]?.getD 0+ys[i]?.getD 0:=by rw[cg (l:=ys) (by omega)];simp only[mg];omega
  have I:s<131072:=by omega
  apply L 5 [0] m;simp only[↓U];refine aD (cT O O (by omega) (qB (n:=65536))) ?_;simp only[G];refine gB eK (z:=X6 0) (by kernel_rfl) O O O ?_;intro u D j k p;replace m:=m.newB j k p;simp only[G];refine bN m 1 O O eK tQ O (by decide) O O O (m.b 0 O).rowsO (fN O) (by omega) (by omega) ?_;intro f g u m;simp only[zF,zG] at m;simp only[zA,zB,zC,zD,zE,lZ] at m;apply aH 4 [0] m;simp only[↓U];refine aD (iU O O (by omega) (uB (n:=65536) (by omega))) ?_;apply aH 8 [0] m;simp only[↓U];apply I0;omega;obtain⟨q,r⟩:=Ak x v y e;rw[show ((i:Int)+1)=((i+1:Nat):Int) by omega];exact C (M+1-(i+1)) _ _ (by omega) (by kernel_rfl) ⟨i+1,s / 65536,os++[s%65536],f,g,O,(m.sel [X3,Z]),by simp;omega,q,r,by omega,by omega,λh=>by rw[cg (l:=xs) (by omega),cg (l:=ys) (by omega)] at e;simp at e;omega,rfl⟩
 .apply aT 25 [2,0,0,0,0,1,0,0] m;simp only[↓U,kO];apply I0;omega;obtain⟨d,t⟩:∃d:Nat,d=c:=⟨_,rfl⟩
  rw[<-t];have K:d=c+xs[i]?.getD 0:=by rw[cg (by omega)];exact t
  have N:d<65537:=by omega
  apply aT 19 [2,1] m;simp only[↓U,kO];apply I0;omega;obtain⟨Q,rfl,H,X⟩:=E.get (show i<ys.length by omega);apply aT 9 [0,2] m;simp only[↓U,Ou,ah,ai,dt];refine⟨_,λu m=>(lies1 (m.ext.cell H) bK),by omega,?_⟩;obtain⟨s,hs⟩:∃s:Nat,s=d+ys[i]:=⟨_,rfl⟩
  rw[show ((d:Int)+(ys[i]:Int))=(s:Int) by omega];have e:s=c+xs[i]?.getD 0+ys[i]?.getD 0:=by rw[am (l:=ys) (by omega)];simp only[dx];omega
  have I:s<131072:=by omega
  apply aT 4 [0] m;simp only[↓U];refine aD (cT O O (by omega) (qB (n:=65536))) ?_;simp only[G];refine gB eK (z:=X6 0) (by kernel_rfl) O O O ?_;intro u D j k p;replace m:=m.newB j k p;simp only[G];refine bN m 1 O O eK tQ O (by decide) O O O (m.b 0 O).rowsO (fN O) (by omega) (by omega) ?_;intro f g u m;simp only[zF,zG] at m;simp only[zA,zB,zC,zD,zE,lZ] at m;apply aH 4 [0] m;simp only[↓U];refine aD (iU O O (by omega) (uB (n:=65536) (by omega))) ?_;apply aH 8 [0] m;simp only[↓U];apply I0;omega;obtain⟨q,r⟩:=Ak x v y e;rw[show ((i:Int)+1)=((i+1:Nat):Int) by omega];exact C (M+1-(i+1)) _ _ (by omega) (by kernel_rfl) ⟨i+1,s / 65536,os++[s%65536],f,g,O,(m.sel [X3,Z]),by simp;omega,q,r,by omega,by omega,λh=>by rw[cg (l:=xs) (by omega),cg (l:=ys) (by omega)] at e;simp at e;omega,rfl⟩
 .apply aT 25 [2,0,0,0,0,2,0,0,1] m;simp only[↓U,kO];apply I0;omega;obtain⟨d,t⟩:∃d:Nat,d=c:=⟨_,rfl⟩
  rw[<-t];have K:d=c+xs[i]?.getD 0:=by rw[cg (by omega)];exact t
  have N:d<65537:=by omega
  apply aT 21 [2,2] m;simp only[↓U,kO];apply I0;omega;obtain⟨s,hs⟩:∃s:Nat,s=d:=⟨_,rfl⟩
  rw[<-hs];have e:s=c+xs[i]?.getD 0+ys[i]?.getD 0:=by rw[cg (l:=ys) (by omega)];simp only[mg];omega
  have I:s<131072:=by omega
  apply aT 3 [0] m;simp only[↓U];refine aD (cT O O (by omega) (qB (n:=65536))) ?_;simp only[G];refine gB eK (z:=X6 0) (by kernel_rfl) O O O ?_;intro u D j k p;replace m:=m.newB j k p;simp only[G];refine bN m 1 O O eK tQ O (by decide) O O O (m.b 0 O).rowsO (fN O) (by omega) (by omega) ?_;intro f g u m;simp only[zF,zG] at m;simp only[zA,zB,zC,zD,zE,lZ] at m;apply aH 4 [0] m;simp only[↓U];refine aD (iU O O (by omega) (uB (n:=65536) (by omega))) ?_;apply aH 8 [0] m;simp only[↓U];apply I0;omega;obtain⟨q,r⟩:=Ak x v y e;rw[show ((i:Int)+1)=((i+1:Nat):Int) by omega];exact C (M+1-(i+1)) _ _ (by omega) (by kernel_rfl) ⟨i+1,s / 65536,os++[s%65536],f,g,O,(m.sel [X3,Z]),by simp;omega,q,r,by omega,by omega,λh=>by rw[cg (l:=xs) (by omega),cg (l:=ys) (by omega)] at e;simp at e;omega,rfl⟩
 apply aT 24 [2,0,0,0,0,2,0,0,2] m;simp only[↓U,kO];apply I0;omega;refine aS O O ?_;try simp only[zD,zE]
 obtain⟨R,_⟩:=Tv (m.o 0 rfl) x.symm y (by omega);obtain rfl:=x;exact⟨_,O,m.ext,f,g,os,O,R,by rw[au (by omega),au (by omega)] at v;simpa using v,by omega⟩
def agp{B:Option Addr}(w:ak)(I:gC w w.heap.size A na ca xs)(H:gC w w.heap.size B nb cb ys)(T:ys.length<=xs.length)(S:val 65536 ys<=val 65536 xs)(af:xs.length<=1000000000000):cY prog 284 [.slice A na ca,.slice B nb cb] w (λv w'=>xE (val 65536 xs-val 65536 ys) v w'/\xU w v):=by
 refine⟨bJ func284 (by kernel_rfl),?_⟩;have m:=Mem.refl w;obtain rfl:=I.eq;obtain rfl:=H.eq
 go_enter func284,ntmps284
 apply fF 6 [0] m;simp only[↓U];refine aD aM ?_;replace m:=m.nilO 3 1;apply aH 11 [0] m;simp only[↓U];refine bT [5,6,7] [8,9,10,11,12,13,14,15,16,17,18,19,20,21,22,23,24,25,26,27,28,29,30,31,32,33,34,35,36,37,38] (λn vs K=>∃(i c:Nat) (os:List Nat) (d:Option Addr) (f:Nat),vs=[.slice d i f,X6 (c:Int),X6 (i:Int)]/\Mem w K [oI 3 1 d i f (os.map sK)]/\(os.length=i)/\(val 65536 os+val 65536 (ys.take i)=val 65536 (xs.take i)+65536^i*c)/\(eS 65536 os)/\(c<=1)/\(i<=xs.length)/\(n=xs.length-i)) ?_ ?_
 .exact⟨_,0,0,[],X5,0,O,m,O,by simp[val],mV _,by omega,by omega,O⟩
 intro n vs wr J u V E;obtain⟨i,c,os,d,f,rfl,m,x,y,t,hc,X,Y⟩:=J;simp only[zu,zF,zG];apply L 8 [0,0] m;simp only[↓U,kO];refine bC O ?_ ?_<;>intro aa
 .apply L 4 [] m;simp only[↓U];obtain⟨a,rfl,P,ad⟩:=I.get (show i<xs.length by omega);have ag:ys[i]?.getD 0<65536:=by
   rcases Nat.lt_or_ge i ys.length with h | h
   .rw[am h];exact H.lt h
   rw[cg h];decide
  apply aT 17 [0,2,0,0] m;simp only[↓U,Ou,kO,ah,ai,dt];refine⟨_,λu m=>(lies1 (m.ext.cell P) bK),by omega,?_⟩;refine bC O ?_ ?_<;>intro ab
  .obtain⟨W,rfl,Q,ae⟩:=H.get (show i<ys.length by omega);apply L 9 [0,2] m;simp only[↓U,Ou,ah,ai,dt];refine⟨_,λu m=>(lies1 (m.ext.cell Q) bK),by omega,?_⟩;obtain⟨e,D⟩:∃e:Int,e=(xs[i]:Int)-(c:Int)-(ys[i]:Int):=⟨_,rfl⟩
   rw[<-D];have R:e=(xs[i]:Int)-(c:Int)-((ys[i]?.getD 0:Nat):Int):=by rw[am (by omega)];exact D
   apply aT 10 [0,0] m;simp only[↓U];refine bC O ?_ ?_<;>intro N
   .obtain⟨s,hs⟩:∃s:Nat,(s:Int)=e+65536:=⟨(e+65536).toNat,by omega⟩
    have q:s+ys[i]?.getD 0+c=xs[i]+65536*1:=by omega
    have r:s<65536:=by omega
    apply L 4 [] m;simp only[↓U];apply I0;omega;rw[<-hs];apply aT 8 [0] m;simp only[↓U];refine gB eK (z:=X6 0) (by kernel_rfl) O O O ?_;intro u F g j k;replace m:=m.newB g j k;simp only[G];refine bN m 1 O O eK tQ O (by decide) O O O (m.b 0 O).rowsO (fN O) (by omega) (by omega) ?_;intro d f u m;simp only[zF,zG] at m;simp only[zA,zB,zC,zD,zE,lZ] at m;apply aH 8 [0] m;simp only[↓U];apply I0;omega;obtain⟨l,p⟩:=wO (by omega) x y t q r;rw[show ((i:Int)+1)=((i+1:Nat):Int) by omega];exact E (xs.length-(i+1)) _ _ (by omega) (by kernel_rfl) ⟨i+1,1,os++[s],d,f,O,(m.sel [X3,Z]),by simp;omega,l,p,by omega,by omega,rfl⟩
   obtain⟨s,hs⟩:∃s:Nat,(s:Int)=e:=⟨e.toNat,by omega⟩
   rw[<-hs];have q:s+ys[i]?.getD 0+c=xs[i]+65536*0:=by omega
   have r:s<65536:=by omega
   apply L 4 [0] m;simp only[↓U];refine gB eK (z:=X6 0) (by kernel_rfl) O O O ?_;intro u F g j k;replace m:=m.newB g j k;simp only[G];refine bN m 1 O O eK tQ O (by decide) O O O (m.b 0 O).rowsO (fN O) (by omega) (by omega) ?_;intro d f u m;simp only[zF,zG] at m;simp only[zA,zB,zC,zD,zE,lZ] at m;apply aH 8 [0] m;simp only[↓U];apply I0;omega;obtain⟨l,p⟩:=wO (by omega) x y t q r;rw[show ((i:Int)+1)=((i+1:Nat):Int) by omega];exact E (xs.length-(i+1)) _ _ (by omega) (by kernel_rfl) ⟨i+1,0,os++[s],d,f,O,(m.sel [X3,Z]),by simp;omega,l,p,by omega,by omega,rfl⟩
  obtain⟨e,D⟩:∃e:Int,e=(xs[i]:Int)-(c:Int):=⟨_,rfl⟩
  rw[<-D];have R:e=(xs[i]:Int)-(c:Int)-((ys[i]?.getD 0:Nat):Int):=by rw[cg (by omega)];simp only[mg];omega
  apply L 11 [0,0] m;simp only[↓U];refine bC O ?_ ?_<;>intro N
  .obtain⟨s,hs⟩:∃s:Nat,(s:Int)=e+65536:=⟨(e+65536).toNat,by omega⟩
   have q:s+ys[i]?.getD 0+c=xs[i]+65536*1:=by omega
   have r:s<65536:=by omega
   apply L 4 [] m;simp only[↓U];apply I0;omega;rw[<-hs];apply aT 8 [0] m;simp only[↓U];refine gB eK (z:=X6 0) (by kernel_rfl) O O O ?_;intro u F g j k;replace m:=m.newB g j k;simp only[G];refine bN m 1 O O eK tQ O (by decide) O O O (m.b 0 O).rowsO (fN O) (by omega) (by omega) ?_;intro d f u m;simp only[zF,zG] at m;simp only[zA,zB,zC,zD,zE,lZ] at m;apply aH 8 [0] m;simp only[↓U];apply I0;omega;obtain⟨l,p⟩:=wO (by omega) x y t q r;rw[show ((i:Int)+1)=((i+1:Nat):Int) by omega];exact E (xs.length-(i+1)) _ _ (by omega) (by kernel_rfl) ⟨i+1,1,os++[s],d,f,O,(m.sel [X3,Z]),by simp;omega,l,p,by omega,by omega,rfl⟩
  obtain⟨s,hs⟩:∃s:Nat,(s:Int)=e:=⟨e.toNat,by omega⟩
  rw[<-hs];have q:s+ys[i]?.getD 0+c=xs[i]+65536*0:=by omega
  have r:s<65536:=by omega
  apply L 4 [0] m;simp only[↓U];refine gB eK (z:=X6 0) (by kernel_rfl) O O O ?_;intro u F g j k;replace m:=m.newB g j k;simp only[G];refine bN m 1 O O eK tQ O (by decide) O O O (m.b 0 O).rowsO (fN O) (by omega) (by omega) ?_;intro d f u m;simp only[zF,zG] at m;simp only[zA,zB,zC,zD,zE,lZ] at m;apply aH 8 [0] m;simp only[↓U];apply I0;omega;obtain⟨l,p⟩:=wO (by omega) x y t q r;rw[show ((i:Int)+1)=((i+1:Nat):Int) by omega];exact E (xs.length-(i+1)) _ _ (by omega) (by kernel_rfl) ⟨i+1,0,os++[s],d,f,O,(m.sel [X3,Z]),by simp;omega,l,p,by omega,by omega,rfl⟩
 apply L 2 [] m;simp only[↓U];obtain rfl:i=xs.length:=by omega
 obtain⟨C,M⟩:=Tv (m.o 0 rfl) x.symm t (by omega);apply aT 2 [0] m;simp only[↓U];refine bF O O (aa1 _ C) ?_;rintro v u g rfl;replace m:=m.ext' g;replace C:=C.ext g;apply aH 3 [] m;simp only[↓U];exact aS rfl rfl ⟨_,rfl,m.ext,xE.of_trim C (ahn T x t y S),λa n c e=>by cases e;exact M _ O⟩
def aoA{B:Option Addr}(w:ak)(q:gC w w.heap.size A na ca xs)(p:gC w w.heap.size B nb cb ys)(Y:xs.length<=1000000000000)(Z:ys.length<=1000000000000):cY prog 295 [.slice A na ca,.slice B nb cb] w (λv w'=>xE (val 65536 xs*val 65536 ys) v w'/\xU w v):=by
 refine⟨bJ func295 (by kernel_rfl),?_⟩;have m:=Mem.refl w;obtain rfl:=q.eq;obtain rfl:=p.eq
 go_enter func295,ntmps295
 apply fF 11 [0] m;simp only[↓U,kO];apply I0;omega;refine tZ eK tQ O O O (show _=xs.length+ys.length by omega) (show _=xs.length+ys.length by omega) (by omega) (by omega) (by omega) (by omega) ?_;intro u o C D F;replace m:=m.newB C D F;apply aH 2 [] m;simp only[↓U];rw[Vy] at m;apply aT 6 [0] m;simp only[↓U];refine bT [6] [7,8,9,16,17,18,19,20,21,22,23,24,25,26,27,28,29,30,31,32,33,34,35,36,37,38,39,40,41,42,43,44,45,46,47,48,49,50,51,52,53,54,55,56,57,58,59,60,61] (λn vs l=>∃(i:Nat) (os:List Nat),vs=[X6 (i:Int)]/\Mem w l [bI o (os.map sK) 3]/\(i<=xs.length)/\(os.length=xs.length+ys.length)/\(val 65536 os=val 65536 (xs.take i)*val 65536 ys)/\(os.drop (i+ys.length)=di (xs.length-i) 0)/\(eS 65536 os)/\(n=xs.length-i)) ?_ ?_
 .exact⟨_,0,di (xs.length+ys.length) 0,O,m,by omega,by simp,by rw[mC,kx];simp only[val,Nat.zero_mul],by rw[List.drop_replicate];congr 1;omega,λx E=>by rw[jw E];decide,rfl⟩
 intro n vs wr h u P I;obtain⟨i,os,rfl,m,S,f,r,g,d,V⟩:=h;simp only[zu,zF,zG];apply L 8 [0,0] m;simp only[↓U,kO];refine bC O ?_ ?_<;>intro W
 .apply L 13 [0] m;simp only[↓U];refine bT [7,8] [9,22,23,24,25,26,27,28,29,30,31,32,33,34,35,36,37,38,39,40,41,42,43,44,45,46,47,48,49,50,51,52,53,54] (λn vs l=>∃(k c:Nat) (os:List Nat),vs=[X6 (c:Int),X6 (k:Int)]/\Mem w l [bI o (os.map sK) 3]/\(k<=ys.length)/\(os.length=xs.length+ys.length)/\(val 65536 os+65536^(i+k)*c=val 65536 (xs.take i)*val 65536 ys+65536^i*(xs[i]*val 65536 (ys.take k)))/\(os.drop (i+ys.length)=di (xs.length-i) 0)/\(eS 65536 os)/\(c<65536)/\(n=ys.length-k)) ?_ ?_
  .exact⟨_,0,0,os,O,m,by omega,f,by rw[kx,r];simp only[val,lq],g,d,by omega,rfl⟩
  intro n vs wr h u Q J;obtain⟨k,c,os,rfl,m,T,f,z,g,d,hc,ad⟩:=h;simp only[zu,zF,zG];apply L 8 [0,0] m;simp only[↓U,kO];refine bC O ?_ ?_<;>intro X
  .apply L 4 [] m;simp only[↓U];obtain⟨a,rfl,K,t⟩:=q.get (show i<xs.length by omega);obtain⟨R,rfl,M,y⟩:=p.get (show k<ys.length by omega);have ae:=d.get (am (show i+k<os.length by omega));obtain⟨aa,ab⟩:=ahp t y;refine gc (mq m aB (by kernel_rfl) ?_);refine cX 4 [] ?_;simp only[↓U];apply I0;omega;refine aK (aR eK aY O O (by omega) (by omega) (uZ (show _=i+k by omega))) (cX 14 [0,2,0,2,0,2] ?_);simp only[↓U,Ou,ah,ai,dt];refine⟨_,λu m=>(lies1 ((m.b 0 O).digit (show i+k<os.length by omega)) bK),_,λu m=>(lies1 (m.ext.cell K) bK),_,λu m=>(lies1 (m.ext.cell M) bK),by omega,?_⟩;refine aZ ?_;intro u m;obtain⟨s,hs⟩:∃s,s=os[i+k]+xs[i]*ys[k]+c:=⟨_,rfl⟩
   have N:(↑os[i+k]+↑xs[i]*↑ys[k]+↑c:Int)=(s:Int):=by rw[hs];simp
   rw[N];have af:s<4294967296:=by have:=ab6 t y;omega
   apply aT 7 [0] m;simp only[↓U];apply I0;omega;refine aD (cT O O (by omega) (qB (n:=65536))) ?_;simp only[G];refine aD (aR eK aY O O (by omega) (by omega) (uZ (show _=i+k by omega))) ?_;simp only[G];refine dD m 0 O O O aY (by simp;omega) ⟨rfl,rfl⟩ ?_;intro u m;simp only[G] at m ;rw[Jo (by omega)] at m;apply aH 3 [0] m;simp only[↓U];refine aD (iU O O (by omega) (uB (n:=65536) (by omega))) ?_;apply aH 8 [0] m;simp only[↓U];apply I0;omega;have j:=ab5 (by omega) (by omega) f z hs;rw[show ((k:Int)+1)=((k+1:Nat):Int) by omega];exact J (ys.length-(k+1)) _ _ (by omega) (by kernel_rfl) ⟨k+1,s / 65536,os.set (i+k) (s%65536),O,m,by omega,by simpa using f,j,by rw[Oa (by omega)];exact g,d.set (by omega),by omega,O⟩
  apply L 1 [] m;simp only[↓U];obtain rfl:k=ys.length:=by omega
  apply aT 7 [0] m;simp only[↓U,kO];apply I0;omega;refine aD (aR eK aY O O (by omega) (by omega) (uZ (show _=i+ys.length by omega))) ?_;simp only[G];refine dD m 0 O O O aY (by simp;omega) ⟨rfl,rfl⟩ ?_;intro u m;simp only[G] at m ;rw[Jo (by omega)] at m;apply aH 7 [0] m;simp only[↓U];apply I0;omega;obtain⟨j,H⟩:=aho (by omega) f z g;rw[show ((i:Int)+1)=((i+1:Nat):Int) by omega];exact I (xs.length-(i+1)) _ _ (by omega) (by kernel_rfl) ⟨i+1,os.set (i+ys.length) c,O,m,by omega,by simpa using f,j,H,d.set (by omega),O⟩
 apply L 2 [] m;simp only[↓U];obtain rfl:i=xs.length:=by omega
 apply aT 2 [0] m;simp only[↓U];rw[<-f];refine cK m O O (aa1 _ (gC.of_blk (m.b 0 O) d O (by omega))) ?_;rintro v u m rfl;apply aH 3 [] m;simp only[↓U];exact aS rfl rfl ⟨_,rfl,m.ext,xE.of_trim (gC.of_blk (m.b 0 rfl) d rfl (by omega)) (by rw[r,fq]),λa n c e=>by cases e;exact (m.gb 0 O)⟩
end
section
set_option maxRecDepth 100000
attribute [local irreducible] az cw fW Code.wp
end
section
set_option maxRecDepth 100000
attribute [local irreducible] az cw fW bX cP Code.wp
attribute [local congr] dK dL cR dJ
variable{a:Int}
def Kk{os:List UInt8}{x:Nat}(a:x<256):os.map u8v++[.int .u8 (x:Int)]=(os++[fa x]).map u8v:=by
 have:u8v (fa x)=.int .u8 (x:Int):=by simp only[u8v,jy,Value.int.injEq,X2];rw[Nat.mod_eq_of_lt (by omega)]
 rw[de,List.map_singleton,this]
def yK{neg:Bool}{s:ByteArray}(w:ak)(hs:s.size<=1000000000000):cY prog 280 [.agg #[.bool neg,.string s]] w (xE (anp s)):=by
 refine⟨bJ func280 (by kernel_rfl),?_⟩;have m:=Mem.refl w;have R:=wZ s;have B:=Oc s
 go_enter func280,ntmps280
 apply gH 7 [0] m;simp only[↓U];intro D u m;refine aD aM ?_;replace m:=m.nilO 3 1;apply aH 5 [2,0] m;simp only[↓U,Ax,aeO,aa];refine aD (uY O pN O) ?_;apply aH 9 [0] m;simp only[↓U];refine bT [3,5] [6,11,12,13,14,15,16,17,18,19,20,21,22,23,24,25,26,27,28,29,30,31,32,33,34,35] (λn vs H=>∃(k:Nat) (os:List Nat) (a:Option Addr) (c:Nat),vs=[.slice a k c,X6 ((s.size:Int)-2*(k:Int))]/\Mem w H [oI 3 1 a k c (os.map sK),bI D [.bool neg,.string s] 95]/\(os.length=k)/\(val 65536 os=val 256 ((oW s).take (2*k)))/\(eS 65536 os)/\(2*k<=s.size+1)/\(n=s.size-2*k)) ?_ ?_
 .rw[show ((s.size:Int))=(s.size:Int)-2*((0:Nat):Int) by omega];exact⟨_,0,[],X5,0,O,m,O,by simp[val],mV _,by omega,O⟩
 intro n vs wr F u N A;obtain⟨k,os,a,c,rfl,m,y,l,j,P,Q⟩:=F;simp only[zu,zF,zG];apply L 6 [0,0] m;simp only[↓U];refine bC O ?_ ?_<;>intro S
 .apply L 4 [] m;simp only[↓U];obtain⟨f,I,V,C⟩:=Hb (show 2*k+1+(s.size-2*k-1)=s.size by omega);have W:f.toNat<256:=f.toNat_lt;apply aT 5 [2,0] m;simp only[↓U,Ax,aeO,aa];apply I0;omega;refine aD ((oV pN O O (by omega) (by rw[show ((s.size:Int)-2*(k:Int)-1).toNat=s.size-2*k-1 by omega];exact I))) ?_;apply aH 9 [0,0] m;simp only[↓U,xJ,Kf];apply I0;omega;refine bC O ?_ ?_<;>intro T
  .obtain⟨h,J,K,M⟩:=Hb (show 2*k+1+1+(s.size-2*k-2)=s.size by omega);have X:h.toNat<256:=h.toNat_lt;apply L 6 [2,0] m;simp only[↓U,Ax,aeO,aa];apply I0;omega;refine aD ((oV pN O O (by omega) (by rw[show ((s.size:Int)-2*(k:Int)-2).toNat=s.size-2*k-2 by omega];exact J))) ?_;apply aH 5 [] m;simp only[↓U,xJ,Kf];apply I0;omega;obtain⟨d,t⟩:∃d:Nat,d=f.toNat+256*h.toNat:=⟨_,rfl⟩
   rw[show ((f.toNat:Int)+256*(h.toNat:Int))=(d:Int) by omega];have x:d=(oW s)[2*k]+256*((oW s)[2*k+1]?.getD 0):=by rw[am K,C];simp only[dx];rw[M];exact t
   apply aT 3 [0] m;simp only[↓U];refine gB eK (z:=X6 0) (by kernel_rfl) O O O ?_;intro u E e i p;replace m:=m.newB e i p;simp only[G];refine bN m 1 O O eK tQ O (by decide) O O O (m.b 0 O).rowsO (fN O) (by omega) (by omega) ?_;intro a c u m;simp only[zF,zG] at m;simp only[zA,zB,zC,zD,zE,lZ] at m;apply aH 8 [0] m;simp only[↓U];apply I0;omega;obtain⟨q,r⟩:=Jq y l (by omega) x B j;rw[show ((s.size:Int)-2*(k:Int)-2)=(s.size:Int)-2*((k+1:Nat):Int) by omega];exact A (s.size-2*(k+1)) _ _ (by omega) (by kernel_rfl) ⟨k+1,os++[d],a,c,O,(m.sel [X3,Z,Z]),by simp;omega,q,r,by omega,rfl⟩
  obtain⟨d,t⟩:∃d:Nat,d=f.toNat:=⟨_,rfl⟩
  rw[<-t];have x:d=(oW s)[2*k]+256*((oW s)[2*k+1]?.getD 0):=by rw[cg (by omega),C];simp only[mg];omega
  apply L 4 [0] m;simp only[↓U];refine gB eK (z:=X6 0) (by kernel_rfl) O O O ?_;intro u E e i p;replace m:=m.newB e i p;simp only[G];refine bN m 1 O O eK tQ O (by decide) O O O (m.b 0 O).rowsO (fN O) (by omega) (by omega) ?_;intro a c u m;simp only[zF,zG] at m;simp only[zA,zB,zC,zD,zE,lZ] at m;apply aH 8 [0] m;simp only[↓U];apply I0;omega;obtain⟨q,r⟩:=Jq y l (by omega) x B j;rw[show ((s.size:Int)-2*(k:Int)-2)=(s.size:Int)-2*((k+1:Nat):Int) by omega];exact A (s.size-2*(k+1)) _ _ (by omega) (by kernel_rfl) ⟨k+1,os++[d],a,c,O,(m.sel [X3,Z,Z]),by simp;omega,q,r,by omega,rfl⟩
 apply L 2 [] m;simp only[↓U];obtain⟨g,_⟩:=Tv (m.o 0 rfl) y.symm j (by omega);apply aT 2 [0] m;simp only[↓U];refine bF O O (aa1 _ g) ?_;rintro v u e rfl;replace m:=m.ext' e;replace g:=g.ext e;apply aH 3 [] m;simp only[↓U];exact aS O O ⟨_,O,m.ext,xE.of_trim g (by rw[l,au (by omega)];rfl)⟩
def Ba{A:Option Addr}{xs:List Nat}{b E cap:Nat}{neg:Bool}(w:ak)(q:gC w b A E cap xs)(hl:xs.length<=100000000000):cY prog 281 [.bool neg,.slice A E cap] w (λv _=>v=W (Vs neg (val 65536 xs))):=by
 refine⟨bJ func281 (by kernel_rfl),?_⟩;have m:=Mem.refl w;obtain rfl:=q.eq;have S:=vA xs;have l:gC w w.heap.size A (trim xs).length cap (trim xs):=by
  have h:=(q.take (trim xs).length).here;rwa [<-kJ] at h
 have x:=Iu xs;have y:=Is 65536 xs;obtain⟨ys,C⟩:∃ys,ys=trim xs:=⟨_,rfl⟩
 rw[<-C] at l x S y;have V:=l.digs;have r:=ahq ys
 go_enter func281,ntmps281
 apply gH 7 [0] m;simp only[↓U,jS];intro H u m;refine cK m O O (aa1 _ (q.ext m.ext)) ?_;rintro v u m rfl;simp only[G];rw[<-C];clear C;apply aH 4 [] m;simp only[↓U];by_cases B:ys=[]
 .subst B;apply aT 3 [0] m;simp only[↓U,kO];refine aD (zW O O (by rfl)) ?_;apply lK 8 [0] m;simp only[↓U,ap7,dG,aa];intro u m;refine aS O ⟨_,O,((m.b 0 O).full bU aO)⟩ ?_;try simp only[zD,zE]
  exact⟨_,O,m.ext,by rw[<-y];cases neg <;> rfl⟩
 have Y:0<ys.length:=List.length_pos_iff.2 B;have ab:=abN x Y;apply aT 9 [2,0] m;simp only[↓U,kO];apply I0;omega;refine aD aM ?_;replace m:=m.nilO 5 1;apply aH 10 [0] m;simp only[↓U,kO];apply I0;omega;refine bT [5,6] [16,17,18,19,20,21,22,23,24,25,26,27,28,29,30,31,32,33,34,35,36,37,38,39,40,41,42,43,44,45,46,47,48,49] (λn vs Q=>∃(k j:Nat) (os:List UInt8) (c:Option Addr) (e:Nat),vs=[.slice c j e,X6 ((k:Int)-1)]/\Mem w Q [oI 5 1 c j e (os.map u8v),bI H [.bool X3,.string ⟨#[]⟩] 95]/\(os.length=j)/\(os=oL ys k)/\(k<=ys.length)/\(k<ys.length->oL ys k≠[])/\(os.length<=2*ys.length)/\(n=k)) ?_ ?_
 .exact⟨_,ys.length,0,[],X5,0,O,m,O,(Xr ys).symm,by omega,λh=>Z8 h (by omega),by simp,O⟩
 intro n vs wr K u K1 s;obtain⟨k,j,os,c,e,rfl,m,af,t,hk,T,ag,hn⟩:=K;simp only[zu,zF,zG];apply L 6 [0,0] m;simp only[↓U];refine bC O ?_ ?_<;>intro ad
 .apply L 5 [] m;simp only[↓U];obtain⟨a,rfl,d,R⟩:=l.get (show k-1<ys.length by omega);rcases (show k<ys.length\/k=ys.length by omega) with hkl | hkl
  .obtain⟨N,P⟩:=aee (show 0<k by omega) (by omega) (T hkl);apply aT 15 [1,0,0,0,0,0] m;simp only[↓U,kO];apply I0;omega;have d:=l.at (show k-1<ys.length by omega);apply aT 4 [0] m;simp only[↓U];refine aD (aR eK aY O O (by omega) (by omega) (tL (show _=k-1 by omega))) ?_;apply aH 1 [0,2,0] m;simp only[↓U];refine⟨_,λu m=>(lies1 (m.ext.cell d) bK),?_⟩;refine aD (iU O O (by omega) (uB (n:=256) (by omega))) (aD (iK Wc iT O (Dk (by omega))) ?_);simp only[G];refine gB pA (z:=.int .u8 0) (by kernel_rfl) O O O ?_;intro u D f g i;replace m:=m.newB f g i;simp only[G];refine bN m 1 O O pA Yf O (by decide) O O O (m.b 0 O).rowsO (fN O) (by omega) (by omega) ?_;intro c e u m;simp only[zF,zG] at m;simp only[G] at m;rw[Kk (by omega)] at m;apply aH 2 [] m;simp only[↓U];have d:=l.at (show k-1<ys.length by omega);apply aT 4 [0] m;simp only[↓U];refine aD (aR eK aY O O (by omega) (by omega) (tL (show _=k-1 by omega))) ?_;apply aH 1 [0,2,0] m;simp only[↓U];refine⟨_,λu m=>(lies1 (m.ext.cell d) bK),?_⟩;refine aD (cT O O (by omega) (qB (n:=256))) (aD (iK Wc iT O (Dk (by omega))) ?_);simp only[G];refine gB pA (z:=.int .u8 0) (by kernel_rfl) O O O ?_;intro u I f g i;replace m:=m.newB f g i;simp only[G];refine bN m 2 O O pA Yf O (by decide) O O O (m.b 0 O).rowsO (fN O) (by first | omega | (simp;omega)) (by first | omega | (simp;omega)) ?_;intro c e u m;simp only[zF,zG] at m;simp only[G] at m;rw[Kk (by omega)] at m;apply aH 8 [0] m;simp only[↓U];apply I0;omega;have p:os++[fa (ys[k-1] / 256)]++[fa (ys[k-1]%256)]=oL ys (k-1):=by rw[N,t]
   rw[show ((k:Int)-1-1)=((k-1:Nat):Int)-1 by omega];exact s (k-1) _ _ (by omega) (by kernel_rfl) ⟨k-1,j+1+1,os++[fa (ys[k-1] / 256)]++[fa (ys[k-1]%256)],c,e,O,(m.sel [X3,X3,Z,Z]),by simp only[aq,ic];omega,p,by omega,λ_=>P,by rw[p];exact r _,O⟩
  subst hkl;obtain⟨f1,f2⟩:=ab9 (by omega) ab R;have F:os=[]:=by rw[t];exact Xr ys
  apply aT 9 [2,0,0,0] m;simp only[↓U,kO];apply I0;omega;refine eP O (aD (aR eK aY O O (by omega) (by omega) (tL (show _=ys.length-1 by omega))) ?_);apply aH 4 [0,0,2,0,0,0] m;simp only[↓U];refine⟨_,λu m=>(lies1 (m.ext.cell d) bK),?_⟩;refine bC O ?_ ?_<;>intro ae
  .have d:=l.at (show ys.length-1<ys.length by omega);apply L 4 [0] m;simp only[↓U];refine aD (aR eK aY O O (by omega) (by omega) (tL (show _=ys.length-1 by omega))) ?_;apply aH 1 [0,2,0] m;simp only[↓U];refine⟨_,λu m=>(lies1 (m.ext.cell d) bK),?_⟩;refine aD (iU O O (by omega) (uB (n:=256) (by omega))) (aD (iK Wc iT O (Dk (by omega))) ?_);simp only[G];refine gB pA (z:=.int .u8 0) (by kernel_rfl) O O O ?_;intro u D f g i;replace m:=m.newB f g i;simp only[G];refine bN m 1 O O pA Yf O (by decide) O O O (m.b 0 O).rowsO (fN O) (by omega) (by omega) ?_;intro c e u m;simp only[zF,zG] at m;simp only[G] at m;rw[Kk (by omega)] at m;apply aH 2 [] m;simp only[↓U];have d:=l.at (show ys.length-1<ys.length by omega);apply aT 4 [0] m;simp only[↓U];refine aD (aR eK aY O O (by omega) (by omega) (tL (show _=ys.length-1 by omega))) ?_;apply aH 1 [0,2,0] m;simp only[↓U];refine⟨_,λu m=>(lies1 (m.ext.cell d) bK),?_⟩;refine aD (cT O O (by omega) (qB (n:=256))) (aD (iK Wc iT O (Dk (by omega))) ?_);simp only[G];refine gB pA (z:=.int .u8 0) (by kernel_rfl) O O O ?_;intro u I f g i;replace m:=m.newB f g i;simp only[G];refine bN m 2 O O pA Yf O (by decide) O O O (m.b 0 O).rowsO (fN O) (by first | omega | (simp;omega)) (by first | omega | (simp;omega)) ?_;intro c e u m;simp only[zF,zG] at m;simp only[G] at m;rw[Kk (by omega)] at m;apply aH 8 [0] m;simp only[↓U];apply I0;omega;have p:os++[fa (ys[ys.length-1] / 256)]++[fa (ys[ys.length-1]%256)]=oL ys (ys.length-1):=by rw[f1,J (by omega),F];rfl
   rw[show ((ys.length:Int)-1-1)=((ys.length-1:Nat):Int)-1 by omega];exact s (ys.length-1) _ _ (by omega) (by kernel_rfl) ⟨ys.length-1,j+1+1,os++[fa (ys[ys.length-1] / 256)]++[fa (ys[ys.length-1]%256)],c,e,O,(m.sel [X3,X3,Z,Z]),by simp only[aq,ic];omega,p,by omega,λ_=>f2,by rw[p];exact r _,O⟩
  apply L 1 [] m;simp only[↓U];have d:=l.at (show ys.length-1<ys.length by omega);apply aT 4 [0] m;simp only[↓U];refine aD (aR eK aY O O (by omega) (by omega) (tL (show _=ys.length-1 by omega))) ?_;apply aH 1 [0,2,0] m;simp only[↓U];refine⟨_,λu m=>(lies1 (m.ext.cell d) bK),?_⟩;refine aD (cT O O (by omega) (qB (n:=256))) (aD (iK Wc iT O (Dk (by omega))) ?_);simp only[G];refine gB pA (z:=.int .u8 0) (by kernel_rfl) O O O ?_;intro u D f g i;replace m:=m.newB f g i;simp only[G];refine bN m 1 O O pA Yf O (by decide) O O O (m.b 0 O).rowsO (fN O) (by first | omega | (simp;omega)) (by first | omega | (simp;omega)) ?_;intro c e u m;simp only[zF,zG] at m;simp only[G] at m;rw[Kk (by omega)] at m;apply aH 8 [0] m;simp only[↓U];apply I0;omega;have p:os++[fa (ys[ys.length-1]%256)]=oL ys (ys.length-1):=by rw[f1,X (by omega),F]
  rw[show ((ys.length:Int)-1-1)=((ys.length-1:Nat):Int)-1 by omega];exact s (ys.length-1) _ _ (by omega) (by kernel_rfl) ⟨ys.length-1,j+1,os++[fa (ys[ys.length-1]%256)],c,e,O,(m.sel [X3,Z,Z]),by simp only[aq,ic];omega,p,by omega,λ_=>f2,by rw[p];exact r _,O⟩
 apply L 5 [0] m;simp only[↓U];refine fI (Rf pA Wc pN O (m.o 0 O).own) ?_;apply lK 4 [1] m;simp only[↓U,ap7,dG,aa];intro u m;refine aS O ⟨_,O,((m.b 1 O).full bU aO)⟩ ?_;try simp only[zD,zE]
 exact⟨_,rfl,m.ext,by (obtain rfl:k=0:=by omega);(have M:val 65536 ys≠0:=lp (Iv (by omega) x B));rw[t,aef V neg,<-y];simp[Lith.W,aaj,M]⟩
def ahV{k:Nat}{b:Int}(c:Bd k a)(d:Bd k b):(digs 65536 (a*b).natAbs).length<=k+k:=yA (Bd.mul c d)
def Yy  : (((digs 65536 a.natAbs).length:Int)=0)↔a=0:=by
 constructor
 .intro h;have b:digs 65536 a.natAbs=[]:=ft (by omega);have:=(wI (by omega)).1 b;omega
 rintro rfl;rfl
def Fs(h:Bd 1000000 a):dF prog 211 [W a] (X6 (bA a)):=by
 intro w;refine⟨bJ func211 (by kernel_rfl),?_⟩;have m:=Mem.refl w
 go_enter func211,ntmps211
 apply gH 9 [1,0] m;simp only[↓U,dG];intro k u m;refine bF O O (yK _ (kG h)) ?_;rintro v u g ⟨j,c1,rfl,i⟩;replace m:=m.ext' g;simp only[G];rw[kE] at i ⊢;apply aH 3 [0,0] m;simp only[↓U,kO];refine bC O ?_ ?_<;>intro d
 .have b:=Yy.1 d;apply L 5 [] m;simp only[↓U];refine aS O O ?_;try simp only[zD,zE]
  exact⟨_,O,m.ext,by rw[b];rfl⟩
 apply L 7 [1,0] m;simp only[↓U,mQ,Kg,aa];refine gF O ?_ ?_<;>intro f
 .have c:=Lv f;apply L 5 [] m;simp only[↓U];refine aS O O ?_;try simp only[zD,zE]
  exact⟨_,O,m.ext,by rw[Eu c]⟩
 have c:=Hf f;have b:¬a=0:=λe=>d (Yy.2 e);apply L 6 [] m;simp only[↓U];refine aS O O ?_;try simp only[zD,zE]
 exact⟨_,O,m.ext,by rw[Ev (by omega)]⟩
def asx(d:Bd 1000000 a):dF prog 325 [W a] (W (-a)):=by
 intro w;refine⟨bJ func325 (by kernel_rfl),?_⟩;have m:=Mem.refl w;have f:(digs 65536 a.natAbs).length<=1000000:=yA d
 go_enter func325,ntmps325
 apply gH 6 [0] m;simp only[↓U,jS];intro j k u m;refine mh m [X3,Z] [(0,Z),(1,Z),(2,Z),(3,Z),(4,X3),(5,X3),(6,X3)] aB (by kernel_rfl) (bS (λ_ _ _ _ _ h=>h)) (ol:=?_) ?g ?_
 case g=>simp only[zw,zQ,zR];try rfl
 intro u m;refine Fq 4 [1,1] ?_;simp only[↓U,mQ,Kg,dG,aa];refine bO (bF O O (yK _ (kG d)) ?_);rintro v u c ⟨i,c1,rfl,e⟩;replace m:=m.ext' c;simp only[G];rw[kE] at e ⊢;refine aI ⟨m.sel [X3,Z],?_⟩;refine bO (bF O O (Ba _ e (be f (by decide))) ?_);rintro v u c rfl;replace m:=m.ext' c;simp only[G];simp only[iZ];refine aI ⟨m.sel [X3,Z],?_⟩;refine bO (bP m 0 O O O aO (gS O) O ?_);intro u m;simp only[zy,zx,over,zF,zG,aa] at m;refine aI ⟨m.sel [X3,Z],?_⟩;refine bR ?_;rw[afI] at m;apply aT 1 [] m;simp only[↓U];exact aS O ⟨_,O,((m.b 0 O).full bU aO)⟩ ⟨_,O,m.ext,O⟩
def aa2{b:Int}(p:Bd 1000000 a)(q:Bd 1000000 b):dF prog 200 [W a,W b] (W (a+b)):=by
 intro w;refine⟨bJ func200 (by kernel_rfl),?_⟩;have m:=Mem.refl w;have k:(digs 65536 a.natAbs).length<=1000000:=yA p;have l:(digs 65536 b.natAbs).length<=1000000:=yA q
 go_enter func200,ntmps200
 apply gH 9 [3,0] m;simp only[↓U,jS,dG];intro A B C u m;refine bF O O (yK _ (kG p)) ?_;rintro v u c ⟨y,c1,rfl,d⟩;replace m:=m.ext' c;simp only[G];rw[kE] at d ⊢;apply aH 5 [2,0] m;simp only[↓U,dG];refine bF O O (yK _ (kG q)) ?_;rintro v u c ⟨z,c2,rfl,e⟩;replace m:=m.ext' c;replace d:=d.ext c;simp only[G];rw[kE] at e ⊢;apply aH 9 [3,2,0] m;simp only[↓U,mQ,Kg,aa];refine aD (aiX Wb O O) ?_;apply aH 1 [0] m;simp only[↓U];refine bC O ?_ ?_<;>intro j
 .apply L 1 [0] m;simp only[↓U];refine mhe m [X3,Z,Z] [(0,Z),(2,Z),(3,Z),(1,Z),(4,X3),(5,X3),(6,X3)] aB (by kernel_rfl) (bS (λ_ _ _ _ _ h=>h)) (ol:=?_) ?g ?_
  case g=>simp only[zw,zQ,zR];try rfl
  intro u c m;replace d:=d.ext c;replace e:=e.ext c;refine Fq 4 [2] ?_;simp only[↓U,mQ,Kg,aa];refine bO (bF O O (asw _ d.here e.here (be k (by decide)) (be l (by decide))) ?_);rintro v u c ⟨n,o,os,rfl,f,x,i⟩;replace m:=m.ext' c;simp only[G];simp only[iZ] at x;refine aI ⟨m.sel [X3,Z,Z],?_⟩;refine bO (bF O O (Ba _ f (by omega)) ?_);rintro v u c rfl;replace m:=m.ext' c;simp only[G];rw[x];refine aI ⟨m.sel [X3,Z,Z],?_⟩;refine bO (bP m 0 O O O aO (gS O) O ?_);intro u m;simp only[zy,zx,over,zF,zG,aa] at m;refine aI ⟨m.sel [X3,Z,Z],?_⟩;refine bR ?_;rw[afJ j] at m;apply aT 1 [] m;simp only[↓U];exact aS O ⟨_,O,((m.b 0 O).full bU aO)⟩ ⟨_,O,m.ext,O⟩
 apply L 6 [0] m;simp only[↓U];refine bF O O (ahU _ d e (Dj _) (Dj _)) ?_;rintro v u c rfl;replace m:=m.ext' c;replace d:=d.ext c;replace e:=e.ext c;simp only[G];simp only[iZ];apply aH 2 [0,0] m;simp only[↓U];refine bC O ?_ ?_<;>intro r
 .have s:=Rj.1 r;apply L 1 [0] m;simp only[↓U];refine mhe m [X3,Z,Z] [(0,Z),(2,Z),(3,Z),(1,Z),(4,X3),(5,X3),(6,X3)] aB (by kernel_rfl) (bS (λ_ _ _ _ _ h=>h)) (ol:=?_) ?g ?_
  case g=>simp only[zw,zQ,zR];try rfl
  intro u c m;replace d:=d.ext c;replace e:=e.ext c;refine Fq 4 [2] ?_;simp only[↓U,mQ,Kg,aa];refine bO (bF O O (agp _ d.here e.here (Jp s) (by simp only[iZ];omega) (be k (by decide))) ?_);rintro v u c ⟨⟨n,o,rfl,f⟩,_⟩;replace m:=m.ext' c;simp only[G];simp only[iZ] at f ⊢;have i:=Jp (rf a.natAbs b.natAbs);refine aI ⟨m.sel [X3,Z,Z],?_⟩;refine bO (bF O O (Ba _ f (be i (be k (by decide)))) ?_);rintro v u c rfl;replace m:=m.ext' c;simp only[G];simp only[iZ];refine aI ⟨m.sel [X3,Z,Z],?_⟩;refine bO (bP m 0 O O O aO (gS O) O ?_);intro u m;simp only[zy,zx,over,zF,zG,aa] at m;refine aI ⟨m.sel [X3,Z,Z],?_⟩;refine bR ?_;rw[ai1 j s] at m;apply aT 1 [] m;simp only[↓U];exact aS O ⟨_,O,((m.b 0 O).full bU aO)⟩ ⟨_,O,m.ext,O⟩
 have t:a.natAbs<b.natAbs:=Nat.lt_of_not_le λh=>r (Rj.2 h);apply L 2 [0] m;simp only[↓U];refine mhe m [X3,Z,Z] [(0,Z),(2,Z),(3,Z),(1,Z),(4,X3),(5,X3),(6,X3)] aB (by kernel_rfl) (bS (λ_ _ _ _ _ h=>h)) (ol:=?_) ?g ?_
 case g=>simp only[zw,zQ,zR];try rfl
 intro u c m;replace d:=d.ext c;replace e:=e.ext c;refine Fq 4 [1] ?_;simp only[↓U,mQ,Kg,aa];refine bO (bF O O (agp _ e.here d.here (Jp (Nat.le_of_lt t)) (by simp only[iZ];omega) (be l (by decide))) ?_);rintro v u c ⟨⟨n,o,rfl,f⟩,_⟩;replace m:=m.ext' c;simp only[G];simp only[iZ] at f ⊢;have i:=Jp (rf b.natAbs a.natAbs);refine aI ⟨m.sel [X3,Z,Z],?_⟩;refine bO (bF O O (Ba _ f (be i (be l (by decide)))) ?_);rintro v u c rfl;replace m:=m.ext' c;simp only[G];simp only[iZ];refine aI ⟨m.sel [X3,Z,Z],?_⟩;refine bO (bP m 0 O O O aO (gS O) O ?_);intro u m;simp only[zy,zx,over,zF,zG,aa] at m;refine aI ⟨m.sel [X3,Z,Z],?_⟩;refine bR ?_;rw[ai0 j t] at m;apply aT 1 [] m;simp only[↓U];exact aS O ⟨_,O,((m.b 0 O).full bU aO)⟩ ⟨_,O,m.ext,O⟩
def Nc{b:Int}(d:Bd 1000000 a)(c:Bd 1000000 b):dF prog 279 [W a,W b] (W (a-b)):=by
 intro w;refine⟨bJ func279 (by kernel_rfl),?_⟩;have m:=Mem.refl w
 go_enter func279,ntmps279
 apply gH 7 [0] m;simp only[↓U,jS];intro e f g u m;refine cI m 4 aB (by kernel_rfl) ?_;simp only[zy];refine ql O (λu m=>((m.b 2 O).full bU aO)) ?_;simp only[G];refine ql O (λu m=>((m.b 1 O).full bU aO)) ?_;simp only[G];refine eH O O (asx c) ?_;simp only[G];refine eH O O (aa2 d c.neg) (aZ ?_);intro u m;simp only[G];refine bP m 0 O O O aO (gS O) O ?_;intro u m;simp only[zy,zx,over,zF,zG,aa] at m;refine aI ?_;rw[<-qh] at m;apply aT 1 [] m;simp only[↓U];exact aS O ⟨_,O,((m.b 0 O).full bU aO)⟩ ⟨_,O,m.ext,O⟩
def Nd{b:Int}(e:Bd 1000000 a)(f:Bd 1000000 b):dF prog 231 [W a,W b] (W (a*b)):=by
 intro w;refine⟨bJ func231 (by kernel_rfl),?_⟩;have m:=Mem.refl w;have j:(digs 65536 a.natAbs).length<=1000000:=yA e;have k:(digs 65536 b.natAbs).length<=1000000:=yA f;have l:=ahV e f
 go_enter func231,ntmps231
 apply gH 7 [0] m;simp only[↓U,jS];intro s t x u m;refine mh m [X3,Z,Z] [(0,Z),(2,Z),(1,Z),(3,Z),(4,Z),(5,Z),(7,Z),(6,X3),(8,X3),(9,X3),(10,X3),(11,X3)] aB (by kernel_rfl) (bS (λ_ _ _ _ _ h=>h)) (ol:=?_) ?n ?_
 case n=>simp only[zw,zQ,zR];try rfl
 intro u m;refine Fq 4 [2,1] ?_;simp only[↓U,mQ,Kg,aa];refine bG (Re Wb O O) ?_;simp only[G];refine gW O (λu m=>((m.b 1 O).full bU aO)) ?_;simp only[G];refine gW O (λu m=>((m.b 0 O).full bU aO)) ?_;simp only[G];refine bO (bF O O (yK _ (kG e)) ?_);rintro v u c ⟨o,c1,rfl,d⟩;replace m:=m.ext' c;simp only[G];rw[kE] at d ⊢;refine aI ⟨m.sel [X3,Z,Z],?_⟩;refine bO (bF O O (yK _ (kG f)) ?_);rintro v u c ⟨p,c2,rfl,i⟩;replace m:=m.ext' c;replace d:=d.ext c;simp only[G];rw[kE] at i ⊢;refine aI ⟨m.sel [X3,Z,Z],?_⟩;refine bO (bF O O (aoA _ d.here i.here (be j (by decide)) (be k (by decide))) ?_);rintro v u c ⟨⟨q,r,rfl,g⟩,_⟩;replace m:=m.ext' c;simp only[G];simp only[iZ] at g ⊢;rw[<-kd] at g ⊢;refine aI ⟨m.sel [X3,Z,Z],?_⟩;refine bO (bF O O (Ba _ g (be l (by decide))) ?_);rintro v u c rfl;replace m:=m.ext' c;simp only[G];simp only[iZ];refine aI ⟨m.sel [X3,Z,Z],?_⟩;refine bO (bP m 0 O O O aO (gS O) O ?_);intro u m;simp only[zy,zx,over,zF,zG,aa] at m;refine aI ⟨m.sel [X3,Z,Z],?_⟩;refine bR ?_;rw[kd,afK] at m;apply aT 1 [] m;simp only[↓U];exact aS O ⟨_,O,((m.b 0 O).full bU aO)⟩ ⟨_,O,m.ext,O⟩
def asy{b:Int}(c:Bd 900000 a)(d:Bd 900000 b):dF prog 199 [W a,W b] (X6 (bA (a-b))):=by
 intro w;refine⟨bJ func199 (by kernel_rfl),?_⟩;have m:=Mem.refl w
 go_enter func199,ntmps199
 apply gH 10 [2,1,0] m;simp only[↓U,dG];intro e f u m;refine jG m O O (Nc (c.mono (by decide)) (d.mono (by decide))) ?_;intro u m;simp only[G];refine lD m O O (Fs ((Bd.sub c d).mono (by decide))) 3 [] ?_;simp only[↓U];intro u m;exact aS O O ⟨_,O,m.ext,O⟩
def Bb{n:Int}(h:rS n):dF prog 232 [X6 n] (W n):=by
 intro w;refine⟨bJ func232 (by kernel_rfl),?_⟩;have m:=Mem.refl w;have t:=h.natAbs;obtain⟨N,g⟩:∃N,N=n.natAbs:=⟨_,rfl⟩
 go_enter func232,ntmps232
 apply gH 6 [0] m;simp only[↓U,jS];intro B u m;refine aD aM ?_;replace m:=m.nilO 3 1;apply aH 2 [] m;simp only[↓U];rcases (show n<0\/0<=n by omega) with h0 | h0
 .have x:Z=dH n:=(Y0 h0).symm;apply aT 2 [0] m;simp only[↓U];refine aD (iK lC iT O (afM h h0)) ?_;apply aH 11 [1,0] m;simp only[↓U];apply I0;omega;refine aD (uX O (Xb t (by omega))) ?_;apply aH 4 [0] m;simp only[↓U];refine bT [3,4] [11,12,13,14,15,16,17,18,19,20] (λn vs s=>∃(z j:Nat) (os:List Nat) (a:Option Addr) (c:Nat),vs=[.slice a j c,.int .u64 (z:Int)]/\Mem w s [oI 3 1 a j c (os.map sK),bI B [.bool X3,.string ⟨#[]⟩] 95]/\(j=os.length)/\(val 65536 os+65536^os.length*z=N)/\(eS 65536 os)/\(z<=9223372036854775808)/\(z<2^(64-os.length))/\(os.length<=64)/\(n=z)) ?_ ?_
  .exact⟨_,n.natAbs,0,[],X5,0,O,m,O,by simp[val,g],mV _,t,by simp;omega,by simp,rfl⟩
  intro n vs wr k u J F;obtain⟨z,j,os,a,c,rfl,m,p,e,f,D,y,A,E⟩:=k;simp only[zu,zF,zG];apply L 6 [0,0] m;simp only[↓U];refine bC O ?_ ?_<;>intro I
  .apply L 6 [0] m;simp only[↓U];refine aD (cT O O (by omega) (qB (n:=65536))) (aD (iK iT lC O (bZ (by omega) (by omega))) ?_);simp only[G];refine gB eK (z:=X6 0) (by kernel_rfl) O O O ?_;intro u C d l q;replace m:=m.newB d l q;simp only[G];refine bN m 1 O O eK tQ O (by decide) O O O (m.b 0 O).rowsO (fN O) (by omega) (by omega) ?_;intro a c u m;simp only[zF,zG] at m;simp only[zA,zB,zC,zD,zE,lZ] at m;apply aH 4 [0] m;simp only[↓U];refine aD (iU O O (by omega) (afG (n:=65536) (by omega))) ?_;apply aH 3 [0] m;simp only[↓U];have r:=Sg e f y A (show 0<z by omega);exact F (z / 65536) _ _ (by omega) (by kernel_rfl) ⟨z / 65536,j+1,os++[z%65536],a,c,O,(m.sel [X3,Z,Z]),by simp;omega,r.1,r.2.1,by omega,r.2.2.1,r.2.2.2,rfl⟩
  apply L 2 [] m;simp only[↓U];obtain rfl:z=0:=by omega
  rw[lq,Nat.add_zero] at e;obtain⟨i,_⟩:=Tv (m.o 0 rfl) p f (by omega);apply aT 4 [1,0] m;simp only[↓U];apply I0;omega;refine bF O O (Ba _ i (by omega)) ?_;rintro v u d rfl;replace m:=m.ext' d;simp only[G];rw[e,g,x,Iz];apply lK 3 [1] m;simp only[↓U,dG,aa];intro u m;exact aS O ⟨_,O,((m.b 1 O).full bU aO)⟩ ⟨_,O,m.ext,O⟩
 have x:X3=dH n:=(Y (by omega)).symm;apply aT 2 [0] m;simp only[↓U];refine aD (iK lC iT O (ai2 h h0)) ?_;apply aH 12 [2,0] m;simp only[↓U];apply I0;omega;refine bT [3,4] [11,12,13,14,15,16,17,18,19,20] (λn vs s=>∃(z j:Nat) (os:List Nat) (a:Option Addr) (c:Nat),vs=[.slice a j c,.int .u64 (z:Int)]/\Mem w s [oI 3 1 a j c (os.map sK),bI B [.bool X3,.string ⟨#[]⟩] 95]/\(j=os.length)/\(val 65536 os+65536^os.length*z=N)/\(eS 65536 os)/\(z<=9223372036854775808)/\(z<2^(64-os.length))/\(os.length<=64)/\(n=z)) ?_ ?_
 .exact⟨_,n.natAbs,0,[],X5,0,O,m,O,by simp[val,g],mV _,t,by simp;omega,by simp,rfl⟩
 intro n vs wr k u K H;obtain⟨z,j,os,a,c,rfl,m,p,e,f,D,y,A,E⟩:=k;simp only[zu,zF,zG];apply L 6 [0,0] m;simp only[↓U];refine bC O ?_ ?_<;>intro I
 .apply L 6 [0] m;simp only[↓U];refine aD (cT O O (by omega) (qB (n:=65536))) (aD (iK iT lC O (bZ (by omega) (by omega))) ?_);simp only[G];refine gB eK (z:=X6 0) (by kernel_rfl) O O O ?_;intro u C d l q;replace m:=m.newB d l q;simp only[G];refine bN m 1 O O eK tQ O (by decide) O O O (m.b 0 O).rowsO (fN O) (by omega) (by omega) ?_;intro a c u m;simp only[zF,zG] at m;simp only[zA,zB,zC,zD,zE,lZ] at m;apply aH 4 [0] m;simp only[↓U];refine aD (iU O O (by omega) (afG (n:=65536) (by omega))) ?_;apply aH 3 [0] m;simp only[↓U];have r:=Sg e f y A (show 0<z by omega);exact H (z / 65536) _ _ (by omega) (by kernel_rfl) ⟨z / 65536,j+1,os++[z%65536],a,c,O,(m.sel [X3,Z,Z]),by simp;omega,r.1,r.2.1,by omega,r.2.2.1,r.2.2.2,rfl⟩
 apply L 2 [] m;simp only[↓U];obtain rfl:z=0:=by omega
 rw[lq,Nat.add_zero] at e;obtain⟨i,_⟩:=Tv (m.o 0 rfl) p f (by omega);apply aT 4 [2,0] m;simp only[↓U];apply I0;omega;refine bF O O (Ba _ i (by omega)) ?_;rintro v u d rfl;replace m:=m.ext' d;simp only[G];rw[e,g,x,Iz];apply lK 3 [1] m;simp only[↓U,dG,aa];intro u m;exact aS O ⟨_,O,((m.b 1 O).full bU aO)⟩ ⟨_,O,m.ext,O⟩
end
section
set_option maxRecDepth 100000
attribute [local irreducible] az cw fW Code.wp
end
section
set_option maxRecDepth 100000
attribute [local irreducible] az cw fW bX cP Code.wp
attribute [local congr] dK dL cR dJ
variable{A:Option Addr}{xs ys:List Nat}{na nb ca cb:Nat}
def Tw{l:List UInt8}(d:l.length<=1000000000000000):dF prog 315 [.string (nS l),.int .u8 0] (.string (nS (iW l))):=by
 intro w;refine⟨bJ func315 (by kernel_rfl),?_⟩;have m:=Mem.refl w
 go_enter func315,ntmps315
 apply fF 6 [0] m;simp only[↓U];refine bT [0] [5,6,7,8,9,10,11,12,13,14,15] (λn vs f=>∃(k:List UInt8),vs=[.string (nS k)]/\Mem w f []/\(iW k=iW l)/\(k.length<=1000000000000000)/\(n=k.length)) ?_ ?_
 .exact⟨_,l,O,m,O,d,O⟩
 intro n vs wr e u i g;obtain⟨k,rfl,m,c,d,j⟩:=e;have p:=Hc k;simp only[zu,zF,zG];apply L 2 [] m;simp only[↓U];by_cases h:0<k.length
 .obtain⟨b,a⟩:∃b,k[0]? = X4 b:=⟨k[0],am h⟩
  apply aT 2 [0] m;simp only[↓U];refine aD (uY O pN O) ?_;apply aH 3 [1,0,0] m;simp only[↓U];apply I0;omega;refine eP O (aD ((oV pN O O (by omega) (by rw[ag6];exact a))) ?_);apply aH 4 [0,0,0,0] m;simp only[↓U];refine bC O ?_ ?_<;>intro o
  .apply L 4 [0] m;simp only[↓U];refine aD (aiS pN O O (by omega) (by omega)) ?_;apply aH 2 [] m;simp only[↓U];rw[show (1:Int).toNat=1 from rfl,adP];apply aT 1 [0] m;simp only[↓U];exact g ((k.drop 1).length) _ _ (by rw[gg];omega) (by kernel_rfl) ⟨k.drop 1,rfl,m,by rw[adQ a (by omega)];exact c,by rw[gg];omega,rfl⟩
  apply L 7 [] m;simp only[↓U];refine aS O O ?_;try simp only[zD,zE]
  exact⟨_,O,m.ext,by rw[<-c,adR a (by omega)]⟩
 obtain rfl:k=[]:=ft (by omega);apply aT 2 [0] m;simp only[↓U];refine aD (uY O pN O) ?_;apply aH 16 [2,0,0,0,0] m;simp only[↓U];apply I0;omega;refine aS O O ?_;try simp only[zD,zE]
 exact⟨_,O,m.ext,by rw[<-c,ag7]⟩
def ae3{l:List UInt8}(c:l.length<=1000000000000000):dF prog 258 [.string (nS l),.string ⟨#[0]⟩] (.string (nS (iW l))):=by
 intro w;refine⟨bJ func258 (by kernel_rfl),?_⟩;have m:=Mem.refl w;have d:=Hc l
 go_enter func258,ntmps258
 apply fF 6 [] m;simp only[↓U];by_cases a:l=[]
 .subst a;apply aT 2 [0] m;simp only[↓U];refine aD (aqB (adO pN O O) (show _=bw Z by simp[nS])) ?_;apply aH 12 [0,0] m;simp only[↓U];exact aS O O ⟨_,O,m.ext,O⟩
 apply aT 2 [0] m;simp only[↓U];refine aD (aqB (adO pN O O) (show _=bw X3 by simp only[abO,a,decide_false])) ?_;apply aH 2 [0,0] m;simp only[↓U];refine eP O (aD (aqB (adO pN O O) (show _=bw X3 by simp)) ?_);apply aH 8 [0] m;simp only[↓U];refine aD (uY O pN O) (aD (zW O O O) ?_);apply aH 2 [0,0] m;simp only[↓U];refine eP O (aD ((oV (b:=0) pN O O (by omega) O)) (eP O (aD (rI O O (by decide)) ?_)));apply aH 7 [0] m;simp only[↓U];refine aD ((oV (b:=0) pN O O (by omega) O)) ?_;simp only[G];refine lD m O O (Tw c) 3 [] ?_;simp only[↓U];intro u m;exact aS O O ⟨_,O,m.ext,O⟩
def Nf{cap:Nat}(w:ak)(b:kY w A na cap xs):cY prog 256 [.slice A na cap] w (λv _=>v=.slice A (trim xs).length cap):=by
 refine⟨bJ func256 (by kernel_rfl),?_⟩;have m:=Mem.refl w;obtain rfl:=b.eq;have o:=b.len;have q:=b.le
 go_enter func256,ntmps256
 apply fF 6 [0] m;simp only[↓U];refine bT [0] [3,4,5,6,7,8,9,10,11,12,13,14,15,16,17,18,19] (λn vs g=>∃(k:Nat),vs=[.slice A k cap]/\Mem w g []/\(k<=xs.length)/\(trim (xs.take k)=trim xs)/\(n=k)) ?_ ?_
 .exact⟨_,xs.length,O,m,ar _,by rw[fq],O⟩
 intro n vs wr f u j h;obtain⟨k,rfl,m,l,c,p⟩:=f;simp only[zu,zF,zG];apply L 2 [] m;simp only[↓U];by_cases e:0<k
 .obtain⟨a,rfl,i,r⟩:=b.get (show k-1<xs.length by omega);apply aT 9 [1,0,0,0,0,0] m;simp only[↓U,jV];apply I0;omega;refine eP O (aD (aR lS fA O O (by omega) (by omega) (tL (show _=k-1 by omega))) (eP O ?_));simp only[G];refine bE O (lies1 (m.ext.cell i) lP) ?_;simp only[G];apply aH 3 [0,0,0] m;simp only[↓U];refine bC O ?_ ?_<;>intro d
  .apply L 7 [0] m;simp only[↓U,jV];apply I0;omega;refine aD (nK lS fA O O (show _=k-1 by omega) (by omega) (by omega)) ?_;apply aH 3 [0] m;simp only[↓U];exact h (k-1) _ _ (by omega) (by kernel_rfl) ⟨k-1,O,m,by omega,Wy e (by omega) d c,O⟩
  apply L 7 [] m;simp only[↓U];refine aS O O ?_;try simp only[zD,zE]
  exact⟨_,O,m.ext,by rw[<-abG e (by omega) d c]⟩
 obtain rfl:k=0:=by omega
 apply aT 22 [2,0,0,0,0,0,0,0] m;simp only[↓U,jV];apply I0;omega;refine aS O O ?_;try simp only[zD,zE]
 exact⟨_,O,m.ext,by rw[<-abH c]⟩
def aux{B:Option Addr}(w:ak)(d:kY w A na ca xs)(c:kY w B nb cb ys)(o:gZ xs)(ty:gZ ys):cY prog 187 [.slice A na ca,.slice B nb cb] w (λv _=>v=X6 (ord (val 4294967296 xs) (val 4294967296 ys))):=by
 refine⟨bJ func187 (by kernel_rfl),?_⟩;have m:=Mem.refl w;obtain rfl:=d.eq;obtain rfl:=c.eq;have t:=d.len;have D:=c.len
 go_enter func187,ntmps187
 apply fF 15 [0,0] m;simp only[↓U,jV];refine bC O ?_ ?_<;>intro y
 .apply L 5 [] m;simp only[↓U];refine aS O O ?_;try simp only[zD,zE]
  exact⟨_,O,m.ext,by rw[ord,J (nL (by omega) d.digs c.digs ty (by omega))]⟩
 apply L 9 [0,0] m;simp only[↓U,jV];refine bC O ?_ ?_<;>intro z
 .apply L 5 [] m;simp only[↓U];refine aS O O ?_;try simp only[zD,zE]
  exact⟨_,O,m.ext,by have:=nL (B:=4294967296) (by omega) c.digs d.digs o (by omega);rw[ord,X (by omega),J this]⟩
 apply L 11 [0] m;simp only[↓U,jV];apply I0;omega;refine bT [5] [4,21,22,23,24,25,26,27,28,29,30,31,32,33,34,35,36,37,38,39,40,41,42,43,44] (λn vs p=>∃(k:Nat),vs=[X6 ((k:Int)-1)]/\Mem w p []/\(k<=xs.length)/\(xs.drop k=ys.drop k)/\(n=k)) ?_ ?_
 .exact⟨_,xs.length,O,m,ar _,by rw[me,show xs.length=ys.length by omega,me],O⟩
 intro n vs wr l u r q;obtain⟨k,rfl,m,s,e,x⟩:=l;simp only[zu,zF,zG];apply L 6 [0,0] m;simp only[↓U];refine bC O ?_ ?_<;>intro C
 .apply L 5 [] m;simp only[↓U];obtain⟨a,rfl,f,_⟩:=d.get (show k-1<xs.length by omega);obtain⟨b,rfl,g,_⟩:=c.get (show k-1<ys.length by omega);refine gc (mq m aB (by kernel_rfl) (aK aJ (aK aJ ?_)));simp only[G];refine aK (aR lS fA O O (by omega) (by omega) (tL (show _=k-1 by omega))) ?_;simp only[G];refine ql O (λu m=>(lies1 (m.ext.cell f) lP)) ?_;simp only[G];refine aK aJ (aK aJ ?_);simp only[G];refine aK (aR lS fA O O (by omega) (by omega) (tL (show _=k-1 by omega))) ?_;simp only[G];refine ql O (λu m=>(lies1 (m.ext.cell g) lP)) ?_;simp only[G];refine aK (xQ O O) (aK aM (aZ ?_));intro u m;refine gc ?_;simp only[G];refine bC O ?_ ?_<;>intro h
  .apply L 5 [] m;simp only[↓U];refine aS O O ?_;try simp only[zD,zE]
   exact⟨_,O,m.ext,by rw[ord,J (aiU d.digs (by omega) (by omega) (by omega) e h)]⟩
  apply L 1 [] m;simp only[↓U];have f:=d.at (show k-1<xs.length by omega);have g:=c.at (show k-1<ys.length by omega);refine gc (mq m aB (by kernel_rfl) (aK aJ (aK aJ ?_)));simp only[G];refine aK (aR lS fA O O (by omega) (by omega) (tL (show _=k-1 by omega))) ?_;simp only[G];refine ql O (λu m=>(lies1 (m.ext.cell f) lP)) ?_;simp only[G];refine aK aJ (aK aJ ?_);simp only[G];refine aK (aR lS fA O O (by omega) (by omega) (tL (show _=k-1 by omega))) ?_;simp only[G];refine ql O (λu m=>(lies1 (m.ext.cell g) lP)) ?_;simp only[G];refine aK (aiM O O) (aK aM (aZ ?_));intro u m;refine gc ?_;simp only[G];refine bC O ?_ ?_<;>intro i
  .apply L 5 [] m;simp only[↓U];refine aS O O ?_;try simp only[zD,zE]
   exact⟨_,O,m.ext,by have:=aiU c.digs (by omega) (by omega) (by omega) e.symm i;rw[ord,X (by omega),J this]⟩
  apply L 8 [0] m;simp only[↓U];apply I0;omega;rw[show ((k:Int)-1-1)=((k-1:Nat):Int)-1 by omega];exact q (k-1) _ _ (by omega) (by kernel_rfl) ⟨k-1,O,m,by omega,ag2 (by omega) (by omega) (by omega) e h i,O⟩
 apply L 6 [] m;simp only[↓U];refine aS O O ?_;try simp only[zD,zE]
 exact⟨_,O,m.ext,by have j:k=0:=(by omega);subst j;simp only[nt] at e;rw[e,ord,X (by omega),X (by omega)]⟩
def auy{B:Option Addr}(w:ak)(F:kY w A na ca xs)(E:kY w B nb cb ys)(ad:xs.length<=1099511627776)(ae:ys.length<=1099511627776):cY prog 186 [.slice A na ca,.slice B nb cb] w (rJ (val 4294967296 xs+val 4294967296 ys)):=by
 refine⟨bJ func186 (by kernel_rfl),?_⟩;have m:=Mem.refl w;obtain rfl:=F.eq;obtain rfl:=E.eq
 go_enter func186,ntmps186
 apply fF 13 [0,0] m;simp only[↓U,jV];refine bC O ?_ ?_<;>intro ab
 .obtain⟨e,rfl⟩:∃q,q=xs:=⟨_,rfl⟩
  obtain⟨d,rfl⟩:∃q,q=ys:=⟨_,rfl⟩
  obtain⟨W,rfl⟩:∃q,q=A:=⟨_,rfl⟩
  obtain⟨V,rfl⟩:∃q,q=B:=⟨_,rfl⟩
  have M:=E;have N:=F;apply L 11 [0] m;simp only[↓U,jV];apply I0;omega;refine tZ lS Jy O O O (show _=d.length+1 by omega) (show _=d.length+1 by omega) (by omega) (by omega) (by omega) (by omega) ?_;intro u C z H J;replace m:=m.newB z H J;apply aH 2 [] m;simp only[↓U];rw[oD] at m;apply aT 12 [0] m;simp only[↓U,jV];refine bT [6,22] [7,8,23,24,25,26,27,28,29,30,31,32,33,34,35,36,37,38,39,40,41,42,43,44,45,46,47,48] (λn vs K=>∃(i c:Nat) (os:List Nat),vs=[.int .u64 (c:Int),X6 (i:Int)]/\Mem w K [bI C (os.map Lu) 231]/\(i<=d.length)/\(os.length=d.length+1)/\(val 4294967296 os+4294967296^i*c=val 4294967296 (d.take i)+val 4294967296 (e.take i))/\(os.drop i=di (d.length+1-i) 0)/\(eS 4294967296 os)/\(c<=1)/\(n=d.length-i)) ?_ ?_
  .exact⟨_,0,0,di (d.length+1) 0,O,m,by omega,by simp,by simp[mC,val],by simp,λx I=>by rw[jw I];decide,by omega,rfl⟩
  intro n vs wr D u K1 S;obtain⟨i,c,os,rfl,m,X,f,h,j,g,hc,Y⟩:=D;simp only[zu,zF,zG];apply L 5 [0,0] m;simp only[↓U];refine bC O ?_ ?_<;>intro Z
  .apply L 9 [] m;simp only[↓U];obtain⟨a,rfl,P,y⟩:=M.get (show i<d.length by omega);apply aT 4 [0] m;simp only[↓U,nZ,ah,ai,dt];apply I0;omega;refine bE O (lies1 (m.ext.cell P) lP) ?_;simp only[G];apply aH 12 [0,0] m;simp only[↓U,jV];apply I0;omega;refine bC O ?_ ?_<;>intro aa
   .obtain⟨b,rfl,Q,R⟩:=N.get (show i<e.length by omega);apply L 5 [0] m;simp only[↓U,nZ,ah,ai,dt];apply I0;omega;refine bE O (lies1 (m.ext.cell Q) lP) ?_;simp only[G];apply aH 3 [] m;simp only[↓U];apply I0;omega;obtain⟨s,hs⟩:∃s:Nat,(s:Int)=↑d[i]+↑c+↑e[i]:=⟨d[i]+c+e[i],by omega⟩
    rw[<-hs];have r:s=d[i]+c+e[i]?.getD 0:=by rw[am (by omega)];simp;omega
    have t:e[i]?.getD 0<4294967296:=by rw[am (by omega)];exact R
    apply aT 4 [0] m;simp only[↓U];refine aD (lH O O (sE (by omega) (by omega))) ?_;apply aH 1 [0] m;simp only[↓U];refine aD (kW O O (by omega) (Wz (by omega))) ?_;apply aH 1 [0] m;simp only[↓U,nZ,ah,ai,dt];apply I0;omega;refine dD m 0 O O O fA (by simp;omega) ⟨rfl,rfl⟩ ?_;intro u m;simp only[G] at m ;rw[show ((s:Int)%4294967296)=((s%4294967296:Nat):Int) by omega,mW (by omega)] at m;apply aH 7 [0] m;simp only[↓U];apply I0;omega;obtain⟨k,l,o,p⟩:=Et (by omega) f h j g hc r y t;rw[show ((i:Int)+1)=((i+1:Nat):Int) by omega,show ((s:Int) / 4294967296)=((s / 4294967296:Nat):Int) by omega];exact S (d.length-(i+1)) _ _ (by omega) (by kernel_rfl) ⟨i+1,s / 4294967296,os.set i (s%4294967296),O,m,by omega,by simpa using f,k,l,o,p,O⟩
   obtain⟨s,hs⟩:∃s:Nat,(s:Int)=↑d[i]+↑c:=⟨d[i]+c,by omega⟩
   rw[<-hs];have r:s=d[i]+c+e[i]?.getD 0:=by rw[cg (by omega)];simp;omega
   have t:e[i]?.getD 0<4294967296:=by rw[cg (by omega)];decide
   apply L 5 [0] m;simp only[↓U];refine aD (lH O O (sE (by omega) (by omega))) ?_;apply aH 1 [0] m;simp only[↓U];refine aD (kW O O (by omega) (Wz (by omega))) ?_;apply aH 1 [0] m;simp only[↓U,nZ,ah,ai,dt];apply I0;omega;refine dD m 0 O O O fA (by simp;omega) ⟨rfl,rfl⟩ ?_;intro u m;simp only[G] at m ;rw[show ((s:Int)%4294967296)=((s%4294967296:Nat):Int) by omega,mW (by omega)] at m;apply aH 7 [0] m;simp only[↓U];apply I0;omega;obtain⟨k,l,o,p⟩:=Et (by omega) f h j g hc r y t;rw[show ((i:Int)+1)=((i+1:Nat):Int) by omega,show ((s:Int) / 4294967296)=((s / 4294967296:Nat):Int) by omega];exact S (d.length-(i+1)) _ _ (by omega) (by kernel_rfl) ⟨i+1,s / 4294967296,os.set i (s%4294967296),O,m,by omega,by simpa using f,k,l,o,p,O⟩
  apply L 2 [] m;simp only[↓U];obtain rfl:i=d.length:=by omega
  apply aT 6 [0] m;simp only[↓U,jV,nZ,ah,ai,dt];apply I0;omega;refine dD m 0 O O O fA (by simp;omega) ⟨rfl,rfl⟩ ?_;intro u m;simp only[G] at m ;rw[mW (by omega)] at m;apply aH 4 [0] m;simp only[↓U];refine cK m O O (Nf _ ((m.b 0 O).nat (g.set (show c<4294967296 by omega)) (by simp;omega) (by omega))) ?_;rintro v u m rfl;apply aH 3 [] m;simp only[↓U];refine aS O O ?_;try simp only[zD,zE]
  exact⟨_,O,m.ext,by first | exact rJ.of_trim ((m.b 0 O).nat (g.set (show c<4294967296 by omega)) (by simp;omega) (by omega)) (Pu (by omega) f h j) | (rw[Nat.add_comm];exact rJ.of_trim ((m.b 0 O).nat (g.set (show c<4294967296 by omega)) (by simp;omega) (by omega)) (Pu (by omega) f h j))⟩
 obtain⟨d,rfl⟩:∃q,q=xs:=⟨_,rfl⟩
 obtain⟨e,rfl⟩:∃q,q=ys:=⟨_,rfl⟩
 obtain⟨V,rfl⟩:∃q,q=A:=⟨_,rfl⟩
 obtain⟨W,rfl⟩:∃q,q=B:=⟨_,rfl⟩
 have M:=F;have N:=E;apply L 6 [0] m;simp only[↓U,jV];apply I0;omega;refine tZ lS Jy O O O (show _=d.length+1 by omega) (show _=d.length+1 by omega) (by omega) (by omega) (by omega) (by omega) ?_;intro u C z H J;replace m:=m.newB z H J;apply aH 2 [] m;simp only[↓U];rw[oD] at m;apply aT 12 [0] m;simp only[↓U,jV];refine bT [6,22] [7,8,23,24,25,26,27,28,29,30,31,32,33,34,35,36,37,38,39,40,41,42,43,44,45,46,47,48] (λn vs K=>∃(i c:Nat) (os:List Nat),vs=[.int .u64 (c:Int),X6 (i:Int)]/\Mem w K [bI C (os.map Lu) 231]/\(i<=d.length)/\(os.length=d.length+1)/\(val 4294967296 os+4294967296^i*c=val 4294967296 (d.take i)+val 4294967296 (e.take i))/\(os.drop i=di (d.length+1-i) 0)/\(eS 4294967296 os)/\(c<=1)/\(n=d.length-i)) ?_ ?_
 .exact⟨_,0,0,di (d.length+1) 0,O,m,by omega,by simp,by simp[mC,val],by simp,λx I=>by rw[jw I];decide,by omega,rfl⟩
 intro n vs wr D u K2 T;obtain⟨i,c,os,rfl,m,X,f,h,j,g,hc,Y⟩:=D;simp only[zu,zF,zG];apply L 5 [0,0] m;simp only[↓U];refine bC O ?_ ?_<;>intro Z
 .apply L 9 [] m;simp only[↓U];obtain⟨a,rfl,P,y⟩:=M.get (show i<d.length by omega);apply aT 4 [0] m;simp only[↓U,nZ,ah,ai,dt];apply I0;omega;refine bE O (lies1 (m.ext.cell P) lP) ?_;simp only[G];apply aH 12 [0,0] m;simp only[↓U,jV];apply I0;omega;refine bC O ?_ ?_<;>intro aa
  .obtain⟨b,rfl,Q,R⟩:=N.get (show i<e.length by omega);apply L 5 [0] m;simp only[↓U,nZ,ah,ai,dt];apply I0;omega;refine bE O (lies1 (m.ext.cell Q) lP) ?_;simp only[G];apply aH 3 [] m;simp only[↓U];apply I0;omega;obtain⟨s,hs⟩:∃s:Nat,(s:Int)=↑d[i]+↑c+↑e[i]:=⟨d[i]+c+e[i],by omega⟩
   rw[<-hs];have r:s=d[i]+c+e[i]?.getD 0:=by rw[am (by omega)];simp;omega
   have t:e[i]?.getD 0<4294967296:=by rw[am (by omega)];exact R
   apply aT 4 [0] m;simp only[↓U];refine aD (lH O O (sE (by omega) (by omega))) ?_;apply aH 1 [0] m;simp only[↓U];refine aD (kW O O (by omega) (Wz (by omega))) ?_;apply aH 1 [0] m;simp only[↓U,nZ,ah,ai,dt];apply I0;omega;refine dD m 0 O O O fA (by simp;omega) ⟨rfl,rfl⟩ ?_;intro u m;simp only[G] at m ;rw[show ((s:Int)%4294967296)=((s%4294967296:Nat):Int) by omega,mW (by omega)] at m;apply aH 7 [0] m;simp only[↓U];apply I0;omega;obtain⟨k,l,o,p⟩:=Et (by omega) f h j g hc r y t;rw[show ((i:Int)+1)=((i+1:Nat):Int) by omega,show ((s:Int) / 4294967296)=((s / 4294967296:Nat):Int) by omega];exact T (d.length-(i+1)) _ _ (by omega) (by kernel_rfl) ⟨i+1,s / 4294967296,os.set i (s%4294967296),O,m,by omega,by simpa using f,k,l,o,p,O⟩
  obtain⟨s,hs⟩:∃s:Nat,(s:Int)=↑d[i]+↑c:=⟨d[i]+c,by omega⟩
  rw[<-hs];have r:s=d[i]+c+e[i]?.getD 0:=by rw[cg (by omega)];simp;omega
  have t:e[i]?.getD 0<4294967296:=by rw[cg (by omega)];decide
  apply L 5 [0] m;simp only[↓U];refine aD (lH O O (sE (by omega) (by omega))) ?_;apply aH 1 [0] m;simp only[↓U];refine aD (kW O O (by omega) (Wz (by omega))) ?_;apply aH 1 [0] m;simp only[↓U,nZ,ah,ai,dt];apply I0;omega;refine dD m 0 O O O fA (by simp;omega) ⟨rfl,rfl⟩ ?_;intro u m;simp only[G] at m ;rw[show ((s:Int)%4294967296)=((s%4294967296:Nat):Int) by omega,mW (by omega)] at m;apply aH 7 [0] m;simp only[↓U];apply I0;omega;obtain⟨k,l,o,p⟩:=Et (by omega) f h j g hc r y t;rw[show ((i:Int)+1)=((i+1:Nat):Int) by omega,show ((s:Int) / 4294967296)=((s / 4294967296:Nat):Int) by omega];exact T (d.length-(i+1)) _ _ (by omega) (by kernel_rfl) ⟨i+1,s / 4294967296,os.set i (s%4294967296),O,m,by omega,by simpa using f,k,l,o,p,O⟩
 apply L 2 [] m;simp only[↓U];obtain rfl:i=d.length:=by omega
 apply aT 6 [0] m;simp only[↓U,jV,nZ,ah,ai,dt];apply I0;omega;refine dD m 0 O O O fA (by simp;omega) ⟨rfl,rfl⟩ ?_;intro u m;simp only[G] at m ;rw[mW (by omega)] at m;apply aH 4 [0] m;simp only[↓U];refine cK m O O (Nf _ ((m.b 0 O).nat (g.set (show c<4294967296 by omega)) (by simp;omega) (by omega))) ?_;rintro v u m rfl;apply aH 3 [] m;simp only[↓U];refine aS O O ?_;try simp only[zD,zE]
 exact⟨_,O,m.ext,by first | exact rJ.of_trim ((m.b 0 O).nat (g.set (show c<4294967296 by omega)) (by simp;omega) (by omega)) (Pu (by omega) f h j) | (rw[Nat.add_comm];exact rJ.of_trim ((m.b 0 O).nat (g.set (show c<4294967296 by omega)) (by simp;omega) (by omega)) (Pu (by omega) f h j))⟩
def ap8{B:Option Addr}(w:ak)(q:kY w A na ca xs)(p:kY w B nb cb ys)(P:ys.length<=xs.length)(M:val 4294967296 ys<=val 4294967296 xs)(X:xs.length<=1099511627776):cY prog 188 [.slice A na ca,.slice B nb cb] w (λv w'=>rJ (val 4294967296 xs-val 4294967296 ys) v w'/\xU w v):=by
 refine⟨bJ func188 (by kernel_rfl),?_⟩;have m:=Mem.refl w;obtain rfl:=q.eq;obtain rfl:=p.eq
 go_enter func188,ntmps188
 apply fF 8 [0] m;simp only[↓U,jV];refine tZ lS Jy O O O (ah _) (ah _) (by omega) (by omega) (by omega) (by omega) ?_;intro u C z E H;replace m:=m.newB z E H;apply aH 2 [] m;simp only[↓U];rw[oD] at m;apply aT 12 [0] m;simp only[↓U,jV];refine bT [6,14] [7,8,15,16,17,18,19,20,21,22,23,24,25,26,27,28,29,30,31,32,33,34,35,36,37,38,39,40] (λn vs I=>∃(i c:Nat) (os:List Nat),vs=[.int .u64 (c:Int),X6 (i:Int)]/\Mem w I [bI C (os.map Lu) 231]/\(i<=xs.length)/\(os.length=xs.length)/\(val 4294967296 os+val 4294967296 (ys.take i)=val 4294967296 (xs.take i)+4294967296^i*c)/\(os.drop i=di (xs.length-i) 0)/\(eS 4294967296 os)/\(c<=1)/\(n=xs.length-i)) ?_ ?_
 .exact⟨_,0,0,di xs.length 0,O,m,by omega,by simp,by simp[mC,val],by simp,λx F=>by rw[jw F];decide,by omega,rfl⟩
 intro n vs wr D u R t;obtain⟨i,c,os,rfl,m,S,e,f,r,d,hc,T⟩:=D;simp only[zu,zF,zG];apply L 5 [0,0] m;simp only[↓U];refine bC O ?_ ?_<;>intro V
 .apply L 9 [] m;simp only[↓U];obtain⟨a,rfl,J,y⟩:=q.get (show i<xs.length by omega);apply aT 4 [0] m;simp only[↓U,nZ,ah,ai,dt];apply I0;omega;refine bE O (lies1 (m.ext.cell J) lP) ?_;simp only[G];apply aH 1 [0] m;simp only[↓U];refine aD (Il O O (mD _)) ?_;apply aH 10 [0,0] m;simp only[↓U,jV];refine bC O ?_ ?_<;>intro W
  .obtain⟨b,rfl,K,N⟩:=p.get (show i<ys.length by omega);apply L 5 [0] m;simp only[↓U,nZ,ah,ai,dt];apply I0;omega;refine bE O (lies1 (m.ext.cell K) lP) ?_;simp only[G];refine aD (Il O O (mD _)) ?_;apply aH 2 [] m;simp only[↓U];obtain⟨s,hs⟩:∃s:Nat,(s:Int)=((↑xs[i]-↑c)%18446744073709551616-↑ys[i])%18446744073709551616:=⟨(((↑xs[i]-↑c)%18446744073709551616-↑ys[i])%18446744073709551616:Int).toNat,by omega⟩
   rw[<-hs];have l:(s:Int)=((xs[i]:Nat)-(c:Nat)-(ys[i]?.getD 0:Nat):Int)%18446744073709551616:=by rw[am (by omega)];simp only[dx];omega
   have o:ys[i]?.getD 0<4294967296:=by rw[am (by omega)];exact N
   have Q:s<18446744073709551616:=by omega
   apply aT 4 [0] m;simp only[↓U];refine aD (lH O O (sE (by omega) (by omega))) ?_;apply aH 1 [0] m;simp only[↓U];refine aD (kW O O (by omega) (apH (by omega))) ?_;apply aH 1 [0] m;simp only[↓U,nZ,ah,ai,dt];apply I0;omega;refine dD m 0 O O O fA (by simp;omega) ⟨rfl,rfl⟩ ?_;intro u m;simp only[G] at m ;rw[show ((s:Int)%4294967296)=((s%4294967296:Nat):Int) by omega,mW (by omega)] at m;apply aH 7 [0] m;simp only[↓U];apply I0;omega;obtain⟨g,h,j,k⟩:=Xa (by omega) e f r d hc l y o;rw[show ((i:Int)+1)=((i+1:Nat):Int) by omega,show ((s:Int) / 9223372036854775808)=((s / 9223372036854775808:Nat):Int) by omega];exact t (xs.length-(i+1)) _ _ (by omega) (by kernel_rfl) ⟨i+1,s / 9223372036854775808,os.set i (s%4294967296),O,m,by omega,by simpa using e,g,h,j,k,O⟩
  obtain⟨s,hs⟩:∃s:Nat,(s:Int)=(↑xs[i]-↑c)%18446744073709551616:=⟨((↑xs[i]-↑c)%18446744073709551616:Int).toNat,by omega⟩
  rw[<-hs];have l:(s:Int)=((xs[i]:Nat)-(c:Nat)-(ys[i]?.getD 0:Nat):Int)%18446744073709551616:=by rw[cg (by omega)];simp only[mg];omega
  have o:ys[i]?.getD 0<4294967296:=by rw[cg (by omega)];decide
  apply L 1 [] m;simp only[↓U];have Q:s<18446744073709551616:=by omega
  apply aT 4 [0] m;simp only[↓U];refine aD (lH O O (sE (by omega) (by omega))) ?_;apply aH 1 [0] m;simp only[↓U];refine aD (kW O O (by omega) (apH (by omega))) ?_;apply aH 1 [0] m;simp only[↓U,nZ,ah,ai,dt];apply I0;omega;refine dD m 0 O O O fA (by simp;omega) ⟨rfl,rfl⟩ ?_;intro u m;simp only[G] at m ;rw[show ((s:Int)%4294967296)=((s%4294967296:Nat):Int) by omega,mW (by omega)] at m;apply aH 7 [0] m;simp only[↓U];apply I0;omega;obtain⟨g,h,j,k⟩:=Xa (by omega) e f r d hc l y o;rw[show ((i:Int)+1)=((i+1:Nat):Int) by omega,show ((s:Int) / 9223372036854775808)=((s / 9223372036854775808:Nat):Int) by omega];exact t (xs.length-(i+1)) _ _ (by omega) (by kernel_rfl) ⟨i+1,s / 9223372036854775808,os.set i (s%4294967296),O,m,by omega,by simpa using e,g,h,j,k,O⟩
 apply L 2 [] m;simp only[↓U];obtain rfl:i=xs.length:=by omega
 apply aT 2 [0] m;simp only[↓U];refine cK m O O (Nf _ ((m.b 0 O).nat d (by omega) (by omega))) ?_;rintro v u m rfl;apply aH 3 [] m;simp only[↓U];exact aS O O ⟨_,O,m.ext,rJ.of_trim ((m.b 0 O).nat d (n:=xs.length) (by omega) (by omega)) (ank P e d f M),xU.of_blk (m.gb 0 O)⟩
def auz{B:Option Addr}(w:ak)(p:kY w A na ca xs)(o:kY w B nb cb ys)(X:xs.length<=1099511627776)(Y:ys.length<=1099511627776):cY prog 189 [.slice A na ca,.slice B nb cb] w (rJ (val 4294967296 xs*val 4294967296 ys)):=by
 refine⟨bJ func189 (by kernel_rfl),?_⟩;have m:=Mem.refl w;obtain rfl:=p.eq;obtain rfl:=o.eq
 go_enter func189,ntmps189
 apply fF 11 [0] m;simp only[↓U,jV];apply I0;omega;refine tZ lS Jy O O O (show _=xs.length+ys.length by omega) (show _=xs.length+ys.length by omega) (by omega) (by omega) (by omega) (by omega) ?_;intro u l t y C;replace m:=m.newB t y C;apply aH 2 [] m;simp only[↓U];rw[oD] at m;apply aT 8 [0] m;simp only[↓U,jV];refine bT [20] [6,7,8,9,10,11,21,22,23,24,25,26,27,28,29,30,31,32,33,34,35,36,37,38,39,40,41,42,43,44,45,46,47,48,49,50,51,52,53,54,55,56,57,58,59,60,61] (λn vs j=>∃(i:Nat) (os:List Nat),vs=[X6 (i:Int)]/\Mem w j [bI l (os.map Lu) 231]/\(i<=xs.length)/\(os.length=xs.length+ys.length)/\(val 4294967296 os=val 4294967296 (xs.take i)*val 4294967296 ys)/\(os.drop (i+ys.length)=di (xs.length-i) 0)/\(eS 4294967296 os)/\(n=xs.length-i)) ?_ ?_
 .exact⟨_,0,di (xs.length+ys.length) 0,O,m,by omega,by simp,by rw[mC,kx];simp only[val,Nat.zero_mul],by rw[List.drop_replicate];congr 1;omega,λx z=>by rw[jw z];decide,rfl⟩
 intro n vs wr g u N E;obtain⟨i,os,rfl,m,Q,e,q,f,d,S⟩:=g;simp only[zu,zF,zG];apply L 5 [0,0] m;simp only[↓U];refine bC O ?_ ?_<;>intro T
 .apply L 4 [] m;simp only[↓U];obtain⟨a,rfl,H,J⟩:=p.get (show i<xs.length by omega);apply aT 3 [0] m;simp only[↓U,nZ,ah,ai,dt];apply I0;omega;refine bE O (lies1 (m.ext.cell H) lP) ?_;simp only[G];apply aH 15 [0] m;simp only[↓U,jV];refine bT [8,27] [9,10,11,28,29,30,31,32,33,34,35,36,37,38,39,40,41,42,43,44,45,46,47,48,49,50,51,52,53] (λn vs j=>∃(k c:Nat) (os:List Nat),vs=[.int .u64 (c:Int),X6 (k:Int)]/\Mem w j [bI l (os.map Lu) 231]/\(k<=ys.length)/\(os.length=xs.length+ys.length)/\(val 4294967296 os+4294967296^(i+k)*c=val 4294967296 (xs.take i)*val 4294967296 ys+4294967296^i*(xs[i]*val 4294967296 (ys.take k)))/\(os.drop (i+ys.length)=di (xs.length-i) 0)/\(eS 4294967296 os)/\(c<4294967296)/\(n=ys.length-k)) ?_ ?_
  .exact⟨_,0,0,os,O,m,by omega,e,by rw[kx,q];simp only[val,lq],f,d,by omega,rfl⟩
  intro n vs wr g u P F;obtain⟨k,c,os,rfl,m,R,e,r,f,d,hc,ab⟩:=g;simp only[zu,zF,zG];apply L 5 [0,0] m;simp only[↓U];refine bC O ?_ ?_<;>intro V
  .apply L 4 [] m;simp only[↓U];obtain⟨b,rfl,I,K⟩:=o.get (show k<ys.length by omega);apply aT 3 [0] m;simp only[↓U,nZ,ah,ai,dt];apply I0;omega;refine bE O (lies1 (m.ext.cell I) lP) ?_;simp only[G];apply aH 4 [] m;simp only[↓U];have W:=(m.b 0 rfl).word (show i+k<os.length by omega);have ad:=d.get (am (show i+k<os.length by omega));obtain⟨Z,aa⟩:=anm J K;apply aT 5 [0] m;simp only[↓U];apply I0;omega;refine aD (aR lS fA O O (by omega) (by omega) (uZ (show _=i+k by omega))) ?_;simp only[G];refine bE O (lies1 ((m.b 0 O).word (show i+k<os.length by omega)) lP) ?_;simp only[G];apply aH 8 [] m;simp only[↓U];apply I0;omega;obtain⟨s,hs⟩:∃s:Nat,s=os[i+k]+xs[i]*ys[k]+c:=⟨_,rfl⟩
   have M:(↑os[i+k]+↑xs[i]*↑ys[k]+↑c:Int)=(s:Int):=by rw[hs];simp
   rw[M];have ae:s<18446744073709551616:=by omega
   apply aT 6 [0] m;simp only[↓U];apply I0;omega;refine aD (lH O O (sE (by omega) (by omega))) ?_;apply aH 1 [0] m;simp only[↓U];refine aD (kW O O (by omega) (Wz (by omega))) ?_;simp only[G];refine aD (aR lS fA O O (by omega) (by omega) (uZ (show _=i+k by omega))) ?_;simp only[G];refine dD m 0 O O O fA (by simp;omega) ⟨rfl,rfl⟩ ?_;intro u m;simp only[G] at m ;rw[show ((s:Int)%4294967296)=((s%4294967296:Nat):Int) by omega,mW (by omega)] at m;apply aH 7 [0] m;simp only[↓U];apply I0;omega;have h:=ag3 (by omega) (by omega) e r hs;rw[show ((k:Int)+1)=((k+1:Nat):Int) by omega,show ((s:Int) / 4294967296)=((s / 4294967296:Nat):Int) by omega];exact F (ys.length-(k+1)) _ _ (by omega) (by kernel_rfl) ⟨k+1,s / 4294967296,os.set (i+k) (s%4294967296),O,m,by omega,by simpa using e,h,by rw[Oa (by omega)];exact f,d.set (by omega),by omega,O⟩
  apply L 1 [] m;simp only[↓U];obtain rfl:k=ys.length:=by omega
  apply aT 7 [0] m;simp only[↓U,jV];apply I0;omega;refine aD (aR lS fA O O (by omega) (by omega) (uZ (show _=i+ys.length by omega))) ?_;simp only[G];refine dD m 0 O O O fA (by simp;omega) ⟨rfl,rfl⟩ ?_;intro u m;simp only[G] at m ;rw[mW (by omega)] at m;apply aH 6 [0] m;simp only[↓U];apply I0;omega;obtain⟨h,D⟩:=anl (by omega) e r f;rw[show ((i:Int)+1)=((i+1:Nat):Int) by omega];exact E (xs.length-(i+1)) _ _ (by omega) (by kernel_rfl) ⟨i+1,os.set (i+ys.length) c,O,m,by omega,by simpa using e,h,D,d.set (by omega),O⟩
 apply L 2 [] m;simp only[↓U];obtain rfl:i=xs.length:=by omega
 apply aT 2 [0] m;simp only[↓U];refine cK m O O (Nf _ ((m.b 0 O).nat d (by omega) (by omega))) ?_;rintro v u m rfl;apply aH 3 [] m;simp only[↓U];exact aS O O ⟨_,O,m.ext,rJ.of_trim ((m.b 0 O).nat d (n:=xs.length+ys.length) (by omega) (by omega)) (by rw[q,fq])⟩
end
section
set_option maxRecDepth 100000
attribute [local irreducible] az cw fW Code.wp
end
section
set_option maxRecDepth 100000
attribute [local irreducible] az cw fW bX cP Code.wp
attribute [local congr] dK dL cR dJ
def Yz{neg:Bool}{s:ByteArray}(w:ak)(hs:s.size<=1000000000000):cY prog 185 [.agg #[.bool neg,.string s]] w (rJ (anp s)):=by
 refine⟨bJ func185 (by kernel_rfl),?_⟩;have m:=Mem.refl w
 go_enter func185,ntmps185
 apply gH 9 [1,0] m;simp only[↓U,Ax,aeO,aa];intro g u m;refine aD (uY O pN O) ?_;apply aH 2 [0] m;simp only[↓U];apply I0;omega;rw[show ((s.size:Int)+4-1)=((s.size+3:Nat):Int) by omega];refine aD (iU O O (by omega) (uB (n:=4) (by omega))) ?_;simp only[G];obtain⟨K,o⟩:∃K,K=(s.size+3) / 4:=⟨_,rfl⟩
 rw[<-o];refine tZ lS Jy O O O (show _=K by omega) (show _=K by omega) (by omega) (by omega) (by omega) (by omega) ?_;intro u k f q z;replace m:=m.newB f q z;apply aH 2 [] m;simp only[↓U];rw[oD] at m;apply aT 5 [2,0] m;simp only[↓U,Ax,aeO,aa];refine aD (uY O pN O) ?_;apply aH 3 [0] m;simp only[↓U];refine bT [16] [4,5,17,18,19,20,21,22,23,24,25,26,27,28,29,30,31,32,33,34,35,36,37,38,39,40,41] (λn vs A=>∃(i:Nat) (os:List Nat),vs=[X6 (i:Int)]/\Mem w A [bI k (os.map Lu) 231,bI g [.bool neg,.string s] 95]/\(i<=s.size)/\(os.length=K)/\(eS 4294967296 os)/\(∀(j:Nat) (h:j<os.length),256^(s.size-i-4*j)∣os[j])/\(val 4294967296 os=256^(s.size-i)*val 256 ((oW s).drop (s.size-i)))/\(n=s.size-i)) ?_ ?_
 .exact⟨_,0,di K 0,O,m,by omega,by simp,λx y=>by rw[jw y];decide,λj h=>by rw[List.getElem_replicate];exact Nat.dvd_zero _,by rw[mC,aiY (by rw[wZ];omega),lq],rfl⟩
 intro n vs wr l u I B;obtain⟨i,os,rfl,m,J,E,d,D,e,M⟩:=l;simp only[zu,zF,zG];apply L 5 [0,0] m;simp only[↓U];refine bC O ?_ ?_<;>intro N
 .apply L 12 [2,0] m;simp only[↓U,Ax,aeO,aa];refine aD (uY O pN O) ?_;apply aH 5 [] m;simp only[↓U];apply I0;omega;obtain⟨p,hp⟩:∃p,p+1+i=s.size:=⟨s.size-1-i,by omega⟩
  rw[show ((s.size:Int)-1-(i:Int))=(p:Int) by omega];obtain⟨b,t,F,C⟩:=Hb hp;obtain⟨f1,f2,f3,f4⟩:=ag4 (r:=p%4) (j:=p / 4) F (by omega) (by omega) (by omega) d (Oc s) (by rw[show p+1=s.size-i by omega];exact D) (by rw[show p+1=s.size-i by omega];exact e);rw[C,Rb] at f1 f3 f4;have H:b.toNat<256:=b.toNat_lt;have f5:b.toNat*2^(8*(p%4))<2^(8*(p%4+1)):=by
   rw[show 8*(p%4+1)=8+8*(p%4) by omega,Nat.pow_add];exact Nat.mul_lt_mul_of_pos_right H (Nat.pow_pos (by omega))
  obtain⟨c,f6⟩:∃c,os[p / 4]=2^(8*(p%4+1))*c:=by
   obtain⟨c,hc⟩:=f2;exact⟨c,by rw[hc,Rb]⟩
  refine gc ?_;refine cI m 16 aB (by kernel_rfl) ?_;simp only[zy];refine aK aJ (aK aJ ?_);simp only[G];refine aK (iU O O (by omega) (uB (n:=4) (by omega))) ?_;simp only[G];refine aK (aR lS fA O O (by omega) (by omega) (uZ (show _=p / 4 by omega))) ?_;simp only[G];refine ql O (λu m=>(lies1 ((m.b 0 O).word (show p / 4<os.length by omega)) lP)) ?_;simp only[G];refine cX 3 [2] ?_;simp only[↓U,Ax,aeO,aa];refine aK ((oV pN O O (by omega) (by rw[ah];exact t))) (aK (iK lC Wc O (xS (by omega) (by omega))) (aK aJ ?_));simp only[G];refine aK (cT O O (by omega) (qB (n:=4))) (aK (kS O O ((bZ (by omega) (by omega)).trans (show (8:Int)*((p%4:Nat):Int)=((8*(p%4):Nat):Int) by omega))) ?_);simp only[G];refine aK (rF O O (by omega) (ann (n:=8*(p%4)) (by omega) (by omega))) (aK (avw O O ((ano (s:=8*(p%4+1)) (a:=b.toNat*2^(8*(p%4))) (b:=os[p / 4]) f5 f6 (by omega)).trans (show (((b.toNat*2^(8*(p%4)))+os[p / 4]:Nat):Int)=((os[p / 4]+b.toNat*2^(8*(p%4)):Nat):Int) by omega))) ?_);simp only[G];refine aK (aR lS fA O O (by omega) (by omega) (uZ (show _=p / 4 by omega))) (aZ ?_);intro u m;simp only[G];refine dD m 0 O O O fA (by simp;omega) ⟨rfl,rfl⟩ ?_;intro u m;simp only[G] at m ;rw[mW (by omega)] at m;refine aI ?_;apply aT 5 [0] m;simp only[↓U];apply I0;omega;rw[show ((i:Int)+1)=((i+1:Nat):Int) by omega];exact B (s.size-(i+1)) _ _ (by omega) (by kernel_rfl) ⟨i+1,os.set (p / 4) (os[p / 4]+b.toNat*2^(8*(p%4))),O,m,by omega,by simpa using E,d.set f1,by rw[show s.size-(i+1)=p by omega];exact f3,by rw[show s.size-(i+1)=p by omega];exact f4,O⟩
 apply L 2 [] m;simp only[↓U];obtain rfl:i=s.size:=by omega
 apply aT 2 [0] m;simp only[↓U];refine cK m O O (Nf _ ((m.b 0 O).nat d (by omega) (by omega))) ?_;rintro v u m rfl;apply aH 3 [] m;simp only[↓U];exact aS O O ⟨_,O,m.ext,rJ.of_trim ((m.b 0 O).nat d (n:=K) (by omega) (by omega)) (by rw[e,Nat.sub_self,Nat.pow_zero,Nat.one_mul,nt];rfl)⟩
end
section
attribute [local go_sem] rl
variable{n₀ Bs:Nat}
def nE(n₀ Bs:Nat)(W a:ak):Prop:=Below n₀ W a/\a.heap[Bs]? = W.heap[Bs]?
def nE.refl(n₀ Bs:Nat)(W:ak):nE n₀ Bs W W:=⟨Below.refl _ _,rfl⟩
def nE.trans{A B C:ak}(h:nE n₀ Bs A B)(k:nE n₀ Bs B C):nE n₀ Bs A C:=⟨h.1.trans k.1,k.2.trans h.2⟩
def nE.box{A B:ak}(h:nE n₀ Bs A B){v:aj}(hc:A.cell? ⟨Bs,0,X5⟩=X4 v):B.cell? ⟨Bs,0,X5⟩=X4 v:=(World.cell?_of_block h.2).trans hc
set_option maxRecDepth 100000 in
def ala(F:Fence)(n:Nat)(h7:F.fn 314)(hro:F.round=X5)(hn:1<=n)(l Bs n₀ cap:Nat)(a:Addr)(xs:List Nat)(hreach:xs.length*8<=140737488351232)(hb:a.block<n₀)(J Jx:List (Nat × Nat)->ak->Prop)
 (hY:∀pre x W,J pre W->pre.length<xs.length->YieldAt F (n-1) prog l #[X6 (x.1:Int),.int .u64 (x.2:Int)] W λe W' =>
  (e=.returned (.bool Z)/\J (pre++[x]) W'/\nE n₀ Bs W W')\/(e=.returned (.bool X3)/\Jx (pre++[x]) W'))
 (W:ak) (hBs:W.cell? ⟨Bs,0,X5⟩=X4 (.slice (X4 a) xs.length cap)) (hc:∀j (h:j<xs.length),W.cell? (a.add j)=X4 (.int .u64 (xs[j]:Nat))) (h0:J [] W) :
 CallsIn F n prog 314 #[.func (.yield l) #[] #[],.pointer (X4 ⟨Bs,0,X5⟩)] W λe W'=>(∃v,e=.returned v) /\
  ((∃ys:List (Nat × Nat),ys.map qv=xs.reverse/\J ys W')\/(∃pre,True/\Jx pre W')):=by
 refine callsIn_of_wp func314 O h7 ?_ hro;simp only[ntmps314,ib,ay,bm,aa,ld,iv,iw,jr,jd,bz,cq]
 gi_wp2
 gi_loopw [3] (λi wr=>∃(k:Nat) (pre:List (Nat × Nat)),k<=xs.length/\i=X6 ((k:Int)-1)/\pre.length=xs.length-k/\pre.map qv=(xs.drop k).reverse/\J pre wr/\nE n₀ Bs W wr)
  (λi _=>(intOf i+1).toNat)
 case atStart=>exact⟨xs.length,[],ar _,rfl,by simp,by simp,h0,nE.refl _ _ _⟩
 case round =>
  obtain⟨k,pre,hk,rfl,hpl,hpre,hJs,hnx⟩:=hrel;have hBw:wr.cell? ⟨Bs,0,X5⟩=X4 (.slice (X4 a) xs.length cap):=hnx.box hBs;by_cases hk0:0<k
  . have hlt:k-1<xs.length:=by omega
    have hcx:wr.cell? (a.add (k-1))=X4 (.int .u64 ((xs[k-1]:Nat):Int)):=(hnx.1.cell (by rw[Es];exact hb)).trans (hc _ hlt);obtain⟨fn,tmps,assign,body,hy,hR⟩:=hY pre (k-1,xs[k-1]) wr hJs (by omega);dsimp only at hy;obtain⟨j,rfl⟩:∃j,k=j+1:=⟨k-1,by omega⟩
    rw[show (((j+1:Nat):Int)-1)=(j:Int) by omega];simp only[im] at hy hR hcx hlt
    gi_wp2
    refine hR.mono ?_;rintro e W3 (⟨rfl,hJ3,hk3⟩ | ⟨rfl,hJx3⟩)
    . gi_wp2
      go_roundw
      case rel=>exact⟨j,pre++[(j,xs[j])],by omega,by simp,by simp;omega,by rw[List.drop_eq_getElem_cons hlt,List.reverse_cons,de,hpre];rfl,hJ3,hnx.trans hk3⟩
      case measure=>simp[intOf]
    gi_wp2
    refine bodyPost_ret (results_none O _ _ _) O ?_;exact⟨⟨_,O⟩,.inr ⟨_,trivial,hJx3⟩⟩
  obtain rfl:k=0:=by omega
  gi_wp2
  go_end0
  exact⟨⟨_,O⟩,.inl ⟨pre,by rw[hpre];rfl,hJs⟩⟩
set_option maxRecDepth 100000 in
def aa3(F:Fence)(n:Nat)(h7:F.fn 314)(hro:F.round=X5)(l Bs cap:Nat)(A:Option Addr)(J:List (Nat × Nat)->ak->Prop)(W:ak)(hBs:W.cell? ⟨Bs,0,X5⟩=X4 (.slice A 0 cap))(h0:J [] W) :
 CallsIn F n prog 314 #[.func (.yield l) #[] #[],.pointer (X4 ⟨Bs,0,X5⟩)] W λe W'=>(∃v,e=.returned v)/\J [] W':=by
 refine callsIn_of_wp func314 O h7 ?_ hro;simp only[ntmps314,ib,ay,bm,aa,ld,iv,iw,jr,jd,bz,cq]
 gi_wp2
 gi_loopw [3] (λi wr=>i=X6 (-1)/\J [] wr) (λ_ _=>0)
 case atStart=>exact⟨rfl,h0⟩
 case round =>
  obtain⟨rfl,hJs⟩:=hrel
  gi_wp2
  go_end0
  exact⟨⟨_,O⟩,hJs⟩
def aoB(F:Fence)(n:Nat)(h5:F.fn 257)(hro:F.round=X5)(a:Option Addr)(len cap:Nat)(w:ak) :
 CallsIn F n prog 257 #[.slice a len cap] w λe w'=>e=.returned (.func (.func 314) #[] #[.pointer (X4 ⟨w.heap.size,0,X5⟩)])/\w'=w.alloc (.cells #[.slice a len cap] 233):=by
 refine callsIn_of_wp func257 O h5 ?_ hro;simp only[ntmps257,ib,ay,bm,aa,ld,iv,iw,jr,jd,bz,cq]
 gi_wp2
 go_ret
 exact⟨O,O⟩
def ae4(F:Fence)(n:Nat)(d:F.fn 314)(o:F.round=X5)(t:1<=n)(Bs n₀ cap:Nat)(A:Option Addr)(xs:List Nat)(z:xs.length*8<=140737488351232)(w:ak)(u:Bs<w.heap.size)(y:n₀<=w.heap.size)
 (hc:w.cell? ⟨Bs,0,X5⟩=X4 (.slice A xs.length cap)) (g:∀(i x:Nat),xs[i]? = X4 x->∃a,A=X4 a/\w.cell? (a.add i)=X4 (.int .u64 (x:Int))) (f:∀a,0<xs.length->A=X4 a->a.block<n₀) :
 SeqStopsK F n prog 314 #[.pointer (X4 ⟨Bs,0,X5⟩)] (λx:Nat × Nat=>#[Value.int .i64 (x.1:Int),Value.int .u64 (x.2:Int)]) (nE n₀ Bs) (λys=>ys.map qv=xs.reverse) (λ_=>True) xs.length w:=λl J q W k _ _ r c=>by
 have m:=(k.cell (p:=⟨Bs,0,X5⟩) u).trans hc;rcases ji xs.length with h | h
 . obtain rfl:xs=[]:=ft h
   exact (aa3 F n d o l Bs cap A J W m c).mono λe B ⟨s,b⟩=>⟨s,.inl ⟨[],O,b⟩⟩
 obtain⟨a,rfl,_⟩:=g 0 xs[0] (am h)
 refine ala F n d o t l Bs n₀ cap a xs z (f a h O) J q r W m (λj b=>?_) c;obtain⟨C,e,v⟩:=g j xs[j] (am b);cases e;exact (k.cell (by rw[Es];exact gw (f a h O) y)).trans v
def asz{A:Option Addr}{n cap:Nat}(w:ak):cY prog 257 [.slice A n cap] w (λv w'=>∃g,v=.func (.func 314) #[] #[.pointer (X4 ⟨g,0,X5⟩)]/\w.heap.size<=g/\fQ w' g [.slice A n cap] 233):=by
 refine⟨bJ func257 (by kernel_rfl),(callsIn_wide (n:=2)).1 ((aoB Fence.wide 2 trivial O A n cap w).mono ?_)⟩;rintro e w' ⟨rfl,rfl⟩;exact⟨_,O,(fJ.refl w).alloc _,_,O,ar _,iV w _ _⟩
end
section
set_option maxRecDepth 100000
attribute [local irreducible] az cw fW Code.wp
attribute [local go_sem] rl
def aoC:(prog.info? 5).map (λi=>(i.zero,i.size,i.bytes))=X4 (X4 (.int .u8 0),1,1):=by kernel_rfl
def Tx{W c:ak}{f:Obj}{v v':aj}{base size k g a:Nat}{e t:TypeId}{xs cs:List aj}(b:fQ W g cs t)(m:t≠e)(hr:W.ownsRow base e size v k xs)(j:(W.alloc f).grownBy c v.ownBlock)(l:g≠a):(c.setCell ⟨a,0,X5⟩ v').heap[g]? = W.heap[g]?:=by
 have h1:X4 g≠v.ownBlock:=by
  rcases hr.2 with ⟨rfl,_⟩ | ⟨i,cap,n,rfl,_,d,_⟩
  .simp[Value.ownBlock]
  intro h;obtain rfl:g=i:=by simpa[Value.ownBlock] using h
  rw[b] at d;cases d;exact m O
 exact ((Below.heap_setCell c ⟨a,0,X5⟩ v' g l).trans (j.block g (by simp;have:=b.lt;omega) h1)).trans (Below.heap_alloc W f g b.lt)
def Hs{A:Option Addr}{xs:List Nat}{na cap:Nat}{neg:Bool}(w:ak)(hS:kY w A na cap xs)(hl:xs.length<=100000000000):cY prog 184 [.slice A na cap,.bool neg] w (λv _=>v=W (Vs neg (val 4294967296 xs))):=by
 skip
 refine⟨bJ func184 (by kernel_rfl),?_⟩;have hX:=fJ.refl w;obtain rfl:=hS.eq;have hlt:=vA xs;have hle:=hS.le;refine (callsIn_wide (n:=4)).1 (callsIn_of_wp_marks func184 O trivial ?_ O);simp only[ntmps184,ib,ay,bm,aa,ld,iv,iw,jr,jd,bz,cq];refine wpIn_wide.2 (bM (λK1 hK1=>av ?_));refine Er uG O ?_;intro w1 g1 hE hg1 hB1;have hG1:=be hX.size hg1;replace hX:=hX.trans hE;clear hE hg1;simp only[G];refine aI (hK1 _ _ ?_);refine bM (λK2 hK2=>av (aD aJ ?_));simp only[G];refine bF O O (Nf _ (hS.ext hX)) ?_;rintro v w2 hE rfl;replace hB1:=hB1.ext hE;replace hX:=hX.trans hE;clear hE;simp only[G];refine aD aM ?_;simp only[G];refine aI ?_;obtain⟨ys,hys⟩:∃ys,ys=trim xs:=⟨_,rfl⟩
 rw[<-hys] at hlt ⊢;refine hK2 _ _ (bM (λK3 hK3=>av (aD aJ (aD (Lp O lS O) (aD (kS O O (bZ (by omega) (by omega))) ?_)))));simp only[G];refine tZ pA Yf O O O (show _=0 by omega) (show _=4*ys.length by omega) (by omega) (by omega) (by omega) (by omega) ?_;intro w3 g2 hE hg2 hB2;have hG2:=be hX.size hg2;have hN2_1:g2≠g1:=lp (gw hB1.lt hg2);replace hB1:=hB1.ext hE;replace hX:=hX.trans hE;clear hE hg2;simp only[G];refine Er akd O ?_;intro w4 g3 hE hg3 hB3;have hG3:=be hX.size hg3;have hN3_1:g3≠g1:=lp (gw hB1.lt hg3);have hN3_2:g3≠g2:=lp (gw hB2.lt hg3);replace hB1:=hB1.ext hE;replace hB2:=hB2.ext hE;replace hX:=hX.trans hE;clear hE hg3;simp only[G];refine yY O (by simp only[G];rfl) (by exact ahy) hB3 (by simp) (by simp[qk]) ?_;clear hB3;intro w5 hC hB3;replace hB1:=hB1.chg hC (by first | exact hN1_3 | exact Ne.symm hN3_1);replace hB2:=hB2.chg hC (by first | exact hN2_3 | exact Ne.symm hN3_2);replace hX:=hX.chg hC hG3;clear hC;simp only[zy,zx,over,aa] at hB3;refine aI (hK3 _ _ ?_);refine bM (λK4 hK4=>bM (λK5 hK5=>av (aD aJ ?_)));simp only[G];refine bF O O (asz _) ?_;rintro v w6 hE ⟨g4,rfl,hg4,hB4⟩;have hG4:=be hX.size hg4;have hN4_1:g4≠g1:=lp (gw hB1.lt hg4);have hN4_2:g4≠g2:=lp (gw hB2.lt hg4);have hN4_3:g4≠g3:=lp (gw hB3.lt hg4);replace hB1:=hB1.ext hE;replace hB2:=hB2.ext hE;replace hB3:=hB3.ext hE;replace hX:=hX.trans hE;clear hE hg4;simp only[G];refine aI (hK5 _ _ ?_);refine ki ((wpIn_wide (n:=4)).1 ?_);have hbase:w.heap.size<=w6.heap.size:=hX.size;obtain⟨n0,hn0⟩:∃n0,n0=w.heap.size:=⟨_,rfl⟩
 have hT:kY w6 A ys.length cap ys:=(((hS.ext hX).take (trim xs).length).as (kJ xs).symm |> λh=>by rw[<-kJ,<-hys] at h;exact h)
 have hA:∀a,0<ys.length->A=X4 a->a.block<w.heap.size:=λa h0 e=>by
  obtain⟨a',e',hc⟩:=hS.row 0 (xs[0]'(by omega)) (am (by omega));rw[e] at e';cases e';have:=World.block_lt_of_cell? _ _ hc;rwa [Es] at this
 refine wpIn_rangeFunc_ownG (F:=Fence.wide) O (by omega) (gf:=314) (lb:=#[.pointer (X4 ⟨g4,0,X5⟩)]) O trivial (enters_of func314 (by kernel_rfl) O)
  (ae4 Fence.wide 3 trivial rfl (by omega) g4 w.heap.size cap A ys (by omega) w6 hB4.lt hX.size (hB4.cell rfl) hT.row hA) nE.trans (λW l o o' hl ho _ _=>⟨belowK_b (w:=w6) hX.size W l o o' hl ho ‹_› ‹_›,World.putObj_heap_other (by have:=hB4.lt;omega)⟩) (Below.refl _ _) (λ_=>rfl)
  (λpre W=>((∃v,Boxed W g3 300 v/\W.ownsRow w.heap.size 5 1 v (wbs pre).length ((wbs pre).map u8v)/\True)/\fQ W g1 [.bool X3,.string ⟨#[]⟩] 95/\fQ W g4 [.slice A ys.length cap] 233)/\Below w.heap.size w W)
  (λ_ _ _=>False)
  (OwnFrom.and (OwnFrom.and (Own.from (holdsRow_own w.heap.size g3 300 5 1 (λpre=>(wbs pre).length) (λpre=>(wbs pre).map u8v) (λ_ _=>True)) _) (Own.from (λs X Y row hs hg hr=>⟨(grownBy_keeps_cells hg hr hs.1 rfl).trans hs.1,(grownBy_keeps_cells hg hr hs.2 rfl).trans hs.2⟩) _)) (ownFrom_below (ar _) hX.size))
  (λ_ _ _ _ _ hs _ _=>hs)
  ⟨⟨⟨_,hB3,⟨rfl,.inr ⟨g2,4*ys.length,_,rfl,hG2,hB2,bn _,by show _<=9223372036854775807;omega,by simp,by simp[wbs]⟩⟩,trivial⟩,hB1,hB4⟩,hX⟩
  (λx=>{ tmps:=#[.slice A ys.length cap,.bool neg,undef,undef,.pointer (X4 ⟨g1,0,X5⟩),.pointer (X4 ⟨g3,0,X5⟩),undef,.int .u64 (x.2:Int),undef,.slice A xs.length cap,.slice A ys.length cap,.slice A ys.length cap,X6 (ys.length:Int),X6 (4*(ys.length:Int)),.slice (X4 ⟨g2,0,X5⟩) 0 (4*ys.length),.slice A ys.length cap,.func (.func 314) #[] #[.pointer (X4 ⟨g4,0,X5⟩)],X6 (x.1:Int),.int .u64 (x.2:Int),undef,undef,undef,undef,undef,undef,undef,undef,undef,undef,undef,undef,undef,undef,undef,undef,undef,undef,undef,undef,undef,undef,undef,undef],defers:=[] }) ?assign ?body ?done ?stop
 case assign =>
  intro l x W K hK;clear hys
  gi_wp2
  exact hK
 case stop =>
  rintro D c pre W _ _ h _;exact h.elim
 case body =>
  rintro l pre x W ⟨⟨⟨v,hv,hrow,_⟩,hB1',hB4'⟩,hB⟩ hlt;have hc:=hv.cell;have hwl:(wbs pre).length<=4*pre.length:=Nat.le_of_eq (Rg pre);clear hys;obtain⟨i0,hi,hz0,hz1,hz2⟩:=info_parts aoC
  gi_wp2_with (gi_at_builtin;refine wpListIn_append_own _ O _ _ 300 O w.heap.size 5 i0 (.int .u8 0) 1 1 pA hi hz0 hz1 hz2 O (by decide) _ _ _ O (hrow.alloc _) ⟨W.heap.size,0,X5⟩ 4 4 [.int .u8 ((x.2:Int) / 16777216%256),.int .u8 ((x.2:Int) / 65536%256),.int .u8 ((x.2:Int) / 256%256),.int .u8 ((x.2:Int)%256)] O O ((iV W _ 5).row 0) (by simp[qk]) (by show _<=9223372036854775807;omega) (by omega) (by have:=hB.size;simp;omega) ?_;intro v' w1 hown' hgrow _;obtain⟨g',cap',rfl⟩:=ownsRow_succ hown';obtain⟨hv1,hv2,hr2,hk2,hb2⟩:=hv.appended (by decide) hrow hB.size hG3 hown' hgrow;have hc1:=hv1.cell;have hf1:=hv1.frozen)
  have e1:=Tx hB1' (by decide) hrow hgrow (Ne.symm hN3_1) (v':=.slice (X4 ⟨g',0,X5⟩) ((wbs pre).length+3+1) cap');have e4:=Tx hB4' (by decide) hrow hgrow hN4_3 (v':=.slice (X4 ⟨g',0,X5⟩) ((wbs pre).length+3+1) cap');refine⟨hk2.from _,⟨hb2,e4⟩,⟨⟨_,hv2,?_,trivial⟩,e1.trans hB1',e4.trans hB4'⟩,hB.trans hb2⟩;rw[aiZ,aq,de];have e:(wb x.2).map u8v=[.int .u8 ((x.2:Int) / 16777216%256),.int .u8 ((x.2:Int) / 65536%256),.int .u8 ((x.2:Int) / 256%256),.int .u8 ((x.2:Int)%256)]:=by simp[wb,jy]
  rw[e];exact hr2
 rintro D ls W hD hls ⟨⟨⟨v,hv,hrow,_⟩,hB1',_⟩,hX'⟩ hK';replace hD:=be hX.size hD;clear hB1 hB2 hB3 hB4 hX hG2 hG4 hN2_1 hN3_2 hN4_1 hN4_2 hN4_3 hbase hT;have hB1:=hB1';have hB3:fQ W g3 [v] 300:=hv;have hX:fJ w W:=hX';have hK:Def W D:=⟨hK'⟩
 have hDg1:=hK.ne hB1;have hlb:(wbs ls).length<=1000000000000000:=by
  have:=C List.length hls;rw[cj,List.length_reverse] at this;rw[Rg];omega
 have hbs:nS (iW (wbs ls))=eC (Vs neg (val 4294967296 xs)):=by
  have e:wbs ls=ys.reverse.flatMap wb:=by rw[<-hls,List.flatMap_map];rfl
  have hd:eS 4294967296 ys:=by rw[hys];exact hS.digs.trim
  rw[e,adT hd neg,hys,Is]
 dsimp only;refine hK4 _ _ (bM (λK6 hK6=>av ?_));refine bE O (hB3.lies1 an3 O) ?_;simp only[G];refine fI (Rf pA Wc pN O hrow) ?_;simp only[G];refine aaa O O (ae3 hlb) ?_;intro w7 hE;replace hB1:=hB1.ext hE;(try replace hK:=hK.ext hE);replace hX:=hX.trans hE;clear hE;simp only[G];refine aD aM ?_;simp only[G];refine aI ?_;rw[hbs];refine hK6 _ _ (bM (λK7 hK7=>?_));cases neg
 .refine av (aD aJ (aD aJ ?_));simp only[G];refine pQ O ?_;simp only[G];refine pQ O ?_;simp only[G];refine aD (zX O) (aD aJ (aD (Du O O) ?_));simp only[G];refine yY O (by simp only[G];rfl) (by exact aO) hB1 (by simp) (by simp[qk]) ?_;clear hB1;intro w8 hC hB1
  (try replace hK:=hK.chg hC (by first | assumption | rfl));replace hX:=hX.chg hC hG1
  clear hC;simp only[zy,zx,over,aa] at hB1;refine aI (hK7 _ _ ?_);refine jv ?_;try simp only[dq,Exit.then]
  refine adS hK ?_;replace hB1:=hB1.putD hK (o:=.deferred X5);replace hX:=hX.putD hD (o:=.deferred X5);refine aS O ⟨_,O,(hB1.lies bU aO O O)⟩ ?_;try simp only[zD,zE]
  exact⟨_,O,hX,by simp[Lith.W,aaj,Rh]⟩
 refine av (aD aJ (aD aJ ?_));simp only[G];refine eP O (aD aJ ?_);simp only[G];refine eP O (aD (aqF pN O O) (aD (rQ O) (aD aJ ?_)));simp only[G];refine aD (Du O O) ?_;simp only[G];refine yY O (by simp only[G];rfl) (by exact aO) hB1 (by simp) (by simp[qk]) ?_;clear hB1;intro w8 hC hB1
 (try replace hK:=hK.chg hC (by first | assumption | rfl));replace hX:=hX.chg hC hG1
 clear hC;simp only[zy,zx,over,aa] at hB1;refine aI (hK7 _ _ ?_);refine jv ?_;try simp only[dq,Exit.then]
 refine adS hK ?_;replace hB1:=hB1.putD hK (o:=.deferred X5);replace hX:=hX.putD hD (o:=.deferred X5);refine aS O ⟨_,O,(hB1.lies bU aO O O)⟩ ?_;try simp only[zD,zE]
 exact⟨_,O,hX,by simp[Lith.W,aaj,Rh]⟩
end
section
set_option maxRecDepth 100000
attribute [local irreducible] az cw fW bX cP Code.wp
attribute [local congr] dK dL cR dJ
variable{a:Int}
def Ng(h:Bd 1000000 a):dF prog 191 [W a] (X6 (bA a)):=by
 intro w;refine⟨bJ func191 (by kernel_rfl),?_⟩;have m:=Mem.refl w
 go_enter func191,ntmps191
 apply gH 10 [1,0] m;simp only[↓U,dG];intro k u m;refine bF O O (Yz _ (kG h)) ?_;rintro v u g ⟨j,c1,rfl,i⟩;replace m:=m.ext' g;simp only[G];rw[kE] at i ⊢;apply aH 4 [0,0] m;simp only[↓U,jV];refine bC O ?_ ?_<;>intro d
 .have b:=afL.1 d;apply L 5 [] m;simp only[↓U];refine aS O O ?_;try simp only[zD,zE]
  exact⟨_,O,m.ext,by rw[b];rfl⟩
 apply L 6 [1,0] m;simp only[↓U,mQ,Kg,aa];refine gF O ?_ ?_<;>intro f
 .have c:=Lv f;apply L 5 [] m;simp only[↓U];refine aS O O ?_;try simp only[zD,zE]
  exact⟨_,O,m.ext,by rw[Eu c]⟩
 have c:=Hf f;have b:¬a=0:=λe=>d (afL.2 e);apply L 7 [] m;simp only[↓U];refine aS O O ?_;try simp only[zD,zE]
 exact⟨_,O,m.ext,by rw[Ev (by omega)]⟩
def auA(d:Bd 1000000 a):dF prog 267 [W a] (W (-a)):=by
 intro w;refine⟨bJ func267 (by kernel_rfl),?_⟩;have m:=Mem.refl w
 go_enter func267,ntmps267
 apply gH 6 [0] m;simp only[↓U,jS];intro i j u m;refine mh m [X3,Z] [(2,Z),(0,Z),(3,Z),(4,Z),(1,X3),(5,X3),(6,X3)] aB (by kernel_rfl) (bS (λ_ _ _ _ _ h=>h)) (ol:=?_) ?f ?_
 case f=>simp only[zw,zQ,zR];try rfl
 intro u m;refine Fq 4 [1,1] ?_;simp only[↓U,mQ,dG,Kg,aa];refine bO (bF O O (Yz _ (kG d)) ?_);rintro v u c ⟨g,c1,rfl,e⟩;replace m:=m.ext' c;simp only[G];rw[kE] at e ⊢;refine aI ⟨m.sel [X3,Z],?_⟩;refine bO (bF O O (Hs _ e (be (Hg d) (by decide))) ?_);rintro v u c rfl;replace m:=m.ext' c;simp only[G];simp only[iE];refine aI ⟨m.sel [X3,Z],?_⟩;refine bO (bP m 0 O O O aO (gS O) O ?_);intro u m;simp only[zy,zx,over,zF,zG,aa] at m;refine aI ⟨m.sel [X3,Z],?_⟩;refine bR ?_;rw[afI] at m;apply aT 1 [] m;simp only[↓U];exact aS O ⟨_,O,((m.b 0 O).full bU aO)⟩ ⟨_,O,m.ext,O⟩
def Za{b:Int}(j:Bd 1000000 a)(k:Bd 1000000 b):dF prog 121 [W a,W b] (W (a+b)):=by
 intro w;refine⟨bJ func121 (by kernel_rfl),?_⟩;have m:=Mem.refl w;have n:=Hg j;have o:=Hg k;have C:=Hg (Bd.add j k)
 go_enter func121,ntmps121
 apply gH 7 [0] m;simp only[↓U,jS];intro z A B u m;refine mh m [Z,Z,Z] [(0,Z),(2,Z),(1,X3),(3,X3),(4,Z),(5,Z)] aB (by kernel_rfl) (bS (λ_ _ _ _ _ h=>h)) (ol:=?_) ?g ?_
 case g=>simp only[zw,zQ,zR];try rfl
 intro u m;refine Fq 2 [3,2] ?_;simp only[↓U,dG];refine bO (bF O O (Yz _ (kG j)) ?_);rintro v u c ⟨x,c1,rfl,d⟩;replace m:=m.ext' c;simp only[G];rw[kE] at d ⊢;refine aI ⟨m,?_⟩;refine bO (bF O O (Yz _ (kG k)) ?_);rintro v u c ⟨y,c2,rfl,e⟩;replace m:=m.ext' c;replace d:=d.ext c;simp only[G];rw[kE] at e ⊢;refine aI ⟨m,?_⟩;refine bG aM (bG aM (bR ?_));apply aT 8 [3,2,0] m;simp only[↓U,mQ,Kg,aa];refine aD (aiX Wb O O) ?_;apply aH 2 [0] m;simp only[↓U];refine bC O ?_ ?_<;>intro l
 .apply L 1 [0] m;simp only[↓U];refine mhe m [X3,Z,Z] [(0,Z),(1,Z),(3,Z),(4,Z),(2,X3),(5,X3),(6,X3)] aB (by kernel_rfl) (bS (λ_ _ _ _ _ h=>h)) (ol:=?_) ?g ?_
  case g=>simp only[zw,zQ,zR];try rfl
  intro u c m;replace d:=d.ext c;replace e:=e.ext c;refine Fq 4 [2] ?_;simp only[↓U,mQ,Kg,aa];refine bO (bF O O (auy _ d e (be n (by decide)) (be o (by decide))) ?_);rintro v u c ⟨p,q,rfl,f⟩;replace m:=m.ext' c;refine aI ⟨m.sel [X3,Z,Z],?_⟩;refine bO ?_;simp only[G];simp only[iE] at f ⊢;have i:(digs 4294967296 (a.natAbs+b.natAbs)).length<=100000000000:=be (ag8 j k) (by decide);refine bF O O (Hs _ f i) ?_;rintro v u c rfl;replace m:=m.ext' c;simp only[G];simp only[iE];refine aI ⟨m.sel [X3,Z,Z],?_⟩;refine bO (bP m 0 O O O aO (gS O) O ?_);intro u m;simp only[zy,zx,over,zF,zG,aa] at m;refine aI ⟨m.sel [X3,Z,Z],?_⟩;refine bR ?_;rw[afJ l] at m;apply aT 1 [] m;simp only[↓U];exact aS O ⟨_,O,((m.b 0 O).full bU aO)⟩ ⟨_,O,m.ext,O⟩
 apply L 4 [0] m;simp only[↓U];refine bF O O (aux _ d e (Cn _) (Cn _)) ?_;rintro v u c rfl;replace m:=m.ext' c;replace d:=d.ext c;replace e:=e.ext c;simp only[G];simp only[iE];apply aH 3 [0,0] m;simp only[↓U];refine bC O ?_ ?_<;>intro r
 .have t:=Ra.1 r;apply L 1 [0] m;simp only[↓U];refine mhe m [X3,Z,Z] [(0,Z),(1,Z),(3,Z),(4,Z),(2,X3),(5,X3),(6,X3)] aB (by kernel_rfl) (bS (λ_ _ _ _ _ h=>h)) (ol:=?_) ?g ?_
  case g=>simp only[zw,zQ,zR];try rfl
  intro u c m;replace d:=d.ext c;replace e:=e.ext c;refine Fq 4 [1] ?_;simp only[↓U,mQ,Kg,aa];refine bO (bF O O (ap8 _ e d (aak (Nat.le_of_lt t)) (by simp only[iE];omega) (be o (by decide))) ?_);rintro v u c ⟨⟨p,q,rfl,f⟩,_⟩;replace m:=m.ext' c;simp only[G];simp only[iE] at f ⊢;have i:=aak (rf b.natAbs a.natAbs);refine aI ⟨m.sel [X3,Z,Z],?_⟩;refine bO (bF O O (Hs _ f (be i (be o (by decide)))) ?_);rintro v u c rfl;replace m:=m.ext' c;simp only[G];simp only[iE];refine aI ⟨m.sel [X3,Z,Z],?_⟩;refine bO (bP m 0 O O O aO (gS O) O ?_);intro u m;simp only[zy,zx,over,zF,zG,aa] at m;refine aI ⟨m.sel [X3,Z,Z],?_⟩;refine bR ?_;rw[ai0 l t] at m;apply aT 1 [] m;simp only[↓U];exact aS O ⟨_,O,((m.b 0 O).full bU aO)⟩ ⟨_,O,m.ext,O⟩
 have s:b.natAbs<=a.natAbs:=Nat.le_of_not_lt λh=>r (Ra.2 h);apply L 3 [0] m;simp only[↓U];refine mhe m [X3,Z,Z] [(0,Z),(1,Z),(3,Z),(4,Z),(2,X3),(5,X3),(6,X3)] aB (by kernel_rfl) (bS (λ_ _ _ _ _ h=>h)) (ol:=?_) ?g ?_
 case g=>simp only[zw,zQ,zR];try rfl
 intro u c m;replace d:=d.ext c;replace e:=e.ext c;refine Fq 4 [2] ?_;simp only[↓U,mQ,Kg,aa];refine bO (bF O O (ap8 _ d e (aak s) (by simp only[iE];omega) (be n (by decide))) ?_);rintro v u c ⟨⟨p,q,rfl,f⟩,_⟩;replace m:=m.ext' c;simp only[G];simp only[iE] at f ⊢;have i:=aak (rf a.natAbs b.natAbs);refine aI ⟨m.sel [X3,Z,Z],?_⟩;refine bO (bF O O (Hs _ f (be i (be n (by decide)))) ?_);rintro v u c rfl;replace m:=m.ext' c;simp only[G];simp only[iE];refine aI ⟨m.sel [X3,Z,Z],?_⟩;refine bO (bP m 0 O O O aO (gS O) O ?_);intro u m;simp only[zy,zx,over,zF,zG,aa] at m;refine aI ⟨m.sel [X3,Z,Z],?_⟩;refine bR ?_;rw[ai1 l s] at m;apply aT 1 [] m;simp only[↓U];exact aS O ⟨_,O,((m.b 0 O).full bU aO)⟩ ⟨_,O,m.ext,O⟩
def Gu{b:Int}(d:Bd 1000000 a)(c:Bd 1000000 b):dF prog 192 [W a,W b] (W (a-b)):=by
 intro w;refine⟨bJ func192 (by kernel_rfl),?_⟩;have m:=Mem.refl w
 go_enter func192,ntmps192
 apply gH 7 [0] m;simp only[↓U,jS];intro e f g u m;refine cI m 4 aB (by kernel_rfl) ?_;simp only[zy];refine ql O (λu m=>((m.b 2 O).full bU aO)) ?_;simp only[G];refine ql O (λu m=>((m.b 1 O).full bU aO)) ?_;simp only[G];refine eH O O (auA c) ?_;simp only[G];refine eH O O (Za d c.neg) (aZ ?_);intro u m;simp only[G];refine bP m 0 O O O aO (gS O) O ?_;intro u m;simp only[zy,zx,over,zF,zG,aa] at m;refine aI ?_;rw[<-qh] at m;apply aT 1 [] m;simp only[↓U];exact aS O ⟨_,O,((m.b 0 O).full bU aO)⟩ ⟨_,O,m.ext,O⟩
def tV{b:Int}(e:Bd 1000000 a)(f:Bd 1000000 b):dF prog 122 [W a,W b] (W (a*b)):=by
 intro w;refine⟨bJ func122 (by kernel_rfl),?_⟩;have m:=Mem.refl w;have j:=Hg e;have k:=Hg f;have l:=Hg (Bd.mul e f)
 go_enter func122,ntmps122
 apply gH 7 [0] m;simp only[↓U,jS];intro s t x u m;refine mh m [X3,Z,Z] [(5,Z),(7,Z),(0,Z),(2,Z),(6,Z),(8,Z),(9,Z),(1,X3),(3,X3),(4,X3),(10,X3),(11,X3)] aB (by kernel_rfl) (bS (λ_ _ _ _ _ h=>h)) (ol:=?_) ?n ?_
 case n=>simp only[zw,zQ,zR];try rfl
 intro u m;refine Fq 6 [2,1,2,1] ?_;simp only[↓U,mQ,dG,Kg,aa];refine bG (Re Wb O O) (bO ?_);simp only[G];refine bF O O (Yz _ (kG e)) ?_;rintro v u c ⟨o,c1,rfl,d⟩;replace m:=m.ext' c;simp only[G];rw[kE] at d ⊢;refine aI ⟨m.sel [X3,Z,Z],?_⟩;refine bO (bF O O (Yz _ (kG f)) ?_);rintro v u c ⟨p,c2,rfl,i⟩;replace m:=m.ext' c;replace d:=d.ext c;simp only[G];rw[kE] at i ⊢;refine aI ⟨m.sel [X3,Z,Z],?_⟩;refine bO (bF O O (auz _ d i (be j (by decide)) (be k (by decide))) ?_);rintro v u c ⟨q,r,rfl,g⟩;replace m:=m.ext' c;simp only[G];simp only[iE] at g ⊢;rw[<-kd] at g ⊢;refine aI ⟨m.sel [X3,Z,Z],?_⟩;refine bO (bF O O (Hs _ g (be l (by decide))) ?_);rintro v u c rfl;replace m:=m.ext' c;simp only[G];simp only[iE];refine aI ⟨m.sel [X3,Z,Z],?_⟩;refine bO (bP m 0 O O O aO (gS O) O ?_);intro u m;simp only[zy,zx,over,zF,zG,aa] at m;refine aI ⟨m.sel [X3,Z,Z],?_⟩;refine bR ?_;rw[kd,afK] at m;apply aT 1 [] m;simp only[↓U];exact aS O ⟨_,O,((m.b 0 O).full bU aO)⟩ ⟨_,O,m.ext,O⟩
def auB{b:Int}(c:Bd 900000 a)(d:Bd 900000 b):dF prog 126 [W a,W b] (X6 (bA (a-b))):=by
 intro w;refine⟨bJ func126 (by kernel_rfl),?_⟩;have m:=Mem.refl w
 go_enter func126,ntmps126
 apply gH 10 [2,1,0] m;simp only[↓U,dG];intro e f u m;refine jG m O O (Gu (c.mono (by decide)) (d.mono (by decide))) ?_;intro u m;simp only[G];refine lD m O O (Ng ((Bd.sub c d).mono (by decide))) 3 [] ?_;simp only[↓U];intro u m;exact aS O O ⟨_,O,m.ext,O⟩
def qU{n:Int}(h:rS n):dF prog 118 [X6 n] (W n):=by
 intro w;refine⟨bJ func118 (by kernel_rfl),?_⟩;have m:=Mem.refl w;have f:=h.natAbs
 go_enter func118,ntmps118
 apply gH 5 [] m;simp only[↓U,jS];intro g u m;rcases (show n<0\/0<=n by omega) with h0 | h0
 .apply aT 2 [0] m;simp only[↓U];refine aD (iK lC iT O (afM h h0)) ?_;apply aH 11 [1,0] m;simp only[↓U];apply I0;omega;refine aD (uX O (Xb f (by omega))) ?_;apply aH 5 [0] m;simp only[↓U];refine aD (lH O O (afF (by omega))) ?_;apply aH 1 [0] m;simp only[↓U];refine aD (kW O O (by omega) adL) ?_;simp only[G];refine abL lS (z:=.int .u64 0) (by kernel_rfl) O O O O O ?_;intro u e a c d;replace m:=m.newB a c d;apply aH 2 [1,0] m;simp only[↓U];apply I0;omega;refine cK m O O (Hs _ ((m.b 0 O).nat (os:=[n.natAbs%4294967296,n.natAbs / 4294967296]) (Ri (by omega)) O (by omega)) (by simp)) ?_;rintro v u m rfl;apply lK 3 [1] m;simp only[↓U,dG,aa];intro u m;refine aS O ⟨_,O,((m.b 1 O).full bU aO)⟩ ?_;try simp only[zD,zE]
  exact⟨_,O,m.ext,by rw[Xc,show Z=dH n from (Y0 h0).symm,Iz];rfl⟩
 apply aT 2 [0] m;simp only[↓U];refine aD (iK lC iT O (ai2 h h0)) ?_;apply aH 13 [2,0] m;simp only[↓U];apply I0;omega;refine aD (lH O O (afF (by omega))) ?_;apply aH 1 [0] m;simp only[↓U];refine aD (kW O O (by omega) adL) ?_;simp only[G];refine abL lS (z:=.int .u64 0) (by kernel_rfl) O O O O O ?_;intro u e a c d;replace m:=m.newB a c d;apply aH 2 [2,0] m;simp only[↓U];apply I0;omega;refine cK m O O (Hs _ ((m.b 0 O).nat (os:=[n.natAbs%4294967296,n.natAbs / 4294967296]) (Ri (by omega)) O (by omega)) (by simp)) ?_;rintro v u m rfl;apply lK 3 [1] m;simp only[↓U,dG,aa];intro u m;refine aS O ⟨_,O,((m.b 1 O).full bU aO)⟩ ?_;try simp only[zD,zE]
 exact⟨_,O,m.ext,by rw[Xc,show X3=dH n from (Y (by omega)).symm,Iz];rfl⟩
end
section
set_option maxRecDepth 100000
attribute [local irreducible] az cw fW Code.wp
end
section
set_option maxRecDepth 100000
attribute [local irreducible] az cw fW bX cP Code.wp
attribute [local congr] dK dL cR dJ
variable{q u a c d:H}{t:T3}
def auC{p:H}:dF prog 276 [pt p] (X6 p.x):=by
 intro w;refine⟨ajZ,?_⟩;have m:=Mem.refl w
 go_enter func276,ntmps276
 apply gH 12 [1] m;simp only[↓U,akN,dC,aa];intro a u m;exact aS O O ⟨_,O,m.ext,O⟩
def auD{p:H}:dF prog 277 [pt p] (X6 p.y):=by
 intro w;refine⟨aj0,?_⟩;have m:=Mem.refl w
 go_enter func277,ntmps277
 apply gH 12 [1] m;simp only[↓U,akO,dC,aa];intro a u m;exact aS O O ⟨_,O,m.ext,O⟩
def auE{p:H}:dF prog 278 [pt p] (X6 p.z):=by
 intro w;refine⟨aj1,?_⟩;have m:=Mem.refl w
 go_enter func278,ntmps278
 apply gH 12 [1] m;simp only[↓U,akP,dC,aa];intro a u m;exact aS O O ⟨_,O,m.ext,O⟩
def asA  : dF prog 195 [] (.agg #[.func (.func 276) #[] #[],.func (.func 277) #[] #[],.func (.func 278) #[] #[]]):=by
 intro w;refine⟨ajY,?_⟩;have m:=Mem.refl w
 go_enter func195,ntmps195
 apply gH 10 [0] m;simp only[↓U,ar2,ar3,ar1,aa];intro a u m;exact aS O ⟨_,O,((m.b 0 O).full af8 Mm)⟩ ⟨_,O,m.ext,O⟩
def alb  : dF prog 336 [X6 0] (.tuple #[X6 1,X6 2]):=by
 intro w;refine⟨aex,?_⟩;have m:=Mem.refl w
 go_enter func336,ntmps336
 apply fF 9 [0] m;simp only[↓U,an];apply I0;omega;refine aD (cT (m:=1) (n:=3) (r:=1) O O (by decide) (by decide)) ?_;apply aH 2 [0] m;simp only[↓U,an];apply I0;omega;refine aD (cT (m:=2) (n:=3) (r:=2) O O (by decide) (by decide)) ?_;apply aH 4 [] m;simp only[↓U];exact wE O O O ⟨_,O,m.ext,O⟩
def alc  : dF prog 336 [X6 1] (.tuple #[X6 2,X6 0]):=by
 intro w;refine⟨aex,?_⟩;have m:=Mem.refl w
 go_enter func336,ntmps336
 apply fF 9 [0] m;simp only[↓U,an];apply I0;omega;refine aD (cT (m:=2) (n:=3) (r:=2) O O (by decide) (by decide)) ?_;apply aH 2 [0] m;simp only[↓U,an];apply I0;omega;refine aD (cT (m:=3) (n:=3) (r:=0) O O (by decide) (by decide)) ?_;apply aH 4 [] m;simp only[↓U];exact wE O O O ⟨_,O,m.ext,O⟩
def ald  : dF prog 336 [X6 2] (.tuple #[X6 0,X6 1]):=by
 intro w;refine⟨aex,?_⟩;have m:=Mem.refl w
 go_enter func336,ntmps336
 apply fF 9 [0] m;simp only[↓U,an];apply I0;omega;refine aD (cT (m:=3) (n:=3) (r:=0) O O (by decide) (by decide)) ?_;apply aH 2 [0] m;simp only[↓U,an];apply I0;omega;refine aD (cT (m:=4) (n:=3) (r:=1) O O (by decide) (by decide)) ?_;apply aH 4 [] m;simp only[↓U];exact wE O O O ⟨_,O,m.ext,O⟩
def nF{p:H}[I3 p][I3 q]:dF prog 223 [pt p,pt q] (wv (q.sub p)):=by
 intro w;refine⟨bJ func223 (by kernel_rfl),?_⟩;have m:=Mem.refl w
 go_enter func223,ntmps223
 apply gH 13 [0] m;simp only[↓U,akS];intro a c d e u m;refine lD m O O asA 17 [4,1,0] ?_;simp only[↓U];apply I0;omega;intro u m;refine aD (Gp O O) ?_;apply aH 3 [0] m;simp only[↓U];refine cI m 11 aB (by kernel_rfl) ?_;simp only[zy];refine cX 3 [3] ?_;simp only[↓U,aP];refine eH O O auC ?_;simp only[G];refine eH O O (qU Iw.h) (aK aJ ?_);simp only[G];refine ql O (λu m=>((m.b 3 O).full aG aA)) ?_;simp only[G];refine eH O O auC ?_;simp only[G];refine eH O O (qU Iw.h) ?_;simp only[G];refine eH O O (Gu M.up M.up) (cX 1 [] ?_);simp only[↓U,pD,ad,ag,aa];apply I0;omega;refine aZ ?_;intro u m;refine bP m 0 O O O aO (gS O) O ?_;intro u m;simp only[zy,zx,over,zF,zG,aa] at m;refine aI ?_;apply aT 18 [1,0] m;simp only[↓U,an];apply I0;omega;refine aD (Gq O O) ?_;apply aH 3 [0] m;simp only[↓U];refine cI m 11 aB (by kernel_rfl) ?_;simp only[zy];refine cX 3 [3] ?_;simp only[↓U,aP];refine eH O O auD ?_;simp only[G];refine eH O O (qU Iw.h) (aK aJ ?_);simp only[G];refine ql O (λu m=>((m.b 3 O).full aG aA)) ?_;simp only[G];refine eH O O auD ?_;simp only[G];refine eH O O (qU Iw.h) ?_;simp only[G];refine eH O O (Gu M.up M.up) (cX 1 [] ?_);simp only[↓U,pD,ad,ag,aa];apply I0;omega;refine aZ ?_;intro u m;refine bP m 0 O O O aO (gS O) O ?_;intro u m;simp only[zy,zx,over,zF,zG,aa] at m;refine aI ?_;apply aT 18 [1,0] m;simp only[↓U,an];apply I0;omega;refine aD (Gr O O) ?_;apply aH 3 [0] m;simp only[↓U];refine cI m 11 aB (by kernel_rfl) ?_;simp only[zy];refine cX 3 [3] ?_;simp only[↓U,aP];refine eH O O auE ?_;simp only[G];refine eH O O (qU Iw.h) (aK aJ ?_);simp only[G];refine ql O (λu m=>((m.b 3 O).full aG aA)) ?_;simp only[G];refine eH O O auE ?_;simp only[G];refine eH O O (qU Iw.h) ?_;simp only[G];refine eH O O (Gu M.up M.up) (cX 1 [] ?_);simp only[↓U,pD,ad,ag,aa];apply I0;omega;refine aZ ?_;intro u m;refine bP m 0 O O O aO (gS O) O ?_;intro u m;simp only[zy,zx,over,zF,zG,aa] at m;refine aI ?_;apply Mr 19 [2,1,1] m;simp only[↓U,akR,an,aa];apply I0;omega;intro u m;exact aS O ⟨_,O,((m.b 1 O).full af9 Yh)⟩ ⟨_,O,m.ext,O⟩
def Bc{v:H}(f:Bv 400000 u)(g:Bv 400000 v):dF prog 302 [wv u,wv v] (wv (u.cross v)):=by
 intro w;refine⟨bJ func302 (by kernel_rfl),?_⟩;have m:=Mem.refl w
 go_enter func302,ntmps302
 apply gH 35 [4,1,0] m;simp only[↓U,akS];intro a c d e;apply I0;omega;intro u m;refine lD m O O alb 6 [0] ?_;simp only[↓U];intro u m;refine cI m 17 aB (by kernel_rfl) ?_;simp only[zy];refine cX 7 [4,3] ?_;simp only[↓U,pD,dG,ad,ag,aa];apply I0;omega;refine eH O O (tV M.up M.up) (cX 6 [4,3] ?_);simp only[↓U,pD,dG,ad,ag,aa];apply I0;omega;refine eH O O (tV M.up M.up) ?_;simp only[G];refine eH O O (Gu M.up M.up) (cX 1 [] ?_);simp only[↓U,pD,ad,ag,aa];apply I0;omega;refine aZ ?_;intro u m;refine bP m 0 O O O aO (gS O) O ?_;intro u m;simp only[zy,zx,over,zF,zG,aa] at m;refine aI ?_;apply aT 23 [1,0] m;simp only[↓U,an];apply I0;omega;refine lD m O O alc 6 [0] ?_;simp only[↓U];intro u m;refine cI m 17 aB (by kernel_rfl) ?_;simp only[zy];refine cX 7 [4,3] ?_;simp only[↓U,pD,dG,ad,ag,aa];apply I0;omega;refine eH O O (tV M.up M.up) (cX 6 [4,3] ?_);simp only[↓U,pD,dG,ad,ag,aa];apply I0;omega;refine eH O O (tV M.up M.up) ?_;simp only[G];refine eH O O (Gu M.up M.up) (cX 1 [] ?_);simp only[↓U,pD,ad,ag,aa];apply I0;omega;refine aZ ?_;intro u m;refine bP m 0 O O O aO (gS O) O ?_;intro u m;simp only[zy,zx,over,zF,zG,aa] at m;refine aI ?_;apply aT 23 [1,0] m;simp only[↓U,an];apply I0;omega;refine lD m O O ald 6 [0] ?_;simp only[↓U];intro u m;refine cI m 17 aB (by kernel_rfl) ?_;simp only[zy];refine cX 7 [4,3] ?_;simp only[↓U,pD,dG,ad,ag,aa];apply I0;omega;refine eH O O (tV M.up M.up) (cX 6 [4,3] ?_);simp only[↓U,pD,dG,ad,ag,aa];apply I0;omega;refine eH O O (tV M.up M.up) ?_;simp only[G];refine eH O O (Gu M.up M.up) (cX 1 [] ?_);simp only[↓U,pD,ad,ag,aa];apply I0;omega;refine aZ ?_;intro u m;refine bP m 0 O O O aO (gS O) O ?_;intro u m;simp only[zy,zx,over,zF,zG,aa] at m;refine aI ?_;apply Mr 19 [2,1,1] m;simp only[↓U,akR,an,aa];apply I0;omega;intro u m;exact aS O ⟨_,O,((m.b 1 O).full af9 Yh)⟩ ⟨_,O,m.ext,O⟩
def asB{b:Int}(a:Bd 1000000 b):dF prog 121 [.agg #[.bool X3,.string ⟨#[]⟩],W b] (W (0+b)):=by
 rw[<-aal];exact Za (Pt _) a
def Ox{v:H}(f:Bv 400000 u)(g:Bv 400000 v):dF prog 224 [wv u,wv v] (W (u.dot v)):=by
 intro w;refine⟨bJ func224 (by kernel_rfl),?_⟩;have m:=Mem.refl w
 go_enter func224,ntmps224
 apply gH 32 [4,1,0] m;simp only[↓U,jS];intro a c d e;apply I0;omega;intro u m;refine cI m 9 aB (by kernel_rfl) ?_;simp only[zy];refine cX 7 [1,4,3] ?_;simp only[↓U,dG,pD,ad,ag,aa];apply I0;omega;refine eH O O (tV M.up M.up) ?_;simp only[G];refine eH O O (asB M.up) (aZ ?_);intro u m;simp only[G];refine bP m 0 O O O aO (gS O) O ?_;intro u m;simp only[zy,zx,over,zF,zG,aa] at m;refine aI ?_;apply aT 20 [1,0] m;simp only[↓U,an];apply I0;omega;refine cI m 9 aB (by kernel_rfl) ?_;simp only[zy];refine cX 7 [1,4,3] ?_;simp only[↓U,dG,pD,ad,ag,aa];apply I0;omega;refine eH O O (tV M.up M.up) ?_;simp only[G];refine eH O O (Za M.up M.up) (aZ ?_);intro u m;simp only[G];refine bP m 0 O O O aO (gS O) O ?_;intro u m;simp only[zy,zx,over,zF,zG,aa] at m;refine aI ?_;apply aT 20 [1,0] m;simp only[↓U,an];apply I0;omega;refine cI m 9 aB (by kernel_rfl) ?_;simp only[zy];refine cX 7 [1,4,3] ?_;simp only[↓U,dG,pD,ad,ag,aa];apply I0;omega;refine eH O O (tV M.up M.up) ?_;simp only[G];refine eH O O (Za M.up M.up) (aZ ?_);intro u m;simp only[G];refine bP m 0 O O O aO (gS O) O ?_;intro u m;simp only[zy,zx,over,zF,zG,aa] at m;refine aI ?_;apply Mr 19 [2,1,1] m;simp only[↓U,dG,an,aa];apply I0;omega;intro u m;refine aS O ⟨_,O,((m.b 1 O).full bU aO)⟩ ?_;try simp only[zD,zE]
 exact⟨_,O,m.ext,by rw[<-H.dot0];rfl⟩
def Ty[IT t]:dF prog 239 [tr t] (wv t.normal):=by
 intro w;refine⟨bJ func239 (by kernel_rfl),?_⟩;have m:=Mem.refl w
 go_enter func239,ntmps239
 apply gH 6 [0] m;simp only[↓U,Mw];intro a c u m;refine cI m 11 aB (by kernel_rfl) ?_;simp only[zy];refine cX 4 [2,2] ?_;simp only[↓U,bQ,aP,ad,ag,aa];apply I0;omega;refine eH O O nF (cX 4 [2,2] ?_);simp only[↓U,bQ,aP,ad,ag,aa];apply I0;omega;refine eH O O nF ?_;simp only[G];refine eH O O (Bc Bv.of Bv.of) (aZ ?_);intro u m;simp only[G];refine bP m 0 O O O pL (gS O) O ?_;intro u m;simp only[zy,zx,over,zF,zG,aa] at m;refine aI ?_;apply aT 1 [] m;simp only[↓U];exact aS O ⟨_,O,((m.b 0 O).full Qe pL)⟩ ⟨_,O,m.ext,O⟩
def oR{X:Nat}(w:ak)(g:X<18446744073709551616):cY prog 255 [.int .u64 X] w (λv _=>∃n:Int,v=X6 n/\0<=n/\n<=64/\(n<=18->X<262144)):=by
 refine⟨bJ func255 (by kernel_rfl),?_⟩;have m:=Mem.refl w
 go_enter func255,ntmps255
 apply fF 10 [0,0] m;simp only[↓U];refine bC O ?_ ?_<;>intro f
 .apply L 3 [0] m;simp only[↓U];refine aD (kW O O (by omega) adL) ?_;apply aH 11 [0,0] m;simp only[↓U];refine bC O ?_ ?_<;>intro e
  .apply L 3 [0] m;simp only[↓U];refine aD (kW O O (by omega) ai6) ?_;apply aH 13 [0,0] m;simp only[↓U,an];apply I0;omega;refine bC O ?_ ?_<;>intro d
   .apply L 3 [0] m;simp only[↓U];refine aD (kW O O (by omega) afO) ?_;apply aH 12 [0] m;simp only[↓U,Eb,xJ,an];apply I0;omega;refine Cv pN (by kernel_rfl) O (by omega) ?_;intro b c a;simp only[Ci,sC,wH,jc,jb,gn,iy];apply aH 5 [] m;simp only[↓U,xJ,Kf];apply I0;omega;exact aS O O ⟨_,O,m.ext,_,O,by omega,by omega,by omega⟩
   apply L 6 [0] m;simp only[↓U,Eb,xJ];apply I0;omega;refine Cv pN (by kernel_rfl) O (by omega) ?_;intro b c a;simp only[Ci,sC,wH,jc,jb,gn,iy];apply aH 5 [] m;simp only[↓U,xJ,Kf];apply I0;omega;exact aS O O ⟨_,O,m.ext,_,O,by omega,by omega,by omega⟩
  apply L 7 [0,0] m;simp only[↓U];refine bC O ?_ ?_<;>intro d
  .apply L 3 [0] m;simp only[↓U];refine aD (kW O O (by omega) afO) ?_;apply aH 12 [0] m;simp only[↓U,Eb,xJ,an];apply I0;omega;refine Cv pN (by kernel_rfl) O (by omega) ?_;intro b c a;simp only[Ci,sC,wH,jc,jb,gn,iy];apply aH 5 [] m;simp only[↓U,xJ,Kf];apply I0;omega;exact aS O O ⟨_,O,m.ext,_,O,by omega,by omega,by omega⟩
  apply L 6 [0] m;simp only[↓U,Eb,xJ];apply I0;omega;refine Cv pN (by kernel_rfl) O (by omega) ?_;intro b c a;simp only[Ci,sC,wH,jc,jb,gn,iy];apply aH 5 [] m;simp only[↓U,xJ,Kf];apply I0;omega;exact aS O O ⟨_,O,m.ext,_,O,by omega,by omega,by omega⟩
 apply L 7 [0,0] m;simp only[↓U];refine bC O ?_ ?_<;>intro e
 .apply L 3 [0] m;simp only[↓U];refine aD (kW O O (by omega) ai6) ?_;apply aH 13 [0,0] m;simp only[↓U,an];apply I0;omega;refine bC O ?_ ?_<;>intro d
  .apply L 3 [0] m;simp only[↓U];refine aD (kW O O (by omega) afO) ?_;apply aH 12 [0] m;simp only[↓U,Eb,xJ,an];apply I0;omega;refine Cv pN (by kernel_rfl) O (by omega) ?_;intro b c a;simp only[Ci,sC,wH,jc,jb,gn,iy];apply aH 5 [] m;simp only[↓U,xJ,Kf];apply I0;omega;exact aS O O ⟨_,O,m.ext,_,O,by omega,by omega,by omega⟩
  apply L 6 [0] m;simp only[↓U,Eb,xJ];apply I0;omega;refine Cv pN (by kernel_rfl) O (by omega) ?_;intro b c a;simp only[Ci,sC,wH,jc,jb,gn,iy];apply aH 5 [] m;simp only[↓U,xJ,Kf];apply I0;omega;exact aS O O ⟨_,O,m.ext,_,O,by omega,by omega,by omega⟩
 apply L 7 [0,0] m;simp only[↓U];refine bC O ?_ ?_<;>intro d
 .apply L 3 [0] m;simp only[↓U];refine aD (kW O O (by omega) afO) ?_;apply aH 12 [0] m;simp only[↓U,Eb,xJ,an];apply I0;omega;refine Cv pN (by kernel_rfl) O (by omega) ?_;intro b c a;simp only[Ci,sC,wH,jc,jb,gn,iy];apply aH 5 [] m;simp only[↓U,xJ,Kf];apply I0;omega;exact aS O O ⟨_,O,m.ext,_,O,by omega,by omega,by omega⟩
 apply L 6 [0] m;simp only[↓U,Eb,xJ];apply I0;omega;refine Cv pN (by kernel_rfl) O (by omega) ?_;intro b c a;simp only[Ci,sC,wH,jc,jb,gn,iy];apply aH 5 [] m;simp only[↓U,xJ,Kf];apply I0;omega;exact aS O O ⟨_,O,m.ext,_,O,by omega,by omega,by omega⟩
def qW{p:H}[hp:S3 p][hq:S3 q]:dF prog 299 [pt p,pt q] (nv (q.sub p)):=by
 intro w;refine⟨bJ func299 (by kernel_rfl),?_⟩;have m:=Mem.refl w;have:=hp.x;have:=hp.y;have:=hp.z;have:=hq.x;have:=hq.y;have:=hq.z
 go_enter func299,ntmps299
 apply gH 27 [2,3,2,3,2,3,0] m;simp only[↓U,akU,gN,dC,gQ,iG,asc,akT,aa];intro a c d;apply I0;omega;intro u m;exact aS O ⟨_,O,((m.b 0 O).full aga Yi)⟩ ⟨_,O,m.ext,O⟩
def Gv{v:H}(a:N3 u)(c:N3 v):dF prog 300 [nv u,nv v] (nv (u.cross v)):=by
 intro w;refine⟨bJ func300 (by kernel_rfl),?_⟩;have m:=Mem.refl w
 go_enter func300,ntmps300
 apply gH 35 [4,1,0] m;simp only[↓U,akU];intro d e f g;apply I0;omega;intro u m;refine lD m O O alb 6 [0] ?_;simp only[↓U];intro u m;refine cI m 17 aB (by kernel_rfl) ?_;simp only[zy];refine cX 7 [4,3] ?_;simp only[↓U,tJ,dC,ad,ag,aa];apply I0;omega;refine aK (kS O O (Xd (Cc a.y c.z))) (cX 6 [4,3] ?_);simp only[↓U,tJ,dC,ad,ag,aa];apply I0;omega;refine aK (kS O O (Xd (Cc a.z c.y))) (aK (Il O O (aqJ (Cc a.y c.z) (Cc a.z c.y))) ?_);refine cX 1 [] ?_;simp only[↓U,tJ,ad,ag,aa];apply I0;omega;refine aZ ?_;intro u m;refine dD m 0 O O O aY (gS O) ⟨O,O⟩ ?_;intro u m;simp only[G,zy,zx,over,aa] at m;refine aI ?_;apply aT 23 [1,0] m;simp only[↓U,an];apply I0;omega;refine lD m O O alc 6 [0] ?_;simp only[↓U];intro u m;refine cI m 17 aB (by kernel_rfl) ?_;simp only[zy];refine cX 7 [4,3] ?_;simp only[↓U,tJ,dC,ad,ag,aa];apply I0;omega;refine aK (kS O O (Xd (Cc a.z c.x))) (cX 6 [4,3] ?_);simp only[↓U,tJ,dC,ad,ag,aa];apply I0;omega;refine aK (kS O O (Xd (Cc a.x c.z))) (aK (Il O O (aqJ (Cc a.z c.x) (Cc a.x c.z))) ?_);refine cX 1 [] ?_;simp only[↓U,tJ,ad,ag,aa];apply I0;omega;refine aZ ?_;intro u m;refine dD m 0 O O O aY (gS O) ⟨O,O⟩ ?_;intro u m;simp only[G,zy,zx,over,aa] at m;refine aI ?_;apply aT 23 [1,0] m;simp only[↓U,an];apply I0;omega;refine lD m O O ald 6 [0] ?_;simp only[↓U];intro u m;refine cI m 17 aB (by kernel_rfl) ?_;simp only[zy];refine cX 7 [4,3] ?_;simp only[↓U,tJ,dC,ad,ag,aa];apply I0;omega;refine aK (kS O O (Xd (Cc a.x c.y))) (cX 6 [4,3] ?_);simp only[↓U,tJ,dC,ad,ag,aa];apply I0;omega;refine aK (kS O O (Xd (Cc a.y c.x))) (aK (Il O O (aqJ (Cc a.x c.y) (Cc a.y c.x))) ?_);refine cX 1 [] ?_;simp only[↓U,tJ,ad,ag,aa];apply I0;omega;refine aZ ?_;intro u m;refine dD m 0 O O O aY (gS O) ⟨O,O⟩ ?_;intro u m;simp only[G,zy,zx,over,aa] at m;refine aI ?_;apply Mr 19 [2,1,1] m;simp only[↓U,akT,an,aa];apply I0;omega;intro u m;exact aS O ⟨_,O,((m.b 1 O).full aga Yi)⟩ ⟨_,O,m.ext,O⟩
def aa4{n:Int}:dF prog 301 [X6 n] (X6 (bA n)):=by
 intro w;refine⟨bJ func301 (by kernel_rfl),?_⟩;have m:=Mem.refl w
 go_enter func301,ntmps301
 apply fF 12 [0,0] m;simp only[↓U];refine bC O ?_ ?_<;>intro a
 .apply L 5 [] m;simp only[↓U];refine aS O O ?_;try simp only[zD,zE]
  exact⟨_,O,m.ext,by rw[Eu (by assumption)]⟩
 apply L 6 [0,0] m;simp only[↓U];refine bC O ?_ ?_<;>intro b
 .apply L 5 [] m;simp only[↓U];refine aS O O ?_;try simp only[zD,zE]
  exact⟨_,O,m.ext,by rw[Ev (by assumption)]⟩
 apply L 7 [] m;simp only[↓U];refine aS O O ?_;try simp only[zD,zE]
 exact⟨_,O,m.ext,by rw[show n=0 by omega];rfl⟩
def Zb{b:H}[I3 a][I3 b][I3 c][I3 d]{g0:Nat}(w:ak)(i:fQ w g0 [X6 a.x,X6 a.y,X6 a.z,X6 b.x,X6 b.y,X6 b.z,X6 c.x,X6 c.y,X6 c.z,X6 d.x,X6 d.y,X6 d.z] 30):cY prog 298 [.slice (X4 ⟨g0,0,X5⟩) 4 4] w (λv _=>∃bo:Bool,v=.bool bo/\(bo=Z->S3 a/\S3 b/\S3 c/\S3 d)):=by
 refine⟨bJ func298 (by kernel_rfl),?_⟩;have m:=Mem.refl w
 go_enter func298,ntmps298
 apply fF 25 [5,1,0] m;simp only[↓U,gV];apply I0;omega;refine aD (aR eR aA O O (by decide) (by decide) O) ?_;simp only[G];refine bE O ((i.ext m.ext).lies aG aA O O) ?_;simp only[G,zy,ai,aa,ag,ad];apply lK 28 [0,1,1,1,4,1,0] m;simp only[↓U,fB,aP,gN,dC,gQ,iG,tU,aa];intro D;apply I0;omega;intro u m;refine aD (jJ O O) ?_;apply aH 6 [0] m;simp only[↓U];refine aD (uX O O) (aD (xR O O O) (aD (iK lC iT O (Bq Iw.h)) ?_));simp only[G];refine cK m O O (oR (X:=(a.x).natAbs) _ (by have:=(Iw.h:rS a.x).natAbs;omega)) ?_;rintro v u m ⟨n,rfl,f,g,j⟩;apply aH 2 [0,0] m;simp only[↓U];refine bC O ?_ ?_<;>intro e
 .apply L 5 [] m;simp only[↓U];exact aS rfl rfl ⟨_,rfl,m.ext,X3,rfl,λh=>by cases h⟩
 replace j:=j (by omega);clear e f g;apply L 18 [1,0] m;simp only[↓U,an];apply I0;omega;refine aD (jK O O) ?_;apply aH 6 [0] m;simp only[↓U];refine aD (uX O O) (aD (xR O O O) (aD (iK lC iT O (Bq Iw.h)) ?_));simp only[G];refine cK m O O (oR (X:=(a.y).natAbs) _ (by have:=(Iw.h:rS a.y).natAbs;omega)) ?_;rintro v u m ⟨n,rfl,f,g,k⟩;apply aH 2 [0,0] m;simp only[↓U];refine bC O ?_ ?_<;>intro e
 .apply L 5 [] m;simp only[↓U];exact aS rfl rfl ⟨_,rfl,m.ext,X3,rfl,λh=>by cases h⟩
 replace k:=k (by omega);clear e f g;apply L 18 [1,0] m;simp only[↓U,an];apply I0;omega;refine aD (jL O O) ?_;apply aH 6 [0] m;simp only[↓U];refine aD (uX O O) (aD (xR O O O) (aD (iK lC iT O (Bq Iw.h)) ?_));simp only[G];refine cK m O O (oR (X:=(a.z).natAbs) _ (by have:=(Iw.h:rS a.z).natAbs;omega)) ?_;rintro v u m ⟨n,rfl,f,g,l⟩;apply aH 2 [0,0] m;simp only[↓U];refine bC O ?_ ?_<;>intro e
 .apply L 5 [] m;simp only[↓U];exact aS rfl rfl ⟨_,rfl,m.ext,X3,rfl,λh=>by cases h⟩
 replace l:=l (by omega);clear e f g;apply L 31 [2,1,0] m;simp only[↓U,an];apply I0;omega;refine aD (aR eR aA O O (by decide) (by decide) O) ?_;simp only[G];refine bE O ((i.ext m.ext).lies aG aA O O) ?_;simp only[G,zy,ai,aa,ag,ad];apply lK 28 [0,1,1,1,4,1,0] m;simp only[↓U,fB,aP,gN,dC,gQ,iG,tU,aa];intro E;apply I0;omega;intro u m;refine aD (jJ O O) ?_;apply aH 6 [0] m;simp only[↓U];refine aD (uX O O) (aD (xR O O O) (aD (iK lC iT O (Bq Iw.h)) ?_));simp only[G];refine cK m O O (oR (X:=(b.x).natAbs) _ (by have:=(Iw.h:rS b.x).natAbs;omega)) ?_;rintro v u m ⟨n,rfl,f,g,o⟩;apply aH 2 [0,0] m;simp only[↓U];refine bC O ?_ ?_<;>intro e
 .apply L 5 [] m;simp only[↓U];exact aS rfl rfl ⟨_,rfl,m.ext,X3,rfl,λh=>by cases h⟩
 replace o:=o (by omega);clear e f g;apply L 18 [1,0] m;simp only[↓U,an];apply I0;omega;refine aD (jK O O) ?_;apply aH 6 [0] m;simp only[↓U];refine aD (uX O O) (aD (xR O O O) (aD (iK lC iT O (Bq Iw.h)) ?_));simp only[G];refine cK m O O (oR (X:=(b.y).natAbs) _ (by have:=(Iw.h:rS b.y).natAbs;omega)) ?_;rintro v u m ⟨n,rfl,f,g,p⟩;apply aH 2 [0,0] m;simp only[↓U];refine bC O ?_ ?_<;>intro e
 .apply L 5 [] m;simp only[↓U];exact aS rfl rfl ⟨_,rfl,m.ext,X3,rfl,λh=>by cases h⟩
 replace p:=p (by omega);clear e f g;apply L 18 [1,0] m;simp only[↓U,an];apply I0;omega;refine aD (jL O O) ?_;apply aH 6 [0] m;simp only[↓U];refine aD (uX O O) (aD (xR O O O) (aD (iK lC iT O (Bq Iw.h)) ?_));simp only[G];refine cK m O O (oR (X:=(b.z).natAbs) _ (by have:=(Iw.h:rS b.z).natAbs;omega)) ?_;rintro v u m ⟨n,rfl,f,g,q⟩;apply aH 2 [0,0] m;simp only[↓U];refine bC O ?_ ?_<;>intro e
 .apply L 5 [] m;simp only[↓U];exact aS rfl rfl ⟨_,rfl,m.ext,X3,rfl,λh=>by cases h⟩
 replace q:=q (by omega);clear e f g;apply L 31 [2,1,0] m;simp only[↓U,an];apply I0;omega;refine aD (aR eR aA O O (by decide) (by decide) O) ?_;simp only[G];refine bE O ((i.ext m.ext).lies aG aA O O) ?_;simp only[G,zy,ai,aa,ag,ad];apply lK 28 [0,1,1,1,4,1,0] m;simp only[↓U,fB,aP,gN,dC,gQ,iG,tU,aa];intro F;apply I0;omega;intro u m;refine aD (jJ O O) ?_;apply aH 6 [0] m;simp only[↓U];refine aD (uX O O) (aD (xR O O O) (aD (iK lC iT O (Bq Iw.h)) ?_));simp only[G];refine cK m O O (oR (X:=(c.x).natAbs) _ (by have:=(Iw.h:rS c.x).natAbs;omega)) ?_;rintro v u m ⟨n,rfl,f,g,r⟩;apply aH 2 [0,0] m;simp only[↓U];refine bC O ?_ ?_<;>intro e
 .apply L 5 [] m;simp only[↓U];exact aS rfl rfl ⟨_,rfl,m.ext,X3,rfl,λh=>by cases h⟩
 replace r:=r (by omega);clear e f g;apply L 18 [1,0] m;simp only[↓U,an];apply I0;omega;refine aD (jK O O) ?_;apply aH 6 [0] m;simp only[↓U];refine aD (uX O O) (aD (xR O O O) (aD (iK lC iT O (Bq Iw.h)) ?_));simp only[G];refine cK m O O (oR (X:=(c.y).natAbs) _ (by have:=(Iw.h:rS c.y).natAbs;omega)) ?_;rintro v u m ⟨n,rfl,f,g,s⟩;apply aH 2 [0,0] m;simp only[↓U];refine bC O ?_ ?_<;>intro e
 .apply L 5 [] m;simp only[↓U];exact aS rfl rfl ⟨_,rfl,m.ext,X3,rfl,λh=>by cases h⟩
 replace s:=s (by omega);clear e f g;apply L 18 [1,0] m;simp only[↓U,an];apply I0;omega;refine aD (jL O O) ?_;apply aH 6 [0] m;simp only[↓U];refine aD (uX O O) (aD (xR O O O) (aD (iK lC iT O (Bq Iw.h)) ?_));simp only[G];refine cK m O O (oR (X:=(c.z).natAbs) _ (by have:=(Iw.h:rS c.z).natAbs;omega)) ?_;rintro v u m ⟨n,rfl,f,g,t⟩;apply aH 2 [0,0] m;simp only[↓U];refine bC O ?_ ?_<;>intro e
 .apply L 5 [] m;simp only[↓U];exact aS rfl rfl ⟨_,rfl,m.ext,X3,rfl,λh=>by cases h⟩
 replace t:=t (by omega);clear e f g;apply L 31 [2,1,0] m;simp only[↓U,an];apply I0;omega;refine aD (aR eR aA O O (by decide) (by decide) O) ?_;simp only[G];refine bE O ((i.ext m.ext).lies aG aA O O) ?_;simp only[G,zy,ai,aa,ag,ad];apply lK 28 [0,1,1,1,4,1,0] m;simp only[↓U,fB,aP,gN,dC,gQ,iG,tU,aa];intro I;apply I0;omega;intro u m;refine aD (jJ O O) ?_;apply aH 6 [0] m;simp only[↓U];refine aD (uX O O) (aD (xR O O O) (aD (iK lC iT O (Bq Iw.h)) ?_));simp only[G];refine cK m O O (oR (X:=(d.x).natAbs) _ (by have:=(Iw.h:rS d.x).natAbs;omega)) ?_;rintro v u m ⟨n,rfl,f,g,A⟩;apply aH 2 [0,0] m;simp only[↓U];refine bC O ?_ ?_<;>intro e
 .apply L 5 [] m;simp only[↓U];exact aS rfl rfl ⟨_,rfl,m.ext,X3,rfl,λh=>by cases h⟩
 replace A:=A (by omega);clear e f g;apply L 18 [1,0] m;simp only[↓U,an];apply I0;omega;refine aD (jK O O) ?_;apply aH 6 [0] m;simp only[↓U];refine aD (uX O O) (aD (xR O O O) (aD (iK lC iT O (Bq Iw.h)) ?_));simp only[G];refine cK m O O (oR (X:=(d.y).natAbs) _ (by have:=(Iw.h:rS d.y).natAbs;omega)) ?_;rintro v u m ⟨n,rfl,f,g,B⟩;apply aH 2 [0,0] m;simp only[↓U];refine bC O ?_ ?_<;>intro e
 .apply L 5 [] m;simp only[↓U];exact aS rfl rfl ⟨_,rfl,m.ext,X3,rfl,λh=>by cases h⟩
 replace B:=B (by omega);clear e f g;apply L 18 [1,0] m;simp only[↓U,an];apply I0;omega;refine aD (jL O O) ?_;apply aH 6 [0] m;simp only[↓U];refine aD (uX O O) (aD (xR O O O) (aD (iK lC iT O (Bq Iw.h)) ?_));simp only[G];refine cK m O O (oR (X:=(d.z).natAbs) _ (by have:=(Iw.h:rS d.z).natAbs;omega)) ?_;rintro v u m ⟨n,rfl,f,g,C⟩;apply aH 2 [0,0] m;simp only[↓U];refine bC O ?_ ?_<;>intro e
 .apply L 5 [] m;simp only[↓U];exact aS rfl rfl ⟨_,rfl,m.ext,X3,rfl,λh=>by cases h⟩
 replace C:=C (by omega);clear e f g;apply L 32 [2,2] m;simp only[↓U,an];apply I0;omega;exact aS O O ⟨_,O,m.ext,Z,O,λ_=>⟨⟨j,k,l⟩,⟨o,p,q⟩,⟨r,s,t⟩,⟨A,B,C⟩⟩⟩
def rY{b:H}[I3 a][I3 b][I3 c][I3 d]:dF prog 238 [pt a,pt b,pt c,pt d] (sg ((b.sub a).cross (d.sub c))):=by
 intro w;refine⟨bJ func238 (by kernel_rfl),?_⟩;have m:=Mem.refl w
 go_enter func238,ntmps238
 apply gH 19 [6,5,4,3] m;simp only[↓U,yI,aP];intro j k l n o p u m;refine go (Fm O O O O ?_);intro u q e f g;replace m:=m.newB e f g;simp only[G];refine cK m O O (Zb _ (m.b 0 O)) ?_;rintro v u m ⟨bo,rfl,i⟩;apply aH 1 [0] m;simp only[↓U];refine gF O ?_ ?_<;>intro h
 .obtain⟨_,_,_,_⟩:=i h;apply L 2 [0] m;simp only[↓U];refine mq m aB (by kernel_rfl) (ql O (λu m=>((m.b 6 O).full aG aA)) ?_);simp only[G];refine ql O (λu m=>((m.b 5 O).full aG aA)) ?_;simp only[G];refine eH O O qW ?_;simp only[G];refine ql O (λu m=>((m.b 4 O).full aG aA)) ?_;simp only[G];refine ql O (λu m=>((m.b 3 O).full aG aA)) ?_;simp only[G];refine eH O O qW ?_;simp only[G];refine eH O O (Gv Y7 Y7) (aK aJ (aZ ?_));intro u m;apply aT 15 [4,1,0] m;simp only[↓U];apply I0;omega;refine aD (Wk O O) ?_;apply aH 6 [0] m;simp only[↓U];refine lD m O O aa4 21 [1,1,0] ?_;simp only[↓U,fD,dC,ad,ag,aa,an];apply I0;omega;intro u m;refine aD (Wl O O) ?_;apply aH 6 [0] m;simp only[↓U];refine lD m O O aa4 21 [1,1,0] ?_;simp only[↓U,fD,dC,ad,ag,aa,an];apply I0;omega;intro u m;refine aD (Wm O O) ?_;apply aH 6 [0] m;simp only[↓U];refine lD m O O aa4 22 [1,2,2,2] ?_;simp only[↓U,fD,dC,vV,ad,ag,aa,an];apply I0;omega;intro u m;exact aS O ⟨_,O,((m.b 2 O).full vU iN)⟩ ⟨_,O,m.ext,O⟩
 apply L 3 [0] m;simp only[↓U];refine mq m aB (by kernel_rfl) (ql O (λu m=>((m.b 6 O).full aG aA)) ?_);simp only[G];refine ql O (λu m=>((m.b 5 O).full aG aA)) ?_;simp only[G];refine eH O O nF ?_;simp only[G];refine ql O (λu m=>((m.b 4 O).full aG aA)) ?_;simp only[G];refine ql O (λu m=>((m.b 3 O).full aG aA)) ?_;simp only[G];refine eH O O nF ?_;simp only[G];refine eH O O (Bc Bv.of Bv.of) (aK aJ (aZ ?_));intro u m;apply aT 15 [4,1,0] m;simp only[↓U];apply I0;omega;refine aD (We O O) ?_;apply lK 7 [0,1,0] m;simp only[↓U,jS,dG,aa];intro r u m;refine lD m O O (Ng M.up) 21 [2,1,0] ?_;simp only[↓U,fD,dC,ad,ag,aa,an];apply I0;omega;intro u m;refine aD (Wf O O) ?_;apply lK 7 [0,1,0] m;simp only[↓U,jS,dG,aa];intro s u m;refine lD m O O (Ng M.up) 21 [3,1,0] ?_;simp only[↓U,fD,dC,ad,ag,aa,an];apply I0;omega;intro u m;refine aD (Wg O O) ?_;apply lK 7 [0,1,0] m;simp only[↓U,jS,dG,aa];intro t u m;refine lD m O O (Ng M.up) 22 [4,2,5,5] ?_;simp only[↓U,fD,dC,vV,ad,ag,aa,an];apply I0;omega;intro u m;exact aS O ⟨_,O,((m.b 5 O).full vU iN)⟩ ⟨_,O,m.ext,O⟩
def aa5[IT t]:dF prog 171 [tr t] (.bool (decide (bA t.normal.x=0/\bA t.normal.y=0/\bA t.normal.z=0))):=by
 intro w;refine⟨bJ func171 (by kernel_rfl),?_⟩;have m:=Mem.refl w
 go_enter func171,ntmps171
 apply gH 15 [1,1,1,1,0] m;simp only[↓U,bQ,aP,ad,ag,aa];intro e;apply I0;omega;intro u m;refine lD m O O (rY (a:=t.a) (b:=t.b) (c:=t.a) (d:=t.c)) 5 [] ?_;simp only[↓U,tU,aa];refine⟨_,akV,?_⟩;intro u m;exact aS O O ⟨_,O,m.ext,O⟩
def ale{r:T3}[IT t][IT r]:dF prog 172 [tr t,tr r] (X6 (Vz t r)):=by
 intro w;refine⟨bJ func172 (by kernel_rfl),?_⟩;have m:=Mem.refl w
 go_enter func172,ntmps172
 apply gH 7 [0] m;simp only[↓U];intro a c u m;refine mq m aB (by kernel_rfl) (ql O (λu m=>((m.b 1 O).full cD aW)) ?_);simp only[G];refine eH O O Ty ?_;simp only[G];refine ql O (λu m=>((m.b 0 O).full cD aW)) ?_;simp only[G];refine eH O O Ty ?_;simp only[G];refine eH O O (Ox Bv.of Bv.of) ?_;simp only[G];refine eH O O (Ng M.up) (aK aM (aZ ?_));intro u m;apply aT 1 [] m;simp only[↓U];exact aS O O ⟨_,O,m.ext,O⟩
def ae5{r:T3}{k:Nat}(a:k<3)(h:Fc t k<Fb r k):oN t r=X3:=by
 unfold oN acj
 match k,a with
 | 0,_=>simp[h]
 | 1,_=>simp[h]
 | 2,_=>simp[h]
def ae6{r:T3}{k:Nat}(a:k<3)(h:Fc r k<Fb t k):oN t r=X3:=by
 unfold oN acj
 match k,a with
 | 0,_=>simp[h]
 | 1,_=>simp[h]
 | 2,_=>simp[h]
def asC{r:T3}(c:¬Fc t 0<Fb r 0)(h1:¬Fc t 1<Fb r 1)(h2:¬Fc t 2<Fb r 2)(g0:¬Fc r 0<Fb t 0)(a:¬Fc r 1<Fb t 1)(b:¬Fc r 2<Fb t 2):oN t r=Z:=by
 unfold oN acj;simp[c,h1,h2,g0,a,b]
def asD{r:T3}:dF prog 175 [.agg #[X6 (Fb t 0),X6 (Fb t 1),X6 (Fb t 2),X6 (Fc t 0),X6 (Fc t 1),X6 (Fc t 2)],.agg #[X6 (Fb r 0),X6 (Fb r 1),X6 (Fb r 2),X6 (Fc r 0),X6 (Fc r 1),X6 (Fc r 2)]] (.bool (oN t r)):=by
 intro w;refine⟨bJ func175 (by kernel_rfl),?_⟩;have m:=Mem.refl w
 go_enter func175,ntmps175
 apply gH 29 [4,1] m;simp only[↓U];intro c d;apply I0;omega;intro u m;by_cases b:Fc t 0<Fb r 0
 .refine gc (mq m aB (by kernel_rfl) ?_);refine cX 8 [2,1] ?_;simp only[↓U,jU,fD,dC,jT,aa,ad,ag];apply I0;omega;refine aK (rI O O b) (aK aJ (Ik O ?_));refine cX 9 [0,0,0,0,0,0,0,0] ?_;simp only[↓U];refine aZ ?_;intro u m;apply aT 6 [] m;simp only[↓U];refine aS O O ?_;try simp only[zD,zE]
  exact⟨_,O,m.ext,by rw[ae5 (k:=0) (by decide) b]⟩
 refine gc (mq m aB (by kernel_rfl) ?_);refine cX 8 [2,1] ?_;simp only[↓U,jU,fD,dC,jT,aa,ad,ag];apply I0;omega;refine aK (Gy O O b) (aK aJ (fL O (aK aJ ?_)));refine cX 9 [0,0,0,1,0,0,0,0,2,0,0] ?_;simp only[↓U,jU,fD,dC,jT,aa,ad,ag];apply I0;omega;refine aZ ?_;intro u m;refine gc (bC O (λa=>?_) (λa=>?_))
 .have q0:=a;apply L 5 [] m;simp only[↓U];refine aS O O ?_;try simp only[zD,zE]
  exact⟨_,O,m.ext,by rw[ae6 (k:=0) (by decide) q0]⟩
 have q0:=a;apply L 22 [1] m;simp only[↓U,an];apply I0;omega;by_cases h1:Fc t 1<Fb r 1
 .refine gc (mq m aB (by kernel_rfl) ?_);refine cX 8 [2,1] ?_;simp only[↓U,jU,fD,dC,jT,aa,ad,ag];apply I0;omega;refine aK (rI O O h1) (aK aJ (Ik O ?_));refine cX 9 [0,0,0,0,0,0,0,0] ?_;simp only[↓U];refine aZ ?_;intro u m;apply aT 6 [] m;simp only[↓U];refine aS O O ?_;try simp only[zD,zE]
  exact⟨_,O,m.ext,by rw[ae5 (k:=1) (by decide) h1]⟩
 refine gc (mq m aB (by kernel_rfl) ?_);refine cX 8 [2,1] ?_;simp only[↓U,jU,fD,dC,jT,aa,ad,ag];apply I0;omega;refine aK (Gy O O h1) (aK aJ (fL O (aK aJ ?_)));refine cX 9 [0,0,0,1,0,0,0,0,2,0,0] ?_;simp only[↓U,jU,fD,dC,jT,aa,ad,ag];apply I0;omega;refine aZ ?_;intro u m;refine gc (bC O (λa=>?_) (λa=>?_))
 .have q1:=a;apply L 5 [] m;simp only[↓U];refine aS O O ?_;try simp only[zD,zE]
  exact⟨_,O,m.ext,by rw[ae6 (k:=1) (by decide) q1]⟩
 have q1:=a;apply L 22 [1] m;simp only[↓U,an];apply I0;omega;by_cases h2:Fc t 2<Fb r 2
 .refine gc (mq m aB (by kernel_rfl) ?_);refine cX 8 [2,1] ?_;simp only[↓U,jU,fD,dC,jT,aa,ad,ag];apply I0;omega;refine aK (rI O O h2) (aK aJ (Ik O ?_));refine cX 9 [0,0,0,0,0,0,0,0] ?_;simp only[↓U];refine aZ ?_;intro u m;apply aT 6 [] m;simp only[↓U];refine aS O O ?_;try simp only[zD,zE]
  exact⟨_,O,m.ext,by rw[ae5 (k:=2) (by decide) h2]⟩
 refine gc (mq m aB (by kernel_rfl) ?_);refine cX 8 [2,1] ?_;simp only[↓U,jU,fD,dC,jT,aa,ad,ag];apply I0;omega;refine aK (Gy O O h2) (aK aJ (fL O (aK aJ ?_)));refine cX 9 [0,0,0,1,0,0,0,0,2,0,0] ?_;simp only[↓U,jU,fD,dC,jT,aa,ad,ag];apply I0;omega;refine aZ ?_;intro u m;refine gc (bC O (λa=>?_) (λa=>?_))
 .have q2:=a;apply L 5 [] m;simp only[↓U];refine aS O O ?_;try simp only[zD,zE]
  exact⟨_,O,m.ext,by rw[ae6 (k:=2) (by decide) q2]⟩
 have q2:=a;apply L 19 [2] m;simp only[↓U,an];apply I0;omega;refine aS O O ?_;try simp only[zD,zE]
 exact⟨_,O,m.ext,by rw[asC b h1 h2 q0 q1 q2]⟩
end
end Go.Proofs.YtfekpcimgncioaaGreatDoor
namespace Go.Lith
section
open Go.RowKit Go.ChangeMaps Go.MapKept
def Ed(is:List It):It where
 own b:=∃i∈is,i.own b
 P w:=(∀i∈is,i.P w)/\is.Pairwise Ap
 lt w b h e:=by obtain⟨i,hi,ho⟩:=e;exact i.lt w b (h.1 i hi) ho
 st w w' h s k:=⟨λi hi=>i.st w w' (h.1 i hi) s λb hb=>k b ⟨i,hi,hb⟩,h.2⟩
section
variable {w0 w:ak} {a is:List It}
def Mem.pack(a:List It)(m:Mem w0 w (a++is)):Mem w0 w (a++[Ed is]):=by
 have h:=fu.1 m.nd;refine⟨m.ext,λi hi=>?_,λi hi b c=>?_,fu.2 ⟨h.1,List.pairwise_singleton _ _,λx e y f b h1 h2=>?_⟩⟩
 . rcases bh.1 hi with hi | hi
   .exact m.all i (il _ hi)
   obtain rfl:=a_.1 hi
   exact⟨λi hi=>m.all i (gu _ hi),h.2.1⟩
 . rcases bh.1 hi with hi | hi
   .exact m.ge i (il _ hi) b c
   obtain rfl:=a_.1 hi
   obtain⟨j,d,c⟩:=c;exact m.ge j (gu _ d) b c
 obtain rfl:=a_.1 f
 obtain⟨j,d,c⟩:=h2;exact h.2.2 x e j d b h1 c
def Mem.unpack(a:List It)(m:Mem w0 w (a++[Ed is])):Mem w0 w (a++is):=by
 have h:=fu.1 m.nd;have c:(∀i∈is,i.P w)/\is.Pairwise Ap:=m.all _ (gu _ (jg _));refine⟨m.ext,λi hi=>?_,λi hi b d=>?_,fu.2 ⟨h.1,c.2,λx e y f b h1 h2=>?_⟩⟩
 . rcases bh.1 hi with hi | hi
   .exact m.all i (il _ hi)
   exact c.1 i hi
 . rcases bh.1 hi with hi | hi
   .exact m.ge i (il _ hi) b d
   exact m.ge _ (gu _ (jg _)) b ⟨i,hi,d⟩
 exact h.2.2 x e _ (jg _) b h1 ⟨y,f,h2⟩
end
def wV(P:Program)(f:FuncId)(args:List aj)(w:ak)(R:aj->ak->Prop):Prop :=
 Entr P f/\Calls P f args.toArray w λe w'=>∃v,e=.returned v/\R v w'
def wV.mono{P:Program}{f:FuncId}{args:List aj}{w:ak}{R a:aj->ak->Prop}(h:wV P f args w R)(hr:∀v w',R v w'->a v w'):wV P f args w a :=
 ⟨h.1,h.2.mono λ_ _ ⟨v,c,b⟩=>⟨v,c,hr _ _ b⟩⟩
section
variable {P:Program} {ds:List Deferred} {l:List aj} {ty:TypeId} {w:ak}
variable {ops:Array Oper} {Q:Exit->Act->ak->Prop} {rest:List Oper} {d:Nat} {pos:String} {after:Array Edge}
def kA{f:FuncId}{a:Operand}{xs:Array Operand}{args:List aj}{first cap:Array aj}{a0:Array TypeId}{R:aj->ak->Prop}(g:ev l a=.func (.func f) first cap)(i:first.toList++xs.toList.map (ev l)++cap.toList=args)(hc:wV P f args w R)
 (h:∀v u,R v u->az P ops Q rest (Fr (l.set d v) ds) u):az P ops Q (bu (X4 d) (.call { callee:=.value a,args:=xs,argTypes:=a0 }) ty pos after X5::rest) (Fr l ds) w:=by
 refine wpList_plain O λK b=>?_;unfold Oper.wp;rw[jY,pT hc.1 g i _ rfl];refine hc.2.mono ?_;rintro e w' ⟨v,rfl,c⟩;show K ((Fr l ds).put (X4 d) v) w'
 rw[gI];exact b _ _ (h v w' c)
end
end
section
section
variable {w0 w:ak} {x y z:It} {is:List It}
def Mem.pack1(m:Mem w0 w (x::is)):Mem w0 w [x,Ed is]:=Mem.pack [x] m
def Mem.unpack2(m:Mem w0 w [x,y,Ed is]):Mem w0 w (x::y::is):=Mem.unpack [x,y] m
def Mem.pack3(m:Mem w0 w (x::y::z::is)):Mem w0 w [x,y,z,Ed is]:=Mem.pack [x,y,z] m
def Mem.pack2(m:Mem w0 w (x::y::is)):Mem w0 w [x,y,Ed is]:=Mem.pack [x,y] m
def Mem.pack4{a:It}(m:Mem w0 w (x::y::z::a::is)):Mem w0 w [x,y,z,a,Ed is]:=Mem.pack [x,y,z,a] m
def Mem.unpack4{a:It}(m:Mem w0 w [x,y,z,a,Ed is]):Mem w0 w (x::y::z::a::is):=Mem.unpack [x,y,z,a] m
def Mem.unpack3(m:Mem w0 w [x,y,z,Ed is]):Mem w0 w (x::y::z::is):=Mem.unpack [x,y,z] m
end
end
end Go.Lith
namespace Go.Proofs.YtfekpcimgncioaaGreatDoor
open Go.Proofs.Tryz
open Go.RowKit Go.Lith
set_option maxRecDepth 100000
section
attribute [local irreducible] az cw fW bX cP Code.wp
attribute [local congr] dK dL cR dJ
variable{k g4 g5:Nat}{t:T3}{w0 w:ak}{K:It}
def ae7{a b:List Int}(c:a.length=10)(d:b.length=10)(o:As k a)(p:As k b)(z:k<=900000):dF prog 61 [qV a,qV b] (qV (tF a b)):=by
 intro w;refine⟨bJ func61 (by kernel_rfl),?_⟩;have m:=Mem.refl w
 go_enter func61,ntmps61
 apply gH 12 [0] m;simp only[↓U,Tj];intro h j l u m;refine bT [6] [5,7,8,9,10,11,12,13,14,15,16,17,18] (λn vs s=>∃(i:Nat),vs=[X6 (i:Int)]/\Mem w s [bI l [.bool X3,.string ⟨#[]⟩,.bool X3,.string ⟨#[]⟩,.bool X3,.string ⟨#[]⟩,.bool X3,.string ⟨#[]⟩,.bool X3,.string ⟨#[]⟩,.bool X3,.string ⟨#[]⟩,.bool X3,.string ⟨#[]⟩,.bool X3,.string ⟨#[]⟩,.bool X3,.string ⟨#[]⟩,.bool X3,.string ⟨#[]⟩] 97,bI j (qC b) 97,bI h (qC (qP a b i)) 97]/\(i<=10)/\(n=10-i)) ?_ ?_
 .exact⟨_,0,O,m,bn _,O⟩
 intro n vs wr q u v t
 obtain⟨i,rfl,m,e,A⟩:=q;simp only[zu,zF,zG];apply L 5 [0,0] m;simp only[↓U];refine bC O ?_ ?_<;>intro B
 .have e:i<10:=by omega
  obtain⟨x,g⟩:∃x,a[i]? = X4 x:=⟨_,Mh c e⟩
  obtain⟨y,f⟩:∃y,b[i]? = X4 y:=⟨_,Mh d e⟩
  have r:=aug c d e g;apply L 8 [0] m;simp only[↓U];refine cI m 9 aB (by kernel_rfl) ?_;simp only[zy];refine cX 3 [] ?_;simp only[↓U,yJ,ah,ai];apply I0;omega;refine ql O (λu m=>(show dQ _ _ _ _ (W x) from (xG (m.b 2 O) r).lies bU aO)) ?_;simp only[G];refine aK aJ (cX 1 [] ?_);simp only[↓U,yJ,ah,ai];apply I0;omega;refine ql O (λu m=>(show dQ _ _ _ _ (W y) from (xG (m.b 1 O) f).lies bU aO)) ?_;simp only[G];refine eH O O (Za ((o.at g).mono (by omega)) ((p.at f).mono (by omega))) (cX 1 [] ?_);simp only[↓U,yJ,ah,ai];apply I0;omega;refine aZ ?_;intro u m;refine bP m 2 O O O aO (by have h1:=nW (qP a b i);have h2:=ajQ c d (show i<=10 by omega);simp only[ay,bm];omega) rfl ?_;intro u m;simp only[zF,zG] at m;rw[show over (qC (qP a b i)) (i*2) [.bool (dH (x+y)),.string (eC (x+y))]=qC (qP a b (i+1)) from (Pz (x:=x+y) (by rw[ajQ c d (by omega)];omega)).trans (by rw[aq0 c d e g f])] at m;refine aI ?_;apply aT 5 [0] m;simp only[↓U];apply I0;omega;exact t (10-(i+1)) _ _ (by omega) (by kernel_rfl) ⟨i+1,O,m,by omega,O⟩
 obtain rfl:i=10:=by omega
 rw[aqZ c d] at m;apply L 3 [0] m;simp only[↓U];refine bE O (nB (m.b 2 O) kR dA (by simp only[eY c d])) ?_;simp only[G];refine qM (n:=20) m 0 O O O (by rw[eY c d]) O dA ?_;intro u m;simp only[zF,zG] at m;apply aH 2 [] m;simp only[↓U];exact aS O ⟨_,O,(nB (m.b 0 O) kR dA (by simp only[eY c d]))⟩ ⟨_,O,m.ext,O⟩
def avH[IT t]:dF prog 182 [tr t] (qV [t.normal.x,t.normal.y,t.normal.z,0-t.normal.x*t.a.x-t.normal.y*t.a.y-t.normal.z*t.a.z]):=by
 intro w;refine⟨bJ func182 (by kernel_rfl),?_⟩;have m:=Mem.refl w
 go_enter func182,ntmps182
 apply gH 8 [2,0] m;simp only[↓U,aeU,dM];intro c d u m;refine lD m O O (Ty (t:=t)) 14 [0,1,1,1,0] ?_;simp only[↓U,Mw,aeV,tI,dG,akM,aeU,akL,aa,ad,ag];intro e g4;apply I0;omega;intro u m;apply aT 31 [4,4,4,4,1,0] m;simp only[↓U,bQ,gN,dC,gQ,iG,tU,ad,ag,aa];apply I0;omega;refine aD (jJ O O) ?_;apply aH 3 [0] m;simp only[↓U];refine cI m 10 aB (by kernel_rfl) ?_;simp only[zy];refine cX 1 [] ?_;simp only[↓U,Ea,ad,ag,aa];apply I0;omega;refine ql O (λu m=>(anS ((m.b 0 O).lies bU aO O O))) ?_;simp only[G];refine cX 4 [2] ?_;simp only[↓U,tI,dG,ad,ag,aa];apply I0;omega;refine eH O O (qU Iw.h) ?_;simp only[G];refine eH O O (tV M.up M.up) ?_;simp only[G];refine eH O O (Gu M.up M.up) (cX 1 [] ?_);simp only[↓U,Ea,ad,ag,aa];apply I0;omega;refine aZ ?_;intro u m;refine bP m 0 O O O aO (gS O) O ?_;intro u m;simp only[zy,zx,over,zF,zG,aa] at m;refine aI ?_;apply aT 18 [1,0] m;simp only[↓U,an];apply I0;omega;refine aD (jK O O) ?_;apply aH 3 [0] m;simp only[↓U];refine cI m 10 aB (by kernel_rfl) ?_;simp only[zy];refine cX 6 [1,2] ?_;simp only[↓U,Ea,dG,tI,ad,ag,aa];apply I0;omega;refine eH O O (qU Iw.h) ?_;simp only[G];refine eH O O (tV M.up M.up) ?_;simp only[G];refine eH O O (Gu M.up M.up) (cX 1 [] ?_);simp only[↓U,Ea,ad,ag,aa];apply I0;omega;refine aZ ?_;intro u m;refine bP m 0 O O O aO (gS O) O ?_;intro u m;simp only[zy,zx,over,zF,zG,aa] at m;refine aI ?_;apply aT 18 [1,0] m;simp only[↓U,an];apply I0;omega;refine aD (jL O O) ?_;apply aH 3 [0] m;simp only[↓U];refine cI m 10 aB (by kernel_rfl) ?_;simp only[zy];refine cX 6 [1,2] ?_;simp only[↓U,Ea,dG,tI,ad,ag,aa];apply I0;omega;refine eH O O (qU Iw.h) ?_;simp only[G];refine eH O O (tV M.up M.up) ?_;simp only[G];refine eH O O (Gu M.up M.up) (cX 1 [] ?_);simp only[↓U,Ea,ad,ag,aa];apply I0;omega;refine aZ ?_;intro u m;refine bP m 0 O O O aO (gS O) O ?_;intro u m;simp only[zy,zx,over,zF,zG,aa] at m;refine aI ?_;apply Mr 19 [2,1,2] m;simp only[↓U,akL,an,aa];apply I0;omega;intro u m;exact aS O ⟨_,O,((m.b 2 O).full af7 Ml)⟩ ⟨_,O,m.ext,O⟩
def auF(f:FuncId)(a:Array aj)(w0:ak)(is:List It)(k:Nat)(J:Nat->It):Prop :=
 ∀n u,n<10->Mem w0 u (is.set k (J n))->wV prog f ([X6 (n:Int),X6 (eI n:Int),X6 (eJ n:Int)]++a.toList) u λ_ w'=>Mem w0 w' (is.set k (J (n+1)))
def alf{is:List It}{f:FuncId}{a:Array aj}{J:Nat->It}(m:Mem w0 w is)(k:Nat)(b:is[k]? = X4 (J 0))(hc:auF f a w0 is k J):Calls prog 119 [.func (.func f) #[] a].toArray w λe w'=>∃v i,e=.returned v/\Mem w0 w' (is.set k i)/\(v=.tuple #[]/\i=J 10):=by
 replace m:=(show Mem w0 w (is.set k (J 0)) by rw[Rx b];exact m)
 go_enter func119,ntmps119
 apply fF 49 [5,1,5,1,0] m;simp only[↓U];apply I0;omega;refine kA O O (hc 0 _ (by decide) m) ?_;rintro v u m;apply aH 29 [1,0] m;simp only[↓U,an];apply I0;omega;refine kA O O (hc 1 _ (by decide) m) ?_;rintro v u m;apply aH 29 [1,0] m;simp only[↓U,an];apply I0;omega;refine kA O O (hc 2 _ (by decide) m) ?_;rintro v u m;apply aH 29 [1,0] m;simp only[↓U,an];apply I0;omega;refine kA O O (hc 3 _ (by decide) m) ?_;rintro v u m;apply aH 65 [2,1,4,1,0] m;simp only[↓U,an];apply I0;omega;refine kA O O (hc 4 _ (by decide) m) ?_;rintro v u m;apply aH 29 [1,0] m;simp only[↓U,an];apply I0;omega;refine kA O O (hc 5 _ (by decide) m) ?_;rintro v u m;apply aH 29 [1,0] m;simp only[↓U,an];apply I0;omega;refine kA O O (hc 6 _ (by decide) m) ?_;rintro v u m;apply aH 65 [2,1,3,1,0] m;simp only[↓U,an];apply I0;omega;refine kA O O (hc 7 _ (by decide) m) ?_;rintro v u m;apply aH 29 [1,0] m;simp only[↓U,an];apply I0;omega;refine kA O O (hc 8 _ (by decide) m) ?_;rintro v u m;apply aH 65 [2,1,2,1,0] m;simp only[↓U,an];apply I0;omega;refine kA O O (hc 9 _ (by decide) m) ?_;rintro v u m;apply aH 34 [2,2,0] m;simp only[↓U,an];apply I0;omega;exact Gj O ⟨_,J 10,O,m,O,O⟩
def auG{g n:Nat}{a b c d:Int}(m:Mem w0 w [bI g (qC (qF a b c d n)) 97,bI g5 (wC 2) 95,bI g4 (qC [a,b,c,d]) 229,K])(e:n<10)(hp:As k [a,b,c,d])(r:k<=400000):wV prog 183 [X6 (n:Int),X6 (eI n:Int),X6 (eJ n:Int),.pointer (X4 ⟨g4,0,X5⟩),.pointer (X4 ⟨g,0,X5⟩),.pointer (X4 ⟨g5,0,X5⟩)] w λ_ w'=>Mem w0 w' [bI g (qC (qF a b c d (n+1))) 97,bI g5 (wC 2) 95,bI g4 (qC [a,b,c,d]) 229,K]:=by
 refine⟨bJ func183 (by kernel_rfl),?_⟩;have j:=ajR e;have l:=ajS e;have h:=apR a b c d j;have i:=apR a b c d l;have p:=aq1 a b c d (show n<=10 by omega);have q:=aet hp rfl e;have o:Bd 2 (2:Int):=by unfold Bd;decide
 go_enter func183,ntmps183
 apply fF 1 [0] m;simp only[↓U];refine cI m 9 aB (by kernel_rfl) ?_;simp only[zy];refine cX 3 [] ?_;simp only[↓U,Ea,ah,ai];apply I0;omega;refine ql O (λu m=>(show dQ _ _ _ _ (W ([a,b,c,d].getD (eI n) 0)) from (xG (m.b 2 O) h).lies bU aO)) ?_;simp only[G];refine aK aJ (cX 1 [] ?_);simp only[↓U,Ea,ah,ai];apply I0;omega;refine ql O (λu m=>(show dQ _ _ _ _ (W ([a,b,c,d].getD (eJ n) 0)) from (xG (m.b 2 O) i).lies bU aO)) ?_;simp only[G];refine eH O O (tV ((hp.at h).mono (by omega)) ((hp.at i).mono (by omega))) (cX 1 [] ?_);simp only[↓U,yJ,ah,ai];apply I0;omega;refine aZ ?_;intro u m;refine bP m 0 O O O aO (by have h1:=nW (qF a b c d n);have h2:=p;simp only[ay,bm];omega) rfl ?_;intro u m;simp only[zF,zG] at m;rw[show over (qC (qF a b c d n)) (n*2) [.bool (dH ([a,b,c,d].getD (eI n) 0*[a,b,c,d].getD (eJ n) 0)),.string (eC ([a,b,c,d].getD (eI n) 0*[a,b,c,d].getD (eJ n) 0))]=qC ((qF a b c d n).set n (Ye [a,b,c,d] n)) from Pz (by omega)] at m;refine aI ?_;apply aT 6 [0,0] m;simp only[↓U];refine bC O ?_ ?_<;>intro s
 .have hq:((qF a b c d n).set n (Ye [a,b,c,d] n))[n]? = X4 (Ye [a,b,c,d] n):=by rw[List.getElem?_set_self (by omega)]
  have f:=ajT (a:=a) (b:=b) (c:=c) (d:=d) e;rw[X (by omega)] at f;refine cI m 7 aB (by kernel_rfl) ?_;simp only[zy];refine cX 3 [] ?_;simp only[↓U,yJ,ah,ai];apply I0;omega;refine ql O (λu m=>(show dQ _ _ _ _ (W (Ye [a,b,c,d] n)) from (xG (m.b 0 O) hq).lies bU aO)) ?_;simp only[G];refine ql O (λu m=>(show dQ _ _ _ _ (W 2) from (m.b 1 O).lies bU aO O O)) ?_;simp only[G];refine eH O O (tV (q.mono (by omega)) (o.mono (by omega))) (cX 1 [] ?_);simp only[↓U,yJ,ah,ai];apply I0;omega;refine aZ ?_;intro u m;refine bP m 0 O O O aO (by have h1:=nW ((qF a b c d n).set n (Ye [a,b,c,d] n));have h2:=(fm:((qF a b c d n).set n (Ye [a,b,c,d] n)).length=_);simp only[ay,bm];omega) rfl ?_;intro u m;simp only[zF,zG] at m;rw[show over (qC ((qF a b c d n).set n (Ye [a,b,c,d] n))) (n*2) [.bool (dH (Ye [a,b,c,d] n*2)),.string (eC (Ye [a,b,c,d] n*2))]=qC (((qF a b c d n).set n (Ye [a,b,c,d] n)).set n (Ye [a,b,c,d] n*2)) from Pz (by rw[fm];omega)] at m;refine aI ?_;exact Gj O ⟨_,O,by rw[f] at m;exact m⟩
 have f:=ajT (a:=a) (b:=b) (c:=c) (d:=d) e;rw[J (by omega),List.set_set] at f;apply L 1 [0] m;simp only[↓U];exact Gj O ⟨_,O,by rw[f] at m;exact m⟩
def zw0:[bw X3,Value.string ⟨#[]⟩]=wC 0:=by unfold wC;rw[Lw];rfl
def zq0:([.bool X3,.string ⟨#[]⟩,.bool X3,.string ⟨#[]⟩,.bool X3,.string ⟨#[]⟩,.bool X3,.string ⟨#[]⟩,.bool X3,.string ⟨#[]⟩,.bool X3,.string ⟨#[]⟩,.bool X3,.string ⟨#[]⟩,.bool X3,.string ⟨#[]⟩,.bool X3,.string ⟨#[]⟩,.bool X3,.string ⟨#[]⟩]:List aj)=qC q0:=by unfold qC q0;simp only[List.flatMap_cons,List.flatMap_nil,<-zw0];rfl
def zqV:(Value.agg #[.bool X3,.string ⟨#[]⟩,.bool X3,.string ⟨#[]⟩,.bool X3,.string ⟨#[]⟩,.bool X3,.string ⟨#[]⟩,.bool X3,.string ⟨#[]⟩,.bool X3,.string ⟨#[]⟩,.bool X3,.string ⟨#[]⟩,.bool X3,.string ⟨#[]⟩,.bool X3,.string ⟨#[]⟩,.bool X3,.string ⟨#[]⟩])=qV q0:=by unfold qV;rw[<-zq0]
def agq{n:Int}(h1:dH n=X3)(h2:eC n=⟨#[]⟩):n=0:=atY (by rw[aal];unfold W;rw[h1,h2])
theorem avI(t:T3):0-t.normal.x*t.a.x-t.normal.y*t.a.y-t.normal.z*t.a.z = -((dU t.a t.b t.c).dot t.a):=by
 show 0-(dU t.a t.b t.c).x*t.a.x-(dU t.a t.b t.c).y*t.a.y-(dU t.a t.b t.c).z*t.a.z=_
 generalize dU t.a t.b t.c=n;unfold H.dot
 grind
def ae8(t:T3):qPr t.normal.x t.normal.y t.normal.z (0-t.normal.x*t.a.x-t.normal.y*t.a.y-t.normal.z*t.a.z)=qOf t:=by rw[avI];rfl
def ap9[IT t]:As 300 [t.normal.x,t.normal.y,t.normal.z,0-t.normal.x*t.a.x-t.normal.y*t.a.y-t.normal.z*t.a.z]:=λx b=>by
 simp only[ap,cd,Z9] at b;rcases b with rfl | rfl | rfl | rfl
 .exact (M.up:Bd 300 t.normal.x)
 .exact (M.up:Bd 300 t.normal.y)
 .exact (M.up:Bd 300 t.normal.z)
 exact (M.up:Bd 300 (0-t.normal.x*t.a.x-t.normal.y*t.a.y-t.normal.z*t.a.z))
def ae9[IT t]:As 602 (qOf t):=by rw[<-ae8];exact aui ap9
def rZ(t:T3):(qOf t).length=10:=rfl
def auH:As 1 q0:=λx a=>by
 simp only[q0,ap,cd,Z9] at a;rcases a with rfl | rfl | rfl | rfl | rfl | rfl | rfl | rfl | rfl | rfl <;> (unfold Bd;decide)
def yL{ts:List T3}{p:H}(h:ts[k]? = X4 t):nA (ts.take (k+1)) p=if t.has p then tF (nA (ts.take k) p) (qOf t) else nA (ts.take k) p:=by
 unfold nA;rw[bV h,gp,List.foldl_append];cases a:t.has p <;> simp[a]
def oS{ts:List T3}{p:H}:∀k,k<=ts.length->(nA (ts.take k) p).length=10
 | 0,_=>rfl
 | k+1,a=>by
  rw[yL (am (by omega))];split
  .exact eY (oS k (by omega)) (rZ _)
  exact oS k (by omega)
def Nh{ts:List T3}{p:H}(a:∀t∈ts,IT t):∀k,k<=ts.length->As (602+k) (nA (ts.take k) p)
 | 0,_=>auH.mono (by omega)
 | k+1,b=>by
  rw[yL (am (by omega))];split
  . haveI:=a _ (List.getElem_mem (by omega:k<ts.length))
    exact Ff (Nh a k (by omega)) (ae9.mono (by show 602<=602+k;omega))
  exact (Nh a k (by omega)).mono (by omega)
def auI[IT t]:dF prog 117 [tr t] (qV (qOf t)):=by
 intro w;refine⟨bJ func117 (by kernel_rfl),?_⟩;have m:=Mem.refl w
 go_enter func117,ntmps117
 apply gH 12 [3,0] m;simp only[↓U,Tj,dM];intro g h d u m;refine lD m O O (avH (t:=t)) 1 [0] ?_;simp only[↓U,aeU];intro g4 u m;refine qM (n:=8) m 0 O O O O O Ml ?_;intro u m;simp only[zF,zG] at m;apply aH 4 [0] m;simp only[↓U];refine bE O (nB (m.b 0 O) af7 Ml O) ?_;simp only[G];apply aH 3 [0] m;simp only[↓U,akM,aa];refine⟨_,aoo,?_⟩;refine bC O ?_ ?_<;>intro c
 .apply L 1 [] m;simp only[↓U];rw[zq0] at m;apply aT 1 [0] m;simp only[↓U];refine bE O (nB (m.b 1 O) kR dA (by first | rw[rZ] | rfl)) ?_;simp only[G];refine qM (n:=20) m 2 O O O O O dA ?_;intro u m;simp only[zF,zG] at m;apply aH 2 [] m;simp only[↓U];refine aS O ⟨_,O,(nB (m.b 2 O) kR dA (by first | rw[rZ] | rfl))⟩ ?_;try simp only[zD,zE]
  exact⟨_,O,m.ext,by rw[<-ae8,agq c.2.2.2.2.2.2.1 c.2.2.2.2.2.2.2,agq c.1 c.2.1,agq c.2.2.1 c.2.2.2.1,agq c.2.2.2.2.1 c.2.2.2.2.2.1];rfl⟩
 apply L 3 [0] m;simp only[↓U];refine lD m O O (qU (n:=2) (by constructor <;> decide)) 4 [0] ?_;simp only[↓U,jS,dG,aa];intro g5 u m;rw[zq0] at m;apply aT 1 [0] m;simp only[↓U];refine aD fZ ?_;simp only[G,gt,bi,dh];replace m:=m.pull 1 O;simp only[dZ,eA,zF,zG] at m;replace m:=m.pull 1 O;simp only[dZ,eA,zF,zG] at m;replace m:=m.pull 2 O;simp only[dZ,eA,zF,zG] at m;replace m:=m.pack3;refine mJ m 0 ajV O O (λm=>alf (J:=λn=>bI d (qC (qF t.normal.x t.normal.y t.normal.z (0-t.normal.x*t.a.x-t.normal.y*t.a.y-t.normal.z*t.a.z) n)) 97) m 0 O (λn u e f=>auG (k:=300) f e ap9 (by decide))) ?_;rintro v i u m ⟨rfl,rfl⟩;simp only[zF,zG] at m;simp only[G];replace m:=m.unpack3;rw[auh,ae8] at m;apply aH 3 [0] m;simp only[↓U];refine bE O (nB (m.b 0 O) kR dA (by first | rw[rZ] | rfl)) ?_;simp only[G];refine qM (n:=20) m 3 O O O (by rw[rZ]) O dA ?_;intro u m;simp only[zF,zG] at m;apply aH 2 [] m;simp only[↓U];exact aS O ⟨_,O,(nB (m.b 3 O) kR dA (by first | rw[rZ] | rfl))⟩ ⟨_,O,m.ext,O⟩
def auJ{d n:Nat}{q x:List Int}(m:Mem w0 w [bI g5 (wC (atS q x n)) 95,bI g4 (qC x) 168,bI d (qC q) 97,K])(a:n<10)(hq:As k q)(f:q.length=10)(c:As 64 x)(j:x.length=4)(s:k<=900000):wV prog 120 [X6 (n:Int),X6 (eI n:Int),X6 (eJ n:Int),.pointer (X4 ⟨g5,0,X5⟩),.pointer (X4 ⟨d,0,X5⟩),.pointer (X4 ⟨g4,0,X5⟩)] w λ_ w'=>Mem w0 w' [bI g5 (wC (atS q x (n+1))) 95,bI g4 (qC x) 168,bI d (qC q) 97,K]:=by
 refine⟨bJ func120 (by kernel_rfl),?_⟩;have p:=ajR a;have r:=ajS a;have h:x[eI n]? = X4 (x.getD (eI n) 0):=by rw[gr,am (by omega:eI n<x.length)];rfl
 have i:x[eJ n]? = X4 (x.getD (eJ n) 0):=by rw[gr,am (by omega:eJ n<x.length)];rfl
 have e:=Mh f a;have g:Bd 128 (x.getD (eI n) 0*x.getD (eJ n) 0):=aet c j a;have o:=aeu hq f c j n (by omega);have l:=(hq.at e).mul g
 go_enter func120,ntmps120
 refine g0 ?_;refine cI m 13 aB (by kernel_rfl) ?_;simp only[zy];refine ql O (λu m=>(show dQ _ _ _ _ (W (atS q x n)) from (m.b 0 O).lies bU aO O O)) ?_;simp only[G];refine aK aJ (cX 1 [] ?_);simp only[↓U,yJ,ah,ai];apply I0;omega;refine ql O (λu m=>(show dQ _ _ _ _ (W (q.getD n 0)) from (xG (m.b 2 O) e).lies bU aO)) ?_;simp only[G];refine aK aJ (cX 1 [] ?_);simp only[↓U,tH,ah,ai];apply I0;omega;refine ql O (λu m=>(show dQ _ _ _ _ (W (x.getD (eI n) 0)) from (xG (m.b 1 O) h).lies bU aO)) ?_;simp only[G];refine aK aJ (cX 1 [] ?_);simp only[↓U,tH,ah,ai];apply I0;omega;refine ql O (λu m=>(show dQ _ _ _ _ (W (x.getD (eJ n) 0)) from (xG (m.b 1 O) i).lies bU aO)) ?_;simp only[G];refine eH O O (tV ((c.at h).mono (by omega)) ((c.at i).mono (by omega))) ?_;simp only[G];refine eH O O (tV ((hq.at e).mono (by omega)) (g.mono (by omega))) ?_;simp only[G];refine eH O O (Za (o.mono (by omega)) (l.mono (by omega))) (aZ ?_);intro u m;simp only[G];refine bP m 0 O O O aO (by simp[wC]) O ?_;intro u m;simp only[zF,zG] at m;rw[ack (by rfl)] at m;exact aI (Gj O ⟨_,O,m⟩)
def auK{q:List Int}{p:H}[I3 p](hq:As k q)(a:q.length=10)(f:k<=900000):dF prog 60 [qV q,pt p] (W (qAt q p)):=by
 intro w;refine⟨bJ func60 (by kernel_rfl),?_⟩;have m:=Mem.refl w
 go_enter func60,ntmps60
 apply gH 7 [0] m;simp only[↓U,jS];intro o r s u m;refine dR 12 [0,1,2,3,4,5,6,7,8,9,10] [⟨11,5,168,[.bool X3,.string ⟨#[]⟩,.bool X3,.string ⟨#[]⟩,.bool X3,.string ⟨#[]⟩,.bool X3,.string ⟨#[]⟩]⟩] aB (by kernel_rfl) (al1 ⟨_,_,_,O,by kernel_rfl,_,acm,O⟩) (ol:=?_) ?l ?_
 case l=>simp only[zw,zQ,zR];try rfl
 intro u d;replace m:=m.ext' d;refine eG (aU (c:=0) fY O aY O O) ?_;simp only[G];refine cO O (λu e=>(((m.ext' e).b 1 O).lies1 bK O)) ?_;simp only[G];refine cM O O (qU Iw.h) (eG (aU (c:=0) fY O aY O O) ?_);simp only[G];refine cO O (λu e=>(((m.ext' e).b 1 O).lies1 bK O)) ?_;simp only[G];refine cM O O (qU Iw.h) (eG (aU (c:=0) fY O aY O O) ?_);simp only[G];refine cO O (λu e=>(((m.ext' e).b 1 O).lies1 bK O)) ?_;simp only[G];refine cM O O (qU Iw.h) ?_;simp only[G];refine cM O O (qU (n:=1) (by constructor <;> decide)) (eG (tR rfl rfl rfl rfl) (vB ?_));simp only[G];refine mf1 m ?_;intro g4 u m;simp only[zJ,zK,zF,zG];refine bP m 0 O O O Mk (gS O) O ?_;intro u m;simp only[zy,zx,over,zF,zG,aa] at m;refine aI ?_;apply Mr 5 [] m;simp only[↓U,jS];intro g5 u m;rw[zw0] at m;apply aT 1 [0] m;simp only[↓U];refine aD fZ ?_;simp only[G,gt,bi,dh];replace m:=m.pull 4 O;simp only[dZ,eA,zF,zG] at m;replace m:=m.pull 2 O;simp only[dZ,eA,zF,zG] at m;replace m:=m.pull 2 O;simp only[dZ,eA,zF,zG] at m;replace m:=m.pack3;refine mJ m 0 ajV O O (λm=>alf (J:=λn=>bI g5 (wC (atS q [p.x,p.y,p.z,1] n)) 95) m 0 O (λn u g j=>auJ j g hq a (bd4 Y7) O f)) ?_;rintro v i u m ⟨rfl,rfl⟩;simp only[zF,zG] at m;simp only[G];replace m:=m.unpack3;rw[ajU a] at m;apply lK 7 [1,3] m;simp only[↓U,dG,aa];intro u m;exact aS O ⟨_,O,((m.b 3 O).full bU aO)⟩ ⟨_,O,m.ext,O⟩
def agr{x:H}:(decide (t.a.x=x.x/\t.a.y=x.y/\t.a.z=x.z)||decide (t.b.x=x.x/\t.b.y=x.y/\t.b.z=x.z)||decide (t.c.x=x.x/\t.c.y=x.y/\t.c.z=x.z))=t.has x:=by
 have e:∀p q:H,(p.x=q.x/\p.y=q.y/\p.z=q.z)↔q=p:=λp q=>⟨λh=>(H.eq h.1 h.2.1 h.2.2).symm,λh=>by rw[h];exact⟨O,O,O⟩⟩
 rw[Bool.eq_iff_iff,eF];simp only[Bool.or_eq_true,R,e,X0]
def asE{ts:List T3}{N cap:Nat}{A:Option Addr}{p:H}(w:ak)(f:bW w A N ts)(E:N<=800000):cY prog 58 [.slice A N cap,pt p] w (λv _=>v=qV (nA ts p)):=by
 refine⟨bJ func58 (by kernel_rfl),?_⟩;have m:=Mem.refl w;have P:=f.len
 go_enter func58,ntmps58
 apply gH 17 [0] m;simp only[↓U,Tj,gM];intro l o q u m;refine bT [10] [7,11,12,13,14,15,16,17,18,19,20,21,22,23,24,25,26,27,28,29,30,31,32,33,34] (λn vs s=>∃(k:Nat),vs=[X6 (k:Int)]/\Mem w s [bI q (qC (nA (ts.take k) p)) 97,bI o [.bool X3,.string ⟨#[]⟩,.bool X3,.string ⟨#[]⟩,.bool X3,.string ⟨#[]⟩,.bool X3,.string ⟨#[]⟩,.bool X3,.string ⟨#[]⟩,.bool X3,.string ⟨#[]⟩,.bool X3,.string ⟨#[]⟩,.bool X3,.string ⟨#[]⟩,.bool X3,.string ⟨#[]⟩,.bool X3,.string ⟨#[]⟩] 97,bI l [X6 p.x,X6 p.y,X6 p.z] 30]/\(k<=N)/\(n=N-k)) ?_ ?_
 . rw[show ([.bool X3,.string ⟨#[]⟩,.bool X3,.string ⟨#[]⟩,.bool X3,.string ⟨#[]⟩,.bool X3,.string ⟨#[]⟩,.bool X3,.string ⟨#[]⟩,.bool X3,.string ⟨#[]⟩,.bool X3,.string ⟨#[]⟩,.bool X3,.string ⟨#[]⟩,.bool X3,.string ⟨#[]⟩,.bool X3,.string ⟨#[]⟩]:List aj)=qC (nA (ts.take 0) p) from zq0] at m
   exact⟨_,0,O,m,bn _,O⟩
 intro n vs wr r u D j
 obtain⟨k,rfl,m,F,I⟩:=r;simp only[zu,zF,zG];apply L 5 [0,0] m;simp only[↓U];refine bC O ?_ ?_<;>intro K
 .obtain⟨t,h,M,a,rfl,C⟩:=f.get (i:=k) (by omega);have g:=oS (ts:=ts) (p:=p) k (by omega);have B:=Nh (p:=p) f.it k (by omega);apply xI 21 [0,1,0,1,4,5,1,4,5,1,4,0] m;simp only[↓U,fR,lL,dM,bQ,aP,ah,ai,aa,ad,ag];refine⟨_,λu m=>((C.ext m.ext).lies cD aW),λg4=>⟨_,eQ,_,eQ,λ_=>⟨_,eQ,λ_=>⟨by omega,?_⟩⟩⟩⟩;intro u m;refine cL O ?_ ?_<;>intro d
  .rw[agr] at d;have c:=yL (p:=p) h;rw[J d] at c;refine cI m 4 aB (by kernel_rfl) ?_;simp only[zy];refine ql O (λu m=>(nB (m.b 1 O) kR dA (by first | rw[e] | rw[oS _ (by omega)]))) ?_;simp only[G];refine ql O (λu m=>((m.b 0 O).full cD aW)) ?_;simp only[G];refine eH O O (auI (t:=t)) ?_;simp only[G];refine eH O O (ae7 g (rZ t) B (ae9.mono (by omega)) (by omega)) (aZ ?_);intro u m;simp only[G];refine qM (n:=20) m 1 O O O (by rw[eY g (rZ t)]) (by rw[nW,g]) dA ?_;intro u m;simp only[zF,zG] at m;refine aI ?_;apply aT 5 [0] m;simp only[↓U];apply I0;omega;rw[<-c] at m;exact j (N-(k+1)) _ _ (by omega) (by kernel_rfl) ⟨k+1,O,(m.sel [X3,Z,Z,Z]),by omega,O⟩
  rw[agr] at d;have c:=yL (p:=p) h;rw[X (by rw[d];exact Bool.false_ne_true)] at c;apply L 6 [0] m;simp only[↓U];apply I0;omega;rw[<-c] at m;exact j (N-(k+1)) _ _ (by omega) (by kernel_rfl) ⟨k+1,O,(m.sel [X3,Z,Z,Z]),by omega,O⟩
 obtain rfl:N=k:=by omega
 rw[show ts.take N=ts from au (by omega)] at m;have e:(nA ts p).length=10:=by have:=oS (ts:=ts) (p:=p) N (by omega);rwa [au (by omega)] at this
 apply L 3 [0] m;simp only[↓U];refine bE O (nB (m.b 0 O) kR dA (by first | rw[e] | rw[oS _ (by omega)])) ?_;simp only[G];refine qM (n:=20) m 1 O O O (by rw[e]) O dA ?_;intro u m;simp only[zF,zG] at m;apply aH 2 [] m;simp only[↓U];exact aS O ⟨_,O,(nB (m.b 1 O) kR dA (by rw[e]))⟩ ⟨_,O,m.ext,O⟩
end
section
attribute [local irreducible] az cw fW bX cP Code.wp
end
section
attribute [local irreducible] az cw fW bX cP Code.wp
attribute [local congr] dK dL cR dJ
variable{u:H}
def vZ{p q:H}[I3 p][I3 q]:dF prog 214 [pt p,pt q] (wv (q.sub p)):=by
 intro w;refine⟨bJ func214 (by kernel_rfl),?_⟩;have m:=Mem.refl w
 go_enter func214,ntmps214
 apply gH 7 [0] m;simp only[↓U,Mw];intro f g i u m;refine dR 8 [0,1,2,3,4,5,6] [⟨7,5,95,[.bool X3,.string ⟨#[]⟩]⟩] aB (by kernel_rfl) (al1 ⟨_,_,_,O,by kernel_rfl,_,uG,O⟩) (ol:=?_) ?d ?_
 case d=>simp only[zw,zQ,zR];try rfl
 intro u a;replace m:=m.ext' a;refine eG (aU (c:=0) fY O aY O O) ?_;simp only[G];refine cO O (λu e=>(((m.ext' e).b 1 O).lies1 bK O)) ?_;simp only[G];refine cM O O (Bb Iw.h) (eG (aU (c:=0) fY O aY O O) ?_);simp only[G];refine cO O (λu e=>(((m.ext' e).b 2 O).lies1 bK O)) ?_;simp only[G];refine cM O O (Bb Iw.h) ?_;simp only[G];refine cM O O (Nc M.up M.up) (vB ?_);simp only[G];refine mf1 m ?_;intro j u m;simp only[zJ,zK,zF,zG];refine bP m 0 O O O aO (gS O) O ?_;intro u m;simp only[zy,zx,over,zF,zG,aa] at m;refine aI ?_;apply aT 1 [0] m;simp only[↓U];refine dR 8 [0,1,2,3,4,5,6] [⟨7,6,95,[.bool X3,.string ⟨#[]⟩]⟩] aB (by kernel_rfl) (al1 ⟨_,_,_,O,by kernel_rfl,_,uG,O⟩) (ol:=?_) ?d ?_
 case d=>simp only[zw,zQ,zR];try rfl
 intro u a;replace m:=m.ext' a;refine eG (aU (c:=0) fY O aY O O) ?_;simp only[G];refine cO O (λu e=>(((m.ext' e).b 2 O).lies1 bK O)) ?_;simp only[G];refine cM O O (Bb Iw.h) (eG (aU (c:=0) fY O aY O O) ?_);simp only[G];refine cO O (λu e=>(((m.ext' e).b 3 O).lies1 bK O)) ?_;simp only[G];refine cM O O (Bb Iw.h) ?_;simp only[G];refine cM O O (Nc M.up M.up) (vB ?_);simp only[G];refine mf1 m ?_;intro k u m;simp only[zJ,zK,zF,zG];refine bP m 0 O O O aO (gS O) O ?_;intro u m;simp only[zy,zx,over,zF,zG,aa] at m;refine aI ?_;apply aT 1 [0] m;simp only[↓U];refine dR 8 [0,1,2,3,4,5,6] [⟨7,7,95,[.bool X3,.string ⟨#[]⟩]⟩] aB (by kernel_rfl) (al1 ⟨_,_,_,O,by kernel_rfl,_,uG,O⟩) (ol:=?_) ?d ?_
 case d=>simp only[zw,zQ,zR];try rfl
 intro u a;replace m:=m.ext' a;refine eG (aU (c:=0) fY O aY O O) ?_;simp only[G];refine cO O (λu e=>(((m.ext' e).b 3 O).lies1 bK O)) ?_;simp only[G];refine cM O O (Bb Iw.h) (eG (aU (c:=0) fY O aY O O) ?_);simp only[G];refine cO O (λu e=>(((m.ext' e).b 4 O).lies1 bK O)) ?_;simp only[G];refine cM O O (Bb Iw.h) ?_;simp only[G];refine cM O O (Nc M.up M.up) (vB ?_);simp only[G];refine mf1 m ?_;intro l u m;simp only[zJ,zK,zF,zG];refine bP m 0 O O O aO (gS O) O ?_;intro u m;simp only[zy,zx,over,zF,zG,aa] at m;refine aI ?_;apply Mr 9 [3,2,1,3] m;simp only[↓U,dG,ar4,aeV,aa];intro u m;exact aS O ⟨_,O,((m.b 3 O).full Qe pL)⟩ ⟨_,O,m.ext,O⟩
def Tz{v:H}(i:Bv 400000 u)(j:Bv 400000 v):dF prog 212 [wv u,wv v] (W (u.dot v)):=by
 intro w;refine⟨bJ func212 (by kernel_rfl),?_⟩;have m:=Mem.refl w
 go_enter func212,ntmps212
 apply gH 7 [0] m;simp only[↓U,jS];intro d f g u m;refine dR 12 [0,1,2,3,4,5,6,7,8,9,10] [⟨11,5,95,[.bool X3,.string ⟨#[]⟩]⟩] aB (by kernel_rfl) (al1 ⟨_,_,_,O,by kernel_rfl,_,uG,O⟩) (ol:=?_) ?c ?_
 case c=>simp only[zw,zQ,zR];try rfl
 intro u a;replace m:=m.ext' a;refine eG (aN Av aO O O (by decide) (by decide) O) ?_;simp only[G];refine cO O (λu e=>(((m.ext' e).b 2 O).lies bU aO O O)) ?_;simp only[G,zy,ai,aa,ag,ad];refine eG (aN Av aO O O (by decide) (by decide) O) ?_;simp only[G];refine cO O (λu e=>(((m.ext' e).b 1 O).lies bU aO O O)) ?_;simp only[G,zy,ai,aa,ag,ad];refine cM O O (Nd M.up M.up) (eG (aN Av aO O O (by decide) (by decide) O) ?_);simp only[G];refine cO O (λu e=>(((m.ext' e).b 2 O).lies bU aO O O)) ?_;simp only[G,zy,ai,aa,ag,ad];refine eG (aN Av aO O O (by decide) (by decide) O) ?_;simp only[G];refine cO O (λu e=>(((m.ext' e).b 1 O).lies bU aO O O)) ?_;simp only[G,zy,ai,aa,ag,ad];refine cM O O (Nd M.up M.up) ?_;simp only[G];refine cM O O (aa2 M.up M.up) (vB ?_);simp only[G];refine mf1 m ?_;intro h u m;simp only[zJ,zK,zF,zG];refine bP m 0 O O O aO (gS O) O ?_;intro u m;simp only[zy,zx,over,zF,zG,aa] at m;refine aI ?_;apply aT 1 [0] m;simp only[↓U];refine cI m 7 aB (by kernel_rfl) ?_;simp only[zy];refine cX 5 [1,4,3] ?_;simp only[↓U,dG,tI,ad,ag,aa];apply I0;omega;refine eH O O (Nd M.up M.up) ?_;simp only[G];refine eH O O (aa2 M.up M.up) (aZ ?_);intro u m;simp only[G];refine bP m 1 O O O aO (gS O) O ?_;intro u m;simp only[zy,zx,over,zF,zG,aa] at m;refine aI ?_;apply aT 1 [] m;simp only[↓U];exact aS O ⟨_,O,((m.b 1 O).full bU aO)⟩ ⟨_,O,m.ext,O⟩
def Ni{a b c d:Int}(e:Bd 400000 a)(f:Bd 400000 b)(hc:Bd 400000 c)(g:Bd 400000 d):dF prog 286 [W a,W b,W c,W d] (W (a*b-c*d)):=by
 intro w;refine⟨bJ func286 (by kernel_rfl),?_⟩;have m:=Mem.refl w;haveI:M 400000 a:=⟨e⟩;haveI:M 400000 b:=⟨f⟩;haveI:M 400000 c:=⟨hc⟩;haveI:M 400000 d:=⟨g⟩
 go_enter func286,ntmps286
 apply gH 9 [0] m;simp only[↓U,jS];intro h i j k l u m;refine cI m 7 aB (by kernel_rfl) ?_;simp only[zy];refine ql O (λu m=>((m.b 4 O).full bU aO)) ?_;simp only[G];refine ql O (λu m=>((m.b 3 O).full bU aO)) ?_;simp only[G];refine eH O O (Nd M.up M.up) ?_;simp only[G];refine ql O (λu m=>((m.b 2 O).full bU aO)) ?_;simp only[G];refine ql O (λu m=>((m.b 1 O).full bU aO)) ?_;simp only[G];refine eH O O (Nd M.up M.up) ?_;simp only[G];refine eH O O (Nc M.up M.up) (aZ ?_);intro u m;simp only[G];refine bP m 0 O O O aO (gS O) O ?_;intro u m;simp only[zy,zx,over,zF,zG,aa] at m;refine aI ?_;apply aT 1 [] m;simp only[↓U];exact aS O ⟨_,O,((m.b 0 O).full bU aO)⟩ ⟨_,O,m.ext,O⟩
def Ua{v:H}(e:Bv 400000 u)(f:Bv 400000 v):dF prog 213 [wv u,wv v] (wv (u.cross v)):=by
 intro w;refine⟨bJ func213 (by kernel_rfl),?_⟩;have m:=Mem.refl w
 go_enter func213,ntmps213
 apply gH 7 [0] m;simp only[↓U,Mw];intro a c d u m;refine cI m 28 aB (by kernel_rfl) ?_;simp only[zy];refine cX 8 [3,2,3,2] ?_;simp only[↓U,tI,dG,ad,ag,aa];apply I0;omega;refine eH O O (Ni M.up M.up M.up M.up) (cX 8 [3,2,3,2] ?_);simp only[↓U,tI,dG,ad,ag,aa];apply I0;omega;refine eH O O (Ni M.up M.up M.up M.up) (cX 8 [3,2,3,2] ?_);simp only[↓U,tI,dG,ad,ag,aa];apply I0;omega;refine eH O O (Ni M.up M.up M.up M.up) (aK (Kc O O O) (aZ ?_));intro u m;simp only[G];refine bP m 0 O O O pL (gS O) O ?_;intro u m;simp only[zy,zx,over,zF,zG,aa] at m;refine aI ?_;apply aT 1 [] m;simp only[↓U];exact aS O ⟨_,O,((m.b 0 O).full Qe pL)⟩ ⟨_,O,m.ext,O⟩
def Nj{t:T3}[IT t]:dF prog 245 [tr t] (wv t.normal):=by
 intro w;refine⟨bJ func245 (by kernel_rfl),?_⟩;have m:=Mem.refl w
 go_enter func245,ntmps245
 apply gH 6 [0] m;simp only[↓U,Mw];intro a c u m;refine cI m 11 aB (by kernel_rfl) ?_;simp only[zy];refine cX 4 [2,2] ?_;simp only[↓U,bQ,aP,ad,ag,aa];apply I0;omega;refine eH O O vZ (cX 4 [2,2] ?_);simp only[↓U,bQ,aP,ad,ag,aa];apply I0;omega;refine eH O O vZ ?_;simp only[G];refine eH O O (Ua Bv.of Bv.of) (aZ ?_);intro u m;simp only[G];refine bP m 0 O O O pL (gS O) O ?_;intro u m;simp only[zy,zx,over,zF,zG,aa] at m;refine aI ?_;apply aT 1 [] m;simp only[↓U];exact aS O ⟨_,O,((m.b 0 O).full Qe pL)⟩ ⟨_,O,m.ext,O⟩
end
end Go.Proofs.YtfekpcimgncioaaGreatDoor
