/-
 Texts of one claim, laid together: Wide2, Wide3, Pack, Wide4, Wide5, Back, Wide7, Wide8, Wide9, Wide10, W6, W7, W8, W9, Ref1, Ref2, Ref3, Ref4, Ref5, Ref6, Ref7, Geo1, Exact, W10, Pack2, W11, Ref8, Exact2, Meas1.
-/
import Derived.RangeFuncNested
import Derived.RangeFuncBound
import Derived.RangeFuncCalls
import Derived.RangeFuncBox
import Derived.RangeFuncLeaves
import Derived.Shelf.Abstract
import Derived.Shelf.RegionOpen
import Derived.WalkKit
import Derived.OwnWalkIn
import Derived.TacticsInMore
import Derived.LoopNIn
import Derived.LoopIn
import Derived.Maps.AppendAt
import Derived.Test.YtfekpcimgncioaaGreatDoorWY3
open Nat renaming reduceAdd->aa,reduceMul->ah,zero_add->aj,le_trans->ax,le_refl->ba,zero_le->bu,lt_of_lt_of_le->cj,lt_or_ge->d_,mul_one->eo,min_eq_left->ep,add_sub_cancel->fb,eq_zero_or_pos->fm,lt_succ_self->fu,ne_of_gt->gp,lt_of_le_of_lt->ig,le_of_not_lt->im,mul_comm->jb,mul_zero->jm,div_lt_iff_lt_mul->jy,mod_eq_of_lt->kd,mod_lt->kj,pow_pos->ky,one_mul->kz,le_of_lt->lo,le_mul_of_pos_right->lz,div_le_self->mf,not_lt_zero->mg,le_mul_of_pos_left->mp,reduceSub->mx,lt_of_not_le->pk,sub_le->qw
open Int renaming reduceToNat->ag,toNat_natCast->ai,reduceAdd->R,natAbs_mul->ob,sub_eq_add_neg->qu
open Go renaming Value->ak,wp_region_lit->am,World->an,wpList->bf,TypeId->bh,MapEntry->cu,wpQuiet->M,wp_ret->i_,wp_skip->ja,wp_block->jd
open List renaming getElem?_eq_getElem->ap,getD_cons_zero->s,getD_cons_succ->au,mem_cons->av,set_cons_succ->aw,set_cons_zero->ay,getElem?_eq_some_iff->az,take_of_length_le->a_,length_cons->be,length_append->bg,map_cons->bm,mem_of_getElem?->bn,mem_singleton->bp,mem_append->bv,not_mem_nil->bw,replicate->bx,length_take->bz,length_nil->cd,nil_append->cl,mem_map->c_,getElem?_eq_none->da,map_append->db,cons_append->de,map_nil->df,drop_eq_getElem_cons->dw,length_map->eb,eq_of_mem_replicate->fc,take_length->fe,getElem?_map->fi,eq_nil_of_length_eq_zero->fj,getElem_mem->fl,map_toArray->fx,drop_of_length_le->gw,mem_append_left->g_,mem_append_right->ib,pairwise_append->il,size_toArray->iq,length_singleton->iu,foldl_append->jf,append_toArray->jj,push_toArray->jw,take_zero->jz,mem_singleton_self->kg,drop_length->lk,drop_zero->lv,getElem_set_self->ng,getElem_set_ne->nz,drop_replicate->po
open Go.Value renaming bool->bj,oneCell'->nf,ownBlock->ro
open Go.Exit renaming inBlock->cn
open Option renaming getD_some->dt,getD_none->og
open BitVec renaming ofInt->et
open UInt8 renaming ofNat->fg,toNat_ofNat'->ka
open Bool renaming false_ne_true->fh
open Option.some renaming inj->fq
open Array renaming replicate_succ->jg,replicate_zero->jh
open Prod renaming snd->rg
open Go.Oper renaming semAt_some->rn
set_option maxHeartbeats 8000000
set_option linter.unusedSimpArgs false
set_option linter.defProp false
set_option linter.unusedVariables false
set_option linter.unusedSectionVars false
open And renaming intro->I0
open Bool renaming true->Z,false->X9
open Option renaming some->H,none->G0
open Go.Proofs.Tryz renaming prog->G1
namespace Go.Proofs.YtfekpcimgncioaaGreatDoor
open Go.Proofs.Tryz
open Go.RowKit Go.Lith
set_option maxRecDepth 100000
section
attribute [local irreducible] bf M fY cJ cU Code.wp
attribute [local congr] dK dL cZ dJ
variable{A:Option Addr}{xs:List Nat}{na ca sh cap:Nat}
def ahq{d:Nat}(w:an)(g:dN w A na ca xs)(aa:xs.length<=1099511627776)(f:0<d)(X:d<=4294967296):dF G1 226 [.slice A na ca,.int .u64 (d:Int)] w (λv w'=>∃q,v=.tuple #[q,.int .u64 ((val 4294967296 xs%d:Nat):Int)]/\iH (val 4294967296 xs / d) q w'):=by
 refine⟨bK func226 (by kernel_rfl),?_⟩;have m:=Mem.refl w;obtain rfl:=g.eq
 go_enter func226,ntmps226
 apply fD 9 [0] m;simp only[↓U,fG];refine lD dB pX O O O (ai _) (ai _) (by omega) (by omega) (by omega) (by omega) ?_;intro u F D J M;replace m:=m.newB D J M;apply aJ 2 [] m;simp only[↓U];rw[gT] at m;apply S 13 [0] m;simp only[↓U,fG];apply I0;omega;refine bU [7,8] [15,16,17,18,19,20,21,22,23,24,25,26,27,28,29,30,31,32,33,34] (λn vs N=>∃(k r:Nat)(os:List Nat),vs=[.int .u64 (r:Int),G ((k:Int)-1)]/\Mem w N [bI F (os.map mT) 231]/\(k<=xs.length)/\(os.length=xs.length)/\(val 4294967296 (xs.drop k)=d*val 4294967296 (os.drop k)+r)/\(r<d)/\(cX 4294967296 os)/\(n=k)) ?_ ?_
 .exact⟨_,xs.length,0,bx xs.length 0,O,m,by omega,by simp,by rw[lk,gw (by simp)];simp only[val,jm],f,λx L=>by rw[fc L];decide,rfl⟩
 intro n vs wr H u V P;obtain⟨k,r,os,rfl,m,K,B,o,j,e,W⟩:=H;simp only[zu,zF,zG];apply aG 6 [0,0] m;simp only[↓U];refine bB O ?_ ?_<;>intro Y
 .apply aG 4 [] m;simp only[↓U];obtain⟨a,rfl,Q,R⟩:=(g.ext m.ext).get (show k-1<xs.length by omega);have ad:r<4294967296:=by omega
  apply S 2 [0] m;simp only[↓U];refine C (Pi O O (by omega) (Bg (n:=32) (by omega) (by omega))) ?_;apply aJ 2 [0] m;simp only[↓U];refine C (aP dB bN O O (by omega) (by omega) (oW (show _=k-1 by omega))) ?_;simp only[I];refine aS O (lies1 Q fO) ?_;simp only[I];refine C (acx O O (Rc (s:=32) (c:=r) (by omega) (by omega) (by omega))) ?_;apply aJ 2 [] m;simp only[↓U];obtain⟨t,l⟩:∃t:Nat,t=xs[k-1]+r*4294967296:=⟨_,rfl⟩
  rw[<-l];have T:t<18446744073709551616:=by omega
  have ab:(d:Int)≠0:=by omega
  refine gc ?_;refine am1 m [Z] [9] (.take 0 (.take 1 (.take 2 (.take 3 (.take 4 (.move 5 (.move 6 (.move 7 (.take 8 (.one 9 (.move 10 .nil))))))))))) aD (by kernel_rfl) (bT (λ_ _ _ _ _ h=>h)) ?_;intro u m;refine gG (by simp only[zw];rfl) (bY aI (bO (gG (by simp only[zw];rfl) (bY aI (bO (gG (by simp only[zw];rfl) (bY aI (bO (gG (by simp only[zw];rfl) (bY aI ?_))))))))));simp only[I];refine bO (gG (by simp only[zw];rfl) (bY (iO rfl rfl (by omega) (Rf T)) (bO (xI (by simp only[zw];rfl) (bY aI (bO (xI (by simp only[zw];rfl) (bY aI (bO (xI (by simp only[zw];rfl) ?_))))))))));simp only[I];refine bY (cW O O (by omega) oN) (bO (gG (by simp only[zw];rfl) ?_));simp only[I];refine bY (aP dB bN O O (by omega) (by omega) (rQ (show _=k-1 by omega))) (bO (vC (by simp only[zw];rfl) ?_));simp only[I];refine dP m 0 O O O bN (by simp;omega) ⟨rfl,rfl⟩ ?_;intro u m;simp only[I] at m ;rw[gH (by omega)] at m;refine E ⟨λh=>Y0 (by decide) h,?_⟩;refine xI (by simp only[zw];rfl) (bY aK (bO (adP ?_)));apply S 6 [0] m;simp only[↓U];apply I0;omega;obtain⟨p,y,z⟩:=acF (by omega) K B o j e R;rw[<-l] at p y z;rw[show ((k:Int)-1-1)=((k-1:Nat):Int)-1 by omega];exact P (k-1) _ _ (by omega) (by kernel_rfl) ⟨k-1,t%d,os.set (k-1) (t / d),O,m,by omega,by simpa using B,p,z,y,O⟩
 apply aG 2 [] m;simp only[↓U];obtain rfl:k=0:=by omega
 apply S 2 [0] m;simp only[↓U];refine cC m O O (yT _ ((m.b 0 O).nat e (by omega) (by omega))) ?_;rintro v u m rfl;apply aJ 5 [] m;simp only[↓U];refine jG O O O ?_;try simp only[zD,zE]
 (have i:val 4294967296 os=val 4294967296 xs / d/\r=val 4294967296 xs%d:=Sl f j (by simpa using o));exact⟨_,O,m.ext,_,by rw[i.2],iH.of_trim ((m.b 0 O).nat e (n:=xs.length) (by omega) (by omega)) i.1⟩
def ahr(w:an)(d:dN w A na ca xs)(R:xs.length<=1099511627776)(r:sh<=31):dF G1 290 [.slice A na ca,G (sh:Int)] w (λv w'=>∃g os,v=.slice (H ⟨g,0,G0⟩) (xs.length+1) (xs.length+1)/\w.heap.size<=g/\fK w' g (os.map mT) 231/\os.length=xs.length+1/\cX 4294967296 os/\val 4294967296 os=2^sh*val 4294967296 xs):=by
 refine⟨bK func290 (by kernel_rfl),?_⟩;have m:=Mem.refl w;obtain rfl:=d.eq
 go_enter func290,ntmps290
 apply fD 9 [0] m;simp only[↓U,fG];apply I0;omega;refine lD dB pX O O O (show _=xs.length+1 by omega) (show _=xs.length+1 by omega) (by omega) (by omega) (by omega) (by omega) ?_;intro u o l q z;replace m:=m.newB l q z;apply aJ 2 [] m;simp only[↓U];rw[gT] at m;apply S 8 [0] m;simp only[↓U,fG];refine bU [14] [6,7,15,16,17,18,19,20,21,22,23,24,25,26,27,28,29,30,31,32,33,34,35,36] (λn vs J=>∃(i:Nat)(os:List Nat),vs=[G (i:Int)]/\Mem w J [bI o (os.map mT) 231]/\(i<=xs.length)/\(os.length=xs.length+1)/\(val 4294967296 os=2^sh*val 4294967296 (xs.take i))/\(os.drop (i+1)=bx (xs.length-i) 0)/\(cX 4294967296 os)/\(∀h:i<os.length,os[i]<2^sh)/\(n=xs.length-i)) ?_ ?_
 .exact⟨_,0,bx (xs.length+1) 0,O,m,by omega,by simp,by rw[fI,jz];rfl,by rw[po];congr 1,λx t=>by rw[fc t];decide,λh=>by rw[List.getElem_replicate];exact ky (by decide),O⟩
 intro n vs wr p u M K;obtain⟨i,os,rfl,m,P,c,f,y,e,hc,r⟩:=p;simp only[zu,zF,zG];apply aG 5 [0,0] m;simp only[↓U];refine bB O ?_ ?_<;>intro Q
 .apply aG 4 [] m;simp only[↓U];obtain⟨a,rfl,L,j⟩:=(d.ext m.ext).get (show i<xs.length by omega);apply S 3 [0] m;simp only[↓U,iJ,ai,aj,eo];apply I0;omega;refine aS O (lies1 L fO) ?_;simp only[I];apply aJ 4 [] m;simp only[↓U];have k:=aeG (n:=sh) (by omega) j;have N:=Rh (x:=xs[i]) (n:=sh) (by omega) (hc (by omega));apply S 3 [0] m;simp only[↓U];refine C (Pi O O (by omega) (Bg (n:=sh) (by omega) k)) ?_;apply aJ 3 [] m;simp only[↓U];have T:xs[i]*2^sh%4294967296<4294967296:=kj _ (by decide);apply S 4 [0] m;simp only[↓U,iJ,ai,aj,eo];apply I0;omega;refine aS O (lies1 ((m.b 0 O).word (show i<os.length by omega)) fO) ?_;simp only[I];apply aJ 1 [0] m;simp only[↓U];refine C (zX O O (Re k)) (C (acx O O (aaS (s:=sh) (hc (by omega)) (Rg (by omega)) (by omega))) ?_);apply aJ 1 [0] m;simp only[↓U,iJ,ai,aj,eo];apply I0;omega;refine dP m 0 O O O bN (by simp;omega) ⟨rfl,rfl⟩ ?_;intro u m;simp only[I] at m ;rw[gH (by omega)] at m;apply aJ 6 [0] m;simp only[↓U];apply I0;omega;refine C (pE O O (by omega) aaV) ?_;simp only[I];refine C (aP dB bN O O (by omega) (by omega) (rQ (show _=i+1 by omega))) ?_;simp only[I];refine dP m 0 O O O bN (by simp;omega) ⟨rfl,rfl⟩ ?_;intro u m;simp only[I] at m ;rw[gH (by simp;omega)] at m;apply aJ 6 [0] m;simp only[↓U];apply I0;omega;obtain⟨B,D,E,F⟩:=acH (by omega) (by omega) c f y e (by omega) (hc (by omega)) j;rw[show ((i:Int)+1)=((i+1:Nat):Int) by omega];exact K (xs.length-(i+1)) _ _ (by omega) (by kernel_rfl) ⟨i+1,(os.set i (os[i]+xs[i]*2^sh%4294967296)).set (i+1) (xs[i]*2^sh / 4294967296),O,m,by omega,by simpa using c,B,D,E,F,O⟩
 apply aG 2 [] m;simp only[↓U];obtain rfl:i=xs.length:=by omega
 apply S 5 [] m;simp only[↓U];exact aU O O ⟨_,O,m.ext,_,os,O,(m.gb 0 O),(m.b 0 O),c,e,by rw[f,fe]⟩
def ajf(w:an)(k:dN w A na ca xs)(Y:xs.length<=1099511627776)(F:sh<=31):dF G1 293 [.slice A na ca,G (sh:Int)] w (iH (val 4294967296 xs / 2^sh)):=by
 refine⟨bK func293 (by kernel_rfl),?_⟩;have m:=Mem.refl w;obtain rfl:=k.eq
 go_enter func293,ntmps293
 apply fD 8 [0] m;simp only[↓U,fG];refine lD dB pX O O O (ai _) (ai _) (by omega) (by omega) (by omega) (by omega) ?_;intro u B z D J;replace m:=m.newB z D J;apply aJ 2 [] m;simp only[↓U];rw[gT] at m;apply S 8 [0] m;simp only[↓U,fG];refine bU [13] [6,7,14,15,16,17,18,19,20,21,22,23,24,25,26,27,28,29,30,31,32,33,34,35,36,37,38,39,40,41] (λn vs K=>∃(i:Nat)(os:List Nat),vs=[G (i:Int)]/\Mem w K [bI B (os.map mT) 231]/\(i<=xs.length)/\(os.length=xs.length)/\(val 4294967296 os=val 4294967296 (xs.take i) / 2^sh)/\(os.drop i=bx (xs.length-i) 0)/\(cX 4294967296 os)/\(0<i->∀h:i-1<os.length,os[i-1]<2^(32-sh))/\(n=xs.length-i)) ?_ ?_
 .exact⟨_,0,bx xs.length 0,O,m,by omega,by simp,by rw[fI,jz,show val 4294967296 []=0 from O,Nat.zero_div],O,λx H=>by rw[fc H];decide,λh=>Y0 h (by omega),rfl⟩
 intro n vs wr C u P t;obtain⟨i,os,rfl,m,R,g,l,o,e,hc,F⟩:=C;simp only[zu,zF,zG];apply aG 5 [0,0] m;simp only[↓U];refine bB O ?_ ?_<;>intro W
 .apply aG 4 [] m;simp only[↓U];obtain⟨a,rfl,N,d⟩:=(k.ext m.ext).get (show i<xs.length by omega);apply S 3 [0] m;simp only[↓U,iJ,ai,aj,eo];apply I0;omega;refine aS O (lies1 N fO) ?_;simp only[I];apply aJ 4 [] m;simp only[↓U];obtain⟨M,V⟩:=iS o (by omega);have T:xs[i] / 2^sh<4294967296:=ig (mf _ _) d;refine gc (dQ m 9 aD (by kernel_rfl) ?_);simp only[zy];refine fE 3 [] ?_;simp only[↓U,iJ,ai,aj,eo];apply I0;omega;refine ql O (λu m=>(lies1 ((m.b 0 O).word (show i<os.length by omega)) fO)) ?_;simp only[I];refine L aI (L aI ?_);simp only[I];refine L (pE O O (by omega) (aoG (n:=sh) (by omega))) (L (acx O O (aaS (s:=0) (c:=xs[i] / 2^sh) (by omega) (by omega) (by omega))) ?_);refine fE 1 [] ?_;simp only[↓U,iJ,ai,aj,eo];apply I0;omega;refine bM ?_;intro u m;refine dP m 0 O O O bN (by simp;omega) ⟨rfl,rfl⟩ ?_;intro u m;simp only[I] at m ;rw[gH (by omega),M,aj] at m;refine E ?_;apply S 5 [0,0] m;simp only[↓U];refine bB O ?_ ?_<;>intro X
  .obtain⟨j,rfl⟩:∃j,i=j+1:=⟨i-1,by omega⟩
   have y:=aeG (x:=xs[j+1]) (n:=32-sh) (by omega) d;have f:=hc (by omega) (by omega);simp only[fb] at f;have Q:=Rh (x:=xs[j+1]) (n:=32-sh) (by omega) f;have Z:xs[j+1]*2^(32-sh)%4294967296<4294967296:=kj _ (by decide);refine dQ m 12 aD (by kernel_rfl) ?_;simp only[zy];refine fE 3 [] ?_;simp only[↓U];apply I0;omega;refine L (aP dB bN O O (by omega) (by omega) (rQ (show _=j by omega))) ?_;simp only[I];refine ql O (λu m=>(lies1 (by have h:=(m.b 0 O).word (show j<(os.set (j+1) (xs[j+1] / 2^sh)).length by simp;omega);rw[nz (by omega)] at h;exact h) fO)) ?_;simp only[I];refine L aI (L aI (L (zW O O ((cF (by omega) (by omega)).trans (show (32:Int)-(sh:Int)=((32-sh:Nat):Int) by omega))) ?_));simp only[I];refine L (Pi O O (by omega) (Bg (n:=32-sh) (by omega) y)) (L (zX O O (Re y)) (L (acx O O (aaS (s:=32-sh) f (Rg (by omega)) (by omega))) ?_));simp only[I];refine L (aP dB bN O O (by omega) (by omega) (rQ (show _=j by omega))) (bM ?_);intro u m;simp only[I];refine dP m 0 O O O bN (by simp;omega) ⟨rfl,rfl⟩ ?_;intro u m;simp only[I] at m ;rw[gH (by simp;omega)] at m;refine E ?_;apply S 5 [0] m;simp only[↓U];apply I0;omega;obtain⟨p,q,r⟩:=Xm (n:=sh) (by omega) (by omega) g l o e k.digs (by omega) f;rw[show (((j+1:Nat):Int)+1)=((j+1+1:Nat):Int) by omega];exact t (xs.length-(j+1+1)) _ _ (by omega) (by kernel_rfl) ⟨j+1+1,(os.set (j+1) (xs[j+1] / 2^sh)).set j (os[j]+xs[j+1]*2^(32-sh)%4294967296),O,m,by omega,by simpa using g,p,q,r,λ_ h=>by simp only[fb];rw[nz (by omega),ng];exact akf (by omega) d,O⟩
  apply aG 6 [0] m;simp only[↓U];apply I0;omega;obtain rfl:i=0:=by omega
  obtain⟨p,q,r⟩:=Xk (n:=sh) (by omega) (by omega) g l o e d;rw[show (((0:Nat):Int)+1)=((0+1:Nat):Int) by omega];exact t (xs.length-(0+1)) _ _ (by omega) (by kernel_rfl) ⟨0+1,os.set 0 (xs[0] / 2^sh),O,m,by omega,by simpa using g,p,q,r,λ_ h=>by simp only[fb];rw[ng];exact akf (by omega) d,O⟩
 apply aG 2 [] m;simp only[↓U];obtain rfl:i=xs.length:=by omega
 apply S 2 [0] m;simp only[↓U];refine cC m O O (yT _ ((m.b 0 O).nat e (by omega) (by omega))) ?_;rintro v u m rfl;apply aJ 3 [] m;simp only[↓U];exact aU O O ⟨_,O,m.ext,iH.of_trim ((m.b 0 O).nat e (n:=xs.length) (by omega) (by omega)) (by rw[l,fe])⟩
def am2{w:an}{n:Nat}(h:dN w A n cap xs)(e:A.isNone=Z):xs=[]:=by
 rcases A with _|a
 .exact h.none
 cases e
def ap6{w0 w:an}{S:List (Option Nat)}{E:bh}{n:Nat}(h:Ow w0 w S E 1 A n cap (xs.map mT))(d:n=xs.length)(b:cX 4294967296 xs)(f:n<=17592186044416):dN w A n cap xs:=by
 refine⟨d,λi x c=>?_,by have:=h.le;omega,h.max,by omega,b⟩;obtain⟨a,e,hc⟩:=h.row i (mT x) (by rw[fi,c];rfl);exact⟨a,e,hc⟩
def ahs(w:an)(a:dN w A na ca xs):dF G1 327 [.slice A na ca] w (aoK xs):=by
 refine⟨bK func327 (by kernel_rfl),?_⟩;have m:=Mem.refl w;obtain rfl:=a.eq;have p:=a.len
 go_enter func327,ntmps327
 apply fD 8 [0] m;simp only[↓U];refine C (Sn dB O O) ?_;apply aJ 1 [0] m;simp only[↓U];refine cQ O ?_ ?_<;>intro i
 .obtain rfl:=am2 a i;apply aG 5 [] m;simp only[↓U];exact aU O O ⟨_,O,m.ext,G0,0,O,dN.nil _⟩
 apply aG 3 [0] m;simp only[↓U];refine Kl dB (c:=1) (by kernel_rfl)  ?_;intro u l d e h;replace m:=m.newB d e h;simp only[I];replace m:=m.own 0 O (n:=0) (c:=1) O (X O);simp only[zG] at m;apply aJ 1 [0] m;simp only[↓U];refine bW m 0 O O dB pX O (by decide) O O (show (xs.map mT).length=xs.length*1 by simp) (λj u b=>by rw[fi] at b;obtain⟨x,g,rfl⟩:=Option.map_eq_some_iff.1 b;exact (a.ext m.ext).row j x g) (λu f=>by obtain⟨x,_,rfl⟩:=c_.1 f;rfl) (by omega) (by omega) ?_;intro k q u m;simp only[zF,zG] at m;simp only[aj,cl] at m ⊢;apply aJ 3 [] m;simp only[↓U];exact aU O O ⟨_,O,m.ext,_,_,O,ap6 (m.o 0 O) O a.digs (by omega)⟩
end
section
attribute [local irreducible] bf M fY Code.wp
variable{na nb cb:Nat}
def Oo{A:Option Addr}{xs:List Nat}{cap:Nat}(w:an)(a:dN w A na cap xs):dF G1 256 [.slice A na cap] w (iH (val 4294967296 xs)):=
 (yT w a).mono λv w' b h=>by subst h;exact iH.of_trim (a.ext b) O
def am3{A B:Option Addr}{xs ys:List Nat}{f d:Nat}(w:an)(e:dN w A na f xs)(g:dN w B nb cb ys)(j:ys.length+1<=xs.length)(q:ys.length<=1099511627776)(h:d<4294967296):dF G1 291 [.slice A na f,.slice B nb cb,.int .u64 (d:Int)] w (λv _=>v=.bool (decide (val 4294967296 (xs.take (ys.length+1))<val 4294967296 ys*d))):=by
 skip
 refine⟨bK func291 (by kernel_rfl),?_⟩;have b:=eQ.refl w;obtain rfl:=e.eq;obtain rfl:=g.eq;have Q:=e.le;have R:=e.cap
 go_enter func291,ntmps291
 refine aV (λx l=>am (C aK ?_));simp only[I];refine E (l _ _ ?_);refine aV (λy m=>am (C aI (C aI (C (qG O dB O) ?_))));simp only[I];refine C (fZ O O (cF (by omega) (by omega))) (C (lY dB bN O O (show _=ys.length+1 by omega) (by omega) (by omega)) ?_);simp only[I];refine aX O O (ahs _ ((e.ext b).head j)) ?_;rintro v H a ⟨r,c1,rfl,n⟩;replace b:=b.trans a;clear a;simp only[I];refine aX O O (Oo _ n) ?_;rintro v J a ⟨s,c2,rfl,c⟩;replace b:=b.trans a;clear a;simp only[I];refine C aI (C aI ?_);simp only[I];refine fR dB (z:=.int .u64 0) (by kernel_rfl) O (by simp only[I];rfl) (by rfl) ?_;intro K G a i k;have P:=ax b.size i
 (try replace c:=c.ext a);replace b:=b.trans a
 clear a i;simp only[I];refine aX O O (Oo _ (k.nat (os:=[d]) (Ab h) O (by omega))) ?_;rintro v L a ⟨t,D,rfl,o⟩
 (try replace c:=c.ext a);replace b:=b.trans a
 clear a;simp only[I];refine aX O O (am0 _ (g.ext b) o q (ax (vG (Ab h)) (by simp))) ?_;rintro v M a ⟨u,F,rfl,p⟩
 (try replace c:=c.ext a);replace b:=b.trans a
 clear a;simp only[I];refine aX O O (ahp _ c p (gW _) (gW _)) ?_;rintro v N a rfl;replace b:=b.trans a;clear a;simp only[I];refine C (Cx O O) (C aK ?_);simp only[I];refine E (m _ _ ?_);refine i_ ?_;try simp only[cn,Exit.then]
 refine aU O O ?_;try simp only[zD,zE]
 exact⟨_,O,b,by rw[akh];simp only[cS,wV]⟩
def abZ{B:Option Addr}{os ys:List Nat}{g0 off d:Nat}(w:an)(f:fK w g0 (os.map mT) 231)(t:cX 4294967296 os)(ad:os.length<=1099511627776)(p:dN w B nb cb ys)(Q:off+(ys.length+1)<=os.length)(y:na=os.length-off)(q:d<4294967296)(x:val 4294967296 ys*d<=val 4294967296 ((os.drop off).take (ys.length+1))):akg G1 292 [.slice (H ⟨g0,off,G0⟩) na na,.slice B nb cb,.int .u64 (d:Int)] w g0 (λ_ w'=>fK w' g0 ((laid os off (ys.length+1) (val 4294967296 ((os.drop off).take (ys.length+1))-val 4294967296 ys*d)).map mT) 231):=by
 skip
 refine⟨bK func292 (by kernel_rfl),?_⟩;have c:=eQ.refl w;obtain rfl:=p.eq;have ab:=f.lt;have G:dN w (H ⟨g0,off,G0⟩) na na (os.drop off):=by
  have h:=(f.nat t rfl (by omega)).drop (show off<=os.length by omega) y;rw[eD,aj] at h;rwa [y] at *
 have s:ys.length+1<=(os.drop off).length:=by simp;omega
 obtain⟨V,k⟩:∃V,V=val 4294967296 ((os.drop off).take (ys.length+1)):=⟨_,rfl⟩
 rw[<-k] at x ⊢
 go_enter func292,ntmps292
 refine aV (λU L=>am (C aI (C aI (C (qG O dB O) ?_))));simp only[I];refine C (fZ O O (cF (by omega) (by omega))) (C (lY dB bN O O (show _=ys.length+1 by omega) (by omega) (by omega)) ?_);simp only[I];refine aX O O (ahs _ ((G.ext c).head s)) ?_;rintro v w1 b ⟨R,c1,rfl,i⟩;replace f:=f.ext b;replace c:=c.trans b;clear b;simp only[I];refine C aI (C aI ?_);simp only[I];refine fR dB (z:=.int .u64 0) (by kernel_rfl) O (by simp only[I];rfl) (by rfl) ?_;intro w2 F b r K;have aa:=ax c.size r;have af:F≠g0:=gp (cj f.lt r);replace f:=f.ext b;(try replace i:=i.ext b);replace c:=c.trans b;clear b r;simp only[I];refine aX O O (Oo _ (K.nat (os:=[d]) (Ab q) O (by omega))) ?_;rintro v w3 b ⟨S,X,rfl,N⟩;replace f:=f.ext b;(try replace i:=i.ext b);replace c:=c.trans b;clear b;simp only[I];refine aX O O (am0 _ (p.ext c) N (by omega) (ax (vG (Ab q)) (by simp))) ?_;rintro v w4 b ⟨T,Y,rfl,P⟩;replace f:=f.ext b;(try replace i:=i.ext b);replace c:=c.trans b;clear b;simp only[I];have ae:=c.size;refine aX O O (amZ _ i P (by simp only[cS,wV];rw[bz,ep s];exact Qt p.digs q) (by simp only[cS,wV];rw[<-k];exact x) (by rw[bz];omega)) ?_;rintro v w5 b ⟨⟨D,Z,rfl,l⟩,A⟩;replace f:=f.ext b;replace c:=c.trans b;clear b;replace A:∀a,D=H a->a.block≠g0:=λa e=>by subst e;have:=A a _ _ rfl;omega
 simp only[cS,wV,<-k] at l ⊢;have J:(digs 4294967296 (V-val 4294967296 ys*d)).length<=ys.length+1:=dU (by omega) (ig (qw _ _) (by have h:=iZ ((t.drop off).take (ys.length+1));rw[bz,ep s,<-k] at h;exact h));simp only[I];refine C aK ?_;simp only[I];refine E (L _ _ ?_);refine aV (λW M=>?_);replace c:=c.upd g0;have u:w.heap.size<=g0\/g0=g0:=.inr rfl;refine am (C aI (C aI (C (qG O dB O) ?_)));simp only[I];refine C (fZ O O (cF (by omega) (by omega))) (C (lY dB bN O O (show _=ys.length+1 by omega) (by omega) (by omega)) ?_);simp only[I];refine aoI (z:=.int .u64 0) O dB (by kernel_rfl) O O (by omega) f (by simp;omega) rfl ?_;clear f;intro w6 j f
 (try replace l:=l.chg j (by first|assumption|rfl));replace c:=c.chg j u
 clear j;refine E (M _ _ ?_);refine am (C aI (C aI ?_));simp only[I];refine aoL O dB (by kernel_rfl) O O (g:=g0) (o:=off) (n:=na) (m:=(digs 4294967296 (V-val 4294967296 ys*d)).length) (us:=(digs 4294967296 (V-val 4294967296 ys*d)).map mT) (by rw[eb];exact (ep (by omega)).symm) l.src f (by rw[Du (by simp;omega)];simp;omega) aki ?_;clear f;intro w7 j f;replace c:=c.chg j u;clear j;simp only[I];refine E ?_;try simp only[cn,Exit.then,Y4]
 exact So O ⟨_,O,c,by rw[<-aia Q J];exact f⟩
end
end Go.Proofs.YtfekpcimgncioaaGreatDoor
namespace Go.Lith
open Go.RowKit Go.ChangeMaps Go.MapKept
def Fq(is:List It):It where
 own b:=∃i∈is,i.own b
 P w:=(∀i∈is,i.P w)/\is.Pairwise Ap
 lt w b h e:=by obtain⟨i,hi,ho⟩:=e;exact i.lt w b (h.1 i hi) ho
 st w w' h s k:=⟨λi hi=>i.st w w' (h.1 i hi) s λb hb=>k b ⟨i,hi,hb⟩,h.2⟩
section
variable{w0 w:an}{a is:List It}
def Mem.pack(a:List It)(m:Mem w0 w (a++is)):Mem w0 w (a++[Fq is]):=by
 have h:=il.1 m.nd;refine⟨m.ext,λi hi=>?_,λi hi b c=>?_,il.2 ⟨h.1,List.pairwise_singleton _ _,λx e y f b h1 h2=>?_⟩⟩
 . rcases bv.1 hi with hi|hi
   .exact m.all i (g_ _ hi)
   obtain rfl:=bp.1 hi
   exact⟨λi hi=>m.all i (ib _ hi),h.2.1⟩
 . rcases bv.1 hi with hi|hi
   .exact m.ge i (g_ _ hi) b c
   obtain rfl:=bp.1 hi
   obtain⟨j,d,c⟩:=c;exact m.ge j (ib _ d) b c
 obtain rfl:=bp.1 f
 obtain⟨j,d,c⟩:=h2;exact h.2.2 x e j d b h1 c
def Mem.unpack(a:List It)(m:Mem w0 w (a++[Fq is])):Mem w0 w (a++is):=by
 have h:=il.1 m.nd;have c:(∀i∈is,i.P w)/\is.Pairwise Ap:=m.all _ (ib _ (kg _));refine⟨m.ext,λi hi=>?_,λi hi b d=>?_,il.2 ⟨h.1,c.2,λx e y f b h1 h2=>?_⟩⟩
 . rcases bv.1 hi with hi|hi
   .exact m.all i (g_ _ hi)
   exact c.1 i hi
 . rcases bv.1 hi with hi|hi
   .exact m.ge i (g_ _ hi) b d
   exact m.ge _ (ib _ (kg _)) b ⟨i,hi,d⟩
 exact h.2.2 x e _ (kg _) b h1 ⟨y,f,h2⟩
end
def xJ(P:Program)(f:FuncId)(args:List ak)(w:an)(R:ak->an->Prop):Prop:=
 Entr P f/\Calls P f args.toArray w λe w'=>∃v,e=.returned v/\R v w'
def xJ.mono{P:Program}{f:FuncId}{args:List ak}{w:an}{R a:ak->an->Prop}(h:xJ P f args w R)(d:∀v w',R v w'->a v w'):xJ P f args w a:=
 ⟨h.1,h.2.mono λ_ _ ⟨v,c,b⟩=>⟨v,c,d _ _ b⟩⟩
section
variable{P:Program}{ds:List Deferred}{l:List ak}{ty:bh}{w:an}
variable{ops:Array Oper}{Q:Exit->Act->an->Prop}{rest:List Oper}{d:Nat}{pos:String}{after:Array Edge}
def jN{f:FuncId}{a:Operand}{xs:Array Operand}{args:List ak}{first cap:Array ak}{a0:Array bh}{R:ak->an->Prop}(g:ev l a=.func (.func f) first cap)(i:first.toList++xs.toList.map (ev l)++cap.toList=args)(hc:xJ P f args w R)
 (h:∀v u,R v u->bf P ops Q rest (Fr (l.set d v) ds) u):bf P ops Q (Oper.mk (H d) (.call { callee:=.value a,args:=xs,argTypes:=a0 }) ty pos after G0::rest) (Fr l ds) w:=by
 refine wpList_plain O λK b=>?_;unfold Oper.wp;rw[iP,rJ hc.1 g i _ rfl];refine hc.2.mono ?_;rintro e w' ⟨v,rfl,c⟩;show K ((Fr l ds).put (H d) v) w'
 rw[gV];exact b _ _ (h v w' c)
end
end Go.Lith
namespace Go.Proofs.YtfekpcimgncioaaGreatDoor
open Go.Proofs.Tryz
open Go.RowKit Go.Lith
section
set_option maxRecDepth 100000
attribute [local irreducible] bf M fY cJ cU Code.wp
attribute [local congr] dK dL cZ dJ
def toM{P:Program}{f:FuncId}{args:List ak}{w0 w:an}{is:List It}{g:Nat}{cs c:List ak}{t:bh}(m:Mem w0 w is)(k:Nat)(j:is[k]? = H (bI g cs t))(h:akg P f args w g λ_ w'=>fK w' g c t):xJ P f args w λ_ u=>Mem w0 u (is.set k (bI g c t)):=
 ⟨h.1,h.2.mono λ_ _ ⟨v,e,a,d⟩=>⟨v,e,m.put k j a.os a.tape a.output a.size (λb i l=>a.block b i λe=>l (by rw[e];rfl)) d (.inl λ_ h=>h)⟩⟩
def av6{A B:Option Addr}{xs ys:List Nat}{na nb ca cb:Nat}(w:an)(hS:dN w A na ca xs)(V:dN w B nb cb ys)(tx:gC xs)(ty:gC ys)(h0:0<val 4294967296 ys)(bp:xs.length<=1000000000000)(bq:ys.length<=1000000000000):dF G1 225 [.slice A na ca,.slice B nb cb] w (λv w'=>∃q r,v=.tuple #[q,r]/\iH (val 4294967296 xs / val 4294967296 ys) q w'/\iH (val 4294967296 xs%val 4294967296 ys) r w'):=by
 refine⟨bK func225 (by kernel_rfl),?_⟩;have m:=Mem.refl w;obtain rfl:=hS.eq;obtain rfl:=V.eq
 go_enter func225,ntmps225
 apply fD 10 [0] m;simp only[↓U];refine cC m O O (ahp _ (hS.ext m.ext) (V.ext m.ext) tx ty) ?_;rintro v u m rfl;apply aJ 2 [0,0] m;simp only[↓U];refine bB O ?_ ?_<;>intro aN
 .have aR:=Bh.1 aN;apply aG 7 [] m;simp only[↓U];exact jG O O O ⟨_,O,m.ext,_,_,O,by rw[Nat.div_eq_of_lt aR];exact iH.zero _,by rw[kd aR];exact iH.self (hS.ext m.ext) tx⟩
 have bh:val 4294967296 ys<=val 4294967296 xs:=im λh=>aN (Bh.2 h);apply aG 8 [0,0] m;simp only[↓U,fG];refine bB O ?_ ?_<;>intro a4
 .apply aG 1 [] m;simp only[↓U];obtain⟨y,rfl⟩:∃y,ys=[y]:=List.length_eq_one_iff.1 (by omega);obtain⟨b,rfl,al,ao⟩:=(V.ext m.ext).get (i:=0) (by simp);simp only[List.getElem_cons_zero] at al ao;apply S 3 [0] m;simp only[↓U];refine C (aP dB bN O O (by decide) (by omega) O) ?_;simp only[I];refine aS O (lies1 al fO) ?_;simp only[I];refine aX O O (ahq _ (hS.ext m.ext) (by omega) (by rw[wV] at h0;exact h0) (by omega)) ?_;rintro v u f ⟨q,rfl,A1,c1,rfl,ad⟩;replace m:=m.ext' f;apply aJ 10 [0] m;simp only[↓U];refine fR dB (z:=.int .u64 0) (by kernel_rfl) O O O ?_;intro u g1 f h_ k_;replace m:=m.newB f h_ k_;simp only[I];replace ad:=ad.ext f;refine aX O O (Oo _ ((m.b 0 O).nat (os:=[val 4294967296 xs%y]) (Ab (cj (kj _ (by rw[wV] at h0;exact h0)) (by omega))) O (by omega))) ?_;rintro v u f ⟨A2,c2,rfl,aH⟩;replace m:=m.ext' f;replace ad:=ad.ext f;simp only[I];simp only[wV] at aH ⊢;apply aJ 4 [] m;simp only[↓U];exact jG O O O ⟨_,O,m.ext,_,_,O,⟨A1,c1,O,ad⟩,⟨A2,c2,O,aH⟩⟩
 have bo:2<=ys.length:=by
  rcases ys with _|⟨y,ys⟩
  .exact Y0 h0 (by simp[val])
  simp only[be] at a4 ⊢;omega
 have bt:ys.length<=xs.length:=by
  rcases d_ xs.length ys.length with h|h
  .have:=lZ (B:=4294967296) (by omega) hS.digs V.digs ty h;omega
  exact h
 obtain⟨b,rfl,_,ao⟩:=V.get (i:=ys.length-1) (by omega);have aZ:=Dw ty (by omega);apply aG 7 [0] m;simp only[↓U];refine bU [8] [39,40,41,42,43,44,45,46,47,48,49,50] (λn vs wl=>∃(g:Nat),vs=[G (g:Int)]/\Mem w wl []/\(ys[ys.length-1]*2^g<4294967296)/\(g<=31)/\(n=32-g)) ?_ ?_
 .exact⟨_,0,O,m,by simpa using ao,by omega,O⟩
 intro n vs wr F u K1 a1;obtain⟨g,rfl,m,a9,az,hn⟩:=F;simp only[zu,zF,zG];apply aG 2 [] m;simp only[↓U];have al:=(V.ext m.ext).at (show ys.length-1<ys.length by omega);apply S 5 [0] m;simp only[↓U,fG];apply I0;omega;refine C (aP dB bN O O (by omega) (by omega) (oW (show _=ys.length-1 by omega))) ?_;simp only[I];refine aS O (lies1 al fO) ?_;simp only[I];apply aJ 1 [0] m;simp only[↓U];refine C (Pi O O (by omega) (Bg (n:=g) (by omega) (aeG (by omega) ao))) ?_;simp only[I];refine C (pE O O (by omega) arT) ?_;apply aJ 2 [0,0] m;simp only[↓U];refine bB O ?_ ?_<;>intro bl
 .apply aG 8 [0] m;simp only[↓U];apply I0;omega;rw[show ((g:Int)+1)=((g+1:Nat):Int) by omega];have bg:ys[ys.length-1]*2^g<2147483648:=by omega
  have a7:2^g<2^31:=ig (mp (2^g) aZ) bg;have bu:g<31:=(Nat.pow_lt_pow_iff_right (by omega)).1 a7;exact a1 (32-(g+1)) _ _ (by omega) (by kernel_rfl) ⟨g+1,O,m,by rw[Nat.pow_succ,<-Nat.mul_assoc];omega,by omega,rfl⟩
 apply aG 5 [0] m;simp only[↓U];refine aX O O (ahr _ (hS.ext m.ext) (by omega) (by omega)) ?_;rintro v u f ⟨g1,us,rfl,h_,k_,R,e,aW⟩;replace m:=m.newB f h_ k_;apply aJ 2 [0] m;simp only[↓U];refine aX O O (ahr _ (V.ext m.ext) (by omega) (by omega)) ?_;rintro v u f ⟨g2,ay,rfl,h_,k_,a6,H,aY⟩;replace m:=m.newB f h_ k_;rw[<-a6];simp only[I];refine cC m O O (yT _ ((m.b 0 O).nat H O (by omega))) ?_;rintro v u m rfl;apply aJ 3 [] m;simp only[↓U];obtain⟨ds,t⟩:∃ds,ds=trim ay:=⟨_,rfl⟩
 rw[<-t];have bc:ds.length=ys.length:=by rw[t];exact aib H aY V.digs (by omega) a9 aZ az
 have T:cX 4294967296 ds:=by rw[t];exact H.trim
 have aE:val 4294967296 ds=2^g*val 4294967296 ys:=by rw[t,lE,aY]
 obtain⟨K,hK⟩:∃K,K=xs.length+1-ds.length:=⟨_,rfl⟩
 apply S 7 [0] m;simp only[↓U,fG];apply I0;omega;refine lD dB pX O O O (show _=K by omega) (show _=K by omega) (by omega) (by omega) (by omega) (by omega) ?_;intro u g3 f h_ k_;replace m:=m.newB f h_ k_;apply aJ 2 [] m;simp only[↓U];rw[gT] at m;apply S 1 [0] m;simp only[↓U];refine mq m aD (by kernel_rfl) (fE 4 [] ?_);simp only[↓U,fG];apply I0;omega;refine L (aP dB bN O O (by omega) (by omega) (rQ (show _=ds.length-1 by omega))) ?_;simp only[I];refine ql O (λu m=>(lies1 (by have d:=uM (m.b 1 O) H (by omega);rw[<-t] at d;have h:=d.at (show ds.length-1<ds.length by omega);rw[eD,aj] at h;exact h) fO)) ?_;simp only[I];refine fE 4 [] ?_;simp only[↓U,fG];apply I0;omega;refine L (aP dB bN O O (by omega) (by omega) (rQ (show _=ds.length-2 by omega))) ?_;simp only[I];refine ql O (λu m=>(lies1 (by have d:=uM (m.b 1 O) H (by omega);rw[<-t] at d;have h:=d.at (show ds.length-2<ds.length by omega);rw[eD,aj] at h;exact h) fO)) ?_;simp only[I];refine L aK (L aK (bM ?_));intro u m;simp only[I];have ab:0<ds[ds.length-1]:=Dw (by rw[t];exact mS _) (by omega);obtain⟨j,ap⟩:∃j,j=ds[ds.length-1]:=⟨_,rfl⟩
 obtain⟨ah,aA⟩:∃ah,ah=ds[ds.length-2]:=⟨_,rfl⟩
 have bs:j<4294967296:=ap▸T _ (fl _);have aV:ah<4294967296:=aA▸T _ (fl _);rw[<-ap] at ab;rw[<-ap,<-aA];apply S 9 [0] m;simp only[↓U,fG];apply I0;omega;refine bU [14] [15,16,17,18,79,80,81,82,83,84,85,86,87,88,89,90,91,92,93,94,95,96,97,98,99,100,101,102,103,104,105,106,107,108,109,110,111,112,113,114,115,116,117,118,119,120,121,122,123,124,125,126,127,128,129,130,131,132,133,134,135,136,137,138,139,140,141,142,143,144,145,146] (λn vs wl=>∃(k:Nat)(us D:List Nat),vs=[G ((k:Int)-1)]/\Mem w wl [bI g3 (D.map mT) 231,bI g2 (ay.map mT) 231,bI g1 (us.map mT) 231]/\(k<=K)/\(us.length=xs.length+1)/\(D.length=K)/\(cX 4294967296 us)/\(cX 4294967296 D)/\(val 4294967296 us+val 4294967296 D*val 4294967296 ds=2^g*val 4294967296 xs)/\(val 4294967296 (us.drop k)<val 4294967296 ds)/\(D.take k=bx k 0)/\(n=k)) ?_ ?_
 .exact⟨_,K,us,bx K 0,O,m,ba _,R,by simp,e,λx hx=>by rw[fc hx];decide,by rw[fI,Nat.zero_mul];exact aW,by rw[hK];exact akn hS.digs R aW (by omega) (by omega) az (by rw[aE,bc];exact aic (by omega) (by omega)),by rw[a_ (by simp)],O⟩
 intro n vs wr F u K2 ak;obtain⟨k,us,D,rfl,m,hk,R,am,e,af,F,J,hz,hn⟩:=F;simp only[zu,zF,zG];apply aG 6 [0,0] m;simp only[↓U];refine bB O ?_ ?_<;>intro bm
 .obtain⟨i,rfl⟩:∃i,k=i+1:=⟨k-1,by omega⟩
  rw[show (((i+1:Nat):Int)-1)=(i:Int) by omega];have hi:i+ds.length<us.length:=by omega
  apply aG 11 [] m;simp only[↓U,fG];apply I0;omega;rw[show ((i:Int)+(ds.length:Int))=((i+ds.length:Nat):Int) by omega];apply S 1 [] m;simp only[↓U];have bi:us[i+ds.length]<4294967296:=e _ (fl _);have bj:us[i+ds.length-1]<4294967296:=e _ (fl _);obtain⟨a3,au⟩:∃a3,a3=us[i+ds.length-2]:=⟨_,rfl⟩
  have bk:a3<4294967296:=au▸e _ (fl _);obtain⟨aa,hU⟩:∃aa,aa=val 4294967296 (us.drop i):=⟨_,rfl⟩
  refine gc (mq m aD (by kernel_rfl) ?_);refine fE 3 [] ?_;simp only[↓U,iJ,ai,aj,eo];apply I0;omega;refine ql O (λu m=>(lies1 ((m.b 2 O).word (show i+ds.length<us.length by omega)) fO)) ?_;simp only[I];refine L (Pi O O (by omega) (Bg (n:=32) (by omega) (by omega))) (fE 3 [] ?_);simp only[↓U];apply I0;omega;refine L (aP dB bN O O (by omega) (by omega) (oW (show _=i+ds.length-1 by omega))) ?_;simp only[I];refine ql O (λu m=>(lies1 (by rw[eD,aj];exact (m.b 2 O).word (show i+ds.length-1<us.length by omega)) fO)) ?_;simp only[I];refine L (acx O O (Rc (s:=32) (c:=us[i+ds.length]) (by omega) (by omega) (by omega))) (L aK (bM ?_));intro u m;simp only[I];obtain⟨two,a0⟩:∃two:Nat,two=us[i+ds.length-1]+us[i+ds.length]*4294967296:=⟨_,rfl⟩
  rw[<-a0];have bf:two<18446744073709551616:=by omega
  obtain⟨P,hP,f1,f2,f3,f4,f5,f6,f7⟩:=aid e T (by omega) hi J a0 ap aA au hU;obtain⟨q,hq⟩:∃q,q=aa / val 4294967296 ds:=⟨_,rfl⟩
  have E:q*val 4294967296 ds<=aa:=by rw[hq];exact Nat.div_mul_le_self _ _
  have aM:0<val 4294967296 ds:=by omega
  have W:aa<(q+1)*val 4294967296 ds:=by rw[<-jy aM];omega
  have Z:q<4294967296:=by rw[hq,jy aM];exact f7
  apply S 1 [0] m;simp only[↓U];refine mq m aD (by kernel_rfl) (L aI (L aI ?_));simp only[I];refine L (iO O O (by omega) (Rf bf)) (L aI (L aI ?_));simp only[I];refine L (cW O O (by omega) oN) (L aK (L aK (bM ?_)));intro u m;apply S 2 [0] m;simp only[↓U];refine bU [17,18] [104,105,106,107,108,109,110,111,112,113,114,115,116,117,118,119,120,121,122,123,124,125,126,127,128] (λn vs wl=>∃(a l:Nat),vs=[.int .u64 (a:Int),.int .u64 (l:Int)]/\Mem w wl [bI g3 (D.map mT) 231,bI g2 (ay.map mT) 231,bI g1 (us.map mT) 231]/\(a*j+l=two)/\(q<=a)/\(n=a)) ?_ ?_
  .exact⟨_,two / j,two%j,O,m,by rw[jb];exact Nat.div_add_mod two j,akk (by omega) f1 f2 E ab,O⟩
  intro n vs wr F u K3 aF;obtain⟨a,l,rfl,m,ag,aU,br⟩:=F;simp only[zu,zF,zG];apply aG 2 [] m;simp only[↓U];have hgt:a<=two:=ax (lz a ab) (by omega);rcases (show 4294967295<a\/(a<=4294967295/\4294967295<l)\/(a<=4294967295/\l<=4294967295) by omega) with aO|⟨aO,a8⟩|⟨aO,a8⟩
  .have bd:q<a:=by omega
   have hgt:a<=two:=ax (lz a ab) (by omega);apply S 20 [1,0,0,0,0,0,0,0,0,0,0,0,0,0,0,0,0] m;simp only[↓U];apply I0;omega;apply S 11 [] m;simp only[↓U];apply I0;omega;have bb:l+j<=two:=by have:=mp j (show 0<a by omega);omega
   apply S 7 [0] m;simp only[↓U];apply I0;omega;obtain⟨o,rfl⟩:∃o,a=o+1:=⟨a-1,by omega⟩
   rw[show (((o+1:Nat):Int)-1)=(o:Int) by omega,show ((l:Int)+(j:Int))=((l+j:Nat):Int) by omega];exact aF o _ _ (by omega) (by kernel_rfl) ⟨o,l+j,O,m,by rw[Nat.add_mul,kz] at ag;omega,by omega,rfl⟩
  .have hx:a*ah<=a3+l*4294967296:=akp (by omega) aV (by omega);have hgt:a<=two:=ax (lz a ab) (by omega);apply S 20 [2,0,0,2,0,0,0,0,0,0,0,0,0,0,0,0,0,0] m;simp only[↓U];apply I0;omega;apply S 6 [] m;simp only[↓U];have d:=uM (m.b 1 rfl) H (by omega);rw[<-t] at d;have M:=((m.b 2 rfl).nat e rfl (by omega)).drop (show i<=us.length by omega) rfl;rw[eD,aj,R] at M;have N:val 4294967296 ((us.drop i).take (ds.length+1))=aa:=by rw[<-Km T (by omega) J,hU]
   have av:a<=q+1:=acJ f4 f6 W (Sq ag hx) (by omega);obtain⟨aq,ar⟩:=Yy E W aU av;apply S 3 [0] m;simp only[↓U];refine C (nI dB bN O O (ai _) (by omega) (by omega) (Gk (by omega))) ?_;apply aJ 2 [0] m;simp only[↓U];refine cC m O O (am3 _ M d (by simp;omega) (by omega) (by omega)) ?_;rintro v u m rfl;apply aJ 1 [0] m;simp only[↓U];refine bB O ?_ ?_<;>intro Q
   .have a5:0<a:=by
     rcases fm a with h|h
     .rw[h,jm] at Q;exact Y0 Q (mg _)
     exact h
    have aw:=aq (by rw[<-N];exact Q);apply aG 5 [] m;simp only[↓U];apply I0;omega;rw[show ((a:Int)-1)=(q:Int) by omega];apply S 1 [] m;simp only[↓U];clear d M;have d:=uM (m.b 1 rfl) H (by omega);rw[<-t] at d;apply S 3 [0] m;simp only[↓U];refine C (nI dB bN O O (ai _) (by omega) (by omega) (Gk (by omega))) ?_;apply aJ 2 [0] m;simp only[↓U];refine jN O O (toM m 2 O (abZ _ (m.b 2 O) e (by omega) d (by omega) (by omega) Z (by rw[N,jb];exact E))) ?_;rintro v u m;simp only[I];simp only[zF,zG] at m;apply aJ 1 [] m;simp only[↓U];clear d;apply S 5 [0] m;simp only[↓U,iJ,ai,aj,eo];apply I0;omega;refine dP m 0 O O O bN (by simp;omega) ⟨rfl,rfl⟩ ?_;intro u m;simp only[I] at m ;rw[gH (by omega)] at m;apply aJ 7 [0] m;simp only[↓U];apply I0;omega;obtain⟨r1,r2,r3,r4⟩:=Gl T e hi J hU E W F hz (by omega);exact ak i _ _ (by omega) (by kernel_rfl) ⟨i,laid us i (ds.length+1) (val 4294967296 ((us.drop i).take (ds.length+1))-val 4294967296 ds*q),D.set i q,O,m,by omega,by rw[r4];exact R,by simpa using am,Gj e,af.set Z,r1,r2,r3,O⟩
   have aw:=ar (by rw[<-N];exact Q);rw[show (a:Int)=(q:Int) by omega];apply aG 2 [] m;simp only[↓U];clear d M;have d:=uM (m.b 1 rfl) H (by omega);rw[<-t] at d;apply S 3 [0] m;simp only[↓U];refine C (nI dB bN O O (ai _) (by omega) (by omega) (Gk (by omega))) ?_;apply aJ 2 [0] m;simp only[↓U];refine jN O O (toM m 2 O (abZ _ (m.b 2 O) e (by omega) d (by omega) (by omega) Z (by rw[N,jb];exact E))) ?_;rintro v u m;simp only[I];simp only[zF,zG] at m;apply aJ 1 [] m;simp only[↓U];clear d;apply S 5 [0] m;simp only[↓U,iJ,ai,aj,eo];apply I0;omega;refine dP m 0 O O O bN (by simp;omega) ⟨rfl,rfl⟩ ?_;intro u m;simp only[I] at m ;rw[gH (by omega)] at m;apply aJ 7 [0] m;simp only[↓U];apply I0;omega;obtain⟨r1,r2,r3,r4⟩:=Gl T e hi J hU E W F hz (by omega);exact ak i _ _ (by omega) (by kernel_rfl) ⟨i,laid us i (ds.length+1) (val 4294967296 ((us.drop i).take (ds.length+1))-val 4294967296 ds*q),D.set i q,O,m,by omega,by rw[r4];exact R,by simpa using am,Gj e,af.set Z,r1,r2,r3,O⟩
  have hgt:a<=two:=ax (lz a ab) (by omega);apply S 9 [2,0,0,1,0,0,0,0] m;simp only[↓U];apply I0;omega;refine gE O (C (qW O O (aoN (ig (akd (by omega) aV) (by decide)))) ?_);apply aJ 1 [0,0] m;simp only[↓U];refine gE O (C (Pi O O (by omega) (Bg (n:=32) (by omega) (by omega))) ?_);apply aJ 3 [0,0,0,0] m;simp only[↓U];apply I0;omega;refine gE O (C (aP dB bN O O (by omega) (by omega) (oW (show _=i+ds.length-2 by omega))) (gE O ?_));simp only[I];refine aS O (lies1 (by have h:=(m.b 2 O).word (show i+ds.length-2<us.length by omega);rw[<-au] at h;rw[eD,aj];exact h) fO) ?_;simp only[I];refine gE O (C (acx O O (Rc (s:=32) (c:=l) (by omega) (by omega) (by omega))) ?_);apply aJ 4 [0,0,0,0] m;simp only[↓U];refine bB O ?_ ?_<;>intro bn
  .have bd:q<a:=akl hP f3 f5 E (aeH ag (by omega));apply aG 8 [] m;simp only[↓U];apply I0;omega;have bb:l+j<=two:=by have:=mp j (show 0<a by omega);omega
   apply S 7 [0] m;simp only[↓U];apply I0;omega;obtain⟨o,rfl⟩:∃o,a=o+1:=⟨a-1,by omega⟩
   rw[show (((o+1:Nat):Int)-1)=(o:Int) by omega,show ((l:Int)+(j:Int))=((l+j:Nat):Int) by omega];exact aF o _ _ (by omega) (by kernel_rfl) ⟨o,l+j,O,m,by rw[Nat.add_mul,kz] at ag;omega,by omega,rfl⟩
  have hx:a*ah<=a3+l*4294967296:=by omega
  apply aG 3 [] m;simp only[↓U];have d:=uM (m.b 1 rfl) H (by omega);rw[<-t] at d;have M:=((m.b 2 rfl).nat e rfl (by omega)).drop (show i<=us.length by omega) rfl;rw[eD,aj,R] at M;have N:val 4294967296 ((us.drop i).take (ds.length+1))=aa:=by rw[<-Km T (by omega) J,hU]
  have av:a<=q+1:=acJ f4 f6 W (Sq ag hx) (by omega);obtain⟨aq,ar⟩:=Yy E W aU av;apply S 3 [0] m;simp only[↓U];refine C (nI dB bN O O (ai _) (by omega) (by omega) (Gk (by omega))) ?_;apply aJ 2 [0] m;simp only[↓U];refine cC m O O (am3 _ M d (by simp;omega) (by omega) (by omega)) ?_;rintro v u m rfl;apply aJ 1 [0] m;simp only[↓U];refine bB O ?_ ?_<;>intro Q
  .have a5:0<a:=by
    rcases fm a with h|h
    .rw[h,jm] at Q;exact Y0 Q (mg _)
    exact h
   have aw:=aq (by rw[<-N];exact Q);apply aG 5 [] m;simp only[↓U];apply I0;omega;rw[show ((a:Int)-1)=(q:Int) by omega];apply S 1 [] m;simp only[↓U];clear d M;have d:=uM (m.b 1 rfl) H (by omega);rw[<-t] at d;apply S 3 [0] m;simp only[↓U];refine C (nI dB bN O O (ai _) (by omega) (by omega) (Gk (by omega))) ?_;apply aJ 2 [0] m;simp only[↓U];refine jN O O (toM m 2 O (abZ _ (m.b 2 O) e (by omega) d (by omega) (by omega) Z (by rw[N,jb];exact E))) ?_;rintro v u m;simp only[I];simp only[zF,zG] at m;apply aJ 1 [] m;simp only[↓U];clear d;apply S 5 [0] m;simp only[↓U,iJ,ai,aj,eo];apply I0;omega;refine dP m 0 O O O bN (by simp;omega) ⟨rfl,rfl⟩ ?_;intro u m;simp only[I] at m ;rw[gH (by omega)] at m;apply aJ 7 [0] m;simp only[↓U];apply I0;omega;obtain⟨r1,r2,r3,r4⟩:=Gl T e hi J hU E W F hz (by omega);exact ak i _ _ (by omega) (by kernel_rfl) ⟨i,laid us i (ds.length+1) (val 4294967296 ((us.drop i).take (ds.length+1))-val 4294967296 ds*q),D.set i q,O,m,by omega,by rw[r4];exact R,by simpa using am,Gj e,af.set Z,r1,r2,r3,O⟩
  have aw:=ar (by rw[<-N];exact Q);rw[show (a:Int)=(q:Int) by omega];apply aG 2 [] m;simp only[↓U];clear d M;have d:=uM (m.b 1 rfl) H (by omega);rw[<-t] at d;apply S 3 [0] m;simp only[↓U];refine C (nI dB bN O O (ai _) (by omega) (by omega) (Gk (by omega))) ?_;apply aJ 2 [0] m;simp only[↓U];refine jN O O (toM m 2 O (abZ _ (m.b 2 O) e (by omega) d (by omega) (by omega) Z (by rw[N,jb];exact E))) ?_;rintro v u m;simp only[I];simp only[zF,zG] at m;apply aJ 1 [] m;simp only[↓U];clear d;apply S 5 [0] m;simp only[↓U,iJ,ai,aj,eo];apply I0;omega;refine dP m 0 O O O bN (by simp;omega) ⟨rfl,rfl⟩ ?_;intro u m;simp only[I] at m ;rw[gH (by omega)] at m;apply aJ 7 [0] m;simp only[↓U];apply I0;omega;obtain⟨r1,r2,r3,r4⟩:=Gl T e hi J hU E W F hz (by omega);exact ak i _ _ (by omega) (by kernel_rfl) ⟨i,laid us i (ds.length+1) (val 4294967296 ((us.drop i).take (ds.length+1))-val 4294967296 ds*q),D.set i q,O,m,by omega,by rw[r4];exact R,by simpa using am,Gj e,af.set Z,r1,r2,r3,O⟩
 obtain rfl:k=0:=by omega
 rw[lv] at J;obtain⟨dq,dr⟩:=ako (X:=val 4294967296 xs) (Y:=val 4294967296 ys) (p:=2^g) (u:=val 4294967296 us) (q:=val 4294967296 D) (ky (by omega)) (by rw[<-aE];exact F) (by rw[<-aE];exact J);apply aG 4 [0] m;simp only[↓U];refine aX O O (Oo _ ((m.b 0 O).nat af (by omega) (by omega))) ?_;rintro v u f ⟨A5,c5,rfl,ae⟩;replace m:=m.ext' f;apply aJ 1 [0] m;simp only[↓U];refine aX O O (Oo _ ((m.b 2 O).nat e (by omega) (by omega))) ?_;rintro v u f ⟨A6,c6,rfl,a2⟩;replace m:=m.ext' f;replace ae:=ae.ext f;apply aJ 1 [0] m;simp only[↓U];refine aX O O (ajf _ a2 (ax (vG e) (by omega)) az) ?_;rintro v u f ⟨A7,c7,rfl,aL⟩;replace m:=m.ext' f;replace ae:=ae.ext f;apply aJ 4 [] m;simp only[↓U];exact jG O O O ⟨_,O,m.ext,_,_,O,by rw[<-dq];exact⟨A5,c5,O,ae⟩,by rw[<-dr];simp only[cS] at aL ⊢;exact⟨A7,c7,O,aL⟩⟩
def Qi{neg:Bool}{s:ByteArray}(w:an)(T:s.size<=1000000000000):dF G1 185 [.agg #[.bool neg,.string s]] w (iH (aoO s)):=by
 refine⟨bK func185 (by kernel_rfl),?_⟩;have m:=Mem.refl w
 go_enter func185,ntmps185
 apply kX 9 [1,0] m;simp only[↓U,Ce,afE,aa];intro g u m;refine C (wS O rC O) ?_;apply aJ 2 [0] m;simp only[↓U];apply I0;omega;rw[show ((s.size:Int)+4-1)=((s.size+3:Nat):Int) by omega];refine C (iO O O (by omega) (oO (n:=4) (by omega))) ?_;simp only[I];obtain⟨K,o⟩:∃K,K=(s.size+3) / 4:=⟨_,rfl⟩
 rw[<-o];refine lD dB pX O O O (show _=K by omega) (show _=K by omega) (by omega) (by omega) (by omega) (by omega) ?_;intro u k f q A;replace m:=m.newB f q A;apply aJ 2 [] m;simp only[↓U];rw[gT] at m;apply S 5 [2,0] m;simp only[↓U,Ce,afE,aa];refine C (wS O rC O) ?_;apply aJ 3 [0] m;simp only[↓U];refine bU [16] [4,5,17,18,19,20,21,22,23,24,25,26,27,28,29,30,31,32,33,34,35,36,37,38,39,40,41] (λn vs B=>∃(i:Nat)(os:List Nat),vs=[G (i:Int)]/\Mem w B [bI k (os.map mT) 231,bI g [.bool neg,.string s] 95]/\(i<=s.size)/\(os.length=K)/\(cX 4294967296 os)/\(∀(j:Nat)(h:j<os.length),256^(s.size-i-4*j)∣os[j])/\(val 4294967296 os=256^(s.size-i)*val 256 ((qI s).drop (s.size-i)))/\(n=s.size-i)) ?_ ?_
 .exact⟨_,0,bx K 0,O,m,by omega,by simp,λx z=>by rw[fc z];decide,λj h=>by rw[List.getElem_replicate];exact Nat.dvd_zero _,by rw[fI,aku (by rw[yL];omega),jm],rfl⟩
 intro n vs wr l u P D;obtain⟨i,os,rfl,m,Q,J,d,H,e,R⟩:=l;simp only[zu,zF,zG];apply aG 5 [0,0] m;simp only[↓U];refine bB O ?_ ?_<;>intro V
 .apply aG 12 [2,0] m;simp only[↓U,Ce,afE,aa];refine C (wS O rC O) ?_;apply aJ 5 [] m;simp only[↓U];apply I0;omega;obtain⟨p,y⟩:∃p,p+1+i=s.size:=⟨s.size-1-i,by omega⟩
  rw[show ((s.size:Int)-1-(i:Int))=(p:Int) by omega];obtain⟨b,t,M,F⟩:=Im y;obtain⟨f1,f2,f3,f4⟩:=aie (r:=p%4) (j:=p / 4) M (by omega) (by omega) (by omega) d (Pm s) (by rw[show p+1=s.size-i by omega];exact H) (by rw[show p+1=s.size-i by omega];exact e);rw[F,Sr] at f1 f3 f4;have N:b.toNat<256:=b.toNat_lt;have f5:b.toNat*2^(8*(p%4))<2^(8*(p%4+1)):=by
   rw[show 8*(p%4+1)=8+8*(p%4) by omega,Nat.pow_add];exact Nat.mul_lt_mul_of_pos_right N (ky (by omega))
  obtain⟨c,f6⟩:∃c,os[p / 4]=2^(8*(p%4+1))*c:=by
   obtain⟨c,hc⟩:=f2;exact⟨c,by rw[hc,Sr]⟩
  refine gc ?_;refine dQ m 16 aD (by kernel_rfl) ?_;simp only[zy];refine L aI (L aI ?_);simp only[I];refine L (iO O O (by omega) (oO (n:=4) (by omega))) ?_;simp only[I];refine L (aP dB bN O O (by omega) (by omega) (rQ (show _=p / 4 by omega))) ?_;simp only[I];refine ql O (λu m=>(lies1 ((m.b 0 O).word (show p / 4<os.length by omega)) fO)) ?_;simp only[I];refine fE 3 [2] ?_;simp only[↓U,Ce,afE,aa];refine L ((qH rC O O (by omega) (by rw[ai];exact t))) (L (gB jO adE O (mZ (by omega) (by omega))) (L aI ?_));simp only[I];refine L (cW O O (by omega) (oN (n:=4))) (L (qW O O ((cF (by omega) (by omega)).trans (show (8:Int)*((p%4:Nat):Int)=((8*(p%4):Nat):Int) by omega))) ?_);simp only[I];refine L (Pi O O (by omega) (Bg (n:=8*(p%4)) (by omega) (by omega))) (L (acx O O ((Rc (s:=8*(p%4+1)) (a:=b.toNat*2^(8*(p%4))) (b:=os[p / 4]) f5 f6 (by omega)).trans (show (((b.toNat*2^(8*(p%4)))+os[p / 4]:Nat):Int)=((os[p / 4]+b.toNat*2^(8*(p%4)):Nat):Int) by omega))) ?_);simp only[I];refine L (aP dB bN O O (by omega) (by omega) (rQ (show _=p / 4 by omega))) (bM ?_);intro u m;simp only[I];refine dP m 0 O O O bN (by simp;omega) ⟨rfl,rfl⟩ ?_;intro u m;simp only[I] at m ;rw[gH (by omega)] at m;refine E ?_;apply S 5 [0] m;simp only[↓U];apply I0;omega;rw[show ((i:Int)+1)=((i+1:Nat):Int) by omega];exact D (s.size-(i+1)) _ _ (by omega) (by kernel_rfl) ⟨i+1,os.set (p / 4) (os[p / 4]+b.toNat*2^(8*(p%4))),O,m,by omega,by simpa using J,d.set f1,by rw[show s.size-(i+1)=p by omega];exact f3,by rw[show s.size-(i+1)=p by omega];exact f4,O⟩
 apply aG 2 [] m;simp only[↓U];obtain rfl:i=s.size:=by omega
 apply S 2 [0] m;simp only[↓U];refine cC m O O (yT _ ((m.b 0 O).nat d (by omega) (by omega))) ?_;rintro v u m rfl;apply aJ 3 [] m;simp only[↓U];exact aU O O ⟨_,O,m.ext,iH.of_trim ((m.b 0 O).nat d (n:=K) (by omega) (by omega)) (by rw[e,Nat.sub_self,Nat.pow_zero,kz,lv];rfl)⟩
end
section
attribute [local go_sem] rn
variable{n₀ Bs:Nat}
def oJ(n₀ Bs:Nat)(W a:an):Prop:=Below n₀ W a/\a.heap[Bs]? = W.heap[Bs]?
def oJ.refl(n₀ Bs:Nat)(W:an):oJ n₀ Bs W W:=⟨Below.refl _ _,rfl⟩
def oJ.trans{A B C:an}(h:oJ n₀ Bs A B)(k:oJ n₀ Bs B C):oJ n₀ Bs A C:=⟨h.1.trans k.1,k.2.trans h.2⟩
def oJ.box{A B:an}(h:oJ n₀ Bs A B){v:ak}(hc:A.cell? ⟨Bs,0,G0⟩=H v):B.cell? ⟨Bs,0,G0⟩=H v:=(World.cell?_of_block h.2).trans hc
set_option maxRecDepth 100000 in
def am4(F:Fence)(n:Nat)(h7:F.fn 314)(hro:F.round=G0)(hn:1<=n)(l Bs n₀ cap:Nat)(a:Addr)(xs:List Nat)(hreach:xs.length*8<=140737488351232)(hb:a.block<n₀)(J Jx:List (Nat×Nat)->an->Prop)
 (hY:∀pre x W,J pre W->pre.length<xs.length->YieldAt F (n-1) G1 l #[G (x.1:Int),.int .u64 (x.2:Int)] W λe W'=>
  (e=.returned (.bool Z)/\J (pre++[x]) W'/\oJ n₀ Bs W W')\/(e=.returned (.bool X9)/\Jx (pre++[x]) W'))
 (W:an) (hBs:W.cell? ⟨Bs,0,G0⟩=H (.slice (H a) xs.length cap)) (hc:∀j (h:j<xs.length),W.cell? (a.add j)=H (.int .u64 (xs[j]:Nat))) (h0:J [] W) :
 CallsIn F n G1 314 #[.func (.yield l) #[] #[],.pointer (H ⟨Bs,0,G0⟩)] W λe W'=>(∃v,e=.returned v) /\
  ((∃ys:List (Nat×Nat),ys.map rg=xs.reverse/\J ys W')\/(∃pre,True/\Jx pre W')):=by
 refine callsIn_of_wp func314 O h7 ?_ hro;simp only[ntmps314,iq,be,cd,aa,mx,jg,jh,jw,jj,cl,de]
 gi_wp2
 gi_loopw [3] (λi wr=>∃(k:Nat) (pre:List (Nat×Nat)),k<=xs.length/\i=G ((k:Int)-1)/\pre.length=xs.length-k/\pre.map rg=(xs.drop k).reverse/\J pre wr/\oJ n₀ Bs W wr)
  (λi _=>(intOf i+1).toNat)
 case atStart=>exact⟨xs.length,[],ba _,rfl,by simp,by simp,h0,oJ.refl _ _ _⟩
 case round=>
  obtain⟨k,pre,hk,rfl,hpl,hpre,hJs,hnx⟩:=hrel;have hBw:wr.cell? ⟨Bs,0,G0⟩=H (.slice (H a) xs.length cap):=hnx.box hBs;by_cases hk0:0<k
  . have hlt:k-1<xs.length:=by omega
    have hcx:wr.cell? (a.add (k-1))=H (.int .u64 ((xs[k-1]:Nat):Int)):=(hnx.1.cell (by rw[wI];exact hb)).trans (hc _ hlt);obtain⟨fn,tmps,assign,body,hy,hR⟩:=hY pre (k-1,xs[k-1]) wr hJs (by omega);dsimp only at hy;obtain⟨j,rfl⟩:∃j,k=j+1:=⟨k-1,by omega⟩
    rw[show (((j+1:Nat):Int)-1)=(j:Int) by omega];simp only[fb] at hy hR hcx hlt
    gi_wp2
    refine hR.mono ?_;rintro e W3 (⟨rfl,hJ3,hk3⟩|⟨rfl,hJx3⟩)
    . gi_wp2
      go_roundw
      case rel=>exact⟨j,pre++[(j,xs[j])],by omega,by simp,by simp;omega,by rw[dw hlt,List.reverse_cons,db,hpre];rfl,hJ3,hnx.trans hk3⟩
      case measure=>simp[intOf]
    gi_wp2
    refine bodyPost_ret (results_none O _ _ _) O ?_;exact⟨⟨_,O⟩,.inr ⟨_,trivial,hJx3⟩⟩
  obtain rfl:k=0:=by omega
  gi_wp2
  go_end0
  exact⟨⟨_,O⟩,.inl ⟨pre,by rw[hpre];rfl,hJs⟩⟩
set_option maxRecDepth 100000 in
def ab0(F:Fence)(n:Nat)(h7:F.fn 314)(hro:F.round=G0)(l Bs cap:Nat)(A:Option Addr)(J:List (Nat×Nat)->an->Prop)(W:an)(hBs:W.cell? ⟨Bs,0,G0⟩=H (.slice A 0 cap))(h0:J [] W) :
 CallsIn F n G1 314 #[.func (.yield l) #[] #[],.pointer (H ⟨Bs,0,G0⟩)] W λe W'=>(∃v,e=.returned v)/\J [] W':=by
 refine callsIn_of_wp func314 O h7 ?_ hro;simp only[ntmps314,iq,be,cd,aa,mx,jg,jh,jw,jj,cl,de]
 gi_wp2
 gi_loopw [3] (λi wr=>i=G (-1)/\J [] wr) (λ_ _=>0)
 case atStart=>exact⟨rfl,h0⟩
 case round=>
  obtain⟨rfl,hJs⟩:=hrel
  gi_wp2
  go_end0
  exact⟨⟨_,O⟩,hJs⟩
def ap7(F:Fence)(n:Nat)(h5:F.fn 257)(hro:F.round=G0)(a:Option Addr)(len cap:Nat)(w:an) :
 CallsIn F n G1 257 #[.slice a len cap] w λe w'=>e=.returned (.func (.func 314) #[] #[.pointer (H ⟨w.heap.size,0,G0⟩)])/\w'=w.alloc (.cells #[.slice a len cap] 233):=by
 refine callsIn_of_wp func257 O h5 ?_ hro;simp only[ntmps257,iq,be,cd,aa,mx,jg,jh,jw,jj,cl,de]
 gi_wp2
 go_ret
 exact⟨O,O⟩
def afX(F:Fence)(n:Nat)(d:F.fn 314)(o:F.round=G0)(t:1<=n)(Bs n₀ cap:Nat)(A:Option Addr)(xs:List Nat)(z:xs.length*8<=140737488351232)(w:an)(u:Bs<w.heap.size)(y:n₀<=w.heap.size)
 (hc:w.cell? ⟨Bs,0,G0⟩=H (.slice A xs.length cap)) (g:∀(i x:Nat),xs[i]? = H x->∃a,A=H a/\w.cell? (a.add i)=H (.int .u64 (x:Int))) (f:∀a,0<xs.length->A=H a->a.block<n₀) :
 SeqStopsK F n G1 314 #[.pointer (H ⟨Bs,0,G0⟩)] (λx:Nat×Nat=>#[Value.int .i64 (x.1:Int),Value.int .u64 (x.2:Int)]) (oJ n₀ Bs) (λys=>ys.map rg=xs.reverse) (λ_=>True) xs.length w:=λl J q W k _ _ r c=>by
 have m:=(k.cell (p:=⟨Bs,0,G0⟩) u).trans hc;rcases fm xs.length with h|h
 . obtain rfl:xs=[]:=fj h
   exact (ab0 F n d o l Bs cap A J W m c).mono λe B ⟨s,b⟩=>⟨s,.inl ⟨[],O,b⟩⟩
 obtain⟨a,rfl,_⟩:=g 0 xs[0] (ap h)
 refine am4 F n d o t l Bs n₀ cap a xs z (f a h O) J q r W m (λj b=>?_) c;obtain⟨C,e,v⟩:=g j xs[j] (ap b);cases e;exact (k.cell (by rw[wI];exact cj (f a h O) y)).trans v
def atV{A:Option Addr}{n cap:Nat}(w:an):dF G1 257 [.slice A n cap] w (λv w'=>∃g,v=.func (.func 314) #[] #[.pointer (H ⟨g,0,G0⟩)]/\w.heap.size<=g/\fK w' g [.slice A n cap] 233):=by
 refine⟨bK func257 (by kernel_rfl),(callsIn_wide (n:=2)).1 ((ap7 Fence.wide 2 trivial O A n cap w).mono ?_)⟩;rintro e w' ⟨rfl,rfl⟩;exact⟨_,O,(eQ.refl w).alloc _,_,O,ba _,jH w _ _⟩
end
section
set_option maxRecDepth 100000
attribute [local irreducible] bf M fY Code.wp
attribute [local go_sem] rn
def ap8:(prog.info? 5).map (λi=>(i.zero,i.size,i.bytes))=H (H (.int .u8 0),1,1):=by kernel_rfl
def Wd{W c:an}{f:Obj}{v v':ak}{base size k g a:Nat}{e t:bh}{xs cs:List ak}(b:fK W g cs t)(n:t≠e)(l:W.ownsRow base e size v k xs)(j:(W.alloc f).grownBy c v.ownBlock)(m:g≠a):(c.setCell ⟨a,0,G0⟩ v').heap[g]? = W.heap[g]?:=by
 have h1:H g≠v.ownBlock:=by
  rcases l.2 with ⟨rfl,_⟩|⟨i,cap,o,rfl,_,d,_⟩
  .simp[ro]
  intro h;obtain rfl:g=i:=by simpa[ro] using h
  rw[b] at d;cases d;exact n O
 exact ((Below.heap_setCell c ⟨a,0,G0⟩ v' g m).trans (j.block g (by simp;have:=b.lt;omega) h1)).trans (Below.heap_alloc W f g b.lt)
def Fs{A:Option Addr}{xs:List Nat}{na cap:Nat}{neg:Bool}(w:an)(hS:dN w A na cap xs)(hl:xs.length<=100000000000):dF G1 184 [.slice A na cap,.bool neg] w (λv _=>v=W (Xo neg (val 4294967296 xs))):=by
 skip
 refine⟨bK func184 (by kernel_rfl),?_⟩;have hX:=eQ.refl w;obtain rfl:=hS.eq;have hlt:=kJ xs;have hle:=hS.le;refine (callsIn_wide (n:=4)).1 (callsIn_of_wp_marks func184 O trivial ?_ O);simp only[ntmps184,iq,be,cd,aa,mx,jg,jh,jw,jj,cl,de];refine wpIn_wide.2 (aV (λK1 hK1=>am ?_));refine xO uB O ?_;intro w1 g1 hE hg1 hB1;have hG1:=ax hX.size hg1;replace hX:=hX.trans hE;clear hE hg1;simp only[I];refine E (hK1 _ _ ?_);refine aV (λK2 hK2=>am (C aI ?_));simp only[I];refine aX O O (yT _ (hS.ext hX)) ?_;rintro v w2 hE rfl;replace hB1:=hB1.ext hE;replace hX:=hX.trans hE;clear hE;simp only[I];refine C aK ?_;simp only[I];refine E ?_;obtain⟨ys,hys⟩:∃ys,ys=trim xs:=⟨_,rfl⟩
 rw[<-hys] at hlt ⊢;refine hK2 _ _ (aV (λK3 hK3=>am (C aI (C (qG O dB O) (C (qW O O (cF (by omega) (by omega))) ?_)))));simp only[I];refine lD qK Zn O O O (show _=0 by omega) (show _=4*ys.length by omega) (by omega) (by omega) (by omega) (by omega) ?_;intro w3 g2 hE hg2 hB2;have hG2:=ax hX.size hg2;have hN2_1:g2≠g1:=gp (cj hB1.lt hg2);replace hB1:=hB1.ext hE;replace hX:=hX.trans hE;clear hE hg2;simp only[I];refine xO alh O ?_;intro w4 g3 hE hg3 hB3;have hG3:=ax hX.size hg3;have hN3_1:g3≠g1:=gp (cj hB1.lt hg3);have hN3_2:g3≠g2:=gp (cj hB2.lt hg3);replace hB1:=hB1.ext hE;replace hB2:=hB2.ext hE;replace hX:=hX.trans hE;clear hE hg3;simp only[I];refine tY O (by simp only[I];rfl) (by exact aiA) hB3 (by simp) (by simp[nf]) ?_;clear hB3;intro w5 hC hB3;replace hB1:=hB1.chg hC (by first|exact hN1_3|exact Ne.symm hN3_1);replace hB2:=hB2.chg hC (by first|exact hN2_3|exact Ne.symm hN3_2);replace hX:=hX.chg hC hG3;clear hC;simp only[zy,zx,bR,aa] at hB3;refine E (hK3 _ _ ?_);refine aV (λK4 hK4=>aV (λK5 hK5=>am (C aI ?_)));simp only[I];refine aX O O (atV _) ?_;rintro v w6 hE ⟨g4,rfl,hg4,hB4⟩;have hG4:=ax hX.size hg4;have hN4_1:g4≠g1:=gp (cj hB1.lt hg4);have hN4_2:g4≠g2:=gp (cj hB2.lt hg4);have hN4_3:g4≠g3:=gp (cj hB3.lt hg4);replace hB1:=hB1.ext hE;replace hB2:=hB2.ext hE;replace hB3:=hB3.ext hE;replace hX:=hX.trans hE;clear hE hg4;simp only[I];refine E (hK5 _ _ ?_);refine jd ((wpIn_wide (n:=4)).1 ?_);have hbase:w.heap.size<=w6.heap.size:=hX.size;obtain⟨n0,hn0⟩:∃n0,n0=w.heap.size:=⟨_,rfl⟩
 have hT:dN w6 A ys.length cap ys:=(((hS.ext hX).take (trim xs).length).as (iQ xs).symm |> λh=>by rw[<-iQ,<-hys] at h;exact h)
 have hA:∀a,0<ys.length->A=H a->a.block<w.heap.size:=λa h0 e=>by
  obtain⟨a',e',hc⟩:=hS.row 0 (xs[0]'(by omega)) (ap (by omega));rw[e] at e';cases e';have:=World.block_lt_of_cell? _ _ hc;rwa [wI] at this
 refine wpIn_rangeFunc_ownG (F:=Fence.wide) O (by omega) (gf:=314) (lb:=#[.pointer (H ⟨g4,0,G0⟩)]) O trivial (enters_of func314 (by kernel_rfl) O)
  (afX Fence.wide 3 trivial rfl (by omega) g4 w.heap.size cap A ys (by omega) w6 hB4.lt hX.size (hB4.cell rfl) hT.row hA) oJ.trans (λW l o o' hl ho _ _=>⟨belowK_b (w:=w6) hX.size W l o o' hl ho ‹_› ‹_›,World.putObj_heap_other (by have:=hB4.lt;omega)⟩) (Below.refl _ _) (λ_=>rfl)
  (λpre W=>((∃v,Boxed W g3 300 v/\W.ownsRow w.heap.size 5 1 v (wbs pre).length ((wbs pre).map u8v)/\True)/\fK W g1 [.bool X9,.string ⟨#[]⟩] 95/\fK W g4 [.slice A ys.length cap] 233)/\Below w.heap.size w W)
  (λ_ _ _=>False)
  (OwnFrom.and (OwnFrom.and (Own.from (holdsRow_own w.heap.size g3 300 5 1 (λpre=>(wbs pre).length) (λpre=>(wbs pre).map u8v) (λ_ _=>True)) _) (Own.from (λs X Y row hs hg hr=>⟨(grownBy_keeps_cells hg hr hs.1 rfl).trans hs.1,(grownBy_keeps_cells hg hr hs.2 rfl).trans hs.2⟩) _)) (ownFrom_below (ba _) hX.size))
  (λ_ _ _ _ _ hs _ _=>hs)
  ⟨⟨⟨_,hB3,⟨rfl,.inr ⟨g2,4*ys.length,_,rfl,hG2,hB2,bu _,by show _<=9223372036854775807;omega,by simp,by simp[wbs]⟩⟩,trivial⟩,hB1,hB4⟩,hX⟩
  (λx=>{ tmps:=#[.slice A ys.length cap,.bool neg,undef,undef,.pointer (H ⟨g1,0,G0⟩),.pointer (H ⟨g3,0,G0⟩),undef,.int .u64 (x.2:Int),undef,.slice A xs.length cap,.slice A ys.length cap,.slice A ys.length cap,G (ys.length:Int),G (4*(ys.length:Int)),.slice (H ⟨g2,0,G0⟩) 0 (4*ys.length),.slice A ys.length cap,.func (.func 314) #[] #[.pointer (H ⟨g4,0,G0⟩)],G (x.1:Int),.int .u64 (x.2:Int),undef,undef,undef,undef,undef,undef,undef,undef,undef,undef,undef,undef,undef,undef,undef,undef,undef,undef,undef,undef,undef,undef,undef,undef],defers:=[] }) ?assign ?body ?done ?stop
 case assign=>
  intro l x W K hK;clear hys
  gi_wp2
  exact hK
 case stop=>
  rintro D c pre W _ _ h _;exact h.elim
 case body=>
  rintro l pre x W ⟨⟨⟨v,hv,hrow,_⟩,hB1',hB4'⟩,hB⟩ hlt;have hc:=hv.cell;have hwl:(wbs pre).length<=4*pre.length:=Nat.le_of_eq (Su pre);clear hys;obtain⟨i0,hi,hz0,hz1,hz2⟩:=info_parts ap8
  gi_wp2_with (gi_at_builtin;refine wpListIn_append_own _ O _ _ 300 O w.heap.size 5 i0 (.int .u8 0) 1 1 qK hi hz0 hz1 hz2 O (by decide) _ _ _ O (hrow.alloc _) ⟨W.heap.size,0,G0⟩ 4 4 [.int .u8 ((x.2:Int) / 16777216%256),.int .u8 ((x.2:Int) / 65536%256),.int .u8 ((x.2:Int) / 256%256),.int .u8 ((x.2:Int)%256)] O O ((jH W _ 5).row 0) (by simp[nf]) (by show _<=9223372036854775807;omega) (by omega) (by have:=hB.size;simp;omega) ?_;intro v' w1 hown' hgrow _;obtain⟨g',cap',rfl⟩:=ownsRow_succ hown';obtain⟨hv1,hv2,hr2,hk2,hb2⟩:=hv.appended (by decide) hrow hB.size hG3 hown' hgrow;have hc1:=hv1.cell;have hf1:=hv1.frozen)
  have e1:=Wd hB1' (by decide) hrow hgrow (Ne.symm hN3_1) (v':=.slice (H ⟨g',0,G0⟩) ((wbs pre).length+3+1) cap');have e4:=Wd hB4' (by decide) hrow hgrow hN4_3 (v':=.slice (H ⟨g',0,G0⟩) ((wbs pre).length+3+1) cap');refine⟨hk2.from _,⟨hb2,e4⟩,⟨⟨_,hv2,?_,trivial⟩,e1.trans hB1',e4.trans hB4'⟩,hB.trans hb2⟩;rw[akv,bg,db];have e:(wb x.2).map u8v=[.int .u8 ((x.2:Int) / 16777216%256),.int .u8 ((x.2:Int) / 65536%256),.int .u8 ((x.2:Int) / 256%256),.int .u8 ((x.2:Int)%256)]:=by simp[wb,ka]
  rw[e];exact hr2
 rintro D ls W hD hls ⟨⟨⟨v,hv,hrow,_⟩,hB1',_⟩,hX'⟩ hK';replace hD:=ax hX.size hD;clear hB1 hB2 hB3 hB4 hX hG2 hG4 hN2_1 hN3_2 hN4_1 hN4_2 hN4_3 hbase hT;have hB1:=hB1';have hB3:fK W g3 [v] 300:=hv;have hX:eQ w W:=hX';have hK:Def W D:=⟨hK'⟩
 have hDg1:=hK.ne hB1;have hlb:(wbs ls).length<=1000000000000000:=by
  have:=Y1 List.length hls;rw[eb,List.length_reverse] at this;rw[Su];omega
 have hbs:oX (jJ (wbs ls))=iR (Xo neg (val 4294967296 xs)):=by
  have e:wbs ls=ys.reverse.flatMap wb:=by rw[<-hls,List.flatMap_map];rfl
  have hd:cX 4294967296 ys:=by rw[hys];exact hS.digs.trim
  rw[e,aeP hd neg,hys,lE]
 dsimp only;refine hK4 _ _ (aV (λK6 hK6=>am ?_));refine aS O (hB3.lies1 apa O) ?_;simp only[I];refine eB (St qK adE rC O hrow) ?_;simp only[I];refine Qz O O (afV hlb) ?_;intro w7 hE;replace hB1:=hB1.ext hE;(try replace hK:=hK.ext hE);replace hX:=hX.trans hE;clear hE;simp only[I];refine C aK ?_;simp only[I];refine E ?_;rw[hbs];refine hK6 _ _ (aV (λK7 hK7=>?_));cases neg
 .refine am (C aI (C aI ?_));simp only[I];refine nN O ?_;simp only[I];refine nN O ?_;simp only[I];refine C (xP O) (C aI (C (Ep O O) ?_));simp only[I];refine tY O (by simp only[I];rfl) (by exact aO) hB1 (by simp) (by simp[nf]) ?_;clear hB1;intro w8 hC hB1
  (try replace hK:=hK.chg hC (by first|assumption|rfl));replace hX:=hX.chg hC hG1
  clear hC;simp only[zy,zx,bR,aa] at hB1;refine E (hK7 _ _ ?_);refine i_ ?_;try simp only[cn,Exit.then]
  refine aeO hK ?_;replace hB1:=hB1.putD hK (o:=.deferred G0);replace hX:=hX.putD hD (o:=.deferred G0);refine aU O ⟨_,O,(hB1.lies cE aO O O)⟩ ?_;try simp only[zD,zE]
  exact⟨_,O,hX,by simp[Lith.W,aa0,Sv]⟩
 refine am (C aI (C aI ?_));simp only[I];refine gE O (C aI ?_);simp only[I];refine gE O (C (arV rC O O) (C (Gg O) (C aI ?_)));simp only[I];refine C (Ep O O) ?_;simp only[I];refine tY O (by simp only[I];rfl) (by exact aO) hB1 (by simp) (by simp[nf]) ?_;clear hB1;intro w8 hC hB1
 (try replace hK:=hK.chg hC (by first|assumption|rfl));replace hX:=hX.chg hC hG1
 clear hC;simp only[zy,zx,bR,aa] at hB1;refine E (hK7 _ _ ?_);refine i_ ?_;try simp only[cn,Exit.then]
 refine aeO hK ?_;replace hB1:=hB1.putD hK (o:=.deferred G0);replace hX:=hX.putD hD (o:=.deferred G0);refine aU O ⟨_,O,(hB1.lies cE aO O O)⟩ ?_;try simp only[zD,zE]
 exact⟨_,O,hX,by simp[Lith.W,aa0,Sv]⟩
end
section
set_option maxRecDepth 100000
attribute [local irreducible] bf M fY cJ cU Code.wp
attribute [local congr] dK dL cZ dJ
variable{a:Int}
def Oq(h:Bd 1000000 a):eS G1 191 [W a] (G (cA a)):=by
 intro w;refine⟨bK func191 (by kernel_rfl),?_⟩;have m:=Mem.refl w
 go_enter func191,ntmps191
 apply kX 10 [1,0] m;simp only[↓U,fB];intro k u m;refine aX O O (Qi _ (iC h)) ?_;rintro v u g ⟨j,c1,rfl,i⟩;replace m:=m.ext' g;simp only[I];rw[gI] at i ⊢;apply aJ 4 [0,0] m;simp only[↓U,fG];refine bB O ?_ ?_<;>intro d
 .have b:=agC.1 d;apply aG 5 [] m;simp only[↓U];refine aU O O ?_;try simp only[zD,zE]
  exact⟨_,O,m.ext,by rw[b];rfl⟩
 apply aG 6 [1,0] m;simp only[↓U,kP,Dl,aa];refine lL O ?_ ?_<;>intro f
 .have c:=Gm f;apply aG 5 [] m;simp only[↓U];refine aU O O ?_;try simp only[zD,zE]
  exact⟨_,O,m.ext,by rw[My c]⟩
 have c:=Iq f;have b:¬a=0:=λe=>d (agC.2 e);apply aG 7 [] m;simp only[↓U];refine aU O O ?_;try simp only[zD,zE]
 exact⟨_,O,m.ext,by rw[Mz (by omega)]⟩
def av7(d:Bd 1000000 a):eS G1 267 [W a] (W (-a)):=by
 intro w;refine⟨bK func267 (by kernel_rfl),?_⟩;have m:=Mem.refl w
 go_enter func267,ntmps267
 apply kX 6 [0] m;simp only[↓U,lT];intro i j u m;refine mh m [X9,Z] [(2,Z),(0,Z),(3,Z),(4,Z),(1,X9),(5,X9),(6,X9)] aD (by kernel_rfl) (bT (λ_ _ _ _ _ h=>h)) (ol:=?_) ?f ?_
 case f=>simp only[zw,zQ,zR];try rfl
 intro u m;refine Dk 4 [1,1] ?_;simp only[↓U,kP,fB,Dl,aa];refine bQ (aX O O (Qi _ (iC d)) ?_);rintro v u c ⟨g,c1,rfl,e⟩;replace m:=m.ext' c;simp only[I];rw[gI] at e ⊢;refine E ⟨m.sel [X9,Z],?_⟩;refine bQ (aX O O (Fs _ e (ax (Ea d) (by decide))) ?_);rintro v u c rfl;replace m:=m.ext' c;simp only[I];simp only[cS];refine E ⟨m.sel [X9,Z],?_⟩;refine bQ (cB m 0 O O O aO (X O) O ?_);intro u m;simp only[zy,zx,bR,zF,zG,aa] at m;refine E ⟨m.sel [X9,Z],?_⟩;refine bO ?_;rw[agz] at m;apply S 1 [] m;simp only[↓U];exact aU O ⟨_,O,((m.b 0 O).full cE aO)⟩ ⟨_,O,m.ext,O⟩
def We{b:Int}(j:Bd 1000000 a)(k:Bd 1000000 b):eS G1 121 [W a,W b] (W (a+b)):=by
 intro w;refine⟨bK func121 (by kernel_rfl),?_⟩;have m:=Mem.refl w;have n:=Ea j;have o:=Ea k;have D:=Ea (Bd.add j k)
 go_enter func121,ntmps121
 apply kX 7 [0] m;simp only[↓U,lT];intro z A B u m;refine mh m [Z,Z,Z] [(0,Z),(2,Z),(1,X9),(3,X9),(4,Z),(5,Z)] aD (by kernel_rfl) (bT (λ_ _ _ _ _ h=>h)) (ol:=?_) ?g ?_
 case g=>simp only[zw,zQ,zR];try rfl
 intro u m;refine Dk 2 [3,2] ?_;simp only[↓U,fB];refine bQ (aX O O (Qi _ (iC j)) ?_);rintro v u c ⟨x,c1,rfl,d⟩;replace m:=m.ext' c;simp only[I];rw[gI] at d ⊢;refine E ⟨m,?_⟩;refine bQ (aX O O (Qi _ (iC k)) ?_);rintro v u c ⟨y,c2,rfl,e⟩;replace m:=m.ext' c;replace d:=d.ext c;simp only[I];rw[gI] at e ⊢;refine E ⟨m,?_⟩;refine bY aK (bY aK (bO ?_));apply S 8 [3,2,0] m;simp only[↓U,kP,Dl,aa];refine C (aks aeZ O O) ?_;apply aJ 2 [0] m;simp only[↓U];refine bB O ?_ ?_<;>intro l
 .apply aG 1 [0] m;simp only[↓U];refine mhe m [X9,Z,Z] [(0,Z),(1,Z),(3,Z),(4,Z),(2,X9),(5,X9),(6,X9)] aD (by kernel_rfl) (bT (λ_ _ _ _ _ h=>h)) (ol:=?_) ?g ?_
  case g=>simp only[zw,zQ,zR];try rfl
  intro u c m;replace d:=d.ext c;replace e:=e.ext c;refine Dk 4 [2] ?_;simp only[↓U,kP,Dl,aa];refine bQ (aX O O (ars _ d e (ax n (by decide)) (ax o (by decide))) ?_);rintro v u c ⟨p,q,rfl,f⟩;replace m:=m.ext' c;refine E ⟨m.sel [X9,Z,Z],?_⟩;refine bQ ?_;simp only[I];simp only[cS] at f ⊢;have i:(digs 4294967296 (a.natAbs+b.natAbs)).length<=100000000000:=ax (aii j k) (by decide);refine aX O O (Fs _ f i) ?_;rintro v u c rfl;replace m:=m.ext' c;simp only[I];simp only[cS];refine E ⟨m.sel [X9,Z,Z],?_⟩;refine bQ (cB m 0 O O O aO (X O) O ?_);intro u m;simp only[zy,zx,bR,zF,zG,aa] at m;refine E ⟨m.sel [X9,Z,Z],?_⟩;refine bO ?_;rw[agA l] at m;apply S 1 [] m;simp only[↓U];exact aU O ⟨_,O,((m.b 0 O).full cE aO)⟩ ⟨_,O,m.ext,O⟩
 apply aG 4 [0] m;simp only[↓U];refine aX O O (ahp _ d e (gW _) (gW _)) ?_;rintro v u c rfl;replace m:=m.ext' c;replace d:=d.ext c;replace e:=e.ext c;simp only[I];simp only[cS];apply aJ 3 [0,0] m;simp only[↓U];refine bB O ?_ ?_<;>intro r
 .have t:=Bh.1 r;apply aG 1 [0] m;simp only[↓U];refine mhe m [X9,Z,Z] [(0,Z),(1,Z),(3,Z),(4,Z),(2,X9),(5,X9),(6,X9)] aD (by kernel_rfl) (bT (λ_ _ _ _ _ h=>h)) (ol:=?_) ?g ?_
  case g=>simp only[zw,zQ,zR];try rfl
  intro u c m;replace d:=d.ext c;replace e:=e.ext c;refine Dk 4 [1] ?_;simp only[↓U,kP,Dl,aa];refine bQ (aX O O (amZ _ e d (Sw (lo t)) (by simp only[cS];omega) (ax o (by decide))) ?_);rintro v u c ⟨⟨p,q,rfl,f⟩,_⟩;replace m:=m.ext' c;simp only[I];simp only[cS] at f ⊢;have i:=Sw (qw b.natAbs a.natAbs);refine E ⟨m.sel [X9,Z,Z],?_⟩;refine bQ (aX O O (Fs _ f (ax i (ax o (by decide)))) ?_);rintro v u c rfl;replace m:=m.ext' c;simp only[I];simp only[cS];refine E ⟨m.sel [X9,Z,Z],?_⟩;refine bQ (cB m 0 O O O aO (X O) O ?_);intro u m;simp only[zy,zx,bR,zF,zG,aa] at m;refine E ⟨m.sel [X9,Z,Z],?_⟩;refine bO ?_;rw[akw l t] at m;apply S 1 [] m;simp only[↓U];exact aU O ⟨_,O,((m.b 0 O).full cE aO)⟩ ⟨_,O,m.ext,O⟩
 have s:b.natAbs<=a.natAbs:=im λh=>r (Bh.2 h);apply aG 3 [0] m;simp only[↓U];refine mhe m [X9,Z,Z] [(0,Z),(1,Z),(3,Z),(4,Z),(2,X9),(5,X9),(6,X9)] aD (by kernel_rfl) (bT (λ_ _ _ _ _ h=>h)) (ol:=?_) ?g ?_
 case g=>simp only[zw,zQ,zR];try rfl
 intro u c m;replace d:=d.ext c;replace e:=e.ext c;refine Dk 4 [2] ?_;simp only[↓U,kP,Dl,aa];refine bQ (aX O O (amZ _ d e (Sw s) (by simp only[cS];omega) (ax n (by decide))) ?_);rintro v u c ⟨⟨p,q,rfl,f⟩,_⟩;replace m:=m.ext' c;simp only[I];simp only[cS] at f ⊢;have i:=Sw (qw a.natAbs b.natAbs);refine E ⟨m.sel [X9,Z,Z],?_⟩;refine bQ (aX O O (Fs _ f (ax i (ax n (by decide)))) ?_);rintro v u c rfl;replace m:=m.ext' c;simp only[I];simp only[cS];refine E ⟨m.sel [X9,Z,Z],?_⟩;refine bQ (cB m 0 O O O aO (X O) O ?_);intro u m;simp only[zy,zx,bR,zF,zG,aa] at m;refine E ⟨m.sel [X9,Z,Z],?_⟩;refine bO ?_;rw[akx l s] at m;apply S 1 [] m;simp only[↓U];exact aU O ⟨_,O,((m.b 0 O).full cE aO)⟩ ⟨_,O,m.ext,O⟩
def Ih{b:Int}(d:Bd 1000000 a)(c:Bd 1000000 b):eS G1 192 [W a,W b] (W (a-b)):=by
 intro w;refine⟨bK func192 (by kernel_rfl),?_⟩;have m:=Mem.refl w
 go_enter func192,ntmps192
 apply kX 7 [0] m;simp only[↓U,lT];intro e f g u m;refine dQ m 4 aD (by kernel_rfl) ?_;simp only[zy];refine ql O (λu m=>((m.b 2 O).full cE aO)) ?_;simp only[I];refine ql O (λu m=>((m.b 1 O).full cE aO)) ?_;simp only[I];refine jF O O (av7 c) ?_;simp only[I];refine jF O O (We d c.neg) (bM ?_);intro u m;simp only[I];refine cB m 0 O O O aO (X O) O ?_;intro u m;simp only[zy,zx,bR,zF,zG,aa] at m;refine E ?_;rw[<-qu] at m;apply S 1 [] m;simp only[↓U];exact aU O ⟨_,O,((m.b 0 O).full cE aO)⟩ ⟨_,O,m.ext,O⟩
def vD{b:Int}(e:Bd 1000000 a)(f:Bd 1000000 b):eS G1 122 [W a,W b] (W (a*b)):=by
 intro w;refine⟨bK func122 (by kernel_rfl),?_⟩;have m:=Mem.refl w;have j:=Ea e;have k:=Ea f;have l:=Ea (Bd.mul e f)
 go_enter func122,ntmps122
 apply kX 7 [0] m;simp only[↓U,lT];intro s t x u m;refine mh m [X9,Z,Z] [(5,Z),(7,Z),(0,Z),(2,Z),(6,Z),(8,Z),(9,Z),(1,X9),(3,X9),(4,X9),(10,X9),(11,X9)] aD (by kernel_rfl) (bT (λ_ _ _ _ _ h=>h)) (ol:=?_) ?n ?_
 case n=>simp only[zw,zQ,zR];try rfl
 intro u m;refine Dk 6 [2,1,2,1] ?_;simp only[↓U,kP,fB,Dl,aa];refine bY (akt aeZ O O) (bQ ?_);simp only[I];refine aX O O (Qi _ (iC e)) ?_;rintro v u c ⟨o,c1,rfl,d⟩;replace m:=m.ext' c;simp only[I];rw[gI] at d ⊢;refine E ⟨m.sel [X9,Z,Z],?_⟩;refine bQ (aX O O (Qi _ (iC f)) ?_);rintro v u c ⟨p,c2,rfl,i⟩;replace m:=m.ext' c;replace d:=d.ext c;simp only[I];rw[gI] at i ⊢;refine E ⟨m.sel [X9,Z,Z],?_⟩;refine bQ (aX O O (am0 _ d i (ax j (by decide)) (ax k (by decide))) ?_);rintro v u c ⟨q,r,rfl,g⟩;replace m:=m.ext' c;simp only[I];simp only[cS] at g ⊢;rw[<-ob] at g ⊢;refine E ⟨m.sel [X9,Z,Z],?_⟩;refine bQ (aX O O (Fs _ g (ax l (by decide))) ?_);rintro v u c rfl;replace m:=m.ext' c;simp only[I];simp only[cS];refine E ⟨m.sel [X9,Z,Z],?_⟩;refine bQ (cB m 0 O O O aO (X O) O ?_);intro u m;simp only[zy,zx,bR,zF,zG,aa] at m;refine E ⟨m.sel [X9,Z,Z],?_⟩;refine bO ?_;rw[ob,agB] at m;apply S 1 [] m;simp only[↓U];exact aU O ⟨_,O,((m.b 0 O).full cE aO)⟩ ⟨_,O,m.ext,O⟩
def av8{b:Int}(c:Bd 900000 a)(d:Bd 900000 b):eS G1 126 [W a,W b] (G (cA (a-b))):=by
 intro w;refine⟨bK func126 (by kernel_rfl),?_⟩;have m:=Mem.refl w
 go_enter func126,ntmps126
 apply kX 10 [2,1,0] m;simp only[↓U,fB];intro e f u m;refine nX m O O (Ih (c.mono (by decide)) (d.mono (by decide))) ?_;intro u m;simp only[I];refine tK m O O (Oq ((Bd.sub c d).mono (by decide))) 3 [] ?_;simp only[↓U];intro u m;exact aU O O ⟨_,O,m.ext,O⟩
def qU{n:Int}(h:nQ n):eS G1 118 [G n] (W n):=by
 intro w;refine⟨bK func118 (by kernel_rfl),?_⟩;have m:=Mem.refl w;have f:=h.natAbs
 go_enter func118,ntmps118
 apply kX 5 [] m;simp only[↓U,lT];intro g u m;rcases (show n<0\/0<=n by omega) with h0|h0
 .apply S 2 [0] m;simp only[↓U];refine C (gB jO fV O (agD h h0)) ?_;apply aJ 11 [1,0] m;simp only[↓U];apply I0;omega;refine C (uH O (Za f (by omega))) ?_;apply aJ 5 [0] m;simp only[↓U];refine C (zX O O (Re (by omega))) ?_;apply aJ 1 [0] m;simp only[↓U];refine C (pE O O (by omega) aaV) ?_;simp only[I];refine acG dB (z:=.int .u64 0) (by kernel_rfl) O O O O O ?_;intro u e a c d;replace m:=m.newB a c d;apply aJ 2 [1,0] m;simp only[↓U];apply I0;omega;refine cC m O O (Fs _ ((m.b 0 O).nat (os:=[n.natAbs%4294967296,n.natAbs / 4294967296]) (Sx (by omega)) O (by omega)) (by simp)) ?_;rintro v u m rfl;apply iV 3 [1] m;simp only[↓U,fB,aa];intro u m;refine aU O ⟨_,O,((m.b 1 O).full cE aO)⟩ ?_;try simp only[zD,zE]
  exact⟨_,O,m.ext,by rw[Zb,show Z=fF n from (Y5 h0).symm,Kn];rfl⟩
 apply S 2 [0] m;simp only[↓U];refine C (gB jO fV O (aky h h0)) ?_;apply aJ 13 [2,0] m;simp only[↓U];apply I0;omega;refine C (zX O O (Re (by omega))) ?_;apply aJ 1 [0] m;simp only[↓U];refine C (pE O O (by omega) aaV) ?_;simp only[I];refine acG dB (z:=.int .u64 0) (by kernel_rfl) O O O O O ?_;intro u e a c d;replace m:=m.newB a c d;apply aJ 2 [2,0] m;simp only[↓U];apply I0;omega;refine cC m O O (Fs _ ((m.b 0 O).nat (os:=[n.natAbs%4294967296,n.natAbs / 4294967296]) (Sx (by omega)) O (by omega)) (by simp)) ?_;rintro v u m rfl;apply iV 3 [1] m;simp only[↓U,fB,aa];intro u m;refine aU O ⟨_,O,((m.b 1 O).full cE aO)⟩ ?_;try simp only[zD,zE]
 exact⟨_,O,m.ext,by rw[Zb,show X9=fF n from (Y6 (by omega)).symm,Kn];rfl⟩
end
section
set_option maxRecDepth 100000
attribute [local irreducible] bf M fY Code.wp
def ajg{K n R Y M:Nat}(a:M=4294967296^(K+1))(c:R<M)(b:Y<4294967296^n):(digs 4294967296 (R+Y)).length<=K+1+n+1:=dU (by omega) (arW (a▸c) b)
def atW{a:Int}(ha:Bd 1000000 a)(h0:0<=a):eS G1 157 [W a] (.tuple #[W (dO a.natAbs:Int),.bool Z]):=by
 intro w;refine⟨bK func157 (by kernel_rfl),?_⟩;have f:=eQ.refl w;have aM:=Ea ha;obtain⟨X,S⟩:∃X,X=a.natAbs:=⟨_,rfl⟩
 obtain⟨K,hK⟩:∃K,K=((digs 4294967296 X).length+1) / 2:=⟨_,rfl⟩
 rw[<-S] at aM;obtain⟨M,P⟩:∃M,M=4294967296^(K+1):=⟨_,rfl⟩
 have Y:∀V:Nat,V<M->(digs 4294967296 V).length<=1000001:=λV h=>ax (dU (by omega) (by rw[<-P];exact h)) (by omega);have aD:X<4294967296^(digs 4294967296 X).length:=by have:=iZ (mL X);rwa [cS] at this
 have U:=aeQ aD;rw[<-hK] at U;have af:4294967296^K<M:=by rw[P];exact Nat.pow_lt_pow_right (by omega) (by omega)
 have an:0<4294967296^K:=ky (by omega);obtain⟨J,ai⟩:∃J,J=4294967296^K:=⟨_,rfl⟩
 rw[<-ai] at U af an;rw[<-S]
 go_enter func157,ntmps157
 refine aV (λK1 ap=>am ?_);refine Si (by simp only[I];rfl) ?_;intro w1 L b aF j;have a2:=ax f.size aF;replace f:=f.trans b;clear b;simp only[I];refine xO uB O ?_;intro w2 D b T g;have ad:=ax f.size T;have bd:D≠L:=gp (cj j.lt T);have a7:=cj j.lt T;replace j:=j.ext b;replace f:=f.trans b;clear b;simp only[I];refine C aK ?_;simp only[I];refine E (ap _ _ ?_);refine aV (λK2 aq=>am ?_);refine aS O (j.lies cE aO O O) ?_;simp only[I];refine aX O O (Qi _ (iC ha)) ?_;rintro v w3 b ⟨A1,c1,rfl,k⟩;replace j:=j.ext b;replace g:=g.ext b;replace f:=f.trans b;clear b;rw[gI,<-S] at k ⊢;simp only[I];refine C aK ?_;simp only[I];refine E (aq _ _ ?_);refine aV (λK3 ar=>aV (λK4 ae=>?_));rcases fm X with hX0|hX0
 .subst hX0;refine am (C aI (C (qG O dB O) (C (aeF O O (by rfl)) ?_)));simp only[I];refine E (ae _ _ ?_);refine wU O (aV (λK5 au=>am (C ac1 ?_)));simp only[I];refine tY O (by simp only[I];rfl) (by exact aO) g (by simp) (by simp[nf]) ?_;clear g;intro w4 t g;replace f:=f.chg t ad;clear t;simp only[zy,zx,bR,aa] at g;refine C aK ?_;simp only[I];refine E (au _ _ ?_);refine i_ ?_;try simp only[cn,Exit.then]
  refine jG O ⟨_,O,(g.lies cE aO O O)⟩ O ?_;try simp only[zD,zE]
  exact⟨_,O,f,O⟩
 refine am (C aI (C (qG O dB O) (C (arQ O O (λe=>by have h1:=(uJ (B:=4294967296) (by omega)).1 (fj (show (digs 4294967296 X).length=0 by omega));omega)) ?_)));simp only[I];refine E (ae _ _ ?_);refine Qs O (ja ?_);refine ar _ _ (aV (λK6 av=>aV (λK7 aw=>am (C (aY (c:=0) Hz O mW O O) ?_))));simp only[I];refine aS O (j.lies1 xV O) ?_;simp only[I];refine E (aw _ _ ?_);refine lL O ?_ ?_<;>intro aE
 .exact Y0 (Gm aE) (by omega)
 refine ja ?_;refine av _ _ (aV (λK8 ay=>am (C aI (C (qG O dB O) (C (fZ O O (cF (by omega) (by omega))) ?_)))));simp only[I];refine C (iO O O (by omega) ((oO (m:=(digs 4294967296 X).length+1) (n:=2) (by omega)).trans (Y1 (λq:Nat=>(q:Int)) hK.symm))) ?_;simp only[I];have aA:=k;have x:=eQ.refl_of j;refine lD dB pX O O O (show _=K by omega) (show _=K by omega) (by omega) (by omega) (by omega) (by omega) ?_;intro w4 F b p l;have ao:=ax f.size p;have be:F≠L:=gp (cj j.lt p);have bf:F≠D:=gp (cj g.lt p);have a8:=cj j.lt p;have aU:=cj g.lt p;replace j:=j.ext b;replace g:=g.ext b;(try replace x:=x.ext b);replace f:=f.trans b;clear b;simp only[I];refine fR dB (z:=.int .u64 0) (by kernel_rfl) O (by simp only[I];rfl) (by rfl) ?_;intro w5 N b o ab;have a3:=ax f.size o;have bg:N≠L:=gp (cj j.lt o);have bh:N≠D:=gp (cj g.lt o);have bi:N≠F:=gp (cj l.lt o);have a9:=cj j.lt o;have bb:=cj g.lt o;have bc:=cj l.lt o;replace g:=g.ext b;replace l:=l.ext b;(try replace x:=x.ext b);replace f:=f.trans b;clear b;simp only[I];refine acA O dB pX O (by decide) O (zY.full (base:=F) l (ba _) (by simp) (by omega)) O (news:=[mT 1]) O (ab.row 0) (by simp[nf]) (by omega) (by omega) (lo l.lt) ?_;intro v1 w9 hO Q _;replace f:=f.grown Q ao;replace g:=g.grew Q aU;replace k:=aA.grew x Q p;obtain⟨r,s,rfl,i⟩:=dN.of_owns (xs:=bx K 0++[1]) (by have h:=hO;rw[gT] at h;rw[db];exact h) (by simp) (by rw[Zd];exact mL _) (by omega);rw[Zd,<-ai] at i;have aJ:=i.eq;rw[aJ] at i ⊢;clear l ab;simp only[I];refine C aK ?_;simp only[I];refine E (ay _ _ ?_);refine jd (Gh [5] [3,6,7,8,9,26,27,28,29,30,31,32,33,34,35,36,37,38,39,40,41,42,43,44,45] (λn vs G=>∃(R:Nat)(r:Option Addr)(s:Nat),vs=[.slice r (digs 4294967296 R).length s]/\(eQ w G)/\(fK G D [.bool X9,.string ⟨#[]⟩] 95)/\(dN G A1 (digs 4294967296 X).length c1 (digs 4294967296 X))/\(dN G r (digs 4294967296 R).length s (digs 4294967296 R))/\(0<R)/\(X<(R+1)*(R+1))/\(R<M)/\(n=R)) ?_ ?_)
 .apply Exists.intro;simp only[zQ,zR,zD,zE];exact⟨J,r,s,O,f,g,k,i,an,U,af,O⟩
 intro n vs wr hI u;obtain⟨R,r,s,rfl,f,g,k,i,H,aj,A,hn⟩:=hI;simp only[zu,zF,zG];refine jd (aV (λK9 az=>am (C aI (C aI ?_))));simp only[I];refine aX O O (av6 _ k i (gW _) (gW _) (by rw[cS];exact H) (by omega) (ax (Y _ A) (by decide))) ?_;rintro v w6 b ⟨_,_,rfl,⟨A3,c3,rfl,ag⟩,⟨A4,c4,rfl,aC⟩⟩;replace g:=g.ext b;(try replace k:=k.ext b);(try replace i:=i.ext b);replace f:=f.trans b;clear b;simp only[cS] at ag aC ⊢;have a4:=Sw (mf X R);simp only[I];refine C aI (C (dV O O) (C (dV O O) ?_));simp only[I];refine C aK (C aK ?_);simp only[I];refine E (az _ _ ?_);refine aV (λaW aN=>am (C aI (C aI ?_)));simp only[I];refine aX O O (ars _ i ag (ax (Y _ A) (by decide)) (by omega)) ?_;rintro v w7 b ⟨A6,c6,rfl,ah⟩;replace g:=g.ext b;(try replace k:=k.ext b);(try replace i:=i.ext b);replace f:=f.trans b;clear b;simp only[cS] at ah ⊢;simp only[I];have aL:(digs 4294967296 (R+X / R)).length<=1099511627776:=by
  have h1:=iZ (mL X);rw[cS] at h1;have h2:X / R<=X:=mf _ _;exact ax (ajg P A (ig h2 h1)) (by omega)
 refine aX O O (ahq (d:=2) _ ah aL (by omega) (by omega)) ?_;rintro v w8 b ⟨q,rfl,A7,c7,rfl,y⟩;replace g:=g.ext b;(try replace k:=k.ext b);(try replace i:=i.ext b);replace f:=f.trans b;clear b;simp only[cS] at y ⊢;simp only[I];refine C aI (C (dV O O) (C (dV O O) ?_));simp only[I];refine C aK (C aK ?_);simp only[I];refine E (aN _ _ ?_);refine aV (λaZ aP=>aV (λa0 aQ=>am (C aI (C aI ?_))));simp only[I];refine aX O O (ahp _ y i (gW _) (gW _)) ?_;rintro v w9 b rfl;replace g:=g.ext b;(try replace k:=k.ext b);(try replace i:=i.ext b);(try replace y:=y.ext b);replace f:=f.trans b;clear b;simp only[cS];simp only[I];refine C (Yr O O) ?_;simp only[I];refine E (aQ _ _ ?_);refine bB O ?_ ?_<;>intro ak
 .have aG:=Bj.1 ak;have aT:=aik H aj aG;refine aV (λa1 aR=>am (C aI ?_));simp only[I];refine aX O O (Fs _ i (ax (Y _ A) (by decide))) ?_;rintro v a5 b rfl;replace g:=g.ext b;replace f:=f.trans b;clear b;simp only[cS];simp only[I];refine tY O (by simp only[I];rfl) (by exact aO) g (by simp) (by simp[nf]) ?_;clear g;intro a6 t g;replace f:=f.chg t ad;clear t;simp only[zy,zx,bR,aa] at g;refine C aK ?_;simp only[I];refine E (aR _ _ ?_);refine i_ ?_;try simp only[cn,Exit.then]
  refine jG O ⟨_,O,(g.lies cE aO O O)⟩ O ?_;try simp only[zD,zE]
  exact⟨_,O,f,by rw[<-aT,sV];rfl⟩
 have al:¬R<=(R+X / R) / 2:=λh=>ak (Bj.2 h);refine ja (aP _ _ ?_);refine am (C aI (C aK ?_));simp only[I];refine E ?_;simp only[cn,Exit.then];refine⟨(R+X / R) / 2,_,?_,O,?_,?_⟩
 .rw[hn];exact Zc al
 .simp only[I,zv]
 simp only[zQ,zR,zD,zE];exact⟨(R+X / R) / 2,A7,c7,O,f,g,k,y,akz H aj hX0,aij H,Nat.lt_trans (Zc al) A,O⟩
end
section
set_option maxRecDepth 100000
attribute [local irreducible] bf M fY cJ cU Code.wp
attribute [local congr] dK dL cZ dJ
variable{k N cap N2 cap2 g1 q7 c7 na nb ca cb:Nat}{fs gs f c:List T3}{A A2:Option Addr}{v8 R J:ak}{K:Type}{sn:Array Nat}{w0 w:an}{x y z:Bool}{ms:List Mv}{t:T3}{xs ys:List Nat}
def av9{X:Nat}(b:k<(digs 4294967296 X).length)(h2:(digs 4294967296 X).length<=2):IntKind.u64.wrap ((et IntKind.u64.bits ((val 4294967296 ((digs 4294967296 X).take k):Nat):Int) ||| et IntKind.u64.bits (((digs 4294967296 X)[k]*4294967296^k:Nat):Int)).toNat:Int)=((val 4294967296 ((digs 4294967296 X).take (k+1)):Nat):Int):=by
 have a:=mL X;have h1:=iZ (λx c=>a x (List.mem_of_mem_take c):cX 4294967296 ((digs 4294967296 X).take k));rw[bz,ep (by omega)] at h1;rw[awW h1 (a _ (fl b)) (by omega),cP b,jb]
def ap9{X:Nat}(a:(digs 4294967296 X).length<=2):X<18446744073709551616:=by
 have h:=iZ (mL X);rw[cS] at h;have b:4294967296^(digs 4294967296 X).length<=4294967296^2:=Nat.pow_le_pow_right (by omega) a;omega
def atX{a:Int}(l:Bd 1000000 a):eS G1 158 [W a] (.tuple #[G (abE a),.bool (decide (nQ a))]):=by
 intro w;refine⟨bK func158 (by kernel_rfl),?_⟩;have m:=Mem.refl w;obtain⟨X,d⟩:∃X,X=a.natAbs:=⟨_,rfl⟩
 go_enter func158,ntmps158
 apply kX 9 [1,0] m;simp only[↓U,fB];intro g1 u m;refine cC m O O (Qi _ (iC l)) ?_;rintro v u m ⟨i,c1,rfl,c⟩;simp only[I];rw[gI,<-d] at c;rw[gI,<-d];have B:=m.ext;apply aJ 9 [0,0] m;simp only[↓U,fG];refine bB O ?_ ?_<;>intro z
 .have s:¬nQ a:=amY d (by omega);apply aG 6 [] m;simp only[↓U];exact jG O O O ⟨_,O,m.ext,Ny s⟩
 have h:(digs 4294967296 X).length<=2:=by omega
 have D:=ap9 h;apply aG 13 [0] m;simp only[↓U,fG];refine bU [5,15] [6,7,16,17,18,19,20,21,22,23,24,25,26] (λn vs f=>∃(k:Nat),vs=[.int .u64 ((val 4294967296 ((digs 4294967296 X).take k):Nat):Int),G (k:Int)]/\Mem w f [bI g1 [.bool (fF a),.string (iR a)] 95]/\(dN f i (digs 4294967296 X).length c1 (digs 4294967296 X))/\(k<=(digs 4294967296 X).length)/\(n=(digs 4294967296 X).length-k)) ?_ ?_
 .exact⟨_,0,O,m,c,bu _,O⟩
 intro n vs wr j u t o;obtain⟨k,rfl,m,c,x,y⟩:=j;simp only[zu,zF,zG];apply aG 5 [0,0] m;simp only[↓U];refine bB O ?_ ?_<;>intro A
 .have g:k<(digs 4294967296 X).length:=by omega
  obtain⟨p,rfl,q,r⟩:=c.get g;apply aG 7 [0] m;simp only[↓U,iJ,ai,aj,eo];apply I0;omega;refine aS O (lies1 q fO) ?_;simp only[I];apply aJ 8 [0] m;simp only[↓U];apply I0;omega;refine C (Pi O O (by omega) (av5 r (by omega))) (C (acx O O (av9 g h)) ?_);apply aJ 7 [0] m;simp only[↓U];apply I0;omega;exact o ((digs 4294967296 X).length-(k+1)) _ _ (by omega) (by kernel_rfl) ⟨k+1,O,m,c,by omega,O⟩
 obtain rfl:k=(digs 4294967296 X).length:=by omega
 rw[fe,cS];apply aG 4 [] m;simp only[↓U];rcases aaf d with ⟨h1,h2,b,e⟩|⟨h1,h2,b⟩|⟨h1,h2,b⟩|⟨h1,h2,b,e⟩
 .rw[h1] at m;apply S 13 [1,0,0,1,0] m;simp only[↓U,kP,Dl,aa];apply I0;omega;refine C (uH O O) (C (gB fV jO O (adu h2)) ?_);apply aJ 4 [] m;simp only[↓U];exact jG O O O ⟨_,O,m.ext,Ro b e.symm⟩
 .rw[h1] at m;apply S 23 [1,0,0,2,1] m;simp only[↓U,kP,Dl,aa];apply I0;omega;exact jG O O O ⟨_,O,m.ext,Ny b⟩
 .rw[h1] at m;apply S 23 [1,0,0,1] m;simp only[↓U,kP,Dl,aa];apply I0;omega;exact jG O O O ⟨_,O,m.ext,Ny b⟩
 rw[h1] at m;apply S 22 [1,0,0,2,0] m;simp only[↓U,kP,Dl,aa];apply I0;omega;refine C (gB fV jO O (cF (by omega) (by omega))) ?_;apply aJ 4 [] m;simp only[↓U];exact jG O O O ⟨_,O,m.ext,Ro b e.symm⟩
def afY{M:ak}(w:an)(a:fK w g1 [.slice A N cap,.slice A2 N2 cap2,v8,R,M,J] 148)(d:cN w A N fs)(f:cN w A2 N2 gs)(c:N<=10000000)(e:N2<=10000000):dF G1 89 [.pointer (H ⟨g1,0,G0⟩)] w (λv _=>v=G (if cD Z fs≠0 then cD Z fs else cD Z gs)):=by
 refine⟨bK func89 (by kernel_rfl),?_⟩;have m:=Mem.refl w
 go_enter func89,ntmps89
 apply fD 10 [0] m;simp only[↓U,As,aa];refine aS O ((a.ext m.ext).lies1 nZ O) ?_;simp only[I];refine cC m O O (Ck _ (d.ext m.ext) c) ?_;rintro v u m rfl;apply aJ 7 [0,0] m;simp only[↓U];refine bB O ?_ ?_<;>intro b
 .apply aG 6 [] m;simp only[↓U];refine aU O O ?_;try simp only[zD,zE]
  exact⟨_,O,m.ext,by rw[Z9 b]⟩
 apply aG 6 [0] m;simp only[↓U,xG,aa];refine aS O ((a.ext m.ext).lies1 nZ O) ?_;simp only[I];refine cC m O O (Ck _ (f.ext m.ext) e) ?_;rintro v u m rfl;apply aJ 3 [] m;simp only[↓U];refine aU O O ?_;try simp only[zD,zE]
 exact⟨_,O,m.ext,by rw[K0 (λh=>b h)]⟩
def Qx(f c:List T3):Int:=if Y f≠Y c then 30 else if jP f c (Y f)=Z\/oD f c (Y f)=X9 then 30 else 0
def awa(h:¬Y f=Y c):Qx f c=30:=Z9 h
def aru(h:jP f c (Y f)=Z\/oD f c (Y f)=X9):Qx f c=30:=by
 unfold Qx;rw[Z9 h];split<;>rfl
def awb(h1:Y f=Y c)(h2:jP f c (Y f)=X9)(a:oD f c (Y f)=Z):Qx f c=0:=by
 rw[Qx,K0 (λk=>k h1),K0];rintro (k|k)
 .rw[h2] at k;cases k
 rw[a] at k;cases k
def ajh{V:Type}[DecidableEq K]:∀{xs:List (K×V)},(xs.map (·.1)).Nodup->rD [] xs=xs:=by
 intro xs;have key:∀(ys D:List (K×V)),((D++ys).map (·.1)).Nodup->rD D ys=D++ys:=by
  intro ys
  induction ys with
  |nil=>intro D _;rw[List.append_nil];rfl
  |cons y ys ih=>
   intro D h;have d:y.1∉D.map (·.1):=by
    rw[db,List.nodup_append] at h;exact λk=>h.2.2 _ k _ (by simp) O
   have e:fL D y.1 y.2=D++[y]:=by
    have b:pM D y.1 0=G0:=by
     cases a:pM D y.1 0 with
     |none=>rfl
     |some q=>
      obtain⟨p,_,c,_⟩:=lN D y.1 0 q.1 q.2 a;exact Y0 (c_.2 ⟨_,bn c,O⟩) d
    exact (oA D y.1 0 b).2.1 y.2
   show rD (fL D y.1 y.2) ys=_
   rw[e,ih (D++[y]) (by simpa using h)];simp
 exact key xs []
def aht(f c:List T3)(rim:List E3):oD f c rim=decide (If f rim=If c rim):=by
 rw[Bool.eq_iff_iff,Y2];unfold oD If;rw[List.all_eq_true,List.map_inj_left];exact⟨λh e a=>by rw[Y9 (h e a)],λh e a=>Y5 (Y1 rg (h e a))⟩
def am5{es:Array cu}{a:List (E3×Bool)}(h:lU ed bj (eE [] (pA c)) es sn a [])(j:∀y∈a,afq f (Y f) y.1=X9):jP f c (Y f)=X9:=by
 cases g:jP f c (Y f) with
 |false=>rfl
 |true=>
  obtain⟨e,d,b⟩:=aad.1 g;have h1:e∈(eE [] (pA c)).map (·.1):=(sA _ _ _).2 (.inr d);obtain⟨y,i,rfl⟩:=c_.1 h1;rw[j y (h.done.mem_iff.2 i)] at b;cases b
def am6{es:Array cu}{a rs:List (E3×Bool)}(h:lU ed bj (eE [] (pA c)) es sn a rs){y:E3×Bool}(d:y∈a)(b:afq f (Y f) y.1=Z):jP f c (Y f)=Z:=by
 have h1:y.1∈(eE [] (pA c)).map (·.1):=c_.2 ⟨y,h.1.mem_iff.1 (g_ _ d),rfl⟩;exact aad.2 ⟨y.1,((sA _ _ _).1 h1).resolve_left (by simp),b⟩
def aji{K:It}{M:ak}(m:Mem w0 w [bI g1 [.slice A N cap,.slice A2 N2 cap2,v8,R,M,J] 148,K])(D:cN w0 A N fs)(ad:cN w0 A2 N2 gs)(s:N<=10000000)(ab:N2<=10000000)(hf:cD Z fs=0)(hg:cD Z gs=0):xJ G1 90 [.pointer (H ⟨g1,0,G0⟩)] w λv w'=>∃i j,v=G (Qx fs gs)/\Mem w0 w' [oI 56 6 i (Y fs).length j ((Y fs).flatMap bG),bI g1 [.slice A N cap,.slice A2 N2 cap2,v8,.slice i (Y fs).length j,M,J] 148,K]:=by
 refine⟨bK func90 (by kernel_rfl),?_⟩;have a6:(Y fs).length<=30000000:=by have h1:=uQ (all:=aR fs) (aR fs) [];have h2:=kF fs;have h3:=D.len;simp only[cd] at h1;unfold Y;omega
 have au:(Y fs).Nodup:=(pO fs).nodup
 go_enter func90,ntmps90
 apply fD 11 [1,0] m;simp only[↓U,As,Vc,aa];refine aX O O (Om _ (D.ext m.ext) s) ?_;rintro v u l ⟨i,j,n4,aV,rfl,Q⟩;replace m:=m.newO l Q;subst aV;apply iV 6 [1,0] m;simp only[↓U,Fg,adF,aa];intro u m;refine mh m [Z,Z,Z] [(0,Z),(1,Z),(2,Z),(4,Z),(5,Z),(6,Z),(3,Z),(7,Z),(8,X9),(9,X9),(10,Z)] aD (by kernel_rfl) (bT (λ_ _ _ _ _ h=>h)) (ol:=?_) ?x ?_
 case x=>simp only[zw,zQ,zR];try rfl
 intro u m;refine Dk 8 [2,2] ?_;simp only[↓U,Fg,xG,adF,Vc,aa];refine bQ (aX O O (Om _ (ad.ext m.ext) ab) ?_);rintro v u l ⟨A5,c5,n5,aY,rfl,Q⟩;replace m:=m.newO l Q;subst aY;refine E ⟨m.sel [X9,Z,Z,Z],?_⟩;refine bQ ?_;simp only[I];refine cC m O O (aje _ ((m.o 1 O).lat yM (by decide)) ((m.o 0 O).lat yM (by decide)) (by omega)) ?_;rintro v u m rfl;refine E ⟨m.sel [X9,Z,Z,Z],?_⟩;refine bY (lB O) (bO (gc ?_));simp only[I];refine cQ O ?_ ?_<;>intro av
 .have aZ:¬Y fs=Y gs:=by simpa using av
  apply aG 5 [] m;simp only[↓U];refine aU O O ?_;try simp only[zD,zE]
  exact⟨_,O,_,_,by rw[awa aZ],m.sel [X9,Z,Z,Z]⟩
 have ar:Y fs=Y gs:=by simpa using av
 apply aG 3 [0] m;simp only[↓U];refine iB m ?_;intro q9 u m;have f:=bC.nil (K:=P3) (V:=Bool) pt bj;apply aJ 13 [4,0] m;simp only[↓U,Fg,adF,xC,aa];refine bU [33] [5,34,35,36,37,38,39,40,41,42,43] (λn vs W=>∃(k:Nat)(es:Array cu)(c:Nat),vs=[G (k:Int)]/\Mem w0 W [mI q9 es c,oI 56 6 i (Y fs).length j ((Y fs).flatMap bG),bI g1 [.slice A N cap,.slice A2 N2 cap2,v8,.slice i (Y fs).length j,M,J] 148,K]/\(bC pt bj (eE [] (Uk ((Y fs).take k))) es c)/\(k<=(Y fs).length)/\(n=(Y fs).length-k)) ?_ ?_
 .exact⟨_,0,_,_,O,(m.sel [Z,X9,Z,Z,Z]),f,bu _,O⟩
 intro n vs wr P u K1 aQ;obtain⟨k,X,L,rfl,m,f,hk,hn⟩:=P;simp only[zu,zF,zG];apply aG 5 [0,0] m;simp only[↓U];refine bB O ?_ ?_<;>intro a7
 .obtain⟨e,t⟩:∃e,(Y fs)[k]? = H e:=⟨_,ap (by omega)⟩
  obtain⟨gO,rfl⟩:=(m.o 1 rfl).some (by omega);apply sO 10 [0,4,0,0] m;simp only[↓U,yE,Qh,xD,ai,aj,aa];refine⟨_,λu m=>(lA (((m.o 1 O).at yM t).lies sZ jD)),λg3=>⟨by omega,?_⟩⟩;intro u m;refine mh m [Z,X9,Z,Z,Z] [(0,Z),(1,Z),(3,Z),(4,Z),(2,Z),(5,Z),(6,X9),(7,X9)] aD (by kernel_rfl) (bT (λ_ _ _ _ _ h=>h)) (ol:=?_) ?x ?_
  case x=>simp only[zw,zQ,zR];try rfl
  intro u m;refine Dk 6 [1,1] ?_;simp only[↓U,vA,aN,ag,ah,aa];apply I0;omega;refine bQ (eP (ek:=pt) (en:=bj) (a:=e.1) (v:=Z) m 1 O gN eL O O O f ?_);intro X L u m f;simp only[zF,zG] at m;rw[<-jM] at f;refine E ⟨m.sel [Z,X9,Z,Z,Z],?_⟩;refine bQ (eP (ek:=pt) (en:=bj) (a:=e.2) (v:=Z) m 1 O gN eL O O O f ?_);intro X L u m f;simp only[zF,zG] at m;rw[<-jM] at f;refine E ⟨m.sel [Z,X9,Z,Z,Z],?_⟩;refine bO ?_;apply S 5 [0] m;simp only[↓U];apply I0;omega;exact aQ ((Y fs).length-(k+1)) _ _ (by omega) (by kernel_rfl) ⟨k+1,_,_,O,(m.sel [X9,Z,Z,Z,Z]),by rw[adl t];simpa[List.append_assoc] using f,by omega,rfl⟩
 obtain rfl:k=(Y fs).length:=by omega
 rw[fe] at f;apply aG 3 [0] m;simp only[↓U];refine mh m [Z,Z,Z,Z] [(0,Z),(1,Z),(2,Z),(4,Z),(5,Z),(6,Z),(9,Z),(10,Z),(11,Z),(13,Z),(14,Z),(15,Z),(3,Z),(7,Z),(12,Z),(16,Z),(8,X9),(17,X9),(18,X9),(19,Z)] aD (by kernel_rfl) (bT (λ_ _ _ _ _ h=>h)) (ol:=?_) ?x ?_
 case x=>simp only[zw,zQ,zR];try rfl
 intro u m;refine Dk 16 [3,3,3,3] ?_;simp only[↓U,As,Fg,xG,Vc,adF,aa];refine bQ (aX O O (amW (rim:=(Y fs)) _ (D.ext m.ext) s ((m.o 1 O).lat yM (by decide)) (by omega) (mE hf).1 (mE hf).2 (λe t=>(wY.1 t).2)) ?_);rintro v u l ⟨a4,a8,a2,rfl,g,aK⟩;replace m:=m.plus g;clear g;simp only[de,cl] at m;refine E ⟨m.sel [X9,Z,Z,Z,Z],?_⟩;refine bQ ?_;simp only[I];refine aX O O (amW (rim:=(Y fs)) _ (ad.ext m.ext) ab ((m.o 2 O).lat yM (by decide)) (by omega) (mE hg).1 (mE hg).2 (λe t=>(wY.1 (ar▸t)).2)) ?_;rintro v u l ⟨a5,a9,a3,rfl,g,aM⟩;replace m:=m.plus g;clear g;simp only[de,cl] at m;rw[ajh (by rw[Gy];exact au)] at aK aM;refine E ⟨m.sel [X9,X9,Z,Z,Z,Z],?_⟩;refine bQ ?_;simp only[I];refine cC m O O (ap4 _ (m.p 1 O) aK (m.p 0 O) aM (by rw[Gy,Gy]) (by rw[Gy];exact au)) ?_;rintro v u m rfl;refine E ⟨m.sel [X9,X9,Z,Z,Z,Z],?_⟩;refine bY (lB O) (bO (gc ?_));simp only[I];refine cQ O ?_ ?_<;>intro aw
 .have am:oD fs gs (Y fs)=X9:=by rw[aht];simpa using aw
  apply aG 5 [] m;simp only[↓U];refine aU O O ?_;try simp only[zD,zE]
  exact⟨_,O,_,_,by rw[aru (.inr am)],m.sel [X9,X9,X9,Z,Z,Z]⟩
 have am:oD fs gs (Y fs)=Z:=by rw[aht];simpa using aw
 apply aG 7 [5,0] m;simp only[↓U,As,Vc,aa];refine aX O O (Vy _ (D.ext m.ext) s) ?_;rintro v u l ⟨aP,a0,aO,rfl,g,a1⟩;replace m:=m.plus g;clear g;simp only[de,cl] at m;apply aJ 9 [6,0] m;simp only[↓U,xG,Vc,aa];refine aX O O (Vy _ (ad.ext m.ext) ab) ?_;rintro v u l ⟨ao,aE,an,rfl,g,al⟩;replace m:=m.plus g;clear g;simp only[de,cl] at m;simp only[I];refine tE m tU O (m.p 0 O) ?_;intro r1 u m;apply aJ 2 [0] m;simp only[↓U];refine bU [] [2,7,75,76,77,78,79,80,81,82,83,84,85,86,87,88,89,90,91,92,93,94] (λn vs W=>∃(z rs:List (E3×Bool)) (sn:Array Nat),vs=[]/\Mem w0 W [iI r1 ao an sn,mI ao aE an,mI aP a0 aO,mI q9 X L,oI 56 6 i (Y fs).length j ((Y fs).flatMap bG),bI g1 [.slice A N cap,.slice A2 N2 cap2,v8,.slice i (Y fs).length j,M,J] 148,K]/\(lU ed bj (eE [] (pA gs)) aE sn z rs)/\(∀y∈z,afq fs (Y fs) y.1=X9)/\(n=rs.length)) ?_ ?_
 .exact⟨_,[],_,#[],rfl,(m.sel [Z,Z,Z,X9,X9,Z,Z,Z,Z]),lU.start al,λ_ h=>(by cases h),rfl⟩
 intro n vs wr P u K2 aS;obtain⟨z,rs,sn,rfl,m,aq,ay,hn⟩:=P;simp only[zu,zF,zG];apply aG 2 [0] m;simp only[↓U];refine Er m 0 O O (m.p 1 O) al aq ?_;intro bb kk vv sn u m s;simp only[zF,zG] at m;refine C (nS O) ?_;apply aJ 2 [0] m;simp only[↓U];refine cQ O ?_ ?_<;>intro ax
 .obtain⟨q,kb,az,hp,ae⟩:=Dd ax s;apply aG 4 [0] m;simp only[↓U];refine eB (pY O (m.r 0 O) (m.p 1 O) al ae) ?_;simp only[I];apply iV 9 [0,1,0] m;simp only[↓U,Qh,xD,vA,aN,aa,ag,ah];intro g4;apply I0;omega;intro u m;refine eB (dA (ek:=pt) (en:=bj) (k:=q.1) (v0:=X9) gN iN eL O O (m.p 4 O) f) ?_;simp only[I];apply aJ 1 [0] m;simp only[↓U];refine fS O (λd=>aI) (fS O (λd=>aW Tm aA O O (by decide) (by decide) O) ?_);simp only[I];refine eN O (λd=>bE (B d O) ((m.b 0 O).lies aF aA O O)) ?_;simp only[I,zy,aj,aa,ah,ag];refine eN O (λd=>dA (ek:=pt) (en:=bj) (k:=q.2) (v0:=X9) gN iN eL (B d O) (B d O) (m.p 4 O) f) ?_;simp only[I];refine C (dR O O O) ?_;apply aJ 1 [0] m;simp only[↓U];refine fS O (λd=>aI) ?_;simp only[I];refine eN O (λd=>bE O ((m.b 0 O).full sZ jD)) (eN O (λd=>dA (ek:=ed) (en:=bj) (k:=q) (v0:=X9) tU iN pV (B d O) (B d O) (m.p 3 O) a1) ?_);simp only[I];refine fS O (λd=>lB (B d O)) (C (dR O O O) ?_);apply aJ 1 [0] m;simp only[↓U];refine cQ O ?_ ?_<;>intro F
  .have af:afq fs (Y fs) q=Z:=by rw[Rn,Rn,Gx] at F;exact F
   have hj:=am6 ae (y:=(q,kb)) (by simp) af;apply aG 5 [] m;simp only[↓U];refine aU O O ?_;try simp only[zD,zE]
   exact⟨_,O,_,_,by rw[aru (.inl hj)],m.sel [X9,X9,X9,X9,X9,Z,Z,Z]⟩
  have af:afq fs (Y fs) q=X9:=by rw[Rn,Rn,Gx] at F;exact F
  apply aG 2 [0] m;simp only[↓U];exact aS az.length _ _ (by rw[hn,hp.length_eq];exact fu _) (by kernel_rfl) ⟨z++[(q,kb)],az,_,rfl,(m.sel [X9,Z,Z,Z,Z,Z,Z,Z]),ae,λy T=>(bv.1 T).elim (ay y) λT=>by obtain rfl:=bp.1 T;exact af,O⟩
 obtain rfl:=Db ax s;apply aG 6 [] m;simp only[↓U];refine aU O O ?_;try simp only[zD,zE]
 exact⟨_,O,_,_,by rw[awb ar (am5 aq ay) am],m.sel [X9,X9,X9,X9,Z,Z,Z]⟩
def Wf{V:Type}[DecidableEq K](xs:List (K×V))(x:K×V):rD [] (xs++[x])=fL (rD [] xs) x.1 x.2:=adh [] xs [x]
def awX(h:((!x || !y) || !z)=X9):(x&&y&&z)=Z:=by revert h;cases x<;>cases y<;>cases z<;>decide
def awY(h:((!x || !y) || !z)=Z):(x&&y&&z)=X9:=by revert h;cases x<;>cases y<;>cases z<;>decide
def awZ{l:Bool}(h:(((!l || !x) || !y) || !z)=X9):(l&&x&&y&&z)=Z:=by revert h;cases l<;>cases x<;>cases y<;>cases z<;>decide
def aw0{l:Bool}(h:(((!l || !x) || !y) || !z)=Z):(l&&x&&y&&z)=X9:=by revert h;cases l<;>cases x<;>cases y<;>cases z<;>decide
def Lx{rim:List E3}{i:Nat}{m:Mv}(b:ms[i]? = H m)(h:sC f c ms rim i m=X9):oE f c ms rim=X9:=by
 cases a:oE f c ms rim with
 |false=>rfl
 |true=>rw[tR.1 a i m b] at h;cases h
def afZ{a:Addr}{e:E3}(h:jS w a (bG e)):jS w a [G e.1.x,G e.1.y,G e.1.z,G e.2.x,G e.2.y,G e.2.z]:=h
def atY{K:It}{N3 W g:Nat}{D f:Option Addr}{l:Array cu}(m:Mem w0 w [oI 56 6 f (Y fs).length g ((Y fs).flatMap bG),bI g1 [.slice A N cap,.slice A2 N2 cap2,.slice D N3 W,.slice f (Y fs).length g,.map (H q7),J] 148,mI q7 l c7,K])(hT:cN w0 A N fs)(aK:cN w0 A2 N2 gs)(ad:pH bG 6 w0 D N3 ms)(hN:N<=300000)(aE:N2<=300000)(a1:N3<=10000000)(q:bC pt pt (rD [] ([]:List Mv)) l c7):xJ G1 91 [.pointer (H ⟨g1,0,G0⟩)] w λv w'=>∃l c7,v=G (if oE fs gs ms (Y fs)=Z then 0 else 31)/\Mem w0 w' [oI 56 6 f (Y fs).length g ((Y fs).flatMap bG),bI g1 [.slice A N cap,.slice A2 N2 cap2,.slice D N3 W,.slice f (Y fs).length g,.map (H q7),J] 148,mI q7 l c7,K]/\(oE fs gs ms (Y fs)=Z->bC pt pt (rD [] ms) l c7):=by
 refine⟨bK func91 (by kernel_rfl),?_⟩;have a2:(Y fs).length<=30000000:=by have h1:=uQ (all:=aR fs) (aR fs) [];have h2:=kF fs;have h3:=hT.len;simp only[cd] at h1;unfold Y;omega
 have a0:=ad.len
 go_enter func91,ntmps91
 apply fD 10 [2,0] m;simp only[↓U,As,Vc,aa];refine aX O O (Jp _ (hT.ext m.ext) hN) ?_;rintro v u F ⟨A8,n8,ba,_,rfl,h_,ps,rfl,a8,af⟩;replace m:=m.newO F h_;apply aJ 3 [0] m;simp only[↓U];refine mh m [Z,Z,Z,Z,Z] [(0,Z),(2,Z),(4,Z),(5,Z),(6,Z),(7,Z),(1,X9),(3,X9),(8,X9),(9,X9),(10,Z),(11,Z),(12,Z)] aD (by kernel_rfl) (bT (λ_ _ _ _ _ h=>h)) (ol:=?_) ?V ?_
 case V=>simp only[zw,zQ,zR];try rfl
 intro u m;refine Dk 6 [3] ?_;simp only[↓U,xG,Vc,aa];refine bQ (aX O O (amV _ ((m.o 0 O).lat Mt (by decide)) (ax (m.o 0 O).le (m.o 0 O).max)) ?_);rintro v u F ⟨q9,R,M,rfl,y,r⟩;replace m:=m.plus y;clear y;simp only[de,cl] at m;refine E ⟨m.sel [X9,Z,Z,Z,Z,Z],?_⟩;refine bQ ?_;simp only[I];refine aX O O (amV _ ((m.o 1 O).lat Mt (by decide)) (ax (m.o 1 O).le (m.o 1 O).max)) ?_;rintro v u F ⟨an,aq,al,rfl,y,aw⟩;replace m:=m.plus y;clear y;simp only[de,cl] at m;refine E ⟨m.sel [X9,X9,Z,Z,Z,Z,Z],?_⟩;refine bQ ?_;simp only[I];refine aX O O (Jp _ (aK.ext m.ext) aE) ?_;rintro v u F ⟨aZ,a9,bc,_,rfl,h_,qs,rfl,bb,ak⟩;replace m:=m.newO F h_;refine E ⟨m.sel [X9,X9,X9,Z,Z,Z,Z,Z],?_⟩;refine bQ ?_;simp only[I];refine aX O O (amV _ ((m.o 0 O).lat Mt (by decide)) (ax (m.o 0 O).le (m.o 0 O).max)) ?_;rintro v u F ⟨ao,ae,ab,rfl,y,C⟩;replace m:=m.plus y;clear y;simp only[de,cl] at m;refine E ⟨m.sel [X9,X9,X9,X9,Z,Z,Z,Z,Z],?_⟩;refine Dk 3 [] ?_;simp only[↓U];refine bO ?_;apply S 11 [7,0] m;simp only[↓U,Fg,adF,xC,aa];refine bU [33] [8,34,35,36,37,38,39,40,41,42,43] (λn vs Q=>∃(k:Nat)(es:Array cu)(x:Nat),vs=[G (k:Int)]/\Mem w0 Q [mI ao ae ab,mI an aq al,mI q9 es x,oI 56 6 f (Y fs).length g ((Y fs).flatMap bG),bI g1 [.slice A N cap,.slice A2 N2 cap2,.slice D N3 W,.slice f (Y fs).length g,.map (H q7),J] 148,mI q7 l c7,K]/\(bC pt bj ((Uk ((Y fs).take k)).foldl sR (eE [] ps)) es x)/\(k<=(Y fs).length)/\(n=(Y fs).length-k)) ?_ ?_
 .exact⟨_,0,_,_,O,(m.sel [Z,X9,Z,Z,X9,Z,Z,Z,Z]),r,bu _,O⟩
 intro n vs wr P u K1 ay;obtain⟨k,R,M,rfl,m,r,hk,hn⟩:=P;simp only[zu,zF,zG];apply aG 5 [0,0] m;simp only[↓U];refine bB O ?_ ?_<;>intro a5
 .obtain⟨e,he⟩:∃e,(Y fs)[k]? = H e:=⟨_,ap (by omega)⟩
  obtain⟨gO,rfl⟩:=(m.o 3 rfl).some (by omega);apply sO 9 [0,4,0] m;simp only[↓U,yE,Qh,xD,ai,aj,aa];refine⟨_,λu m=>(lA (((m.o 3 O).at yM he).lies sZ jD)),λg2=>⟨by omega,?_⟩⟩;intro u m;apply S 6 [1,0] m;simp only[↓U,vA,aN,ag,ah,aa];apply I0;omega;refine Vx (ek:=pt) (en:=bj) (a:=e.1) m 3 O gN eL O O r O ?_;intro R M u m r;simp only[zF,zG] at m;apply aJ 5 [1,0] m;simp only[↓U,vA,aN,ag,ah,aa];apply I0;omega;refine Vx (ek:=pt) (en:=bj) (a:=e.2) m 3 O gN eL O O r O ?_;intro R M u m r;simp only[zF,zG] at m;apply aJ 6 [0] m;simp only[↓U];apply I0;omega;exact ay ((Y fs).length-(k+1)) _ _ (by omega) (by kernel_rfl) ⟨k+1,_,_,O,(m.sel [X9,Z,Z,Z,Z,Z,Z,Z]),by rw[adl he,jf];exact r,by omega,O⟩
 obtain rfl:k=(Y fs).length:=by omega
 rw[fe] at r;apply aG 12 [5,0] m;simp only[↓U,Lo,ahh,Vd,aa];refine bU [49] [10,50,51,52,53,54,55,56] (λn vs Q=>∃(k:Nat)(es:Array cu)(x:Nat),vs=[G (k:Int)]/\Mem w0 Q [mI ao es x,mI an aq al,mI q9 R M,oI 56 6 f (Y fs).length g ((Y fs).flatMap bG),bI g1 [.slice A N cap,.slice A2 N2 cap2,.slice D N3 W,.slice f (Y fs).length g,.map (H q7),J] 148,mI q7 l c7,K]/\(bC pt bj (((ms.take k).map (·.1)).foldl sR (eE [] qs)) es x)/\(k<=N3)/\(n=N3-k)) ?_ ?_
 .exact⟨_,0,_,_,O,m,C,bu _,O⟩
 intro n vs wr P u K2 aB;obtain⟨k,ae,ab,rfl,m,C,hk,hn⟩:=P;simp only[zu,zF,zG];apply aG 5 [0,0] m;simp only[↓U];refine bB O ?_ ?_<;>intro a6
 .obtain⟨mv,s,a3,rfl,au⟩:=ad.get (i:=k) (by omega);apply aG 6 [0] m;simp only[↓U,Ig,ai,aj];apply I0;omega;refine aS O ((afZ (au.ext m.ext)).lies ae4 uS) ?_;simp only[I];apply iV 7 [0,1] m;simp only[↓U,amf,ame,sH,aN,aa];intro g2 u m;refine go (Vx (ek:=pt) (en:=bj) (a:=mv.1) m 1 O gN eL O O C O ?_);intro ae ab u m C;simp only[zF,zG] at m;apply aJ 6 [0] m;simp only[↓U];apply I0;omega;exact aB (N3-(k+1)) _ _ (by omega) (by kernel_rfl) ⟨k+1,_,_,O,(m.sel [X9,Z,Z,Z,Z,Z,Z,Z]),by rw[bV s,db,jf];exact C,by omega,O⟩
 have aO:k=N3:=by omega
 rw[a_ (by omega)] at C;apply aG 12 [5,0] m;simp only[↓U,Lo,ahh,Vd,aa];refine bU [62] [2,11,12,63,64,65,66,67,68,69,70,71,72,73,74,75,76,77,78,79,80,81,82,83,84,85,86,87,88,89,90,91,92,93,94,95,96,97,98,99,100,101,102,103,104,105,106,107,108,109,110,111,112,113] (λn vs Q=>∃(k:Nat)(es:Array cu)(x:Nat),vs=[G (k:Int)]/\Mem w0 Q [mI ao ae ab,mI an aq al,mI q9 R M,oI 56 6 f (Y fs).length g ((Y fs).flatMap bG),bI g1 [.slice A N cap,.slice A2 N2 cap2,.slice D N3 W,.slice f (Y fs).length g,.map (H q7),J] 148,mI q7 es x,K]/\(bC pt pt (rD [] (ms.take k)) es x)/\(∀i mv,i<k->ms[i]? = H mv->sC fs gs ms (Y fs) i mv=Z)/\(k<=N3)/\(n=N3-k)) ?_ ?_
 .exact⟨_,0,_,_,O,m,q,λ_ _ h=>Y0 h (mg _),bu _,O⟩
 intro n vs wr P u K3 av;obtain⟨k,l,c7,rfl,m,q,am,hk,hn⟩:=P;simp only[zu,zF,zG];apply aG 5 [0,0] m;simp only[↓U];refine bB O ?_ ?_<;>intro a7
 .obtain⟨mv,s,a3,rfl,au⟩:=ad.get (i:=k) (by omega);apply aG 7 [0] m;simp only[↓U,Ig,ai,aj];apply I0;omega;refine aS O ((afZ (au.ext m.ext)).lies ae4 uS) ?_;simp only[I];apply iV 6 [0] m;simp only[↓U,amf,ame,aa];intro g2 u m;rcases fm k with hk0|hk0
  .refine gc (mq m aD (by kernel_rfl) ?_);refine fE 21 [2,0,0,0,0,0,0,0,0,0,0,0,0,0,0,0,0,1] ?_;simp only[↓U,sH,aN,aa];apply I0;omega;refine rI O (kI (λu m=>dA (ek:=pt) (en:=bj) (k:=mv.1) (v0:=X9) gN iN eL O O (m.p 3 O) r) ?_);simp only[I];refine rI O (L (lB O) (L (xP O) (L aI (fU O (λd=>aI) ?_))));simp only[I];refine fU O (λd=>aY (c:=2) Hy O aA O O) ?_;simp only[I];refine jU O (λd u m=>bE (B d O) ((m.b 0 O).lies aF aA O O)) ?_;simp only[I,zy,aj,aa,ah,ag];refine jU O (λd u m=>dA (ek:=pt) (en:=bj) (k:=mv.2) (v0:=X9) gN iN eL (B d O) (B d O) (m.p 2 O) aw) ?_;simp only[I];refine fU O (λd=>lB (B d O)) (L (gY O O O) (L aI (fU O (λd=>aI) ?_)));simp only[I];refine fU O (λd=>aY (c:=2) Hy O aA O O) ?_;simp only[I];refine jU O (λd u m=>bE (B d O) ((m.b 0 O).lies aF aA O O)) ?_;simp only[I,zy,aj,aa,ah,ag];refine jU O (λd u m=>dA (ek:=pt) (en:=bj) (k:=mv.2) (v0:=X9) gN iN eL (B d O) (B d O) (m.p 1 O) C) ?_;simp only[I];refine fU O (λd=>lB (B d O)) (L (gY O O O) (bM ?_));intro u m;refine gc ?_;simp only[I];refine cQ O ?_ ?_<;>intro T
   .have t:sC fs gs ms (Y fs) k mv=X9:=by rw[Gz (rim:=(Y fs)) af ak,hk0];exact awY T
    apply aG 5 [] m;simp only[↓U];refine aU O O ?_;try simp only[zD,zE]
    exact⟨_,O,_,_,by rw[K0 (by rw[Lx s t];exact fh)],m.sel [X9,X9,X9,X9,Z,Z,Z,Z],λh=>by rw[Lx s t] at h;cases h⟩
   have t:sC fs gs ms (Y fs) k mv=Z:=by rw[Gz (rim:=(Y fs)) af ak,hk0];exact awX T
   have ar:∀i mv,i<k+1->ms[i]? = H mv->sC fs gs ms (Y fs) i mv=Z:=λi X hi z=>by
    rcases d_ i k with h|h
    .exact am i X h z
    obtain rfl:i=k:=by omega
    obtain rfl:=fq (s.symm.trans z);exact t
   apply aG 1 [0] m;simp only[↓U];refine mh m [Z,Z,Z,Z,Z,Z,X9,Z] [(0,Z),(1,Z),(2,Z),(4,Z),(6,Z),(3,Z),(5,Z),(7,Z),(8,X9)] aD (by kernel_rfl) (bT (λ_ _ _ _ _ h=>h)) (ol:=?_) ?V ?_
   case V=>simp only[zw,zQ,zR];try rfl
   intro u m;refine Dk 8 [6,1,1] ?_;simp only[↓U,adH,sH,He,arn,aN,aa];refine bQ (eP (ek:=pt) (en:=pt) (a:=mv.1) (v:=mv.2) m 6 O En eL O O O q ?_);intro l c7 u m q;simp only[zF,zG] at m;refine E ⟨m.sel [Z,Z,Z,Z,Z,Z,X9,Z],?_⟩;refine bO ?_;apply S 5 [0] m;simp only[↓U];apply I0;omega;exact av (N3-(k+1)) _ _ (by omega) (by kernel_rfl) ⟨k+1,_,_,O,(m.sel [X9,Z,Z,Z,Z,Z,Z,Z]),by rw[bV s,Wf];exact q,ar,by omega,O⟩
  obtain⟨j,rfl⟩:∃j,k=j+1:=⟨k-1,by omega⟩
  obtain⟨X,z,a4,aM,aW⟩:=ad.get (i:=j) (by omega);cases aM;refine gc (mq m aD (by kernel_rfl) ?_);refine fE 9 [1,0,0,0,0,6,0,0] ?_;simp only[↓U,Lo,ahh,aa];apply I0;omega;refine rI O (L (aP Hx uS O O (by omega) (by omega) (qY (show Int.toNat (((j+1:Nat):Int)-1)=j by omega))) ?_);refine fE 4 [0,0,0,0,0,0,1] ?_;simp only[↓U,sH,aN,aa];refine⟨_,λu m=>((((afZ (aW.ext m.ext)).sub 0).take 3).lies aF aA),?_⟩;refine rI O (jF O O uD.pure (rI O (L (lB O) (L (Gg O) (L aI ?_)))));simp only[I];refine fU O (λd=>aI) (fU O (λd=>aY (c:=2) Hy O aA O O) ?_);simp only[I];refine jU O (λd u m=>bE (B d O) ((m.b 0 O).lies aF aA O O)) ?_;simp only[I,zy,aj,aa,ah,ag];refine jU O (λd u m=>dA (ek:=pt) (en:=bj) (k:=mv.1) (v0:=X9) gN iN eL (B d O) (B d O) (m.p 3 O) r) ?_;simp only[I];refine fU O (λd=>lB (B d O)) (L (gY O O O) (L aI (fU O (λd=>aI) ?_)));simp only[I];refine fU O (λd=>aY (c:=2) Hy O aA O O) ?_;simp only[I];refine jU O (λd u m=>bE (B d O) ((m.b 0 O).lies aF aA O O)) ?_;simp only[I,zy,aj,aa,ah,ag];refine jU O (λd u m=>dA (ek:=pt) (en:=bj) (k:=mv.2) (v0:=X9) gN iN eL (B d O) (B d O) (m.p 2 O) aw) ?_;simp only[I];refine fU O (λd=>lB (B d O)) (L (gY O O O) (L aI (fU O (λd=>aI) ?_)));simp only[I];refine fU O (λd=>aY (c:=2) Hy O aA O O) ?_;simp only[I];refine jU O (λd u m=>bE (B d O) ((m.b 0 O).lies aF aA O O)) ?_;simp only[I,zy,aj,aa,ah,ag];refine jU O (λd u m=>dA (ek:=pt) (en:=bj) (k:=mv.2) (v0:=X9) gN iN eL (B d O) (B d O) (m.p 1 O) C) ?_;simp only[I];refine fU O (λd=>lB (B d O)) (L (gY O O O) (bM ?_));intro u m;refine gc ?_;simp only[I];refine cQ O ?_ ?_<;>intro T
  .have t:sC fs gs ms (Y fs) (j+1) mv=X9:=by rw[Gz (rim:=(Y fs)) af ak,fb,z];exact aw0 T
   apply aG 5 [] m;simp only[↓U];refine aU O O ?_;try simp only[zD,zE]
   exact⟨_,O,_,_,by rw[K0 (by rw[Lx s t];exact fh)],m.sel [X9,X9,X9,X9,Z,Z,Z,Z],λh=>by rw[Lx s t] at h;cases h⟩
  have t:sC fs gs ms (Y fs) (j+1) mv=Z:=by rw[Gz (rim:=(Y fs)) af ak,fb,z];exact awZ T
  have ar:∀i mv,i<j+1+1->ms[i]? = H mv->sC fs gs ms (Y fs) i mv=Z:=λi X hi z=>by
   rcases d_ i (j+1) with h|h
   .exact am i X h z
   obtain rfl:i=j+1:=by omega
   obtain rfl:=fq (s.symm.trans z);exact t
  apply aG 1 [0] m;simp only[↓U];refine mh m [Z,Z,Z,Z,Z,Z,X9,Z] [(0,Z),(1,Z),(2,Z),(4,Z),(6,Z),(3,Z),(5,Z),(7,Z),(8,X9)] aD (by kernel_rfl) (bT (λ_ _ _ _ _ h=>h)) (ol:=?_) ?V ?_
  case V=>simp only[zw,zQ,zR];try rfl
  intro u m;refine Dk 8 [6,1,1] ?_;simp only[↓U,adH,sH,He,arn,aN,aa];refine bQ (eP (ek:=pt) (en:=pt) (a:=mv.1) (v:=mv.2) m 6 O En eL O O O q ?_);intro l c7 u m q;simp only[zF,zG] at m;refine E ⟨m.sel [Z,Z,Z,Z,Z,Z,X9,Z],?_⟩;refine bO ?_;apply S 5 [0] m;simp only[↓U];apply I0;omega;exact av (N3-(j+1+1)) _ _ (by omega) (by kernel_rfl) ⟨j+1+1,_,_,O,(m.sel [X9,Z,Z,Z,Z,Z,Z,Z]),by rw[bV s,Wf];exact q,ar,by omega,O⟩
 have aO:k=N3:=by omega
 rw[a_ (by omega)] at q;have aV:oE fs gs ms (Y fs)=Z:=tR.2 λi mv hm=>am i mv (by have:=(az.1 hm).1;omega) hm;apply aG 6 [] m;simp only[↓U];refine aU O O ?_;try simp only[zD,zE]
 exact⟨_,O,_,_,by rw[Z9 aV],m.sel [X9,X9,X9,Z,Z,Z,Z],λ_=>q⟩
def am7:rX G1 39 tr:=by
 refine rX.agg (cs:=λp=>#[G p.a.x,G p.a.y,G p.a.z,G p.b.x,G p.b.y,G p.b.z,G p.c.x,G p.c.y,G p.c.z]) (λ_=>rfl) fN (λe p=>?_) (λp q=>?_) (λp=>?_)
 .refine tF.array (d:=9999) fN aA λi j=>?_;obtain rfl|rfl|rfl:=(by omega:i=0\/i=1\/i=2)
  .refine⟨_,dD aF aA O,?_⟩;refine tF.struct (d:=9998) lQ λf g=>?_;simp only[av,bw,Y3] at g;rcases g with rfl|rfl|rfl
   .exact⟨_,cL bJ O,tF.int (d:=9997) fV⟩
   .exact⟨_,cL bJ O,tF.int (d:=9997) fV⟩
   exact⟨_,cL bJ O,tF.int (d:=9997) fV⟩
  .refine⟨_,dD aF aA O,?_⟩;refine tF.struct (d:=9998) lQ λf g=>?_;simp only[av,bw,Y3] at g;rcases g with rfl|rfl|rfl
   .exact⟨_,cL bJ O,tF.int (d:=9997) fV⟩
   .exact⟨_,cL bJ O,tF.int (d:=9997) fV⟩
   exact⟨_,cL bJ O,tF.int (d:=9997) fV⟩
  refine⟨_,dD aF aA O,?_⟩;refine tF.struct (d:=9998) lQ λf g=>?_;simp only[av,bw,Y3] at g;rcases g with rfl|rfl|rfl
  .exact⟨_,cL bJ O,tF.int (d:=9997) fV⟩
  .exact⟨_,cL bJ O,tF.int (d:=9997) fV⟩
  exact⟨_,cL bJ O,tF.int (d:=9997) fV⟩
 .exact (ae9 _).iff ⟨λh=>Jc (P3.eq h.1 h.2.1 h.2.2.1) (P3.eq h.2.2.2.1 h.2.2.2.2.1 h.2.2.2.2.2.1) (P3.eq h.2.2.2.2.2.2.1 h.2.2.2.2.2.2.2.1 h.2.2.2.2.2.2.2.2),λh=>by subst h;simp only[X7]⟩
 simp[tr,Instr.sameBits]
def Ot{K:Type}[DecidableEq K](D:List (K×Bool))(a:List K):List (K×Bool):=a.foldl (λD k=>fL D k X9) D
def ajj[DecidableEq K](D:List (K×Bool))(a:List K)(k:K):Ot D (a++[k])=fL (Ot D a) k X9:=by unfold Ot;rw[jf];rfl
def Wg{K:Type}[DecidableEq K]:∀(b:List K) (D:List (K×Bool)) (a:K),bS (Ot D b) a=if a∈b then H X9 else bS D a
 | [],D,a=>by simp[Ot]
 |k::b,D,a=>by
  show bS (Ot (fL D k X9) b) a=_
  rw[Wg b,kH];by_cases h1:a∈b
  .rw[Z9 h1,Z9 (List.mem_cons_of_mem _ h1)]
  rw[K0 h1];by_cases h2:k=a
  .rw[Z9 h2,Z9 (by rw[h2];exact List.mem_cons_self ..)]
  rw[K0 h2,K0 (λh=>(av.1 h).elim (λe=>h2 e.symm) h1)]
def Js{K:Type}[DecidableEq K]:∀(a:List K) (D:List (K×Bool)),(D.map (·.1)).Nodup->((Ot D a).map (·.1)).Nodup
 | [],_,h=>h
 |k::a,D,h=>Js a _ (tD h k X9)
def adQ[DecidableEq K](c b:List K)(a:K):(bS (Ot (eE [] c) b) a).getD X9=decide (a∈c/\a∉b):=by
 rw[Wg];by_cases h:a∈b
 .rw[Z9 h,Y6 (λk=>k.2 h)];rfl
 rw[K0 h,mB,decide_eq_decide];exact⟨λk=>⟨k,h⟩,And.left⟩
def am8{i:Nat}(b:f[i]? = H t)(h:¬okP f c ms i t):mC f c ms=X9:=by
 cases a:mC f c ms with
 |false=>rfl
 |true=>exact Y0 ((Nw.1 a).1 i t b) h
def arv{x:T3}:((decide (¬(x.a.x=x.b.x/\x.a.y=x.b.y/\x.a.z=x.b.z))&&decide (¬(x.b.x=x.c.x/\x.b.y=x.c.y/\x.b.z=x.c.z)))&&decide (¬(x.c.x=x.a.x/\x.c.y=x.a.y/\x.c.z=x.a.z)))=x.nd:=by
 simp only[T3.nd,gZ,ne_eq]
def arw(a:(t.img ms).nd=Z){b:Bool}(h:(!(bS (Ot (eE [] (c.map F)) (sE ms (f.take k))) (F (t.img ms))).getD X9)=b):okP f c ms k t↔b=X9:=by
 rw[adQ] at h;rw[okP,a,Z9 rfl,<-h];simp
def arx(d:(t.img ms).nd=X9){b:Bool}(h:((!(bS (eE [] (pA c)) ((t.img ms).a,(t.img ms).b)).getD X9)||(!(bS (eE [] (pA c)) ((t.img ms).b,(t.img ms).c)).getD X9))=b):okP f c ms k t↔b=X9:=by
 rw[Gx,Gx] at h;rw[okP,d,K0 fh,<-h];simp
def aqa{es:Array cu}{a:List (T3×Bool)}(h:lU tr bj (Ot (eE [] (c.map F)) (sE ms f)) es sn a [])(g:∀y∈a,y.2=X9)(i:∀j t,f[j]? = H t->okP f c ms j t):mC f c ms=Z:=by
 refine Nw.2 ⟨i,λu d=>?_⟩;have k:=Js (sE ms f) _ (qN (c.map F) [] (by simp));have b:=Wg (sE ms f) (eE [] (c.map F)) (F u);refine Decidable.byContradiction λe=>?_;rw[K0 e,Le,Z9 (c_.2 ⟨u,d,rfl⟩)] at b;have:=g _ (h.done.mem_iff.2 (rW b));cases this
def am9{es:Array cu}{a rs:List (T3×Bool)}(h:lU tr bj (Ot (eE [] (c.map F)) (sE ms f)) es sn a rs){y:T3}(j:(y,Z)∈a):mC f c ms=X9:=by
 cases e:mC f c ms with
 |false=>rfl
 |true=>
  have g:=Js (sE ms f) _ (qN (c.map F) [] (by simp));have d:=lG g (h.1.mem_iff.1 (g_ _ j));have b:=adQ (c.map F) (sE ms f) y;rw[d] at b;obtain⟨h1,h2⟩:=Y9 b.symm;obtain⟨u,i,rfl⟩:=c_.1 h1;exact Y0 ((Nw.1 e).2 u i) h2
def atZ(h:f[k]? = H t)(a:(t.img ms).nd=Z):sE ms (f.take (k+1))=sE ms (f.take k)++[F (t.img ms)]:=by rw[Lh h,a];rfl
def at0(h:f[k]? = H t)(a:(t.img ms).nd=X9):sE ms (f.take (k+1))=sE ms (f.take k):=by rw[Lh h,a];simp
def ahu(b:f[k]? = H t)(h:okP f c ms k t)(d:∀i t,i<k->f[i]? = H t->okP f c ms i t):∀i t,i<k+1->f[i]? = H t->okP f c ms i t:=λi u e a=>by
 rcases d_ i k with h1|h1
 .exact d i u h1 a
 obtain rfl:i=k:=by omega
 obtain rfl:=fq (b.symm.trans a);exact h
def Wh{F G v8 R J:ak}{g1 q c:Nat}{es:Array cu}{D:List (P3×P3)}{p:P3}{ms:List Mv}(w:an)(e:fK w g1 [F,G,v8,R,.map (H q),J] 148)(b:gQ w q es c)(a:bC pt pt D es c)(d:∀p,(bS D p).getD p=mY ms p) :
 dF G1 155 [.pointer (H ⟨g1,0,G0⟩),pt p] w (λv _=>v=pt (mY ms p)):=(ap5 w e b a).mono λv w' _ h=>by rw[h,d]
def aqb{ao:Array cu}{D:List (P3×P3)}(w:an)(o:fK w g1 [.slice A N cap,.slice A2 N2 cap2,v8,R,.map (H q7),J] 148)(Y:cN w A N fs)(ad:cN w A2 N2 gs)(W:N<=300000)(aV:N2<=300000)(ab:gQ w q7 ao c7)(T:bC pt pt D ao c7)(al:∀p,(bS D p).getD p=mY ms p):dF G1 92 [.pointer (H ⟨g1,0,G0⟩)] w (λv _=>v=G (if mC fs gs ms=Z then 0 else 32)):=by
 refine⟨bK func92 (by kernel_rfl),?_⟩;have m:=Mem.refl w
 go_enter func92,ntmps92
 apply fD 6 [0] m;simp only[↓U];refine iB m ?_;intro Q u m;have d:=bC.nil (K:=T3) (V:=Bool) tr bj;apply aJ 8 [0] m;simp only[↓U,xG,aa];refine aS O ((o.ext m.ext).lies1 nZ O) ?_;simp only[I];apply aJ 4 [0] m;simp only[↓U,jL];refine bU [18] [5,19,20,21,22,23,24,25] (λn vs z=>∃(k:Nat)(es:Array cu)(s:Nat),vs=[G (k:Int)]/\Mem w z [mI Q es s]/\(bC tr bj (eE [] ((gs.take k).map F)) es s)/\(k<=N2)/\(n=N2-k)) ?_ ?_
 .exact⟨_,0,_,_,O,m,d,bu _,O⟩
 intro n vs wr x u K1 aM;obtain⟨k,L,q,rfl,m,d,hk,g⟩:=x;simp only[zu,zF,zG];apply aG 5 [0,0] m;simp only[↓U];refine bB O ?_ ?_<;>intro aY
 .obtain⟨t,j,_,a,rfl,am⟩:=ad.get (i:=k) (by omega);apply sO 9 [0,1,0] m;simp only[↓U,eO,mH,fJ,ai,aj,aa];refine⟨_,λu m=>((am.ext m.ext).lies dG bA),λg3=>⟨by omega,?_⟩⟩;intro u m;apply S 4 [1,0] m;simp only[↓U,fJ];refine nX m O O (On (t:=t)) ?_;intro u m;simp only[I];refine eP (ek:=tr) (en:=bj) (a:=F t) (v:=Z) m 1 O underlying199 am7 O O O d ?_;intro L q u m d;simp only[zF,zG] at m;apply aJ 6 [0] m;simp only[↓U];apply I0;omega;exact aM (N2-(k+1)) _ _ (by omega) (by kernel_rfl) ⟨k+1,_,_,O,(m.sel [X9,Z]),by rw[bV j,db,bm,df,jM];exact d,by omega,O⟩
 have aP:k=N2:=by omega
 rw[a_ (by rw[ad.len];omega)] at d;apply aG 6 [0] m;simp only[↓U,xG,aa];refine aS O ((o.ext m.ext).lies1 nZ O) ?_;simp only[I];refine aX O O (Vy _ (ad.ext m.ext) (by omega)) ?_;rintro v u e_ ⟨g9,aL,c9,rfl,hM,ap⟩;replace m:=m.plus hM;clear hM;simp only[de,cl] at m;apply aJ 8 [0] m;simp only[↓U,As,aa];refine aS O ((o.ext m.ext).lies1 nZ O) ?_;simp only[I];apply aJ 4 [0] m;simp only[↓U,jL];refine bU [36] [2,8,9,37,38,39,40,41,42,43,44,45,46,47,48,49,50,51,52,53,54,55,56,57,58,59,60,61,62,63,64,65,66,67,68,69,70,71,72,73,74,75,76,77,78,79,80,81,82,83,84,85,86,87,88,89,90,91,92,93,94,95,96,97,98] (λn vs z=>∃(k:Nat)(es:Array cu)(s:Nat),vs=[G (k:Int)]/\Mem w z [mI g9 aL c9,mI Q es s]/\(bC tr bj (Ot (eE [] (gs.map F)) (sE ms (fs.take k))) es s)/\(∀i t,i<k->fs[i]? = H t->okP fs gs ms i t)/\(k<=N)/\(n=N-k)) ?_ ?_
 .exact⟨_,0,_,_,O,m,d,λ_ _ h=>Y0 h (mg _),bu _,O⟩
 intro n vs wr x u K2 aq;obtain⟨k,L,q,rfl,m,d,af,hk,g⟩:=x;simp only[zu,zF,zG];apply aG 5 [0,0] m;simp only[↓U];refine bB O ?_ ?_<;>intro aZ
 .obtain⟨t,j,_,a,rfl,am⟩:=Y.get (i:=k) (by omega);apply sO 9 [0,1,0] m;simp only[↓U,eO,mH,fJ,ai,aj,aa];refine⟨_,λu m=>((am.ext m.ext).lies dG bA),λg3=>⟨by omega,?_⟩⟩;intro u m;apply S 2 [0] m;simp only[↓U];refine iF 14 [0,1,2,3,4,5,6,7,8,9,10,11,12] [⟨13,9,39,[G 0,G 0,G 0,G 0,G 0,G 0,G 0,G 0,G 0]⟩] aD (by kernel_rfl) (al1 ⟨_,_,_,O,by kernel_rfl,_,agP,O⟩) (ol:=?_) ?aQ ?_
  case aQ=>simp only[zw,zQ,zR];try rfl
  intro u e_;replace m:=m.ext' e_;refine fT aI (fT (aW fN aA O O (by decide) (by decide) O) ?_);simp only[I];refine iM O (λu e=>(((m.ext' e).b 0 O).lies aF aA O O)) ?_;simp only[I,zy,aj,aa,ah,ag];refine Ri O O (λu e=>Wh (p:=t.a) _ (o.ext (m.ext' e).ext) (ab.ext (m.ext' e).ext) T al) (fT aI (fT (aW fN aA O O (by decide) (by decide) O) ?_));simp only[I];refine iM O (λu e=>(((m.ext' e).b 0 O).lies aF aA O O)) ?_;simp only[I,zy,aj,aa,ah,ag];refine Ri O O (λu e=>Wh (p:=t.b) _ (o.ext (m.ext' e).ext) (ab.ext (m.ext' e).ext) T al) (fT aI (fT (aW fN aA O O (by decide) (by decide) O) ?_));simp only[I];refine iM O (λu e=>(((m.ext' e).b 0 O).lies aF aA O O)) ?_;simp only[I,zy,aj,aa,ah,ag];refine Ri O O (λu e=>Wh (p:=t.c) _ (o.ext (m.ext' e).ext) (ab.ext (m.ext' e).ext) T al) (fT (eW O O O) (Pp ?_));simp only[I];refine mf1 m ?_;intro g4 u m;simp only[zJ,zK,zF,zG];refine cB m 0 O O O bA (X O) O ?_;intro u m;simp only[zy,zx,bR,zF,zG,aa] at m;refine E ?_;apply S 10 [1,1,6,1,1] m;simp only[↓U,l,aN,ag,ah,aa];refine⟨_,lO,_,lO,λ_=>⟨by omega,?_⟩⟩;apply S 3 [6,1,1,0] m;simp only[↓U,l,aN,ag,ah,aa];refine⟨_,lO,λ_=>⟨by omega,?_⟩⟩;refine cQ O ?_ ?_<;>intro au
  .have g:(t.img ms).nd=Z:=arv.symm.trans au;apply aG 3 [1,0] m;simp only[↓U,fJ];refine tK m O O (On (t:=t.img ms)) 7 [0,1,0] ?_;simp only[↓U,fJ,aa];intro u m;refine eB (dA (ek:=tr) (en:=bj) (k:=F (t.img ms)) (v0:=X9) underlying199 iN am7 O O (m.p 3 O) d) ?_;simp only[I];apply aJ 2 [0] m;simp only[↓U];refine cQ O ?_ ?_<;>intro av
   .have M:=am8 j (mt (arw g av).1 (by decide));apply aG 5 [] m;simp only[↓U];refine aU O O ?_;try simp only[zD,zE]
    exact⟨_,O,m.ext,by rw[K0 (by rw[M];exact fh)]⟩
   have ae:=ahu j ((arw g av).2 rfl) af;apply aG 5 [1,0] m;simp only[↓U,fJ];refine eP (ek:=tr) (en:=bj) (a:=F (t.img ms)) (v:=X9) m 3 O underlying199 am7 O O O d ?_;intro L q u m d;simp only[zF,zG] at m;apply aJ 6 [0] m;simp only[↓U];apply I0;omega;exact aq (N-(k+1)) _ _ (by omega) (by kernel_rfl) ⟨k+1,_,_,O,(m.sel [X9,X9,Z,Z]),by rw[atZ j g,ajj];exact d,ae,by omega,O⟩
  have g:(t.img ms).nd=X9:=arv.symm.trans au;apply aG 9 [1,1] m;simp only[↓U,l,aN,pU,ag,ah,aa];apply I0;omega;refine go (eB (dA (ek:=ed) (en:=bj) (k:=((t.img ms).a,(t.img ms).b)) (v0:=X9) tU iN pV O O (m.p 2 O) ap) ?_);simp only[I];apply aJ 2 [0] m;simp only[↓U];refine gM O (λf=>aI) (gM O (λf=>aW fN aA O O (by decide) (by decide) O) ?_);simp only[I];refine lX O (λf=>bE (B f O) ((m.b 0 O).lies aF aA O O)) ?_;simp only[I,zy,aj,aa,ah,ag];refine gM O (λf=>aW fN aA O O (by decide) (by decide) O) ?_;simp only[I];refine lX O (λf=>bE (B f O) ((m.b 0 O).lies aF aA O O)) ?_;simp only[I,zy,aj,aa,ah,ag];refine gM O (λf=>Tq (avV f O O) (avV f O O)) ?_;simp only[I];refine lX O (λf=>dA (ek:=ed) (en:=bj) (k:=((t.img ms).b,(t.img ms).c)) (v0:=X9) tU iN pV (B f O) (B f O) (m.p 2 O) ap) ?_;simp only[I];refine gM O (λf=>lB (B f O)) (C (gY O O O) ?_);apply aJ 1 [0] m;simp only[↓U];refine cQ O ?_ ?_<;>intro aw
  .have M:=am8 j (mt (arx g aw).1 (by decide));apply aG 5 [] m;simp only[↓U];refine aU O O ?_;try simp only[zD,zE]
   exact⟨_,O,m.ext,by rw[K0 (by rw[M];exact fh)]⟩
  have ae:=ahu j ((arx g aw).2 rfl) af;apply aG 6 [0] m;simp only[↓U];apply I0;omega;exact aq (N-(k+1)) _ _ (by omega) (by kernel_rfl) ⟨k+1,_,_,O,(m.sel [X9,X9,Z,Z]),by rw[at0 j g];exact d,ae,by omega,O⟩
 have aP:k=N:=by omega
 rw[a_ (by rw[Y.len];omega)] at d;have aR:∀i t,fs[i]? = H t->okP fs gs ms i t:=λi t j=>af i t (by have:=(az.1 j).1;rw[Y.len] at this;omega) j;apply aG 5 [0] m;simp only[↓U];refine tE m underlying199 O (m.p 1 O) ?_;intro r1 u m;apply aJ 2 [0] m;simp only[↓U];refine bU [] [2,11,101,102,103,104,105] (λn vs z=>∃(P rs:List (T3×Bool)) (sn:Array Nat),vs=[]/\Mem w z [iI r1 Q q sn,mI Q L q]/\(lU tr bj (Ot (eE [] (gs.map F)) (sE ms fs)) L sn P rs)/\(∀y∈P,y.2=X9)/\(n=rs.length)) ?_ ?_
 .exact⟨_,[],_,#[],rfl,(m.sel [Z,X9,Z]),lU.start d,λ_ h=>(by cases h),rfl⟩
 intro n vs wr x u K3 aO;obtain⟨P,rs,sn,rfl,m,ar,aE,g⟩:=x;simp only[zu,zF,zG];apply aG 2 [0] m;simp only[↓U];refine Er m 0 O O (m.p 1 O) d ar ?_;intro bb kk vv sn u m W;simp only[zF,zG] at m;refine C (nS O) ?_;apply aJ 2 [0] m;simp only[↓U];refine cQ O ?_ ?_<;>intro ax
 .obtain⟨kp,kb,aK,hp,ak⟩:=Dd ax W;apply aG 4 [0] m;simp only[↓U];refine eB (pY O (m.r 0 O) (m.p 1 O) d ak) ?_;simp only[I];apply aJ 7 [0] m;simp only[↓U];refine cQ O ?_ ?_<;>intro ay
  .have M:=am9 ak (y:=kp) (by rw[<-ay];simp);apply aG 5 [] m;simp only[↓U];refine aU O O ?_;try simp only[zD,zE]
   exact⟨_,O,m.ext,by rw[K0 (by rw[M];exact fh)]⟩
  skip
  apply aG 2 [0] m;simp only[↓U];exact aO aK.length _ _ (by rw[g,hp.length_eq];exact fu _) (by kernel_rfl) ⟨P++[(kp,kb)],aK,_,rfl,m,ak,λy hy=>(bv.1 hy).elim (aE y) λhy=>by obtain rfl:=bp.1 hy;exact ay,O⟩
 obtain rfl:=Db ax W;apply aG 6 [] m;simp only[↓U];refine aU O O ?_;try simp only[zD,zE]
 exact⟨_,O,m.ext,by rw[Z9 (aqa ar aE aR)]⟩
def nH{os:List Nat}{x:Nat}:os.map uX++[G (x:Int)]=(os++[x]).map uX:=by simp[uX]
def Wi{S:List (Option Nat)}{E:bh}{n:Nat}{os:List Nat}(h:Ow w0 w S E 1 A n cap (os.map uX))(d:n=os.length)(b:cX 65536 os)(c:n<=17592186044416):dT w w.heap.size A n cap os/\∀a,A=H a->w0.heap.size<=a.block:=by
 obtain⟨_,_,e,r⟩:=dT.of_owns (show zY w w0.heap.size E 1 (.slice A n cap) n _ from h.own) d b c;cases e;exact r
def tW{b:Nat}(w:an)(c:dT w b A na cap xs):dF G1 296 [.slice A na cap] w (λv _=>v=.slice A (trim xs).length cap):=by
 refine⟨bK func296 (by kernel_rfl),?_⟩;have m:=Mem.refl w;obtain rfl:=c.eq;have p:=c.len;have s:=c.le;have r:=c.cap
 go_enter func296,ntmps296
 apply fD 6 [0] m;simp only[↓U];refine bU [0] [3,4,5,6,7,8,9,10,11,12,13,14,15,16,17,18,19] (λn vs h=>∃(k:Nat),vs=[.slice A k cap]/\Mem w h []/\(k<=xs.length)/\(trim (xs.take k)=trim xs)/\(n=k)) ?_ ?_
 .exact⟨_,xs.length,O,m,ba _,by rw[fe],O⟩
 intro n vs wr g u l i;obtain⟨k,rfl,m,o,d,q⟩:=g;simp only[zu,zF,zG];apply aG 2 [] m;simp only[↓U];by_cases f:0<k
 .obtain⟨a,rfl,j,t⟩:=c.get (show k-1<xs.length by omega);apply S 9 [1,0,0,0,0,0] m;simp only[↓U,lS];apply I0;omega;refine gE O (C (aP dS bL O O (by omega) (by omega) (oW (show _=k-1 by omega))) ?_);apply aJ 4 [0,0,2,0,0,0] m;simp only[↓U];refine⟨_,λu m=>(lies1 (m.ext.cell j) bJ),?_⟩;refine bB O ?_ ?_<;>intro e
  .apply aG 7 [0] m;simp only[↓U,lS];apply I0;omega;refine C (lY dS bL O O (show _=k-1 by omega) (by omega) (by omega)) ?_;apply aJ 3 [0] m;simp only[↓U];exact i (k-1) _ _ (by omega) (by kernel_rfl) ⟨k-1,O,m,by omega,Yv f (by omega) e d,O⟩
  apply aG 7 [] m;simp only[↓U];refine aU O O ?_;try simp only[zD,zE]
  exact⟨_,O,m.ext,by rw[<-acC f (by omega) e d]⟩
 obtain rfl:k=0:=by omega
 apply S 22 [2,0,0,0,0,0,0,0] m;simp only[↓U,lS];apply I0;omega;refine aU O O ?_;try simp only[zD,zE]
 exact⟨_,O,m.ext,by rw[<-acD d]⟩
def Au{B:Option Addr}{b h:Nat}(w:an)(d:dT w b A na ca xs)(c:dT w h B nb cb ys)(l:gC xs)(ty:gC ys):dF G1 283 [.slice A na ca,.slice B nb cb] w (λv _=>v=G (ord (val 65536 xs) (val 65536 ys))):=by
 refine⟨bK func283 (by kernel_rfl),?_⟩;have m:=Mem.refl w;obtain rfl:=d.eq;obtain rfl:=c.eq;have t:=d.len;have E:=c.len
 go_enter func283,ntmps283
 apply fD 13 [0,0] m;simp only[↓U,lS];refine bB O ?_ ?_<;>intro y
 .apply aG 9 [0,0] m;simp only[↓U,lS];refine bB O ?_ ?_<;>intro z
  .apply aG 5 [] m;simp only[↓U];refine aU O O ?_;try simp only[zD,zE]
   exact⟨_,O,m.ext,by rw[ord,Z9 (lZ (by omega) d.digs c.digs ty (by omega))]⟩
  apply aG 6 [] m;simp only[↓U];refine aU O O ?_;try simp only[zD,zE]
  exact⟨_,O,m.ext,by have:=lZ (B:=65536) (by omega) c.digs d.digs l (by omega);rw[ord,K0 (by omega),Z9 this]⟩
 apply aG 10 [0] m;simp only[↓U,lS];apply I0;omega;refine bU [5] [4,19,20,21,22,23,24,25,26,27,28,29,30,31,32,33,34,35,36,37,38,39,40] (λn vs o=>∃(k:Nat),vs=[G ((k:Int)-1)]/\Mem w o []/\(k<=xs.length)/\(xs.drop k=ys.drop k)/\(n=k)) ?_ ?_
 .exact⟨_,xs.length,O,m,ba _,by rw[lk,show xs.length=ys.length by omega,lk],O⟩
 intro n vs wr j u r p;obtain⟨k,rfl,m,s,e,x⟩:=j;simp only[zu,zF,zG];apply aG 6 [0,0] m;simp only[↓U];refine bB O ?_ ?_<;>intro C
 .apply aG 4 [] m;simp only[↓U];obtain⟨a,rfl,f,_⟩:=d.get (show k-1<xs.length by omega);obtain⟨b,rfl,g,_⟩:=c.get (show k-1<ys.length by omega);refine gc (mq m aD (by kernel_rfl) (L aI (L aI ?_)));simp only[I];refine L (aP dS bL O O (by omega) (by omega) (oW (show _=k-1 by omega))) (fE 3 [0,2] ?_);simp only[↓U];refine⟨_,λu m=>(lies1 (m.ext.cell f) bJ),?_⟩;refine L (aP dS bL O O (by omega) (by omega) (oW (show _=k-1 by omega))) ?_;simp only[I];refine ql O (λu m=>(lies1 (m.ext.cell g) bJ)) ?_;simp only[I];refine L (sT O O) (bM ?_);intro u m;refine gc ?_;simp only[I];refine bB O ?_ ?_<;>intro D
  .apply aG 2 [] m;simp only[↓U];have f:=d.at (show k-1<xs.length by omega);have g:=c.at (show k-1<ys.length by omega);refine gc (mq m aD (by kernel_rfl) (L aI (L aI ?_)));simp only[I];refine L (aP dS bL O O (by omega) (by omega) (oW (show _=k-1 by omega))) (fE 3 [0,2] ?_);simp only[↓U];refine⟨_,λu m=>(lies1 (m.ext.cell f) bJ),?_⟩;refine L (aP dS bL O O (by omega) (by omega) (oW (show _=k-1 by omega))) ?_;simp only[I];refine ql O (λu m=>(lies1 (m.ext.cell g) bJ)) ?_;simp only[I];refine L (Cx O O) (bM ?_);intro u m;refine gc ?_;simp only[I];refine bB O ?_ ?_<;>intro q
   .apply aG 5 [] m;simp only[↓U];refine aU O O ?_;try simp only[zD,zE]
    exact⟨_,O,m.ext,by rw[ord,Z9 (adr d.digs (by omega) (by omega) (by omega) e q)]⟩
   apply aG 6 [] m;simp only[↓U];refine aU O O ?_;try simp only[zD,zE]
   exact⟨_,O,m.ext,by have:=adr c.digs (by omega) (by omega) (by omega) e.symm (by omega);rw[ord,K0 (by omega),Z9 this]⟩
  apply aG 7 [0] m;simp only[↓U];apply I0;omega;rw[show ((k:Int)-1-1)=((k-1:Nat):Int)-1 by omega];exact p (k-1) _ _ (by omega) (by kernel_rfl) ⟨k-1,O,m,by omega,alI (by omega) (by omega) (by omega) e (by omega),O⟩
 apply aG 6 [] m;simp only[↓U];refine aU O O ?_;try simp only[zD,zE]
 exact⟨_,O,m.ext,by have i:k=0:=(by omega);subst i;simp only[lv] at e;rw[e,ord,K0 (by omega),K0 (by omega)]⟩
def at1{B:Option Addr}(w:an)(L:dT w w.heap.size A na ca xs)(F:dT w w.heap.size B nb cb ys)(af:xs.length<=1000000000000)(ag:ys.length<=1000000000000):dF G1 282 [.slice A na ca,.slice B nb cb] w (asP (val 65536 xs+val 65536 ys) (max xs.length ys.length+1)):=by
 refine⟨bK func282 (by kernel_rfl),?_⟩;have m:=Mem.refl w;obtain rfl:=L.eq;obtain rfl:=F.eq;obtain⟨M,W⟩:∃M,M=max xs.length ys.length:=⟨_,rfl⟩
 rw[<-W]
 go_enter func282,ntmps282
 apply fD 6 [0] m;simp only[↓U];refine C aK ?_;replace m:=m.nilO 3 1;apply aJ 11 [0] m;simp only[↓U];refine bU [5,6,7] [8,9,10,11,12,13,14,15,16,17,18,19,20,21,22,23,24,25,26,27,28,29,30,31,32,33,34,35,36,37,38,39,40,41,42,43,44,45,46,47,48,49,50,51,52] (λn vs X=>∃(i c:Nat)(os:List Nat)(f:Option Addr)(g:Nat),vs=[.slice f i g,G (c:Int),G (i:Int)]/\Mem w X [oI 3 1 f i g (os.map uX)]/\(os.length=i)/\(val 65536 os+65536^i*c=val 65536 (xs.take i)+val 65536 (ys.take i))/\(cX 65536 os)/\(c<=1)/\(i<=M+1)/\(i=M+1->c=0)/\(n=M+1-i)) ?_ ?_
 .exact⟨_,0,0,[],G0,0,O,m,O,by simp[val],nB _,by omega,by omega,λ_=>rfl,O⟩
 intro n vs wr V u K1 E;obtain⟨i,c,os,f,g,rfl,m,x,v,y,hc,hi,ad,hn⟩:=V;simp only[zu,zF,zG];apply aG 2 [] m;simp only[↓U];rcases (show i<xs.length\/(¬i<xs.length/\i<ys.length)\/(¬i<xs.length/\¬i<ys.length/\0<c)\/(¬i<xs.length/\¬i<ys.length/\c=0) by omega) with H|⟨H,Q⟩|⟨H,Q,ah⟩|⟨H,Q,rfl⟩
 .apply S 34 [1,0,0,0,0,0,0,1] m;simp only[↓U,lS];apply I0;omega;obtain⟨a,rfl,Y,ae⟩:=L.get (show i<xs.length by omega);apply S 9 [0,2] m;simp only[↓U,Qg,ai,aj,eo];refine⟨_,λu m=>(lies1 (m.ext.cell Y) bJ),by omega,?_⟩;obtain⟨d,t⟩:∃d:Nat,d=c+xs[i]:=⟨_,rfl⟩
  rw[show ((c:Int)+(xs[i]:Int))=(d:Int) by omega];have N:d=c+xs[i]?.getD 0:=by rw[ap (by omega)];exact t
  have P:d<65537:=by omega
  apply S 8 [0,0] m;simp only[↓U,lS];refine bB O ?_ ?_<;>intro ab
  .obtain⟨R,rfl,J,aa⟩:=F.get (show i<ys.length by omega);apply aG 9 [0,2] m;simp only[↓U,Qg,ai,aj,eo];refine⟨_,λu m=>(lies1 (m.ext.cell J) bJ),by omega,?_⟩;obtain⟨s,D⟩:∃s:Nat,s=d+ys[i]:=⟨_,rfl⟩
   rw[show ((d:Int)+(ys[i]:Int))=(s:Int) by omega];have e:s=c+xs[i]?.getD 0+ys[i]?.getD 0:=by rw[ap (l:=ys) (by omega)];simp only[dt];omega
   have K:s<131072:=by omega
   apply S 4 [0] m;simp only[↓U];refine C (cW O O (by omega) (oN (n:=65536))) ?_;simp only[I];refine fR dS (z:=G 0) (by kernel_rfl) O O O ?_;intro u g1 j k p;replace m:=m.newB j k p;simp only[I];refine bW m 1 O O dS nR O (by decide) O O O (m.b 0 O).rowsO (jB O) (by omega) (by omega) ?_;intro f g u m;simp only[zF,zG] at m;simp only[zA,zB,zC,zD,zE,nH] at m;apply aJ 4 [0] m;simp only[↓U];refine C (iO O O (by omega) (oO (n:=65536) (by omega))) ?_;apply aJ 8 [0] m;simp only[↓U];apply I0;omega;obtain⟨q,r⟩:=By x v y e;rw[show ((i:Int)+1)=((i+1:Nat):Int) by omega];exact E (M+1-(i+1)) _ _ (by omega) (by kernel_rfl) ⟨i+1,s / 65536,os++[s%65536],f,g,O,(m.sel [X9,Z]),by simp;omega,q,r,by omega,by omega,λh=>by rw[da (l:=xs) (by omega),da (l:=ys) (by omega)] at e;simp at e;omega,rfl⟩
  obtain⟨s,D⟩:∃s:Nat,s=d:=⟨_,rfl⟩
  rw[<-D];have e:s=c+xs[i]?.getD 0+ys[i]?.getD 0:=by rw[da (l:=ys) (by omega)];simp only[og];omega
  have K:s<131072:=by omega
  apply aG 5 [0] m;simp only[↓U];refine C (cW O O (by omega) (oN (n:=65536))) ?_;simp only[I];refine fR dS (z:=G 0) (by kernel_rfl) O O O ?_;intro u g1 j k p;replace m:=m.newB j k p;simp only[I];refine bW m 1 O O dS nR O (by decide) O O O (m.b 0 O).rowsO (jB O) (by omega) (by omega) ?_;intro f g u m;simp only[zF,zG] at m;simp only[zA,zB,zC,zD,zE,nH] at m;apply aJ 4 [0] m;simp only[↓U];refine C (iO O O (by omega) (oO (n:=65536) (by omega))) ?_;apply aJ 8 [0] m;simp only[↓U];apply I0;omega;obtain⟨q,r⟩:=By x v y e;rw[show ((i:Int)+1)=((i+1:Nat):Int) by omega];exact E (M+1-(i+1)) _ _ (by omega) (by kernel_rfl) ⟨i+1,s / 65536,os++[s%65536],f,g,O,(m.sel [X9,Z]),by simp;omega,q,r,by omega,by omega,λh=>by rw[da (l:=xs) (by omega),da (l:=ys) (by omega)] at e;simp at e;omega,rfl⟩
 .apply S 25 [2,0,0,0,0,1,0,0] m;simp only[↓U,lS];apply I0;omega;obtain⟨d,t⟩:∃d:Nat,d=c:=⟨_,rfl⟩
  rw[<-t];have N:d=c+xs[i]?.getD 0:=by rw[da (by omega)];exact t
  have P:d<65537:=by omega
  apply S 19 [2,1] m;simp only[↓U,lS];apply I0;omega;obtain⟨R,rfl,J,aa⟩:=F.get (show i<ys.length by omega);apply S 9 [0,2] m;simp only[↓U,Qg,ai,aj,eo];refine⟨_,λu m=>(lies1 (m.ext.cell J) bJ),by omega,?_⟩;obtain⟨s,D⟩:∃s:Nat,s=d+ys[i]:=⟨_,rfl⟩
  rw[show ((d:Int)+(ys[i]:Int))=(s:Int) by omega];have e:s=c+xs[i]?.getD 0+ys[i]?.getD 0:=by rw[ap (l:=ys) (by omega)];simp only[dt];omega
  have K:s<131072:=by omega
  apply S 4 [0] m;simp only[↓U];refine C (cW O O (by omega) (oN (n:=65536))) ?_;simp only[I];refine fR dS (z:=G 0) (by kernel_rfl) O O O ?_;intro u g1 j k p;replace m:=m.newB j k p;simp only[I];refine bW m 1 O O dS nR O (by decide) O O O (m.b 0 O).rowsO (jB O) (by omega) (by omega) ?_;intro f g u m;simp only[zF,zG] at m;simp only[zA,zB,zC,zD,zE,nH] at m;apply aJ 4 [0] m;simp only[↓U];refine C (iO O O (by omega) (oO (n:=65536) (by omega))) ?_;apply aJ 8 [0] m;simp only[↓U];apply I0;omega;obtain⟨q,r⟩:=By x v y e;rw[show ((i:Int)+1)=((i+1:Nat):Int) by omega];exact E (M+1-(i+1)) _ _ (by omega) (by kernel_rfl) ⟨i+1,s / 65536,os++[s%65536],f,g,O,(m.sel [X9,Z]),by simp;omega,q,r,by omega,by omega,λh=>by rw[da (l:=xs) (by omega),da (l:=ys) (by omega)] at e;simp at e;omega,rfl⟩
 .apply S 25 [2,0,0,0,0,2,0,0,1] m;simp only[↓U,lS];apply I0;omega;obtain⟨d,t⟩:∃d:Nat,d=c:=⟨_,rfl⟩
  rw[<-t];have N:d=c+xs[i]?.getD 0:=by rw[da (by omega)];exact t
  have P:d<65537:=by omega
  apply S 21 [2,2] m;simp only[↓U,lS];apply I0;omega;obtain⟨s,D⟩:∃s:Nat,s=d:=⟨_,rfl⟩
  rw[<-D];have e:s=c+xs[i]?.getD 0+ys[i]?.getD 0:=by rw[da (l:=ys) (by omega)];simp only[og];omega
  have K:s<131072:=by omega
  apply S 3 [0] m;simp only[↓U];refine C (cW O O (by omega) (oN (n:=65536))) ?_;simp only[I];refine fR dS (z:=G 0) (by kernel_rfl) O O O ?_;intro u g1 j k p;replace m:=m.newB j k p;simp only[I];refine bW m 1 O O dS nR O (by decide) O O O (m.b 0 O).rowsO (jB O) (by omega) (by omega) ?_;intro f g u m;simp only[zF,zG] at m;simp only[zA,zB,zC,zD,zE,nH] at m;apply aJ 4 [0] m;simp only[↓U];refine C (iO O O (by omega) (oO (n:=65536) (by omega))) ?_;apply aJ 8 [0] m;simp only[↓U];apply I0;omega;obtain⟨q,r⟩:=By x v y e;rw[show ((i:Int)+1)=((i+1:Nat):Int) by omega];exact E (M+1-(i+1)) _ _ (by omega) (by kernel_rfl) ⟨i+1,s / 65536,os++[s%65536],f,g,O,(m.sel [X9,Z]),by simp;omega,q,r,by omega,by omega,λh=>by rw[da (l:=xs) (by omega),da (l:=ys) (by omega)] at e;simp at e;omega,rfl⟩
 apply S 24 [2,0,0,0,0,2,0,0,2] m;simp only[↓U,lS];apply I0;omega;refine aU O O ?_;try simp only[zD,zE]
 obtain⟨T,_⟩:=Wi (m.o 0 rfl) x.symm y (by omega);obtain rfl:=x;exact⟨_,O,m.ext,f,g,os,O,T,by rw[a_ (by omega),a_ (by omega)] at v;simpa using v,by omega⟩
def ahv{B:Option Addr}(w:an)(K:dT w w.heap.size A na ca xs)(J:dT w w.heap.size B nb cb ys)(W:ys.length<=xs.length)(V:val 65536 ys<=val 65536 xs)(af:xs.length<=1000000000000):dF G1 284 [.slice A na ca,.slice B nb cb] w (λv w'=>yQ (val 65536 xs-val 65536 ys) v w'/\zZ w v):=by
 refine⟨bK func284 (by kernel_rfl),?_⟩;have m:=Mem.refl w;obtain rfl:=K.eq;obtain rfl:=J.eq
 go_enter func284,ntmps284
 apply fD 6 [0] m;simp only[↓U];refine C aK ?_;replace m:=m.nilO 3 1;apply aJ 11 [0] m;simp only[↓U];refine bU [5,6,7] [8,9,10,11,12,13,14,15,16,17,18,19,20,21,22,23,24,25,26,27,28,29,30,31,32,33,34,35,36,37,38] (λn vs M=>∃(i c:Nat)(os:List Nat)(d:Option Addr)(f:Nat),vs=[.slice d i f,G (c:Int),G (i:Int)]/\Mem w M [oI 3 1 d i f (os.map uX)]/\(os.length=i)/\(val 65536 os+val 65536 (ys.take i)=val 65536 (xs.take i)+65536^i*c)/\(cX 65536 os)/\(c<=1)/\(i<=xs.length)/\(n=xs.length-i)) ?_ ?_
 .exact⟨_,0,0,[],G0,0,O,m,O,by simp[val],nB _,by omega,by omega,O⟩
 intro n vs wr L u X H;obtain⟨i,c,os,d,f,rfl,m,y,D,x,hc,hi,hn⟩:=L;simp only[zu,zF,zG];apply aG 8 [0,0] m;simp only[↓U,lS];refine bB O ?_ ?_<;>intro aa
 .apply aG 4 [] m;simp only[↓U];obtain⟨a,rfl,Q,ad⟩:=K.get (show i<xs.length by omega);have ag:ys[i]?.getD 0<65536:=by
   rcases d_ i ys.length with h|h
   .rw[ap h];exact J.lt h
   rw[da h];decide
  apply S 17 [0,2,0,0] m;simp only[↓U,Qg,lS,ai,aj,eo];refine⟨_,λu m=>(lies1 (m.ext.cell Q) bJ),by omega,?_⟩;refine bB O ?_ ?_<;>intro ab
  .obtain⟨Y,rfl,R,ae⟩:=J.get (show i<ys.length by omega);apply aG 9 [0,2] m;simp only[↓U,Qg,ai,aj,eo];refine⟨_,λu m=>(lies1 (m.ext.cell R) bJ),by omega,?_⟩;obtain⟨e,F⟩:∃e:Int,e=(xs[i]:Int)-(c:Int)-(ys[i]:Int):=⟨_,rfl⟩
   rw[<-F];have T:e=(xs[i]:Int)-(c:Int)-((ys[i]?.getD 0:Nat):Int):=by rw[ap (by omega)];exact F
   apply S 10 [0,0] m;simp only[↓U];refine bB O ?_ ?_<;>intro P
   .obtain⟨s,k⟩:∃s:Nat,(s:Int)=e+65536:=⟨(e+65536).toNat,by omega⟩
    have r:s+ys[i]?.getD 0+c=xs[i]+65536*1:=by omega
    have t:s<65536:=by omega
    apply aG 4 [] m;simp only[↓U];apply I0;omega;rw[<-k];apply S 8 [0] m;simp only[↓U];refine fR dS (z:=G 0) (by kernel_rfl) O O O ?_;intro u g1 g j l;replace m:=m.newB g j l;simp only[I];refine bW m 1 O O dS nR O (by decide) O O O (m.b 0 O).rowsO (jB O) (by omega) (by omega) ?_;intro d f u m;simp only[zF,zG] at m;simp only[zA,zB,zC,zD,zE,nH] at m;apply aJ 8 [0] m;simp only[↓U];apply I0;omega;obtain⟨p,q⟩:=xX (by omega) y D x r t;rw[show ((i:Int)+1)=((i+1:Nat):Int) by omega];exact H (xs.length-(i+1)) _ _ (by omega) (by kernel_rfl) ⟨i+1,1,os++[s],d,f,O,(m.sel [X9,Z]),by simp;omega,p,q,by omega,by omega,rfl⟩
   obtain⟨s,k⟩:∃s:Nat,(s:Int)=e:=⟨e.toNat,by omega⟩
   rw[<-k];have r:s+ys[i]?.getD 0+c=xs[i]+65536*0:=by omega
   have t:s<65536:=by omega
   apply aG 4 [0] m;simp only[↓U];refine fR dS (z:=G 0) (by kernel_rfl) O O O ?_;intro u g1 g j l;replace m:=m.newB g j l;simp only[I];refine bW m 1 O O dS nR O (by decide) O O O (m.b 0 O).rowsO (jB O) (by omega) (by omega) ?_;intro d f u m;simp only[zF,zG] at m;simp only[zA,zB,zC,zD,zE,nH] at m;apply aJ 8 [0] m;simp only[↓U];apply I0;omega;obtain⟨p,q⟩:=xX (by omega) y D x r t;rw[show ((i:Int)+1)=((i+1:Nat):Int) by omega];exact H (xs.length-(i+1)) _ _ (by omega) (by kernel_rfl) ⟨i+1,0,os++[s],d,f,O,(m.sel [X9,Z]),by simp;omega,p,q,by omega,by omega,rfl⟩
  obtain⟨e,F⟩:∃e:Int,e=(xs[i]:Int)-(c:Int):=⟨_,rfl⟩
  rw[<-F];have T:e=(xs[i]:Int)-(c:Int)-((ys[i]?.getD 0:Nat):Int):=by rw[da (by omega)];simp only[og];omega
  apply aG 11 [0,0] m;simp only[↓U];refine bB O ?_ ?_<;>intro P
  .obtain⟨s,k⟩:∃s:Nat,(s:Int)=e+65536:=⟨(e+65536).toNat,by omega⟩
   have r:s+ys[i]?.getD 0+c=xs[i]+65536*1:=by omega
   have t:s<65536:=by omega
   apply aG 4 [] m;simp only[↓U];apply I0;omega;rw[<-k];apply S 8 [0] m;simp only[↓U];refine fR dS (z:=G 0) (by kernel_rfl) O O O ?_;intro u g1 g j l;replace m:=m.newB g j l;simp only[I];refine bW m 1 O O dS nR O (by decide) O O O (m.b 0 O).rowsO (jB O) (by omega) (by omega) ?_;intro d f u m;simp only[zF,zG] at m;simp only[zA,zB,zC,zD,zE,nH] at m;apply aJ 8 [0] m;simp only[↓U];apply I0;omega;obtain⟨p,q⟩:=xX (by omega) y D x r t;rw[show ((i:Int)+1)=((i+1:Nat):Int) by omega];exact H (xs.length-(i+1)) _ _ (by omega) (by kernel_rfl) ⟨i+1,1,os++[s],d,f,O,(m.sel [X9,Z]),by simp;omega,p,q,by omega,by omega,rfl⟩
  obtain⟨s,k⟩:∃s:Nat,(s:Int)=e:=⟨e.toNat,by omega⟩
  rw[<-k];have r:s+ys[i]?.getD 0+c=xs[i]+65536*0:=by omega
  have t:s<65536:=by omega
  apply aG 4 [0] m;simp only[↓U];refine fR dS (z:=G 0) (by kernel_rfl) O O O ?_;intro u g1 g j l;replace m:=m.newB g j l;simp only[I];refine bW m 1 O O dS nR O (by decide) O O O (m.b 0 O).rowsO (jB O) (by omega) (by omega) ?_;intro d f u m;simp only[zF,zG] at m;simp only[zA,zB,zC,zD,zE,nH] at m;apply aJ 8 [0] m;simp only[↓U];apply I0;omega;obtain⟨p,q⟩:=xX (by omega) y D x r t;rw[show ((i:Int)+1)=((i+1:Nat):Int) by omega];exact H (xs.length-(i+1)) _ _ (by omega) (by kernel_rfl) ⟨i+1,0,os++[s],d,f,O,(m.sel [X9,Z]),by simp;omega,p,q,by omega,by omega,rfl⟩
 apply aG 2 [] m;simp only[↓U];obtain rfl:i=xs.length:=by omega
 obtain⟨E,N⟩:=Wi (m.o 0 rfl) y.symm x (by omega);apply S 2 [0] m;simp only[↓U];refine aX O O (tW _ E) ?_;rintro v u g rfl;replace m:=m.ext' g;replace E:=E.ext g;apply aJ 3 [] m;simp only[↓U];exact aU rfl rfl ⟨_,rfl,m.ext,yQ.of_trim E (aiQ W y x D V),λa n c e=>by cases e;exact N _ O⟩
def Ly{B:Option Addr}(w:an)(p:dT w w.heap.size A na ca xs)(o:dT w w.heap.size B nb cb ys)(ab:xs.length<=1000000000000)(ad:ys.length<=1000000000000):dF G1 295 [.slice A na ca,.slice B nb cb] w (λv w'=>yQ (val 65536 xs*val 65536 ys) v w'/\zZ w v):=by
 refine⟨bK func295 (by kernel_rfl),?_⟩;have m:=Mem.refl w;obtain rfl:=p.eq;obtain rfl:=o.eq
 go_enter func295,ntmps295
 apply fD 11 [0] m;simp only[↓U,lS];apply I0;omega;refine lD dS nR O O O (show _=xs.length+ys.length by omega) (show _=xs.length+ys.length by omega) (by omega) (by omega) (by omega) (by omega) ?_;intro u g1 D E H;replace m:=m.newB D E H;apply aJ 2 [] m;simp only[↓U];rw[pR] at m;apply S 6 [0] m;simp only[↓U];refine bU [6] [7,8,9,16,17,18,19,20,21,22,23,24,25,26,27,28,29,30,31,32,33,34,35,36,37,38,39,40,41,42,43,44,45,46,47,48,49,50,51,52,53,54,55,56,57,58,59,60,61] (λn vs l=>∃(i:Nat)(os:List Nat),vs=[G (i:Int)]/\Mem w l [bI g1 (os.map uX) 3]/\(i<=xs.length)/\(os.length=xs.length+ys.length)/\(val 65536 os=val 65536 (xs.take i)*val 65536 ys)/\(os.drop (i+ys.length)=bx (xs.length-i) 0)/\(cX 65536 os)/\(n=xs.length-i)) ?_ ?_
 .exact⟨_,0,bx (xs.length+ys.length) 0,O,m,by omega,by simp,by rw[fI,jz];simp only[val,Nat.zero_mul],by rw[po];congr 1;omega,λx F=>by rw[fc F];decide,rfl⟩
 intro n vs wr h u R K;obtain⟨i,os,rfl,m,W,f,r,g,d,Y⟩:=h;simp only[zu,zF,zG];apply aG 8 [0,0] m;simp only[↓U,lS];refine bB O ?_ ?_<;>intro Z
 .apply aG 13 [0] m;simp only[↓U];refine bU [7,8] [9,22,23,24,25,26,27,28,29,30,31,32,33,34,35,36,37,38,39,40,41,42,43,44,45,46,47,48,49,50,51,52,53,54] (λn vs l=>∃(k c:Nat)(os:List Nat),vs=[G (c:Int),G (k:Int)]/\Mem w l [bI g1 (os.map uX) 3]/\(k<=ys.length)/\(os.length=xs.length+ys.length)/\(val 65536 os+65536^(i+k)*c=val 65536 (xs.take i)*val 65536 ys+65536^i*(xs[i]*val 65536 (ys.take k)))/\(os.drop (i+ys.length)=bx (xs.length-i) 0)/\(cX 65536 os)/\(c<65536)/\(n=ys.length-k)) ?_ ?_
  .exact⟨_,0,0,os,O,m,by omega,f,by rw[jz,r];simp only[val,jm],g,d,by omega,rfl⟩
  intro n vs wr h u T M;obtain⟨k,c,os,rfl,m,X,f,z,g,d,hc,ag⟩:=h;simp only[zu,zF,zG];apply aG 8 [0,0] m;simp only[↓U,lS];refine bB O ?_ ?_<;>intro aa
  .apply aG 4 [] m;simp only[↓U];obtain⟨a,rfl,N,t⟩:=p.get (show i<xs.length by omega);obtain⟨V,rfl,P,y⟩:=o.get (show k<ys.length by omega);have ah:=d.get (ap (show i+k<os.length by omega));obtain⟨ae,af⟩:=aiS t y;refine gc (mq m aD (by kernel_rfl) ?_);refine fE 4 [] ?_;simp only[↓U];apply I0;omega;refine L (aP dS bL O O (by omega) (by omega) (rQ (show _=i+k by omega))) (fE 14 [0,2,0,2,0,2] ?_);simp only[↓U,Qg,ai,aj,eo];refine⟨_,λu m=>(lies1 ((m.b 0 O).digit (show i+k<os.length by omega)) bJ),_,λu m=>(lies1 (m.ext.cell N) bJ),_,λu m=>(lies1 (m.ext.cell P) bJ),by omega,?_⟩;refine bM ?_;intro u m;obtain⟨s,q⟩:∃s,s=os[i+k]+xs[i]*ys[k]+c:=⟨_,rfl⟩
   have Q:(↑os[i+k]+↑xs[i]*↑ys[k]+↑c:Int)=(s:Int):=by rw[q];simp
   rw[Q];have ak:s<4294967296:=by have:=adq t y;omega
   apply S 7 [0] m;simp only[↓U];apply I0;omega;refine C (cW O O (by omega) (oN (n:=65536))) ?_;simp only[I];refine C (aP dS bL O O (by omega) (by omega) (rQ (show _=i+k by omega))) ?_;simp only[I];refine dP m 0 O O O bL (by simp;omega) ⟨rfl,rfl⟩ ?_;intro u m;simp only[I] at m ;rw[Lj (by omega)] at m;apply aJ 3 [0] m;simp only[↓U];refine C (iO O O (by omega) (oO (n:=65536) (by omega))) ?_;apply aJ 8 [0] m;simp only[↓U];apply I0;omega;have j:=adp (by omega) (by omega) f z q;rw[show ((k:Int)+1)=((k+1:Nat):Int) by omega];exact M (ys.length-(k+1)) _ _ (by omega) (by kernel_rfl) ⟨k+1,s / 65536,os.set (i+k) (s%65536),O,m,by omega,by simpa using f,j,by rw[uL (by omega)];exact g,d.set (by omega),by omega,O⟩
  apply aG 1 [] m;simp only[↓U];obtain rfl:k=ys.length:=by omega
  apply S 7 [0] m;simp only[↓U,lS];apply I0;omega;refine C (aP dS bL O O (by omega) (by omega) (rQ (show _=i+ys.length by omega))) ?_;simp only[I];refine dP m 0 O O O bL (by simp;omega) ⟨rfl,rfl⟩ ?_;intro u m;simp only[I] at m ;rw[Lj (by omega)] at m;apply aJ 7 [0] m;simp only[↓U];apply I0;omega;obtain⟨j,J⟩:=aiR (by omega) f z g;rw[show ((i:Int)+1)=((i+1:Nat):Int) by omega];exact K (xs.length-(i+1)) _ _ (by omega) (by kernel_rfl) ⟨i+1,os.set (i+ys.length) c,O,m,by omega,by simpa using f,j,J,d.set (by omega),O⟩
 apply aG 2 [] m;simp only[↓U];obtain rfl:i=xs.length:=by omega
 apply S 2 [0] m;simp only[↓U];rw[<-f];refine cC m O O (tW _ (dT.of_blk (m.b 0 O) d O (by omega))) ?_;rintro v u m rfl;apply aJ 3 [] m;simp only[↓U];exact aU rfl rfl ⟨_,rfl,m.ext,yQ.of_trim (dT.of_blk (m.b 0 rfl) d rfl (by omega)) (by rw[r,fe]),λa n c e=>by cases e;exact (m.gb 0 O)⟩
end
section
set_option maxRecDepth 100000
attribute [local irreducible] bf M fY Code.wp
end
section
set_option maxRecDepth 100000
attribute [local irreducible] bf M fY cJ cU Code.wp
attribute [local congr] dK dL cZ dJ
variable{a:Int}
def Lz{os:List UInt8}{x:Nat}(a:x<256):os.map u8v++[.int .u8 (x:Int)]=(os++[fg x]).map u8v:=by
 have:u8v (fg x)=.int .u8 (x:Int):=by simp only[u8v,ka,Value.int.injEq,X8];rw[kd (by omega)]
 rw[db,List.map_singleton,this]
def vE{neg:Bool}{s:ByteArray}(w:an)(T:s.size<=1000000000000):dF G1 280 [.agg #[.bool neg,.string s]] w (yQ (aoO s)):=by
 refine⟨bK func280 (by kernel_rfl),?_⟩;have m:=Mem.refl w;have V:=yL s;have B:=Pm s
 go_enter func280,ntmps280
 apply kX 7 [0] m;simp only[↓U];intro E u m;refine C aK ?_;replace m:=m.nilO 3 1;apply aJ 5 [2,0] m;simp only[↓U,Ce,afE,aa];refine C (wS O rC O) ?_;apply aJ 9 [0] m;simp only[↓U];refine bU [3,5] [6,11,12,13,14,15,16,17,18,19,20,21,22,23,24,25,26,27,28,29,30,31,32,33,34,35] (λn vs J=>∃(k:Nat)(os:List Nat)(a:Option Addr)(c:Nat),vs=[.slice a k c,G ((s.size:Int)-2*(k:Int))]/\Mem w J [oI 3 1 a k c (os.map uX),bI E [.bool neg,.string s] 95]/\(os.length=k)/\(val 65536 os=val 256 ((qI s).take (2*k)))/\(cX 65536 os)/\(2*k<=s.size+1)/\(n=s.size-2*k)) ?_ ?_
 .rw[show ((s.size:Int))=(s.size:Int)-2*((0:Nat):Int) by omega];exact⟨_,0,[],G0,0,O,m,O,by simp[val],nB _,by omega,O⟩
 intro n vs wr H u P A;obtain⟨k,os,a,c,rfl,m,y,l,j,Q,R⟩:=H;simp only[zu,zF,zG];apply aG 6 [0,0] m;simp only[↓U];refine bB O ?_ ?_<;>intro W
 .apply aG 4 [] m;simp only[↓U];obtain⟨f,K,Y,D⟩:=Im (show 2*k+1+(s.size-2*k-1)=s.size by omega);have ab:f.toNat<256:=f.toNat_lt;apply S 5 [2,0] m;simp only[↓U,Ce,afE,aa];apply I0;omega;refine C ((qH rC O O (by omega) (by rw[show ((s.size:Int)-2*(k:Int)-1).toNat=s.size-2*k-1 by omega];exact K))) ?_;apply aJ 9 [0,0] m;simp only[↓U,Dn,Yk];apply I0;omega;refine bB O ?_ ?_<;>intro X
  .obtain⟨h,L,M,N⟩:=Im (show 2*k+1+1+(s.size-2*k-2)=s.size by omega);have ad:h.toNat<256:=h.toNat_lt;apply aG 6 [2,0] m;simp only[↓U,Ce,afE,aa];apply I0;omega;refine C ((qH rC O O (by omega) (by rw[show ((s.size:Int)-2*(k:Int)-2).toNat=s.size-2*k-2 by omega];exact L))) ?_;apply aJ 5 [] m;simp only[↓U,Dn,Yk];apply I0;omega;obtain⟨d,t⟩:∃d:Nat,d=f.toNat+256*h.toNat:=⟨_,rfl⟩
   rw[show ((f.toNat:Int)+256*(h.toNat:Int))=(d:Int) by omega];have x:d=(qI s)[2*k]+256*((qI s)[2*k+1]?.getD 0):=by rw[ap M,D];simp only[dt];rw[N];exact t
   apply S 3 [0] m;simp only[↓U];refine fR dS (z:=G 0) (by kernel_rfl) O O O ?_;intro u F e i p;replace m:=m.newB e i p;simp only[I];refine bW m 1 O O dS nR O (by decide) O O O (m.b 0 O).rowsO (jB O) (by omega) (by omega) ?_;intro a c u m;simp only[zF,zG] at m;simp only[zA,zB,zC,zD,zE,nH] at m;apply aJ 8 [0] m;simp only[↓U];apply I0;omega;obtain⟨q,r⟩:=Ll y l (by omega) x B j;rw[show ((s.size:Int)-2*(k:Int)-2)=(s.size:Int)-2*((k+1:Nat):Int) by omega];exact A (s.size-2*(k+1)) _ _ (by omega) (by kernel_rfl) ⟨k+1,os++[d],a,c,O,(m.sel [X9,Z,Z]),by simp;omega,q,r,by omega,rfl⟩
  obtain⟨d,t⟩:∃d:Nat,d=f.toNat:=⟨_,rfl⟩
  rw[<-t];have x:d=(qI s)[2*k]+256*((qI s)[2*k+1]?.getD 0):=by rw[da (by omega),D];simp only[og];omega
  apply aG 4 [0] m;simp only[↓U];refine fR dS (z:=G 0) (by kernel_rfl) O O O ?_;intro u F e i p;replace m:=m.newB e i p;simp only[I];refine bW m 1 O O dS nR O (by decide) O O O (m.b 0 O).rowsO (jB O) (by omega) (by omega) ?_;intro a c u m;simp only[zF,zG] at m;simp only[zA,zB,zC,zD,zE,nH] at m;apply aJ 8 [0] m;simp only[↓U];apply I0;omega;obtain⟨q,r⟩:=Ll y l (by omega) x B j;rw[show ((s.size:Int)-2*(k:Int)-2)=(s.size:Int)-2*((k+1:Nat):Int) by omega];exact A (s.size-2*(k+1)) _ _ (by omega) (by kernel_rfl) ⟨k+1,os++[d],a,c,O,(m.sel [X9,Z,Z]),by simp;omega,q,r,by omega,rfl⟩
 apply aG 2 [] m;simp only[↓U];obtain⟨g,_⟩:=Wi (m.o 0 rfl) y.symm j (by omega);apply S 2 [0] m;simp only[↓U];refine aX O O (tW _ g) ?_;rintro v u e rfl;replace m:=m.ext' e;replace g:=g.ext e;apply aJ 3 [] m;simp only[↓U];exact aU O O ⟨_,O,m.ext,yQ.of_trim g (by rw[l,a_ (by omega)];rfl)⟩
def yG{A:Option Addr}{xs:List Nat}{b F cap:Nat}{neg:Bool}(w:an)(q:dT w b A F cap xs)(hl:xs.length<=100000000000):dF G1 281 [.bool neg,.slice A F cap] w (λv _=>v=W (Xo neg (val 65536 xs))):=by
 refine⟨bK func281 (by kernel_rfl),?_⟩;have m:=Mem.refl w;obtain rfl:=q.eq;have T:=kJ xs;have l:dT w w.heap.size A (trim xs).length cap (trim xs):=by
  have h:=(q.take (trim xs).length).here;rwa [<-iQ] at h
 have x:=mS xs;have y:=lE 65536 xs;obtain⟨ys,D⟩:∃ys,ys=trim xs:=⟨_,rfl⟩
 rw[<-D] at l x T y;have X:=l.digs;have r:=aiT ys
 go_enter func281,ntmps281
 apply kX 7 [0] m;simp only[↓U,lT];intro J u m;refine cC m O O (tW _ (q.ext m.ext)) ?_;rintro v u m rfl;simp only[I];rw[<-D];clear D;apply aJ 4 [] m;simp only[↓U];by_cases B:ys=[]
 .subst B;apply S 3 [0] m;simp only[↓U,lS];refine C (aeF O O (by rfl)) ?_;apply iV 8 [0] m;simp only[↓U,arm,fB,aa];intro u m;refine aU O ⟨_,O,((m.b 0 O).full cE aO)⟩ ?_;try simp only[zD,zE]
  exact⟨_,O,m.ext,by rw[<-y];cases neg<;>rfl⟩
 have Y:0<ys.length:=List.length_pos_iff.2 B;have ab:=Dw x Y;apply S 9 [2,0] m;simp only[↓U,lS];apply I0;omega;refine C aK ?_;replace m:=m.nilO 5 1;apply aJ 10 [0] m;simp only[↓U,lS];apply I0;omega;refine bU [5,6] [16,17,18,19,20,21,22,23,24,25,26,27,28,29,30,31,32,33,34,35,36,37,38,39,40,41,42,43,44,45,46,47,48,49] (λn vs Q=>∃(k j:Nat)(os:List UInt8)(c:Option Addr)(e:Nat),vs=[.slice c j e,G ((k:Int)-1)]/\Mem w Q [oI 5 1 c j e (os.map u8v),bI J [.bool X9,.string ⟨#[]⟩] 95]/\(os.length=j)/\(os=pS ys k)/\(k<=ys.length)/\(k<ys.length->pS ys k≠[])/\(os.length<=2*ys.length)/\(n=k)) ?_ ?_
 .exact⟨_,ys.length,0,[],G0,0,O,m,O,(aae ys).symm,by omega,λh=>Y0 h (by omega),by simp,O⟩
 intro n vs wr L u K1 s;obtain⟨k,j,os,c,e,rfl,m,af,t,hk,V,ag,hn⟩:=L;simp only[zu,zF,zG];apply aG 6 [0,0] m;simp only[↓U];refine bB O ?_ ?_<;>intro ad
 .apply aG 5 [] m;simp only[↓U];obtain⟨a,rfl,d,R⟩:=l.get (show k-1<ys.length by omega);rcases (show k<ys.length\/k=ys.length by omega) with hkl|hkl
  .obtain⟨N,P⟩:=afu (show 0<k by omega) (by omega) (V hkl);apply S 15 [1,0,0,0,0,0] m;simp only[↓U,lS];apply I0;omega;have d:=l.at (show k-1<ys.length by omega);apply S 4 [0] m;simp only[↓U];refine C (aP dS bL O O (by omega) (by omega) (oW (show _=k-1 by omega))) ?_;apply aJ 1 [0,2,0] m;simp only[↓U];refine⟨_,λu m=>(lies1 (m.ext.cell d) bJ),?_⟩;refine C (iO O O (by omega) (oO (n:=256) (by omega))) (C (gB adE fV O (Ey (by omega))) ?_);simp only[I];refine fR qK (z:=.int .u8 0) (by kernel_rfl) O O O ?_;intro u E f g i;replace m:=m.newB f g i;simp only[I];refine bW m 1 O O qK Zn O (by decide) O O O (m.b 0 O).rowsO (jB O) (by omega) (by omega) ?_;intro c e u m;simp only[zF,zG] at m;simp only[I] at m;rw[Lz (by omega)] at m;apply aJ 2 [] m;simp only[↓U];have d:=l.at (show k-1<ys.length by omega);apply S 4 [0] m;simp only[↓U];refine C (aP dS bL O O (by omega) (by omega) (oW (show _=k-1 by omega))) ?_;apply aJ 1 [0,2,0] m;simp only[↓U];refine⟨_,λu m=>(lies1 (m.ext.cell d) bJ),?_⟩;refine C (cW O O (by omega) (oN (n:=256))) (C (gB adE fV O (Ey (by omega))) ?_);simp only[I];refine fR qK (z:=.int .u8 0) (by kernel_rfl) O O O ?_;intro u K f g i;replace m:=m.newB f g i;simp only[I];refine bW m 2 O O qK Zn O (by decide) O O O (m.b 0 O).rowsO (jB O) (by first|omega|(simp;omega)) (by first|omega|(simp;omega)) ?_;intro c e u m;simp only[zF,zG] at m;simp only[I] at m;rw[Lz (by omega)] at m;apply aJ 8 [0] m;simp only[↓U];apply I0;omega;have p:os++[fg (ys[k-1] / 256)]++[fg (ys[k-1]%256)]=pS ys (k-1):=by rw[N,t]
   rw[show ((k:Int)-1-1)=((k-1:Nat):Int)-1 by omega];exact s (k-1) _ _ (by omega) (by kernel_rfl) ⟨k-1,j+1+1,os++[fg (ys[k-1] / 256)]++[fg (ys[k-1]%256)],c,e,O,(m.sel [X9,X9,Z,Z]),by simp only[bg,iu];omega,p,by omega,λ_=>P,by rw[p];exact r _,O⟩
  subst hkl;obtain⟨f1,f2⟩:=adt (by omega) ab R;have H:os=[]:=by rw[t];exact aae ys
  apply S 9 [2,0,0,0] m;simp only[↓U,lS];apply I0;omega;refine gE O (C (aP dS bL O O (by omega) (by omega) (oW (show _=ys.length-1 by omega))) ?_);apply aJ 4 [0,0,2,0,0,0] m;simp only[↓U];refine⟨_,λu m=>(lies1 (m.ext.cell d) bJ),?_⟩;refine bB O ?_ ?_<;>intro ae
  .have d:=l.at (show ys.length-1<ys.length by omega);apply aG 4 [0] m;simp only[↓U];refine C (aP dS bL O O (by omega) (by omega) (oW (show _=ys.length-1 by omega))) ?_;apply aJ 1 [0,2,0] m;simp only[↓U];refine⟨_,λu m=>(lies1 (m.ext.cell d) bJ),?_⟩;refine C (iO O O (by omega) (oO (n:=256) (by omega))) (C (gB adE fV O (Ey (by omega))) ?_);simp only[I];refine fR qK (z:=.int .u8 0) (by kernel_rfl) O O O ?_;intro u E f g i;replace m:=m.newB f g i;simp only[I];refine bW m 1 O O qK Zn O (by decide) O O O (m.b 0 O).rowsO (jB O) (by omega) (by omega) ?_;intro c e u m;simp only[zF,zG] at m;simp only[I] at m;rw[Lz (by omega)] at m;apply aJ 2 [] m;simp only[↓U];have d:=l.at (show ys.length-1<ys.length by omega);apply S 4 [0] m;simp only[↓U];refine C (aP dS bL O O (by omega) (by omega) (oW (show _=ys.length-1 by omega))) ?_;apply aJ 1 [0,2,0] m;simp only[↓U];refine⟨_,λu m=>(lies1 (m.ext.cell d) bJ),?_⟩;refine C (cW O O (by omega) (oN (n:=256))) (C (gB adE fV O (Ey (by omega))) ?_);simp only[I];refine fR qK (z:=.int .u8 0) (by kernel_rfl) O O O ?_;intro u K f g i;replace m:=m.newB f g i;simp only[I];refine bW m 2 O O qK Zn O (by decide) O O O (m.b 0 O).rowsO (jB O) (by first|omega|(simp;omega)) (by first|omega|(simp;omega)) ?_;intro c e u m;simp only[zF,zG] at m;simp only[I] at m;rw[Lz (by omega)] at m;apply aJ 8 [0] m;simp only[↓U];apply I0;omega;have p:os++[fg (ys[ys.length-1] / 256)]++[fg (ys[ys.length-1]%256)]=pS ys (ys.length-1):=by rw[f1,Z9 (by omega),H];rfl
   rw[show ((ys.length:Int)-1-1)=((ys.length-1:Nat):Int)-1 by omega];exact s (ys.length-1) _ _ (by omega) (by kernel_rfl) ⟨ys.length-1,j+1+1,os++[fg (ys[ys.length-1] / 256)]++[fg (ys[ys.length-1]%256)],c,e,O,(m.sel [X9,X9,Z,Z]),by simp only[bg,iu];omega,p,by omega,λ_=>f2,by rw[p];exact r _,O⟩
  apply aG 1 [] m;simp only[↓U];have d:=l.at (show ys.length-1<ys.length by omega);apply S 4 [0] m;simp only[↓U];refine C (aP dS bL O O (by omega) (by omega) (oW (show _=ys.length-1 by omega))) ?_;apply aJ 1 [0,2,0] m;simp only[↓U];refine⟨_,λu m=>(lies1 (m.ext.cell d) bJ),?_⟩;refine C (cW O O (by omega) (oN (n:=256))) (C (gB adE fV O (Ey (by omega))) ?_);simp only[I];refine fR qK (z:=.int .u8 0) (by kernel_rfl) O O O ?_;intro u E f g i;replace m:=m.newB f g i;simp only[I];refine bW m 1 O O qK Zn O (by decide) O O O (m.b 0 O).rowsO (jB O) (by first|omega|(simp;omega)) (by first|omega|(simp;omega)) ?_;intro c e u m;simp only[zF,zG] at m;simp only[I] at m;rw[Lz (by omega)] at m;apply aJ 8 [0] m;simp only[↓U];apply I0;omega;have p:os++[fg (ys[ys.length-1]%256)]=pS ys (ys.length-1):=by rw[f1,K0 (by omega),H]
  rw[show ((ys.length:Int)-1-1)=((ys.length-1:Nat):Int)-1 by omega];exact s (ys.length-1) _ _ (by omega) (by kernel_rfl) ⟨ys.length-1,j+1,os++[fg (ys[ys.length-1]%256)],c,e,O,(m.sel [X9,Z,Z]),by simp only[bg,iu];omega,p,by omega,λ_=>f2,by rw[p];exact r _,O⟩
 apply aG 5 [0] m;simp only[↓U];refine eB (St qK adE rC O (m.o 0 O).own) ?_;apply iV 4 [1] m;simp only[↓U,arm,fB,aa];intro u m;refine aU O ⟨_,O,((m.b 1 O).full cE aO)⟩ ?_;try simp only[zD,zE]
 exact⟨_,rfl,m.ext,by (obtain rfl:k=0:=by omega);(have M:val 65536 ys≠0:=gp (Kj (by omega) x B));rw[t,afv X neg,<-y];simp[Lith.W,aa0,M]⟩
def ajk{k:Nat}{b:Int}(c:Bd k a)(d:Bd k b):(digs 65536 (a*b).natAbs).length<=k+k:=uY (Bd.mul c d)
def aaz  : (((digs 65536 a.natAbs).length:Int)=0)↔a=0:=by
 constructor
 .intro h;have b:digs 65536 a.natAbs=[]:=fj (by omega);have:=(uJ (by omega)).1 b;omega
 rintro rfl;rfl
def aqc(h:Bd 1000000 a):eS G1 211 [W a] (G (cA a)):=by
 intro w;refine⟨bK func211 (by kernel_rfl),?_⟩;have m:=Mem.refl w
 go_enter func211,ntmps211
 apply kX 9 [1,0] m;simp only[↓U,fB];intro k u m;refine aX O O (vE _ (iC h)) ?_;rintro v u g ⟨j,c1,rfl,i⟩;replace m:=m.ext' g;simp only[I];rw[gI] at i ⊢;apply aJ 3 [0,0] m;simp only[↓U,lS];refine bB O ?_ ?_<;>intro d
 .have b:=aaz.1 d;apply aG 5 [] m;simp only[↓U];refine aU O O ?_;try simp only[zD,zE]
  exact⟨_,O,m.ext,by rw[b];rfl⟩
 apply aG 7 [1,0] m;simp only[↓U,kP,Dl,aa];refine lL O ?_ ?_<;>intro f
 .have c:=Gm f;apply aG 5 [] m;simp only[↓U];refine aU O O ?_;try simp only[zD,zE]
  exact⟨_,O,m.ext,by rw[My c]⟩
 have c:=Iq f;have b:¬a=0:=λe=>d (aaz.2 e);apply aG 6 [] m;simp only[↓U];refine aU O O ?_;try simp only[zD,zE]
 exact⟨_,O,m.ext,by rw[Mz (by omega)]⟩
def at2(d:Bd 1000000 a):eS G1 325 [W a] (W (-a)):=by
 intro w;refine⟨bK func325 (by kernel_rfl),?_⟩;have m:=Mem.refl w;have f:(digs 65536 a.natAbs).length<=1000000:=uY d
 go_enter func325,ntmps325
 apply kX 6 [0] m;simp only[↓U,lT];intro j k u m;refine mh m [X9,Z] [(0,Z),(1,Z),(2,Z),(3,Z),(4,X9),(5,X9),(6,X9)] aD (by kernel_rfl) (bT (λ_ _ _ _ _ h=>h)) (ol:=?_) ?g ?_
 case g=>simp only[zw,zQ,zR];try rfl
 intro u m;refine Dk 4 [1,1] ?_;simp only[↓U,kP,Dl,fB,aa];refine bQ (aX O O (vE _ (iC d)) ?_);rintro v u c ⟨i,c1,rfl,e⟩;replace m:=m.ext' c;simp only[I];rw[gI] at e ⊢;refine E ⟨m.sel [X9,Z],?_⟩;refine bQ (aX O O (yG _ e (ax f (by decide))) ?_);rintro v u c rfl;replace m:=m.ext' c;simp only[I];simp only[eY];refine E ⟨m.sel [X9,Z],?_⟩;refine bQ (cB m 0 O O O aO (X O) O ?_);intro u m;simp only[zy,zx,bR,zF,zG,aa] at m;refine E ⟨m.sel [X9,Z],?_⟩;refine bO ?_;rw[agz] at m;apply S 1 [] m;simp only[↓U];exact aU O ⟨_,O,((m.b 0 O).full cE aO)⟩ ⟨_,O,m.ext,O⟩
def ab1{b:Int}(p:Bd 1000000 a)(q:Bd 1000000 b):eS G1 200 [W a,W b] (W (a+b)):=by
 intro w;refine⟨bK func200 (by kernel_rfl),?_⟩;have m:=Mem.refl w;have k:(digs 65536 a.natAbs).length<=1000000:=uY p;have l:(digs 65536 b.natAbs).length<=1000000:=uY q
 go_enter func200,ntmps200
 apply kX 9 [3,0] m;simp only[↓U,lT,fB];intro A B D u m;refine aX O O (vE _ (iC p)) ?_;rintro v u c ⟨y,c1,rfl,d⟩;replace m:=m.ext' c;simp only[I];rw[gI] at d ⊢;apply aJ 5 [2,0] m;simp only[↓U,fB];refine aX O O (vE _ (iC q)) ?_;rintro v u c ⟨z,c2,rfl,e⟩;replace m:=m.ext' c;replace d:=d.ext c;simp only[I];rw[gI] at e ⊢;apply aJ 9 [3,2,0] m;simp only[↓U,kP,Dl,aa];refine C (aks aeZ O O) ?_;apply aJ 1 [0] m;simp only[↓U];refine bB O ?_ ?_<;>intro j
 .apply aG 1 [0] m;simp only[↓U];refine mhe m [X9,Z,Z] [(0,Z),(2,Z),(3,Z),(1,Z),(4,X9),(5,X9),(6,X9)] aD (by kernel_rfl) (bT (λ_ _ _ _ _ h=>h)) (ol:=?_) ?g ?_
  case g=>simp only[zw,zQ,zR];try rfl
  intro u c m;replace d:=d.ext c;replace e:=e.ext c;refine Dk 4 [2] ?_;simp only[↓U,kP,Dl,aa];refine bQ (aX O O (at1 _ d.here e.here (ax k (by decide)) (ax l (by decide))) ?_);rintro v u c ⟨n,o,os,rfl,f,x,i⟩;replace m:=m.ext' c;simp only[I];simp only[eY] at x;refine E ⟨m.sel [X9,Z,Z],?_⟩;refine bQ (aX O O (yG _ f (by omega)) ?_);rintro v u c rfl;replace m:=m.ext' c;simp only[I];rw[x];refine E ⟨m.sel [X9,Z,Z],?_⟩;refine bQ (cB m 0 O O O aO (X O) O ?_);intro u m;simp only[zy,zx,bR,zF,zG,aa] at m;refine E ⟨m.sel [X9,Z,Z],?_⟩;refine bO ?_;rw[agA j] at m;apply S 1 [] m;simp only[↓U];exact aU O ⟨_,O,((m.b 0 O).full cE aO)⟩ ⟨_,O,m.ext,O⟩
 apply aG 6 [0] m;simp only[↓U];refine aX O O (Au _ d e (mD _) (mD _)) ?_;rintro v u c rfl;replace m:=m.ext' c;replace d:=d.ext c;replace e:=e.ext c;simp only[I];simp only[eY];apply aJ 2 [0,0] m;simp only[↓U];refine bB O ?_ ?_<;>intro r
 .have s:=Bj.1 r;apply aG 1 [0] m;simp only[↓U];refine mhe m [X9,Z,Z] [(0,Z),(2,Z),(3,Z),(1,Z),(4,X9),(5,X9),(6,X9)] aD (by kernel_rfl) (bT (λ_ _ _ _ _ h=>h)) (ol:=?_) ?g ?_
  case g=>simp only[zw,zQ,zR];try rfl
  intro u c m;replace d:=d.ext c;replace e:=e.ext c;refine Dk 4 [2] ?_;simp only[↓U,kP,Dl,aa];refine bQ (aX O O (ahv _ d.here e.here (Lk s) (by simp only[eY];omega) (ax k (by decide))) ?_);rintro v u c ⟨⟨n,o,rfl,f⟩,_⟩;replace m:=m.ext' c;simp only[I];simp only[eY] at f ⊢;have i:=Lk (qw a.natAbs b.natAbs);refine E ⟨m.sel [X9,Z,Z],?_⟩;refine bQ (aX O O (yG _ f (ax i (ax k (by decide)))) ?_);rintro v u c rfl;replace m:=m.ext' c;simp only[I];simp only[eY];refine E ⟨m.sel [X9,Z,Z],?_⟩;refine bQ (cB m 0 O O O aO (X O) O ?_);intro u m;simp only[zy,zx,bR,zF,zG,aa] at m;refine E ⟨m.sel [X9,Z,Z],?_⟩;refine bO ?_;rw[akx j s] at m;apply S 1 [] m;simp only[↓U];exact aU O ⟨_,O,((m.b 0 O).full cE aO)⟩ ⟨_,O,m.ext,O⟩
 have t:a.natAbs<b.natAbs:=pk λh=>r (Bj.2 h);apply aG 2 [0] m;simp only[↓U];refine mhe m [X9,Z,Z] [(0,Z),(2,Z),(3,Z),(1,Z),(4,X9),(5,X9),(6,X9)] aD (by kernel_rfl) (bT (λ_ _ _ _ _ h=>h)) (ol:=?_) ?g ?_
 case g=>simp only[zw,zQ,zR];try rfl
 intro u c m;replace d:=d.ext c;replace e:=e.ext c;refine Dk 4 [1] ?_;simp only[↓U,kP,Dl,aa];refine bQ (aX O O (ahv _ e.here d.here (Lk (lo t)) (by simp only[eY];omega) (ax l (by decide))) ?_);rintro v u c ⟨⟨n,o,rfl,f⟩,_⟩;replace m:=m.ext' c;simp only[I];simp only[eY] at f ⊢;have i:=Lk (qw b.natAbs a.natAbs);refine E ⟨m.sel [X9,Z,Z],?_⟩;refine bQ (aX O O (yG _ f (ax i (ax l (by decide)))) ?_);rintro v u c rfl;replace m:=m.ext' c;simp only[I];simp only[eY];refine E ⟨m.sel [X9,Z,Z],?_⟩;refine bQ (cB m 0 O O O aO (X O) O ?_);intro u m;simp only[zy,zx,bR,zF,zG,aa] at m;refine E ⟨m.sel [X9,Z,Z],?_⟩;refine bO ?_;rw[akw j t] at m;apply S 1 [] m;simp only[↓U];exact aU O ⟨_,O,((m.b 0 O).full cE aO)⟩ ⟨_,O,m.ext,O⟩
def ab2{b:Int}(d:Bd 1000000 a)(c:Bd 1000000 b):eS G1 279 [W a,W b] (W (a-b)):=by
 intro w;refine⟨bK func279 (by kernel_rfl),?_⟩;have m:=Mem.refl w
 go_enter func279,ntmps279
 apply kX 7 [0] m;simp only[↓U,lT];intro e f g u m;refine dQ m 4 aD (by kernel_rfl) ?_;simp only[zy];refine ql O (λu m=>((m.b 2 O).full cE aO)) ?_;simp only[I];refine ql O (λu m=>((m.b 1 O).full cE aO)) ?_;simp only[I];refine jF O O (at2 c) ?_;simp only[I];refine jF O O (ab1 d c.neg) (bM ?_);intro u m;simp only[I];refine cB m 0 O O O aO (X O) O ?_;intro u m;simp only[zy,zx,bR,zF,zG,aa] at m;refine E ?_;rw[<-qu] at m;apply S 1 [] m;simp only[↓U];exact aU O ⟨_,O,((m.b 0 O).full cE aO)⟩ ⟨_,O,m.ext,O⟩
def ab3{b:Int}(e:Bd 1000000 a)(f:Bd 1000000 b):eS G1 231 [W a,W b] (W (a*b)):=by
 intro w;refine⟨bK func231 (by kernel_rfl),?_⟩;have m:=Mem.refl w;have j:(digs 65536 a.natAbs).length<=1000000:=uY e;have k:(digs 65536 b.natAbs).length<=1000000:=uY f;have l:=ajk e f
 go_enter func231,ntmps231
 apply kX 7 [0] m;simp only[↓U,lT];intro s t x u m;refine mh m [X9,Z,Z] [(0,Z),(2,Z),(1,Z),(3,Z),(4,Z),(5,Z),(7,Z),(6,X9),(8,X9),(9,X9),(10,X9),(11,X9)] aD (by kernel_rfl) (bT (λ_ _ _ _ _ h=>h)) (ol:=?_) ?n ?_
 case n=>simp only[zw,zQ,zR];try rfl
 intro u m;refine Dk 4 [2,1] ?_;simp only[↓U,kP,Dl,aa];refine bY (akt aeZ O O) ?_;simp only[I];refine mU O (λu m=>((m.b 1 O).full cE aO)) ?_;simp only[I];refine mU O (λu m=>((m.b 0 O).full cE aO)) ?_;simp only[I];refine bQ (aX O O (vE _ (iC e)) ?_);rintro v u c ⟨o,c1,rfl,d⟩;replace m:=m.ext' c;simp only[I];rw[gI] at d ⊢;refine E ⟨m.sel [X9,Z,Z],?_⟩;refine bQ (aX O O (vE _ (iC f)) ?_);rintro v u c ⟨p,c2,rfl,i⟩;replace m:=m.ext' c;replace d:=d.ext c;simp only[I];rw[gI] at i ⊢;refine E ⟨m.sel [X9,Z,Z],?_⟩;refine bQ (aX O O (Ly _ d.here i.here (ax j (by decide)) (ax k (by decide))) ?_);rintro v u c ⟨⟨q,r,rfl,g⟩,_⟩;replace m:=m.ext' c;simp only[I];simp only[eY] at g ⊢;rw[<-ob] at g ⊢;refine E ⟨m.sel [X9,Z,Z],?_⟩;refine bQ (aX O O (yG _ g (ax l (by decide))) ?_);rintro v u c rfl;replace m:=m.ext' c;simp only[I];simp only[eY];refine E ⟨m.sel [X9,Z,Z],?_⟩;refine bQ (cB m 0 O O O aO (X O) O ?_);intro u m;simp only[zy,zx,bR,zF,zG,aa] at m;refine E ⟨m.sel [X9,Z,Z],?_⟩;refine bO ?_;rw[ob,agB] at m;apply S 1 [] m;simp only[↓U];exact aU O ⟨_,O,((m.b 0 O).full cE aO)⟩ ⟨_,O,m.ext,O⟩
def at3{b:Int}(c:Bd 900000 a)(d:Bd 900000 b):eS G1 199 [W a,W b] (G (cA (a-b))):=by
 intro w;refine⟨bK func199 (by kernel_rfl),?_⟩;have m:=Mem.refl w
 go_enter func199,ntmps199
 apply kX 10 [2,1,0] m;simp only[↓U,fB];intro e f u m;refine nX m O O (ab2 (c.mono (by decide)) (d.mono (by decide))) ?_;intro u m;simp only[I];refine tK m O O (aqc ((Bd.sub c d).mono (by decide))) 3 [] ?_;simp only[↓U];intro u m;exact aU O O ⟨_,O,m.ext,O⟩
def Cl{n:Int}(h:nQ n):eS G1 232 [G n] (W n):=by
 intro w;refine⟨bK func232 (by kernel_rfl),?_⟩;have m:=Mem.refl w;have t:=h.natAbs;obtain⟨N,g⟩:∃N,N=n.natAbs:=⟨_,rfl⟩
 go_enter func232,ntmps232
 apply kX 6 [0] m;simp only[↓U,lT];intro B u m;refine C aK ?_;replace m:=m.nilO 3 1;apply aJ 2 [] m;simp only[↓U];rcases (show n<0\/0<=n by omega) with h0|h0
 .have x:Z=fF n:=(Y5 h0).symm;apply S 2 [0] m;simp only[↓U];refine C (gB jO fV O (agD h h0)) ?_;apply aJ 11 [1,0] m;simp only[↓U];apply I0;omega;refine C (uH O (Za t (by omega))) ?_;apply aJ 4 [0] m;simp only[↓U];refine bU [3,4] [11,12,13,14,15,16,17,18,19,20] (λn vs s=>∃(z j:Nat)(os:List Nat)(a:Option Addr)(c:Nat),vs=[.slice a j c,.int .u64 (z:Int)]/\Mem w s [oI 3 1 a j c (os.map uX),bI B [.bool X9,.string ⟨#[]⟩] 95]/\(j=os.length)/\(val 65536 os+65536^os.length*z=N)/\(cX 65536 os)/\(z<=9223372036854775808)/\(z<2^(64-os.length))/\(os.length<=64)/\(n=z)) ?_ ?_
  .exact⟨_,n.natAbs,0,[],G0,0,O,m,O,by simp[val,g],nB _,t,by simp;omega,by simp,rfl⟩
  intro n vs wr k u L H;obtain⟨z,j,os,a,c,rfl,m,p,e,f,E,y,A,F⟩:=k;simp only[zu,zF,zG];apply aG 6 [0,0] m;simp only[↓U];refine bB O ?_ ?_<;>intro K
  .apply aG 6 [0] m;simp only[↓U];refine C (cW O O (by omega) (oN (n:=65536))) (C (gB fV jO O (cF (by omega) (by omega))) ?_);simp only[I];refine fR dS (z:=G 0) (by kernel_rfl) O O O ?_;intro u D d l q;replace m:=m.newB d l q;simp only[I];refine bW m 1 O O dS nR O (by decide) O O O (m.b 0 O).rowsO (jB O) (by omega) (by omega) ?_;intro a c u m;simp only[zF,zG] at m;simp only[zA,zB,zC,zD,zE,nH] at m;apply aJ 4 [0] m;simp only[↓U];refine C (iO O O (by omega) (Rf (n:=65536) (by omega))) ?_;apply aJ 3 [0] m;simp only[↓U];have r:=Uo e f y A (show 0<z by omega);exact H (z / 65536) _ _ (by omega) (by kernel_rfl) ⟨z / 65536,j+1,os++[z%65536],a,c,O,(m.sel [X9,Z,Z]),by simp;omega,r.1,r.2.1,by omega,r.2.2.1,r.2.2.2,rfl⟩
  apply aG 2 [] m;simp only[↓U];obtain rfl:z=0:=by omega
  rw[jm,Nat.add_zero] at e;obtain⟨i,_⟩:=Wi (m.o 0 rfl) p f (by omega);apply S 4 [1,0] m;simp only[↓U];apply I0;omega;refine aX O O (yG _ i (by omega)) ?_;rintro v u d rfl;replace m:=m.ext' d;simp only[I];rw[e,g,x,Kn];apply iV 3 [1] m;simp only[↓U,fB,aa];intro u m;exact aU O ⟨_,O,((m.b 1 O).full cE aO)⟩ ⟨_,O,m.ext,O⟩
 have x:X9=fF n:=(Y6 (by omega)).symm;apply S 2 [0] m;simp only[↓U];refine C (gB jO fV O (aky h h0)) ?_;apply aJ 12 [2,0] m;simp only[↓U];apply I0;omega;refine bU [3,4] [11,12,13,14,15,16,17,18,19,20] (λn vs s=>∃(z j:Nat)(os:List Nat)(a:Option Addr)(c:Nat),vs=[.slice a j c,.int .u64 (z:Int)]/\Mem w s [oI 3 1 a j c (os.map uX),bI B [.bool X9,.string ⟨#[]⟩] 95]/\(j=os.length)/\(val 65536 os+65536^os.length*z=N)/\(cX 65536 os)/\(z<=9223372036854775808)/\(z<2^(64-os.length))/\(os.length<=64)/\(n=z)) ?_ ?_
 .exact⟨_,n.natAbs,0,[],G0,0,O,m,O,by simp[val,g],nB _,t,by simp;omega,by simp,rfl⟩
 intro n vs wr k u M J;obtain⟨z,j,os,a,c,rfl,m,p,e,f,E,y,A,F⟩:=k;simp only[zu,zF,zG];apply aG 6 [0,0] m;simp only[↓U];refine bB O ?_ ?_<;>intro K
 .apply aG 6 [0] m;simp only[↓U];refine C (cW O O (by omega) (oN (n:=65536))) (C (gB fV jO O (cF (by omega) (by omega))) ?_);simp only[I];refine fR dS (z:=G 0) (by kernel_rfl) O O O ?_;intro u D d l q;replace m:=m.newB d l q;simp only[I];refine bW m 1 O O dS nR O (by decide) O O O (m.b 0 O).rowsO (jB O) (by omega) (by omega) ?_;intro a c u m;simp only[zF,zG] at m;simp only[zA,zB,zC,zD,zE,nH] at m;apply aJ 4 [0] m;simp only[↓U];refine C (iO O O (by omega) (Rf (n:=65536) (by omega))) ?_;apply aJ 3 [0] m;simp only[↓U];have r:=Uo e f y A (show 0<z by omega);exact J (z / 65536) _ _ (by omega) (by kernel_rfl) ⟨z / 65536,j+1,os++[z%65536],a,c,O,(m.sel [X9,Z,Z]),by simp;omega,r.1,r.2.1,by omega,r.2.2.1,r.2.2.2,rfl⟩
 apply aG 2 [] m;simp only[↓U];obtain rfl:z=0:=by omega
 rw[jm,Nat.add_zero] at e;obtain⟨i,_⟩:=Wi (m.o 0 rfl) p f (by omega);apply S 4 [2,0] m;simp only[↓U];apply I0;omega;refine aX O O (yG _ i (by omega)) ?_;rintro v u d rfl;replace m:=m.ext' d;simp only[I];rw[e,g,x,Kn];apply iV 3 [1] m;simp only[↓U,fB,aa];intro u m;exact aU O ⟨_,O,((m.b 1 O).full cE aO)⟩ ⟨_,O,m.ext,O⟩
end
section
set_option maxRecDepth 100000
attribute [local irreducible] bf M fY Code.wp
def at4{a:Int}(n:Bd 1000000 a)(m:0<=a):eS G1 294 [W a] (.bool X9):=by
 intro w;refine⟨bK func294 (by kernel_rfl),?_⟩;have b:=eQ.refl w;have g:fF a=X9:=Y6 (by omega)
 go_enter func294,ntmps294
 refine aV (λj h=>am ?_);refine Si (by simp only[I];rfl) ?_;intro o l d f e;have p:=ax b.size f;replace b:=b.trans d;clear d f;simp only[I];refine C aK ?_;simp only[I];refine E (h _ _ ?_);refine aV (λk i=>?_);rw[g] at e
 refine am (C (aY (c:=0) Hz O mW O O) ?_);simp only[I];refine aS O (e.lies1 xV O) ?_;simp only[I];refine C aI ?_;simp only[I];refine nN O ?_;simp only[I];refine nN O ?_;simp only[I];refine nN O ?_;simp only[I];refine nN O ?_;simp only[I];refine C (xP O) (C aK ?_);simp only[I];refine E (i _ _ ?_);refine i_ ?_;try simp only[cn,Exit.then]
 refine aU O O ?_;try simp only[zD,zE]
 exact⟨_,O,b,O⟩
def aqd{a:Int}(ha:Bd 1000000 a)(h0:0<=a):eS G1 230 [W a] (.tuple #[W (dO a.natAbs:Int),.bool Z]):=by
 intro w;refine⟨bK func230 (by kernel_rfl),?_⟩;have d:=eQ.refl w;have aU:(digs 65536 a.natAbs).length<=1000000:=uY ha;obtain⟨X,al⟩:∃X,X=a.natAbs:=⟨_,rfl⟩
 obtain⟨K,hK⟩:∃K,K=((digs 65536 X).length+1) / 2:=⟨_,rfl⟩
 rw[<-al] at aU;have aQ:X<65536^(digs 65536 X).length:=by have:=iZ (mO X);rwa [eY] at this
 have aW:=aiU (K:=K) aQ (by omega);rw[<-al]
 go_enter func230,ntmps230
 refine aV (λK1 aC=>am ?_);refine Si (by simp only[I];rfl) ?_;intro w1 g1 b aT N;have bt:=ax d.size aT;replace d:=d.trans b;clear b;simp only[I];refine xO uB O ?_;intro w2 J b an c;have aA:=ax d.size an;have bD:J≠g1:=gp (cj N.lt an);have bC:=cj N.lt an;replace N:=N.ext b;replace d:=d.trans b;clear b;simp only[I];refine C aK ?_;simp only[I];refine E (aC _ _ ?_);refine aV (λK2 aE=>aV (λK3 aF=>am ?_));refine aS O (N.lies cE aO O O) ?_;simp only[I];refine Qz O O (at4 ha h0) ?_;intro w3 b;replace N:=N.ext b;replace c:=c.ext b;replace d:=d.trans b;clear b;simp only[I];refine E (aF _ _ ?_);refine Qs O (ja ?_);refine aE _ _ (aV (λK4 aG=>am ?_));refine aS O (N.lies cE aO O O) ?_;simp only[I];refine aX O O (vE _ (iC ha)) ?_;rintro v w4 b ⟨A4,c4,rfl,e⟩;replace c:=c.ext b;(try replace e:=e.ext b);replace d:=d.trans b;clear b;rw[gI,<-al] at e ⊢;simp only[I];refine C aK ?_;simp only[I];refine E (aG _ _ ?_);refine aV (λK5 aJ=>am (C aK ?_));simp only[I];refine E (aJ _ _ ?_);refine aV (λK6 aL=>aV (λK7 aM=>am (C aI (C (qG O dS O) (C (fZ O O (cF (by omega) (by omega))) ?_)))));simp only[I];rw[show (((digs 65536 X).length:Int)+1)=(((digs 65536 X).length+1:Nat):Int) by omega];refine C (iO O O (by omega) (oO (m:=(digs 65536 X).length+1) (n:=2) (by omega))) (C (zW O O (cF (by omega) (by omega))) (C aK ?_));simp only[I];refine E ?_;rw[<-hK];refine aM _ _ (jd ?_);refine Gh [5,6] [7,8,9,10,11,22,23,24,25,26,27,28,29,30,31,32,33,34,35,36,37,38,39,40,41,42,43,44,45,46,47,48,49,50,51,52,53,54,55,56,57] (λn vs y=>∃(k:Nat)(rs:List Nat)(A5:Option Addr)(c5:Nat),vs=[.slice A5 rs.length c5,G ((k:Int)-1)]/\(eQ w y)/\(fK y J [.bool X9,.string ⟨#[]⟩] 95)/\(dT y y.heap.size A4 (digs 65536 X).length c4 (digs 65536 X))/\(dT y y.heap.size A5 rs.length c5 rs)/\(rs.length+k=K)/\(cX 65536 rs)/\(val 65536 rs*val 65536 rs*65536^(2*k)<=X)/\(X<(val 65536 rs+1)*(val 65536 rs+1)*65536^(2*k))/\(n=k)) ?_ ?_
 .apply Exists.intro;simp only[zQ,zR,zD,zE];exact⟨K,[],G0,0,O,d,c,e.here,dT.nil _ _,by simp,nB _,by simp[val],aW,O⟩
 intro n vs wr hI u;obtain⟨k,rs,A5,c5,rfl,d,c,e,f,bA,U,ay,az,hn⟩:=hI;simp only[zu,zF,zG];refine aV (λK8 aN=>aV (λK9 aP=>am (C aI (C (Yr O O) ?_))));simp only[I];refine E (aP _ _ ?_);refine bB O ?_ ?_<;>intro bu
 .obtain⟨i,rfl⟩:∃i,k=i+1:=⟨k-1,by omega⟩
  rw[show (((i+1:Nat):Int)-1)=(i:Int) by omega];refine ja (aN _ _ ?_);refine aV (λbf aY=>jd (aV (λbg aZ=>am (C aK ?_))));simp only[I];refine E (aZ _ _ ?_);refine aV (λbh a0=>am (C aK ?_));simp only[I];refine E (a0 _ _ ?_);refine aV (λbi a1=>jd ?_);refine Gh [7,8] [9,10,11,26,27,28,29,30,31,32,33,34,35,36,37,38,39,40,41,42,43,44,45,46,47,48,49,50,51,52,53] (λn vs y=>∃(low high:Nat),vs=[G (low:Int),G (high:Int)]/\(eQ w y)/\(fK y J [.bool X9,.string ⟨#[]⟩] 95)/\(dT y y.heap.size A4 (digs 65536 X).length c4 (digs 65536 X))/\(dT y y.heap.size A5 rs.length c5 rs)/\((low+65536*val 65536 rs)*(low+65536*val 65536 rs)*65536^(2*i)<=X)/\(X<(high+65536*val 65536 rs)*(high+65536*val 65536 rs)*65536^(2*i))/\(low<high)/\(high<=65536)/\(n=high-low)) ?_ ?_
  .apply Exists.intro;simp only[zQ,zR,zD,zE];exact⟨0,65536,O,d,c,e.here,f.here,alJ ay,aiV az,by omega,by omega,O⟩
  intro n vs wr hI u;obtain⟨low,high,rfl,d,c,e,f,af,ag,bw,ah,bz⟩:=hI;simp only[zu,zF,zG];refine aV (λbj a2=>aV (λbk a3=>am (C aI (C aI (C (zW O O (cF (by omega) (by omega))) ?_)))));simp only[I];refine C (acv O O) ?_;simp only[I];refine E (a3 _ _ ?_);refine bB O ?_ ?_<;>intro aR
  .have ad:low<(low+high) / 2:=by omega
   have ae:(low+high) / 2<high:=by omega
   refine ja ?_;refine a2 _ _ (jd (aV (λbl a4=>am (C aI (C aI (C (fZ O O (cF (by omega) (by omega))) ?_))))));simp only[I];rw[show ((low:Int)+(high:Int))=((low+high:Nat):Int) by omega];refine C (iO O O (by omega) (oO (m:=low+high) (n:=2) (by omega))) (C aK ?_);simp only[I];refine E ?_;obtain⟨m,hm⟩:∃m,m=(low+high) / 2:=⟨_,rfl⟩
   rw[<-hm] at ad ae ⊢;have aj:m<65536:=by omega
   refine a4 _ _ ?_;refine aV (λbm a5=>?_);obtain⟨aw,r,e,f⟩:=Uq e f;refine am (C aI ?_);simp only[I];refine fR dS (z:=G 0) (by kernel_rfl) O (by simp only[I];rfl) (by rfl) ?_;intro w5 Y b M Q;have s:=ax r.h M;have ak:=ax d.size M;have bd:Y≠J:=gp (cj c.lt M);have au:=cj c.lt M;replace c:=c.ext b;(try replace e:=e.ext b);(try replace f:=f.ext b);replace d:=d.trans b;clear b;simp only[I];refine C aI ?_;simp only[I];have ab:=zY.full (base:=Y) (n:=1) Q (ba _) rfl (by omega);refine wN rfl dS nR rfl (by decide) rfl ab rfl (news:=rs.map uX) (by simp) f.rows (λu D=>by obtain⟨x,_,rfl⟩:=c_.1 D;rfl) (by omega) (by omega) (lo Q.lt) ?_;intro v6 L B j _;replace d:=d.grown j ak;replace c:=c.grew j au;replace e:=(e.grew j s).here;replace f:=(f.grew j s).here;clear Q ab;obtain⟨A6,c6,rfl,g,_⟩:=dT.of_owns (xs:=m::rs) (by simpa[Nat.add_comm] using B) (by first|simp;done|(simp only[be];omega)) (oL (by omega) U) (by omega);simp only[I];refine C aK ?_;simp only[I];refine E (a5 _ _ ?_);refine aV (λbn ai=>?_);obtain⟨aw,r,e,f⟩:=Uq e f;refine Ec (.take 0 (.take 1 (.take 3 (.take 5 (.two 2 (.one 4 (.one 6 (.one 7 (.one 8 (.take 9 .nil))))) 4 (.two 2 (.one 6 (.one 7 (.one 8 (.take 9 .nil)))) 6 (.two 2 (.one 7 (.one 8 (.take 9 .nil))) 7 (.one 2 (.one 8 (.take 9 .nil)))))))))) aD (by kernel_rfl) (bT (λ_ _ _ _ _ h=>h)) ?_;intro w6 b;replace c:=c.ext b;(try replace e:=e.ext b);(try replace f:=f.ext b);(try replace g:=g.ext b);(try replace r:=r.ext b);replace d:=d.trans b;clear b;refine⟨_,akr.nil,?_⟩;refine eC (by simp only[zw];rfl) (bY aI ?_);simp only[I];refine bO ?_;refine eC (by simp only[zw];rfl) (bY (qW rfl rfl ((cF (by omega) (by omega)).trans (show (2:Int)*(i:Int)=((2*i:Nat):Int) by omega))) ?_);simp only[I];refine bO ?_;refine eC (by simp only[zw];rfl) (bY aI ?_);simp only[I];refine bO ?_;refine eC (by simp only[zw];rfl) (bY aI ?_);simp only[I];refine bO ?_;refine Po (by simp only[zw];rfl) (by simp only[zw];rfl) ?_ ?_
   .refine lD dS nR O O O (show _=2*i by omega) (show _=2*i by omega) (by omega) (by omega) (by omega) (by omega) ?_;intro w7 A b q l;have s:=ax r.h q;have R:=ax d.size q;have av:A≠J:=gp (cj c.lt q);have V:=cj c.lt q;replace c:=c.ext b;(try replace e:=e.ext b);(try replace f:=f.ext b);(try replace g:=g.ext b);replace d:=d.trans b;clear b;simp only[I];refine E ⟨trivial,?_⟩;refine jQ (by simp only[zw];rfl) ?_;refine aX O O (tW _ g) ?_;rintro v w8 b rfl;replace c:=c.ext b;replace l:=l.ext b;(try replace e:=e.ext b);(try replace f:=f.ext b);(try replace g:=g.ext b);replace d:=d.trans b;clear b;simp only[I];refine E ⟨trivial,?_⟩;refine jQ (by simp only[zw];rfl) ?_;refine aX O O (tW _ g) ?_;rintro v L b rfl;replace c:=c.ext b;replace l:=l.ext b;(try replace e:=e.ext b);(try replace f:=f.ext b);(try replace g:=g.ext b);replace d:=d.trans b;clear b;simp only[I];refine E ⟨trivial,?_⟩;refine jQ (by simp only[zw];rfl) ?_;have T:=kJ (m::rs);simp only[be] at T;refine aX O O (Ly _ g.trimmed g.trimmed (by omega) (by omega)) ?_;rintro v ap b ⟨⟨A8,c8,rfl,o⟩,_⟩;replace c:=c.ext b;replace l:=l.ext b;(try replace e:=e.ext b);(try replace f:=f.ext b);(try replace o:=o.ext b);replace d:=d.trans b;clear b;simp only[lE] at o ⊢;simp only[I];refine E ⟨trivial,?_⟩;refine jQ (by simp only[zw];rfl) ?_;have ao:(digs 65536 (val 65536 (m::rs)*val 65536 (m::rs))).length<=2*(rs.length+1):=abD aj U;have F:=zY.full (base:=A) (n:=2*i) l (ba _) (by simp) (by omega);refine wN rfl dS nR rfl (by decide) rfl F rfl (news:=(digs 65536 (val 65536 (m::rs)*val 65536 (m::rs))).map uX) (by simp) o.rows (λu D=>by obtain⟨x,_,rfl⟩:=c_.1 D;rfl) (by omega) (by omega) (lo l.lt) ?_;intro v6 L B j _;replace d:=d.grown j R;replace c:=c.grew j V;replace e:=(e.grew j s).here;replace f:=(f.grew j s).here;clear l F;obtain⟨A9,c9,rfl,p,_⟩:=dT.of_owns (xs:=bx (2*i) 0++digs 65536 (val 65536 (m::rs)*val 65536 (m::rs))) (by rw[db,<-pR];exact B) (by simp) (λx P=>by rcases bv.1 P with h|h;rw[fc h];decide;exact mO _ x h) (by omega);simp only[I];refine E ⟨trivial,?_⟩;refine eC (by simp only[zw];rfl) (bY aK ?_);simp only[I];refine bO (xR ?_);refine ai _ _ (aV (λbo a6=>am (C aI ?_)));simp only[I];refine aX O O (tW _ p) ?_;rintro v aq b rfl;replace c:=c.ext b;(try replace e:=e.ext b);(try replace f:=f.ext b);(try replace p:=p.ext b);replace d:=d.trans b;clear b;simp only[I];refine C aI ?_;simp only[I];have S:=p.trimmed;refine aX O O (Au _ S e (mS _) (mD _)) ?_;rintro v ar b rfl;replace c:=c.ext b;(try replace e:=e.ext b);(try replace f:=f.ext b);replace d:=d.trans b;clear b;rw[lE,eY,Lm];simp only[I];refine C (Hr O O) ?_;simp only[I];refine E (a6 _ _ ?_);refine bB O ?_ ?_<;>intro H
    .have t:=oF.1 H;refine am (C aI (C aK ?_));simp only[I];refine E ?_;simp only[cn,Exit.then];refine⟨high-m,_,?_,O,?_,?_⟩
     .omega
     .simp only[I,zv]
     simp only[zQ,zR,zD,zE];exact⟨m,high,O,d,c,e.here,f.here,t,ag,ae,ah,O⟩
    have t:=pk λh=>H (oF.2 h);refine am (C aI (C aK ?_));simp only[I];refine E ?_;simp only[cn,Exit.then];refine⟨m-low,_,?_,O,?_,?_⟩
    .omega
    .simp only[I,zv]
    simp only[zQ,zR,zD,zE];exact⟨low,m,O,d,c,e.here,f.here,af,t,ad,by omega,O⟩
   refine aX O O (tW _ g) ?_;rintro v w7 b rfl;replace c:=c.ext b;(try replace e:=e.ext b);(try replace f:=f.ext b);(try replace g:=g.ext b);(try replace r:=r.ext b);replace d:=d.trans b;clear b;simp only[I];refine E ⟨trivial,?_⟩;refine Po (by simp only[zw];rfl) (by simp only[zw];rfl) ?_ ?_
   .refine lD dS nR O O O (show _=2*i by omega) (show _=2*i by omega) (by omega) (by omega) (by omega) (by omega) ?_;intro w8 A b q l;have s:=ax r.h q;have R:=ax d.size q;have av:A≠J:=gp (cj c.lt q);have V:=cj c.lt q;replace c:=c.ext b;(try replace e:=e.ext b);(try replace f:=f.ext b);(try replace g:=g.ext b);replace d:=d.trans b;clear b;simp only[I];refine E ⟨trivial,?_⟩;refine jQ (by simp only[zw];rfl) ?_;refine aX O O (tW _ g) ?_;rintro v L b rfl;replace c:=c.ext b;replace l:=l.ext b;(try replace e:=e.ext b);(try replace f:=f.ext b);(try replace g:=g.ext b);replace d:=d.trans b;clear b;simp only[I];refine E ⟨trivial,?_⟩;refine jQ (by simp only[zw];rfl) ?_;have T:=kJ (m::rs);simp only[be] at T;refine aX O O (Ly _ g.trimmed g.trimmed (by omega) (by omega)) ?_;rintro v ap b ⟨⟨A8,c8,rfl,o⟩,_⟩;replace c:=c.ext b;replace l:=l.ext b;(try replace e:=e.ext b);(try replace f:=f.ext b);(try replace o:=o.ext b);replace d:=d.trans b;clear b;simp only[lE] at o ⊢;simp only[I];refine E ⟨trivial,?_⟩;refine jQ (by simp only[zw];rfl) ?_;have ao:(digs 65536 (val 65536 (m::rs)*val 65536 (m::rs))).length<=2*(rs.length+1):=abD aj U;have F:=zY.full (base:=A) (n:=2*i) l (ba _) (by simp) (by omega);refine wN rfl dS nR rfl (by decide) rfl F rfl (news:=(digs 65536 (val 65536 (m::rs)*val 65536 (m::rs))).map uX) (by simp) o.rows (λu D=>by obtain⟨x,_,rfl⟩:=c_.1 D;rfl) (by omega) (by omega) (lo l.lt) ?_;intro v6 L B j _;replace d:=d.grown j R;replace c:=c.grew j V;replace e:=(e.grew j s).here;replace f:=(f.grew j s).here;clear l F;obtain⟨A9,c9,rfl,p,_⟩:=dT.of_owns (xs:=bx (2*i) 0++digs 65536 (val 65536 (m::rs)*val 65536 (m::rs))) (by rw[db,<-pR];exact B) (by simp) (λx P=>by rcases bv.1 P with h|h;rw[fc h];decide;exact mO _ x h) (by omega);simp only[I];refine E ⟨trivial,?_⟩;refine eC (by simp only[zw];rfl) (bY aK ?_);simp only[I];refine bO (xR ?_);refine ai _ _ (aV (λbp a7=>am (C aI ?_)));simp only[I];refine aX O O (tW _ p) ?_;rintro v aq b rfl;replace c:=c.ext b;(try replace e:=e.ext b);(try replace f:=f.ext b);(try replace p:=p.ext b);replace d:=d.trans b;clear b;simp only[I];refine C aI ?_;simp only[I];have S:=p.trimmed;refine aX O O (Au _ S e (mS _) (mD _)) ?_;rintro v ar b rfl;replace c:=c.ext b;(try replace e:=e.ext b);(try replace f:=f.ext b);replace d:=d.trans b;clear b;rw[lE,eY,Lm];simp only[I];refine C (Hr O O) ?_;simp only[I];refine E (a7 _ _ ?_);refine bB O ?_ ?_<;>intro H
    .have t:=oF.1 H;refine am (C aI (C aK ?_));simp only[I];refine E ?_;simp only[cn,Exit.then];refine⟨high-m,_,?_,O,?_,?_⟩
     .omega
     .simp only[I,zv]
     simp only[zQ,zR,zD,zE];exact⟨m,high,O,d,c,e.here,f.here,t,ag,ae,ah,O⟩
    have t:=pk λh=>H (oF.2 h);refine am (C aI (C aK ?_));simp only[I];refine E ?_;simp only[cn,Exit.then];refine⟨m-low,_,?_,O,?_,?_⟩
    .omega
    .simp only[I,zv]
    simp only[zQ,zR,zD,zE];exact⟨low,m,O,d,c,e.here,f.here,af,t,ad,by omega,O⟩
   refine aX O O (tW _ g) ?_;rintro v w8 b rfl;replace c:=c.ext b;(try replace e:=e.ext b);(try replace f:=f.ext b);(try replace g:=g.ext b);(try replace r:=r.ext b);replace d:=d.trans b;clear b;simp only[I];refine E ⟨trivial,?_⟩;refine Po (by simp only[zw];rfl) (by simp only[zw];rfl) ?_ ?_
   .refine lD dS nR O O O (show _=2*i by omega) (show _=2*i by omega) (by omega) (by omega) (by omega) (by omega) ?_;intro L A b q l;have s:=ax r.h q;have R:=ax d.size q;have av:A≠J:=gp (cj c.lt q);have V:=cj c.lt q;replace c:=c.ext b;(try replace e:=e.ext b);(try replace f:=f.ext b);(try replace g:=g.ext b);replace d:=d.trans b;clear b;simp only[I];refine E ⟨trivial,?_⟩;refine jQ (by simp only[zw];rfl) ?_;have T:=kJ (m::rs);simp only[be] at T;refine aX O O (Ly _ g.trimmed g.trimmed (by omega) (by omega)) ?_;rintro v ap b ⟨⟨A8,c8,rfl,o⟩,_⟩;replace c:=c.ext b;replace l:=l.ext b;(try replace e:=e.ext b);(try replace f:=f.ext b);(try replace o:=o.ext b);replace d:=d.trans b;clear b;simp only[lE] at o ⊢;simp only[I];refine E ⟨trivial,?_⟩;refine jQ (by simp only[zw];rfl) ?_;have ao:(digs 65536 (val 65536 (m::rs)*val 65536 (m::rs))).length<=2*(rs.length+1):=abD aj U;have F:=zY.full (base:=A) (n:=2*i) l (ba _) (by simp) (by omega);refine wN rfl dS nR rfl (by decide) rfl F rfl (news:=(digs 65536 (val 65536 (m::rs)*val 65536 (m::rs))).map uX) (by simp) o.rows (λu D=>by obtain⟨x,_,rfl⟩:=c_.1 D;rfl) (by omega) (by omega) (lo l.lt) ?_;intro v6 L B j _;replace d:=d.grown j R;replace c:=c.grew j V;replace e:=(e.grew j s).here;replace f:=(f.grew j s).here;clear l F;obtain⟨A9,c9,rfl,p,_⟩:=dT.of_owns (xs:=bx (2*i) 0++digs 65536 (val 65536 (m::rs)*val 65536 (m::rs))) (by rw[db,<-pR];exact B) (by simp) (λx P=>by rcases bv.1 P with h|h;rw[fc h];decide;exact mO _ x h) (by omega);simp only[I];refine E ⟨trivial,?_⟩;refine eC (by simp only[zw];rfl) (bY aK ?_);simp only[I];refine bO (xR ?_);refine ai _ _ (aV (λbq a8=>am (C aI ?_)));simp only[I];refine aX O O (tW _ p) ?_;rintro v aq b rfl;replace c:=c.ext b;(try replace e:=e.ext b);(try replace f:=f.ext b);(try replace p:=p.ext b);replace d:=d.trans b;clear b;simp only[I];refine C aI ?_;simp only[I];have S:=p.trimmed;refine aX O O (Au _ S e (mS _) (mD _)) ?_;rintro v ar b rfl;replace c:=c.ext b;(try replace e:=e.ext b);(try replace f:=f.ext b);replace d:=d.trans b;clear b;rw[lE,eY,Lm];simp only[I];refine C (Hr O O) ?_;simp only[I];refine E (a8 _ _ ?_);refine bB O ?_ ?_<;>intro H
    .have t:=oF.1 H;refine am (C aI (C aK ?_));simp only[I];refine E ?_;simp only[cn,Exit.then];refine⟨high-m,_,?_,O,?_,?_⟩
     .omega
     .simp only[I,zv]
     simp only[zQ,zR,zD,zE];exact⟨m,high,O,d,c,e.here,f.here,t,ag,ae,ah,O⟩
    have t:=pk λh=>H (oF.2 h);refine am (C aI (C aK ?_));simp only[I];refine E ?_;simp only[cn,Exit.then];refine⟨m-low,_,?_,O,?_,?_⟩
    .omega
    .simp only[I,zv]
    simp only[zQ,zR,zD,zE];exact⟨low,m,O,d,c,e.here,f.here,af,t,ad,by omega,O⟩
   have T:=kJ (m::rs);simp only[be] at T;refine aX O O (Ly _ g.trimmed g.trimmed (by omega) (by omega)) ?_;rintro v L b ⟨⟨A8,c8,rfl,o⟩,_⟩;replace c:=c.ext b;(try replace e:=e.ext b);(try replace f:=f.ext b);(try replace o:=o.ext b);(try replace r:=r.ext b);replace d:=d.trans b;clear b;simp only[lE] at o ⊢;simp only[I];refine E ⟨trivial,?_⟩;refine jQ (by simp only[zw];rfl) ?_;refine lD dS nR O O O (show _=2*i by omega) (show _=2*i by omega) (by omega) (by omega) (by omega) (by omega) ?_;intro ap A b q l;have s:=ax r.h q;have R:=ax d.size q;have av:A≠J:=gp (cj c.lt q);have V:=cj c.lt q;replace c:=c.ext b;(try replace e:=e.ext b);(try replace f:=f.ext b);(try replace o:=o.ext b);replace d:=d.trans b;clear b;simp only[I];refine E ⟨trivial,?_⟩;refine jQ (by simp only[zw];rfl) ?_;have ao:(digs 65536 (val 65536 (m::rs)*val 65536 (m::rs))).length<=2*(rs.length+1):=abD aj U;have F:=zY.full (base:=A) (n:=2*i) l (ba _) (by simp) (by omega);refine wN rfl dS nR rfl (by decide) rfl F rfl (news:=(digs 65536 (val 65536 (m::rs)*val 65536 (m::rs))).map uX) (by simp) o.rows (λu D=>by obtain⟨x,_,rfl⟩:=c_.1 D;rfl) (by omega) (by omega) (lo l.lt) ?_;intro v6 L B j _;replace d:=d.grown j R;replace c:=c.grew j V;replace e:=(e.grew j s).here;replace f:=(f.grew j s).here;clear l F;obtain⟨A9,c9,rfl,p,_⟩:=dT.of_owns (xs:=bx (2*i) 0++digs 65536 (val 65536 (m::rs)*val 65536 (m::rs))) (by rw[db,<-pR];exact B) (by simp) (λx P=>by rcases bv.1 P with h|h;rw[fc h];decide;exact mO _ x h) (by omega);simp only[I];refine E ⟨trivial,?_⟩;refine eC (by simp only[zw];rfl) (bY aK ?_);simp only[I];refine bO (xR ?_);refine ai _ _ (aV (λbr a9=>am (C aI ?_)));simp only[I];refine aX O O (tW _ p) ?_;rintro v aq b rfl;replace c:=c.ext b;(try replace e:=e.ext b);(try replace f:=f.ext b);(try replace p:=p.ext b);replace d:=d.trans b;clear b;simp only[I];refine C aI ?_;simp only[I];have S:=p.trimmed;refine aX O O (Au _ S e (mS _) (mD _)) ?_;rintro v ar b rfl;replace c:=c.ext b;(try replace e:=e.ext b);(try replace f:=f.ext b);replace d:=d.trans b;clear b;rw[lE,eY,Lm];simp only[I];refine C (Hr O O) ?_;simp only[I];refine E (a9 _ _ ?_);refine bB O ?_ ?_<;>intro H
   .have t:=oF.1 H;refine am (C aI (C aK ?_));simp only[I];refine E ?_;simp only[cn,Exit.then];refine⟨high-m,_,?_,O,?_,?_⟩
    .omega
    .simp only[I,zv]
    simp only[zQ,zR,zD,zE];exact⟨m,high,O,d,c,e.here,f.here,t,ag,ae,ah,O⟩
   have t:=pk λh=>H (oF.2 h);refine am (C aI (C aK ?_));simp only[I];refine E ?_;simp only[cn,Exit.then];refine⟨m-low,_,?_,O,?_,?_⟩
   .omega
   .simp only[I,zv]
   simp only[zQ,zR,zD,zE];exact⟨low,m,O,d,c,e.here,f.here,af,t,ad,by omega,O⟩
  refine wp_exit ?_;refine a1 _ _ ?_;obtain⟨aw,r,e,f⟩:=Uq e f;refine am (C aI ?_);simp only[I];refine fR dS (z:=G 0) (by kernel_rfl) O (by simp only[I];rfl) (by rfl) ?_;intro w5 Y b M Q;have s:=ax r.h M;have ak:=ax d.size M;have bd:Y≠J:=gp (cj c.lt M);have au:=cj c.lt M;replace c:=c.ext b;(try replace e:=e.ext b);(try replace f:=f.ext b);replace d:=d.trans b;clear b;simp only[I];refine C aI ?_;simp only[I];have ab:=zY.full (base:=Y) (n:=1) Q (ba _) rfl (by omega);refine wN rfl dS nR rfl (by decide) rfl ab rfl (news:=rs.map uX) (by simp) f.rows (λu D=>by obtain⟨x,_,rfl⟩:=c_.1 D;rfl) (by omega) (by omega) (lo Q.lt) ?_;intro v6 L B j _;replace d:=d.grown j ak;replace c:=c.grew j au;replace e:=(e.grew j s).here;clear Q ab;obtain⟨A6,c6,rfl,g,_⟩:=dT.of_owns (xs:=low::rs) (by simpa[Nat.add_comm] using B) (by first|simp;done|(simp only[be];omega)) (oL (by omega) U) (by omega);simp only[I];refine C aK ?_;simp only[I];refine E (aY _ _ ?_);refine am (C aI (C (zW O O (cF (by omega) (by omega))) (C aK ?_)));simp only[I];refine E ?_;simp only[cn,Exit.then];refine⟨i,_,?_,O,?_,?_⟩
  .omega
  .simp only[I,zv]
  simp only[zQ,zR,zD,zE];exact⟨i,low::rs,A6,c6,O,d,c,e.here,g.here,by simp;omega,oL (by omega) U,by rw[Up];exact af,by rw[Up];exact aps ag aR,O⟩
 obtain rfl:k=0:=by omega
 have bc:=alK ay az;refine wp_exit (aL _ _ ?_);refine aV (λbs bb=>am (C aI ?_));simp only[I];refine aX O O (yG _ f (by omega)) ?_;rintro v w5 b rfl;replace c:=c.ext b;replace d:=d.trans b;clear b;rw[bc,sV];simp only[I];refine tY O (by simp only[I];rfl) (by exact aO) c (by simp) (by simp[nf]) ?_;clear c;intro w6 hC c;replace d:=d.chg hC aA;clear hC;simp only[zy,zx,bR,aa] at c;refine C aK ?_;simp only[I];refine E (bb _ _ ?_);refine i_ ?_;try simp only[cn,Exit.then]
 refine jG O ⟨_,O,(c.lies cE aO O O)⟩ O ?_;try simp only[zD,zE]
 exact⟨_,O,d,O⟩
end
section
set_option maxRecDepth 100000
attribute [local irreducible] bf M fY cJ cU Code.wp
attribute [local congr] dK dL cZ dJ
variable{q u:P3}{ms:List Mv}{y0:Int}
def awc{p:P3}:eS G1 276 [pt p] (G p.x):=by
 intro w;refine⟨ak5,?_⟩;have m:=Mem.refl w
 go_enter func276,ntmps276
 apply kX 12 [1] m;simp only[↓U,amp,j,aa];intro a u m;exact aU O O ⟨_,O,m.ext,O⟩
def awd{p:P3}:eS G1 277 [pt p] (G p.y):=by
 intro w;refine⟨ak6,?_⟩;have m:=Mem.refl w
 go_enter func277,ntmps277
 apply kX 12 [1] m;simp only[↓U,amq,j,aa];intro a u m;exact aU O O ⟨_,O,m.ext,O⟩
def awe{p:P3}:eS G1 278 [pt p] (G p.z):=by
 intro w;refine⟨ak7,?_⟩;have m:=Mem.refl w
 go_enter func278,ntmps278
 apply kX 12 [1] m;simp only[↓U,amr,j,aa];intro a u m;exact aU O O ⟨_,O,m.ext,O⟩
def at5  : eS G1 195 [] (.agg #[.func (.func 276) #[] #[],.func (.func 277) #[] #[],.func (.func 278) #[] #[]]):=by
 intro w;refine⟨ak4,?_⟩;have m:=Mem.refl w
 go_enter func195,ntmps195
 apply kX 10 [0] m;simp only[↓U,atm,atn,atl,aa];intro a u m;exact aU O ⟨_,O,((m.b 0 O).full agT Nj)⟩ ⟨_,O,m.ext,O⟩
def ana  : eS G1 336 [G 0] (.tuple #[G 1,G 2]):=by
 intro w;refine⟨ae2,?_⟩;have m:=Mem.refl w
 go_enter func336,ntmps336
 apply fD 9 [0] m;simp only[↓U,R];apply I0;omega;refine C (cW (m:=1) (n:=3) (r:=1) O O (by decide) (by decide)) ?_;apply aJ 2 [0] m;simp only[↓U,R];apply I0;omega;refine C (cW (m:=2) (n:=3) (r:=2) O O (by decide) (by decide)) ?_;apply aJ 4 [] m;simp only[↓U];exact jG O O O ⟨_,O,m.ext,O⟩
def anb  : eS G1 336 [G 1] (.tuple #[G 2,G 0]):=by
 intro w;refine⟨ae2,?_⟩;have m:=Mem.refl w
 go_enter func336,ntmps336
 apply fD 9 [0] m;simp only[↓U,R];apply I0;omega;refine C (cW (m:=2) (n:=3) (r:=2) O O (by decide) (by decide)) ?_;apply aJ 2 [0] m;simp only[↓U,R];apply I0;omega;refine C (cW (m:=3) (n:=3) (r:=0) O O (by decide) (by decide)) ?_;apply aJ 4 [] m;simp only[↓U];exact jG O O O ⟨_,O,m.ext,O⟩
def anc  : eS G1 336 [G 2] (.tuple #[G 0,G 1]):=by
 intro w;refine⟨ae2,?_⟩;have m:=Mem.refl w
 go_enter func336,ntmps336
 apply fD 9 [0] m;simp only[↓U,R];apply I0;omega;refine C (cW (m:=3) (n:=3) (r:=0) O O (by decide) (by decide)) ?_;apply aJ 2 [0] m;simp only[↓U,R];apply I0;omega;refine C (cW (m:=4) (n:=3) (r:=1) O O (by decide) (by decide)) ?_;apply aJ 4 [] m;simp only[↓U];exact jG O O O ⟨_,O,m.ext,O⟩
def mQ{p:P3}[I3 p][I3 q]:eS G1 223 [pt p,pt q] (wv (q.sub p)):=by
 intro w;refine⟨bK func223 (by kernel_rfl),?_⟩;have m:=Mem.refl w
 go_enter func223,ntmps223
 apply kX 13 [0] m;simp only[↓U,afN];intro a c d e u m;refine tK m O O at5 17 [4,1,0] ?_;simp only[↓U];apply I0;omega;intro u m;refine C (Ia O O) ?_;apply aJ 3 [0] m;simp only[↓U];refine dQ m 11 aD (by kernel_rfl) ?_;simp only[zy];refine fE 3 [3] ?_;simp only[↓U,aN];refine jF O O awc ?_;simp only[I];refine jF O O (qU Iw.h) (L aI ?_);simp only[I];refine ql O (λu m=>((m.b 3 O).full aF aA)) ?_;simp only[I];refine jF O O awc ?_;simp only[I];refine jF O O (qU Iw.h) ?_;simp only[I];refine jF O O (Ih D.up D.up) (fE 1 [] ?_);simp only[↓U,qT,ag,ah,aa];apply I0;omega;refine bM ?_;intro u m;refine cB m 0 O O O aO (X O) O ?_;intro u m;simp only[zy,zx,bR,zF,zG,aa] at m;refine E ?_;apply S 18 [1,0] m;simp only[↓U,R];apply I0;omega;refine C (Ib O O) ?_;apply aJ 3 [0] m;simp only[↓U];refine dQ m 11 aD (by kernel_rfl) ?_;simp only[zy];refine fE 3 [3] ?_;simp only[↓U,aN];refine jF O O awd ?_;simp only[I];refine jF O O (qU Iw.h) (L aI ?_);simp only[I];refine ql O (λu m=>((m.b 3 O).full aF aA)) ?_;simp only[I];refine jF O O awd ?_;simp only[I];refine jF O O (qU Iw.h) ?_;simp only[I];refine jF O O (Ih D.up D.up) (fE 1 [] ?_);simp only[↓U,qT,ag,ah,aa];apply I0;omega;refine bM ?_;intro u m;refine cB m 0 O O O aO (X O) O ?_;intro u m;simp only[zy,zx,bR,zF,zG,aa] at m;refine E ?_;apply S 18 [1,0] m;simp only[↓U,R];apply I0;omega;refine C (Ic O O) ?_;apply aJ 3 [0] m;simp only[↓U];refine dQ m 11 aD (by kernel_rfl) ?_;simp only[zy];refine fE 3 [3] ?_;simp only[↓U,aN];refine jF O O awe ?_;simp only[I];refine jF O O (qU Iw.h) (L aI ?_);simp only[I];refine ql O (λu m=>((m.b 3 O).full aF aA)) ?_;simp only[I];refine jF O O awe ?_;simp only[I];refine jF O O (qU Iw.h) ?_;simp only[I];refine jF O O (Ih D.up D.up) (fE 1 [] ?_);simp only[↓U,qT,ag,ah,aa];apply I0;omega;refine bM ?_;intro u m;refine cB m 0 O O O aO (X O) O ?_;intro u m;simp only[zy,zx,bR,zF,zG,aa] at m;refine E ?_;apply Lc 19 [2,1,1] m;simp only[↓U,afM,R,aa];apply I0;omega;intro u m;exact aU O ⟨_,O,((m.b 1 O).full agV Zp)⟩ ⟨_,O,m.ext,O⟩
def Cm{v:P3}(f:Bv 400000 u)(g:Bv 400000 v):eS G1 302 [wv u,wv v] (wv (u.cross v)):=by
 intro w;refine⟨bK func302 (by kernel_rfl),?_⟩;have m:=Mem.refl w
 go_enter func302,ntmps302
 apply kX 35 [4,1,0] m;simp only[↓U,afN];intro a c d e;apply I0;omega;intro u m;refine tK m O O ana 6 [0] ?_;simp only[↓U];intro u m;refine dQ m 17 aD (by kernel_rfl) ?_;simp only[zy];refine fE 7 [4,3] ?_;simp only[↓U,qT,fB,ag,ah,aa];apply I0;omega;refine jF O O (vD D.up D.up) (fE 6 [4,3] ?_);simp only[↓U,qT,fB,ag,ah,aa];apply I0;omega;refine jF O O (vD D.up D.up) ?_;simp only[I];refine jF O O (Ih D.up D.up) (fE 1 [] ?_);simp only[↓U,qT,ag,ah,aa];apply I0;omega;refine bM ?_;intro u m;refine cB m 0 O O O aO (X O) O ?_;intro u m;simp only[zy,zx,bR,zF,zG,aa] at m;refine E ?_;apply S 23 [1,0] m;simp only[↓U,R];apply I0;omega;refine tK m O O anb 6 [0] ?_;simp only[↓U];intro u m;refine dQ m 17 aD (by kernel_rfl) ?_;simp only[zy];refine fE 7 [4,3] ?_;simp only[↓U,qT,fB,ag,ah,aa];apply I0;omega;refine jF O O (vD D.up D.up) (fE 6 [4,3] ?_);simp only[↓U,qT,fB,ag,ah,aa];apply I0;omega;refine jF O O (vD D.up D.up) ?_;simp only[I];refine jF O O (Ih D.up D.up) (fE 1 [] ?_);simp only[↓U,qT,ag,ah,aa];apply I0;omega;refine bM ?_;intro u m;refine cB m 0 O O O aO (X O) O ?_;intro u m;simp only[zy,zx,bR,zF,zG,aa] at m;refine E ?_;apply S 23 [1,0] m;simp only[↓U,R];apply I0;omega;refine tK m O O anc 6 [0] ?_;simp only[↓U];intro u m;refine dQ m 17 aD (by kernel_rfl) ?_;simp only[zy];refine fE 7 [4,3] ?_;simp only[↓U,qT,fB,ag,ah,aa];apply I0;omega;refine jF O O (vD D.up D.up) (fE 6 [4,3] ?_);simp only[↓U,qT,fB,ag,ah,aa];apply I0;omega;refine jF O O (vD D.up D.up) ?_;simp only[I];refine jF O O (Ih D.up D.up) (fE 1 [] ?_);simp only[↓U,qT,ag,ah,aa];apply I0;omega;refine bM ?_;intro u m;refine cB m 0 O O O aO (X O) O ?_;intro u m;simp only[zy,zx,bR,zF,zG,aa] at m;refine E ?_;apply Lc 19 [2,1,1] m;simp only[↓U,afM,R,aa];apply I0;omega;intro u m;exact aU O ⟨_,O,((m.b 1 O).full agV Zp)⟩ ⟨_,O,m.ext,O⟩
def at6{b:Int}(a:Bd 1000000 b):eS G1 121 [.agg #[.bool X9,.string ⟨#[]⟩],W b] (W (0+b)):=by
 rw[<-aa1];exact We (Ra _) a
def Ft{v:P3}(f:Bv 400000 u)(g:Bv 400000 v):eS G1 224 [wv u,wv v] (W (u.dot v)):=by
 intro w;refine⟨bK func224 (by kernel_rfl),?_⟩;have m:=Mem.refl w
 go_enter func224,ntmps224
 apply kX 32 [4,1,0] m;simp only[↓U,lT];intro a c d e;apply I0;omega;intro u m;refine dQ m 9 aD (by kernel_rfl) ?_;simp only[zy];refine fE 7 [1,4,3] ?_;simp only[↓U,fB,qT,ag,ah,aa];apply I0;omega;refine jF O O (vD D.up D.up) ?_;simp only[I];refine jF O O (at6 D.up) (bM ?_);intro u m;simp only[I];refine cB m 0 O O O aO (X O) O ?_;intro u m;simp only[zy,zx,bR,zF,zG,aa] at m;refine E ?_;apply S 20 [1,0] m;simp only[↓U,R];apply I0;omega;refine dQ m 9 aD (by kernel_rfl) ?_;simp only[zy];refine fE 7 [1,4,3] ?_;simp only[↓U,fB,qT,ag,ah,aa];apply I0;omega;refine jF O O (vD D.up D.up) ?_;simp only[I];refine jF O O (We D.up D.up) (bM ?_);intro u m;simp only[I];refine cB m 0 O O O aO (X O) O ?_;intro u m;simp only[zy,zx,bR,zF,zG,aa] at m;refine E ?_;apply S 20 [1,0] m;simp only[↓U,R];apply I0;omega;refine dQ m 9 aD (by kernel_rfl) ?_;simp only[zy];refine fE 7 [1,4,3] ?_;simp only[↓U,fB,qT,ag,ah,aa];apply I0;omega;refine jF O O (vD D.up D.up) ?_;simp only[I];refine jF O O (We D.up D.up) (bM ?_);intro u m;simp only[I];refine cB m 0 O O O aO (X O) O ?_;intro u m;simp only[zy,zx,bR,zF,zG,aa] at m;refine E ?_;apply Lc 19 [2,1,1] m;simp only[↓U,fB,R,aa];apply I0;omega;intro u m;refine aU O ⟨_,O,((m.b 1 O).full cE aO)⟩ ?_;try simp only[zD,zE]
 exact⟨_,O,m.ext,by rw[<-P3.dot0];rfl⟩
def Wj{t:T3}[IT t]:eS G1 239 [tr t] (wv t.normal):=by
 intro w;refine⟨bK func239 (by kernel_rfl),?_⟩;have m:=Mem.refl w
 go_enter func239,ntmps239
 apply kX 6 [0] m;simp only[↓U,abT];intro a c u m;refine dQ m 11 aD (by kernel_rfl) ?_;simp only[zy];refine fE 4 [2,2] ?_;simp only[↓U,l,aN,ag,ah,aa];apply I0;omega;refine jF O O mQ (fE 4 [2,2] ?_);simp only[↓U,l,aN,ag,ah,aa];apply I0;omega;refine jF O O mQ ?_;simp only[I];refine jF O O (Cm Bv.of Bv.of) (bM ?_);intro u m;simp only[I];refine cB m 0 O O O Nk (X O) O ?_;intro u m;simp only[zy,zx,bR,zF,zG,aa] at m;refine E ?_;apply S 1 [] m;simp only[↓U];exact aU O ⟨_,O,((m.b 0 O).full agU Nk)⟩ ⟨_,O,m.ext,O⟩
def aqe{p:P3}[I3 p][I3 q]:eS G1 156 [pt p,pt q] (W ((q.sub p).dot (q.sub p))):=by
 intro w;refine⟨bK func156 (by kernel_rfl),?_⟩;have m:=Mem.refl w
 go_enter func156,ntmps156
 apply kX 10 [3,2,0] m;simp only[↓U,lT,aN];intro a c d u m;refine tK m O O mQ 7 [0,1,1,0] ?_;simp only[↓U,afN,afM,aa];intro e u m;refine tK m O O (Ft Bv.of Bv.of) 3 [1] ?_;simp only[↓U,fB,aa];intro u m;exact aU O ⟨_,O,((m.b 1 O).full cE aO)⟩ ⟨_,O,m.ext,O⟩
def qA{X:Nat}(w:an)(g:X<18446744073709551616):dF G1 255 [.int .u64 X] w (λv _=>∃n:Int,v=G n/\0<=n/\n<=64/\(n<=18->X<262144)):=by
 refine⟨bK func255 (by kernel_rfl),?_⟩;have m:=Mem.refl w
 go_enter func255,ntmps255
 apply fD 10 [0,0] m;simp only[↓U];refine bB O ?_ ?_<;>intro f
 .apply aG 3 [0] m;simp only[↓U];refine C (pE O O (by omega) aaV) ?_;apply aJ 11 [0,0] m;simp only[↓U];refine bB O ?_ ?_<;>intro e
  .apply aG 3 [0] m;simp only[↓U];refine C (pE O O (by omega) akD) ?_;apply aJ 13 [0,0] m;simp only[↓U,R];apply I0;omega;refine bB O ?_ ?_<;>intro d
   .apply aG 3 [0] m;simp only[↓U];refine C (pE O O (by omega) agF) ?_;apply aJ 12 [0] m;simp only[↓U,Fl,Dn,R];apply I0;omega;refine Ef rC (by kernel_rfl) O (by omega) ?_;intro b c a;simp only[bX,aZ,bF,au,s,aw,ay];apply aJ 5 [] m;simp only[↓U,Dn,Yk];apply I0;omega;exact aU O O ⟨_,O,m.ext,_,O,by omega,by omega,by omega⟩
   apply aG 6 [0] m;simp only[↓U,Fl,Dn];apply I0;omega;refine Ef rC (by kernel_rfl) O (by omega) ?_;intro b c a;simp only[bX,aZ,bF,au,s,aw,ay];apply aJ 5 [] m;simp only[↓U,Dn,Yk];apply I0;omega;exact aU O O ⟨_,O,m.ext,_,O,by omega,by omega,by omega⟩
  apply aG 7 [0,0] m;simp only[↓U];refine bB O ?_ ?_<;>intro d
  .apply aG 3 [0] m;simp only[↓U];refine C (pE O O (by omega) agF) ?_;apply aJ 12 [0] m;simp only[↓U,Fl,Dn,R];apply I0;omega;refine Ef rC (by kernel_rfl) O (by omega) ?_;intro b c a;simp only[bX,aZ,bF,au,s,aw,ay];apply aJ 5 [] m;simp only[↓U,Dn,Yk];apply I0;omega;exact aU O O ⟨_,O,m.ext,_,O,by omega,by omega,by omega⟩
  apply aG 6 [0] m;simp only[↓U,Fl,Dn];apply I0;omega;refine Ef rC (by kernel_rfl) O (by omega) ?_;intro b c a;simp only[bX,aZ,bF,au,s,aw,ay];apply aJ 5 [] m;simp only[↓U,Dn,Yk];apply I0;omega;exact aU O O ⟨_,O,m.ext,_,O,by omega,by omega,by omega⟩
 apply aG 7 [0,0] m;simp only[↓U];refine bB O ?_ ?_<;>intro e
 .apply aG 3 [0] m;simp only[↓U];refine C (pE O O (by omega) akD) ?_;apply aJ 13 [0,0] m;simp only[↓U,R];apply I0;omega;refine bB O ?_ ?_<;>intro d
  .apply aG 3 [0] m;simp only[↓U];refine C (pE O O (by omega) agF) ?_;apply aJ 12 [0] m;simp only[↓U,Fl,Dn,R];apply I0;omega;refine Ef rC (by kernel_rfl) O (by omega) ?_;intro b c a;simp only[bX,aZ,bF,au,s,aw,ay];apply aJ 5 [] m;simp only[↓U,Dn,Yk];apply I0;omega;exact aU O O ⟨_,O,m.ext,_,O,by omega,by omega,by omega⟩
  apply aG 6 [0] m;simp only[↓U,Fl,Dn];apply I0;omega;refine Ef rC (by kernel_rfl) O (by omega) ?_;intro b c a;simp only[bX,aZ,bF,au,s,aw,ay];apply aJ 5 [] m;simp only[↓U,Dn,Yk];apply I0;omega;exact aU O O ⟨_,O,m.ext,_,O,by omega,by omega,by omega⟩
 apply aG 7 [0,0] m;simp only[↓U];refine bB O ?_ ?_<;>intro d
 .apply aG 3 [0] m;simp only[↓U];refine C (pE O O (by omega) agF) ?_;apply aJ 12 [0] m;simp only[↓U,Fl,Dn,R];apply I0;omega;refine Ef rC (by kernel_rfl) O (by omega) ?_;intro b c a;simp only[bX,aZ,bF,au,s,aw,ay];apply aJ 5 [] m;simp only[↓U,Dn,Yk];apply I0;omega;exact aU O O ⟨_,O,m.ext,_,O,by omega,by omega,by omega⟩
 apply aG 6 [0] m;simp only[↓U,Fl,Dn];apply I0;omega;refine Ef rC (by kernel_rfl) O (by omega) ?_;intro b c a;simp only[bX,aZ,bF,au,s,aw,ay];apply aJ 5 [] m;simp only[↓U,Dn,Yk];apply I0;omega;exact aU O O ⟨_,O,m.ext,_,O,by omega,by omega,by omega⟩
def sL{p:P3}[a:S3 p][c:S3 q]:eS G1 299 [pt p,pt q] (nv (q.sub p)):=by
 intro w;refine⟨bK func299 (by kernel_rfl),?_⟩;have m:=Mem.refl w;have:=a.x;have:=a.y;have:=a.z;have:=c.x;have:=c.y;have:=c.z
 go_enter func299,ntmps299
 apply kX 27 [2,3,2,3,2,3,0] m;simp only[↓U,amu,iW,j,iX,kC,atw,amt,aa];intro d e f;apply I0;omega;intro u m;exact aU O ⟨_,O,((m.b 0 O).full agW Zq)⟩ ⟨_,O,m.ext,O⟩
def Ii{v:P3}(a:N3 u)(c:N3 v):eS G1 300 [nv u,nv v] (nv (u.cross v)):=by
 intro w;refine⟨bK func300 (by kernel_rfl),?_⟩;have m:=Mem.refl w
 go_enter func300,ntmps300
 apply kX 35 [4,1,0] m;simp only[↓U,amu];intro d e f g;apply I0;omega;intro u m;refine tK m O O ana 6 [0] ?_;simp only[↓U];intro u m;refine dQ m 17 aD (by kernel_rfl) ?_;simp only[zy];refine fE 7 [4,3] ?_;simp only[↓U,vO,j,ag,ah,aa];apply I0;omega;refine L (qW O O (Ze (Di a.y c.z))) (fE 6 [4,3] ?_);simp only[↓U,vO,j,ag,ah,aa];apply I0;omega;refine L (qW O O (Ze (Di a.z c.y))) (L (zW O O (ar0 (Di a.y c.z) (Di a.z c.y))) ?_);refine fE 1 [] ?_;simp only[↓U,vO,ag,ah,aa];apply I0;omega;refine bM ?_;intro u m;refine dP m 0 O O O bL (X O) ⟨O,O⟩ ?_;intro u m;simp only[I,zy,zx,bR,aa] at m;refine E ?_;apply S 23 [1,0] m;simp only[↓U,R];apply I0;omega;refine tK m O O anb 6 [0] ?_;simp only[↓U];intro u m;refine dQ m 17 aD (by kernel_rfl) ?_;simp only[zy];refine fE 7 [4,3] ?_;simp only[↓U,vO,j,ag,ah,aa];apply I0;omega;refine L (qW O O (Ze (Di a.z c.x))) (fE 6 [4,3] ?_);simp only[↓U,vO,j,ag,ah,aa];apply I0;omega;refine L (qW O O (Ze (Di a.x c.z))) (L (zW O O (ar0 (Di a.z c.x) (Di a.x c.z))) ?_);refine fE 1 [] ?_;simp only[↓U,vO,ag,ah,aa];apply I0;omega;refine bM ?_;intro u m;refine dP m 0 O O O bL (X O) ⟨O,O⟩ ?_;intro u m;simp only[I,zy,zx,bR,aa] at m;refine E ?_;apply S 23 [1,0] m;simp only[↓U,R];apply I0;omega;refine tK m O O anc 6 [0] ?_;simp only[↓U];intro u m;refine dQ m 17 aD (by kernel_rfl) ?_;simp only[zy];refine fE 7 [4,3] ?_;simp only[↓U,vO,j,ag,ah,aa];apply I0;omega;refine L (qW O O (Ze (Di a.x c.y))) (fE 6 [4,3] ?_);simp only[↓U,vO,j,ag,ah,aa];apply I0;omega;refine L (qW O O (Ze (Di a.y c.x))) (L (zW O O (ar0 (Di a.x c.y) (Di a.y c.x))) ?_);refine fE 1 [] ?_;simp only[↓U,vO,ag,ah,aa];apply I0;omega;refine bM ?_;intro u m;refine dP m 0 O O O bL (X O) ⟨O,O⟩ ?_;intro u m;simp only[I,zy,zx,bR,aa] at m;refine E ?_;apply Lc 19 [2,1,1] m;simp only[↓U,amt,R,aa];apply I0;omega;intro u m;exact aU O ⟨_,O,((m.b 1 O).full agW Zq)⟩ ⟨_,O,m.ext,O⟩
def ab4{n:Int}:eS G1 301 [G n] (G (cA n)):=by
 intro w;refine⟨bK func301 (by kernel_rfl),?_⟩;have m:=Mem.refl w
 go_enter func301,ntmps301
 apply fD 12 [0,0] m;simp only[↓U];refine bB O ?_ ?_<;>intro a
 .apply aG 5 [] m;simp only[↓U];refine aU O O ?_;try simp only[zD,zE]
  exact⟨_,O,m.ext,by rw[My (by assumption)]⟩
 apply aG 6 [0,0] m;simp only[↓U];refine bB O ?_ ?_<;>intro b
 .apply aG 5 [] m;simp only[↓U];refine aU O O ?_;try simp only[zD,zE]
  exact⟨_,O,m.ext,by rw[Mz (by assumption)]⟩
 apply aG 7 [] m;simp only[↓U];refine aU O O ?_;try simp only[zD,zE]
 exact⟨_,O,m.ext,by rw[show n=0 by omega];rfl⟩
def ahw(m n:Int):(if m<n then n else m)=max m n:=by split<;>omega
def aqf{w:an}{a:Addr}{e:E3}(h:jS w a (bG e)):jS w a [G e.1.x,G e.1.y,G e.1.z,G e.2.x,G e.2.y,G e.2.z]:=h
def ab5(p q:P3):(q.sub p).dot (q.sub p)=((nW p q:Nat):Int):=by unfold nW;have:=akH (q.sub p);omega
def vQ{p:P3}[I3 p][I3 q]:Bd 200 ((nW p q:Nat):Int):=by rw[<-ab5];exact (D.up:Bd 200 ((q.sub p).dot (q.sub p)))
def at7(n:Nat):dO n<=n:=by
 obtain⟨h,_⟩:=sW n;rcases fm (dO n) with e|e
 .omega
 exact ax (mp _ e) h
def Cn{n:Nat}(h:Bd 200 ((n:Nat):Int)):Bd 200 ((dO n:Nat):Int):=by
 have h1:(n:Int).natAbs<2^200:=h;show (dO n:Int).natAbs<2^200
 have:=at7 n;omega
def adR{p:P3}(h:dO (nW p q)*dO (nW p q)=nW p q):((dO (nW p q):Nat):Int)=sF p q:=by rw[sF,Z9 h,Int.add_zero]
def ahx{p:P3}(h:¬dO (nW p q)*dO (nW p q)=nW p q):((dO (nW p q):Nat):Int)+1=sF p q:=by rw[sF,K0 h]
def ahy{p:P3}[I3 p][I3 q]:Bd 250 (sF p q):=by
 have h:(dO (nW p q):Int).natAbs<2^200:=Cn vQ;show (sF p q).natAbs<2^250
 have h2:(2:Nat)^200+1<=2^250:=by decide
 unfold sF;split<;>omega
def ary{r d:Nat}:(¬(fF ((r:Int)*(r:Int))=fF (d:Int)/\iR ((r:Int)*(r:Int))=iR (d:Int)))↔¬r*r=d:=by
 rw[akI];refine not_congr ⟨λh=>?_,λh=>by rw[<-h];simp⟩;exact Int.ofNat_inj.1 (by rw[<-h];simp)
def adS{k:Nat}{mv:Mv}{y:Int}(a:ms[k]? = H mv)(h:nF ms y0=nF (ms.drop k) y)(b:nQ (sF mv.1 mv.2)):nF ms y0=nF (ms.drop (k+1)) (max y (sF mv.1 mv.2)):=by
 rw[h,dw (az.1 a).1,(az.1 a).2,nF,Z9 b]
def ahz{k:Nat}{mv:Mv}{y:Int}(a:ms[k]? = H mv)(h:nF ms y0=nF (ms.drop k) y)(b:¬nQ (sF mv.1 mv.2)):nF ms y0=G0:=by
 rw[h,dw (az.1 a).1,(az.1 a).2,nF,K0 b]
def ajl{w0 w:an}{K:It}{N3 s:Nat}{f:Option Addr}{F o R M:ak}{g:Nat}(m:Mem w0 w [bI g [F,o,.slice f N3 s,R,M,G y0] 148,K])(x:pH bG 6 w0 f N3 ms)(ab:N3<=10000000)(d:∀mv∈ms,I3 mv.1/\I3 mv.2):xJ G1 93 [.pointer (H ⟨g,0,G0⟩)] w λv w'=>∃y,v=G (if (nF ms y0).isSome=Z then 0 else 3)/\Mem w0 w' [bI g [F,o,.slice f N3 s,R,M,G y] 148,K]/\∀n,nF ms y0=H n->n=y:=by
 refine⟨bK func93 (by kernel_rfl),?_⟩
 go_enter func93,ntmps93
 apply fD 15 [1,0] m;simp only[↓U,Lo,ahh,Vd,aa];refine bU [15] [2,4,5,6,7,8,9,16,17,18,19,20,21,22,23,24,25,26,27,28,29,30,31,32,33,34,35,36,37,38,39,40,41,42,43,44,45,46,47,48,49,50,51,52,53] (λn vs J=>∃(k:Nat)(y:Int),vs=[G (k:Int)]/\Mem w0 J [bI g [F,o,.slice f N3 s,R,M,G y] 148,K]/\(nF ms y0=nF (ms.drop k) y)/\(k<=N3)/\(n=N3-k)) ?_ ?_
 .exact⟨_,0,_,O,m,O,bu _,O⟩
 intro n vs wr d u T N;obtain⟨k,y,rfl,m,e,hk,hn⟩:=d;simp only[zu,zF,zG];apply aG 5 [0,0] m;simp only[↓U];refine bB O ?_ ?_<;>intro ad
 .obtain⟨mv,l,a3,rfl,Q⟩:=x.get (i:=k) (by omega);haveI:=(d mv (bn l)).1;haveI:=(d mv (bn l)).2;apply aG 6 [0] m;simp only[↓U,Ig,ai,aj];apply I0;omega;refine aS O ((aqf (Q.ext m.ext)).lies ae4 uS) ?_;simp only[I];apply iV 9 [0,1,1,0] m;simp only[↓U,amf,ame,sH,aN,He,aa];intro W u m;refine tK m O O (aqe (p:=mv.1) (q:=mv.2)) 3 [0] ?_;simp only[↓U,lT,fB,aa];intro Y u m;rw[ab5] at m;apply S 3 [1,0] m;simp only[↓U,fB];refine tK m O O (atW (a:=((nW mv.1 mv.2:Nat):Int)) (vQ.mono (by decide)) (by omega)) 7 [0] ?_;simp only[↓U,lT,fB,aa];intro B u m;rw[Int.natAbs_natCast] at m;apply S 2 [0] m;simp only[↓U];refine mq m aD (by kernel_rfl) (ql O (λu m=>((m.b 0 O).full cE aO)) ?_);simp only[I];refine ql O (λu m=>((m.b 0 O).full cE aO)) ?_;simp only[I];refine jF O O (vD (a:=((dO (nW mv.1 mv.2):Nat):Int)) (b:=((dO (nW mv.1 mv.2):Nat):Int)) ((Cn vQ).mono (by decide)) ((Cn vQ).mono (by decide))) ?_;simp only[I];refine ql O (λu m=>((m.b 1 O).full cE aO)) ?_;simp only[I];refine L (aiE O O) (bM ?_);intro u m;refine gc ?_;simp only[I];refine kS m 0 [] [34,35,36] (λvs i=>vs=[]/\i=bI B [.bool (fF (sF mv.1 mv.2)),.string (iR (sF mv.1 mv.2))] 95) ?_ ?_
  .intro V t;refine bB O ?_ ?_<;>intro z
   .have r:=ary.1 z;refine dQ m 3 aD (by kernel_rfl) ?_;simp only[zy];refine ql O (λu m=>((m.b 0 O).full cE aO)) ?_;simp only[I];refine jF O O (qU (n:=1) (show nQ 1 by unfold nQ;decide)) ?_;simp only[I];refine jF O O (We (a:=((dO (nW mv.1 mv.2):Nat):Int)) (b:=1) ((Cn vQ).mono (by decide)) D.up) (bM ?_);intro u m;simp only[I];refine cB m 0 O O O aO (X O) O ?_;intro u m;simp only[zy,zx,bR,zF,zG,aa] at m;refine E (gk ?_);rw[ahx r] at m;exact t _ _ _ (by kernel_rfl) m ⟨O,O⟩
   have r:=Classical.not_not.1 (mt ary.2 z);apply aG 1 [0] m;simp only[↓U];rw[adR r] at m;exact t _ _ _ (by kernel_rfl) m ⟨O,O⟩
  intro vs i wr m d u;obtain⟨rfl,rfl⟩:=d;simp only[zF,zG] at m;simp only[zu,zF,zG];apply S 3 [1,0] m;simp only[↓U,fB];refine tK m O O (atX (a:=sF mv.1 mv.2) (ahy.mono (by decide))) 12 [0] ?_;simp only[↓U];intro u m;refine cQ O ?_ ?_<;>intro c
  .have c:¬nQ (sF mv.1 mv.2):=by simpa using c
   have A:=ahz l e c;apply aG 5 [] m;simp only[↓U];refine aU O O ?_;try simp only[zD,zE]
   exact⟨_,O,_,by rw[A];rfl,m.sel [X9,X9,X9,Z,Z],λn h=>by rw[A] at h;cases h⟩
  have c:nQ (sF mv.1 mv.2):=by simpa using c
  have P:=adS l e c;apply aG 1 [] m;simp only[↓U];rw[abE,Z9 c];apply S 7 [4,0] m;simp only[↓U,Vh,j,aa];refine C (wT O O (ahw _ _)) ?_;apply iV 9 [3,0] m;simp only[↓U,Vh,j,aa];apply I0;omega;intro u m;exact N (N3-(k+1)) _ _ (by omega) (by kernel_rfl) ⟨k+1,_,O,(m.sel [X9,X9,X9,Z,Z]),P,by omega,O⟩
 have ae:k=N3:=by omega
 rw[gw (by rw[x.len];omega)] at e;apply aG 6 [] m;simp only[↓U];refine aU O O ?_;try simp only[zD,zE]
 exact⟨_,O,_,by rw[e];rfl,m.sel [Z,Z],λn h=>by rw[e] at h;cases h;rfl⟩
end
end Go.Proofs.YtfekpcimgncioaaGreatDoor
namespace Go.Lith
section
variable{w0 w:an}{x y z:It}{is:List It}
def Mem.pack1(m:Mem w0 w (x::is)):Mem w0 w [x,Fq is]:=Mem.pack [x] m
def Mem.unpack2(m:Mem w0 w [x,y,Fq is]):Mem w0 w (x::y::is):=Mem.unpack [x,y] m
def Mem.pack3(m:Mem w0 w (x::y::z::is)):Mem w0 w [x,y,z,Fq is]:=Mem.pack [x,y,z] m
def Mem.pack2(m:Mem w0 w (x::y::is)):Mem w0 w [x,y,Fq is]:=Mem.pack [x,y] m
def Mem.pack4{a:It}(m:Mem w0 w (x::y::z::a::is)):Mem w0 w [x,y,z,a,Fq is]:=Mem.pack [x,y,z,a] m
def Mem.unpack4{a:It}(m:Mem w0 w [x,y,z,a,Fq is]):Mem w0 w (x::y::z::a::is):=Mem.unpack [x,y,z,a] m
def Mem.unpack3(m:Mem w0 w [x,y,z,Fq is]):Mem w0 w (x::y::z::is):=Mem.unpack [x,y,z] m
end
end Go.Lith
namespace Go.Proofs.YtfekpcimgncioaaGreatDoor
open Go.Proofs.Tryz
open Go.RowKit Go.Lith
set_option maxRecDepth 100000
section
attribute [local irreducible] bf M fY cJ cU Code.wp
attribute [local congr] dK dL cZ dJ
section
variable{fs gs:List T3}{ms:List Mv}
def awf(h:(if cD Z fs≠0 then cD Z fs else cD Z gs)≠0):gR fs gs ms=(0,if cD Z fs≠0 then cD Z fs else cD Z gs):=by
 unfold gR;by_cases h1:cD Z fs≠0
 .rw[Z9 h1,Z9 h1]
 rw[K0 h1] at h;rw[K0 h1,K0 h1,Z9 h]
def awg(h:¬(if cD Z fs≠0 then cD Z fs else cD Z gs)≠0):cD Z fs=0/\cD Z gs=0:=by
 by_cases h1:cD Z fs≠0
 .rw[Z9 h1] at h;exact Y0 h1 h
 rw[K0 h1] at h;exact⟨Classical.not_not.1 h1,Classical.not_not.1 h⟩
def awh(a:cD Z fs=0)(b:cD Z gs=0)(h:Qx fs gs≠0):gR fs gs ms=(0,Qx fs gs):=by
 rw[gR,K0 (λk=>k a),K0 (λk=>k b)];unfold Qx at h ⊢;split
 .rfl
 rename_i h1;rw[K0 h1] at h;split
 .rfl
 rename_i h2;rw[K0 h2] at h;exact Y0 O h
def awi(h:¬Qx fs gs≠0):Y fs=Y gs/\¬(jP fs gs (Y fs)=Z\/oD fs gs (Y fs)=X9):=by
 unfold Qx at h;split at h
 .exact Y0 (by decide) h
 rename_i h1;split at h
 .exact Y0 (by decide) h
 rename_i h2;exact⟨Classical.not_not.1 h1,h2⟩
def ab6(b:cD Z fs=0)(c:cD Z gs=0)(a:¬Qx fs gs≠0):gR fs gs ms=if oE fs gs ms (Y fs)=X9 then ((0:Int),(31:Int)) else if mC fs gs ms=X9 then ((0:Int),(32:Int)) else match nF ms 0 with
 |some n=>(n,(0:Int))
 |none=>((0:Int),(3:Int)):=by
 obtain⟨h1,h2⟩:=awi a;rw[gR,K0 (λk=>k b),K0 (λk=>k c),K0 (λk=>k h1),K0 h2];cases nF ms 0<;>rfl
def ane{b:Bool}{n:Int}(h:(if b=Z then 0 else n)≠0):b=X9:=by cases b with|false=>rfl|true=>exact Y0 rfl h
def anf{b:Bool}{n:Int}(a:n≠0)(h:¬(if b=Z then 0 else n)≠0):b=Z:=by cases b with|true=>rfl|false=>exact Y0 a h
end
def xK{fs gs:List T3}{ms:List Mv}{N cap k L N3 M:Nat}{A o r:Option Addr}(w:an)(f:cN w A N fs)(h:cN w o k gs)(x:pH bG 6 w r N3 ms)(s:N<=300000)(z:k<=300000)(B:N3<=10000000)(E:∀mv∈ms,I3 mv.1/\I3 mv.2):dF G1 44 [.slice A N cap,.slice o k L,.slice r N3 M] w (λv _=>v=.tuple #[G (gR fs gs ms).1,G (gR fs gs ms).2]):=by
 refine⟨bK func44 (by kernel_rfl),?_⟩;have m:=Mem.refl w
 go_enter func44,ntmps44
 apply fD 10 [0] m;simp only[↓U];refine iB m ?_;intro q7 u m;have l:=bC.nil (K:=P3) (V:=P3) pt pt;apply iV 8 [0] m;simp only[↓U,atf,aa];intro X u m;refine C eR ?_;simp only[I,fx,bm,df];apply aJ 2 [0] m;simp only[↓U,Vl,aa];refine C eR ?_;simp only[I,fx,bm,df];apply aJ 2 [0] m;simp only[↓U,Vl,aa];refine C eR ?_;simp only[I,fx,bm,df];apply aJ 2 [0] m;simp only[↓U,Vl,aa];refine C eR ?_;simp only[I,fx,bm,df];apply aJ 2 [0] m;simp only[↓U,Vl,aa];refine C eR ?_;simp only[I,fx,bm,df];apply aJ 1 [0] m;simp only[↓U,Vl,aa];refine afc O O O O O ?_;intro u Y D F H;replace m:=m.newB D F H;apply iV 26 [6,1,1,0,1,0] m;simp only[↓U,atg,Vm,Vj,Vk,Fh,Vi,ag,ah,aa];intro Z;apply I0;omega;intro u m;refine cC m O O (afY _ (m.b 2 O) (f.ext m.ext) (h.ext m.ext) (by omega) (by omega)) ?_;rintro v u m rfl;apply aJ 7 [0,0] m;simp only[↓U];refine bB O ?_ ?_<;>intro a
 .apply aG 7 [] m;simp only[↓U];refine jG O O O ?_;try simp only[zD,zE]
  exact⟨_,O,m.ext,by rw[awf a]⟩
 obtain⟨d,e⟩:=awg a;apply sO 27 [1,2,0,1,0] m;simp only[↓U,Vm,Vj,Vk,Fh,Vi,R,ag,ah,aa];intro g5;apply I0;omega;intro u m;replace m:=m.pull 3 O;simp only[dX,dY,zF,zG] at m;replace m:=m.pack1;refine jN O O (aji m f h (by omega) (by omega) d e) ?_;rintro v u ⟨S,T,rfl,m⟩;simp only[I];replace m:=m.unpack2;apply aJ 7 [0,0] m;simp only[↓U];refine bB O ?_ ?_<;>intro a
 .apply aG 7 [] m;simp only[↓U];refine jG O O O ?_;try simp only[zD,zE]
  exact⟨_,O,m.ext,by rw[awh d e a]⟩
 have g:=a;apply sO 27 [1,5,0,1,0] m;simp only[↓U,Vm,Vj,Vk,Fh,Vi,R,ag,ah,aa];intro g6;apply I0;omega;intro u m;replace m:=m.pull 6 O;simp only[dX,dY,zF,zG] at m;replace m:=m.pull 3 O;simp only[dX,dY,zF,zG] at m;replace m:=m.pull 3 O;simp only[dX,dY,zF,zG] at m;replace m:=m.pack3;refine jN O O (atY m f h x s z B l) ?_;rintro v u ⟨ab,W,rfl,m,P⟩;simp only[I];replace m:=m.unpack3;apply aJ 7 [0,0] m;simp only[↓U];refine bB O ?_ ?_<;>intro a
 .have c:=ane a;apply aG 7 [] m;simp only[↓U];refine jG O O O ?_;try simp only[zD,zE]
  exact⟨_,O,m.ext,by rw[ab6 d e g,c];rfl⟩
 have c:=anf (by decide) a;have l:=P c;have Q:=apq (adn c);apply sO 27 [1,7,0,1,0] m;simp only[↓U,Vm,Vj,Vk,Fh,Vi,R,ag,ah,aa];intro g7;apply I0;omega;intro u m;refine cC m O O (aqb (ms:=ms) _ (m.b 2 O) (f.ext m.ext) (h.ext m.ext) s z (m.p 3 O) l Q) ?_;rintro v u m rfl;apply aJ 7 [0,0] m;simp only[↓U];refine bB O ?_ ?_<;>intro a
 .have i:=ane a;apply aG 7 [] m;simp only[↓U];refine jG O O O ?_;try simp only[zD,zE]
  exact⟨_,O,m.ext,by rw[ab6 d e g,c,i];rfl⟩
 have i:=anf (by decide) a;apply sO 27 [1,8,0,1,0] m;simp only[↓U,Vm,Vj,Vk,Fh,Vi,R,ag,ah,aa];intro g8;apply I0;omega;intro u m;replace m:=m.pull 3 O;simp only[dX,dY,zF,zG] at m;replace m:=m.pack1;refine jN O O (ajl m x B E) ?_;rintro v u ⟨y,rfl,m,J⟩;apply aJ 7 [0,0] m;simp only[↓U];refine bB O ?_ ?_<;>intro a
 .have n:nF ms 0=G0:=Option.not_isSome_iff_eq_none.1 (by rw[ane a];exact fh);apply aG 7 [] m;simp only[↓U];refine jG O O O ?_;try simp only[zD,zE]
  exact⟨_,O,m.ext,by rw[ab6 d e g,c,i,n];rfl⟩
 have n:=anf (by decide) a;obtain⟨q,t⟩:=Option.isSome_iff_exists.1 n;obtain rfl:=J q t;apply aG 24 [2,1] m;simp only[↓U,Vh,j,R,aa];apply I0;omega;refine jG O O O ?_;try simp only[zD,zE]
 exact⟨_,O,m.ext,by rw[ab6 d e g,c,i,t];rfl⟩
end
section
attribute [local irreducible] bf M fY Code.wp
def aua{a:Int}(t:Bd 1000000 a):eS G1 233 [W a] (.tuple #[G (abE a),.bool (decide (nQ a))]):=by
 intro w;refine⟨bK func233 (by kernel_rfl),?_⟩;have d:=eQ.refl w;have Z:(digs 65536 a.natAbs).length<=1000000:=uY t;obtain⟨X,i⟩:∃X,X=a.natAbs:=⟨_,rfl⟩
 rw[<-i] at Z;have U:X<65536^(digs 65536 X).length:=by have:=iZ (mO X);rwa [eY] at this
 have Y:=mO X
 go_enter func233,ntmps233
 refine aV (λK1 K=>?_);refine am ?_;refine Si (by simp only[bX,aZ,bF,au,s];rfl) ?_;intro w1 I f A b;have aR:=ax d.size A;replace d:=d.trans f;clear f A;simp only[bX,aZ,bF,au,s,aw,ay];refine C aK ?_;simp only[bX,aZ,bF,au,s,aw,ay];refine C aK ?_;simp only[bX,aZ,bF,au,s,aw,ay];refine E (K _ _ ?_);refine aV (λK2 L=>?_);refine am (aS O (b.lies cE aO O O) ?_);simp only[bX,aZ,bF,au,s,aw,ay];refine aX O O (vE _ (iC t)) ?_;rintro v w2 f ⟨F,H,rfl,g⟩;replace b:=b.ext f;(try replace g:=g.ext f);replace d:=d.trans f;clear f;rw[gI,<-i] at g ⊢;simp only[bX,aZ,bF,au,s,aw,ay];refine C aK ?_;simp only[bX,aZ,bF,au,s,aw,ay];refine E (L _ _ ?_);refine aV (λK3 M=>?_);refine aV (λK4 N=>?_);refine am (C aI ?_);simp only[bX,aZ,bF,au,s,aw,ay];refine C (qG O dS O) ?_;simp only[bX,aZ,bF,au,s,aw,ay];refine C (acv O O) ?_;simp only[bX,aZ,bF,au,s,aw,ay];refine E (N _ _ ?_);refine bB O ?_ ?_<;>intro aT
 .have ap:¬nQ a:=apt i (by omega);refine aV (λK5 P=>?_);refine am (C aK ?_);simp only[bX,aZ,bF,au,s,aw,ay];refine C aK ?_;simp only[bX,aZ,bF,au,s,aw,ay];refine E (P _ _ ?_);refine i_ ?_;try simp only[cn,Exit.then]
  refine jG O O O ?_;try simp only[au,s]
  exact⟨_,O,d,Ny ap⟩
 have D:(digs 65536 X).length<=4:=by omega
 refine ja ?_;refine M _ _ (aV (λK6 Q=>?_));refine am (C aK ?_);simp only[bX,aZ,bF,au,s,aw,ay];refine E (Q _ _ ?_);refine aV (λK7 R=>?_);refine aV (λK8 S=>?_);refine am (C aI ?_);simp only[bX,aZ,bF,au,s,aw,ay];refine C (qG O dS O) ?_;simp only[bX,aZ,bF,au,s,aw,ay];refine C (zW O O (cF (by omega) (by omega))) ?_;simp only[bX,aZ,bF,au,s,aw,ay];refine C aK ?_;simp only[bX,aZ,bF,au,s,aw,ay];refine E (S _ _ ?_);refine jd (Gh [5,6] [15,16,17,18,19,20,21,22,23,24,25,26] (λn vs h=>∃(k:Nat),vs=[.int .u64 ((val 65536 ((digs 65536 X).drop k):Nat):Int),G ((k:Int)-1)]/\(eQ w h)/\(fK h I [.bool (fF a),.string (iR a)] 95)/\(dT h h.heap.size F (digs 65536 X).length H (digs 65536 X))/\(k<=(digs 65536 X).length)/\(n=k)) ?_ ?_)
 .rw[show (0:Int)=((val 65536 ((digs 65536 X).drop (digs 65536 X).length):Nat):Int) by rw[lk];rfl];apply Exists.intro;simp only[bm,df,au,s];exact⟨(digs 65536 X).length,O,d,b,g.here,ba _,O⟩
 intro n vs wr J u;obtain⟨k,rfl,d,b,g,hk,hn⟩:=J;simp only[zu,aw,ay];refine aV (λK9 T=>?_);refine aV (λaq ad=>?_);refine am (C aI ?_);simp only[bX,aZ,bF,au,s,aw,ay];refine C (Yr O O) ?_;simp only[bX,aZ,bF,au,s,aw,ay];refine E (ad _ _ ?_);refine bB O ?_ ?_<;>intro aU
 .obtain⟨j,rfl⟩:∃j,k=j+1:=⟨k-1,by omega⟩
  rw[show (((j+1:Nat):Int)-1)=(j:Int) by omega];obtain⟨p,rfl,z,aa⟩:=g.get (show j<(digs 65536 X).length by omega);have q:=pF (B:=65536) (xs:=digs 65536 X) (k:=j+1) (by omega) (by simp only[fb];omega);simp only[fb] at q;have ab:=alL (j:=j) D Y (by omega);obtain⟨V,o⟩:∃V,V=val 65536 ((digs 65536 X).drop (j+1)):=⟨_,rfl⟩
  obtain⟨x,y⟩:∃x,x=(digs 65536 X)[j]:=⟨_,rfl⟩
  rw[<-o,<-y] at q;rw[<-o] at ab;rw[<-o];rw[<-y] at z aa;refine ja (T _ _ ?_);refine aV (λav ae=>?_);refine jd (am ?_);refine C aI ?_;simp only[bX,aZ,bF,au,s,aw,ay];refine C (qW O O (mZ (by omega) (by omega))) ?_;simp only[bX,aZ,bF,au,s,aw,ay];refine C aI ?_;simp only[bX,aZ,bF,au,s,aw,ay];refine C aI ?_;simp only[bX,aZ,bF,au,s,aw,ay];refine C (aP dS bL O O (by omega) (by omega) (oW (ai _))) ?_;simp only[bX,aZ,bF,au,s,aw,ay];refine aS O (lies1 z bJ) ?_;simp only[bX,aZ,bF,au,s,aw,ay];refine C (gB jO fV O (mZ (by omega) (by omega))) ?_;simp only[bX,aZ,bF,au,s,aw,ay];refine C (fZ O O (mZ (by omega) (by omega))) ?_;simp only[bX,aZ,bF,au,s,aw,ay];refine C aK ?_;simp only[bX,aZ,bF,au,s,aw,ay];refine E (ae _ _ ?_);refine am (C aI ?_);simp only[bX,aZ,bF,au,s,aw,ay];refine C (zW O O (cF (by omega) (by omega))) ?_;simp only[bX,aZ,bF,au,s,aw,ay];refine C aK ?_;simp only[bX,aZ,bF,au,s,aw,ay];refine E ?_;rw[show ((V:Int)*65536+(x:Int))=((val 65536 ((digs 65536 X).drop j):Nat):Int) by exact alM q];simp only[cn,Exit.then];refine⟨j,_,?_,O,?_,?_⟩
  .omega
  .simp only[zu,bm,df,au,s,aw,ay]
  simp only[bm,df,au,s];exact⟨j,O,d,b,g.here,by omega,O⟩
 obtain rfl:k=0:=by omega
 have a1:=asR D U;refine wp_exit (R _ _ ?_);refine aV (λaz r=>?_);refine aV (λaA l=>?_);simp only[lv,eY];rcases aaf i with ⟨h1,h2,e,m⟩|⟨h1,h2,e⟩|⟨h1,h2,e⟩|⟨h1,h2,e,m⟩
 .rw[h1] at b;refine am (C (aY (c:=0) Hz O mW O O) ?_);simp only[bX,aZ,bF,au,s,aw,ay];refine aS O (b.lies1 xV O) ?_;simp only[bX,aZ,bF,au,s,aw,ay];refine C aI ?_;simp only[bX,aZ,bF,au,s,aw,ay];refine gE O (C aI ?_);simp only[bX,aZ,bF,au,s,aw,ay];refine gE O (C (arN O O (by omega)) ?_);simp only[bX,aZ,bF,au,s,aw,ay];refine C (Gg O) ?_;simp only[bX,aZ,bF,au,s,aw,ay];refine E (l _ _ ?_);refine wU O (aV (λaC af=>?_));refine am (C aI ?_);simp only[bX,aZ,bF,au,s,aw,ay];refine C (uH O O) ?_;simp only[bX,aZ,bF,au,s,aw,ay];refine C (gB fV jO O (adu h2)) ?_;simp only[bX,aZ,bF,au,s,aw,ay];refine C aK ?_;simp only[bX,aZ,bF,au,s,aw,ay];refine C aK ?_;simp only[bX,aZ,bF,au,s,aw,ay];refine E (af _ _ ?_);refine i_ ?_;try simp only[cn,Exit.then]
  refine jG O O O ?_;try simp only[au,s]
  exact⟨_,O,d,Ro e m.symm⟩
 .rw[h1] at b;refine am (C (aY (c:=0) Hz O mW O O) ?_);simp only[bX,aZ,bF,au,s,aw,ay];refine aS O (b.lies1 xV O) ?_;simp only[bX,aZ,bF,au,s,aw,ay];refine C aI ?_;simp only[bX,aZ,bF,au,s,aw,ay];refine gE O (C aI ?_);simp only[bX,aZ,bF,au,s,aw,ay];refine gE O (C (arO O O (by omega)) ?_);simp only[bX,aZ,bF,au,s,aw,ay];refine C (Gg O) ?_;simp only[bX,aZ,bF,au,s,aw,ay];refine E (l _ _ ?_);refine Qs O (ja ?_);refine r _ _ (aV (λaD aW=>?_));refine aV (λaE ag=>?_);refine am (C aI ?_);simp only[bX,aZ,bF,au,s,aw,ay];refine C (aka O O (by omega)) ?_;simp only[bX,aZ,bF,au,s,aw,ay];refine E (ag _ _ ?_);refine wU O (aV (λaF ah=>?_));refine am (C aK ?_);simp only[bX,aZ,bF,au,s,aw,ay];refine C aK ?_;simp only[bX,aZ,bF,au,s,aw,ay];refine E (ah _ _ ?_);refine i_ ?_;try simp only[cn,Exit.then]
  refine jG O O O ?_;try simp only[au,s]
  exact⟨_,O,d,Ny e⟩
 .rw[h1] at b;refine am (C (aY (c:=0) Hz O mW O O) ?_);simp only[bX,aZ,bF,au,s,aw,ay];refine aS O (b.lies1 xV O) ?_;simp only[bX,aZ,bF,au,s,aw,ay];refine C aI ?_;simp only[bX,aZ,bF,au,s,aw,ay];refine nN O ?_;simp only[bX,aZ,bF,au,s,aw,ay];refine nN O ?_;simp only[bX,aZ,bF,au,s,aw,ay];refine C (xP O) ?_;simp only[bX,aZ,bF,au,s,aw,ay];refine E (l _ _ ?_);refine Qs O (ja ?_);refine r _ _ (aV (λaG a0=>?_));refine aV (λaJ aj=>?_);refine am (C aI ?_);simp only[bX,aZ,bF,au,s,aw,ay];refine C (aka O O (by omega)) ?_;simp only[bX,aZ,bF,au,s,aw,ay];refine E (aj _ _ ?_);refine wU O (aV (λaL ak=>?_));refine am (C aK ?_);simp only[bX,aZ,bF,au,s,aw,ay];refine C aK ?_;simp only[bX,aZ,bF,au,s,aw,ay];refine E (ak _ _ ?_);refine i_ ?_;try simp only[cn,Exit.then]
  refine jG O O O ?_;try simp only[au,s]
  exact⟨_,O,d,Ny e⟩
 rw[h1] at b;refine am (C (aY (c:=0) Hz O mW O O) ?_);simp only[bX,aZ,bF,au,s,aw,ay];refine aS O (b.lies1 xV O) ?_;simp only[bX,aZ,bF,au,s,aw,ay];refine C aI ?_;simp only[bX,aZ,bF,au,s,aw,ay];refine nN O ?_;simp only[bX,aZ,bF,au,s,aw,ay];refine nN O ?_;simp only[bX,aZ,bF,au,s,aw,ay];refine C (xP O) ?_;simp only[bX,aZ,bF,au,s,aw,ay];refine E (l _ _ ?_);refine Qs O (ja ?_);refine r _ _ (aV (λaM al=>?_));refine aV (λaN an=>?_);refine am (C aI ?_);simp only[bX,aZ,bF,au,s,aw,ay];refine C (arP O O (by omega)) ?_;simp only[bX,aZ,bF,au,s,aw,ay];refine E (an _ _ ?_);refine Qs O (ja ?_);refine al _ _ (aV (λaQ ao=>?_));refine am (C aI ?_);simp only[bX,aZ,bF,au,s,aw,ay];refine C (gB fV jO O (cF (by omega) (by omega))) ?_;simp only[bX,aZ,bF,au,s,aw,ay];refine C aK ?_;simp only[bX,aZ,bF,au,s,aw,ay];refine C aK ?_;simp only[bX,aZ,bF,au,s,aw,ay];refine E (ao _ _ ?_);refine i_ ?_;try simp only[cn,Exit.then]
 refine jG O O O ?_;try simp only[au,s]
 exact⟨_,O,d,Ro e m.symm⟩
end
section
attribute [local irreducible] bf M fY cJ cU Code.wp
attribute [local congr] dK dL cZ dJ
variable{a c d:P3}
def aaA{b:P3}[I3 a][I3 b][I3 c][I3 d]{g0:Nat}(w:an)(i:fK w g0 [G a.x,G a.y,G a.z,G b.x,G b.y,G b.z,G c.x,G c.y,G c.z,G d.x,G d.y,G d.z] 30):dF G1 298 [.slice (H ⟨g0,0,G0⟩) 4 4] w (λv _=>∃bo:Bool,v=.bool bo/\(bo=Z->S3 a/\S3 b/\S3 c/\S3 d)):=by
 refine⟨bK func298 (by kernel_rfl),?_⟩;have m:=Mem.refl w
 go_enter func298,ntmps298
 apply fD 25 [5,1,0] m;simp only[↓U,xE];apply I0;omega;refine C (aP kK aA O O (by decide) (by decide) O) ?_;simp only[I];refine aS O ((i.ext m.ext).lies aF aA O O) ?_;simp only[I,zy,aj,aa,ah,ag];apply iV 28 [0,1,1,1,4,1,0] m;simp only[↓U,cY,aN,iW,j,iX,kC,Dg,aa];intro F;apply I0;omega;intro u m;refine C (jV O O) ?_;apply aJ 6 [0] m;simp only[↓U];refine C (uH O O) (C (wT O O O) (C (gB jO fV O (Cz Iw.h)) ?_));simp only[I];refine cC m O O (qA (X:=(a.x).natAbs) _ (by have:=(Iw.h:nQ a.x).natAbs;omega)) ?_;rintro v u m ⟨n,rfl,f,g,k⟩;apply aJ 2 [0,0] m;simp only[↓U];refine bB O ?_ ?_<;>intro e
 .apply aG 5 [] m;simp only[↓U];exact aU rfl rfl ⟨_,rfl,m.ext,X9,rfl,λh=>by cases h⟩
 replace k:=k (by omega);clear e f g;apply aG 18 [1,0] m;simp only[↓U,R];apply I0;omega;refine C (jW O O) ?_;apply aJ 6 [0] m;simp only[↓U];refine C (uH O O) (C (wT O O O) (C (gB jO fV O (Cz Iw.h)) ?_));simp only[I];refine cC m O O (qA (X:=(a.y).natAbs) _ (by have:=(Iw.h:nQ a.y).natAbs;omega)) ?_;rintro v u m ⟨n,rfl,f,g,l⟩;apply aJ 2 [0,0] m;simp only[↓U];refine bB O ?_ ?_<;>intro e
 .apply aG 5 [] m;simp only[↓U];exact aU rfl rfl ⟨_,rfl,m.ext,X9,rfl,λh=>by cases h⟩
 replace l:=l (by omega);clear e f g;apply aG 18 [1,0] m;simp only[↓U,R];apply I0;omega;refine C (jX O O) ?_;apply aJ 6 [0] m;simp only[↓U];refine C (uH O O) (C (wT O O O) (C (gB jO fV O (Cz Iw.h)) ?_));simp only[I];refine cC m O O (qA (X:=(a.z).natAbs) _ (by have:=(Iw.h:nQ a.z).natAbs;omega)) ?_;rintro v u m ⟨n,rfl,f,g,o⟩;apply aJ 2 [0,0] m;simp only[↓U];refine bB O ?_ ?_<;>intro e
 .apply aG 5 [] m;simp only[↓U];exact aU rfl rfl ⟨_,rfl,m.ext,X9,rfl,λh=>by cases h⟩
 replace o:=o (by omega);clear e f g;apply aG 31 [2,1,0] m;simp only[↓U,R];apply I0;omega;refine C (aP kK aA O O (by decide) (by decide) O) ?_;simp only[I];refine aS O ((i.ext m.ext).lies aF aA O O) ?_;simp only[I,zy,aj,aa,ah,ag];apply iV 28 [0,1,1,1,4,1,0] m;simp only[↓U,cY,aN,iW,j,iX,kC,Dg,aa];intro J;apply I0;omega;intro u m;refine C (jV O O) ?_;apply aJ 6 [0] m;simp only[↓U];refine C (uH O O) (C (wT O O O) (C (gB jO fV O (Cz Iw.h)) ?_));simp only[I];refine cC m O O (qA (X:=(b.x).natAbs) _ (by have:=(Iw.h:nQ b.x).natAbs;omega)) ?_;rintro v u m ⟨n,rfl,f,g,p⟩;apply aJ 2 [0,0] m;simp only[↓U];refine bB O ?_ ?_<;>intro e
 .apply aG 5 [] m;simp only[↓U];exact aU rfl rfl ⟨_,rfl,m.ext,X9,rfl,λh=>by cases h⟩
 replace p:=p (by omega);clear e f g;apply aG 18 [1,0] m;simp only[↓U,R];apply I0;omega;refine C (jW O O) ?_;apply aJ 6 [0] m;simp only[↓U];refine C (uH O O) (C (wT O O O) (C (gB jO fV O (Cz Iw.h)) ?_));simp only[I];refine cC m O O (qA (X:=(b.y).natAbs) _ (by have:=(Iw.h:nQ b.y).natAbs;omega)) ?_;rintro v u m ⟨n,rfl,f,g,q⟩;apply aJ 2 [0,0] m;simp only[↓U];refine bB O ?_ ?_<;>intro e
 .apply aG 5 [] m;simp only[↓U];exact aU rfl rfl ⟨_,rfl,m.ext,X9,rfl,λh=>by cases h⟩
 replace q:=q (by omega);clear e f g;apply aG 18 [1,0] m;simp only[↓U,R];apply I0;omega;refine C (jX O O) ?_;apply aJ 6 [0] m;simp only[↓U];refine C (uH O O) (C (wT O O O) (C (gB jO fV O (Cz Iw.h)) ?_));simp only[I];refine cC m O O (qA (X:=(b.z).natAbs) _ (by have:=(Iw.h:nQ b.z).natAbs;omega)) ?_;rintro v u m ⟨n,rfl,f,g,r⟩;apply aJ 2 [0,0] m;simp only[↓U];refine bB O ?_ ?_<;>intro e
 .apply aG 5 [] m;simp only[↓U];exact aU rfl rfl ⟨_,rfl,m.ext,X9,rfl,λh=>by cases h⟩
 replace r:=r (by omega);clear e f g;apply aG 31 [2,1,0] m;simp only[↓U,R];apply I0;omega;refine C (aP kK aA O O (by decide) (by decide) O) ?_;simp only[I];refine aS O ((i.ext m.ext).lies aF aA O O) ?_;simp only[I,zy,aj,aa,ah,ag];apply iV 28 [0,1,1,1,4,1,0] m;simp only[↓U,cY,aN,iW,j,iX,kC,Dg,aa];intro K;apply I0;omega;intro u m;refine C (jV O O) ?_;apply aJ 6 [0] m;simp only[↓U];refine C (uH O O) (C (wT O O O) (C (gB jO fV O (Cz Iw.h)) ?_));simp only[I];refine cC m O O (qA (X:=(c.x).natAbs) _ (by have:=(Iw.h:nQ c.x).natAbs;omega)) ?_;rintro v u m ⟨n,rfl,f,g,s⟩;apply aJ 2 [0,0] m;simp only[↓U];refine bB O ?_ ?_<;>intro e
 .apply aG 5 [] m;simp only[↓U];exact aU rfl rfl ⟨_,rfl,m.ext,X9,rfl,λh=>by cases h⟩
 replace s:=s (by omega);clear e f g;apply aG 18 [1,0] m;simp only[↓U,R];apply I0;omega;refine C (jW O O) ?_;apply aJ 6 [0] m;simp only[↓U];refine C (uH O O) (C (wT O O O) (C (gB jO fV O (Cz Iw.h)) ?_));simp only[I];refine cC m O O (qA (X:=(c.y).natAbs) _ (by have:=(Iw.h:nQ c.y).natAbs;omega)) ?_;rintro v u m ⟨n,rfl,f,g,t⟩;apply aJ 2 [0,0] m;simp only[↓U];refine bB O ?_ ?_<;>intro e
 .apply aG 5 [] m;simp only[↓U];exact aU rfl rfl ⟨_,rfl,m.ext,X9,rfl,λh=>by cases h⟩
 replace t:=t (by omega);clear e f g;apply aG 18 [1,0] m;simp only[↓U,R];apply I0;omega;refine C (jX O O) ?_;apply aJ 6 [0] m;simp only[↓U];refine C (uH O O) (C (wT O O O) (C (gB jO fV O (Cz Iw.h)) ?_));simp only[I];refine cC m O O (qA (X:=(c.z).natAbs) _ (by have:=(Iw.h:nQ c.z).natAbs;omega)) ?_;rintro v u m ⟨n,rfl,f,g,A⟩;apply aJ 2 [0,0] m;simp only[↓U];refine bB O ?_ ?_<;>intro e
 .apply aG 5 [] m;simp only[↓U];exact aU rfl rfl ⟨_,rfl,m.ext,X9,rfl,λh=>by cases h⟩
 replace A:=A (by omega);clear e f g;apply aG 31 [2,1,0] m;simp only[↓U,R];apply I0;omega;refine C (aP kK aA O O (by decide) (by decide) O) ?_;simp only[I];refine aS O ((i.ext m.ext).lies aF aA O O) ?_;simp only[I,zy,aj,aa,ah,ag];apply iV 28 [0,1,1,1,4,1,0] m;simp only[↓U,cY,aN,iW,j,iX,kC,Dg,aa];intro L;apply I0;omega;intro u m;refine C (jV O O) ?_;apply aJ 6 [0] m;simp only[↓U];refine C (uH O O) (C (wT O O O) (C (gB jO fV O (Cz Iw.h)) ?_));simp only[I];refine cC m O O (qA (X:=(d.x).natAbs) _ (by have:=(Iw.h:nQ d.x).natAbs;omega)) ?_;rintro v u m ⟨n,rfl,f,g,B⟩;apply aJ 2 [0,0] m;simp only[↓U];refine bB O ?_ ?_<;>intro e
 .apply aG 5 [] m;simp only[↓U];exact aU rfl rfl ⟨_,rfl,m.ext,X9,rfl,λh=>by cases h⟩
 replace B:=B (by omega);clear e f g;apply aG 18 [1,0] m;simp only[↓U,R];apply I0;omega;refine C (jW O O) ?_;apply aJ 6 [0] m;simp only[↓U];refine C (uH O O) (C (wT O O O) (C (gB jO fV O (Cz Iw.h)) ?_));simp only[I];refine cC m O O (qA (X:=(d.y).natAbs) _ (by have:=(Iw.h:nQ d.y).natAbs;omega)) ?_;rintro v u m ⟨n,rfl,f,g,D⟩;apply aJ 2 [0,0] m;simp only[↓U];refine bB O ?_ ?_<;>intro e
 .apply aG 5 [] m;simp only[↓U];exact aU rfl rfl ⟨_,rfl,m.ext,X9,rfl,λh=>by cases h⟩
 replace D:=D (by omega);clear e f g;apply aG 18 [1,0] m;simp only[↓U,R];apply I0;omega;refine C (jX O O) ?_;apply aJ 6 [0] m;simp only[↓U];refine C (uH O O) (C (wT O O O) (C (gB jO fV O (Cz Iw.h)) ?_));simp only[I];refine cC m O O (qA (X:=(d.z).natAbs) _ (by have:=(Iw.h:nQ d.z).natAbs;omega)) ?_;rintro v u m ⟨n,rfl,f,g,E⟩;apply aJ 2 [0,0] m;simp only[↓U];refine bB O ?_ ?_<;>intro e
 .apply aG 5 [] m;simp only[↓U];exact aU rfl rfl ⟨_,rfl,m.ext,X9,rfl,λh=>by cases h⟩
 replace E:=E (by omega);clear e f g;apply aG 32 [2,2] m;simp only[↓U,R];apply I0;omega;exact aU O O ⟨_,O,m.ext,Z,O,λ_=>⟨⟨k,l,o⟩,⟨p,q,r⟩,⟨s,t,A⟩,⟨B,D,E⟩⟩⟩
def uE{b:P3}[I3 a][I3 b][I3 c][I3 d]:eS G1 238 [pt a,pt b,pt c,pt d] (sg ((b.sub a).cross (d.sub c))):=by
 intro w;refine⟨bK func238 (by kernel_rfl),?_⟩;have m:=Mem.refl w
 go_enter func238,ntmps238
 apply kX 19 [6,5,4,3] m;simp only[↓U,avO,aN];intro k l n o p q u m;refine go (Zt O O O O ?_);intro u r e f g;replace m:=m.newB e f g;simp only[I];refine cC m O O (aaA _ (m.b 0 O)) ?_;rintro v u m ⟨bo,rfl,i⟩;apply aJ 1 [0] m;simp only[↓U];refine lL O ?_ ?_<;>intro h
 .obtain⟨_,_,_,_⟩:=i h;apply aG 2 [0] m;simp only[↓U];refine mq m aD (by kernel_rfl) (ql O (λu m=>((m.b 6 O).full aF aA)) ?_);simp only[I];refine ql O (λu m=>((m.b 5 O).full aF aA)) ?_;simp only[I];refine jF O O sL ?_;simp only[I];refine ql O (λu m=>((m.b 4 O).full aF aA)) ?_;simp only[I];refine ql O (λu m=>((m.b 3 O).full aF aA)) ?_;simp only[I];refine jF O O sL ?_;simp only[I];refine jF O O (Ii X3 X3) (L aI (bM ?_));intro u m;apply S 15 [4,1,0] m;simp only[↓U];apply I0;omega;refine C (Ya O O) ?_;apply aJ 6 [0] m;simp only[↓U];refine tK m O O ab4 21 [1,1,0] ?_;simp only[↓U,nT,j,ag,ah,aa,R];apply I0;omega;intro u m;refine C (Yb O O) ?_;apply aJ 6 [0] m;simp only[↓U];refine tK m O O ab4 21 [1,1,0] ?_;simp only[↓U,nT,j,ag,ah,aa,R];apply I0;omega;intro u m;refine C (Yc O O) ?_;apply aJ 6 [0] m;simp only[↓U];refine tK m O O ab4 22 [1,2,2,2] ?_;simp only[↓U,nT,j,amd,ag,ah,aa,R];apply I0;omega;intro u m;exact aU O ⟨_,O,((m.b 2 O).full ae3 To)⟩ ⟨_,O,m.ext,O⟩
 apply aG 3 [0] m;simp only[↓U];refine mq m aD (by kernel_rfl) (ql O (λu m=>((m.b 6 O).full aF aA)) ?_);simp only[I];refine ql O (λu m=>((m.b 5 O).full aF aA)) ?_;simp only[I];refine jF O O mQ ?_;simp only[I];refine ql O (λu m=>((m.b 4 O).full aF aA)) ?_;simp only[I];refine ql O (λu m=>((m.b 3 O).full aF aA)) ?_;simp only[I];refine jF O O mQ ?_;simp only[I];refine jF O O (Cm Bv.of Bv.of) (L aI (bM ?_));intro u m;apply S 15 [4,1,0] m;simp only[↓U];apply I0;omega;refine C (Xu O O) ?_;apply iV 7 [0,1,0] m;simp only[↓U,lT,fB,aa];intro s u m;refine tK m O O (Oq D.up) 21 [2,1,0] ?_;simp only[↓U,nT,j,ag,ah,aa,R];apply I0;omega;intro u m;refine C (Xv O O) ?_;apply iV 7 [0,1,0] m;simp only[↓U,lT,fB,aa];intro t u m;refine tK m O O (Oq D.up) 21 [3,1,0] ?_;simp only[↓U,nT,j,ag,ah,aa,R];apply I0;omega;intro u m;refine C (Xw O O) ?_;apply iV 7 [0,1,0] m;simp only[↓U,lT,fB,aa];intro x u m;refine tK m O O (Oq D.up) 22 [4,2,5,5] ?_;simp only[↓U,nT,j,amd,ag,ah,aa,R];apply I0;omega;intro u m;exact aU O ⟨_,O,((m.b 5 O).full ae3 To)⟩ ⟨_,O,m.ext,O⟩
def ab7{t:T3}[IT t]:eS G1 171 [tr t] (.bool (decide (cA t.normal.x=0/\cA t.normal.y=0/\cA t.normal.z=0))):=by
 intro w;refine⟨bK func171 (by kernel_rfl),?_⟩;have m:=Mem.refl w
 go_enter func171,ntmps171
 apply kX 15 [1,1,1,1,0] m;simp only[↓U,l,aN,ag,ah,aa];intro e;apply I0;omega;intro u m;refine tK m O O (uE (a:=t.a) (b:=t.b) (c:=t.a) (d:=t.c)) 5 [] ?_;simp only[↓U,Dg,aa];refine⟨_,atx,?_⟩;intro u m;exact aU O O ⟨_,O,m.ext,O⟩
end
section
attribute [local irreducible] bf M fY cJ cU Code.wp
instance:Iw 1:=⟨by unfold nQ;decide⟩
end
end Go.Proofs.YtfekpcimgncioaaGreatDoor
