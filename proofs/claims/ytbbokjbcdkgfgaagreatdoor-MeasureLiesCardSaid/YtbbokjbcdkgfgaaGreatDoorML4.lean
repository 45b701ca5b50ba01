/-
 Texts of one claim, laid together: Wide3, Wide4, Wide5, Back, Wide7, Wide8, Wide9, Wide10, Geo1, Exact, Exact2, K6, Sla, K7, Guard2, K8, K9, K10, K11, Kt, K16, K26, Near2, Ifc, Tch1, K12, K13, K14, K15, K17, K18, Nest2, K19, K20, K21, K22, K23, Mono, K24, K25, Trav, K27, K28, Maps2, K29, K61, D14, Cx, Cy, Is, Gs, Meas1, RefG1, RefF, D1, D2, D3, D4, Ref8.
-/
import Derived.RangeFuncNested
import Derived.RangeFuncBound
import Derived.RangeFuncCalls
import Derived.RangeFuncBox
import Derived.RangeFuncLeaves
import Derived.Shelf.Abstract
import Derived.Shelf.RegionOpen
import Derived.WalkKit
import Derived.OwnWalkIn
import Derived.TacticsInMore
import Derived.LoopNIn
import Derived.LoopIn
import Derived.Maps.AppendAt
import Derived.Stop.Asserts
import Derived.RunT
import Derived.Test.YtbbokjbcdkgfgaaGreatDoorML3
open Nat renaming reduceAdd->aa,zero_add->ae,reduceMul->C,le_trans->ay,lt_of_lt_of_le->bc,le_refl->bg,mul_one->bi,min_eq_left->de,ne_of_gt->dm,eq_zero_or_pos->et,lt_of_le_of_lt->fr,le_succ_of_le->f_,add_sub_cancel->g_,mul_comm->iw,mul_zero->ja,div_lt_iff_lt_mul->jr,div_le_self->jt,sub_self->ke,le_mul_of_pos_left->kf,pow_pos->kj,one_mul->kl,le_of_not_lt->ko,le_mul_of_pos_right->kz,reduceSub->lj,not_lt_zero->om,sub_le->pc,min_le_right->p_
open Int renaming toNat_natCast->ab,reduceToNat->ac,reduceAdd->M,eq_ofNat_of_zero_le->ee,natAbs_mul->ku,gcd->ml,lt_trichotomy->oz,natAbs_tdiv->pi,ofNat->qv
open List renaming getElem?_eq_getElem->ah,mem_of_getElem?->ak,take_of_length_le->ap,getD_cons_zero->E,getD_cons_succ->ar,flatMap_append->au,getElem?_eq_some_iff->av,set_cons_succ->e,set_cons_zero->ax,length_append->a_,length_take->bf,length_cons->bh,mem_cons->bl,replicate->bn,mem_cons_of_mem->br,mem_cons_self->bv,mem_append->bz,pairwise_cons->b_,mem_singleton->cr,nil_append->cv,flatMap_cons->da,getElem?_map->dc,map_cons->df,map_append->dh,append_assoc->di,getElem?_append_right->dj,getElem?_drop->dn,mem_map->du,length_nil->dv,drop_eq_getElem_cons->dw,cons_append->dx,length_map->dy,length_drop->ef,eq_of_mem_replicate->ep,length_set->fc,eq_nil_of_length_eq_zero->fd,getElem_mem->fe,mem_flatMap->ff,mem_map_of_mem->fg,range->fh,take_append_drop->fi,map_nil->fj,not_mem_nil->fk,drop_of_length_le->fl,set_eq_take_append_cons_drop->fm,append_nil->fw,ext_getElem?->fy,mem_of_mem_take->gj,size_toArray->gy,filter_cons->ii,mem_or_eq_of_mem_set->iv,mem_filter->ix,length->iz,append_toArray->i_,take_add_one->jb,filter_append->je,getElem?_set->jm,push_toArray->jq,drop_length->j_,map_toArray->ka,length_filter_le->kn,mem_of_mem_drop->kq,drop_zero->kv,flatMap_def->mc,filter_nil->my,mem_iff_getElem?->m_,set_append_right->nf,range_succ->pk
open Go renaming wp_region_lit->f,Value->am,World->an,TypeId->ba,wpList->be,Program->B,Operand->cw,wpQuiet->c_,Deferred->d_,wp_skip->gg,wp_ret->gh,wp_block->gn
open Go.Exit renaming inBlock->t
open Option renaming getD_some->dt,map_some->fu,map_eq_some_iff->jl
open Go.Value renaming oneCell'->gr,ownBlock->qi
open Bool renaming or_eq_true->gz,or_eq_false_iff->nr
open Array renaming replicate_succ->ir,replicate_zero->iu
open Rat renaming divInt->kg
open Prod renaming snd->q_
set_option maxHeartbeats 8000000
set_option linter.unusedSimpArgs false
set_option linter.defProp false
set_option linter.unusedVariables false
set_option linter.unusedSectionVars false
open And renaming intro->R
open Bool renaming true->N,false->X7
open Option renaming some->H,none->X8
open Go.Proofs.Tryz renaming prog->X9
namespace Go.Proofs.YtbbokjbcdkgfgaaGreatDoor
open Go.Proofs.Tryz
open Go.RowKit Go.Lith
section
variable{na nb cb:Nat}
abbrev If:=@underlying26
abbrev Ai:=@underlying77
set_option maxRecDepth 100000
attribute [local irreducible] be c_ fS Code.wp
def Kk{A:Option Addr}{xs:List Nat}{cap:Nat}(w:an)(a:dX w A na cap xs):cX X9 115 [.slice A na cap] w (jF (val 4294967296 xs)):=
 (wD w a).mono λv w' b h=>by subst h;exact jF.of_trim (a.ext b) O
def aiS{A B:Option Addr}{xs ys:List Nat}{g d:Nat}(w:an)(e:dX w A na g xs)(h:dX w B nb cb ys)(k:ys.length+1<=xs.length)(r:ys.length<=1099511627776)(i:d<4294967296):cX X9 132 [.slice A na g,.slice B nb cb,.int .u64 (d:Int)] w (λv _=>v=.bool (decide (val 4294967296 (xs.take (ys.length+1))<val 4294967296 ys*d))):=by
 skip
 refine⟨bP func132 (by kernel_rfl),?_⟩;have b:=eR.refl w;obtain rfl:=e.eq;obtain rfl:=h.eq;have X:=e.le;have Y:=e.cap
 go_enter func132,ntmps132
 refine L (λC m=>f (aA aI ?_));simp only[J];refine S (m _ _ ?_);refine L (λD n=>f (aA aF (aA aF (aA (iL O dK O) ?_))));simp only[J];refine aA (eH O O (bN (by omega) (by omega))) (aA (gR dK cL O O (show _=ys.length+1 by omega) (by omega) (by omega)) ?_);simp only[J];refine bB O O (aee _ ((e.ext b).head k)) ?_;rintro v M a ⟨s,E,rfl,o⟩;replace b:=b.trans a;clear a;simp only[J];refine bB O O (Kk _ o) ?_;rintro v P a ⟨u,F,rfl,c⟩;replace b:=b.trans a;clear a;simp only[J];refine aA aF (aA aF ?_);simp only[J];refine cO dK (z:=.int .u64 0) (by kernel_rfl) O (by simp only[J];rfl) (by rfl) ?_;intro Q K a j l;have W:=ay b.size j
 (try replace c:=c.ext a);replace b:=b.trans a
 clear a j;simp only[J];refine bB O O (Kk _ (l.nat (os:=[d]) (wN i) O (by omega))) ?_;rintro v T a ⟨x,G,rfl,p⟩
 (try replace c:=c.ext a);replace b:=b.trans a
 clear a;simp only[J];refine bB O O (aiQ _ (h.ext b) p r (ay (sM (wN i)) (by simp))) ?_;rintro v U a ⟨y,I,rfl,q⟩
 (try replace c:=c.ext a);replace b:=b.trans a
 clear a;simp only[J];refine bB O O (aeb _ c q (fJ _) (fJ _)) ?_;rintro v V a rfl;replace b:=b.trans a;clear a;simp only[J];refine aA (oJ O O) (aA aI ?_);simp only[J];refine S (n _ _ ?_);refine gh ?_;try simp only[t,Exit.then]
 refine aS O O ?_;try simp only[zD,zE]
 exact⟨_,O,b,by rw[agu];simp only[cR,tQ]⟩
def Zc{B:Option Addr}{os ys:List Nat}{g0 off d:Nat}(w:an)(i:fQ w g0 (os.map lZ) 99)(x:G 4294967296 os)(ad:os.length<=1099511627776)(q:dX w B nb cb ys)(W:off+(ys.length+1)<=os.length)(C:na=os.length-off)(r:d<4294967296)(A:val 4294967296 ys*d<=val 4294967296 ((os.drop off).take (ys.length+1))):agn X9 133 [.slice (H ⟨g0,off,X8⟩) na na,.slice B nb cb,.int .u64 (d:Int)] w g0 (λ_ w'=>fQ w' g0 ((laid os off (ys.length+1) (val 4294967296 ((os.drop off).take (ys.length+1))-val 4294967296 ys*d)).map lZ) 99):=by
 skip
 refine⟨bP func133 (by kernel_rfl),?_⟩;have c:=eR.refl w;obtain rfl:=q.eq;have ab:=i.lt;have I:dX w (H ⟨g0,off,X8⟩) na na (os.drop off):=by
  have h:=(i.nat x rfl (by omega)).drop (show off<=os.length by omega) C;rw[cA,ae] at h;rwa [C] at *
 have u:ys.length+1<=(os.drop off).length:=by simp;omega
 obtain⟨V,l⟩:∃V,V=val 4294967296 ((os.drop off).take (ys.length+1)):=⟨_,rfl⟩
 rw[<-l] at A ⊢
 go_enter func133,ntmps133
 refine L (λK1 P=>f (aA aF (aA aF (aA (iL O dK O) ?_))));simp only[J];refine aA (eH O O (bN (by omega) (by omega))) (aA (gR dK cL O O (show _=ys.length+1 by omega) (by omega) (by omega)) ?_);simp only[J];refine bB O O (aee _ ((I.ext c).head u)) ?_;rintro v w1 b ⟨X,c1,rfl,j⟩;replace i:=i.ext b;replace c:=c.trans b;clear b;simp only[J];refine aA aF (aA aF ?_);simp only[J];refine cO dK (z:=.int .u64 0) (by kernel_rfl) O (by simp only[J];rfl) (by rfl) ?_;intro w2 F b s M;have aa:=ay c.size s;have ag:F≠g0:=dm (bc i.lt s);replace i:=i.ext b;(try replace j:=j.ext b);replace c:=c.trans b;clear b s;simp only[J];refine bB O O (Kk _ (M.nat (os:=[d]) (wN r) O (by omega))) ?_;rintro v w3 b ⟨Y,c3,rfl,T⟩;replace i:=i.ext b;(try replace j:=j.ext b);replace c:=c.trans b;clear b;simp only[J];refine bB O O (aiQ _ (q.ext c) T (by omega) (ay (sM (wN r)) (by simp))) ?_;rintro v w4 b ⟨Z,c4,rfl,U⟩;replace i:=i.ext b;(try replace j:=j.ext b);replace c:=c.trans b;clear b;simp only[J];have af:=c.size;refine bB O O (aiP _ j U (by simp only[cR,tQ];rw[bf,de u];exact Md q.digs r) (by simp only[cR,tQ];rw[<-l];exact A) (by rw[bf];omega)) ?_;rintro v w5 b ⟨⟨E,c5,rfl,p⟩,D⟩;replace i:=i.ext b;replace c:=c.trans b;clear b;replace D:∀a,E=H a->a.block≠g0:=λa e=>by subst e;have:=D a _ _ rfl;omega
 simp only[cR,tQ,<-l] at p ⊢;have K:(digs 4294967296 (V-val 4294967296 ys*d)).length<=ys.length+1:=eQ (by omega) (fr (pc _ _) (by have h:=kJ ((x.drop off).take (ys.length+1));rw[bf,de u,<-l] at h;exact h));simp only[J];refine aA aI ?_;simp only[J];refine S (P _ _ ?_);refine L (λK2 Q=>?_);replace c:=c.upd g0;have y:w.heap.size<=g0\/g0=g0:=.inr rfl;refine f (aA aF (aA aF (aA (iL O dK O) ?_)));simp only[J];refine aA (eH O O (bN (by omega) (by omega))) (aA (gR dK cL O O (show _=ys.length+1 by omega) (by omega) (by omega)) ?_);simp only[J];refine akw (z:=.int .u64 0) O dK (by kernel_rfl) O O (by omega) i (by simp;omega) rfl ?_;clear i;intro w6 k i
 (try replace p:=p.chg k (by first|assumption|rfl));replace c:=c.chg k y
 clear k;refine S (Q _ _ ?_);refine f (aA aF (aA aF ?_));simp only[J];refine akx O dK (by kernel_rfl) O O (g:=g0) (o:=off) (n:=na) (m:=(digs 4294967296 (V-val 4294967296 ys*d)).length) (us:=(digs 4294967296 (V-val 4294967296 ys*d)).map lZ) (by rw[dy];exact (de (by omega)).symm) p.src i (by rw[uS (by simp;omega)];simp;omega) agv ?_;clear i;intro w7 k i;replace c:=c.chg k y;clear k;simp only[J];refine S ?_;try simp only[t,Exit.then,Y4]
 exact Ny O ⟨_,O,c,by rw[<-aeJ W K];exact i⟩
end
section
set_option maxRecDepth 100000
attribute [local irreducible] be c_ fS cE cP Code.wp
attribute [local congr] fE fF eN fD
def toM{P:B}{f:FuncId}{args:List am}{w0 w:an}{is:List It}{g:Nat}{cs c:List am}{t:ba}(m:Mem w0 w is)(k:Nat)(j:is[k]? = H (bI g cs t))(h:agn P f args w g λ_ w'=>fQ w' g c t):Qt P f args w λ_ u=>Mem w0 u (is.set k (bI g c t)):=
 ⟨h.1,h.2.mono λ_ _ ⟨v,e,a,d⟩=>⟨v,e,m.put k j a.os a.tape a.output a.size (λb i l=>a.block b i λe=>l (by rw[e];rfl)) d (.inl λ_ h=>h)⟩⟩
def aiT{A B:Option Addr}{xs ys:List Nat}{na nb ca cb:Nat}(w:an)(hS:dX w A na ca xs)(W:dX w B nb cb ys)(tx:iI xs)(ty:iI ys)(h0:0<val 4294967296 ys)(bu:xs.length<=1000000000000)(bv:ys.length<=1000000000000):cX X9 82 [.slice A na ca,.slice B nb cb] w (λv w'=>∃q r,v=.tuple #[q,r]/\jF (val 4294967296 xs / val 4294967296 ys) q w'/\jF (val 4294967296 xs%val 4294967296 ys) r w'):=by
 refine⟨bP func82 (by kernel_rfl),?_⟩;have m:=Mem.refl w;obtain rfl:=hS.eq;obtain rfl:=W.eq
 go_enter func82,ntmps82
 apply iD 10 [0] m;simp only[↓Z];refine bY m O O (aeb _ (hS.ext m.ext) (W.ext m.ext) tx ty) ?_;rintro v u m rfl;apply aL 2 [0,0] m;simp only[↓Z];refine aZ O ?_ ?_<;>intro aT
 .have aV:=xR.1 aT;apply F 7 [] m;simp only[↓Z];exact kN O O O ⟨_,O,m.ext,_,_,O,by rw[Nat.div_eq_of_lt aV];exact jF.zero _,by rw[Nat.mod_eq_of_lt aV];exact jF.self (hS.ext m.ext) tx⟩
 have bl:val 4294967296 ys<=val 4294967296 xs:=ko λh=>aT (xR.2 h);apply F 8 [0,0] m;simp only[↓Z,fW];refine aZ O ?_ ?_<;>intro a6
 .apply F 1 [] m;simp only[↓Z];obtain⟨y,rfl⟩:∃y,ys=[y]:=List.length_eq_one_iff.1 (by omega);obtain⟨b,rfl,ao,ar⟩:=(W.ext m.ext).get (i:=0) (by simp);simp only[List.getElem_cons_zero] at ao ar;apply aQ 3 [0] m;simp only[↓Z];refine aA (aN dK cL O O (by decide) (by omega) O) ?_;simp only[J];refine bA O (lies1 ao jG) ?_;simp only[J];refine bB O O (aec _ (hS.ext m.ext) (by omega) (by rw[tQ] at h0;exact h0) (by omega)) ?_;rintro v u f ⟨q,rfl,A1,c1,rfl,ah⟩;replace m:=m.ext' f;apply aL 10 [0] m;simp only[↓Z];refine cO dK (z:=.int .u64 0) (by kernel_rfl) O O O ?_;intro u g1 f h_ k_;replace m:=m.newB f h_ k_;simp only[J];replace ah:=ah.ext f;refine bB O O (Kk _ ((m.b 0 O).nat (os:=[val 4294967296 xs%y]) (wN (bc (Nat.mod_lt _ (by rw[tQ] at h0;exact h0)) (by omega))) O (by omega))) ?_;rintro v u f ⟨A2,c2,rfl,aP⟩;replace m:=m.ext' f;replace ah:=ah.ext f;simp only[J];simp only[tQ] at aP ⊢;apply aL 4 [] m;simp only[↓Z];exact kN O O O ⟨_,O,m.ext,_,_,O,⟨A1,c1,O,ah⟩,⟨A2,c2,O,aP⟩⟩
 have bt:2<=ys.length:=by
  rcases ys with _|⟨y,ys⟩
  .exact Y0 h0 (by simp[val])
  simp only[bh] at a6 ⊢;omega
 have bz:ys.length<=xs.length:=by
  rcases Nat.lt_or_ge xs.length ys.length with h|h
  .have:=lJ (B:=4294967296) (by omega) hS.digs W.digs ty h;omega
  exact h
 obtain⟨b,rfl,_,ar⟩:=W.get (i:=ys.length-1) (by omega);have a1:=Bc ty (by omega);apply F 7 [0] m;simp only[↓Z];refine bT [8] [39,40,41,42,43,44,45,46,47,48,49,50] (λn vs wl=>∃(g:Nat),vs=[U (g:Int)]/\Mem w wl []/\(ys[ys.length-1]*2^g<4294967296)/\(g<=31)/\(n=32-g)) ?_ ?_
 .exact⟨_,0,O,m,by simpa using ar,by omega,O⟩
 intro n vs wr E u K1 a4;obtain⟨g,rfl,m,bb,aG,hn⟩:=E;simp only[zu,zF,zG];apply F 2 [] m;simp only[↓Z];have ao:=(W.ext m.ext).at (show ys.length-1<ys.length by omega);apply aQ 5 [0] m;simp only[↓Z,fW];apply R;omega;refine aA (aN dK cL O O (by omega) (by omega) (lK (show _=ys.length-1 by omega))) ?_;simp only[J];refine bA O (lies1 ao jG) ?_;simp only[J];apply aL 1 [0] m;simp only[↓Z];refine aA (mW O O (by omega) (xQ (n:=g) (by omega) (abW (by omega) ar))) ?_;simp only[J];refine aA (lH O O (by omega) anN) ?_;apply aL 2 [0,0] m;simp only[↓Z];refine aZ O ?_ ?_<;>intro bq
 .apply F 8 [0] m;simp only[↓Z];apply R;omega;rw[show ((g:Int)+1)=((g+1:Nat):Int) by omega];have bk:ys[ys.length-1]*2^g<2147483648:=by omega
  have a9:2^g<2^31:=fr (kf (2^g) a1) bk;have bC:g<31:=(Nat.pow_lt_pow_iff_right (by omega)).1 a9;exact a4 (32-(g+1)) _ _ (by omega) (by kernel_rfl) ⟨g+1,O,m,by rw[Nat.pow_succ,<-Nat.mul_assoc];omega,by omega,rfl⟩
 apply F 5 [0] m;simp only[↓Z];refine bB O O (aed _ (hS.ext m.ext) (by omega) (by omega)) ?_;rintro v u f ⟨g1,us,rfl,h_,k_,T,e,aY⟩;replace m:=m.newB f h_ k_;apply aL 2 [0] m;simp only[↓Z];refine bB O O (aed _ (W.ext m.ext) (by omega) (by omega)) ?_;rintro v u f ⟨g2,aE,rfl,h_,k_,a8,I,a0⟩;replace m:=m.newB f h_ k_;rw[<-a8];simp only[J];refine bY m O O (wD _ ((m.b 0 O).nat I O (by omega))) ?_;rintro v u m rfl;apply aL 3 [] m;simp only[↓Z];obtain⟨ds,t⟩:∃ds,ds=trim aE:=⟨_,rfl⟩
 rw[<-t];have be:ds.length=ys.length:=by rw[t];exact aeK I a0 W.digs (by omega) bb a1 aG
 have V:G 4294967296 ds:=by rw[t];exact I.trim
 have aM:val 4294967296 ds=2^g*val 4294967296 ys:=by rw[t,kY,a0]
 obtain⟨K,hK⟩:∃K,K=xs.length+1-ds.length:=⟨_,rfl⟩
 apply aQ 7 [0] m;simp only[↓Z,fW];apply R;omega;refine jW dK sO O O O (show _=K by omega) (show _=K by omega) (by omega) (by omega) (by omega) (by omega) ?_;intro u g3 f h_ k_;replace m:=m.newB f h_ k_;apply aL 2 [] m;simp only[↓Z];rw[iW] at m;apply aQ 1 [0] m;simp only[↓Z];refine mq m aB (by kernel_rfl) (cW 4 [] ?_);simp only[↓Z,fW];apply R;omega;refine aK (aN dK cL O O (by omega) (by omega) (mQ (show _=ds.length-1 by omega))) ?_;simp only[J];refine ql O (λu m=>(lies1 (by have d:=rR (m.b 1 O) I (by omega);rw[<-t] at d;have h:=d.at (show ds.length-1<ds.length by omega);rw[cA,ae] at h;exact h) jG)) ?_;simp only[J];refine cW 4 [] ?_;simp only[↓Z,fW];apply R;omega;refine aK (aN dK cL O O (by omega) (by omega) (mQ (show _=ds.length-2 by omega))) ?_;simp only[J];refine ql O (λu m=>(lies1 (by have d:=rR (m.b 1 O) I (by omega);rw[<-t] at d;have h:=d.at (show ds.length-2<ds.length by omega);rw[cA,ae] at h;exact h) jG)) ?_;simp only[J];refine aK aI (aK aI (bD ?_));intro u m;simp only[J];have ag:0<ds[ds.length-1]:=Bc (by rw[t];exact lY _) (by omega);obtain⟨j,au⟩:∃j,j=ds[ds.length-1]:=⟨_,rfl⟩
 obtain⟨al,aJ⟩:∃al,al=ds[ds.length-2]:=⟨_,rfl⟩
 have bx:j<4294967296:=au▸V _ (fe _);have aX:al<4294967296:=aJ▸V _ (fe _);rw[<-au] at ag;rw[<-au,<-aJ];apply aQ 9 [0] m;simp only[↓Z,fW];apply R;omega;refine bT [14] [15,16,17,18,79,80,81,82,83,84,85,86,87,88,89,90,91,92,93,94,95,96,97,98,99,100,101,102,103,104,105,106,107,108,109,110,111,112,113,114,115,116,117,118,119,120,121,122,123,124,125,126,127,128,129,130,131,132,133,134,135,136,137,138,139,140,141,142,143,144,145,146] (λn vs wl=>∃(k:Nat)(us C:List Nat),vs=[U ((k:Int)-1)]/\Mem w wl [bI g3 (C.map lZ) 99,bI g2 (aE.map lZ) 99,bI g1 (us.map lZ) 99]/\(k<=K)/\(us.length=xs.length+1)/\(C.length=K)/\(G 4294967296 us)/\(G 4294967296 C)/\(val 4294967296 us+val 4294967296 C*val 4294967296 ds=2^g*val 4294967296 xs)/\(val 4294967296 (us.drop k)<val 4294967296 ds)/\(C.take k=bn k 0)/\(n=k)) ?_ ?_
 .exact⟨_,K,us,bn K 0,O,m,bg _,T,by simp,e,λx hx=>by rw[ep hx];decide,by rw[fZ,Nat.zero_mul];exact aY,by rw[hK];exact agA hS.digs T aY (by omega) (by omega) aG (by rw[aM,be];exact aeL (by omega) (by omega)),by rw[ap (by simp)],O⟩
 intro n vs wr E u K2 am;obtain⟨k,us,C,rfl,m,hk,T,aq,e,aj,E,L,hz,hn⟩:=E;simp only[zu,zF,zG];apply F 6 [0,0] m;simp only[↓Z];refine aZ O ?_ ?_<;>intro br
 .obtain⟨i,rfl⟩:∃i,k=i+1:=⟨k-1,by omega⟩
  rw[show (((i+1:Nat):Int)-1)=(i:Int) by omega];have hi:i+ds.length<us.length:=by omega
  apply F 11 [] m;simp only[↓Z,fW];apply R;omega;rw[show ((i:Int)+(ds.length:Int))=((i+ds.length:Nat):Int) by omega];apply aQ 1 [] m;simp only[↓Z];have bm:us[i+ds.length]<4294967296:=e _ (fe _);have bo:us[i+ds.length-1]<4294967296:=e _ (fe _);obtain⟨a3,ax⟩:∃a3,a3=us[i+ds.length-2]:=⟨_,rfl⟩
  have bp:a3<4294967296:=ax▸e _ (fe _);obtain⟨af,hU⟩:∃af,af=val 4294967296 (us.drop i):=⟨_,rfl⟩
  refine gc (mq m aB (by kernel_rfl) ?_);refine cW 3 [] ?_;simp only[↓Z,jM,ab,ae,bi];apply R;omega;refine ql O (λu m=>(lies1 ((m.b 2 O).word (show i+ds.length<us.length by omega)) jG)) ?_;simp only[J];refine aK (mW O O (by omega) (xQ (n:=32) (by omega) (by omega))) (cW 3 [] ?_);simp only[↓Z];apply R;omega;refine aK (aN dK cL O O (by omega) (by omega) (lK (show _=i+ds.length-1 by omega))) ?_;simp only[J];refine ql O (λu m=>(lies1 (by rw[cA,ae];exact (m.b 2 O).word (show i+ds.length-1<us.length by omega)) jG)) ?_;simp only[J];refine aK (abU O O (Mq (s:=32) (c:=us[i+ds.length]) (by omega) (by omega) (by omega))) (aK aI (bD ?_));intro u m;simp only[J];obtain⟨two,a2⟩:∃two:Nat,two=us[i+ds.length-1]+us[i+ds.length]*4294967296:=⟨_,rfl⟩
  rw[<-a2];have bj:two<18446744073709551616:=by omega
  obtain⟨P,hP,f1,f2,f3,f4,f5,f6,f7⟩:=aeM e V (by omega) hi L a2 au aJ ax hU;obtain⟨q,hq⟩:∃q,q=af / val 4294967296 ds:=⟨_,rfl⟩
  have D:q*val 4294967296 ds<=af:=by rw[hq];exact Nat.div_mul_le_self _ _
  have aS:0<val 4294967296 ds:=by omega
  have aa:af<(q+1)*val 4294967296 ds:=by rw[<-jr aS];omega
  have ad:q<4294967296:=by rw[hq,jr aS];exact f7
  apply aQ 1 [0] m;simp only[↓Z];refine mq m aB (by kernel_rfl) (aK aF (aK aF ?_));simp only[J];refine aK (gL O O (by omega) (Ms bj)) (aK aF (aK aF ?_));simp only[J];refine aK (cS O O (by omega) nS) (aK aI (aK aI (bD ?_)));intro u m;apply aQ 2 [0] m;simp only[↓Z];refine bT [17,18] [104,105,106,107,108,109,110,111,112,113,114,115,116,117,118,119,120,121,122,123,124,125,126,127,128] (λn vs wl=>∃(a l:Nat),vs=[.int .u64 (a:Int),.int .u64 (l:Int)]/\Mem w wl [bI g3 (C.map lZ) 99,bI g2 (aE.map lZ) 99,bI g1 (us.map lZ) 99]/\(a*j+l=two)/\(q<=a)/\(n=a)) ?_ ?_
  .exact⟨_,two / j,two%j,O,m,by rw[iw];exact Nat.div_add_mod two j,agx (by omega) f1 f2 D ag,O⟩
  intro n vs wr E u K3 aO;obtain⟨a,l,rfl,m,ak,aW,bw⟩:=E;simp only[zu,zF,zG];apply F 2 [] m;simp only[↓Z];have hgt:a<=two:=ay (kz a ag) (by omega);rcases (show 4294967295<a\/(a<=4294967295/\4294967295<l)\/(a<=4294967295/\l<=4294967295) by omega) with aU|⟨aU,ba⟩|⟨aU,ba⟩
  .have bf:q<a:=by omega
   have hgt:a<=two:=ay (kz a ag) (by omega);apply aQ 20 [1,0,0,0,0,0,0,0,0,0,0,0,0,0,0,0,0] m;simp only[↓Z];apply R;omega;apply aQ 11 [] m;simp only[↓Z];apply R;omega;have bd:l+j<=two:=by have:=kf j (show 0<a by omega);omega
   apply aQ 7 [0] m;simp only[↓Z];apply R;omega;obtain⟨o,rfl⟩:∃o,a=o+1:=⟨a-1,by omega⟩
   rw[show (((o+1:Nat):Int)-1)=(o:Int) by omega,show ((l:Int)+(j:Int))=((l+j:Nat):Int) by omega];exact aO o _ _ (by omega) (by kernel_rfl) ⟨o,l+j,O,m,by rw[Nat.add_mul,kl] at ak;omega,by omega,rfl⟩
  .have hx:a*al<=a3+l*4294967296:=agC (by omega) aX (by omega);have hgt:a<=two:=ay (kz a ag) (by omega);apply aQ 20 [2,0,0,2,0,0,0,0,0,0,0,0,0,0,0,0,0,0] m;simp only[↓Z];apply R;omega;apply aQ 6 [] m;simp only[↓Z];have d:=rR (m.b 1 rfl) I (by omega);rw[<-t] at d;have M:=((m.b 2 rfl).nat e rfl (by omega)).drop (show i<=us.length by omega) rfl;rw[cA,ae,T] at M;have Q:val 4294967296 ((us.drop i).take (ds.length+1))=af:=by rw[<-Gl V (by omega) L,hU]
   have az:a<=q+1:=aal f4 f6 aa (Oe ak hx) (by omega);obtain⟨av,aw⟩:=Tw D aa aW az;apply aQ 3 [0] m;simp only[↓Z];refine aA (gS dK cL O O (ab _) (by omega) (by omega) (Cy (by omega))) ?_;apply aL 2 [0] m;simp only[↓Z];refine bY m O O (aiS _ M d (by simp;omega) (by omega) (by omega)) ?_;rintro v u m rfl;apply aL 1 [0] m;simp only[↓Z];refine aZ O ?_ ?_<;>intro S
   .have a7:0<a:=by
     rcases et a with h|h
     .rw[h,ja] at S;exact Y0 S (om _)
     exact h
    have aD:=av (by rw[<-Q];exact S);apply F 5 [] m;simp only[↓Z];apply R;omega;rw[show ((a:Int)-1)=(q:Int) by omega];apply aQ 1 [] m;simp only[↓Z];clear d M;have d:=rR (m.b 1 rfl) I (by omega);rw[<-t] at d;apply aQ 3 [0] m;simp only[↓Z];refine aA (gS dK cL O O (ab _) (by omega) (by omega) (Cy (by omega))) ?_;apply aL 2 [0] m;simp only[↓Z];refine qQ O O (toM m 2 O (Zc _ (m.b 2 O) e (by omega) d (by omega) (by omega) ad (by rw[Q,iw];exact D))) ?_;rintro v u m;simp only[J];simp only[zF,zG] at m;apply aL 1 [] m;simp only[↓Z];clear d;apply aQ 5 [0] m;simp only[↓Z,jM,ab,ae,bi];apply R;omega;refine cH m 0 O O O cL (by simp;omega) ⟨rfl,rfl⟩ ?_;intro u m;simp only[J] at m ;rw[iN (by omega)] at m;apply aL 7 [0] m;simp only[↓Z];apply R;omega;obtain⟨r1,r2,r3,r4⟩:=Cz V e hi L hU D aa E hz (by omega);exact am i _ _ (by omega) (by kernel_rfl) ⟨i,laid us i (ds.length+1) (val 4294967296 ((us.drop i).take (ds.length+1))-val 4294967296 ds*q),C.set i q,O,m,by omega,by rw[r4];exact T,by simpa using aq,Cx e,aj.set ad,r1,r2,r3,O⟩
   have aD:=aw (by rw[<-Q];exact S);rw[show (a:Int)=(q:Int) by omega];apply F 2 [] m;simp only[↓Z];clear d M;have d:=rR (m.b 1 rfl) I (by omega);rw[<-t] at d;apply aQ 3 [0] m;simp only[↓Z];refine aA (gS dK cL O O (ab _) (by omega) (by omega) (Cy (by omega))) ?_;apply aL 2 [0] m;simp only[↓Z];refine qQ O O (toM m 2 O (Zc _ (m.b 2 O) e (by omega) d (by omega) (by omega) ad (by rw[Q,iw];exact D))) ?_;rintro v u m;simp only[J];simp only[zF,zG] at m;apply aL 1 [] m;simp only[↓Z];clear d;apply aQ 5 [0] m;simp only[↓Z,jM,ab,ae,bi];apply R;omega;refine cH m 0 O O O cL (by simp;omega) ⟨rfl,rfl⟩ ?_;intro u m;simp only[J] at m ;rw[iN (by omega)] at m;apply aL 7 [0] m;simp only[↓Z];apply R;omega;obtain⟨r1,r2,r3,r4⟩:=Cz V e hi L hU D aa E hz (by omega);exact am i _ _ (by omega) (by kernel_rfl) ⟨i,laid us i (ds.length+1) (val 4294967296 ((us.drop i).take (ds.length+1))-val 4294967296 ds*q),C.set i q,O,m,by omega,by rw[r4];exact T,by simpa using aq,Cx e,aj.set ad,r1,r2,r3,O⟩
  have hgt:a<=two:=ay (kz a ag) (by omega);apply aQ 9 [2,0,0,1,0,0,0,0] m;simp only[↓Z];apply R;omega;refine bQ O (aA (lT O O (akJ (fr (ags (by omega) aX) (by decide)))) ?_);apply aL 1 [0,0] m;simp only[↓Z];refine bQ O (aA (mW O O (by omega) (xQ (n:=32) (by omega) (by omega))) ?_);apply aL 3 [0,0,0,0] m;simp only[↓Z];apply R;omega;refine bQ O (aA (aN dK cL O O (by omega) (by omega) (lK (show _=i+ds.length-2 by omega))) (bQ O ?_));simp only[J];refine bA O (lies1 (by have h:=(m.b 2 O).word (show i+ds.length-2<us.length by omega);rw[<-ax] at h;rw[cA,ae];exact h) jG) ?_;simp only[J];refine bQ O (aA (abU O O (Mq (s:=32) (c:=l) (by omega) (by omega) (by omega))) ?_);apply aL 4 [0,0,0,0] m;simp only[↓Z];refine aZ O ?_ ?_<;>intro bs
  .have bf:q<a:=agy hP f3 f5 D (abX ak (by omega));apply F 8 [] m;simp only[↓Z];apply R;omega;have bd:l+j<=two:=by have:=kf j (show 0<a by omega);omega
   apply aQ 7 [0] m;simp only[↓Z];apply R;omega;obtain⟨o,rfl⟩:∃o,a=o+1:=⟨a-1,by omega⟩
   rw[show (((o+1:Nat):Int)-1)=(o:Int) by omega,show ((l:Int)+(j:Int))=((l+j:Nat):Int) by omega];exact aO o _ _ (by omega) (by kernel_rfl) ⟨o,l+j,O,m,by rw[Nat.add_mul,kl] at ak;omega,by omega,rfl⟩
  have hx:a*al<=a3+l*4294967296:=by omega
  apply F 3 [] m;simp only[↓Z];have d:=rR (m.b 1 rfl) I (by omega);rw[<-t] at d;have M:=((m.b 2 rfl).nat e rfl (by omega)).drop (show i<=us.length by omega) rfl;rw[cA,ae,T] at M;have Q:val 4294967296 ((us.drop i).take (ds.length+1))=af:=by rw[<-Gl V (by omega) L,hU]
  have az:a<=q+1:=aal f4 f6 aa (Oe ak hx) (by omega);obtain⟨av,aw⟩:=Tw D aa aW az;apply aQ 3 [0] m;simp only[↓Z];refine aA (gS dK cL O O (ab _) (by omega) (by omega) (Cy (by omega))) ?_;apply aL 2 [0] m;simp only[↓Z];refine bY m O O (aiS _ M d (by simp;omega) (by omega) (by omega)) ?_;rintro v u m rfl;apply aL 1 [0] m;simp only[↓Z];refine aZ O ?_ ?_<;>intro S
  .have a7:0<a:=by
    rcases et a with h|h
    .rw[h,ja] at S;exact Y0 S (om _)
    exact h
   have aD:=av (by rw[<-Q];exact S);apply F 5 [] m;simp only[↓Z];apply R;omega;rw[show ((a:Int)-1)=(q:Int) by omega];apply aQ 1 [] m;simp only[↓Z];clear d M;have d:=rR (m.b 1 rfl) I (by omega);rw[<-t] at d;apply aQ 3 [0] m;simp only[↓Z];refine aA (gS dK cL O O (ab _) (by omega) (by omega) (Cy (by omega))) ?_;apply aL 2 [0] m;simp only[↓Z];refine qQ O O (toM m 2 O (Zc _ (m.b 2 O) e (by omega) d (by omega) (by omega) ad (by rw[Q,iw];exact D))) ?_;rintro v u m;simp only[J];simp only[zF,zG] at m;apply aL 1 [] m;simp only[↓Z];clear d;apply aQ 5 [0] m;simp only[↓Z,jM,ab,ae,bi];apply R;omega;refine cH m 0 O O O cL (by simp;omega) ⟨rfl,rfl⟩ ?_;intro u m;simp only[J] at m ;rw[iN (by omega)] at m;apply aL 7 [0] m;simp only[↓Z];apply R;omega;obtain⟨r1,r2,r3,r4⟩:=Cz V e hi L hU D aa E hz (by omega);exact am i _ _ (by omega) (by kernel_rfl) ⟨i,laid us i (ds.length+1) (val 4294967296 ((us.drop i).take (ds.length+1))-val 4294967296 ds*q),C.set i q,O,m,by omega,by rw[r4];exact T,by simpa using aq,Cx e,aj.set ad,r1,r2,r3,O⟩
  have aD:=aw (by rw[<-Q];exact S);rw[show (a:Int)=(q:Int) by omega];apply F 2 [] m;simp only[↓Z];clear d M;have d:=rR (m.b 1 rfl) I (by omega);rw[<-t] at d;apply aQ 3 [0] m;simp only[↓Z];refine aA (gS dK cL O O (ab _) (by omega) (by omega) (Cy (by omega))) ?_;apply aL 2 [0] m;simp only[↓Z];refine qQ O O (toM m 2 O (Zc _ (m.b 2 O) e (by omega) d (by omega) (by omega) ad (by rw[Q,iw];exact D))) ?_;rintro v u m;simp only[J];simp only[zF,zG] at m;apply aL 1 [] m;simp only[↓Z];clear d;apply aQ 5 [0] m;simp only[↓Z,jM,ab,ae,bi];apply R;omega;refine cH m 0 O O O cL (by simp;omega) ⟨rfl,rfl⟩ ?_;intro u m;simp only[J] at m ;rw[iN (by omega)] at m;apply aL 7 [0] m;simp only[↓Z];apply R;omega;obtain⟨r1,r2,r3,r4⟩:=Cz V e hi L hU D aa E hz (by omega);exact am i _ _ (by omega) (by kernel_rfl) ⟨i,laid us i (ds.length+1) (val 4294967296 ((us.drop i).take (ds.length+1))-val 4294967296 ds*q),C.set i q,O,m,by omega,by rw[r4];exact T,by simpa using aq,Cx e,aj.set ad,r1,r2,r3,O⟩
 obtain rfl:k=0:=by omega
 rw[kv] at L;obtain⟨dq,dr⟩:=agB (X:=val 4294967296 xs) (Y:=val 4294967296 ys) (p:=2^g) (u:=val 4294967296 us) (q:=val 4294967296 C) (kj (by omega)) (by rw[<-aM];exact E) (by rw[<-aM];exact L);apply F 4 [0] m;simp only[↓Z];refine bB O O (Kk _ ((m.b 0 O).nat aj (by omega) (by omega))) ?_;rintro v u f ⟨A5,c5,rfl,ai⟩;replace m:=m.ext' f;apply aL 1 [0] m;simp only[↓Z];refine bB O O (Kk _ ((m.b 2 O).nat e (by omega) (by omega))) ?_;rintro v u f ⟨A6,c6,rfl,a5⟩;replace m:=m.ext' f;replace ai:=ai.ext f;apply aL 1 [0] m;simp only[↓Z];refine bB O O (afJ _ a5 (ay (sM e) (by omega)) aG) ?_;rintro v u f ⟨A7,c7,rfl,aR⟩;replace m:=m.ext' f;replace ai:=ai.ext f;apply aL 4 [] m;simp only[↓Z];exact kN O O O ⟨_,O,m.ext,_,_,O,by rw[<-dq];exact⟨A5,c5,O,ai⟩,by rw[<-dr];simp only[cR] at aR ⊢;exact⟨A7,c7,O,aR⟩⟩
def Ci{neg:Bool}{s:ByteArray}(w:an)(W:s.size<=1000000000000):cX X9 69 [.agg #[.bool neg,.string s]] w (jF (akK s)):=by
 refine⟨bP func69 (by kernel_rfl),?_⟩;have m:=Mem.refl w
 go_enter func69,ntmps69
 apply gJ 9 [1,0] m;simp only[↓Z,yJ,acL,aa];intro g u m;refine aA (tP O pT O) ?_;apply aL 2 [0] m;simp only[↓Z];apply R;omega;rw[show ((s.size:Int)+4-1)=((s.size+3:Nat):Int) by omega];refine aA (gL O O (by omega) (oZ (n:=4) (by omega))) ?_;simp only[J];obtain⟨K,o⟩:∃K,K=(s.size+3) / 4:=⟨_,rfl⟩
 rw[<-o];refine jW dK sO O O O (show _=K by omega) (show _=K by omega) (by omega) (by omega) (by omega) (by omega) ?_;intro u k f q B;replace m:=m.newB f q B;apply aL 2 [] m;simp only[↓Z];rw[iW] at m;apply aQ 5 [2,0] m;simp only[↓Z,yJ,acL,aa];refine aA (tP O pT O) ?_;apply aL 3 [0] m;simp only[↓Z];refine bT [16] [4,5,17,18,19,20,21,22,23,24,25,26,27,28,29,30,31,32,33,34,35,36,37,38,39,40,41] (λn vs C=>∃(i:Nat)(os:List Nat),vs=[U (i:Int)]/\Mem w C [bI k (os.map lZ) 99,bI g [.bool neg,.string s] 37]/\(i<=s.size)/\(os.length=K)/\(G 4294967296 os)/\(∀(j:Nat)(h:j<os.length),256^(s.size-i-4*j)∣os[j])/\(val 4294967296 os=256^(s.size-i)*val 256 ((pE s).drop (s.size-i)))/\(n=s.size-i)) ?_ ?_
 .exact⟨_,0,bn K 0,O,m,by omega,by simp,λx A=>by rw[ep A];decide,λj h=>by rw[List.getElem_replicate];exact Nat.dvd_zero _,by rw[fZ,agF (by rw[vW];omega),ja],rfl⟩
 intro n vs X l u Q D;obtain⟨i,os,rfl,m,T,L,d,I,e,V⟩:=l;simp only[zu,zF,zG];apply F 5 [0,0] m;simp only[↓Z];refine aZ O ?_ ?_<;>intro Y
 .apply F 12 [2,0] m;simp only[↓Z,yJ,acL,aa];refine aA (tP O pT O) ?_;apply aL 5 [] m;simp only[↓Z];apply R;omega;obtain⟨p,z⟩:∃p,p+1+i=s.size:=⟨s.size-1-i,by omega⟩
  rw[show ((s.size:Int)-1-(i:Int))=(p:Int) by omega];obtain⟨b,t,M,E⟩:=Ew z;obtain⟨f1,f2,f3,f4⟩:=aeN (r:=p%4) (j:=p / 4) M (by omega) (by omega) (by omega) d (Lf s) (by rw[show p+1=s.size-i by omega];exact I) (by rw[show p+1=s.size-i by omega];exact e);rw[E,Of] at f1 f3 f4;have P:b.toNat<256:=b.toNat_lt;have f5:b.toNat*2^(8*(p%4))<2^(8*(p%4+1)):=by
   rw[show 8*(p%4+1)=8+8*(p%4) by omega,Nat.pow_add];exact Nat.mul_lt_mul_of_pos_right P (kj (by omega))
  obtain⟨c,f6⟩:∃c,os[p / 4]=2^(8*(p%4+1))*c:=by
   obtain⟨c,y⟩:=f2;exact⟨c,by rw[y,Of]⟩
  refine gc ?_;refine cC m 16 aB (by kernel_rfl) ?_;simp only[zy];refine aK aF (aK aF ?_);simp only[J];refine aK (gL O O (by omega) (oZ (n:=4) (by omega))) ?_;simp only[J];refine aK (aN dK cL O O (by omega) (by omega) (mQ (show _=p / 4 by omega))) ?_;simp only[J];refine ql O (λu m=>(lies1 ((m.b 0 O).word (show p / 4<os.length by omega)) jG)) ?_;simp only[J];refine cW 3 [2] ?_;simp only[↓Z,yJ,acL,aa];refine aK ((pD pT O O (by omega) (by rw[ab];exact t))) (aK (iU nE aa5 O (oK (by omega) (by omega))) (aK aF ?_));simp only[J];refine aK (cS O O (by omega) (nS (n:=4))) (aK (lT O O ((bN (by omega) (by omega)).trans (show (8:Int)*((p%4:Nat):Int)=((8*(p%4):Nat):Int) by omega))) ?_);simp only[J];refine aK (mW O O (by omega) (xQ (n:=8*(p%4)) (by omega) (by omega))) (aK (abU O O ((Mq (s:=8*(p%4+1)) (a:=b.toNat*2^(8*(p%4))) (b:=os[p / 4]) f5 f6 (by omega)).trans (show (((b.toNat*2^(8*(p%4)))+os[p / 4]:Nat):Int)=((os[p / 4]+b.toNat*2^(8*(p%4)):Nat):Int) by omega))) ?_);simp only[J];refine aK (aN dK cL O O (by omega) (by omega) (mQ (show _=p / 4 by omega))) (bD ?_);intro u m;simp only[J];refine cH m 0 O O O cL (by simp;omega) ⟨rfl,rfl⟩ ?_;intro u m;simp only[J] at m ;rw[iN (by omega)] at m;refine S ?_;apply aQ 5 [0] m;simp only[↓Z];apply R;omega;rw[show ((i:Int)+1)=((i+1:Nat):Int) by omega];exact D (s.size-(i+1)) _ _ (by omega) (by kernel_rfl) ⟨i+1,os.set (p / 4) (os[p / 4]+b.toNat*2^(8*(p%4))),O,m,by omega,by simpa using L,d.set f1,by rw[show s.size-(i+1)=p by omega];exact f3,by rw[show s.size-(i+1)=p by omega];exact f4,O⟩
 apply F 2 [] m;simp only[↓Z];obtain rfl:i=s.size:=by omega
 apply aQ 2 [0] m;simp only[↓Z];refine bY m O O (wD _ ((m.b 0 O).nat d (by omega) (by omega))) ?_;rintro v u m rfl;apply aL 3 [] m;simp only[↓Z];exact aS O O ⟨_,O,m.ext,jF.of_trim ((m.b 0 O).nat d (n:=K) (by omega) (by omega)) (by rw[e,ke,Nat.pow_zero,kl,kv];rfl)⟩
end
section
attribute [local go_sem] Oper.semAt_some
variable{n₀ Bs:Nat}
def xD(n₀ Bs:Nat)(W a:an):Prop:=Below n₀ W a/\a.heap[Bs]? = W.heap[Bs]?
def xD.refl(n₀ Bs:Nat)(W:an):xD n₀ Bs W W:=⟨Below.refl _ _,rfl⟩
def xD.trans{A B C:an}(h:xD n₀ Bs A B)(k:xD n₀ Bs B C):xD n₀ Bs A C:=⟨h.1.trans k.1,k.2.trans h.2⟩
def xD.box{A B:an}(h:xD n₀ Bs A B){v:am}(a:A.cell? ⟨Bs,0,X8⟩=H v):B.cell? ⟨Bs,0,X8⟩=H v:=(World.cell?_of_block h.2).trans a
set_option maxRecDepth 100000 in
def aiU(F:Fence)(n:Nat)(h7:F.fn 170)(hro:F.round=X8)(hn:1<=n)(l Bs n₀ cap:Nat)(a:Addr)(xs:List Nat)(hreach:xs.length*8<=140737488351232)(hb:a.block<n₀)(J Jx:List (Nat×Nat)->an->Prop)
 (hY:∀pre x W,J pre W->pre.length<xs.length->YieldAt F (n-1) X9 l #[U (x.1:Int),.int .u64 (x.2:Int)] W λe W'=>
  (e=.returned (.bool N)/\J (pre++[x]) W'/\xD n₀ Bs W W')\/(e=.returned (.bool X7)/\Jx (pre++[x]) W'))
 (W:an) (hBs:W.cell? ⟨Bs,0,X8⟩=H (.slice (H a) xs.length cap)) (hc:∀j (h:j<xs.length),W.cell? (a.add j)=H (.int .u64 (xs[j]:Nat))) (h0:J [] W) :
 CallsIn F n X9 170 #[.func (.yield l) #[] #[],.pointer (H ⟨Bs,0,X8⟩)] W λe W'=>(∃v,e=.returned v) /\
  ((∃ys:List (Nat×Nat),ys.map q_=xs.reverse/\J ys W')\/(∃pre,True/\Jx pre W')):=by
 refine callsIn_of_wp func170 O h7 ?_ hro;simp only[ntmps170,gy,bh,dv,aa,lj,ir,iu,jq,i_,cv,dx]
 gi_wp2
 gi_loopw [3] (λi wr=>∃(k:Nat) (pre:List (Nat×Nat)),k<=xs.length/\i=U ((k:Int)-1)/\pre.length=xs.length-k/\pre.map q_=(xs.drop k).reverse/\J pre wr/\xD n₀ Bs W wr)
  (λi _=>(intOf i+1).toNat)
 case atStart=>exact⟨xs.length,[],bg _,rfl,by simp,by simp,h0,xD.refl _ _ _⟩
 case round=>
  obtain⟨k,pre,hk,rfl,hpl,hpre,hJs,hnx⟩:=hrel;have hBw:wr.cell? ⟨Bs,0,X8⟩=H (.slice (H a) xs.length cap):=hnx.box hBs;by_cases hk0:0<k
  . have hlt:k-1<xs.length:=by omega
    have hcx:wr.cell? (a.add (k-1))=H (.int .u64 ((xs[k-1]:Nat):Int)):=(hnx.1.cell (by rw[tI];exact hb)).trans (hc _ hlt);obtain⟨fn,tmps,assign,body,hy,hR⟩:=hY pre (k-1,xs[k-1]) wr hJs (by omega);dsimp only at hy;obtain⟨j,rfl⟩:∃j,k=j+1:=⟨k-1,by omega⟩
    rw[show (((j+1:Nat):Int)-1)=(j:Int) by omega];simp only[g_] at hy hR hcx hlt
    gi_wp2
    refine hR.mono ?_;rintro e W3 (⟨rfl,hJ3,hk3⟩|⟨rfl,hJx3⟩)
    . gi_wp2
      go_roundw
      case rel=>exact⟨j,pre++[(j,xs[j])],by omega,by simp,by simp;omega,by rw[dw hlt,List.reverse_cons,dh,hpre];rfl,hJ3,hnx.trans hk3⟩
      case measure=>simp[intOf]
    gi_wp2
    refine bodyPost_ret (results_none O _ _ _) O ?_;exact⟨⟨_,O⟩,.inr ⟨_,trivial,hJx3⟩⟩
  obtain rfl:k=0:=by omega
  gi_wp2
  go_end0
  exact⟨⟨_,O⟩,.inl ⟨pre,by rw[hpre];rfl,hJs⟩⟩
set_option maxRecDepth 100000 in
def Zd(F:Fence)(n:Nat)(h7:F.fn 170)(hro:F.round=X8)(l Bs cap:Nat)(A:Option Addr)(J:List (Nat×Nat)->an->Prop)(W:an)(hBs:W.cell? ⟨Bs,0,X8⟩=H (.slice A 0 cap))(h0:J [] W) :
 CallsIn F n X9 170 #[.func (.yield l) #[] #[],.pointer (H ⟨Bs,0,X8⟩)] W λe W'=>(∃v,e=.returned v)/\J [] W':=by
 refine callsIn_of_wp func170 O h7 ?_ hro;simp only[ntmps170,gy,bh,dv,aa,lj,ir,iu,jq,i_,cv,dx]
 gi_wp2
 gi_loopw [3] (λi wr=>i=U (-1)/\J [] wr) (λ_ _=>0)
 case atStart=>exact⟨rfl,h0⟩
 case round=>
  obtain⟨rfl,hJs⟩:=hrel
  gi_wp2
  go_end0
  exact⟨⟨_,O⟩,hJs⟩
def alR(F:Fence)(n:Nat)(h5:F.fn 116)(hro:F.round=X8)(a:Option Addr)(len cap:Nat)(w:an) :
 CallsIn F n X9 116 #[.slice a len cap] w λe w'=>e=.returned (.func (.func 170) #[] #[.pointer (H ⟨w.heap.size,0,X8⟩)])/\w'=w.alloc (.cells #[.slice a len cap] 132):=by
 refine callsIn_of_wp func116 O h5 ?_ hro;simp only[ntmps116,gy,bh,dv,aa,lj,ir,iu,jq,i_,cv,dx]
 gi_wp2
 go_ret
 exact⟨O,O⟩
def acW(F:Fence)(n:Nat)(d:F.fn 170)(o:F.round=X8)(u:1<=n)(Bs n₀ cap:Nat)(A:Option Addr)(xs:List Nat)(B:xs.length*8<=140737488351232)(w:an)(v:Bs<w.heap.size)(z:n₀<=w.heap.size)
 (s:w.cell? ⟨Bs,0,X8⟩=H (.slice A xs.length cap)) (g:∀(i x:Nat),xs[i]? = H x->∃a,A=H a/\w.cell? (a.add i)=H (.int .u64 (x:Int))) (f:∀a,0<xs.length->A=H a->a.block<n₀) :
 SeqStopsK F n X9 170 #[.pointer (H ⟨Bs,0,X8⟩)] (λx:Nat×Nat=>#[Value.int .i64 (x.1:Int),Value.int .u64 (x.2:Int)]) (xD n₀ Bs) (λys=>ys.map q_=xs.reverse) (λ_=>True) xs.length w:=λl J q W k _ _ r c=>by
 have m:=(k.cell (p:=⟨Bs,0,X8⟩) v).trans s;rcases et xs.length with h|h
 . obtain rfl:xs=[]:=fd h
   exact (Zd F n d o l Bs cap A J W m c).mono λe C ⟨t,b⟩=>⟨t,.inl ⟨[],O,b⟩⟩
 obtain⟨a,rfl,_⟩:=g 0 xs[0] (ah h)
 refine aiU F n d o u l Bs n₀ cap a xs B (f a h O) J q r W m (λj b=>?_) c;obtain⟨D,e,y⟩:=g j xs[j] (ah b);cases e;exact (k.cell (by rw[tI];exact bc (f a h O) z)).trans y
def apB{A:Option Addr}{n cap:Nat}(w:an):cX X9 116 [.slice A n cap] w (λv w'=>∃g,v=.func (.func 170) #[] #[.pointer (H ⟨g,0,X8⟩)]/\w.heap.size<=g/\fQ w' g [.slice A n cap] 132):=by
 refine⟨bP func116 (by kernel_rfl),(callsIn_wide (n:=2)).1 ((alR Fence.wide 2 trivial O A n cap w).mono ?_)⟩;rintro e w' ⟨rfl,rfl⟩;exact⟨_,O,(eR.refl w).alloc _,_,O,bg _,kM w _ _⟩
end
section
set_option maxRecDepth 100000
attribute [local irreducible] be c_ fS Code.wp
attribute [local go_sem] Oper.semAt_some
def alS:(prog.info? 5).map (λi=>(i.zero,i.size,i.bytes))=H (H (.int .u8 0),1,1):=by kernel_rfl
def Rg{W c:an}{f:Obj}{v v':am}{base size k g a:Nat}{e t:ba}{xs cs:List am}(b:fQ W g cs t)(o:t≠e)(m:W.ownsRow base e size v k xs)(l:(W.alloc f).grownBy c v.ownBlock)(n:g≠a):(c.setCell ⟨a,0,X8⟩ v').heap[g]? = W.heap[g]?:=by
 have j:H g≠v.ownBlock:=by
  rcases m.2 with ⟨rfl,_⟩|⟨i,cap,cur,rfl,_,d,_⟩
  .simp[qi]
  intro h;obtain rfl:g=i:=by simpa[qi] using h
  rw[b] at d;cases d;exact o O
 exact ((Below.heap_setCell c ⟨a,0,X8⟩ v' g n).trans (l.block g (by simp;have:=b.lt;omega) j)).trans (Below.heap_alloc W f g b.lt)
def uK{A:Option Addr}{xs:List Nat}{na cap:Nat}{neg:Bool}(w:an)(hS:dX w A na cap xs)(hl:xs.length<=100000000000):cX X9 71 [.slice A na cap,.bool neg] w (λv _=>v=W (Oj neg (val 4294967296 xs))):=by
 skip
 refine⟨bP func71 (by kernel_rfl),?_⟩;have hX:=eR.refl w;obtain rfl:=hS.eq;have hlt:=kP xs;have hle:=hS.le;refine (callsIn_wide (n:=4)).1 (callsIn_of_wp_marks func71 O trivial ?_ O);simp only[ntmps71,gy,bh,dv,aa,lj,ir,iu,jq,i_,cv,dx];refine wpIn_wide.2 (L (λK1 hK1=>f ?_));refine kX iB O ?_;intro w1 g1 hE hg1 hB1;have hG1:=ay hX.size hg1;replace hX:=hX.trans hE;clear hE hg1;simp only[J];refine S (hK1 _ _ ?_);refine L (λK2 hK2=>f (aA aF ?_));simp only[J];refine bB O O (wD _ (hS.ext hX)) ?_;rintro v w2 hE rfl;replace hB1:=hB1.ext hE;replace hX:=hX.trans hE;clear hE;simp only[J];refine aA aI ?_;simp only[J];refine S ?_;obtain⟨ys,hys⟩:∃ys,ys=trim xs:=⟨_,rfl⟩
 rw[<-hys] at hlt ⊢;refine hK2 _ _ (L (λK3 hK3=>f (aA aF (aA (iL O dK O) (aA (lT O O (bN (by omega) (by omega))) ?_)))));simp only[J];refine jW pH Un O O O (show _=0 by omega) (show _=4*ys.length by omega) (by omega) (by omega) (by omega) (by omega) ?_;intro w3 g2 hE hg2 hB2;have hG2:=ay hX.size hg2;have hN2_1:g2≠g1:=dm (bc hB1.lt hg2);replace hB1:=hB1.ext hE;replace hX:=hX.trans hE;clear hE hg2;simp only[J];refine kX ahp O ?_;intro w4 g3 hE hg3 hB3;have hG3:=ay hX.size hg3;have hN3_1:g3≠g1:=dm (bc hB1.lt hg3);have hN3_2:g3≠g2:=dm (bc hB2.lt hg3);replace hB1:=hB1.ext hE;replace hB2:=hB2.ext hE;replace hX:=hX.trans hE;clear hE hg3;simp only[J];refine kH O (by simp only[J];rfl) (by exact ae1) hB3 (by simp) (by simp[gr]) ?_;clear hB3;intro w5 hC hB3;replace hB1:=hB1.chg hC (by first|exact hN1_3|exact Ne.symm hN3_1);replace hB2:=hB2.chg hC (by first|exact hN2_3|exact Ne.symm hN3_2);replace hX:=hX.chg hC hG3;clear hC;simp only[zy,zx,over,aa] at hB3;refine S (hK3 _ _ ?_);refine L (λK4 hK4=>L (λK5 hK5=>f (aA aF ?_)));simp only[J];refine bB O O (apB _) ?_;rintro v w6 hE ⟨g4,rfl,hg4,hB4⟩;have hG4:=ay hX.size hg4;have hN4_1:g4≠g1:=dm (bc hB1.lt hg4);have hN4_2:g4≠g2:=dm (bc hB2.lt hg4);have hN4_3:g4≠g3:=dm (bc hB3.lt hg4);replace hB1:=hB1.ext hE;replace hB2:=hB2.ext hE;replace hB3:=hB3.ext hE;replace hX:=hX.trans hE;clear hE hg4;simp only[J];refine S (hK5 _ _ ?_);refine gn ((wpIn_wide (n:=4)).1 ?_);have hbase:w.heap.size<=w6.heap.size:=hX.size;obtain⟨n0,hn0⟩:∃n0,n0=w.heap.size:=⟨_,rfl⟩
 have hT:dX w6 A ys.length cap ys:=(((hS.ext hX).take (trim xs).length).as (jP xs).symm |> λh=>by rw[<-jP,<-hys] at h;exact h)
 have hA:∀a,0<ys.length->A=H a->a.block<w.heap.size:=λa h0 e=>by
  obtain⟨a',e',hc⟩:=hS.row 0 (xs[0]'(by omega)) (ah (by omega));rw[e] at e';cases e';have:=World.block_lt_of_cell? _ _ hc;rwa [tI] at this
 refine wpIn_rangeFunc_ownG (F:=Fence.wide) O (by omega) (gf:=170) (lb:=#[.pointer (H ⟨g4,0,X8⟩)]) O trivial (enters_of func170 (by kernel_rfl) O)
  (acW Fence.wide 3 trivial rfl (by omega) g4 w.heap.size cap A ys (by omega) w6 hB4.lt hX.size (hB4.cell rfl) hT.row hA) xD.trans (λW l o o' hl ho _ _=>⟨belowK_b (w:=w6) hX.size W l o o' hl ho ‹_› ‹_›,World.putObj_heap_other (by have:=hB4.lt;omega)⟩) (Below.refl _ _) (λ_=>rfl)
  (λpre W=>((∃v,Boxed W g3 152 v/\W.ownsRow w.heap.size 5 1 v (wbs pre).length ((wbs pre).map u8v)/\True)/\fQ W g1 [.bool X7,.string ⟨#[]⟩] 37/\fQ W g4 [.slice A ys.length cap] 132)/\Below w.heap.size w W)
  (λ_ _ _=>False)
  (OwnFrom.and (OwnFrom.and (Own.from (holdsRow_own w.heap.size g3 152 5 1 (λpre=>(wbs pre).length) (λpre=>(wbs pre).map u8v) (λ_ _=>True)) _) (Own.from (λs X Y row hs hg hr=>⟨(grownBy_keeps_cells hg hr hs.1 rfl).trans hs.1,(grownBy_keeps_cells hg hr hs.2 rfl).trans hs.2⟩) _)) (ownFrom_below (bg _) hX.size))
  (λ_ _ _ _ _ hs _ _=>hs)
  ⟨⟨⟨_,hB3,⟨rfl,.inr ⟨g2,4*ys.length,_,rfl,hG2,hB2,Nat.zero_le _,by show _<=9223372036854775807;omega,by simp,by simp[wbs]⟩⟩,trivial⟩,hB1,hB4⟩,hX⟩
  (λx=>{ tmps:=#[.slice A ys.length cap,.bool neg,undef,undef,.pointer (H ⟨g1,0,X8⟩),.pointer (H ⟨g3,0,X8⟩),undef,.int .u64 (x.2:Int),undef,.slice A xs.length cap,.slice A ys.length cap,.slice A ys.length cap,U (ys.length:Int),U (4*(ys.length:Int)),.slice (H ⟨g2,0,X8⟩) 0 (4*ys.length),.slice A ys.length cap,.func (.func 170) #[] #[.pointer (H ⟨g4,0,X8⟩)],U (x.1:Int),.int .u64 (x.2:Int),undef,undef,undef,undef,undef,undef,undef,undef,undef,undef,undef,undef,undef,undef,undef,undef,undef,undef,undef,undef,undef,undef,undef,undef],defers:=[] }) ?assign ?body ?done ?stop
 case assign=>
  intro l x W K hK;clear hys
  gi_wp2
  exact hK
 case stop=>
  rintro D c pre W _ _ h _;exact h.elim
 case body=>
  rintro l pre x W ⟨⟨⟨v,hv,hrow,_⟩,hB1',hB4'⟩,hB⟩ hlt;have hc:=hv.cell;have hwl:(wbs pre).length<=4*pre.length:=Nat.le_of_eq (Oi pre);clear hys;obtain⟨i0,hi,hz0,hz1,hz2⟩:=info_parts alS
  gi_wp2_with (gi_at_builtin;refine wpListIn_append_own _ O _ _ 152 O w.heap.size 5 i0 (.int .u8 0) 1 1 pH hi hz0 hz1 hz2 O (by decide) _ _ _ O (hrow.alloc _) ⟨W.heap.size,0,X8⟩ 4 4 [.int .u8 ((x.2:Int) / 16777216%256),.int .u8 ((x.2:Int) / 65536%256),.int .u8 ((x.2:Int) / 256%256),.int .u8 ((x.2:Int)%256)] O O ((kM W _ 5).row 0) (by simp[gr]) (by show _<=9223372036854775807;omega) (by omega) (by have:=hB.size;simp;omega) ?_;intro v' w1 hown' hgrow _;obtain⟨g',cap',rfl⟩:=ownsRow_succ hown';obtain⟨hv1,hv2,hr2,hk2,hb2⟩:=hv.appended (by decide) hrow hB.size hG3 hown' hgrow;have hc1:=hv1.cell;have hf1:=hv1.frozen)
  have e1:=Rg hB1' (by decide) hrow hgrow (Ne.symm hN3_1) (v':=.slice (H ⟨g',0,X8⟩) ((wbs pre).length+3+1) cap');have e4:=Rg hB4' (by decide) hrow hgrow hN4_3 (v':=.slice (H ⟨g',0,X8⟩) ((wbs pre).length+3+1) cap');refine⟨hk2.from _,⟨hb2,e4⟩,⟨⟨_,hv2,?_,trivial⟩,e1.trans hB1',e4.trans hB4'⟩,hB.trans hb2⟩;rw[agG,a_,dh];have e:(wb x.2).map u8v=[.int .u8 ((x.2:Int) / 16777216%256),.int .u8 ((x.2:Int) / 65536%256),.int .u8 ((x.2:Int) / 256%256),.int .u8 ((x.2:Int)%256)]:=by simp[wb,UInt8.toNat_ofNat']
  rw[e];exact hr2
 rintro D ls W hD hls ⟨⟨⟨v,hv,hrow,_⟩,hB1',_⟩,hX'⟩ hK';replace hD:=ay hX.size hD;clear hB1 hB2 hB3 hB4 hX hG2 hG4 hN2_1 hN3_2 hN4_1 hN4_2 hN4_3 hbase hT;have hB1:=hB1';have hB3:fQ W g3 [v] 152:=hv;have hX:eR w W:=hX';have hK:Mw W D:=⟨hK'⟩
 have hDg1:=hK.ne hB1;have hlb:(wbs ls).length<=1000000000000000:=by
  have:=Y1 iz hls;rw[dy,List.length_reverse] at this;rw[Oi];omega
 have hbs:nZ (jX (wbs ls))=dQ (Oj neg (val 4294967296 xs)):=by
  have e:wbs ls=ys.reverse.flatMap wb:=by rw[<-hls,List.flatMap_map];rfl
  have hd:G 4294967296 ys:=by rw[hys];exact hS.digs.trim
  rw[e,ab3 hd neg,hys,kY]
 dsimp only;refine hK4 _ _ (L (λK6 hK6=>f ?_));refine bA O (hB3.lies1 ak3 O) ?_;simp only[J];refine pV (Oh pH aa5 pT O hrow) ?_;simp only[J];refine oY O O (acU hlb) ?_;intro w7 hE;replace hB1:=hB1.ext hE;(try replace hK:=hK.ext hE);replace hX:=hX.trans hE;clear hE;simp only[J];refine aA aI ?_;simp only[J];refine S ?_;rw[hbs];refine hK6 _ _ (L (λK7 hK7=>?_));cases neg
 .refine f (aA aF (aA aF ?_));simp only[J];refine eF O ?_;simp only[J];refine eF O ?_;simp only[J];refine aA (gD O) (aA aF (aA (Bu O O) ?_));simp only[J];refine kH O (by simp only[J];rfl) (by exact aJ) hB1 (by simp) (by simp[gr]) ?_;clear hB1;intro w8 hC hB1
  (try replace hK:=hK.chg hC (by first|assumption|rfl));replace hX:=hX.chg hC hG1
  clear hC;simp only[zy,zx,over,aa] at hB1;refine S (hK7 _ _ ?_);refine gh ?_;try simp only[t,Exit.then]
  refine Ey hK ?_;replace hB1:=hB1.putD hK (o:=.deferred X8);replace hX:=hX.putD hD (o:=.deferred X8);refine aS O ⟨_,O,(hB1.lies bE aJ O O)⟩ ?_;try simp only[zD,zE]
  exact⟨_,O,hX,by simp[Lith.W,Wt,Ol]⟩
 refine f (aA aF (aA aF ?_));simp only[J];refine bQ O (aA aF ?_);simp only[J];refine bQ O (aA (anP pT O O) (aA (dT O) (aA aF ?_)));simp only[J];refine aA (Bu O O) ?_;simp only[J];refine kH O (by simp only[J];rfl) (by exact aJ) hB1 (by simp) (by simp[gr]) ?_;clear hB1;intro w8 hC hB1
 (try replace hK:=hK.chg hC (by first|assumption|rfl));replace hX:=hX.chg hC hG1
 clear hC;simp only[zy,zx,over,aa] at hB1;refine S (hK7 _ _ ?_);refine gh ?_;try simp only[t,Exit.then]
 refine Ey hK ?_;replace hB1:=hB1.putD hK (o:=.deferred X8);replace hX:=hX.putD hD (o:=.deferred X8);refine aS O ⟨_,O,(hB1.lies bE aJ O O)⟩ ?_;try simp only[zD,zE]
 exact⟨_,O,hX,by simp[Lith.W,Wt,Ol]⟩
end
section
set_option maxRecDepth 100000
attribute [local irreducible] be c_ fS cE cP Code.wp
attribute [local congr] fE fF eN fD
variable{a:Int}
def uL(h:Bd 1000000 a):dO X9 39 [W a] (U (bV a)):=by
 intro w;refine⟨bP func39 (by kernel_rfl),?_⟩;have m:=Mem.refl w
 go_enter func39,ntmps39
 apply gJ 10 [1,0] m;simp only[↓Z,cB];intro l u m;refine bB O O (Ci _ (gU h)) ?_;rintro v u g ⟨j,k,rfl,i⟩;replace m:=m.ext' g;simp only[J];rw[gT] at i ⊢;apply aL 4 [0,0] m;simp only[↓Z,fW];refine aZ O ?_ ?_<;>intro d
 .have b:=Wu.1 d;apply F 5 [] m;simp only[↓Z];refine aS O O ?_;try simp only[zD,zE]
  exact⟨_,O,m.ext,by rw[b];rfl⟩
 apply F 6 [1,0] m;simp only[↓Z,mC,Fo,aa];refine iY O ?_ ?_<;>intro f
 .have c:=Da f;apply F 5 [] m;simp only[↓Z];refine aS O O ?_;try simp only[zD,zE]
  exact⟨_,O,m.ext,by rw[tJ c]⟩
 have c:=Fa f;have b:¬a=0:=λe=>d (Wu.2 e);apply F 7 [] m;simp only[↓Z];refine aS O O ?_;try simp only[zD,zE]
 exact⟨_,O,m.ext,by rw[qX (by omega)]⟩
def arn(d:Bd 1000000 a):dO X9 111 [W a] (W (-a)):=by
 intro w;refine⟨bP func111 (by kernel_rfl),?_⟩;have m:=Mem.refl w
 go_enter func111,ntmps111
 apply gJ 6 [0] m;simp only[↓Z,eX];intro j k u m;refine mh m [X7,N] [(2,N),(0,N),(3,N),(4,N),(1,X7),(5,X7),(6,X7)] aB (by kernel_rfl) (bR (λ_ _ _ _ _ h=>h)) (ol:=?_) ?f ?_
 case f=>simp only[zw,zQ,zR];try rfl
 intro u m;refine tL 4 [1,1] ?_;simp only[↓Z,mC,cB,Fo,aa];refine bX (bB O O (Ci _ (gU d)) ?_);rintro v u c ⟨g,i,rfl,e⟩;replace m:=m.ext' c;simp only[J];rw[gT] at e ⊢;refine S ⟨m.sel [X7,N],?_⟩;refine bX (bB O O (uK _ e (ay (sN d) (by decide))) ?_);rintro v u c rfl;replace m:=m.ext' c;simp only[J];simp only[cR];refine S ⟨m.sel [X7,N],?_⟩;refine bX (aX m 0 O O O aJ (eU O) O ?_);intro u m;simp only[zy,zx,over,zF,zG,aa] at m;refine S ⟨m.sel [X7,N],?_⟩;refine aT ?_;rw[adq] at m;apply aQ 1 [] m;simp only[↓Z];exact aS O ⟨_,O,((m.b 0 O).full bE aJ)⟩ ⟨_,O,m.ext,O⟩
def nJ{b:Int}(j:Bd 1000000 a)(k:Bd 1000000 b):dO X9 28 [W a,W b] (W (a+b)):=by
 intro w;refine⟨bP func28 (by kernel_rfl),?_⟩;have m:=Mem.refl w;have n:=sN j;have o:=sN k;have E:=sN (Bd.add j k)
 go_enter func28,ntmps28
 apply gJ 7 [0] m;simp only[↓Z,eX];intro B C D u m;refine mh m [N,N,N] [(0,N),(2,N),(1,X7),(3,X7),(4,N),(5,N)] aB (by kernel_rfl) (bR (λ_ _ _ _ _ h=>h)) (ol:=?_) ?g ?_
 case g=>simp only[zw,zQ,zR];try rfl
 intro u m;refine tL 2 [3,2] ?_;simp only[↓Z,cB];refine bX (bB O O (Ci _ (gU j)) ?_);rintro v u c ⟨x,z,rfl,d⟩;replace m:=m.ext' c;simp only[J];rw[gT] at d ⊢;refine S ⟨m,?_⟩;refine bX (bB O O (Ci _ (gU k)) ?_);rintro v u c ⟨y,A,rfl,e⟩;replace m:=m.ext' c;replace d:=d.ext c;simp only[J];rw[gT] at e ⊢;refine S ⟨m,?_⟩;refine aV aI (aV aI (aT ?_));apply aQ 8 [3,2,0] m;simp only[↓Z,mC,Fo,aa];refine aA (agE tZ O O) ?_;apply aL 2 [0] m;simp only[↓Z];refine aZ O ?_ ?_<;>intro l
 .apply F 1 [0] m;simp only[↓Z];refine mhe m [X7,N,N] [(0,N),(1,N),(3,N),(4,N),(2,X7),(5,X7),(6,X7)] aB (by kernel_rfl) (bR (λ_ _ _ _ _ h=>h)) (ol:=?_) ?g ?_
  case g=>simp only[zw,zQ,zR];try rfl
  intro u c m;replace d:=d.ext c;replace e:=e.ext c;refine tL 4 [2] ?_;simp only[↓Z,mC,Fo,aa];refine bX (bB O O (anc _ d e (ay n (by decide)) (ay o (by decide))) ?_);rintro v u c ⟨p,q,rfl,f⟩;replace m:=m.ext' c;refine S ⟨m.sel [X7,N,N],?_⟩;refine bX ?_;simp only[J];simp only[cR] at f ⊢;have i:(digs 4294967296 (a.natAbs+b.natAbs)).length<=100000000000:=ay (aeR j k) (by decide);refine bB O O (uK _ f i) ?_;rintro v u c rfl;replace m:=m.ext' c;simp only[J];simp only[cR];refine S ⟨m.sel [X7,N,N],?_⟩;refine bX (aX m 0 O O O aJ (eU O) O ?_);intro u m;simp only[zy,zx,over,zF,zG,aa] at m;refine S ⟨m.sel [X7,N,N],?_⟩;refine aT ?_;rw[adr l] at m;apply aQ 1 [] m;simp only[↓Z];exact aS O ⟨_,O,((m.b 0 O).full bE aJ)⟩ ⟨_,O,m.ext,O⟩
 apply F 4 [0] m;simp only[↓Z];refine bB O O (aeb _ d e (fJ _) (fJ _)) ?_;rintro v u c rfl;replace m:=m.ext' c;replace d:=d.ext c;replace e:=e.ext c;simp only[J];simp only[cR];apply aL 3 [0,0] m;simp only[↓Z];refine aZ O ?_ ?_<;>intro r
 .have t:=xR.1 r;apply F 1 [0] m;simp only[↓Z];refine mhe m [X7,N,N] [(0,N),(1,N),(3,N),(4,N),(2,X7),(5,X7),(6,X7)] aB (by kernel_rfl) (bR (λ_ _ _ _ _ h=>h)) (ol:=?_) ?g ?_
  case g=>simp only[zw,zQ,zR];try rfl
  intro u c m;replace d:=d.ext c;replace e:=e.ext c;refine tL 4 [1] ?_;simp only[↓Z,mC,Fo,aa];refine bX (bB O O (aiP _ e d (Om (Nat.le_of_lt t)) (by simp only[cR];omega) (ay o (by decide))) ?_);rintro v u c ⟨⟨p,q,rfl,f⟩,_⟩;replace m:=m.ext' c;simp only[J];simp only[cR] at f ⊢;have i:=Om (pc b.natAbs a.natAbs);refine S ⟨m.sel [X7,N,N],?_⟩;refine bX (bB O O (uK _ f (ay i (ay o (by decide)))) ?_);rintro v u c rfl;replace m:=m.ext' c;simp only[J];simp only[cR];refine S ⟨m.sel [X7,N,N],?_⟩;refine bX (aX m 0 O O O aJ (eU O) O ?_);intro u m;simp only[zy,zx,over,zF,zG,aa] at m;refine S ⟨m.sel [X7,N,N],?_⟩;refine aT ?_;rw[agH l t] at m;apply aQ 1 [] m;simp only[↓Z];exact aS O ⟨_,O,((m.b 0 O).full bE aJ)⟩ ⟨_,O,m.ext,O⟩
 have s:b.natAbs<=a.natAbs:=ko λh=>r (xR.2 h);apply F 3 [0] m;simp only[↓Z];refine mhe m [X7,N,N] [(0,N),(1,N),(3,N),(4,N),(2,X7),(5,X7),(6,X7)] aB (by kernel_rfl) (bR (λ_ _ _ _ _ h=>h)) (ol:=?_) ?g ?_
 case g=>simp only[zw,zQ,zR];try rfl
 intro u c m;replace d:=d.ext c;replace e:=e.ext c;refine tL 4 [2] ?_;simp only[↓Z,mC,Fo,aa];refine bX (bB O O (aiP _ d e (Om s) (by simp only[cR];omega) (ay n (by decide))) ?_);rintro v u c ⟨⟨p,q,rfl,f⟩,_⟩;replace m:=m.ext' c;simp only[J];simp only[cR] at f ⊢;have i:=Om (pc a.natAbs b.natAbs);refine S ⟨m.sel [X7,N,N],?_⟩;refine bX (bB O O (uK _ f (ay i (ay n (by decide)))) ?_);rintro v u c rfl;replace m:=m.ext' c;simp only[J];simp only[cR];refine S ⟨m.sel [X7,N,N],?_⟩;refine bX (aX m 0 O O O aJ (eU O) O ?_);intro u m;simp only[zy,zx,over,zF,zG,aa] at m;refine S ⟨m.sel [X7,N,N],?_⟩;refine aT ?_;rw[agI l s] at m;apply aQ 1 [] m;simp only[↓Z];exact aS O ⟨_,O,((m.b 0 O).full bE aJ)⟩ ⟨_,O,m.ext,O⟩
def sD{b:Int}(d:Bd 1000000 a)(c:Bd 1000000 b):dO X9 65 [W a,W b] (W (a-b)):=by
 intro w;refine⟨bP func65 (by kernel_rfl),?_⟩;have m:=Mem.refl w
 go_enter func65,ntmps65
 apply gJ 7 [0] m;simp only[↓Z,eX];intro e f g u m;refine cC m 4 aB (by kernel_rfl) ?_;simp only[zy];refine ql O (λu m=>((m.b 2 O).full bE aJ)) ?_;simp only[J];refine ql O (λu m=>((m.b 1 O).full bE aJ)) ?_;simp only[J];refine X O O (arn c) ?_;simp only[J];refine X O O (nJ d c.neg) (bD ?_);intro u m;simp only[J];refine aX m 0 O O O aJ (eU O) O ?_;intro u m;simp only[zy,zx,over,zF,zG,aa] at m;refine S ?_;rw[<-Int.sub_eq_add_neg] at m;apply aQ 1 [] m;simp only[↓Z];exact aS O ⟨_,O,((m.b 0 O).full bE aJ)⟩ ⟨_,O,m.ext,O⟩
def jA{b:Int}(e:Bd 1000000 a)(f:Bd 1000000 b):dO X9 36 [W a,W b] (W (a*b)):=by
 intro w;refine⟨bP func36 (by kernel_rfl),?_⟩;have m:=Mem.refl w;have j:=sN e;have k:=sN f;have l:=sN (Bd.mul e f)
 go_enter func36,ntmps36
 apply gJ 7 [0] m;simp only[↓Z,eX];intro x y z u m;refine mh m [X7,N,N] [(5,N),(7,N),(0,N),(2,N),(6,N),(8,N),(9,N),(1,X7),(3,X7),(4,X7),(10,X7),(11,X7)] aB (by kernel_rfl) (bR (λ_ _ _ _ _ h=>h)) (ol:=?_) ?n ?_
 case n=>simp only[zw,zQ,zR];try rfl
 intro u m;refine tL 6 [2,1,2,1] ?_;simp only[↓Z,mC,cB,Fo,aa];refine aV (mR tZ O O) (bX ?_);simp only[J];refine bB O O (Ci _ (gU e)) ?_;rintro v u c ⟨o,r,rfl,d⟩;replace m:=m.ext' c;simp only[J];rw[gT] at d ⊢;refine S ⟨m.sel [X7,N,N],?_⟩;refine bX (bB O O (Ci _ (gU f)) ?_);rintro v u c ⟨p,s,rfl,i⟩;replace m:=m.ext' c;replace d:=d.ext c;simp only[J];rw[gT] at i ⊢;refine S ⟨m.sel [X7,N,N],?_⟩;refine bX (bB O O (aiQ _ d i (ay j (by decide)) (ay k (by decide))) ?_);rintro v u c ⟨q,t,rfl,g⟩;replace m:=m.ext' c;simp only[J];simp only[cR] at g ⊢;rw[<-ku] at g ⊢;refine S ⟨m.sel [X7,N,N],?_⟩;refine bX (bB O O (uK _ g (ay l (by decide))) ?_);rintro v u c rfl;replace m:=m.ext' c;simp only[J];simp only[cR];refine S ⟨m.sel [X7,N,N],?_⟩;refine bX (aX m 0 O O O aJ (eU O) O ?_);intro u m;simp only[zy,zx,over,zF,zG,aa] at m;refine S ⟨m.sel [X7,N,N],?_⟩;refine aT ?_;rw[ku,ads] at m;apply aQ 1 [] m;simp only[↓Z];exact aS O ⟨_,O,((m.b 0 O).full bE aJ)⟩ ⟨_,O,m.ext,O⟩
def ane{b:Int}(c:Bd 900000 a)(d:Bd 900000 b):dO X9 180 [W a,W b] (U (bV (a-b))):=by
 intro w;refine⟨bP func180 (by kernel_rfl),?_⟩;have m:=Mem.refl w
 go_enter func180,ntmps180
 apply gJ 10 [2,1,0] m;simp only[↓Z,cB];intro e f u m;refine eV m O O (sD (c.mono (by decide)) (d.mono (by decide))) ?_;intro u m;simp only[J];refine iE m O O (uL ((Bd.sub c d).mono (by decide))) 3 [] ?_;simp only[↓Z];intro u m;exact aS O O ⟨_,O,m.ext,O⟩
def iM{n:Int}(h:gF n):dO X9 37 [U n] (W n):=by
 intro w;refine⟨bP func37 (by kernel_rfl),?_⟩;have m:=Mem.refl w;have f:=h.natAbs
 go_enter func37,ntmps37
 apply gJ 5 [] m;simp only[↓Z,eX];intro g u m;rcases (show n<0\/0<=n by omega) with h0|h0
 .apply aQ 2 [0] m;simp only[↓Z];refine aA (iU nE mG O (adt h h0)) ?_;apply aL 11 [1,0] m;simp only[↓Z];apply R;omega;refine aA (sU O (Ty f (by omega))) ?_;apply aL 5 [0] m;simp only[↓Z];refine aA (mD O O (Mr (by omega))) ?_;apply aL 1 [0] m;simp only[↓Z];refine aA (lH O O (by omega) Wo) ?_;simp only[J];refine aac dK (z:=.int .u64 0) (by kernel_rfl) O O O O O ?_;intro u e a c d;replace m:=m.newB a c d;apply aL 2 [1,0] m;simp only[↓Z];apply R;omega;refine bY m O O (uK _ ((m.b 0 O).nat (os:=[n.natAbs%4294967296,n.natAbs / 4294967296]) (On (by omega)) O (by omega)) (by simp)) ?_;rintro v u m rfl;apply kZ 3 [1] m;simp only[↓Z,cB,aa];intro u m;refine aS O ⟨_,O,((m.b 1 O).full bE aJ)⟩ ?_;try simp only[zD,zE]
  exact⟨_,O,m.ext,by rw[Tz,show N=cQ n from (Y5 h0).symm,Gm];rfl⟩
 apply aQ 2 [0] m;simp only[↓Z];refine aA (iU nE mG O (agJ h h0)) ?_;apply aL 13 [2,0] m;simp only[↓Z];apply R;omega;refine aA (mD O O (Mr (by omega))) ?_;apply aL 1 [0] m;simp only[↓Z];refine aA (lH O O (by omega) Wo) ?_;simp only[J];refine aac dK (z:=.int .u64 0) (by kernel_rfl) O O O O O ?_;intro u e a c d;replace m:=m.newB a c d;apply aL 2 [2,0] m;simp only[↓Z];apply R;omega;refine bY m O O (uK _ ((m.b 0 O).nat (os:=[n.natAbs%4294967296,n.natAbs / 4294967296]) (On (by omega)) O (by omega)) (by simp)) ?_;rintro v u m rfl;apply kZ 3 [1] m;simp only[↓Z,cB,aa];intro u m;refine aS O ⟨_,O,((m.b 1 O).full bE aJ)⟩ ?_;try simp only[zD,zE]
 exact⟨_,O,m.ext,by rw[Tz,show X7=cQ n from (Y6 (by omega)).symm,Gm];rfl⟩
def anf{b:Int}(f:Bd 1000000 a)(j:Bd 1000000 b)(o:b≠0):dO X9 136 [W a,W b] (.tuple #[W (a.tdiv b),W (a.tmod b),.bool N]):=by
 intro w;refine⟨bP func136 (by kernel_rfl),?_⟩;have m:=Mem.refl w;have p:=sN f;have q:=sN j;have k:=sN (show Bd 1000000 (a.tdiv b) from f.of_le (by rw[pi];exact jt ..));have l:=sN (show Bd 1000000 (a.tmod b) from f.of_le (by rw[Int.natAbs_tmod];exact Nat.mod_le ..));rw[pi] at k;rw[Int.natAbs_tmod] at l
 go_enter func136,ntmps136
 apply gJ 11 [3,0] m;simp only[↓Z,eX,cB];intro D E F G u m;refine bB O O (Ci _ (gU j)) ?_;rintro v u c ⟨s,z,rfl,g⟩;replace m:=m.ext' c;simp only[J];rw[gT] at g ⊢;apply aL 7 [0] m;simp only[↓Z,fW];refine aA (Es O O (λe=>o (Wu.1 e))) ?_;apply aL 6 [4,0] m;simp only[↓Z,cB];refine bB O O (Ci _ (gU f)) ?_;rintro v u c ⟨t,A,rfl,n⟩;replace m:=m.ext' c;replace g:=g.ext c;simp only[J];rw[gT] at n ⊢;apply aL 1 [0] m;simp only[↓Z];refine bB O O (aiT _ n g (fJ _) (fJ _) (by rw[cR];omega) (ay p (by decide)) (ay q (by decide))) ?_;rintro v u c ⟨_,_,rfl,⟨x,B,rfl,i⟩,⟨y,C,rfl,d⟩⟩;replace m:=m.ext' c;simp only[J];simp only[cR] at i d ⊢;apply aL 7 [0] m;simp only[↓Z];refine mhe m [X7,X7,N,N] [(0,N),(1,N),(3,N),(7,N),(8,N),(2,N),(4,N),(5,N),(9,N),(6,X7),(10,X7),(11,X7),(12,X7),(13,N)] aB (by kernel_rfl) (bR (λ_ _ _ _ _ h=>h)) (ol:=?_) ?r ?_
 case r=>simp only[zw,zQ,zR];try rfl
 intro u c m;replace i:=i.ext c;replace d:=d.ext c;refine tL 7 [2,1] ?_;simp only[↓Z,mC,Fo,aa];refine aV (mR tZ O O) ?_;simp only[J];refine eK O (λu m=>((m.b 1 O).lies1 eW O)) ?_;simp only[J];refine bX (bB O O (uK _ i (ay k (by decide))) ?_);rintro v u c rfl;replace m:=m.ext' c;replace d:=d.ext c;simp only[J];simp only[cR,akM];refine S ⟨m.sel [X7,X7,N,N],?_⟩;refine bX (bB O O (uK _ d (ay l (by decide))) ?_);rintro v u c rfl;replace m:=m.ext' c;simp only[J];simp only[cR,akN];refine S ⟨m.sel [X7,X7,N,N],?_⟩;refine bX (aX m 1 O O O aJ (eU O) O ?_);intro u m;simp only[zy,zx,over,zF,zG,aa] at m;refine S ⟨m.sel [X7,X7,N,N],?_⟩;refine bX (aX m 0 O O O aJ (eU O) O ?_);intro u m;simp only[zy,zx,over,zF,zG,aa] at m;refine S ⟨m.sel [X7,X7,N,N],?_⟩;refine aV aI (aT ?_);apply aQ 1 [] m;simp only[↓Z];exact ar6 O ⟨_,O,((m.b 1 O).full bE aJ)⟩ ⟨_,O,((m.b 0 O).full bE aJ)⟩ O ⟨_,O,m.ext,O⟩
def aro{b:Int}(r:Bd 1000000 a)(s:Bd 1000000 b):dO X9 135 [W a,W b] (W (ml a b:Int)):=by
 intro w;refine⟨bP func135 (by kernel_rfl),?_⟩;have m:=Mem.refl w;obtain⟨K,k⟩:∃K,K=2^1000000:=⟨_,rfl⟩
 have L:a.natAbs<K:=by rw[k];exact r
 have M:b.natAbs<K:=by rw[k];exact s
 have q:∀V:Nat,V<K->(digs 4294967296 V).length<=1000000:=λV h=>tT (by rw[<-k];exact h);clear k
 go_enter func135,ntmps135
 apply gJ 7 [0] m;simp only[↓Z,eX];intro g1 g2 C u m;refine mh m [N,N,N] [(0,N),(2,N),(1,X7),(3,X7),(4,N),(5,N)] aB (by kernel_rfl) (bR (λ_ _ _ _ _ h=>h)) (ol:=?_) ?Q ?_
 case Q=>simp only[zw,zQ,zR];try rfl
 intro u m;refine tL 2 [3,2] ?_;simp only[↓Z,cB];refine bX (bB O O (Ci _ (gU r)) ?_);rintro v u c ⟨i,j,rfl,d⟩;replace m:=m.ext' c;simp only[J];rw[gT] at d ⊢;refine S ⟨m,?_⟩;refine bX (bB O O (Ci _ (gU s)) ?_);rintro v u c ⟨f,g,rfl,e⟩;replace m:=m.ext' c;replace d:=d.ext c;simp only[J];rw[gT] at e ⊢;refine S ⟨m,?_⟩;refine aV aI (aV aI (aT ?_));apply aQ 2 [0] m;simp only[↓Z];refine bT [5,6] [7,8,13,14,15,16,17,18,19,20,21,22,23] (λn vs o=>∃(X Y:Nat)(i f:Option Addr)(j g:Nat),vs=[.slice i (digs 4294967296 X).length j,.slice f (digs 4294967296 Y).length g]/\Mem w o [bI C [.bool X7,.string ⟨#[]⟩] 37]/\(dX o i (digs 4294967296 X).length j (digs 4294967296 X))/\(dX o f (digs 4294967296 Y).length g (digs 4294967296 Y))/\(Nat.gcd X Y=ml a b)/\(X<K)/\(Y<K)/\(n=Y)) ?_ ?_
 .exact⟨_,a.natAbs,b.natAbs,i,f,j,g,O,(m.sel [N,X7,X7]),d,e,O,L,M,O⟩
 intro n vs wr D u U G;obtain⟨X,Y,i,f,j,g,rfl,m,d,e,l,p,y,E⟩:=D;simp only[zu,zF,zG];apply F 7 [0,0] m;simp only[↓Z,fW];refine aZ O ?_ ?_<;>intro P
 .have x:0<Y:=by
   rcases et Y with h|h
   .subst h;exact Y0 P (by decide)
   exact h
  apply F 6 [0] m;simp only[↓Z];refine bB O O (aiT _ d e (fJ _) (fJ _) (by rw[cR];exact x) (ay (q _ p) (by decide)) (ay (q _ y) (by decide))) ?_;rintro v u c ⟨_,_,rfl,⟨T,c3,rfl,I⟩,⟨z,A,rfl,t⟩⟩;replace m:=m.ext' c;replace e:=e.ext c;simp only[J];simp only[cR] at I t ⊢;apply aL 13 [0] m;simp only[↓Z];exact G (X%Y) _ _ (by rw[E];exact Nat.mod_lt _ x) (by kernel_rfl) ⟨Y,X%Y,f,z,g,A,O,m,e,t,agK.trans l,y,fr (Nat.mod_le _ _) p,O⟩
 obtain rfl:Y=0:=(pM (B:=4294967296) (by omega)).1 (fd (by omega));rw[Nat.gcd_zero_right] at l;subst l;apply F 4 [0] m;simp only[↓Z];refine bB O O (uK _ d (ay (q _ p) (by decide))) ?_;rintro v u c rfl;replace m:=m.ext' c;simp only[J];simp only[cR];apply kZ 3 [0] m;simp only[↓Z,cB,aa];intro u m;refine aS O ⟨_,O,((m.b 0 O).full bE aJ)⟩ ?_;try simp only[zD,zE]
 exact⟨_,O,m.ext,by rw[nT];rfl⟩
end
section
set_option maxRecDepth 100000
attribute [local irreducible] be c_ fS Code.wp
def afK{K n R Y M:Nat}(a:M=4294967296^(K+1))(c:R<M)(b:Y<4294967296^n):(digs 4294967296 (R+Y)).length<=K+1+n+1:=eQ (by omega) (anT (a▸c) b)
def apC{a:Int}(ha:Bd 1000000 a)(h0:0<=a):dO X9 35 [W a] (.tuple #[W (eS a.natAbs:Int),.bool N]):=by
 intro w;refine⟨bP func35 (by kernel_rfl),?_⟩;have g:=eR.refl w;have aS:=sN ha;obtain⟨X,ab⟩:∃X,X=a.natAbs:=⟨_,rfl⟩
 obtain⟨K,hK⟩:∃K,K=((digs 4294967296 X).length+1) / 2:=⟨_,rfl⟩
 rw[<-ab] at aS;obtain⟨M,Y⟩:∃M,M=4294967296^(K+1):=⟨_,rfl⟩
 have af:∀V:Nat,V<M->(digs 4294967296 V).length<=1000001:=λV h=>ay (eQ (by omega) (by rw[<-Y];exact h)) (by omega);have aL:X<4294967296^(digs 4294967296 X).length:=by have:=kJ (pO X);rwa [cR] at this
 have ae:=ab4 aL;rw[<-hK] at ae;have ak:4294967296^K<M:=by rw[Y];exact Nat.pow_lt_pow_right (by omega) (by omega)
 have ar:0<4294967296^K:=kj (by omega);obtain⟨P,an⟩:∃P,P=4294967296^K:=⟨_,rfl⟩
 rw[<-an] at ae ak ar;rw[<-ab]
 go_enter func35,ntmps35
 refine L (λK1 av=>f ?_);refine zZ (by simp only[J];rfl) ?_;intro w1 Q b aN k;have a5:=ay g.size aN;replace g:=g.trans b;clear b;simp only[J];refine kX iB O ?_;intro w2 E b ad i;have ah:=ay g.size ad;have bh:E≠Q:=dm (bc k.lt ad);have ba:=bc k.lt ad;replace k:=k.ext b;replace g:=g.trans b;clear b;simp only[J];refine aA aI ?_;simp only[J];refine S (av _ _ ?_);refine L (λK2 aw=>f ?_);refine bA O (k.lies bE aJ O O) ?_;simp only[J];refine bB O O (Ci _ (gU ha)) ?_;rintro v w3 b ⟨A1,c1,rfl,l⟩;replace k:=k.ext b;replace i:=i.ext b;replace g:=g.trans b;clear b;rw[gT,<-ab] at l ⊢;simp only[J];refine aA aI ?_;simp only[J];refine S (aw _ _ ?_);refine L (λK3 ax=>L (λK4 ai=>?_));rcases et X with hX0|hX0
 .subst hX0;refine f (aA aF (aA (iL O dK O) (aA (Er O O (by rfl)) ?_)));simp only[J];refine S (ai _ _ ?_);refine mX O (L (λK5 az=>f (aA aaC ?_)));simp only[J];refine kH O (by simp only[J];rfl) (by exact aJ) i (by simp) (by simp[gr]) ?_;clear i;intro w4 y i;replace g:=g.chg y ah;clear y;simp only[zy,zx,over,aa] at i;refine aA aI ?_;simp only[J];refine S (az _ _ ?_);refine gh ?_;try simp only[t,Exit.then]
  refine kN O ⟨_,O,(i.lies bE aJ O O)⟩ O ?_;try simp only[zD,zE]
  exact⟨_,O,g,O⟩
 refine f (aA aF (aA (iL O dK O) (aA (Es O O (λe=>by have U:=(pM (B:=4294967296) (by omega)).1 (fd (show (digs 4294967296 X).length=0 by omega));omega)) ?_)));simp only[J];refine S (ai _ _ ?_);refine Aj O (gg ?_);refine ax _ _ (L (λK6 aB=>L (λK7 aC=>f (aA (aO (c:=0) Ec O dV O O) ?_))));simp only[J];refine bA O (k.lies1 eW O) ?_;simp only[J];refine S (aC _ _ ?_);refine iY O ?_ ?_<;>intro aM
 .exact Y0 (Da aM) (by omega)
 refine gg ?_;refine aB _ _ (L (λK8 aD=>f (aA aF (aA (iL O dK O) (aA (eH O O (bN (by omega) (by omega))) ?_)))));simp only[J];refine aA (gL O O (by omega) ((oZ (m:=(digs 4294967296 X).length+1) (n:=2) (by omega)).trans (Y1 (λq:Nat=>(q:Int)) hK.symm))) ?_;simp only[J];have aH:=l;have A:=eR.refl_of k;refine jW dK sO O O O (show _=K by omega) (show _=K by omega) (by omega) (by omega) (by omega) (by omega) ?_;intro w4 F b r o;have au:=ay g.size r;have bi:F≠Q:=dm (bc k.lt r);have bk:F≠E:=dm (bc i.lt r);have bb:=bc k.lt r;have a0:=bc i.lt r;replace k:=k.ext b;replace i:=i.ext b;(try replace A:=A.ext b);replace g:=g.trans b;clear b;simp only[J];refine cO dK (z:=.int .u64 0) (by kernel_rfl) O (by simp only[J];rfl) (by rfl) ?_;intro w5 T b p ag;have a6:=ay g.size p;have bl:T≠Q:=dm (bc k.lt p);have bm:T≠E:=dm (bc i.lt p);have bo:T≠F:=dm (bc o.lt p);have bd:=bc k.lt p;have be:=bc i.lt p;have bf:=bc o.lt p;replace i:=i.ext b;replace o:=o.ext b;(try replace A:=A.ext b);replace g:=g.trans b;clear b;simp only[J];refine aab O dK sO O (by decide) O (wJ.full (base:=F) o (bg _) (by simp) (by omega)) O (news:=[lZ 1]) O (ag.row 0) (by simp[gr]) (by omega) (by omega) (Nat.le_of_lt o.lt) ?_;intro v1 w9 hO Z _;replace g:=g.grown Z au;replace i:=i.grew Z a0;replace l:=aH.grew A Z r;obtain⟨s,x,rfl,j⟩:=dX.of_owns (xs:=bn K 0++[1]) (by have h:=hO;rw[iW] at h;rw[dh];exact h) (by simp) (by rw[Ub];exact pO _) (by omega);rw[Ub,<-an] at j;have aQ:=j.eq;rw[aQ] at j ⊢;clear o ag;simp only[J];refine aA aI ?_;simp only[J];refine S (aD _ _ ?_);refine gn (uT [5] [3,6,7,8,9,26,27,28,29,30,31,32,33,34,35,36,37,38,39,40,41,42,43,44,45] (λn vs G=>∃(R:Nat)(s:Option Addr)(x:Nat),vs=[.slice s (digs 4294967296 R).length x]/\(eR w G)/\(fQ G E [.bool X7,.string ⟨#[]⟩] 37)/\(dX G A1 (digs 4294967296 X).length c1 (digs 4294967296 X))/\(dX G s (digs 4294967296 R).length x (digs 4294967296 R))/\(0<R)/\(X<(R+1)*(R+1))/\(R<M)/\(n=R)) ?_ ?_)
 .apply Exists.intro;simp only[zQ,zR,zD,zE];exact⟨P,s,x,O,g,i,l,j,ar,ae,ak,O⟩
 intro n vs wr hI u;obtain⟨R,s,x,rfl,g,i,l,j,I,ao,D,hn⟩:=hI;simp only[zu,zF,zG];refine gn (L (λK9 aE=>f (aA aF (aA aF ?_))));simp only[J];refine bB O O (aiT _ l j (fJ _) (fJ _) (by rw[cR];exact I) (by omega) (ay (af _ D) (by decide))) ?_;rintro v w6 b ⟨_,_,rfl,⟨A3,c3,rfl,al⟩,⟨A4,c4,rfl,aK⟩⟩;replace i:=i.ext b;(try replace l:=l.ext b);(try replace j:=j.ext b);replace g:=g.trans b;clear b;simp only[cR] at al aK ⊢;have a7:=Om (jt X R);simp only[J];refine aA aF (aA (dU O O) (aA (dU O O) ?_));simp only[J];refine aA aI (aA aI ?_);simp only[J];refine S (aE _ _ ?_);refine L (λa1 aT=>f (aA aF (aA aF ?_)));simp only[J];refine bB O O (anc _ j al (ay (af _ D) (by decide)) (by omega)) ?_;rintro v w7 b ⟨A6,c6,rfl,am⟩;replace i:=i.ext b;(try replace l:=l.ext b);(try replace j:=j.ext b);replace g:=g.trans b;clear b;simp only[cR] at am ⊢;simp only[J];have aR:(digs 4294967296 (R+X / R)).length<=1099511627776:=by
  have U:=kJ (pO X);rw[cR] at U;have h2:X / R<=X:=jt _ _;exact ay (afK Y D (fr h2 U)) (by omega)
 refine bB O O (aec (d:=2) _ am aR (by omega) (by omega)) ?_;rintro v w8 b ⟨q,rfl,A7,c7,rfl,C⟩;replace i:=i.ext b;(try replace l:=l.ext b);(try replace j:=j.ext b);replace g:=g.trans b;clear b;simp only[cR] at C ⊢;simp only[J];refine aA aF (aA (dU O O) (aA (dU O O) ?_));simp only[J];refine aA aI (aA aI ?_);simp only[J];refine S (aT _ _ ?_);refine L (λa2 aV=>L (λa3 aW=>f (aA aF (aA aF ?_))));simp only[J];refine bB O O (aeb _ C j (fJ _) (fJ _)) ?_;rintro v w9 b rfl;replace i:=i.ext b;(try replace l:=l.ext b);(try replace j:=j.ext b);(try replace C:=C.ext b);replace g:=g.trans b;clear b;simp only[cR];simp only[J];refine aA (zY O O) ?_;simp only[J];refine S (aW _ _ ?_);refine aZ O ?_ ?_<;>intro ap
 .have aP:=xU.1 ap;have aY:=aeT I ao aP;refine L (λa4 aX=>f (aA aF ?_));simp only[J];refine bB O O (uK _ j (ay (af _ D) (by decide))) ?_;rintro v a8 b rfl;replace i:=i.ext b;replace g:=g.trans b;clear b;simp only[cR];simp only[J];refine kH O (by simp only[J];rfl) (by exact aJ) i (by simp) (by simp[gr]) ?_;clear i;intro a9 y i;replace g:=g.chg y ah;clear y;simp only[zy,zx,over,aa] at i;refine aA aI ?_;simp only[J];refine S (aX _ _ ?_);refine gh ?_;try simp only[t,Exit.then]
  refine kN O ⟨_,O,(i.lies bE aJ O O)⟩ O ?_;try simp only[zD,zE]
  exact⟨_,O,g,by rw[<-aY,nT];rfl⟩
 have aq:¬R<=(R+X / R) / 2:=λh=>ap (xU.2 h);refine gg (aV _ _ ?_);refine f (aA aF (aA aI ?_));simp only[J];refine S ?_;simp only[t,Exit.then];refine⟨(R+X / R) / 2,_,?_,O,?_,?_⟩
 .rw[hn];exact Ua aq
 .simp only[J,zv]
 simp only[zQ,zR,zD,zE];exact⟨(R+X / R) / 2,A7,c7,O,g,i,l,C,agM I ao hX0,aeS I,Nat.lt_trans (Ua aq) D,O⟩
def apD{n d:Int}(K:Bd 400000 n)(v:Bd 400000 d)(s:d≠0):dO X9 88 [W n,W d] (.tuple #[Q (kg n d),.bool N]):=by
 intro w;refine⟨bP func88 (by kernel_rfl),?_⟩;have b:=eR.refl w;obtain⟨E,y⟩:=aao (n:=n) s;have F:=aap (n:=n) s;have A:=K.mono (show 400000<=1000000 by decide);have q:=v.mono (show 400000<=1000000 by decide);have M:gF (bV d):=by unfold gF bV;split<;>(try split)<;>omega
 have B:Bd 1 (bV d):=by unfold Bd bV;split<;>(try split)<;>decide
 have x:Bd 400001 ((ml n d:Int)):=by
  have G:ml n d∣d.natAbs:=Nat.gcd_dvd_right ..;have I:=Nat.le_of_dvd (by omega) G;exact (v.of_le (by simpa using I)).mono (by decide)
 have u:Bd 1000000 ((ml n d:Int)*bV d):=(x.mul B).mono (by decide)
 go_enter func88,ntmps88
 refine L (λK1 X=>f ?_);refine zZ (by simp only[J];rfl) ?_;intro w1 l a z c;have P:=ay b.size z;replace b:=b.trans a;clear a z;simp only[J];refine zZ (by simp only[J];rfl) ?_;intro w2 m a r e;have T:=ay b.size r;have C:m≠l:=dm (bc c.lt r);replace c:=c.ext a;replace b:=b.trans a;clear a r;simp only[J];refine kX adB O ?_;intro w3 o a k g;have U:=ay b.size k;have ak:o≠l:=dm (bc c.lt k);have al:o≠m:=dm (bc e.lt k);replace c:=c.ext a;replace e:=e.ext a;replace b:=b.trans a;clear a k;simp only[J];refine aA aI ?_;simp only[J];refine S (X _ _ ?_);refine L (λK2 Y=>f ?_);refine bA O (e.lies bE aJ O O) ?_;simp only[J];refine oY O O (uL q) ?_;intro w4 a;replace c:=c.ext a;replace e:=e.ext a;replace g:=g.ext a;replace b:=b.trans a;clear a;simp only[J];refine aA aI ?_;simp only[J];refine S (Y _ _ ?_);refine L (λK3 Z=>L (λK4 ab=>f (aA aF (aA (Es O O (by unfold bV;split<;>(try split)<;>omega)) ?_))));simp only[J];refine S (ab _ _ ?_);refine Aj O (gg ?_);refine Z _ _ (L (λK5 ad=>f ?_));refine bA O (c.lies bE aJ O O) ?_;simp only[J];refine bA O (e.lies bE aJ O O) ?_;simp only[J];refine oY O O (aro A q) ?_;intro w5 a;replace c:=c.ext a;replace e:=e.ext a;replace g:=g.ext a;replace b:=b.trans a;clear a;simp only[J];refine aA aF ?_;simp only[J];refine oY O O (iM M) ?_;intro w6 a;replace c:=c.ext a;replace e:=e.ext a;replace g:=g.ext a;replace b:=b.trans a;clear a;simp only[J];refine oY O O (jA (x.mono (by decide)) (B.mono (by decide))) ?_;intro w7 a;replace c:=c.ext a;replace e:=e.ext a;replace g:=g.ext a;replace b:=b.trans a;clear a;simp only[J];refine kX iB O ?_;intro w8 p a j i;have V:=ay b.size j;have D:p≠l:=dm (bc c.lt j);have am:p≠m:=dm (bc e.lt j);have an:p≠o:=dm (bc g.lt j);replace c:=c.ext a;replace e:=e.ext a;replace g:=g.ext a;replace b:=b.trans a;clear a j;simp only[J];refine kH O (by simp only[J];rfl) (by exact aJ) i (by simp) (by simp[gr]) ?_;clear i;intro w9 h i;replace c:=c.chg h (by first|exact ai|exact Ne.symm D);replace e:=e.chg h (by first|exact ax|exact Ne.symm am);replace g:=g.chg h (by first|exact az|exact Ne.symm an);replace b:=b.chg h V;clear h;simp only[zy,zx,over,aa] at i;refine S (ad _ _ ?_);refine L (λK6 ae=>f ?_);refine bA O (c.lies bE aJ O O) ?_;simp only[J];refine bA O (i.lies bE aJ O O) ?_;simp only[J];refine oY O O (anf A u y) ?_;intro ao a;replace c:=c.ext a;replace e:=e.ext a;replace g:=g.ext a;replace i:=i.ext a;replace b:=b.trans a;clear a;simp only[J];refine aA aF (aA (dU O O) (aA (dU O O) ?_));simp only[J];refine aA (dU O O) ?_;simp only[J];refine kH O (by simp only[J];rfl) (by exact aJ) c (by simp) (by simp[gr]) ?_;clear c;intro ap h c;replace e:=e.chg h (by first|exact C|exact Ne.symm ah);replace g:=g.chg h (by first|exact ak|exact Ne.symm av);replace i:=i.chg h (by first|exact D|exact Ne.symm ai);replace b:=b.chg h P;clear h;simp only[zy,zx,over,aa] at c;refine S (ae _ _ ?_);refine L (λK7 af=>f ?_);refine bA O (e.lies bE aJ O O) ?_;simp only[J];refine bA O (i.lies bE aJ O O) ?_;simp only[J];refine oY O O (anf q u y) ?_;intro aq a;replace e:=e.ext a;replace g:=g.ext a;replace c:=c.ext a;replace b:=b.trans a;clear a;simp only[J];refine aA aF (aA (dU O O) (aA (dU O O) ?_));simp only[J];refine aA (dU O O) ?_;simp only[J];refine kH O (by simp only[J];rfl) (by exact aJ) e (by simp) (by simp[gr]) ?_;clear e;intro ar h e;replace g:=g.chg h (by first|exact al|exact Ne.symm aw);replace c:=c.chg h (by first|exact ah|exact Ne.symm C);replace b:=b.chg h T;clear h;simp only[zy,zx,over,aa] at e;refine S (af _ _ ?_);refine L (λK8 ag=>f ?_);refine bA O (c.lies bE aJ O O) ?_;simp only[J];refine bA O (e.lies bE aJ O O) ?_;simp only[J];refine aA (Pm O O) ?_;simp only[J];refine kH O (by simp only[J];rfl) (by exact dC) g (by simp) (by simp[gr]) ?_;clear g;intro au h g;replace b:=b.chg h U;clear h;simp only[zy,zx,over,aa] at g;refine aA aI ?_;simp only[J];refine S (ag _ _ ?_);refine gh ?_;try simp only[t,Exit.then]
 refine kN O ⟨_,O,(g.lies iG dC O O)⟩ O ?_;try simp only[zD,zE]
 exact⟨_,O,b,by rw[E,F] at *;rfl⟩
def aef{q:Rat}(x:Bq 400000 q):dO X9 179 [Q q] (.tuple #[W q.num,W q.den]):=by
 intro w;refine⟨bP func179 (by kernel_rfl),?_⟩;have g:=eR.refl w;have u:(0:Int)<q.den:=by have:=q.den_pos;omega
 have v:=x.d.mono (show 400000<=1000000 by decide)
 go_enter func179,ntmps179
 refine L (λI A=>f ?_);refine zZ (by simp only[J];rfl) ?_;intro T n b r e;have ab:=ay g.size r;replace g:=g.trans b;clear b r;simp only[J];refine kX iB O ?_;intro U o b m i;have y:=ay g.size m;have E:o≠n:=dm (bc e.lt m);replace e:=e.ext b;replace g:=g.trans b;clear b m;simp only[J];refine kX iB O ?_;intro V p b l j;have z:=ay g.size l;have G:p≠n:=dm (bc e.lt l);have s:p≠o:=dm (bc i.lt l);replace e:=e.ext b;replace i:=i.ext b;replace g:=g.trans b;clear b l;simp only[J];refine S (A _ _ ?_);refine L (λK ad=>L (λM B=>f (aA (aO (c:=1) Um O aJ O O) ?_)));simp only[J];refine bA O (e.lies bE aJ O O) ?_;simp only[J];refine oY O O (uL (a:=(q.den:Int)) v) ?_;intro X b;replace e:=e.ext b;replace i:=i.ext b;replace j:=j.ext b;replace g:=g.trans b;clear b;simp only[J];refine aA (anG O O (by rw[qX u];decide)) ?_;simp only[J];refine S (B _ _ ?_);refine mX O (L (λP C=>?_));refine sL [(0,N),(2,N),(1,N),(3,N),(4,X7),(5,X7)] aB (by kernel_rfl) (bR (λ_ _ _ _ _ h=>h)) (ol:=?_) ?D ?_
 case D=>simp only[zw,zQ,zR];try rfl
 intro Y b;replace e:=e.ext b;replace i:=i.ext b;replace j:=j.ext b;replace g:=g.trans b;clear b;refine⟨_,(So.blk e So.nil),?_⟩;refine aV (aO (c:=1) Um O aJ O O) (aV (aO (c:=1) Um O aJ O O) ?_);simp only[J];refine eK O (λ_ ⟨e,_⟩=>(e.lies bE aJ O O)) ?_;simp only[J];refine eK O (λ_ ⟨e,_⟩=>(e.lies bE aJ O O)) ?_;simp only[J];refine bX ?_;refine kH O (by simp only[J];rfl) (by exact aJ) i (by simp) (by simp[gr]) ?_;clear i;intro Z k i;replace e:=e.chg k (by first|exact ae|exact Ne.symm E);replace j:=j.chg k (by first|exact s|exact Ne.symm F);replace g:=g.chg k y;clear k;simp only[zy,zx,over,aa] at i;refine S ⟨⟨e,trivial⟩,?_⟩;refine bX ?_;refine kH O (by simp only[J];rfl) (by exact aJ) j (by simp) (by simp[gr]) ?_;clear j;intro w7 k j;replace e:=e.chg k (by first|exact af|exact Ne.symm G);replace i:=i.chg k (by first|exact F|exact Ne.symm s);replace g:=g.chg k z;clear k;simp only[zy,zx,over,aa] at j;refine S ⟨⟨e,trivial⟩,?_⟩;refine aT (C _ _ ?_);refine gh ?_;try simp only[t,Exit.then]
 refine kN O ⟨_,O,(i.lies bE aJ O O)⟩ ⟨_,O,(j.lies bE aJ O O)⟩ ?_;try simp only[zD,zE]
 exact⟨_,O,g,O⟩
def Dn{p q:Rat}(z:Bq 400000 p)(A:Bq 400000 q):dO X9 122 [Q p,Q q] (U (anS p q)):=by
 intro w;refine⟨bP func122 (by kernel_rfl),?_⟩;have b:=eR.refl w
 go_enter func122,ntmps122
 refine L (λK1 T=>f ?_);refine zZ (by simp only[J];rfl) ?_;intro w1 r a E e;have al:=ay b.size E;replace b:=b.trans a;clear a E;simp only[J];refine zZ (by simp only[J];rfl) ?_;intro w2 s a D h;have am:=ay b.size D;have av:s≠r:=dm (bc e.lt D);replace e:=e.ext a;replace b:=b.trans a;clear a D;simp only[J];refine aA aI ?_;simp only[J];refine S (T _ _ ?_);refine L (λK2 V=>f ?_);refine bA O (e.lies iG dC O O) ?_;simp only[J];refine oY O O (aef z) ?_;intro w3 a;replace e:=e.ext a;replace h:=h.ext a;replace b:=b.trans a;clear a;simp only[J];refine aA aF (aA (dU O O) (aA (dU O O) ?_));simp only[J];refine kX iB O ?_;intro w4 u a C g;have I:=ay b.size C;have Y:u≠r:=dm (bc e.lt C);have Z:u≠s:=dm (bc h.lt C);replace e:=e.ext a;replace h:=h.ext a;replace b:=b.trans a;clear a C;simp only[J];refine kX iB O ?_;intro w5 v a B i;have K:=ay b.size B;have ad:v≠r:=dm (bc e.lt B);have ae:v≠s:=dm (bc h.lt B);have F:v≠u:=dm (bc g.lt B);replace e:=e.ext a;replace h:=h.ext a;replace g:=g.ext a;replace b:=b.trans a;clear a B;simp only[J];refine kH O (by simp only[J];rfl) (by exact aJ) g (by simp) (by simp[gr]) ?_;clear g;intro w6 c g;replace e:=e.chg c (by first|exact ar|exact Ne.symm Y);replace h:=h.chg c (by first|exact aw|exact Ne.symm Z);replace i:=i.chg c (by first|exact F|exact Ne.symm ab);replace b:=b.chg c I;clear c;simp only[zy,zx,over,aa] at g;refine kH O (by simp only[J];rfl) (by exact aJ) i (by simp) (by simp[gr]) ?_;clear i;intro w7 c i;replace e:=e.chg c (by first|exact au|exact Ne.symm ad);replace h:=h.chg c (by first|exact ax|exact Ne.symm ae);replace g:=g.chg c (by first|exact ab|exact Ne.symm F);replace b:=b.chg c K;clear c;simp only[zy,zx,over,aa] at i;refine S (V _ _ ?_);refine L (λK3 W=>f ?_);refine bA O (h.lies iG dC O O) ?_;simp only[J];refine oY O O (aef A) ?_;intro w8 a;replace e:=e.ext a;replace h:=h.ext a;replace g:=g.ext a;replace i:=i.ext a;replace b:=b.trans a;clear a;simp only[J];refine aA aF (aA (dU O O) (aA (dU O O) ?_));simp only[J];refine kX iB O ?_;intro w9 x a o j;have M:=ay b.size o;have aH:x≠r:=dm (bc e.lt o);have aL:x≠s:=dm (bc h.lt o);have af:x≠u:=dm (bc g.lt o);have ag:x≠v:=dm (bc i.lt o);replace e:=e.ext a;replace h:=h.ext a;replace g:=g.ext a;replace i:=i.ext a;replace b:=b.trans a;clear a o;simp only[J];refine kX iB O ?_;intro an y a m k;have P:=ay b.size m;have aM:y≠r:=dm (bc e.lt m);have aN:y≠s:=dm (bc h.lt m);have ai:y≠u:=dm (bc g.lt m);have ak:y≠v:=dm (bc i.lt m);have G:y≠x:=dm (bc j.lt m);replace g:=g.ext a;replace i:=i.ext a;replace j:=j.ext a;replace b:=b.trans a;clear a m;simp only[J];refine kH O (by simp only[J];rfl) (by exact aJ) j (by simp) (by simp[gr]) ?_;clear j;intro ao c j;replace g:=g.chg c (by first|exact az|exact Ne.symm af);replace i:=i.chg c (by first|exact aD|exact Ne.symm ag);replace k:=k.chg c (by first|exact G|exact Ne.symm ah);replace b:=b.chg c M;clear c;simp only[zy,zx,over,aa] at j;refine kH O (by simp only[J];rfl) (by exact aJ) k (by simp) (by simp[gr]) ?_;clear k;intro ap c k;replace g:=g.chg c (by first|exact aC|exact Ne.symm ai);replace i:=i.chg c (by first|exact aE|exact Ne.symm ak);replace j:=j.chg c (by first|exact ah|exact Ne.symm G);replace b:=b.chg c P;clear c;simp only[zy,zx,over,aa] at k;refine S (W _ _ ?_);refine L (λK4 X=>?_);refine Sk aB (by kernel_rfl) (Wb O (λ_ l=>((g.ext l).lies bE aJ O O)) ?_);simp only[J];refine Wb O (λ_ l=>((k.ext l).lies bE aJ O O)) ?_;simp only[J];refine Wc O O (jA (z.n.mono (by decide)) (A.d.mono (by decide))) ?_;simp only[J];refine Wb O (λ_ l=>((j.ext l).lies bE aJ O O)) ?_;simp only[J];refine Wb O (λ_ l=>((i.ext l).lies bE aJ O O)) ?_;simp only[J];refine Wc O O (jA (A.n.mono (by decide)) (z.d.mono (by decide))) ?_;simp only[J];refine Wc O O (ane ((z.n.mul A.d).mono (by decide)) ((A.n.mul z.d).mono (by decide))) ?_;simp only[J];refine aK aI ?_;simp only[J];refine bD ?_;intro aq a;replace b:=b.trans a;clear a;refine X _ _ (gh ?_);try simp only[t,Exit.then]
 refine aS O O ?_;try simp only[zD,zE]
 exact⟨_,O,b,O⟩
end
section
set_option maxRecDepth 100000
attribute [local irreducible] be c_ fS cE cP Code.wp
attribute [local congr] fE fF eN fD
variable{q u a c d:Y}{t:T3}
def arp{p:Y}:dO X9 183 [pt p] (U p.x):=by
 intro w;refine⟨ahh,?_⟩;have m:=Mem.refl w
 go_enter func183,ntmps183
 apply gJ 12 [1] m;simp only[↓Z,aii,dN,aa];intro a u m;exact aS O O ⟨_,O,m.ext,O⟩
def arq{p:Y}:dO X9 184 [pt p] (U p.y):=by
 intro w;refine⟨ahi,?_⟩;have m:=Mem.refl w
 go_enter func184,ntmps184
 apply gJ 12 [1] m;simp only[↓Z,aij,dN,aa];intro a u m;exact aS O O ⟨_,O,m.ext,O⟩
def ars{p:Y}:dO X9 185 [pt p] (U p.z):=by
 intro w;refine⟨ahj,?_⟩;have m:=Mem.refl w
 go_enter func185,ntmps185
 apply gJ 12 [1] m;simp only[↓Z,aik,dN,aa];intro a u m;exact aS O O ⟨_,O,m.ext,O⟩
def apE  : dO X9 129 [] (.agg #[.func (.func 183) #[] #[],.func (.func 184) #[] #[],.func (.func 185) #[] #[]]):=by
 intro w;refine⟨ahf,?_⟩;have m:=Mem.refl w
 go_enter func129,ntmps129
 apply gJ 10 [0] m;simp only[↓Z,apa,apb,ao9,aa];intro a u m;exact aS O ⟨_,O,((m.b 0 O).full adI Jn)⟩ ⟨_,O,m.ext,O⟩
def aiV  : dO X9 130 [U 0] (.tuple #[U 1,U 2]):=by
 intro w;refine⟨acd,?_⟩;have m:=Mem.refl w
 go_enter func130,ntmps130
 apply iD 9 [0] m;simp only[↓Z,M];apply R;omega;refine aA (cS (m:=1) (n:=3) (r:=1) O O (by decide) (by decide)) ?_;apply aL 2 [0] m;simp only[↓Z,M];apply R;omega;refine aA (cS (m:=2) (n:=3) (r:=2) O O (by decide) (by decide)) ?_;apply aL 4 [] m;simp only[↓Z];exact kN O O O ⟨_,O,m.ext,O⟩
def aiW  : dO X9 130 [U 1] (.tuple #[U 2,U 0]):=by
 intro w;refine⟨acd,?_⟩;have m:=Mem.refl w
 go_enter func130,ntmps130
 apply iD 9 [0] m;simp only[↓Z,M];apply R;omega;refine aA (cS (m:=2) (n:=3) (r:=2) O O (by decide) (by decide)) ?_;apply aL 2 [0] m;simp only[↓Z,M];apply R;omega;refine aA (cS (m:=3) (n:=3) (r:=0) O O (by decide) (by decide)) ?_;apply aL 4 [] m;simp only[↓Z];exact kN O O O ⟨_,O,m.ext,O⟩
def aiX  : dO X9 130 [U 2] (.tuple #[U 0,U 1]):=by
 intro w;refine⟨acd,?_⟩;have m:=Mem.refl w
 go_enter func130,ntmps130
 apply iD 9 [0] m;simp only[↓Z,M];apply R;omega;refine aA (cS (m:=3) (n:=3) (r:=0) O O (by decide) (by decide)) ?_;apply aL 2 [0] m;simp only[↓Z,M];apply R;omega;refine aA (cS (m:=4) (n:=3) (r:=1) O O (by decide) (by decide)) ?_;apply aL 4 [] m;simp only[↓Z];exact kN O O O ⟨_,O,m.ext,O⟩
def sE{p:Y}[I3 p][I3 q]:dO X9 80 [pt p,pt q] (wv (q.sub p)):=by
 intro w;refine⟨bP func80 (by kernel_rfl),?_⟩;have m:=Mem.refl w
 go_enter func80,ntmps80
 apply gJ 13 [0] m;simp only[↓Z,acN];intro a c d e u m;refine iE m O O apE 17 [4,1,0] ?_;simp only[↓Z];apply R;omega;intro u m;refine aA (Eg O O) ?_;apply aL 3 [0] m;simp only[↓Z];refine cC m 11 aB (by kernel_rfl) ?_;simp only[zy];refine cW 3 [3] ?_;simp only[↓Z,aW];refine X O O arp ?_;simp only[J];refine X O O (iM Iw.h) (aK aF ?_);simp only[J];refine ql O (λu m=>((m.b 3 O).full aM aD)) ?_;simp only[J];refine X O O arp ?_;simp only[J];refine X O O (iM Iw.h) ?_;simp only[J];refine X O O (sD K.up K.up) (cW 1 [] ?_);simp only[↓Z,pJ,ac,C,aa];apply R;omega;refine bD ?_;intro u m;refine aX m 0 O O O aJ (eU O) O ?_;intro u m;simp only[zy,zx,over,zF,zG,aa] at m;refine S ?_;apply aQ 18 [1,0] m;simp only[↓Z,M];apply R;omega;refine aA (Eh O O) ?_;apply aL 3 [0] m;simp only[↓Z];refine cC m 11 aB (by kernel_rfl) ?_;simp only[zy];refine cW 3 [3] ?_;simp only[↓Z,aW];refine X O O arq ?_;simp only[J];refine X O O (iM Iw.h) (aK aF ?_);simp only[J];refine ql O (λu m=>((m.b 3 O).full aM aD)) ?_;simp only[J];refine X O O arq ?_;simp only[J];refine X O O (iM Iw.h) ?_;simp only[J];refine X O O (sD K.up K.up) (cW 1 [] ?_);simp only[↓Z,pJ,ac,C,aa];apply R;omega;refine bD ?_;intro u m;refine aX m 0 O O O aJ (eU O) O ?_;intro u m;simp only[zy,zx,over,zF,zG,aa] at m;refine S ?_;apply aQ 18 [1,0] m;simp only[↓Z,M];apply R;omega;refine aA (Ei O O) ?_;apply aL 3 [0] m;simp only[↓Z];refine cC m 11 aB (by kernel_rfl) ?_;simp only[zy];refine cW 3 [3] ?_;simp only[↓Z,aW];refine X O O ars ?_;simp only[J];refine X O O (iM Iw.h) (aK aF ?_);simp only[J];refine ql O (λu m=>((m.b 3 O).full aM aD)) ?_;simp only[J];refine X O O ars ?_;simp only[J];refine X O O (iM Iw.h) ?_;simp only[J];refine X O O (sD K.up K.up) (cW 1 [] ?_);simp only[↓Z,pJ,ac,C,aa];apply R;omega;refine bD ?_;intro u m;refine aX m 0 O O O aJ (eU O) O ?_;intro u m;simp only[zy,zx,over,zF,zG,aa] at m;refine S ?_;apply uR 19 [2,1,1] m;simp only[↓Z,acM,M,aa];apply R;omega;intro u m;exact aS O ⟨_,O,((m.b 1 O).full adG Uo)⟩ ⟨_,O,m.ext,O⟩
def Ig{v:Y}(f:Bv 400000 u)(g:Bv 400000 v):dO X9 81 [wv u,wv v] (wv (u.cross v)):=by
 intro w;refine⟨bP func81 (by kernel_rfl),?_⟩;have m:=Mem.refl w
 go_enter func81,ntmps81
 apply gJ 35 [4,1,0] m;simp only[↓Z,acN];intro a c d e;apply R;omega;intro u m;refine iE m O O aiV 6 [0] ?_;simp only[↓Z];intro u m;refine cC m 17 aB (by kernel_rfl) ?_;simp only[zy];refine cW 7 [4,3] ?_;simp only[↓Z,pJ,cB,ac,C,aa];apply R;omega;refine X O O (jA K.up K.up) (cW 6 [4,3] ?_);simp only[↓Z,pJ,cB,ac,C,aa];apply R;omega;refine X O O (jA K.up K.up) ?_;simp only[J];refine X O O (sD K.up K.up) (cW 1 [] ?_);simp only[↓Z,pJ,ac,C,aa];apply R;omega;refine bD ?_;intro u m;refine aX m 0 O O O aJ (eU O) O ?_;intro u m;simp only[zy,zx,over,zF,zG,aa] at m;refine S ?_;apply aQ 23 [1,0] m;simp only[↓Z,M];apply R;omega;refine iE m O O aiW 6 [0] ?_;simp only[↓Z];intro u m;refine cC m 17 aB (by kernel_rfl) ?_;simp only[zy];refine cW 7 [4,3] ?_;simp only[↓Z,pJ,cB,ac,C,aa];apply R;omega;refine X O O (jA K.up K.up) (cW 6 [4,3] ?_);simp only[↓Z,pJ,cB,ac,C,aa];apply R;omega;refine X O O (jA K.up K.up) ?_;simp only[J];refine X O O (sD K.up K.up) (cW 1 [] ?_);simp only[↓Z,pJ,ac,C,aa];apply R;omega;refine bD ?_;intro u m;refine aX m 0 O O O aJ (eU O) O ?_;intro u m;simp only[zy,zx,over,zF,zG,aa] at m;refine S ?_;apply aQ 23 [1,0] m;simp only[↓Z,M];apply R;omega;refine iE m O O aiX 6 [0] ?_;simp only[↓Z];intro u m;refine cC m 17 aB (by kernel_rfl) ?_;simp only[zy];refine cW 7 [4,3] ?_;simp only[↓Z,pJ,cB,ac,C,aa];apply R;omega;refine X O O (jA K.up K.up) (cW 6 [4,3] ?_);simp only[↓Z,pJ,cB,ac,C,aa];apply R;omega;refine X O O (jA K.up K.up) ?_;simp only[J];refine X O O (sD K.up K.up) (cW 1 [] ?_);simp only[↓Z,pJ,ac,C,aa];apply R;omega;refine bD ?_;intro u m;refine aX m 0 O O O aJ (eU O) O ?_;intro u m;simp only[zy,zx,over,zF,zG,aa] at m;refine S ?_;apply uR 19 [2,1,1] m;simp only[↓Z,acM,M,aa];apply R;omega;intro u m;exact aS O ⟨_,O,((m.b 1 O).full adG Uo)⟩ ⟨_,O,m.ext,O⟩
def aiY{b:Int}(a:Bd 1000000 b):dO X9 28 [.agg #[.bool X7,.string ⟨#[]⟩],W b] (W (0+b)):=by
 rw[<-agN];exact nJ (Cv _) a
def aba{v:Y}(f:Bv 400000 u)(g:Bv 400000 v):dO X9 222 [wv u,wv v] (W (u.dot v)):=by
 intro w;refine⟨bP func222 (by kernel_rfl),?_⟩;have m:=Mem.refl w
 go_enter func222,ntmps222
 apply gJ 32 [4,1,0] m;simp only[↓Z,eX];intro a c d e;apply R;omega;intro u m;refine cC m 9 aB (by kernel_rfl) ?_;simp only[zy];refine cW 7 [1,4,3] ?_;simp only[↓Z,cB,pJ,ac,C,aa];apply R;omega;refine X O O (jA K.up K.up) ?_;simp only[J];refine X O O (aiY K.up) (bD ?_);intro u m;simp only[J];refine aX m 0 O O O aJ (eU O) O ?_;intro u m;simp only[zy,zx,over,zF,zG,aa] at m;refine S ?_;apply aQ 20 [1,0] m;simp only[↓Z,M];apply R;omega;refine cC m 9 aB (by kernel_rfl) ?_;simp only[zy];refine cW 7 [1,4,3] ?_;simp only[↓Z,cB,pJ,ac,C,aa];apply R;omega;refine X O O (jA K.up K.up) ?_;simp only[J];refine X O O (nJ K.up K.up) (bD ?_);intro u m;simp only[J];refine aX m 0 O O O aJ (eU O) O ?_;intro u m;simp only[zy,zx,over,zF,zG,aa] at m;refine S ?_;apply aQ 20 [1,0] m;simp only[↓Z,M];apply R;omega;refine cC m 9 aB (by kernel_rfl) ?_;simp only[zy];refine cW 7 [1,4,3] ?_;simp only[↓Z,cB,pJ,ac,C,aa];apply R;omega;refine X O O (jA K.up K.up) ?_;simp only[J];refine X O O (nJ K.up K.up) (bD ?_);intro u m;simp only[J];refine aX m 0 O O O aJ (eU O) O ?_;intro u m;simp only[zy,zx,over,zF,zG,aa] at m;refine S ?_;apply uR 19 [2,1,1] m;simp only[↓Z,cB,M,aa];apply R;omega;intro u m;refine aS O ⟨_,O,((m.b 1 O).full bE aJ)⟩ ?_;try simp only[zD,zE]
 exact⟨_,O,m.ext,by rw[<-Y.dot0];rfl⟩
def abb[IT t]:dO X9 33 [tr t] (wv t.normal):=by
 intro w;refine⟨bP func33 (by kernel_rfl),?_⟩;have m:=Mem.refl w
 go_enter func33,ntmps33
 apply gJ 6 [0] m;simp only[↓Z,Vg];intro a c u m;refine cC m 11 aB (by kernel_rfl) ?_;simp only[zy];refine cW 4 [2,2] ?_;simp only[↓Z,cD,aW,ac,C,aa];apply R;omega;refine X O O sE (cW 4 [2,2] ?_);simp only[↓Z,cD,aW,ac,C,aa];apply R;omega;refine X O O sE ?_;simp only[J];refine X O O (Ig Bv.of Bv.of) (bD ?_);intro u m;simp only[J];refine aX m 0 O O O rV (eU O) O ?_;intro u m;simp only[zy,zx,over,zF,zG,aa] at m;refine S ?_;apply aQ 1 [] m;simp only[↓Z];exact aS O ⟨_,O,((m.b 0 O).full Xr rV)⟩ ⟨_,O,m.ext,O⟩
def alT{p:Y}[I3 p][I3 q]:dO X9 182 [pt p,pt q] (W ((q.sub p).dot (q.sub p))):=by
 intro w;refine⟨bP func182 (by kernel_rfl),?_⟩;have m:=Mem.refl w
 go_enter func182,ntmps182
 apply gJ 10 [3,2,0] m;simp only[↓Z,eX,aW];intro a c d u m;refine iE m O O sE 7 [0,1,1,0] ?_;simp only[↓Z,acN,acM,aa];intro e u m;refine iE m O O (aba Bv.of Bv.of) 3 [1] ?_;simp only[↓Z,cB,aa];intro u m;exact aS O ⟨_,O,((m.b 1 O).full bE aJ)⟩ ⟨_,O,m.ext,O⟩
def pB{X:Nat}(w:an)(h:X<18446744073709551616):cX X9 214 [.int .u64 X] w (λv _=>∃n:Int,v=U n/\0<=n/\n<=64/\(n<=18->X<262144)):=by
 refine⟨bP func214 (by kernel_rfl),?_⟩;have m:=Mem.refl w
 go_enter func214,ntmps214
 apply iD 10 [0,0] m;simp only[↓Z];refine aZ O ?_ ?_<;>intro g
 .apply F 3 [0] m;simp only[↓Z];refine aA (lH O O (by omega) Wo) ?_;apply aL 11 [0,0] m;simp only[↓Z];refine aZ O ?_ ?_<;>intro f
  .apply F 3 [0] m;simp only[↓Z];refine aA (lH O O (by omega) agP) ?_;apply aL 13 [0,0] m;simp only[↓Z,M];apply R;omega;refine aZ O ?_ ?_<;>intro d
   .apply F 3 [0] m;simp only[↓Z];refine aA (lH O O (by omega) adu) ?_;apply aL 12 [0] m;simp only[↓Z,Lu,An,M];apply R;omega;refine Bg pT (by kernel_rfl) O (by omega) ?_;intro b c a;simp only[cJ,bL,bZ,ar,E,e,ax];apply aL 5 [] m;simp only[↓Z,An,Ml];apply R;omega;exact aS O O ⟨_,O,m.ext,_,O,by omega,by omega,by omega⟩
   apply F 6 [0] m;simp only[↓Z,Lu,An];apply R;omega;refine Bg pT (by kernel_rfl) O (by omega) ?_;intro b c a;simp only[cJ,bL,bZ,ar,E,e,ax];apply aL 5 [] m;simp only[↓Z,An,Ml];apply R;omega;exact aS O O ⟨_,O,m.ext,_,O,by omega,by omega,by omega⟩
  apply F 7 [0,0] m;simp only[↓Z];refine aZ O ?_ ?_<;>intro d
  .apply F 3 [0] m;simp only[↓Z];refine aA (lH O O (by omega) adu) ?_;apply aL 12 [0] m;simp only[↓Z,Lu,An,M];apply R;omega;refine Bg pT (by kernel_rfl) O (by omega) ?_;intro b c a;simp only[cJ,bL,bZ,ar,E,e,ax];apply aL 5 [] m;simp only[↓Z,An,Ml];apply R;omega;exact aS O O ⟨_,O,m.ext,_,O,by omega,by omega,by omega⟩
  apply F 6 [0] m;simp only[↓Z,Lu,An];apply R;omega;refine Bg pT (by kernel_rfl) O (by omega) ?_;intro b c a;simp only[cJ,bL,bZ,ar,E,e,ax];apply aL 5 [] m;simp only[↓Z,An,Ml];apply R;omega;exact aS O O ⟨_,O,m.ext,_,O,by omega,by omega,by omega⟩
 apply F 7 [0,0] m;simp only[↓Z];refine aZ O ?_ ?_<;>intro f
 .apply F 3 [0] m;simp only[↓Z];refine aA (lH O O (by omega) agP) ?_;apply aL 13 [0,0] m;simp only[↓Z,M];apply R;omega;refine aZ O ?_ ?_<;>intro d
  .apply F 3 [0] m;simp only[↓Z];refine aA (lH O O (by omega) adu) ?_;apply aL 12 [0] m;simp only[↓Z,Lu,An,M];apply R;omega;refine Bg pT (by kernel_rfl) O (by omega) ?_;intro b c a;simp only[cJ,bL,bZ,ar,E,e,ax];apply aL 5 [] m;simp only[↓Z,An,Ml];apply R;omega;exact aS O O ⟨_,O,m.ext,_,O,by omega,by omega,by omega⟩
  apply F 6 [0] m;simp only[↓Z,Lu,An];apply R;omega;refine Bg pT (by kernel_rfl) O (by omega) ?_;intro b c a;simp only[cJ,bL,bZ,ar,E,e,ax];apply aL 5 [] m;simp only[↓Z,An,Ml];apply R;omega;exact aS O O ⟨_,O,m.ext,_,O,by omega,by omega,by omega⟩
 apply F 7 [0,0] m;simp only[↓Z];refine aZ O ?_ ?_<;>intro d
 .apply F 3 [0] m;simp only[↓Z];refine aA (lH O O (by omega) adu) ?_;apply aL 12 [0] m;simp only[↓Z,Lu,An,M];apply R;omega;refine Bg pT (by kernel_rfl) O (by omega) ?_;intro b c a;simp only[cJ,bL,bZ,ar,E,e,ax];apply aL 5 [] m;simp only[↓Z,An,Ml];apply R;omega;exact aS O O ⟨_,O,m.ext,_,O,by omega,by omega,by omega⟩
 apply F 6 [0] m;simp only[↓Z,Lu,An];apply R;omega;refine Bg pT (by kernel_rfl) O (by omega) ?_;intro b c a;simp only[cJ,bL,bZ,ar,E,e,ax];apply aL 5 [] m;simp only[↓Z,An,Ml];apply R;omega;exact aS O O ⟨_,O,m.ext,_,O,by omega,by omega,by omega⟩
def Ih{p:Y}[a:S3 p][c:S3 q]:dO X9 219 [pt p,pt q] (nv (q.sub p)):=by
 intro w;refine⟨bP func219 (by kernel_rfl),?_⟩;have m:=Mem.refl w;have:=a.x;have:=a.y;have:=a.z;have:=c.x;have:=c.y;have:=c.z
 go_enter func219,ntmps219
 apply gJ 27 [2,3,2,3,2,3,0] m;simp only[↓Z,ais,iR,dN,iJ,iS,ape,air,aa];intro d e f;apply R;omega;intro u m;exact aS O ⟨_,O,((m.b 0 O).full adJ Up)⟩ ⟨_,O,m.ext,O⟩
def Tm{v:Y}(a:N3 u)(c:N3 v):dO X9 220 [nv u,nv v] (nv (u.cross v)):=by
 intro w;refine⟨bP func220 (by kernel_rfl),?_⟩;have m:=Mem.refl w
 go_enter func220,ntmps220
 apply gJ 35 [4,1,0] m;simp only[↓Z,ais];intro d e f g;apply R;omega;intro u m;refine iE m O O aiV 6 [0] ?_;simp only[↓Z];intro u m;refine cC m 17 aB (by kernel_rfl) ?_;simp only[zy];refine cW 7 [4,3] ?_;simp only[↓Z,yO,dN,ac,C,aa];apply R;omega;refine aK (lT O O (Ud (Me a.y c.z))) (cW 6 [4,3] ?_);simp only[↓Z,yO,dN,ac,C,aa];apply R;omega;refine aK (lT O O (Ud (Me a.z c.y))) (aK (pW O O (anU (Me a.y c.z) (Me a.z c.y))) ?_);refine cW 1 [] ?_;simp only[↓Z,yO,ac,C,aa];apply R;omega;refine bD ?_;intro u m;refine cH m 0 O O O bC (eU O) ⟨O,O⟩ ?_;intro u m;simp only[J,zy,zx,over,aa] at m;refine S ?_;apply aQ 23 [1,0] m;simp only[↓Z,M];apply R;omega;refine iE m O O aiW 6 [0] ?_;simp only[↓Z];intro u m;refine cC m 17 aB (by kernel_rfl) ?_;simp only[zy];refine cW 7 [4,3] ?_;simp only[↓Z,yO,dN,ac,C,aa];apply R;omega;refine aK (lT O O (Ud (Me a.z c.x))) (cW 6 [4,3] ?_);simp only[↓Z,yO,dN,ac,C,aa];apply R;omega;refine aK (lT O O (Ud (Me a.x c.z))) (aK (pW O O (anU (Me a.z c.x) (Me a.x c.z))) ?_);refine cW 1 [] ?_;simp only[↓Z,yO,ac,C,aa];apply R;omega;refine bD ?_;intro u m;refine cH m 0 O O O bC (eU O) ⟨O,O⟩ ?_;intro u m;simp only[J,zy,zx,over,aa] at m;refine S ?_;apply aQ 23 [1,0] m;simp only[↓Z,M];apply R;omega;refine iE m O O aiX 6 [0] ?_;simp only[↓Z];intro u m;refine cC m 17 aB (by kernel_rfl) ?_;simp only[zy];refine cW 7 [4,3] ?_;simp only[↓Z,yO,dN,ac,C,aa];apply R;omega;refine aK (lT O O (Ud (Me a.x c.y))) (cW 6 [4,3] ?_);simp only[↓Z,yO,dN,ac,C,aa];apply R;omega;refine aK (lT O O (Ud (Me a.y c.x))) (aK (pW O O (anU (Me a.x c.y) (Me a.y c.x))) ?_);refine cW 1 [] ?_;simp only[↓Z,yO,ac,C,aa];apply R;omega;refine bD ?_;intro u m;refine cH m 0 O O O bC (eU O) ⟨O,O⟩ ?_;intro u m;simp only[J,zy,zx,over,aa] at m;refine S ?_;apply uR 19 [2,1,1] m;simp only[↓Z,air,M,aa];apply R;omega;intro u m;exact aS O ⟨_,O,((m.b 1 O).full adJ Up)⟩ ⟨_,O,m.ext,O⟩
def acX{n:Int}:dO X9 221 [U n] (U (bV n)):=by
 intro w;refine⟨bP func221 (by kernel_rfl),?_⟩;have m:=Mem.refl w
 go_enter func221,ntmps221
 apply iD 12 [0,0] m;simp only[↓Z];refine aZ O ?_ ?_<;>intro a
 .apply F 5 [] m;simp only[↓Z];refine aS O O ?_;try simp only[zD,zE]
  exact⟨_,O,m.ext,by rw[tJ (by assumption)]⟩
 apply F 6 [0,0] m;simp only[↓Z];refine aZ O ?_ ?_<;>intro b
 .apply F 5 [] m;simp only[↓Z];refine aS O O ?_;try simp only[zD,zE]
  exact⟨_,O,m.ext,by rw[qX (by assumption)]⟩
 apply F 7 [] m;simp only[↓Z];refine aS O O ?_;try simp only[zD,zE]
 exact⟨_,O,m.ext,by rw[show n=0 by omega];rfl⟩
def afL{b:Y}[I3 a][I3 b][I3 c][I3 d]{g0:Nat}(w:an)(i:fQ w g0 [U a.x,U a.y,U a.z,U b.x,U b.y,U b.z,U c.x,U c.y,U c.z,U d.x,U d.y,U d.z] 41):cX X9 218 [.slice (H ⟨g0,0,X8⟩) 4 4] w (λv _=>∃bo:Bool,v=.bool bo/\(bo=N->S3 a/\S3 b/\S3 c/\S3 d)):=by
 refine⟨bP func218 (by kernel_rfl),?_⟩;have m:=Mem.refl w
 go_enter func218,ntmps218
 apply iD 25 [5,1,0] m;simp only[↓Z,gZ];apply R;omega;refine aA (aN eL aD O O (by decide) (by decide) O) ?_;simp only[J];refine bA O ((i.ext m.ext).lies aM aD O O) ?_;simp only[J,zy,ae,aa,C,ac];apply kZ 28 [0,1,1,1,4,1,0] m;simp only[↓Z,gC,aW,iR,dN,iJ,iS,uF,aa];intro E;apply R;omega;intro u m;refine aA (oO O O) ?_;apply aL 6 [0] m;simp only[↓Z];refine aA (sU O O) (aA (sV O O O) (aA (iU nE mG O (Aa Iw.h)) ?_));simp only[J];refine bY m O O (pB (X:=(a.x).natAbs) _ (by have:=(Iw.h:gF a.x).natAbs;omega)) ?_;rintro v u m ⟨n,rfl,f,g,j⟩;apply aL 2 [0,0] m;simp only[↓Z];refine aZ O ?_ ?_<;>intro e
 .apply F 5 [] m;simp only[↓Z];exact aS rfl rfl ⟨_,rfl,m.ext,X7,rfl,λh=>by cases h⟩
 replace j:=j (by omega);clear e f g;apply F 18 [1,0] m;simp only[↓Z,M];apply R;omega;refine aA (oP O O) ?_;apply aL 6 [0] m;simp only[↓Z];refine aA (sU O O) (aA (sV O O O) (aA (iU nE mG O (Aa Iw.h)) ?_));simp only[J];refine bY m O O (pB (X:=(a.y).natAbs) _ (by have:=(Iw.h:gF a.y).natAbs;omega)) ?_;rintro v u m ⟨n,rfl,f,g,k⟩;apply aL 2 [0,0] m;simp only[↓Z];refine aZ O ?_ ?_<;>intro e
 .apply F 5 [] m;simp only[↓Z];exact aS rfl rfl ⟨_,rfl,m.ext,X7,rfl,λh=>by cases h⟩
 replace k:=k (by omega);clear e f g;apply F 18 [1,0] m;simp only[↓Z,M];apply R;omega;refine aA (oQ O O) ?_;apply aL 6 [0] m;simp only[↓Z];refine aA (sU O O) (aA (sV O O O) (aA (iU nE mG O (Aa Iw.h)) ?_));simp only[J];refine bY m O O (pB (X:=(a.z).natAbs) _ (by have:=(Iw.h:gF a.z).natAbs;omega)) ?_;rintro v u m ⟨n,rfl,f,g,l⟩;apply aL 2 [0,0] m;simp only[↓Z];refine aZ O ?_ ?_<;>intro e
 .apply F 5 [] m;simp only[↓Z];exact aS rfl rfl ⟨_,rfl,m.ext,X7,rfl,λh=>by cases h⟩
 replace l:=l (by omega);clear e f g;apply F 31 [2,1,0] m;simp only[↓Z,M];apply R;omega;refine aA (aN eL aD O O (by decide) (by decide) O) ?_;simp only[J];refine bA O ((i.ext m.ext).lies aM aD O O) ?_;simp only[J,zy,ae,aa,C,ac];apply kZ 28 [0,1,1,1,4,1,0] m;simp only[↓Z,gC,aW,iR,dN,iJ,iS,uF,aa];intro G;apply R;omega;intro u m;refine aA (oO O O) ?_;apply aL 6 [0] m;simp only[↓Z];refine aA (sU O O) (aA (sV O O O) (aA (iU nE mG O (Aa Iw.h)) ?_));simp only[J];refine bY m O O (pB (X:=(b.x).natAbs) _ (by have:=(Iw.h:gF b.x).natAbs;omega)) ?_;rintro v u m ⟨n,rfl,f,g,o⟩;apply aL 2 [0,0] m;simp only[↓Z];refine aZ O ?_ ?_<;>intro e
 .apply F 5 [] m;simp only[↓Z];exact aS rfl rfl ⟨_,rfl,m.ext,X7,rfl,λh=>by cases h⟩
 replace o:=o (by omega);clear e f g;apply F 18 [1,0] m;simp only[↓Z,M];apply R;omega;refine aA (oP O O) ?_;apply aL 6 [0] m;simp only[↓Z];refine aA (sU O O) (aA (sV O O O) (aA (iU nE mG O (Aa Iw.h)) ?_));simp only[J];refine bY m O O (pB (X:=(b.y).natAbs) _ (by have:=(Iw.h:gF b.y).natAbs;omega)) ?_;rintro v u m ⟨n,rfl,f,g,p⟩;apply aL 2 [0,0] m;simp only[↓Z];refine aZ O ?_ ?_<;>intro e
 .apply F 5 [] m;simp only[↓Z];exact aS rfl rfl ⟨_,rfl,m.ext,X7,rfl,λh=>by cases h⟩
 replace p:=p (by omega);clear e f g;apply F 18 [1,0] m;simp only[↓Z,M];apply R;omega;refine aA (oQ O O) ?_;apply aL 6 [0] m;simp only[↓Z];refine aA (sU O O) (aA (sV O O O) (aA (iU nE mG O (Aa Iw.h)) ?_));simp only[J];refine bY m O O (pB (X:=(b.z).natAbs) _ (by have:=(Iw.h:gF b.z).natAbs;omega)) ?_;rintro v u m ⟨n,rfl,f,g,q⟩;apply aL 2 [0,0] m;simp only[↓Z];refine aZ O ?_ ?_<;>intro e
 .apply F 5 [] m;simp only[↓Z];exact aS rfl rfl ⟨_,rfl,m.ext,X7,rfl,λh=>by cases h⟩
 replace q:=q (by omega);clear e f g;apply F 31 [2,1,0] m;simp only[↓Z,M];apply R;omega;refine aA (aN eL aD O O (by decide) (by decide) O) ?_;simp only[J];refine bA O ((i.ext m.ext).lies aM aD O O) ?_;simp only[J,zy,ae,aa,C,ac];apply kZ 28 [0,1,1,1,4,1,0] m;simp only[↓Z,gC,aW,iR,dN,iJ,iS,uF,aa];intro I;apply R;omega;intro u m;refine aA (oO O O) ?_;apply aL 6 [0] m;simp only[↓Z];refine aA (sU O O) (aA (sV O O O) (aA (iU nE mG O (Aa Iw.h)) ?_));simp only[J];refine bY m O O (pB (X:=(c.x).natAbs) _ (by have:=(Iw.h:gF c.x).natAbs;omega)) ?_;rintro v u m ⟨n,rfl,f,g,r⟩;apply aL 2 [0,0] m;simp only[↓Z];refine aZ O ?_ ?_<;>intro e
 .apply F 5 [] m;simp only[↓Z];exact aS rfl rfl ⟨_,rfl,m.ext,X7,rfl,λh=>by cases h⟩
 replace r:=r (by omega);clear e f g;apply F 18 [1,0] m;simp only[↓Z,M];apply R;omega;refine aA (oP O O) ?_;apply aL 6 [0] m;simp only[↓Z];refine aA (sU O O) (aA (sV O O O) (aA (iU nE mG O (Aa Iw.h)) ?_));simp only[J];refine bY m O O (pB (X:=(c.y).natAbs) _ (by have:=(Iw.h:gF c.y).natAbs;omega)) ?_;rintro v u m ⟨n,rfl,f,g,s⟩;apply aL 2 [0,0] m;simp only[↓Z];refine aZ O ?_ ?_<;>intro e
 .apply F 5 [] m;simp only[↓Z];exact aS rfl rfl ⟨_,rfl,m.ext,X7,rfl,λh=>by cases h⟩
 replace s:=s (by omega);clear e f g;apply F 18 [1,0] m;simp only[↓Z,M];apply R;omega;refine aA (oQ O O) ?_;apply aL 6 [0] m;simp only[↓Z];refine aA (sU O O) (aA (sV O O O) (aA (iU nE mG O (Aa Iw.h)) ?_));simp only[J];refine bY m O O (pB (X:=(c.z).natAbs) _ (by have:=(Iw.h:gF c.z).natAbs;omega)) ?_;rintro v u m ⟨n,rfl,f,g,t⟩;apply aL 2 [0,0] m;simp only[↓Z];refine aZ O ?_ ?_<;>intro e
 .apply F 5 [] m;simp only[↓Z];exact aS rfl rfl ⟨_,rfl,m.ext,X7,rfl,λh=>by cases h⟩
 replace t:=t (by omega);clear e f g;apply F 31 [2,1,0] m;simp only[↓Z,M];apply R;omega;refine aA (aN eL aD O O (by decide) (by decide) O) ?_;simp only[J];refine bA O ((i.ext m.ext).lies aM aD O O) ?_;simp only[J,zy,ae,aa,C,ac];apply kZ 28 [0,1,1,1,4,1,0] m;simp only[↓Z,gC,aW,iR,dN,iJ,iS,uF,aa];intro K;apply R;omega;intro u m;refine aA (oO O O) ?_;apply aL 6 [0] m;simp only[↓Z];refine aA (sU O O) (aA (sV O O O) (aA (iU nE mG O (Aa Iw.h)) ?_));simp only[J];refine bY m O O (pB (X:=(d.x).natAbs) _ (by have:=(Iw.h:gF d.x).natAbs;omega)) ?_;rintro v u m ⟨n,rfl,f,g,A⟩;apply aL 2 [0,0] m;simp only[↓Z];refine aZ O ?_ ?_<;>intro e
 .apply F 5 [] m;simp only[↓Z];exact aS rfl rfl ⟨_,rfl,m.ext,X7,rfl,λh=>by cases h⟩
 replace A:=A (by omega);clear e f g;apply F 18 [1,0] m;simp only[↓Z,M];apply R;omega;refine aA (oP O O) ?_;apply aL 6 [0] m;simp only[↓Z];refine aA (sU O O) (aA (sV O O O) (aA (iU nE mG O (Aa Iw.h)) ?_));simp only[J];refine bY m O O (pB (X:=(d.y).natAbs) _ (by have:=(Iw.h:gF d.y).natAbs;omega)) ?_;rintro v u m ⟨n,rfl,f,g,B⟩;apply aL 2 [0,0] m;simp only[↓Z];refine aZ O ?_ ?_<;>intro e
 .apply F 5 [] m;simp only[↓Z];exact aS rfl rfl ⟨_,rfl,m.ext,X7,rfl,λh=>by cases h⟩
 replace B:=B (by omega);clear e f g;apply F 18 [1,0] m;simp only[↓Z,M];apply R;omega;refine aA (oQ O O) ?_;apply aL 6 [0] m;simp only[↓Z];refine aA (sU O O) (aA (sV O O O) (aA (iU nE mG O (Aa Iw.h)) ?_));simp only[J];refine bY m O O (pB (X:=(d.z).natAbs) _ (by have:=(Iw.h:gF d.z).natAbs;omega)) ?_;rintro v u m ⟨n,rfl,f,g,D⟩;apply aL 2 [0,0] m;simp only[↓Z];refine aZ O ?_ ?_<;>intro e
 .apply F 5 [] m;simp only[↓Z];exact aS rfl rfl ⟨_,rfl,m.ext,X7,rfl,λh=>by cases h⟩
 replace D:=D (by omega);clear e f g;apply F 32 [2,2] m;simp only[↓Z,M];apply R;omega;exact aS O O ⟨_,O,m.ext,N,O,λ_=>⟨⟨j,k,l⟩,⟨o,p,q⟩,⟨r,s,t⟩,⟨A,B,D⟩⟩⟩
def alU{b:Y}[I3 a][I3 b][I3 c][I3 d]:dO X9 181 [pt a,pt b,pt c,pt d] (sg ((b.sub a).cross (d.sub c))):=by
 intro w;refine⟨bP func181 (by kernel_rfl),?_⟩;have m:=Mem.refl w
 go_enter func181,ntmps181
 apply gJ 19 [6,5,4,3] m;simp only[↓Z,sQ,aW];intro j k l n o p u m;refine go (Fe O O O O ?_);intro u q e f g;replace m:=m.newB e f g;simp only[J];refine bY m O O (afL _ (m.b 0 O)) ?_;rintro v u m ⟨bo,rfl,i⟩;apply aL 1 [0] m;simp only[↓Z];refine iY O ?_ ?_<;>intro h
 .obtain⟨_,_,_,_⟩:=i h;apply F 2 [0] m;simp only[↓Z];refine mq m aB (by kernel_rfl) (ql O (λu m=>((m.b 6 O).full aM aD)) ?_);simp only[J];refine ql O (λu m=>((m.b 5 O).full aM aD)) ?_;simp only[J];refine X O O Ih ?_;simp only[J];refine ql O (λu m=>((m.b 4 O).full aM aD)) ?_;simp only[J];refine ql O (λu m=>((m.b 3 O).full aM aD)) ?_;simp only[J];refine X O O Ih ?_;simp only[J];refine X O O (Tm X3 X3) (aK aF (bD ?_));intro u m;apply aQ 15 [4,1,0] m;simp only[↓Z];apply R;omega;refine aA (Te O O) ?_;apply aL 6 [0] m;simp only[↓Z];refine iE m O O acX 21 [1,1,0] ?_;simp only[↓Z,gW,dN,ac,C,aa,M];apply R;omega;intro u m;refine aA (Tf O O) ?_;apply aL 6 [0] m;simp only[↓Z];refine iE m O O acX 21 [1,1,0] ?_;simp only[↓Z,gW,dN,ac,C,aa,M];apply R;omega;intro u m;refine aA (Tg O O) ?_;apply aL 6 [0] m;simp only[↓Z];refine iE m O O acX 22 [1,2,2,2] ?_;simp only[↓Z,gW,dN,rD,ac,C,aa,M];apply R;omega;intro u m;exact aS O ⟨_,O,((m.b 2 O).full rH jC)⟩ ⟨_,O,m.ext,O⟩
 apply F 3 [0] m;simp only[↓Z];refine mq m aB (by kernel_rfl) (ql O (λu m=>((m.b 6 O).full aM aD)) ?_);simp only[J];refine ql O (λu m=>((m.b 5 O).full aM aD)) ?_;simp only[J];refine X O O sE ?_;simp only[J];refine ql O (λu m=>((m.b 4 O).full aM aD)) ?_;simp only[J];refine ql O (λu m=>((m.b 3 O).full aM aD)) ?_;simp only[J];refine X O O sE ?_;simp only[J];refine X O O (Ig Bv.of Bv.of) (aK aF (bD ?_));intro u m;apply aQ 15 [4,1,0] m;simp only[↓Z];apply R;omega;refine aA (Ta O O) ?_;apply kZ 7 [0,1,0] m;simp only[↓Z,eX,cB,aa];intro r u m;refine iE m O O (uL K.up) 21 [2,1,0] ?_;simp only[↓Z,gW,dN,ac,C,aa,M];apply R;omega;intro u m;refine aA (Tb O O) ?_;apply kZ 7 [0,1,0] m;simp only[↓Z,eX,cB,aa];intro s u m;refine iE m O O (uL K.up) 21 [3,1,0] ?_;simp only[↓Z,gW,dN,ac,C,aa,M];apply R;omega;intro u m;refine aA (Tc O O) ?_;apply kZ 7 [0,1,0] m;simp only[↓Z,eX,cB,aa];intro t u m;refine iE m O O (uL K.up) 22 [4,2,5,5] ?_;simp only[↓Z,gW,dN,rD,ac,C,aa,M];apply R;omega;intro u m;exact aS O ⟨_,O,((m.b 5 O).full rH jC)⟩ ⟨_,O,m.ext,O⟩
def apF[IT t]:dO X9 123 [tr t] (.bool (decide (bV t.normal.x=0/\bV t.normal.y=0/\bV t.normal.z=0))):=by
 intro w;refine⟨bP func123 (by kernel_rfl),?_⟩;have m:=Mem.refl w
 go_enter func123,ntmps123
 apply gJ 15 [1,1,1,1,0] m;simp only[↓Z,cD,aW,ac,C,aa];intro e;apply R;omega;intro u m;refine iE m O O (alU (a:=t.a) (b:=t.b) (c:=t.a) (d:=t.c)) 5 [] ?_;simp only[↓Z,uF,aa];refine⟨_,ad4,?_⟩;intro u m;exact aS O O ⟨_,O,m.ext,O⟩
end
section
set_option maxRecDepth 100000
attribute [local irreducible] be c_ fS cE cP Code.wp
end
end Go.Proofs.YtbbokjbcdkgfgaaGreatDoor
namespace Go.Lith
open Go.RowKit
section
variable{P:B}{l:List am}{T ty:ba}{x y:cw}{k:IntKind}{m:Int}
end
end Go.Lith
namespace Go.Proofs.YtbbokjbcdkgfgaaGreatDoor
open Go.Proofs.Tryz
open Go.RowKit Go.Lith
set_option maxRecDepth 100000
attribute [local irreducible] be c_ fS cE cP Code.wp
end Go.Proofs.YtbbokjbcdkgfgaaGreatDoor
namespace Go.Lith
open Go.RowKit
variable{w:an}{a:Addr}{e:E3}{x y:Y}
section
variable{P:B}{ops:Array Oper}{Q:Exit->Act->an->Prop}{rest:List Oper}{d j:Nat}{ty:ba}{pos:String}{after:Array Edge}{v:am}{b:Bool}{ds:List d_}{l:List am}{w w0:an}{is:List It}
variable{f:FuncId}{fo:cw}{xs:Array cw}{args:List am}{first cap:Array am}{a0:Array ba}
def rL(m:Mem w0 w is)(a:yielded ops l.toArray j=H b)(g:ev l fo=.func (.func f) first cap)(i:b=N->first.toList++xs.toList.map (ev l)++cap.toList=args)(c:b=N->cX P f args w λx _=>x=v)
 (h:∀u,Mem w0 u is->be P ops Q rest (Fr (l.set d (Uh b v)) ds) u):be P ops Q (Oper.mk (H d) (.call { callee:=.value fo,args:=xs,argTypes:=a0 }) ty pos after (H (j,N))::rest) (Fr l ds) w:=by
 cases b with
 |false=>simp only[Li] at h;exact eF a (h w m)
 |true=>simp only[lL] at h;exact bQ a (bY m g (i rfl) (c rfl) λx u m e=>by subst e;exact h u m)
end
section
variable{P:B}{ops:Array Oper}{Q:Act->Prop}{rest:List Oper}{d j:Nat}{ty:ba}{pos:String}{after:Array Edge}{v:am}{b:Bool}{ds:List d_}{l:List am}{w0:an}{is:List It}
variable{f:FuncId}{fo:cw}{xs:Array cw}{args:List am}{first cap:Array am}{a0:Array ba}
end
/-! ### Rows of edges and moves -/
def wF(h:iX w a (dE e)):iX w (a.add 0) [U e.1.x,U e.1.y,U e.1.z]:=(h.sub 0).take 3
def Cj(h:iX w a (dE e)):iX w (a.add 3) [U e.2.x,U e.2.y,U e.2.z]:=h.sub 3
def kO.one{α:Type}{enc:α->List am}{c:Nat}{x:α}(h:iX w a (enc x)):kO enc c w (H a) 1 [x]:=⟨rfl,λi y b=>by
 cases i with
 |zero=>cases b;exact⟨a,O,by rw[Nat.zero_mul];exact h⟩
 |succ i=>cases b⟩
def art{z p:Y}:((decide (x.x=p.x/\x.y=p.y/\x.z=p.z)||decide (y.x=p.x/\y.y=p.y/\y.z=p.z))||decide (z.x=p.x/\z.y=p.y/\z.z=p.z))=(decide (x=p)||decide (y=p)||decide (z=p)):=by
 simp only[Bl]
def aru{p:Y}:(decide (x.x=p.x/\x.y=p.y/\x.z=p.z)||decide (y.x=p.x/\y.y=p.y/\y.z=p.z))=(decide (x=p)||decide (y=p)):=by
 simp only[Bl]
end Go.Lith
namespace Go.Proofs.YtbbokjbcdkgfgaaGreatDoor
open Go.Proofs.Tryz
open Go.RowKit Go.Lith
set_option maxRecDepth 100000
attribute [local irreducible] be c_ fS cE cP Code.wp
end Go.Proofs.YtbbokjbcdkgfgaaGreatDoor
namespace Go.Lith
open Go.RowKit
end Go.Lith
namespace Go.Proofs.YtbbokjbcdkgfgaaGreatDoor
open Go.Proofs.Tryz
open Go.RowKit Go.Lith
set_option maxRecDepth 100000
attribute [local irreducible] be c_ fS cE cP Code.wp
end Go.Proofs.YtbbokjbcdkgfgaaGreatDoor
namespace Go.Lith
open Go.RowKit
def arv(u:Y):Nat:=if u.x≠0 then 0 else if u.y≠0 then 1 else 2
/-! ### Corners -/
section
variable{P:B}{ds:List d_}{l:List am}{x y:cw}{T T' vd t ty:ba}{v z:am}
end
section
variable{P:B}{ds:List d_}{l:List am}{ty:ba}{v u:am}
variable{ops:Array Oper}{Q:Exit->Act->an->Prop}{rest:List Oper}{d:Nat}{pos:String}{after:Array Edge}{w w0:an}{is:List It}
end
section
variable{P:B}{w0:an}{is:List It}{l:List am}{ty:ba}{u:am}
variable{ops:Array Oper}{Q:Act->Prop}{rest:List Oper}{d:Nat}{pos:String}{after:Array Edge}{v:am}{ds:List d_}
end
section
variable{P:B}{l:List am}{x y z:cw}{ty:ba}{k:IntKind}{m n q r:Int}
def Kl{a0:Array ba}(c:ev l x=.int k m)(d:ev l y=.int k n)(e:ev l z=.int k q)(b:(if q<(if n<m then n else m) then q else if n<m then n else m)=r):gX P l (.call { callee:=.builtin .min,args:=#[x,y,z],argTypes:=a0 }) ty (.int k r):=λw o a _=>by
 subst b;simp[execOp,a,resolve,invoke,builtin,Builtin.min_,Builtin.min2,dM,c,d,e]
def Km{a0:Array ba}(c:ev l x=.int k m)(d:ev l y=.int k n)(e:ev l z=.int k q)(b:(if (if m<n then n else m)<q then q else if m<n then n else m)=r):gX P l (.call { callee:=.builtin .max,args:=#[x,y,z],argTypes:=a0 }) ty (.int k r):=λw o a _=>by
 subst b;simp[execOp,a,resolve,invoke,builtin,Builtin.max_,Builtin.max2,dM,c,d,e]
end
end Go.Lith
namespace Go.Proofs.YtbbokjbcdkgfgaaGreatDoor
open Go.Proofs.Tryz
open Go.RowKit Go.Lith
set_option maxRecDepth 100000
attribute [local irreducible] be c_ fS cE cP Code.wp
variable{k:Nat}{u q r x:Y}{s t:T3}
def uM{l:List am}{ty:ba}{x y:cw}{v:Y}(c:k<3)(a:ev l x=sg v)(b:ev l y=U (k:Int)):gX X9 l (.index 103 x y) ty (U (bV (pU v k))):=by
 have h:k=0\/k=1\/k=2:=by omega
 rcases h with rfl|rfl|rfl
 .exact oO a b
 .exact oP a b
 exact oQ a b
def aeg(n:Int) : -1<=bV n/\bV n<=1:=by
 unfold bV;split
 .omega
 split<;>omega
def Kn(m n:Int):IntKind.i64.wrap (bV m*bV n)=bV m*bV n:=by
 have b:=aeg m;have c:=aeg n;have a:bV m = -1\/bV m=0\/bV m=1:=by omega
 rcases a with h|h|h<;>rw[h]<;>exact bN (by omega) (by omega)
section
variable{P:B}{ops:Array Oper}{Q:Exit->Act->an->Prop}{rest:List Oper}{d j:Nat}{ty:ba}{pos:String}{after:Array Edge}{v:am}{b:Bool}{ds:List d_}{l:List am}{w w0:an}{is:List It}
variable{f:FuncId}{fo:cw}{xs:Array cw}{args:List am}{first cap:Array am}{a0:Array ba}
end
def aiZ(h:¬Z3 u):arv u=Ad u/\Ad u<3:=by
 unfold arv Ad;unfold Z3 at h;by_cases a:u.x=0<;>by_cases b:u.y=0<;>by_cases c:u.z=0<;>simp[a,b,c] at h ⊢
def ang(h:Z3 u):¬Ad u<3:=by
 obtain⟨a,b,c⟩:=h;simp[Ad,a,b,c]
def ai0{a b:Int}:bV a*bV b<=0↔a*b<=0:=by
 unfold bV;rcases oz a 0 with ha|ha|ha<;>rcases oz b 0 with hb|hb|hb
 . have:=Int.mul_pos_of_neg_of_neg ha hb
   simp[ha,hb];omega
 .simp[hb]
 . have:=Int.mul_neg_of_neg_of_pos ha hb
   have:¬b<0:=by omega
   simp[ha,hb,this];omega
 .simp[ha]
 .simp[ha]
 .simp[ha]
 . have:=Int.mul_neg_of_pos_of_neg ha hb
   have:¬a<0:=by omega
   simp[ha,hb,this];omega
 .simp[hb]
 have:=Int.mul_pos ha hb
 have:¬a<0:=by omega
 have:¬b<0:=by omega
 simp[*]
def sZ(p q r s:Y):T3:=if sK p q=uP p q then ⟨sK r s,uP r s,sK p q⟩ else ⟨sK p q,uP p q,sK r s⟩
theorem Ii{p:Y}(a:I3 p)(b:I3 q):I3 (sK p q)/\I3 (uP p q):=by
 unfold sK uP;split
 .exact⟨b,a⟩
 exact⟨a,b⟩
instance {p q r s:Y}[hp:I3 p][hq:I3 q][hr:I3 r][hs:I3 s]:IT (sZ p q r s):=by
 unfold sZ;split
 .exact⟨(Ii hr hs).1,(Ii hr hs).2,(Ii hp hq).1⟩
 exact⟨(Ii hp hq).1,(Ii hp hq).2,(Ii hr hs).1⟩
def apG{p s:Y}(h:(sK p q).x=(uP p q).x/\(sK p q).y=(uP p q).y/\(sK p q).z=(uP p q).z):sZ p q r s=⟨sK r s,uP r s,sK p q⟩:=Z9 (Y.eq h.1 h.2.1 h.2.2)
def apH{p s:Y}(h:¬((sK p q).x=(uP p q).x/\(sK p q).y=(uP p q).y/\(sK p q).z=(uP p q).z)):sZ p q r s=⟨sK p q,uP p q,sK r s⟩:=K0 λe=>h (by rw[e];exact⟨rfl,rfl,rfl⟩)
def anh(u:Y):Ad u<=3:=by
 unfold Ad;split
 .omega
 split
 .omega
 split<;>omega
def arw{p s:Y}(h:Z3 (Jz p q r s)):(oU (sZ p q r s) && !decide ((uP p q).Lt (sK r s)) && !decide ((uP r s).Lt (sK p q)))=rC p q r s:=by
 unfold rC;rw[K0 (ang h)];unfold aqR
 congr 2
 unfold sZ oU ahX;split
 . refine decide_eq_decide.2 ?_
   have:=anh (oG (sK r s) (uP r s) (sK p q));simp only;omega
 refine decide_eq_decide.2 ?_
 have:=anh (oG (sK p q) (uP p q) (sK r s));simp only;omega
def alV{p s:Y}(h:¬Z3 (Jz p q r s)):(decide (bV (Hp p q r s)=0)&&decide (bV (pU (oG p q r) (Ad (Jz p q r s)))*bV (pU (oG p q s) (Ad (Jz p q r s)))<=0)&&decide (bV (pU (oG r s p) (Ad (Jz p q r s)))*bV (pU (oG r s q) (Ad (Jz p q r s)))<=0))=rC p q r s:=by
 unfold rC;rw[Z9 (aiZ h).2];simp only[ai0,cK]
def Ft{a b:Int}:0<bV a*bV b↔0<a*b:=by
 have:=ai0 (a:=a) (b:=b);omega
def ar3(d:k<3)(h:mT (s.cor k) (s.cor ((k+1)%3)) t=N):N=Mk s t:=by
 have e:k=0\/k=1\/k=2:=by omega
 unfold Mk;rcases e with rfl|rfl|rfl
 .rw[show mT s.a s.b t=N from h];rfl
 .rw[show mT s.b s.c t=N from h,Bool.or_true];rfl
 rw[show mT s.c s.a t=N from h,Bool.or_true]
def ai1(t:T3):List Y:=[t.a,t.b,t.c]
def ai2(a:k<3):(ai1 t)[k]? = H (t.cor k):=by
 have h:k=0\/k=1\/k=2:=by omega
 rcases h with rfl|rfl|rfl<;>rfl
def Fu(s t:T3)(k:Nat):List Y:=((ai1 s).take k).filter λx=>t.has x
def Fv(s t:T3)(k:Nat):List Y:=((ai1 s).take k).filter λx=>!t.has x
def Ij(a:k<3):Fu s t (k+1)=Fu s t k++if t.has (s.cor k) then [s.cor k] else []:=by
 unfold Fu;rw[cZ (ai2 a),je,ii,my]
def Ik(a:k<3):Fv s t (k+1)=Fv s t k++if t.has (s.cor k) then [] else [s.cor k]:=by
 unfold Fv;rw[cZ (ai2 a),je,ii,my];cases t.has (s.cor k)<;>rfl
def aeh(s t:T3)(k:Nat):(Fu s t k).length<=3:=ay (kn _ _) (by rw[bf];exact p_ ..)
def aei(s t:T3)(k:Nat):(Fv s t k).length<=3:=ay (kn _ _) (by rw[bf];exact p_ ..)
def Rh(s t:T3):(uC s t).length+(yH s t).length=3:=by
 rw[aoQ,aoR];cases t.has s.a<;>cases t.has s.b<;>cases t.has s.c<;>rfl
theorem ani(h:oU t=X7):t.nd=N:=by
 have g:Ad (oG t.a t.b t.c)<3:=by
  unfold oU at h;rw[Y7,Decidable.not_not] at h;exact h
 have i:∀p q r:Y,p=q\/q=r\/r=p->oG p q r=⟨0,0,0⟩:=λp q r d=>by
  rcases d with rfl|rfl|rfl<;>(refine Y.eq ?_ ?_ ?_<;>(simp only[oG,Y.sub,Y.cross];grind))
 have f:¬(t.a=t.b\/t.b=t.c\/t.c=t.a):=λd=>by
  rw[i _ _ _ d] at g;exact Y0 g (by decide)
 rw[Yn];exact⟨λe=>f (.inl e),λe=>f (.inr (.inl e)),λe=>f (.inr (.inr e))⟩
def acY{s t:T3}(e:oU s=X7)(f:oU t=X7)(c:(uC s t).length≠0) :
 (∃x u v y z,uC s t=[x]/\yH s t=[u,v]/\yH t s=[y,z])\/(∃x y u v,uC s t=[x,y]/\yH s t=[u]/\yH t s=[v])\/(uC s t).length=3:=by
 have a:=Rh s t;have b:=Rh t s;have d:=(ahY (ani e) (ani f)).length_eq;generalize uC s t=L at *
 generalize yH s t=U at *
 generalize yH t s=V at *
 rw[<-d] at b;rcases L with _|⟨x,_|⟨y,_|⟨z,_|⟨g,L⟩⟩⟩⟩
 .exact Y0 O c
 . rcases U with _|⟨u,_|⟨v,_|⟨_,_⟩⟩⟩<;>simp only[bh,dv] at a<;>try omega
   rcases V with _|⟨y,_|⟨z,_|⟨_,_⟩⟩⟩<;>simp only[bh,dv] at b<;>try omega
   exact .inl ⟨x,u,v,y,z,O,O,O⟩
 . rcases U with _|⟨u,_|⟨_,_⟩⟩<;>simp only[bh,dv] at a<;>try omega
   rcases V with _|⟨v,_|⟨_,_⟩⟩<;>simp only[bh,dv] at b<;>try omega
   exact .inr (.inl ⟨x,y,u,v,O,O,O⟩)
 .exact .inr (.inr O)
 simp only[bh] at a;omega
def apI{n:Nat}(a:n=(uC s t).length)(h:(decide ((n:Int)=0)||oU s||oU t)=N):(Mk s t||Mk t s)=aaU s t:=by
 unfold aaU;rw[Z9];rw[gz,gz,Y2] at h;rcases h with (h|h)|h
 .exact .inl (by omega)
 .exact .inr (.inl h)
 exact .inr (.inr h)
def apJ{n:Nat}(a:n=(uC s t).length)(h:(decide ((n:Int)=0)||oU s||oU t)=X7):((uC s t).length≠0/\oU s=X7/\oU t=X7)/\aaU s t=adW s t (uC s t) (yH s t) (yH t s):=by
 rw[nr,nr,Y7] at h;refine⟨⟨λe=>h.1.1 (by omega),h.1.2,h.2⟩,?_⟩;unfold aaU;rw[K0];rintro (k|k|k)
 .exact h.1.1 (by omega)
 .rw[h.1.2] at k;cases k
 rw[h.2] at k;cases k
theorem ai3[h:IT s](d:x∈ai1 s):I3 x:=by
 simp only[ai1,bl,fk,Y3] at d;rcases d with rfl|rfl|rfl
 .exact h.a
 .exact h.b
 exact h.c
theorem ai4[IT s]{L:List Y}{i:Nat}(h:uC s t=L)(a:L[i]? = H x):I3 x:=ai3 (ix.1 (h▸ak a:x∈uC s t)).1
theorem Kq[IT s]{L:List Y}{i:Nat}(h:yH s t=L)(a:L[i]? = H x):I3 x:=ai3 (ix.1 (h▸ak a:x∈yH s t)).1
def apK{a b c d:Y}:(decide (bV (((b.sub a).cross (c.sub a)).dot (d.sub a))=0)&&decide (bV ((b.sub a).cross (c.sub a)).x=bV ((b.sub a).cross (d.sub a)).x/\bV ((b.sub a).cross (c.sub a)).y=bV ((b.sub a).cross (d.sub a)).y/\bV ((b.sub a).cross (c.sub a)).z=bV ((b.sub a).cross (d.sub a)).z))=adW s t [a,b] [c] [d]:=by
 rw[decide_eq_decide.2 (cK (n:=((b.sub a).cross (c.sub a)).dot (d.sub a)))];rfl
def apL(h:(uC s t).length=3):adW s t (uC s t) (yH s t) (yH t s)=N:=by
 generalize uC s t=L at h;rcases L with _|⟨x,_|⟨y,_|⟨z,L⟩⟩⟩<;>simp only[bh,dv] at h<;>try omega
 rfl
end Go.Proofs.YtbbokjbcdkgfgaaGreatDoor
namespace Go.Lith
open Go.RowKit Go.ChangeMaps
section
variable{w0 w:an}{is js ks:List It}
variable{E:ba}{fs:Y->List T3}{D:List (Y×Hd)}
end
end Go.Lith
namespace Go.Proofs.YtbbokjbcdkgfgaaGreatDoor
open Go.Proofs.Tryz
open Go.RowKit Go.Lith
set_option maxRecDepth 100000
attribute [local irreducible] be c_ fS cE cP Code.wp
variable{t:T3}
def ai5(t:T3):List Y:=[t.a,t.b,t.c]
def alW{j:Nat}(a:j<3):(ai5 t)[j]? = H (t.cor j):=by
 have h:j=0\/j=1\/j=2:=by omega
 rcases h with rfl|rfl|rfl<;>rfl
section
variable{ts:List T3}{p q:Y}{F:List (Y×Bool)}
end
def zw0:[Value.bool X7,Value.string ⟨#[]⟩]=wC 0:=by unfold wC;rw[Uc];rfl
def zq0:([.bool X7,.string ⟨#[]⟩,.bool X7,.string ⟨#[]⟩,.bool X7,.string ⟨#[]⟩,.bool X7,.string ⟨#[]⟩,.bool X7,.string ⟨#[]⟩,.bool X7,.string ⟨#[]⟩,.bool X7,.string ⟨#[]⟩,.bool X7,.string ⟨#[]⟩,.bool X7,.string ⟨#[]⟩,.bool X7,.string ⟨#[]⟩]:List am)=qC q0:=by unfold qC q0;simp only[da,List.flatMap_nil,<-zw0];rfl
theorem asl(t:T3):0-t.normal.x*t.a.x-t.normal.y*t.a.y-t.normal.z*t.a.z = -((oG t.a t.b t.c).dot t.a):=by
 show 0-(oG t.a t.b t.c).x*t.a.x-(oG t.a t.b t.c).y*t.a.y-(oG t.a t.b t.c).z*t.a.z=_
 generalize oG t.a t.b t.c=n;unfold Y.dot
 grind
def apM(t:T3):qPr t.normal.x t.normal.y t.normal.z (0-t.normal.x*t.a.x-t.normal.y*t.a.y-t.normal.z*t.a.z)=qOf t:=by rw[asl];rfl
def arx[IT t]:Ka 300 [t.normal.x,t.normal.y,t.normal.z,0-t.normal.x*t.a.x-t.normal.y*t.a.y-t.normal.z*t.a.z]:=λx b=>by
 simp only[bl,fk,Y3] at b;rcases b with rfl|rfl|rfl|rfl
 .exact (K.up:Bd 300 t.normal.x)
 .exact (K.up:Bd 300 t.normal.y)
 .exact (K.up:Bd 300 t.normal.z)
 exact (K.up:Bd 300 (0-t.normal.x*t.a.x-t.normal.y*t.a.y-t.normal.z*t.a.z))
def ai6[IT t]:Ka 602 (qOf t):=by rw[<-apM];exact aqX arx
def Ze(t:T3):(qOf t).length=10:=rfl
def ary:Ka 1 q0:=λx a=>by
 simp only[q0,bl,fk,Y3] at a;rcases a with rfl|rfl|rfl|rfl|rfl|rfl|rfl|rfl|rfl|rfl<;>(unfold Bd;decide)
def Il{ts:List T3}{k:Nat}{p:Y}(h:ts[k]? = H t):Am (ts.take (k+1)) p=if t.has p then Cd (Am (ts.take k) p) (qOf t) else Am (ts.take k) p:=by
 unfold Am;rw[cZ h,je,List.foldl_append];cases a:t.has p<;>simp[a]
def yS{ts:List T3}{p:Y}:∀k,k<=ts.length->(Am (ts.take k) p).length=10
 |0,_=>rfl
 |k+1,a=>by
  rw[Il (ah (by omega))];split
  .exact kG (yS k (by omega)) (Ze _)
  exact yS k (by omega)
def Zf{ts:List T3}{p:Y}(a:∀t∈ts,IT t):∀k,k<=ts.length->Ka (602+k) (Am (ts.take k) p)
 |0,_=>ary.mono (by omega)
 |k+1,b=>by
  rw[Il (ah (by omega))];split
  . haveI:=a _ (fe (by omega:k<ts.length))
    exact Ni (Zf a k (by omega)) (ai6.mono (by show 602<=602+k;omega))
  exact (Zf a k (by omega)).mono (by omega)
def anj{x:Y}:(decide (t.a.x=x.x/\t.a.y=x.y/\t.a.z=x.z)||decide (t.b.x=x.x/\t.b.y=x.y/\t.b.z=x.z)||decide (t.c.x=x.x/\t.c.y=x.y/\t.c.z=x.z))=t.has x:=by
 have e:∀p q:Y,(p.x=q.x/\p.y=q.y/\p.z=q.z)↔q=p:=λp q=>⟨λh=>(Y.eq h.1 h.2.1 h.2.2).symm,λh=>by rw[h];exact⟨O,O,O⟩⟩
 rw[Bool.eq_iff_iff,rJ];simp only[gz,Y2,e,or_assoc]
end Go.Proofs.YtbbokjbcdkgfgaaGreatDoor
set_option linter.unusedSectionVars false
namespace Go.Lith
open Go
section
variable{P:B}{d:Nat}{w:an}(hw:d<=w.drawn)
include hw
end
section
variable{P:B}{d:Nat}{w:an}(hw:d<=w.drawn)
include hw
end
end Go.Lith
namespace Go.Proofs.YtbbokjbcdkgfgaaGreatDoor
open Go.Proofs.Tryz
open Go.RowKit Go.Lith
set_option maxRecDepth 100000
attribute [local irreducible] be c_ fS cE cP Code.wp
def rF(c:Iv):List am:=[U c.u.x,U c.u.y,U c.u.z,U c.v.x,U c.v.y,U c.v.z,.bool (cQ c.c),.string (dQ c.c)]
def abc(c:Iv):am:=.agg (rF c).toArray
def iH:(∀c,rF c=[U c.u.x,U c.u.y,U c.u.z,U c.v.x,U c.v.y,U c.v.z,.bool (cQ c.c),.string (dQ c.c)])/\(∀c,(abc c).cells.toList=[U c.u.x,U c.u.y,U c.u.z,U c.v.x,U c.v.y,U c.v.z,.bool (cQ c.c),.string (dQ c.c)])/\(∀c f,Xz (abc c) f=f [U c.u.x,U c.u.y,U c.u.z,U c.v.x,U c.v.y,U c.v.z,.bool (cQ c.c),.string (dQ c.c)]):=⟨λ_=>rfl,λ_=>rfl,λ_ _=>rfl⟩
end Go.Proofs.YtbbokjbcdkgfgaaGreatDoor
namespace Go.Lith
open Go.RowKit Go.ChangeMaps Go.MapKept
section
variable{K V:Type}[DecidableEq K]{P:B}{T M E ty:ba}{ek:K->am}{ev:V->am}{w w0:an}{g c:Nat}{es:Array MapEntry}{D:List (K×V)}{is:List It}
variable{ds:List d_}{l:List am}{x y z:cw}{ops:Array Oper}{Q:Exit->Act->an->Prop}{rest:List Oper}{d:Nat}{pos:String}{after:Array Edge}
end
end Go.Lith
namespace Go.Proofs.YtbbokjbcdkgfgaaGreatDoor
open Go.Proofs.Tryz
open Go.RowKit Go.Lith
set_option maxRecDepth 100000
section
attribute [local irreducible] be c_ fS cE cP Code.wp
def alX{B:Nat}{Q:Y->List Int}(a:∀x,(Q x).length=10)(b:∀x,Ka B (Q x))(d:B<=800000)(u:Y){v:Y}(c:I3 v):Bd 900000 (ah4 Q u v):=by
 unfold ah4;rw[<-aoV (kG (a u) (a v))];exact (ah7 (Ni (b u) (b v)) (kG (a u) (a v)) (bd4 c) O 10 (bg _)).mono (by omega)
/-! ### The quadrics of the corners -/
theorem yT{l:List T3}(e:∀t∈l,IT t){p:Y}(h:p∈pQ l):I3 p:=by
 obtain⟨t,f,d⟩:=ff.1 (show p∈l.flatMap λt=>[t.a,t.b,t.c] from h);have:=e t f;simp only[bl,fk,Y3] at d;rcases d with rfl|rfl|rfl
 .exact this.a
 .exact this.b
 exact this.c
def acZ{l:List T3}{p q:Y}(h:nbB l p q=N):p∈pQ l/\q∈pQ l:=by
 simp only[nbB,Bool.and_eq_true,Ak,List.any_eq_true] at h;obtain⟨_,t,a,h⟩:=h;exact⟨Hq a h.1,Hq a h.2⟩
/-! ### Candidates -/
/-! ### The moves -/
theorem nK{l:List T3}(h:∀t∈l,IT t):∀t∈bS l,IT t:=λt e=>by
 obtain⟨s,d,rfl⟩:=afw.1 e;have:=h s d;unfold j;split
 .exact⟨this.c,this.a,this.b⟩
 split
 .exact⟨this.b,this.c,this.a⟩
 exact this
end
section
attribute [local irreducible] be c_ fS cE cP Code.wp
attribute [local congr] fE fF eN fD
variable{k c:Nat}{t:T3}
theorem aej{ts:List T3}{x y z:Int}(h:∀t∈ts,IT t)(j:ts[k]? = H t)(a:gF x)(b:gF y)(d:gF z):∀u∈ts.set k (t.setC c ⟨x,y,z⟩),IT u:=λu l=>(iv l).elim (h u) λe=>by
 obtain⟨f,g,i⟩:=h t (ak j);subst e;unfold T3.setC;split
 .exact⟨⟨a,b,d⟩,g,i⟩
 split
 .exact⟨f,⟨a,b,d⟩,i⟩
 exact⟨f,g,⟨a,b,d⟩⟩
def Zg(h:IT t)  : gF (t.cor c).x/\gF (t.cor c).y/\gF (t.cor c).z:=by
 obtain⟨⟨a,b,a3⟩,⟨d,e,f⟩,⟨g,i,j⟩⟩:=h;unfold T3.cor;split
 .exact⟨a,b,a3⟩
 split
 .exact⟨d,e,f⟩
 exact⟨g,i,j⟩
def abd{g o:Nat}:(⟨g,o,X8⟩:Addr).add ((k:Int).toNat*c)=⟨g,o+k*c,X8⟩:=by rw[ab];exact cA ..
def Zh{g:Nat}:(⟨g,0,X8⟩:Addr).add ((k:Int).toNat*c)=⟨g,k*c,X8⟩:=by rw[abd,ae]
def alY{w0 w:an}{S:List (Option Nat)}{E:ba}{A:Option Addr}{n cap:Nat}{ts:List T3}(h:Ow w0 w S E 9 A n cap (ts.flatMap aP))(d:k<n)(b:c<3):∃g t,A=H ⟨g,0,X8⟩/\ts[k]? = H t/\iX w ⟨g,k*9+c*3,X8⟩ [U (t.cor c).x,U (t.cor c).y,U (t.cor c).z]:=by
 obtain⟨g,rfl⟩:=h.some (by omega);obtain⟨t,i,a,e,f⟩:=(h.lat (enc:=aP) Pb (by decide)).get d;cases e;have:=f.cor b;rw[cA,cA,ae] at this;exact⟨g,t,O,i,this⟩
def abe{A:Option Addr}{ci:Nat}{ins:List Bool}(w:an)(hF:kO uI 1 w A 125 ins):cX X9 16 [.agg #[U 2,.slice A 125 ci]] w (λv w'=>∃ts:List T3,(ts.length<=1536/\∀t∈ts,IT t)/\SL 43 9 (ts.flatMap aP) ts.length w v w'):=by
 refine⟨bP func16 (by kernel_rfl),?_⟩;have m:=Mem.refl w
 go_enter func16,ntmps16
 apply gJ 8 [1,0] m;simp only[↓Z,aia];intro j u m;refine bY m O O (afB _ (hF.ext m.ext)) ?_;rintro v u m ⟨c,rfl⟩;apply aL 8 [0] m;simp only[↓Z];refine iY O ?_ ?_<;>intro T
 .apply F 5 [] m;simp only[↓Z];exact aS O O ⟨_,O,m.ext,[],⟨by simp,by simp⟩,X8,0,0,O,O,Ow.nil _ _ _ _⟩
 apply F 5 [1,0] m;simp only[↓Z,Hu,dN,aa];refine aA (mW O O (by omega) Qw) ?_;apply aL 4 [0] m;simp only[↓Z];refine aA aI ?_;replace m:=m.nilO 43 9;apply aL 7 [0] m;simp only[↓Z];refine bT [5,6] [7,8,16,17,18,19,20,21,22,23,24,25,26,27,28,29,30,31,32,33,34,35,36,37,38] (λn vs h=>∃(z:Nat)(a:Nat)(ts:List T3)(b:Option Addr)(d:Nat),vs=[.slice b a d,U (z:Int)]/\Mem w h [oI 43 9 b a d (ts.flatMap aP),bI j [U 2,.slice A 125 ci] 58]/\(ts.length=a)/\(∀t∈ts,SmT t)/\(a<=384*z)/\(z<=4)/\(n=4-z)) ?_ ?_
 .exact⟨_,0,0,[],X8,0,O,m,O,by simp,by omega,by omega,O⟩
 intro n vs p g u G r
 obtain⟨z,a,ts,b,d,rfl,m,f,e,l,P,af⟩:=g;simp only[zu,zF,zG];apply F 7 [0,0] m;simp only[↓Z];refine aZ O ?_ ?_<;>intro V
 .apply F 8 [0] m;simp only[↓Z];refine bT [5,7] [8,21,22,23,24,25,26,27,28,29,30,31,32,33,34,35,36,37,38] (λn vs h=>∃(y:Nat)(a:Nat)(ts:List T3)(b:Option Addr)(d:Nat),vs=[.slice b a d,U (y:Int)]/\Mem w h [oI 43 9 b a d (ts.flatMap aP),bI j [U 2,.slice A 125 ci] 58]/\(ts.length=a)/\(∀t∈ts,SmT t)/\(a<=384*z+96*y)/\(y<=4)/\(n=4-y)) ?_ ?_
  .exact⟨_,0,_,_,_,_,O,m,f,e,by omega,by omega,O⟩
  intro n vs p g u I s
  obtain⟨y,a,ts,b,d,rfl,m,f,e,l,M,ae⟩:=g;simp only[zu,zF,zG];apply F 7 [0,0] m;simp only[↓Z];refine aZ O ?_ ?_<;>intro W
  .apply F 8 [0] m;simp only[↓Z];refine bT [5,8] [26,27,28,29,30,31,32,33,34,35,36,37,38] (λn vs h=>∃(x:Nat)(a:Nat)(ts:List T3)(b:Option Addr)(d:Nat),vs=[.slice b a d,U (x:Int)]/\Mem w h [oI 43 9 b a d (ts.flatMap aP),bI j [U 2,.slice A 125 ci] 58]/\(ts.length=a)/\(∀t∈ts,SmT t)/\(a<=384*z+96*y+24*x)/\(x<=4)/\(n=4-x)) ?_ ?_
   .exact⟨_,0,_,_,_,_,O,m,f,e,by omega,by omega,O⟩
   intro n vs p g u K B
   obtain⟨x,a,ts,b,d,rfl,m,f,e,l,L,ad⟩:=g;simp only[zu,zF,zG];apply F 7 [0,0] m;simp only[↓Z];refine aZ O ?_ ?_<;>intro X
   .apply F 10 [2,0] m;simp only[↓Z,aia,uF,aa];refine bB O O (alK (cx:=x) (cy:=y) (cz:=z) _ (hF.ext m.ext) (by omega) (by omega) (by omega)) ?_;rintro v u i ⟨us,C,D,ag,Q,Y,rfl,k⟩;replace m:=m.newO i k;simp only[J];refine bJ m 1 O O gB mS O (by decide) O O (m.o 0 O).own.1 (m.o 0 O).row (qF _) (by omega) (by omega) ?_;intro b d u m;simp only[zF,zG] at m;rw[<-au] at m;apply aL 8 [0] m;simp only[↓Z];apply R;omega;exact B (4-(x+1)) _ _ (by omega) (by kernel_rfl) ⟨x+1,_,_,_,_,O,(m.sel [X7,N,N]),by rw[a_];omega,λt q=>(bz.1 q).elim (e t) (C.2 t),by omega,by omega,rfl⟩
   apply F 7 [0] m;simp only[↓Z];apply R;omega;exact s (4-(y+1)) _ _ (by omega) (by kernel_rfl) ⟨y+1,_,_,_,_,O,m,f,e,by omega,by omega,O⟩
  apply F 7 [0] m;simp only[↓Z];apply R;omega;exact r (4-(z+1)) _ _ (by omega) (by kernel_rfl) ⟨z+1,_,_,_,_,O,m,f,e,by omega,by omega,O⟩
 apply F 4 [0] m;simp only[↓Z];refine bB O O (uH (ts:=ts) _ ((m.o 0 O).tris (am7 e)) (by omega)) ?_;rintro v u i ⟨E,ah,S,ab,rfl,k⟩;replace m:=m.newO i k;apply aL 3 [] m;simp only[↓Z];exact aS O O ⟨_,O,m.ext,bS ts,⟨by rw[jZ];omega,nK (am7 e)⟩,_,_,_,by rw[jZ];omega,rfl,(m.o 0 rfl)⟩
end
section
attribute [local irreducible] be c_ fS cE cP Code.wp
variable{w:an}{G:Gr}{ng dp nc cc cg j:Nat}{a:Addr}{cs:List Cl}
def tO{u:an}(e:eR w u):w.grownBy u X8:=⟨e.os,e.tape,e.output,e.size,λk a _=>Below.block e k a⟩
def abf{p q:Prop}{e:Ending}(h:(e=.returned (.bool N)/\p)\/(e=.returned (.bool X7)/\q)):∃b:Bool,e=.returned (.bool b)/\((b=N/\p)\/(b=X7/\q)):=by
 rcases h with ⟨rfl,h⟩|⟨rfl,h⟩
 .exact⟨_,O,.inl ⟨O,h⟩⟩
 exact⟨_,O,.inr ⟨O,h⟩⟩
structure Hdr where
 I:Option Addr
 i:Nat
 ci:Nat
 O0:Option Addr
 o:Nat
 co:Nat
def Hdr.v(h:Hdr):am:=.agg #[.slice h.I h.i h.ci,.slice h.O0 h.o h.co]
def ai7(w:an)(B:Option Addr)(ng:Nat)(c:Fin ng->Hdr):Prop:=∀k:Fin ng,∃a lv M m d er tot b s,B=H a/\iX w (a.add (k.1*8)) [iV lv,.slice (c k).I (c k).i (c k).ci,.slice (c k).O0 (c k).o (c k).co,.slice M m d,iV er,iV tot,.bool b,.string s]
structure anl(w:an)(gs:List Gp)(k:Nat)(h:Hdr)(g:Gp):Prop where
 at_:gs[k]? = H g
 i:h.i=g.ins.length
 o:h.o=g.outs.length
 I:kO nB 1 w h.I h.i g.ins
 O0:kO nB 1 w h.O0 h.o g.outs
 ci:g.ins.length<=h.ci
 co:g.outs.length<=h.co
def _root_.Go.Lith.GrAt.hdr{A B:Option Addr}(v:GrAt w A B G)(z:G.gs.length=ng):∃e:Fin ng->Hdr,ai7 w B ng e/\∀k:Fin ng,∃g,anl w G.gs k.1 (e k) g:=by
 have h:∀k:Fin ng,∃h:Hdr,(∃a lv M m j er tot b s,B=H a/\iX w (a.add (k.1*8)) [iV lv,.slice h.I h.i h.ci,.slice h.O0 h.o h.co,.slice M m j,iV er,iV tot,.bool b,.string s])/\∃g,anl w G.gs k.1 h g:=λk=>by
  obtain⟨g,a,I,c,O0,d,M,f,l,n,p,q,r,x,t,u,y⟩:=v.gp (k:=k.1) (by omega);exact⟨⟨I,g.ins.length,c,O0,g.outs.length,d⟩,⟨a,_,M,_,f,_,_,_,_,n,p⟩,g,l,O,O,q,r,t,u⟩
 exact⟨λk=>Classical.choose (h k),λk=>(Classical.choose_spec (h k)).1,λk=>(Classical.choose_spec (h k)).2⟩
def aek(w:an):cX X9 107 [.pointer (H a)] w (λv w'=>∃g,v=.func (.func 163) #[] #[.pointer (H ⟨g,0,X8⟩)]/\w.heap.size<=g/\fQ w' g [.pointer (H a)] 80):=by
 refine⟨bP func107 (by kernel_rfl),?_⟩;have m:=Mem.refl w
 go_enter func107,ntmps107
 refine L λh d=>f (Ug m O O ?_);intro c u m;refine aA aI (S (d _ _ ?_));try clear d h
 refine L λi e=>f ?_;simp only[J];refine aA lX ?_;simp only[J,ka,df,fj];refine aA aI (S (e _ _ ?_));try clear e i
 refine gh ?_;simp only[J];try simp only[t,Exit.then,Y4]
 refine aS O O ?_;try simp only[zD,zE]
 exact⟨_,O,m.ext,c,O,m.ge _ bv c O,(m.b 0 O)⟩
def afM(l s:Nat){p:an}{A B:Option Addr}{r:Fin ng->Hdr}(d y:List (Fin ng)->an->Prop)(E:AbidesFrom w.heap.size d)(hY:∀pre x z,d pre z->pre.length<ng->YieldAt Fence.wide (dp-1) X9 l #[iV (x.1:Nat),(r x).v] z λe g=>(e=.returned (.bool N)/\d (pre++[x]) g/\KB p.heap.size [s] z g)\/(e=.returned (.bool X7)/\y (pre++[x]) g))(am:eR p w)(hH:ai7 p B ng r)(ak:fQ w s [.pointer (H a)] 80)(al:iX w a [.slice A nc cc,.slice B ng cg])(au:ng<=1000000)(h0:d [] w):CallsIn Fence.wide dp X9 163 #[.func (.yield l) #[] #[],.pointer (H ⟨s,0,X8⟩)] w λe g=>(∃v,e=.returned v)/\((∃xs:List (Fin ng),xs.map (·.1)=fh ng/\d xs g)\/(∃pre:List (Fin ng),pre.map (·.1)=fh pre.length/\y pre g)):=by
 have m:=Mem.refl w;refine callsIn_of_wp func163 O trivial ?_ O;simp only[ntmps163,gy,bh,dv,aa,lj,ir,iu,jq,i_,cv,dx];refine wpIn_wide.2 ?_;refine L λK1 K=>f (bA O (ak.lies1 vZ O) ?_);simp only[J];refine aA (cN O) (aA (aO (c:=0) nD O lN O O) ?_);simp only[J];refine bA O (lies1 (al 1 _ O) yA) ?_;simp only[J];refine aA (iL O wU O) (aA aF (S (K _ _ ?_)));try clear K K1
 refine gn ?_;simp only[J];try simp only[ae,aa,C,ac]
 refine uT [10] [3,4,11,12,13,14,15,16,17,18,19,20,21,22,23,24] (λn vs wl=>∃(q:an) (k:Nat) (pre:List (Fin ng)),vs=[U (k:Int)]/\Mem q wl []/\(d pre q)/\(eR p q)/\(pre.map (·.1)=fh k)/\(k<=ng)/\(n=ng-k)) ?_ ?_
 . skip
   apply Exists.intro;simp only[zQ,zR,zD,zE];exact⟨w,0,[],O,m,h0,am,O,by omega,O⟩
 intro n vs wr hI u
 obtain⟨q,k,pre,rfl,m,X,ad,j,hk,hn⟩:=hI;simp only[zu,zF,zG];refine L λK2 P=>f (aA (oJ O O) (S (P _ _ ?_)));try clear P K2
 refine L λK3 Q=>?_;simp only[J];refine aZ O ?_ ?_<;>intro ar
 .have i:k<ng:=by omega
  obtain⟨a2,lv,M,mm,cm,er,tot,bt,st,rfl,ap⟩:=hH ⟨k,i⟩;refine gg (Q _ _ ?_);try clear Q K3
  refine L λK4 T=>gn (L λK5 V=>f (aA aF ?_));simp only[J];refine aA (aN wU qK O O (by omega) (by omega) (kV (ab _))) ?_;simp only[J];refine bA O ((ap.ext (ad.trans m.ext)).lies Xq qK) ?_;simp only[J];refine fV m adD O ?_;intro g1 u m;refine aA aI ?_;simp only[J];refine aX m 0 O O O qK (eU O) O ?_;intro u m;simp only[zy,zx,over,zF,zG,aa] at m;refine S (V _ _ ?_);try clear V K5
  refine L λK6 W=>?_;have ai:=m.ext;have ah:d pre _:=E _ _ _ X8 X (tO m.ext) (λ_ h=>by cases h);obtain⟨fn,tmps,aq,av,I,F⟩:=hY pre ⟨k,i⟩ _ ah (by have:=Y1 iz j;simp at this;omega);refine (wpIn_wide (n:=dp)).1 (wpIn_region_lit (pF (aF _) ?_));simp only[J];refine pF (aF _) ?_;simp only[J];refine pF (aO (c:=0) oN O iF O O _) ?_;simp only[J];refine pF (cT O ((m.b 0 O).lies1 mA O)) ?_;simp only[J];refine pF (aO (c:=0) oN O iF O O _) ?_;simp only[J];refine pF (cT O ((m.b 0 O).lies1 mA O)) ?_;simp only[J];refine pF (Mg O O _) ?_;simp only[J];refine adx (args:=[iV k,(r ⟨k,i⟩).v]) O O I F ?_;intro e o Z;obtain⟨bb,rfl,G⟩:=abf Z;refine⟨_,O,pF (sT O _) ?_⟩;simp only[J];refine wpListIn_nil ?_;clear I F Z;replace m:=Mem.refl o;refine W _ _ ?_;try clear W K6
  refine dH O ?_ ?_<;>intro Y
  .obtain⟨-,D⟩:bb=X7/\y (pre++[⟨k,i⟩]) o:=by
    rcases G with ⟨rfl,_⟩|h
    .cases Y
    exact h
   refine gh ?_;try simp only[t,Exit.then,Y4]
   exact anJ O ⟨⟨_,O⟩,.inr ⟨_,by have af:=Y1 iz j;simp only[dy,List.length_range] at af;rw[dh,j,a_,af,List.length_singleton,pk];rfl,D⟩⟩
  obtain⟨-,D,ao⟩:bb=N/\d (pre++[⟨k,i⟩]) o/\_:=by
   rcases G with h|⟨rfl,_⟩
   .exact h
   cases Y
  refine gg (T _ _ ?_);try clear T K4
  refine f (aA (eH O O (bN (by omega) (by omega))) (aA aF (S ?_)));simp only[J];simp only[t,Exit.then];refine⟨ng-(k+1),_,?_,O,?_,?_⟩
  .omega
  .simp only[J,zv]
  simp only[zQ,zR,zD,zE]
  exact⟨o,k+1,pre++[⟨k,i⟩],O,m,D,Below.trans (ad.trans ai) ao.1,by rw[dh,j,pk];rfl,by omega,rfl⟩
 refine wp_exit ?_;try simp only[t,Exit.then,Y4]
 exact Ny rfl ⟨⟨_,rfl⟩,.inl ⟨pre,by rw[j,show k=ng by omega],E _ _ _ X8 X (tO m.ext) (λ_ h=>by cases h)⟩⟩
def Lw{ng nc cc cg b:Nat}{d w:an}{a:Addr}{A B:Option Addr}{e:Fin ng->Hdr}(n:eR d w)(h:ai7 d B ng e)(k:fQ w b [.pointer (H a)] 80)(m:iX w a [.slice A nc cc,.slice B ng cg])(o:ng<=1000000) :
 SeqStopsK Fence.wide 3 X9 163 #[.pointer (H ⟨b,0,X8⟩)] (λx:Fin ng=>#[iV (x.1:Nat),(e x).v]) (KB d.heap.size [b]) (λxs=>xs.map (·.1)=fh ng) (λpre=>pre.map (·.1)=fh pre.length) ng w:=λl J f W c i _ j g=>
 afM l b J f i j (eR.trans n c) h (k.ext c) (m.ext c) o g
def Zi{P:B}{ops:Array Oper}{Q:Exit->Act->an->Prop}{n:Nat}{l:List am}{ds:List d_}{a:List Oper}{d:Nat}{op:Op}{ty:ba}{pos:String}{after:Array Edge}{b:Bool}(c:yielded ops l.toArray j=H b)(h:wpListIn Fence.wide n P ops Q (Oper.mk (H d) op ty pos after X8::a) (Fr l ds) w):wpListIn Fence.wide n P ops Q (Oper.mk (H d) op ty pos after (H (j,b))::a) (Fr l ds) w:=by
 unfold wpListIn at h ⊢;rw[Z9 (by simp[Region.wanted])] at h;rw[Z9 (by simp[Region.wanted,c])];exact h
def nL(cs:List Cl)(l:List Int):List Int:=(l.map (Nc cs)).filter (λz=>decide (0<=z))
def abg{l:List Int}{z:Int}(h:l[j]? = H z)(a:0<=Nc cs z):nL cs (l.take (j+1))=nL cs (l.take j)++[Nc cs z]:=by
 rw[jb,h,nL,dh,je];simp[nL,a]
def ai8{l:List Int}{z:Int}(h:l[j]? = H z)(a:¬0<=Nc cs z):nL cs (l.take (j+1))=nL cs (l.take j):=by
 rw[jb,h,nL,dh,je];simp[nL,a]
def ai9{l:List Int}{n:Nat}{xs:List (Fin n)}(h:xs.map (λx=>(x.1:Int))=nL cs (l.take j)):∀x∈xs,(x.1:Int)∈nL cs l:=λx d=>by
 have a:(x.1:Int)∈xs.map (λx=>(x.1:Int)):=fg (f:=λx:Fin n=>(x.1:Int)) d;rw[h] at a;obtain⟨b,c⟩:=ix.1 a;obtain⟨z,g,e⟩:=du.1 b;exact ix.2 ⟨du.2 ⟨z,gj g,e⟩,c⟩
def alZ{k:Nat}(w:an):cX X9 63 [.pointer (H a),U (k:Int)] w (λv w'=>∃d c,v=.func (.func 110) #[] #[.pointer (H ⟨d,0,X8⟩),.pointer (H ⟨c,0,X8⟩)]/\w.heap.size<=d/\w.heap.size<=c/\c≠d/\fQ w' d [.pointer (H a)] 80/\fQ w' c [U (k:Int)] 3):=by
 refine⟨bP func63 (by kernel_rfl),?_⟩;have m:=Mem.refl w
 go_enter func63,ntmps63
 refine L λi g=>f (Ug m O O ?_);intro d u m;simp only[J];refine Ug m O O ?_;intro c u m;refine aA aI (S (g _ _ ?_));try clear g i
 refine L λj h=>f ?_;simp only[J];refine aA lX ?_;simp only[J,ka,df,fj];refine aA aI (S (h _ _ ?_));try clear h j
 refine gh ?_;simp only[J];try simp only[t,Exit.then,Y4]
 refine aS O O ?_;try simp only[zD,zE]
 exact⟨_,O,m.ext,d,c,O,m.ge _ (br _ bv) d O,m.ge _ bv c O,λe=>(b_.1 m.nd).1 _ bv c O (by rw[e];rfl),(m.b 1 rfl),(m.b 0 rfl)⟩
def afN{k:Nat}(l r B2 gb:Nat){P:an}{A B:Option Addr}{gp:Gp}(a W:List (Fin ng)->an->Prop)(s:AbidesFrom w.heap.size a)(hY:∀pre x X,a pre X->pre.length<gp.ins.length->YieldAt Fence.wide (dp-1) X9 l #[iV (x.1:Nat)] X λe d=>(e=.returned (.bool N)/\a (pre++[x]) d/\KB P.heap.size [r,gb] X d)\/(e=.returned (.bool X7)/\W (pre++[x]) d))(hG:GrAt P A B G)(a0:G.cs.length=nc)(a1:G.gs.length=ng)(aM:nc<=1000000)(aP:ng<=1000000)(ax:IxG G)(ai:G.gs[k]? = H gp)(aW:gp.ins.length<=1000000000000)(aw:eR P w)(ao:fQ w r [.pointer (H ⟨gb,0,X8⟩)] 80)(ay:fQ w B2 [U (k:Int)] 3)(au:fQ w gb [.slice A nc cc,.slice B ng cg] 31)(h0:a [] w):CallsIn Fence.wide dp X9 110 #[.func (.yield l) #[] #[],.pointer (H ⟨r,0,X8⟩),.pointer (H ⟨B2,0,X8⟩)] w λe d=>(∃v,e=.returned v)/\((∃xs:List (Fin ng),xs.map (λx=>(x.1:Int))=nL G.cs gp.ins/\a xs d)\/(∃pre:List (Fin ng),(∀x∈pre,(x.1:Int)∈nL G.cs gp.ins)/\W pre d)):=by
 obtain⟨a2,eB,I,ci,O0,co,M,cm,aD,Y,hO,hM,aR,aT,aS⟩:=hG.gs k gp ai;subst eB;have aX:k<ng:=by have:=(av.1 ai).1;omega
 have m:=Mem.refl w;refine callsIn_of_wp func110 O trivial ?_ O;simp only[ntmps110,gy,bh,dv,aa,lj,ir,iu,jq,i_,cv,dx];refine wpIn_wide.2 ?_;refine L λK1 k1=>mq m aB (by kernel_rfl) (ql O (λu m=>((ao.ext m.ext).lies1 vZ O)) ?_);simp only[J];refine aK (cN O) (aK (aO (c:=0) nD O lN O O) ?_);simp only[J];refine ql O (λu m=>((au.ext m.ext).lies1 yA O)) ?_;simp only[J];refine ql O (λu m=>((ay.ext m.ext).lies1 bW O)) ?_;simp only[J];refine aK (aN wU qK O O (by omega) (by omega) (kV (ab _))) (aK (aO (c:=0) oN O iF O O) ?_);simp only[J];refine ql O (λu m=>(lies1 ((aD.ext (aw.trans m.ext)) 1 _ O) mA)) ?_;simp only[J];refine aK (iL O cF O) (aK aF (bD ?_));intro u m;refine k1 _ _ ?_;try clear k1 K1
 refine gn ?_;simp only[J];try simp only[ae,aa,C,ac]
 refine uT [16] [5,6,17,18,19,20,21,22,23,24,25,26,27,28,29,30,31,32,33,34,35,36] (λn vs wl=>∃(b:an) (j:Nat) (pre:List (Fin ng)),vs=[U (j:Int)]/\Mem b wl []/\(a pre b)/\(eR P b)/\(fQ b r [.pointer (H ⟨gb,0,X8⟩)] 80)/\(fQ b gb [.slice A nc cc,.slice (H a2) ng cg] 31)/\(pre.map (λx=>(x.1:Int))=nL G.cs (gp.ins.take j))/\(pre.length<=j)/\(j<=gp.ins.length)/\(n=gp.ins.length-j)) ?_ ?_
 . have aL:=h0
   apply Exists.intro;simp only[zQ,zR,zD,zE];exact⟨w,0,[],O,m,h0,aw,ao,au,O,by simp,by omega,O⟩
 intro n vs wr Y u
 obtain⟨b,j,pre,rfl,m,o,Q,ah,al,T,a4,hj,hn⟩:=Y;simp only[zu,zF,zG];refine L λK2 k2=>f (aA (oJ O O) (S (k2 _ _ ?_)));try clear k2 K2
 refine L λK3 k3=>?_;simp only[J];refine aZ O ?_ ?_<;>intro aQ
 .obtain⟨z,y,aH,rfl,aE⟩:=Y.get (i:=j) (by omega);obtain⟨az,a6⟩:=(ax.2 gp (ak ai)).1 z (ak y);obtain⟨c,rfl⟩:=ee az;obtain⟨x,a3,E,cx,g,rfl,aC,a5,aV⟩:=hG.cl (k:=c) (by omega);refine gg (k3 _ _ ?_);try clear k3 K3
  refine L λK4 D=>gn (L λK5 k5=>f (aA (aN cF bC O O (by omega) (by omega) (lK (ab _))) ?_));simp only[J];refine bA O (lies1 (nY (aE.ext (Q.trans m.ext))) bW) ?_;simp only[J];refine aA aI (S (k5 _ _ ?_));try clear k5 K5
  refine L λK6 k6=>f ?_;simp only[J];refine bA O ((ah.ext m.ext).lies1 vZ O) ?_;simp only[J];refine aA (cN O) (aA (aO (c:=0) nD O lM O O) ?_);simp only[J];refine bA O ((al.ext m.ext).lies1 vY O) ?_;simp only[J];refine aA aF ?_;simp only[J];refine aA (aN uZ mH O O (by omega) (by omega) (kV (ab _))) (aA (aO (c:=0) sW O bC O O) ?_);simp only[J];refine bA O (lies1 ((aC.ext (Q.trans m.ext)) 1 _ O) bW) ?_;simp only[J];refine aA aI (S (k6 _ _ ?_));try clear k6 K6
  refine L λK7 F=>?_;simp only[J];have p:=m.ext;have ad:a pre _:=s _ _ _ X8 o (tO m.ext) (λ_ h=>by cases h);by_cases Z:0<=x.made
  .obtain⟨q,hq⟩:∃q:Nat,x.made=(q:Int):=⟨x.made.toNat,by omega⟩
   have aY:=((ax.1 x (ak g)).1).2;have V:q<ng:=by omega
   rw[hq];have p:=m.ext;have ad:a pre _:=s _ _ _ X8 o (tO m.ext) (λ_ h=>by cases h);obtain⟨fn,tmps,aJ,a7,hy,hR⟩:=hY pre ⟨q,V⟩ _ ad (by omega);dsimp only at hy;refine (wpIn_wide (n:=dp)).1 (wpIn_region_lit (pF (aF _) ?_));simp only[J];refine pF (xL O O (by omega) _) ?_;simp only[J];refine pF (aF _) ?_;simp only[J];refine Zi O (pF (aF _) ?_);simp only[J];refine Zi O (pF (aF _) ?_);simp only[J];refine Zi O (adx (args:=[iV q]) O O hy hR ?_);intro e K ar;obtain⟨bb,rfl,hv⟩:=abf ar;refine⟨_,O,Zi O (pF (sT O _) ?_)⟩;simp only[J];refine pF (dT O _) ?_;simp only[J];refine wpListIn_nil ?_;clear hy hR ar;replace m:=Mem.refl K;refine F _ _ ?_;try clear F K7
   refine dH O ?_ ?_<;>intro aq
   .obtain⟨-,af⟩:bb=X7/\W (pre++[⟨q,V⟩]) K:=by
     rcases hv with ⟨rfl,_⟩|h
     .cases aq
     exact h
    refine gh ?_;try simp only[t,Exit.then,Y4]
    exact anJ O ⟨⟨_,O⟩,.inr ⟨_,ai9 (j:=j+1) (by rw[dh,T,abg y (by rw[uY g];exact Z),uY g,hq];rfl),af⟩⟩
   obtain⟨-,af,am⟩:bb=N/\a (pre++[⟨q,V⟩]) K/\_:=by
    rcases hv with h|⟨rfl,_⟩
    .exact h
    cases aq
   refine gg (D _ _ ?_);try clear D K4
   refine f (aA (eH O O (bN (by omega) (by omega))) (aA aF (S ?_)));simp only[J];simp only[t,Exit.then];refine⟨gp.ins.length-(j+1),_,?_,O,?_,?_⟩
   .omega
   .simp only[J,zv]
   simp only[zQ,zR,zD,zE]
   exact⟨K,j+1,pre++[⟨q,V⟩],O,m,af,Below.trans (Q.trans p) am.1,am.blk (by simp) (ah.ext p),am.blk (by simp) (al.ext p),by rw[dh,T,abg y (by rw[uY g];exact Z),uY g,hq];rfl,by simp;omega,by omega,rfl⟩
  have p:=m.ext;have ad:a pre _:=s _ _ _ X8 o (tO m.ext) (λ_ h=>by cases h);refine f (aA aF ?_);simp only[J];refine aA (Ay O O (by omega)) (aA aF (eF O (eF O ?_)));simp only[J];refine eF O (eF O (aA (gD O) (S (F _ _ ?_))));try clear F K7
  refine Aj O (gg (D _ _ ?_));try clear D K4
  refine f ?_;simp only[J];refine aA (eH O O (bN (by omega) (by omega))) (aA aF (S ?_));simp only[J];simp only[t,Exit.then];refine⟨gp.ins.length-(j+1),_,?_,O,?_,?_⟩
  .omega
  .simp only[J,zv]
  simp only[zQ,zR,zD,zE]
  exact⟨b,j+1,pre,O,m,o,Q,ah,al,by rw[T,ai8 y (by rw[uY g];exact Z)],by omega,by omega,O⟩
 refine wp_exit ?_;try simp only[t,Exit.then,Y4]
 exact Ny rfl ⟨⟨_,rfl⟩,.inl ⟨pre,by rw[T,ap (by omega)],s _ _ _ X8 o (tO m.ext) (λ_ h=>by cases h)⟩⟩
def abh{ng nc cc cg k a c gb:Nat}{d w:an}{A B:Option Addr}{G:Gr}{gp:Gp}(g:GrAt d A B G)(u:G.cs.length=nc)(v:G.gs.length=ng)(j:nc<=1000000)(m:ng<=1000000)(t:IxG G)(q:G.gs[k]? = H gp)(r:gp.ins.length<=1000000000000)(s:eR d w)(n:fQ w a [.pointer (H ⟨gb,0,X8⟩)] 80)(o:fQ w c [U (k:Int)] 3)(p:fQ w gb [.slice A nc cc,.slice B ng cg] 31) :
 SeqStopsK Fence.wide 3 X9 110 #[.pointer (H ⟨a,0,X8⟩),.pointer (H ⟨c,0,X8⟩)] (λx:Fin ng=>#[iV (x.1:Nat)]) (KB d.heap.size [a,gb]) (λxs=>xs.map (λx=>(x.1:Int))=nL G.cs gp.ins) (λpre=>∀x∈pre,(x.1:Int)∈nL G.cs gp.ins) gp.ins.length w:=λl J e W b h _ i f=>
 afN l a c gb J e h i g u v j m t q r (eR.trans s b) (n.ext b) (o.ext b) (p.ext b) f
end
end Go.Proofs.YtbbokjbcdkgfgaaGreatDoor
namespace Go.Lith
open Go.RowKit
variable{α:Type}{c k j n cap q i:Nat}{u x:Y}{xs:List Y}{E:ba}{w0 w:an}{z:Int}{is:List It}
theorem ac0(a b c d e f g h i j x y z:Int):ah3 [a,b,c,d,e,f,g,h,i,j] x y z=(x*(a*x+(b*y+(c*z+d)))+y*(e*y+(f*z+g)))+(z*(h*z+i)+j):=by
 unfold ah3
 grind
/-! ### Candidates,each put where it belongs -/
def al0{l:List α}(h:0<l.length):∃q y,l=q++[y]:=by
 rcases List.eq_nil_or_concat l with rfl|⟨q,y,e⟩
 .cases h
 exact⟨q,y,by rw[e,List.concat_eq_append]⟩
/-! ### Cells of lists of equal things -/
def yU{enc:α->List am}(a:∀x,(enc x).length=c){L:List α}{x:α}(h:k<L.length):over (L.flatMap enc) (k*c) (enc x)=(L.set k x).flatMap enc:=by
 unfold over;rw[show k*c+(enc x).length=(k+1)*c by rw[a,Nat.succ_mul],<-tY a,<-tX a,fm,Z9 h,au,da,di]
def ael{q r:List α}{x y:α}:(q++x::r).set q.length y=q++y::r:=by
 rw[nf _ _ (bg _),ke];rfl
def aem{q r:List α}{x:α}:(q++x::r)[q.length]? = H x:=by
 rw[dj (bg _),ke];rfl
/-! ### Corners with their quadrics -/
def yV(Q:Y->List Int)(p:Y):List am:=cM p++qC (Q p)
def Ri{Q:Y->List Int}(h:∀x,(Q x).length=10)(p:Y):(yV Q p).length=23:=by
 unfold yV;rw[a_,sP,h];rfl
def al3{ps:List Y}{Q:Y->List Int}{k:Nat}{v:Y}{q:List Int}(f:∀x,(Q x).length=10)(u:q.length=10)(t:ps.Nodup)(d:ps[k]? = H v) :
 over (ps.flatMap (yV Q)) (k*23+3) (qC q)=ps.flatMap (yV λp=>if p=v then q else Q p):=by
 have o:k<ps.length:=(av.1 d).1;have y:(λp=>if p=v then q else Q p) v=q:=Z9 rfl;have m:ps.set k v=ps:=by
  refine fy λi=>?_;rw[jm];split
  .rename_i e;subst e;rw[d]
  rfl
 have r:∀i x,i≠k->ps[i]? = H x->x≠v:=λi x b c e=>by
  subst e;exact b ((List.getElem?_inj (av.1 c).1 t).1 (c.trans d.symm))
 have s:ps.flatMap (yV λp=>if p=v then q else Q p)=(ps.take k).flatMap (yV Q)++(cM v++qC q)++(ps.drop (k+1)).flatMap (yV Q):=by
  have g:ps=ps.take k++v::ps.drop (k+1):=by
   conv=>lhs;rw[<-m]
   rw[fm,Z9 o]
  have l:∀L:List Y,(∀x∈L,x≠v)->L.flatMap (yV λp=>if p=v then q else Q p)=L.flatMap (yV Q):=λL h=>by
   induction L with
   |nil=>rfl
   |cons a L ih=>
    rw[da,da,ih λx c=>h x (br _ c)];unfold yV;simp only[K0 (h a (bv ..))]
  conv=>lhs;rw[g]
  rw[au,da,l _ λx c=>?_,l _ λx c=>?_]
  . unfold yV
    simp only[Y4,di]
  . obtain⟨i,b⟩:=m_.1 c
    rw[dn] at b;exact r _ x (by omega) b
  obtain⟨i,b⟩:=m_.1 c
  have w:=(av.1 b).1;rw[bf] at w;rw[List.getElem?_take,Z9 (by omega)] at b;exact r i x (by omega) b
 have j:((ps.take k).flatMap (yV Q)).length=k*23:=by rw[dZ (Ri f),bf,de (by omega)]
 unfold over;rw[s];have n:ps.flatMap (yV Q)=(ps.take k).flatMap (yV Q)++(cM v++(qC (Q v)++(ps.drop (k+1)).flatMap (yV Q))):=by
  have g:ps=ps.take k++v::ps.drop (k+1):=by
   conv=>lhs;rw[<-m]
   rw[fm,Z9 o]
  conv=>lhs;rw[g]
  rw[au,da];unfold yV;simp only[di]
 have t1:(ps.flatMap (yV Q)).take (k*23+3)=(ps.take k).flatMap (yV Q)++cM v:=by
  rw[n,List.take_append,j,show k*23+3-k*23=3 by omega,ap (by omega)];rfl
 have t2:(ps.flatMap (yV Q)).drop (k*23+3+(qC q).length)=(ps.drop (k+1)).flatMap (yV Q):=by
  rw[n,sP,u,<-di,<-di,List.drop_append,fl (by simp only[a_];rw[j,sP,f];exact bg _),cv];have:((ps.take k).flatMap (yV Q)++cM v++qC (Q v)).length=k*23+3+20:=by
   simp only[a_];rw[j,sP,f];rfl
  rw[this,ke];rfl
 rw[t1,t2];simp only[di]
/-! ### Where the corners go -/
def toJ(u v:Y)(xs:List Y)(j:Nat):List Y:=(xs.take j).map (Au u v)++xs.drop j
def al4(u v:Y)(xs:List Y)(h:xs.length<=j):toJ u v xs j=xs.map (Au u v):=by
 unfold toJ;rw[ap h,fl h,fw]
def aeo(u v:Y)(xs:List Y)(j:Nat):(toJ u v xs j).length=xs.length:=by
 unfold toJ;rw[a_,dy,bf,ef];omega
def aja{v:Y}(h:xs[j]? = H x):(toJ u v xs j)[j]? = H x:=by
 have a:=(av.1 h).1;unfold toJ;rw[dj (by rw[dy,bf];omega),dy,bf,de (by omega),ke,dn,Nat.add_zero];exact h
def abi{v:Y}(h:xs[j]? = H x):toJ u v xs (j+1)=(toJ u v xs j).set j (Au u v x):=by
 have b:=(av.1 h).1;have a:((xs.take j).map (Au u v)).length=j:=by rw[dy,bf];omega
 unfold toJ;rw[cZ h,dh,nf _ _ (by rw[a];exact bg _),a,ke];have e:xs.drop j=x::xs.drop (j+1):=by
  rw[dw b,(av.1 h).2]
 rw[e];simp
def ajb{v:Y}(h:xs[j]? = H x)(b:x≠u):toJ u v xs (j+1)=toJ u v xs j:=by
 rw[abi h,amX b];refine fy λi=>?_;rw[jm];split
 . rename_i e
   subst e;have a:=(av.1 h).1;rw[Z9 (by rw[aeo];exact a),aja h]
 rfl
/-! ### One round: a candidate is made,or none may be -/
/-! ### The reference's value of a quadric -/
def ajc{q:List Int}(l:q.length=10):∃a b c d e f g h i j,q=[a,b,c,d,e,f,g,h,i,j]:=by
 rcases q with _|⟨a,_|⟨b,_|⟨c,_|⟨d,_|⟨e,_|⟨f,_|⟨g,_|⟨h,_|⟨i,_|⟨j,_|⟨k,q⟩⟩⟩⟩⟩⟩⟩⟩⟩⟩⟩<;>simp only[bh,dv] at l<;>try omega
 exact⟨a,b,c,d,e,f,g,h,i,j,O⟩
def pL(a:List It)(p:an->Prop):Prop:=∀u,(∀j∈a,j.P u)->p u
section
variable{w0 w:an}{is js ks:List It}{p q:an->Prop}
def pL.mono(h:pL js p)(k:∀j∈js,j∈ks):pL ks p:=λu b=>h u λj a=>b j (k j a)
def pL.imp(h:pL js p)(k:∀u,p u->q u):pL js q:=λu a=>k u (h u a)
def Mem.says(m:Mem w0 w is)(k:Nat)(a:is[k]? = H (fN js))(h:pL js p):p w:=h w (m.get k a).1
def pL.own{j:It}(a:j∈js)(h:∀u,j.P u->p u):pL js p:=λu b=>h u (b j a)
def Mem.bagJoin(m:Mem w0 w (fN js::fN ks::is)):Mem w0 w (fN (js++ks)::is):=by
 obtain⟨i,n⟩:=b_.1 m.nd;obtain⟨o,p⟩:=b_.1 n;have f:=m.all (fN js) (bv ..);have g:=m.all (fN ks) (br _ (bv ..));have key:∀(x:It)(b:Nat),(fN (js++ks)).own b->x.own b->(∀b,(fN js).own b->x.own b->False)->(∀b,(fN ks).own b->x.own b->False)->False:=λx b ⟨j,e,d⟩ hx k l=>
  (bz.1 e).elim (λh=>k b ⟨j,h,d⟩ hx) λh=>l b ⟨j,h,d⟩ hx
 refine⟨m.ext,λx hx=>?_,λx hx b d=>?_,b_.2 ⟨λx hx b d t=>key x b d t (i x (br _ hx)) (o x hx),p⟩⟩
 . rcases bl.1 hx with rfl|hx
   .exact⟨λj e=>(bz.1 e).elim (f.1 j) (g.1 j),List.pairwise_append.2 ⟨f.2,g.2,λa s b d c q r=>i _ (bv ..) c ⟨a,s,q⟩ ⟨b,d,r⟩⟩⟩
   exact m.all x (br _ (br _ hx))
 rcases bl.1 hx with rfl|hx
 . obtain⟨j,e,d⟩:=d
   exact (bz.1 e).elim (λh=>m.ge _ (bv ..) b ⟨j,h,d⟩) λh=>m.ge (fN ks) (br _ (bv ..)) b ⟨j,h,d⟩
 exact m.ge x (br _ (br _ hx)) b d
end
structure Sl(α:Type) where
 A:Option Addr
 cap:Nat
 l:List α
def Sl.v{α:Type}(s:Sl α):am:=.slice s.A s.l.length s.cap
def Sl.it{α:Type}(E:ba)(c:Nat)(enc:α->List am)(s:Sl α):It:=oI E c s.A s.l.length s.cap (s.l.flatMap enc)
variable{s:Sl Int}
structure Mn{α:Type}(enc:α->List am)(c:Nat)(s:Sl α)(u:an):Prop where
 r:kO enc c u s.A s.l.length s.l
 c:s.l.length<=s.cap
def Sl.at{enc:α->List am}{s:Sl α}{u:an}(d:∀x,(enc x).length=c)(b:0<c)(h:(s.it E c enc).P u):Mn enc c s u:=by
 have a:Ow { u with heap:=#[] } u [] E c s.A s.l.length s.cap (s.l.flatMap enc):=⟨h,λ_ _ h=>(by cases h),λ_ h=>(by cases h)⟩
 exact⟨a.lat d b,a.le⟩
def Lx{α:Type}(s:Sl α):List am:=[s.v]
def sv1(s:Sl α):(Lx s).length=1:=rfl
def Rj(L:List (Sl α)):∀u∈L.flatMap Lx,u.oneCell'=N:=λu a=>by
 obtain⟨e,_,h⟩:=ff.1 a;rw[cr.1 h];rfl
def Rk{S:List (Option Nat)}{g:Nat}{L:List (Sl α)}{s:Sl α}(h:Ow w0 w S E 1 (H ⟨g,0,X8⟩) n cap (L.flatMap Lx))(a:L[q]? = H s):w.cell? ⟨g,q,X8⟩=H (.slice s.A s.l.length s.cap):=by
 have:=(h.lat sv1 (by decide)).at a 0 _ rfl;rw[cA,cA,ae,bi] at this;exact this
def aep{S:List (Option Nat)}{g:Nat}{a:Addr}{L:List (Sl α)}{s:Sl α}(h:Ow w0 w S E 1 (H ⟨g,0,X8⟩) n cap (L.flatMap Lx))(c:L[q]? = H s)(b:s.A=H a):w.cell? ⟨g,q,X8⟩=H (.slice (H a) s.l.length s.cap):=by rw[<-b];exact Rk h c
def al5{L:List (Sl α)}{v:am}(x:Sl α)(h:q<L.length)(a:v=x.v):over (L.flatMap Lx) q [v]=(L.set q x).flatMap Lx:=by
 have:=yU (enc:=Lx) (c:=1) sv1 (x:=x) h;rwa [bi,Lx,<-a] at this
def svv{A:Option Addr}{l:List α}(h:n=l.length):Value.slice A n cap=Sl.v ⟨A,cap,l⟩:=by rw[h];rfl
def nA(k:Nat):List Int:=(fh k).map λi:Nat=>(i:Int)
def uN(k:Nat):nA (k+1)=nA k++[(k:Int)]:=by simp[nA,pk]
def Do   : z∈nA k↔0<=z/\z<k:=by
 simp only[nA,du,List.mem_range];constructor
 .rintro⟨i,h,rfl⟩;omega
 intro h;exact⟨z.toNat,by omega,by omega⟩
def xE(k:Nat):(nA k).length=k:=by simp[nA]
def Vi{L:List (Sl Int)}{a:Nat}(b:L[q]? = H s)(h:(L.flatMap Sl.l).Perm (nA a)):∀z∈s.l,0<=z/\z<a:=λz c=>Do.1 (h.mem_iff.1 (ff.2 ⟨s,ak b,c⟩))
def Fw{L:List (Sl α)}{s:Sl α}(a:L[q]? = H s):((L.take (q+1)).flatMap Sl.l).length=((L.take q).flatMap Sl.l).length+s.l.length:=by
 rw[cZ a,au,a_];simp
def Rl(L:List (Sl α))(q:Nat):((L.take q).flatMap Sl.l).length<=(L.flatMap Sl.l).length:=by
 have h:(L.take q++L.drop q).flatMap Sl.l=L.flatMap Sl.l:=by rw[fi]
 rw[au] at h;rw[<-h,a_];omega
def afO{L:List (Sl Int)}{a:Sl Int}{l:List Int}(c:L[q]? = H s)(b:a.l=s.l++[z])(h:(L.flatMap Sl.l).Perm l):((L.set q a).flatMap Sl.l).Perm (l++[z]):=by
 have:=Uk (out:=L.map Sl.l) (n:=q) (g:=s.l) z (by rw[dc,c];rfl);rw[<-b,<-List.map_set,<-mc,<-mc] at this;exact this.trans ((List.Perm.cons z h).trans (List.perm_append_singleton z l).symm)
def Vj{L:List (Sl Int)}{l:List Int}(q:Nat)(a:s.l=[z])(h:(L.flatMap Sl.l).Perm l):((L.take q++[s]++L.drop q).flatMap Sl.l).Perm (l++[z]):=by
 have:=aeZ (L.map Sl.l) q z;rw[<-a,<-List.map_take,<-List.map_drop,<-List.map_singleton (f:=Sl.l),<-dh,<-dh,<-mc,<-mc] at this;exact this.trans ((List.Perm.cons z h).trans (List.perm_append_singleton z l).symm)
def anm{α β:Type}{f:α->β}:∀{L:List α}{i:Nat},(L.map f).eraseIdx i=(L.eraseIdx i).map f
 | [],_=>rfl
 |_::_,0=>rfl
 |x::L,i+1=>Y1 (f x :: ·) (anm (L:=L) (i:=i))
def Mem.bagSet{f:α->It}{L:List α}{x:α}(a:i<L.length)(m:Mem w0 w (f x::fN ((L.map f).eraseIdx i)::is)):Mem w0 w (fN ((L.set i x).map f)::is):=by
 refine m.bagPush.bagPerm ?_;have h:∀(L:List α)(i:Nat),i<L.length->(x::L.eraseIdx i).Perm (L.set i x):=λL=>by
  induction L with
  |nil=>intro i h;simp at h
  |cons y L ih=>
   intro i h;cases i with
   |zero=>exact .refl _
   |succ i=>exact (List.Perm.swap ..).trans ((ih i (by simpa using h)).cons y)
 have:=(h L i a).map f;rw[df] at this;rw[anm];exact this
def Mem.bagIns{f:α->It}{L:List α}(i:Nat){x:α}(m:Mem w0 w (f x::fN (L.map f)::is)):Mem w0 w (fN ((L.take i++[x]++L.drop i).map f)::is):=by
 refine m.bagPush.bagPerm ?_;rw[di,List.singleton_append];have:(x::L).Perm (L.take i++x::L.drop i):=by
  refine List.Perm.trans ?_ List.perm_middle.symm;rw[fi]
 exact this.map f
def Mem.bagSnoc{f:α->It}{L:List α}{x:α}(m:Mem w0 w (f x::fN (L.map f)::is)):Mem w0 w (fN ((L++[x]).map f)::is):=by
 have:=Mem.bagIns L.length m;rwa [List.take_length,j_,fw] at this
def Mem.bagApp{f:α->It}{L a:List α}(m:Mem w0 w (fN (a.map f)::fN (L.map f)::is)):Mem w0 w (fN ((L++a).map f)::is):=by
 refine m.bagJoin.bagPerm ?_;rw[dh];exact List.perm_append_comm
def Kr(L:List (Sl T3)):Nat:=(L.map λs=>s.l.length).sum
structure yW(L:List (Sl T3))(N:Nat):Prop where
 it:∀s∈L,∀t∈s.l,IT t
 sum:Kr L=N
 len:L.length<=N
def Ck{L a:List (Sl T3)}:Kr (L++a)=Kr L+Kr a:=by simp[Kr]
def ajd{L:List (Sl T3)}{s:Sl T3}(h:s∈L):s.l.length<=Kr L:=by
 obtain⟨a,b,rfl⟩:=List.append_of_mem h;rw[Ck];simp[Kr];omega
def yW.nil:yW [] 0:=⟨λ_ h=>(by cases h),rfl,bg _⟩
def yW.app{L a:List (Sl T3)}{b:Nat}(h:yW L n)(k:yW a b):yW (L++a) (n+b):=
 ⟨λs c=>(bz.1 c).elim (h.it s) (k.it s),by rw[Ck,h.sum,k.sum],by rw[a_];exact Nat.add_le_add h.len k.len⟩
def yW.one{s:Sl T3}(h:∀t∈s.l,IT t)(b:s.l.length=n)(a:1<=n):yW [s] n:=⟨λx c=>by rw[cr.1 c];exact h,by simp[Kr,b],a⟩
def Vk{s:Sl T3}{u:an}(h:(s.it E 9 aP).P u)(a:∀t∈s.l,IT t):cI u s.A s.l.length s.l/\s.l.length<=s.cap:=by
 have:=Sl.at Pb (by decide) h;exact⟨⟨O,a,this.r.row⟩,this.c⟩
def Rm{F:ba}{L:List (Sl T3)}{A:Option Addr}(h:Ow w0 w [] F 1 A n c (L.flatMap Lx))(k:∀j∈L.map (Sl.it E 9 aP),j.P w)(m:∀s∈L,∀t∈s.l,IT t):Dj w A n (L.map Sl.l):=by
 have b:=h.lat sv1 (by decide);refine⟨by rw[dy];exact b.len,λi l p=>?_⟩;obtain⟨s,f,rfl⟩:=jl.1 ((dc ..).symm.trans p);obtain⟨a,e,o⟩:=b.row i s f;have d:=ak f;have g:=Vk (k _ (fg d)) (m s d);refine⟨a,⟨s.A,s.l.length,s.cap⟩,e,?_,g.1,g.2⟩;have:=o 0 _ rfl;rwa [bi,gQ,Nat.add_zero] at this
structure oH where
 s:Sl T3
 made:Int
 used:Int
def oH.cl(x:oH):Cl:=⟨x.s.l,x.made,x.used⟩
def Fx(x:oH):List am:=[x.s.v,iV x.made,iV x.used]
structure vN where
 lv:Int
 i:Sl Int
 o:Sl Int
 m:Sl (Y×Y)
 er:Int
 tot:Int
 dl:Int
def vN.gp(y:vN):Gp:=⟨y.lv,y.i.l,y.o.l,y.m.l,y.er,y.tot,y.dl⟩
def Em(y:vN):List am:=[iV y.lv,y.i.v,y.o.v,y.m.v,iV y.er,iV y.tot,.bool (cQ y.dl),.string (dQ y.dl)]
structure Rnc where
 i:Sl T3
 want:Int
 o:Sl T3
 m:Sl (Y×Y)
def rnC(z:Rnc):List am:=[z.i.v,iV z.want,z.o.v,z.m.v]
def tF(xs:List oH)(ys:List vN):Gr:=⟨xs.map oH.cl,ys.map vN.gp⟩
abbrev En(s:Sl T3)(u:an):Prop:=cI u s.A s.l.length s.l/\s.l.length<=s.cap
structure al6(y:vN)(u:an):Prop where
 i:Mn nB 1 y.i u
 o:Mn nB 1 y.o u
 m:Mn dE 6 y.m u
structure apN(z:Rnc)(u:an):Prop where
 i:En z.i u
 o:En z.o u
 m:Mn dE 6 z.m u
def ClB(n:Nat)(x:oH):Prop:=(-1<=x.made/\x.made<n)/\(-1<=x.used/\x.used<=n)/\x.s.l.length<=2000
def GpB(y:vN):Prop:=gF y.tot/\(y.i.l.length<=1000000/\y.o.l.length<=1000000/\y.m.l.length<=1000000)/\Bd 300 y.dl
def RnB(z:Rnc):Prop:=z.i.l.length<=2000/\z.o.l.length<=2000/\z.m.l.length<=6000/\∀v∈z.m.l,I3 v.1/\I3 v.2
structure Mo(js:List It)(xs:List oH)(ys:List vN):Prop where
 c:∀x∈xs,pL js (En x.s)
 g:∀y∈ys,pL js (al6 y)
 cb:∀x∈xs,ClB ys.length x
 gb:∀y∈ys,GpB y
structure MSt(js:List It)(zs:List Rnc):Prop where
 r:∀z∈zs,pL js (apN z)
 rb:∀z∈zs,RnB z
section
variable{js ks:List It}{xs:List oH}{ys:List vN}{zs:List Rnc}
def Mo.mono(h:Mo js xs ys)(k:∀j∈js,j∈ks):Mo ks xs ys:=⟨λx a=>(h.c x a).mono k,λy b=>(h.g y b).mono k,h.cb,h.gb⟩
def MSt.mono(h:MSt js zs)(k:∀j∈js,j∈ks):MSt ks zs:=⟨λx a=>(h.r x a).mono k,h.rb⟩
def MSt.nil:MSt js []:=⟨λ_ h=>(by cases h),λ_ h=>(by cases h)⟩
def Mo.nil:Mo js [] []:=⟨λ_ h=>(by cases h),λ_ h=>(by cases h),λ_ h=>(by cases h),λ_ h=>(by cases h)⟩
def oV{p:α->Prop}{l:List α}{x:α}(h:∀y∈l,p y)(a:p x):∀y∈l++[x],p y:=λy b=>(bz.1 b).elim (h y) λe=>by rw[cr.1 e];exact a
def Nl{p:α->Prop}{l:List α}{x:α}(h:∀y∈l,p y)(a:p x):∀y∈l.set i x,p y:=λy b=>(iv b).elim (h y) λe=>by rw[e];exact a
def MSt.snoc{z:Rnc}(h:MSt js zs)(a:pL js (apN z))(b:RnB z):MSt js (zs++[z]):=⟨oV h.r a,oV h.rb b⟩
def Mo.snoc{x:oH}(h:Mo js xs ys)(a:pL js (En x.s))(b:ClB ys.length x):Mo js (xs++[x]) ys:=⟨oV h.c a,h.g,oV h.cb b,h.gb⟩
def Vl(x:oH):(Fx x).length=3:=rfl
def Sj(y:vN):(Em y).length=8:=rfl
def rn4(z:Rnc):(rnC z).length=4:=rfl
def in1(z:Int):(nB z).length=1:=rfl
def asp(xs:List oH):∀u∈xs.flatMap Fx,u.oneCell'=N:=λu a=>by
 obtain⟨e,_,h⟩:=ff.1 a;simp only[Fx,bl,fk,Y3] at h;rcases h with rfl|rfl|rfl<;>rfl
def Zj(xs:List Int):∀u∈xs.flatMap nB,u.oneCell'=N:=λu a=>by
 obtain⟨e,_,h⟩:=ff.1 a;simp only[nB,bl,fk,Y3] at h;rcases h with rfl;rfl
def Mo.at{C D:ba}{A B:Option Addr}{m d:Nat}(h:Mo js xs ys)(t:∀j∈js,j.P w)(z:Ow w0 w [] C 3 A n c (xs.flatMap Fx))(E:Ow w0 w [] D 8 B m d (ys.flatMap Em)):GrAt w A B (tF xs ys):=by
 refine⟨λk x b=>?_,λk g b=>?_⟩
 . obtain⟨x,u,rfl⟩:=jl.1 ((dc ..).symm.trans b)
   obtain⟨a,e,f⟩:=(z.lat Vl (by decide)).row k x u;have:=h.c x (ak u) w t;exact⟨a,e,x.s.A,x.s.cap,f,this.1,this.2⟩
 obtain⟨y,v,rfl⟩:=jl.1 ((dc ..).symm.trans b)
 obtain⟨a,e,f⟩:=(E.lat Sj (by decide)).row k y v;obtain⟨l,p,q⟩:=h.g y (ak v) w t;exact⟨a,e,y.i.A,y.i.cap,y.o.A,y.o.cap,y.m.A,y.m.cap,f,l.r,p.r,q.r,l.c,p.c,q.c⟩
end
/-! ### The numbers of triangles -/
def Aq(xs:List oH)(z:Int):Nat:=(xs[z.toNat]?.map λx=>x.s.l.length).getD 0
def uzG(xs:List oH)(z:Int):Nat:=(xs[z.toNat]?.map λx=>if x.used<0 then x.s.l.length else 0).getD 0
def jV(f:Int->Nat)(l:List Int):Nat:=(l.map f).sum
def inG(xs:List oH)(l:List Int):Prop:=∀z∈l,0<=z/\z<xs.length
section
variable{f g:Int->Nat}{l l':List Int}
def Cm:jV f []=0:=rfl
def pR{z:Int}:jV f (z::l)=f z+jV f l:=by simp[jV]
def kL:jV f (l++l')=jV f l+jV f l':=by simp[jV]
def Nm(h:∀z∈l,f z<=g z):jV f l<=jV g l:=by
 induction l with
 |nil=>exact bg _
 |cons z l ih=>
  rw[pR,pR];have:=h z (bv ..);have:=ih λz a=>h z (br _ a);omega
def al7(h:∀z∈l,f z=g z):jV f l=jV g l:=by
 unfold jV;rw[List.map_congr_left h]
def afP(h:l.Perm l'):jV f l=jV f l':=(h.map f).sum_nat
end
structure XE(xs xs':List oH):Prop where
 le:xs.length<=xs'.length
 at_:∀(i:Nat) x,xs[i]? = H x->∃x',xs'[i]? = H x'/\x'.s=x.s/\x'.made=x.made/\(0<=x.used->0<=x'.used)
section
variable{xs xs' xs'':List oH}{l:List Int}
def XE.refl(xs:List oH):XE xs xs:=⟨bg _,λi x h=>⟨x,h,rfl,rfl,id⟩⟩
def XE.trans(h:XE xs xs')(k:XE xs' xs''):XE xs xs'':=⟨ay h.le k.le,λi x j=>by
 obtain⟨l,f,a,b,a3⟩:=h.at_ i x j;obtain⟨m,g,c,d,e⟩:=k.at_ i l f;exact⟨m,g,c.trans a,d.trans b,λh=>e (a3 h)⟩⟩
def XE.app(ps:List oH):XE xs (xs++ps):=⟨by simp,λi x h=>⟨x,by rw[List.getElem?_append_left (av.1 h).1];exact h,rfl,rfl,id⟩⟩
def XE.mark{x:oH}(a:xs[i]? = H x):XE xs (xs.set i { x with used:=(n:Int) }):=⟨by simp,λj y b=>by
 rw[jm];have c:=(av.1 a).1;by_cases h:i=j
 . subst h
   cases a.symm.trans b;rw[Z9 rfl,Z9 c];exact⟨_,O,O,O,λ_=>Int.natCast_nonneg _⟩
 rw[K0 h]
 exact⟨y,b,O,O,id⟩⟩
def XE.sz(h:XE xs xs'){z:Int}(c:0<=z/\z<xs.length):Aq xs' z=Aq xs z:=by
 unfold Aq;obtain⟨x',a,b,_⟩:=h.at_ z.toNat xs[z.toNat] (ah (by omega));rw[a,ah (show z.toNat<xs.length by omega)];simp[b]
def XE.uz(h:XE xs xs'){z:Int}(d:0<=z/\z<xs.length):uzG xs' z<=uzG xs z:=by
 unfold uzG;obtain⟨x',a,b,_,c⟩:=h.at_ z.toNat xs[z.toNat] (ah (by omega));rw[a,ah (show z.toNat<xs.length by omega)];simp only[fu,dt,b];split<;>split<;>omega
def XE.inG(h:XE xs xs')(k:inG xs l):inG xs' l:=λz a=>⟨(k z a).1,by have:=(k z a).2;have:=h.le;omega⟩
def XE.sumsz(h:XE xs xs')(k:Lith.inG xs l):jV (Aq xs') l=jV (Aq xs) l:=al7 λz a=>h.sz (k z a)
def XE.sumuz(h:XE xs xs')(k:Lith.inG xs l):jV (uzG xs') l<=jV (uzG xs) l:=Nm λz a=>h.uz (k z a)
def aje{z:Int}:uzG xs z<=Aq xs z:=by
 unfold uzG Aq;cases xs[z.toNat]? with
 |none=>exact bg _
 |some x=>simp only[fu,dt];split<;>omega
def usG(xs:List oH)(l:List Int):Prop:=∀z∈l,∀x,xs[z.toNat]? = H x->0<=x.used
def usG.sum(h:usG xs l):jV (uzG xs) l=0:=by
 induction l with
 |nil=>rfl
 |cons z l ih=>
  rw[pR,ih λz b=>h z (br _ b)];unfold uzG;cases a:xs[z.toNat]? with
  |none=>rfl
  |some x=>
   have:=h z (bv ..) x a;simp only[fu,dt];rw[K0 (by omega)]
def usG.xe(h:usG xs l)(e:XE xs xs')(k:Lith.inG xs l):usG xs' l:=λz a x d=>by
 have f:=k z a;obtain⟨x',b,_,_,c⟩:=e.at_ z.toNat xs[z.toNat] (ah (by omega));cases b.symm.trans d;exact c (h z a _ (ah (by omega)))
def unG(xs:List oH)(z:Int):Bool:=(xs[z.toNat]?.map λx=>decide (x.used<0)).getD N
def ajg{cur:List Int}:jV (Aq xs) (cur.filter (unG xs))<=jV (uzG xs) cur:=by
 induction cur with
 |nil=>exact bg _
 |cons z l ih=>
  rw[pR,ii];split
  . rename_i a
    rw[pR];have:Aq xs z=uzG xs z:=by
     unfold Aq uzG;unfold unG at a;cases b:xs[z.toNat]? with
     |none=>rfl
     |some x=>
      rw[b] at a;simp only[fu,dt,Y2] at a ⊢;rw[Z9 a]
    omega
  omega
def Ly{p:α->Bool}{l:List α}{x:α}(h:l[k]? = H x):(l.take (k+1)).filter p=(l.take k).filter p++if p x then [x] else []:=by
 rw[cZ h,je]
 congr 1
 simp only[ii,my]
end
end Go.Lith
namespace Go.Proofs.YtbbokjbcdkgfgaaGreatDoor
open Go.Proofs.Tryz
open Go.RowKit Go.Lith
set_option maxRecDepth 100000
section
attribute [local irreducible] be c_ fS cE cP Code.wp
attribute [local congr] fE fF eN fD
variable{q u a:Y}{n c x y bits most:Int}{t:T3}{ps:List Y}{vi cap bb:Nat}{A:Option Addr}{sh:Bool}{ts:List T3}{E:ba}
instance:Iw 1:=⟨by unfold gF;decide⟩
instance:Iw 3:=⟨by unfold gF;decide⟩
instance:Iw 4:=⟨by unfold gF;decide⟩
instance:Iw 6:=⟨by unfold gF;decide⟩
def ajh{p:Y}:dO X9 85 [pt p] (U p.x):=by
 intro w;refine⟨bP func85 (by kernel_rfl),?_⟩;have m:=Mem.refl w
 go_enter func85,ntmps85
 apply gJ 12 [1] m;simp only[↓Z,alw,dN,aa];intro a u m;exact aS O O ⟨_,O,m.ext,O⟩
def aji{p:Y}:dO X9 86 [pt p] (U p.y):=by
 intro w;refine⟨bP func86 (by kernel_rfl),?_⟩;have m:=Mem.refl w
 go_enter func86,ntmps86
 apply gJ 12 [1] m;simp only[↓Z,alx,dN,aa];intro a u m;exact aS O O ⟨_,O,m.ext,O⟩
def ajj{p:Y}:dO X9 87 [pt p] (U p.z):=by
 intro w;refine⟨bP func87 (by kernel_rfl),?_⟩;have m:=Mem.refl w
 go_enter func87,ntmps87
 apply gJ 12 [1] m;simp only[↓Z,aly,dN,aa];intro a u m;exact aS O O ⟨_,O,m.ext,O⟩
def Vm  : dO X9 38 [] (.agg #[.func (.func 85) #[] #[],.func (.func 86) #[] #[],.func (.func 87) #[] #[]]):=by
 intro w;refine⟨bP func38 (by kernel_rfl),?_⟩;have m:=Mem.refl w
 go_enter func38,ntmps38
 apply gJ 10 [0] m;simp only[↓Z,aq8,aq9,aq7,aa];intro a u m;exact aS O ⟨_,O,((m.b 0 O).full an6 aho)⟩ ⟨_,O,m.ext,O⟩
def yX{p:Y}[I3 p][I3 q]:dO X9 124 [pt p,pt q] (wv (q.sub p)):=by
 intro w;refine⟨bP func124 (by kernel_rfl),?_⟩;have m:=Mem.refl w
 go_enter func124,ntmps124
 apply gJ 13 [0] m;simp only[↓Z,aa0];intro a c d e u m;refine iE m O O Vm 17 [4,1,0] ?_;simp only[↓Z];apply R;omega;intro u m;refine aA (Hh O O) ?_;apply aL 3 [0] m;simp only[↓Z];refine cC m 11 aB (by kernel_rfl) ?_;simp only[zy];refine cW 3 [3] ?_;simp only[↓Z,aW];refine X O O ajh ?_;simp only[J];refine X O O (iM Iw.h) (aK aF ?_);simp only[J];refine ql O (λu m=>((m.b 3 O).full aM aD)) ?_;simp only[J];refine X O O ajh ?_;simp only[J];refine X O O (iM Iw.h) ?_;simp only[J];refine X O O (sD K.up K.up) (cW 1 [] ?_);simp only[↓Z,jN,ac,C,aa];apply R;omega;refine bD ?_;intro u m;refine aX m 0 O O O aJ (eU O) O ?_;intro u m;simp only[zy,zx,over,zF,zG,aa] at m;refine S ?_;apply aQ 18 [1,0] m;simp only[↓Z,M];apply R;omega;refine aA (Hi O O) ?_;apply aL 3 [0] m;simp only[↓Z];refine cC m 11 aB (by kernel_rfl) ?_;simp only[zy];refine cW 3 [3] ?_;simp only[↓Z,aW];refine X O O aji ?_;simp only[J];refine X O O (iM Iw.h) (aK aF ?_);simp only[J];refine ql O (λu m=>((m.b 3 O).full aM aD)) ?_;simp only[J];refine X O O aji ?_;simp only[J];refine X O O (iM Iw.h) ?_;simp only[J];refine X O O (sD K.up K.up) (cW 1 [] ?_);simp only[↓Z,jN,ac,C,aa];apply R;omega;refine bD ?_;intro u m;refine aX m 0 O O O aJ (eU O) O ?_;intro u m;simp only[zy,zx,over,zF,zG,aa] at m;refine S ?_;apply aQ 18 [1,0] m;simp only[↓Z,M];apply R;omega;refine aA (Hj O O) ?_;apply aL 3 [0] m;simp only[↓Z];refine cC m 11 aB (by kernel_rfl) ?_;simp only[zy];refine cW 3 [3] ?_;simp only[↓Z,aW];refine X O O ajj ?_;simp only[J];refine X O O (iM Iw.h) (aK aF ?_);simp only[J];refine ql O (λu m=>((m.b 3 O).full aM aD)) ?_;simp only[J];refine X O O ajj ?_;simp only[J];refine X O O (iM Iw.h) ?_;simp only[J];refine X O O (sD K.up K.up) (cW 1 [] ?_);simp only[↓Z,jN,ac,C,aa];apply R;omega;refine bD ?_;intro u m;refine aX m 0 O O O aJ (eU O) O ?_;intro u m;simp only[zy,zx,over,zF,zG,aa] at m;refine S ?_;apply uR 19 [2,1,1] m;simp only[↓Z,aaZ,M,aa];apply R;omega;intro u m;exact aS O ⟨_,O,((m.b 1 O).full qL kF)⟩ ⟨_,O,m.ext,O⟩
def wG{v:Y}(f:Bv 400000 u)(g:Bv 400000 v):dO X9 34 [wv u,wv v] (W (u.dot v)):=by
 intro w;refine⟨bP func34 (by kernel_rfl),?_⟩;have m:=Mem.refl w
 go_enter func34,ntmps34
 apply gJ 32 [4,1,0] m;simp only[↓Z,eX];intro a c d e;apply R;omega;intro u m;refine cC m 9 aB (by kernel_rfl) ?_;simp only[zy];refine cW 7 [1,4,3] ?_;simp only[↓Z,cB,jN,ac,C,aa];apply R;omega;refine X O O (jA K.up K.up) ?_;simp only[J];refine X O O (aiY K.up) (bD ?_);intro u m;simp only[J];refine aX m 0 O O O aJ (eU O) O ?_;intro u m;simp only[zy,zx,over,zF,zG,aa] at m;refine S ?_;apply aQ 20 [1,0] m;simp only[↓Z,M];apply R;omega;refine cC m 9 aB (by kernel_rfl) ?_;simp only[zy];refine cW 7 [1,4,3] ?_;simp only[↓Z,cB,jN,ac,C,aa];apply R;omega;refine X O O (jA K.up K.up) ?_;simp only[J];refine X O O (nJ K.up K.up) (bD ?_);intro u m;simp only[J];refine aX m 0 O O O aJ (eU O) O ?_;intro u m;simp only[zy,zx,over,zF,zG,aa] at m;refine S ?_;apply aQ 20 [1,0] m;simp only[↓Z,M];apply R;omega;refine cC m 9 aB (by kernel_rfl) ?_;simp only[zy];refine cW 7 [1,4,3] ?_;simp only[↓Z,cB,jN,ac,C,aa];apply R;omega;refine X O O (jA K.up K.up) ?_;simp only[J];refine X O O (nJ K.up K.up) (bD ?_);intro u m;simp only[J];refine aX m 0 O O O aJ (eU O) O ?_;intro u m;simp only[zy,zx,over,zF,zG,aa] at m;refine S ?_;apply uR 19 [2,1,1] m;simp only[↓Z,cB,M,aa];apply R;omega;intro u m;refine aS O ⟨_,O,((m.b 1 O).full bE aJ)⟩ ?_;try simp only[zD,zE]
 exact⟨_,O,m.ext,by rw[<-Y.dot0];rfl⟩
def Rn{v:Y}(f:Bv 400000 u)(g:Bv 400000 v):dO X9 125 [wv u,wv v] (wv (u.cross v)):=by
 intro w;refine⟨bP func125 (by kernel_rfl),?_⟩;have m:=Mem.refl w
 go_enter func125,ntmps125
 apply gJ 36 [4,1,0] m;simp only[↓Z,aa0,M];intro a c d e;apply R;omega;intro u m;refine aA (cS (m:=1) (n:=3) (r:=1) O O (by decide) (by decide)) ?_;apply aL 2 [0] m;simp only[↓Z,M];apply R;omega;refine aA (cS (m:=2) (n:=3) (r:=2) O O (by decide) (by decide)) ?_;apply aL 3 [0] m;simp only[↓Z];refine cC m 17 aB (by kernel_rfl) ?_;simp only[zy];refine cW 7 [4,3] ?_;simp only[↓Z,jN,cB,ac,C,aa];apply R;omega;refine X O O (jA K.up K.up) (cW 6 [4,3] ?_);simp only[↓Z,jN,cB,ac,C,aa];apply R;omega;refine X O O (jA K.up K.up) ?_;simp only[J];refine X O O (sD K.up K.up) (cW 1 [] ?_);simp only[↓Z,jN,ac,C,aa];apply R;omega;refine bD ?_;intro u m;refine aX m 0 O O O aJ (eU O) O ?_;intro u m;simp only[zy,zx,over,zF,zG,aa] at m;refine S ?_;apply aQ 24 [1,0] m;simp only[↓Z,M];apply R;omega;refine aA (cS (m:=2) (n:=3) (r:=2) O O (by decide) (by decide)) ?_;apply aL 2 [0] m;simp only[↓Z,M];apply R;omega;refine aA (cS (m:=3) (n:=3) (r:=0) O O (by decide) (by decide)) ?_;apply aL 3 [0] m;simp only[↓Z];refine cC m 17 aB (by kernel_rfl) ?_;simp only[zy];refine cW 7 [4,3] ?_;simp only[↓Z,jN,cB,ac,C,aa];apply R;omega;refine X O O (jA K.up K.up) (cW 6 [4,3] ?_);simp only[↓Z,jN,cB,ac,C,aa];apply R;omega;refine X O O (jA K.up K.up) ?_;simp only[J];refine X O O (sD K.up K.up) (cW 1 [] ?_);simp only[↓Z,jN,ac,C,aa];apply R;omega;refine bD ?_;intro u m;refine aX m 0 O O O aJ (eU O) O ?_;intro u m;simp only[zy,zx,over,zF,zG,aa] at m;refine S ?_;apply aQ 24 [1,0] m;simp only[↓Z,M];apply R;omega;refine aA (cS (m:=3) (n:=3) (r:=0) O O (by decide) (by decide)) ?_;apply aL 2 [0] m;simp only[↓Z,M];apply R;omega;refine aA (cS (m:=4) (n:=3) (r:=1) O O (by decide) (by decide)) ?_;apply aL 3 [0] m;simp only[↓Z];refine cC m 17 aB (by kernel_rfl) ?_;simp only[zy];refine cW 7 [4,3] ?_;simp only[↓Z,jN,cB,ac,C,aa];apply R;omega;refine X O O (jA K.up K.up) (cW 6 [4,3] ?_);simp only[↓Z,jN,cB,ac,C,aa];apply R;omega;refine X O O (jA K.up K.up) ?_;simp only[J];refine X O O (sD K.up K.up) (cW 1 [] ?_);simp only[↓Z,jN,ac,C,aa];apply R;omega;refine bD ?_;intro u m;refine aX m 0 O O O aJ (eU O) O ?_;intro u m;simp only[zy,zx,over,zF,zG,aa] at m;refine S ?_;apply uR 19 [2,1,1] m;simp only[↓Z,aaZ,M,aa];apply R;omega;intro u m;exact aS O ⟨_,O,((m.b 1 O).full qL kF)⟩ ⟨_,O,m.ext,O⟩
def yY{d:Int}(e:Bd 400000 n)(c:Bd 400000 d)(a:d≠0):dO X9 41 [W n,W d] (Q (kg n d)):=by
 intro w;refine⟨bP func41 (by kernel_rfl),?_⟩;have m:=Mem.refl w
 go_enter func41,ntmps41
 apply gJ 10 [3,2,0] m;simp only[↓Z,lW,cB];intro f g h u m;refine iE m O O (apD e c a) 13 [0,1,1] ?_;simp only[↓Z,lW,kA,aa];intro i u m;exact aS O ⟨_,O,((m.b 1 O).full iG dC)⟩ ⟨_,O,m.ext,O⟩
def Zk(a:Bd 400000 n):dO X9 40 [W n] (Q (kg n 1)):=by
 intro w;refine⟨bP func40 (by kernel_rfl),?_⟩;have m:=Mem.refl w
 go_enter func40,ntmps40
 apply gJ 6 [0] m;simp only[↓Z,lW];intro c e u m;refine cC m 3 aB (by kernel_rfl) ?_;simp only[zy];refine ql O (λu m=>((m.b 1 O).full bE aJ)) ?_;simp only[J];refine X O O (iM Iw.h) ?_;simp only[J];refine X O O (yY (d:=1) a K.up (by decide)) (bD ?_);intro u m;simp only[J];refine aX m 0 O O O dC (eU O) O ?_;intro u m;simp only[zy,zx,over,zF,zG,aa] at m;refine S ?_;apply aQ 1 [] m;simp only[↓Z];exact aS O ⟨_,O,((m.b 0 O).full iG dC)⟩ ⟨_,O,m.ext,O⟩
def sF:dO X9 40 [.agg #[.bool X7,.string ⟨#[]⟩]] (Q 0):=by
 rw[<-agN];exact Zk (Cv _)
def Ks{x p:Y}[I3 x][I3 p][I3 q]:dO X9 128 [pt x,pt p,pt q] (Q (Ja x p q)):=by
 intro w;refine⟨bP func128 (by kernel_rfl),?_⟩;have m:=Mem.refl w
 go_enter func128,ntmps128
 apply gJ 8 [0] m;simp only[↓Z,lW];intro g h i j u m;refine dR 8 [0,1,2,3,4,5] [⟨6,7,87,[.bool X7,.string ⟨#[]⟩,.bool X7,.string ⟨#[]⟩,.bool X7,.string ⟨#[]⟩]⟩,⟨7,8,87,[.bool X7,.string ⟨#[]⟩,.bool X7,.string ⟨#[]⟩,.bool X7,.string ⟨#[]⟩]⟩] aB (by kernel_rfl) (al2 ⟨_,_,_,O,by kernel_rfl,_,adF,O⟩ ⟨_,_,_,O,by kernel_rfl,_,adF,O⟩) (ol:=?_) ?f ?_
 case f=>simp only[zw,zQ,zR];try rfl
 intro u c;replace m:=m.ext' c;refine dA O (λu e=>(((m.ext' e).b 2 O).full aM aD)) ?_;simp only[J];refine dA O (λu e=>(((m.ext' e).b 1 O).full aM aD)) ?_;simp only[J];refine cY O O yX ?_;simp only[J];refine dA O (λu e=>(((m.ext' e).b 2 O).full aM aD)) ?_;simp only[J];refine dA O (λu e=>(((m.ext' e).b 3 O).full aM aD)) ?_;simp only[J];refine cY O O yX (rN ?_);simp only[J];refine mf2 m (by decide) ?_;intro k l u m;simp only[zJ,zK,zF,zG];refine aX m 1 O O O kF (eU O) O ?_;intro u m;simp only[zy,zx,over,zF,zG,aa] at m;refine aX m 0 O O O kF (eU O) O ?_;intro u m;simp only[zy,zx,over,zF,zG,aa] at m;refine S ?_;apply aQ 1 [0] m;simp only[↓Z];refine dR 8 [0,1,2,3,4,5] [⟨6,9,37,[.bool X7,.string ⟨#[]⟩]⟩,⟨7,10,37,[.bool X7,.string ⟨#[]⟩]⟩] aB (by kernel_rfl) (al2 ⟨_,_,_,O,by kernel_rfl,_,iB,O⟩ ⟨_,_,_,O,by kernel_rfl,_,iB,O⟩) (ol:=?_) ?f ?_
 case f=>simp only[zw,zQ,zR];try rfl
 intro u c;replace m:=m.ext' c;refine dA O (λu e=>(((m.ext' e).b 1 O).full qL kF)) ?_;simp only[J];refine dA O (λu e=>(((m.ext' e).b 0 O).full qL kF)) ?_;simp only[J];refine cY O O (wG Bv.of Bv.of) ?_;simp only[J];refine dA O (λu e=>(((m.ext' e).b 1 O).full qL kF)) ?_;simp only[J];refine dA O (λu e=>(((m.ext' e).b 1 O).full qL kF)) ?_;simp only[J];refine cY O O (wG Bv.of Bv.of) (rN ?_);simp only[J];refine mf2 m (by decide) ?_;intro n o u m;simp only[zJ,zK,zF,zG];refine aX m 1 O O O aJ (eU O) O ?_;intro u m;simp only[zy,zx,over,zF,zG,aa] at m;refine aX m 0 O O O aJ (eU O) O ?_;intro u m;simp only[zy,zx,over,zF,zG,aa] at m;refine S ?_;apply aQ 5 [2,0] m;simp only[↓Z,cB];refine iE m O O (uL K.up) 3 [0,0] ?_;simp only[↓Z];intro u m;refine aZ O ?_ ?_<;>intro a
 .apply F 4 [3,3,0] m;simp only[↓Z,aaZ];refine eV m O O (wG Bv.of Bv.of) ?_;intro u m;simp only[J];refine iE m O O (Zk K.up) 3 [4] ?_;simp only[↓Z,kA,aa];intro u m;refine aS O ⟨_,O,((m.b 4 O).full iG dC)⟩ ?_;try simp only[zD,zE]
  exact⟨_,O,m.ext,by rw[Ja,Z9 (wP.1 a)];rfl⟩
 apply F 4 [2,1,0] m;simp only[↓Z,cB];refine iE m O O (ane K.up K.up) 3 [0,0] ?_;simp only[↓Z];intro u m;refine aZ O ?_ ?_<;>intro d
 .apply F 4 [8,6,0] m;simp only[↓Z,aW];refine eV m O O alT ?_;intro u m;simp only[J];refine iE m O O (Zk K.up) 3 [4] ?_;simp only[↓Z,kA,aa];intro u m;refine aS O ⟨_,O,((m.b 4 O).full iG dC)⟩ ?_;try simp only[zD,zE]
  exact⟨_,O,m.ext,by rw[Ja,K0 (mt wP.2 a),Z9 (by have:=rS.1 d;omega)];rfl⟩
 apply F 3 [0] m;simp only[↓Z];refine cC m 11 aB (by kernel_rfl) ?_;simp only[zy];refine ql O (λu m=>((m.b 2 O).full qL kF)) ?_;simp only[J];refine ql O (λu m=>((m.b 2 O).full qL kF)) ?_;simp only[J];refine X O O (wG Bv.of Bv.of) ?_;simp only[J];refine ql O (λu m=>((m.b 0 O).full bE aJ)) ?_;simp only[J];refine X O O (jA K.up K.up) ?_;simp only[J];refine ql O (λu m=>((m.b 1 O).full bE aJ)) ?_;simp only[J];refine ql O (λu m=>((m.b 1 O).full bE aJ)) ?_;simp only[J];refine X O O (jA K.up K.up) ?_;simp only[J];refine X O O (sD K.up K.up) ?_;simp only[J];refine ql O (λu m=>((m.b 0 O).full bE aJ)) ?_;simp only[J];refine X O O (yY K.up K.up (by have r:=mt wP.2 a;have s:=mt rS.2 d;omega)) (bD ?_);intro u m;simp only[J];refine aX m 4 O O O dC (eU O) O ?_;intro u m;simp only[zy,zx,over,zF,zG,aa] at m;refine S ?_;apply aQ 1 [] m;simp only[↓Z];refine aS O ⟨_,O,((m.b 4 O).full iG dC)⟩ ?_;try simp only[zD,zE]
 exact⟨_,O,m.ext,by rw[Ja,K0 (mt wP.2 a),K0 (by have:=mt rS.2 d;omega)];rfl⟩
def sG{p:Y}[I3 p][I3 q]:dO X9 201 [pt p,pt q] (wv (q.sub p)):=by
 intro w;refine⟨bP func201 (by kernel_rfl),?_⟩;have m:=Mem.refl w
 go_enter func201,ntmps201
 apply gJ 7 [0] m;simp only[↓Z,Vg];intro f g i u m;refine dR 8 [0,1,2,3,4,5,6] [⟨7,5,37,[.bool X7,.string ⟨#[]⟩]⟩] aB (by kernel_rfl) (al1 ⟨_,_,_,O,by kernel_rfl,_,iB,O⟩) (ol:=?_) ?d ?_
 case d=>simp only[zw,zQ,zR];try rfl
 intro u a;replace m:=m.ext' a;refine gA (aO (c:=0) iZ O bC O O) ?_;simp only[J];refine dA O (λu e=>(((m.ext' e).b 1 O).lies1 bW O)) ?_;simp only[J];refine cY O O (iT Iw.h) (gA (aO (c:=0) iZ O bC O O) ?_);simp only[J];refine dA O (λu e=>(((m.ext' e).b 2 O).lies1 bW O)) ?_;simp only[J];refine cY O O (iT Iw.h) ?_;simp only[J];refine cY O O (Ch K.up K.up) (rN ?_);simp only[J];refine mf1 m ?_;intro j u m;simp only[zJ,zK,zF,zG];refine aX m 0 O O O aJ (eU O) O ?_;intro u m;simp only[zy,zx,over,zF,zG,aa] at m;refine S ?_;apply aQ 1 [0] m;simp only[↓Z];refine dR 8 [0,1,2,3,4,5,6] [⟨7,6,37,[.bool X7,.string ⟨#[]⟩]⟩] aB (by kernel_rfl) (al1 ⟨_,_,_,O,by kernel_rfl,_,iB,O⟩) (ol:=?_) ?d ?_
 case d=>simp only[zw,zQ,zR];try rfl
 intro u a;replace m:=m.ext' a;refine gA (aO (c:=0) iZ O bC O O) ?_;simp only[J];refine dA O (λu e=>(((m.ext' e).b 2 O).lies1 bW O)) ?_;simp only[J];refine cY O O (iT Iw.h) (gA (aO (c:=0) iZ O bC O O) ?_);simp only[J];refine dA O (λu e=>(((m.ext' e).b 3 O).lies1 bW O)) ?_;simp only[J];refine cY O O (iT Iw.h) ?_;simp only[J];refine cY O O (Ch K.up K.up) (rN ?_);simp only[J];refine mf1 m ?_;intro k u m;simp only[zJ,zK,zF,zG];refine aX m 0 O O O aJ (eU O) O ?_;intro u m;simp only[zy,zx,over,zF,zG,aa] at m;refine S ?_;apply aQ 1 [0] m;simp only[↓Z];refine dR 8 [0,1,2,3,4,5,6] [⟨7,7,37,[.bool X7,.string ⟨#[]⟩]⟩] aB (by kernel_rfl) (al1 ⟨_,_,_,O,by kernel_rfl,_,iB,O⟩) (ol:=?_) ?d ?_
 case d=>simp only[zw,zQ,zR];try rfl
 intro u a;replace m:=m.ext' a;refine gA (aO (c:=0) iZ O bC O O) ?_;simp only[J];refine dA O (λu e=>(((m.ext' e).b 3 O).lies1 bW O)) ?_;simp only[J];refine cY O O (iT Iw.h) (gA (aO (c:=0) iZ O bC O O) ?_);simp only[J];refine dA O (λu e=>(((m.ext' e).b 4 O).lies1 bW O)) ?_;simp only[J];refine cY O O (iT Iw.h) ?_;simp only[J];refine cY O O (Ch K.up K.up) (rN ?_);simp only[J];refine mf1 m ?_;intro l u m;simp only[zJ,zK,zF,zG];refine aX m 0 O O O aJ (eU O) O ?_;intro u m;simp only[zy,zx,over,zF,zG,aa] at m;refine S ?_;apply uR 9 [3,2,1,3] m;simp only[↓Z,cB,aq6,aic,aa];intro u m;exact aS O ⟨_,O,((m.b 3 O).full Xr rV)⟩ ⟨_,O,m.ext,O⟩
def Fy{v:Y}(i:Bv 400000 u)(j:Bv 400000 v):dO X9 202 [wv u,wv v] (W (u.dot v)):=by
 intro w;refine⟨bP func202 (by kernel_rfl),?_⟩;have m:=Mem.refl w
 go_enter func202,ntmps202
 apply gJ 7 [0] m;simp only[↓Z,eX];intro d f g u m;refine dR 12 [0,1,2,3,4,5,6,7,8,9,10] [⟨11,5,37,[.bool X7,.string ⟨#[]⟩]⟩] aB (by kernel_rfl) (al1 ⟨_,_,_,O,by kernel_rfl,_,iB,O⟩) (ol:=?_) ?c ?_
 case c=>simp only[zw,zQ,zR];try rfl
 intro u a;replace m:=m.ext' a;refine gA (aR Ha aJ O O (by decide) (by decide) O) ?_;simp only[J];refine dA O (λu e=>(((m.ext' e).b 2 O).lies bE aJ O O)) ?_;simp only[J,zy,ae,aa,C,ac];refine gA (aR Ha aJ O O (by decide) (by decide) O) ?_;simp only[J];refine dA O (λu e=>(((m.ext' e).b 1 O).lies bE aJ O O)) ?_;simp only[J,zy,ae,aa,C,ac];refine cY O O (sR K.up K.up) (gA (aR Ha aJ O O (by decide) (by decide) O) ?_);simp only[J];refine dA O (λu e=>(((m.ext' e).b 2 O).lies bE aJ O O)) ?_;simp only[J,zy,ae,aa,C,ac];refine gA (aR Ha aJ O O (by decide) (by decide) O) ?_;simp only[J];refine dA O (λu e=>(((m.ext' e).b 1 O).lies bE aJ O O)) ?_;simp only[J,zy,ae,aa,C,ac];refine cY O O (sR K.up K.up) ?_;simp only[J];refine cY O O (uJ K.up K.up) (rN ?_);simp only[J];refine mf1 m ?_;intro h u m;simp only[zJ,zK,zF,zG];refine aX m 0 O O O aJ (eU O) O ?_;intro u m;simp only[zy,zx,over,zF,zG,aa] at m;refine S ?_;apply aQ 1 [0] m;simp only[↓Z];refine cC m 7 aB (by kernel_rfl) ?_;simp only[zy];refine cW 5 [1,4,3] ?_;simp only[↓Z,cB,Ls,ac,C,aa];apply R;omega;refine X O O (sR K.up K.up) ?_;simp only[J];refine X O O (uJ K.up K.up) (bD ?_);intro u m;simp only[J];refine aX m 1 O O O aJ (eU O) O ?_;intro u m;simp only[zy,zx,over,zF,zG,aa] at m;refine S ?_;apply aQ 1 [] m;simp only[↓Z];exact aS O ⟨_,O,((m.b 1 O).full bE aJ)⟩ ⟨_,O,m.ext,O⟩
def Kt{a b d:Int}(e:Bd 400000 a)(f:Bd 400000 b)(g:Bd 400000 c)(h:Bd 400000 d):dO X9 254 [W a,W b,W c,W d] (W (a*b-c*d)):=by
 intro w;refine⟨bP func254 (by kernel_rfl),?_⟩;have m:=Mem.refl w;haveI:K 400000 a:=⟨e⟩;haveI:K 400000 b:=⟨f⟩;haveI:K 400000 c:=⟨g⟩;haveI:K 400000 d:=⟨h⟩
 go_enter func254,ntmps254
 apply gJ 9 [0] m;simp only[↓Z,eX];intro i j k l n u m;refine cC m 7 aB (by kernel_rfl) ?_;simp only[zy];refine ql O (λu m=>((m.b 4 O).full bE aJ)) ?_;simp only[J];refine ql O (λu m=>((m.b 3 O).full bE aJ)) ?_;simp only[J];refine X O O (sR K.up K.up) ?_;simp only[J];refine ql O (λu m=>((m.b 2 O).full bE aJ)) ?_;simp only[J];refine ql O (λu m=>((m.b 1 O).full bE aJ)) ?_;simp only[J];refine X O O (sR K.up K.up) ?_;simp only[J];refine X O O (Ch K.up K.up) (bD ?_);intro u m;simp only[J];refine aX m 0 O O O aJ (eU O) O ?_;intro u m;simp only[zy,zx,over,zF,zG,aa] at m;refine S ?_;apply aQ 1 [] m;simp only[↓Z];exact aS O ⟨_,O,((m.b 0 O).full bE aJ)⟩ ⟨_,O,m.ext,O⟩
def Ro{v:Y}(e:Bv 400000 u)(f:Bv 400000 v):dO X9 247 [wv u,wv v] (wv (u.cross v)):=by
 intro w;refine⟨bP func247 (by kernel_rfl),?_⟩;have m:=Mem.refl w
 go_enter func247,ntmps247
 apply gJ 7 [0] m;simp only[↓Z,Vg];intro a c d u m;refine cC m 28 aB (by kernel_rfl) ?_;simp only[zy];refine cW 8 [3,2,3,2] ?_;simp only[↓Z,Ls,cB,ac,C,aa];apply R;omega;refine X O O (Kt K.up K.up K.up K.up) (cW 8 [3,2,3,2] ?_);simp only[↓Z,Ls,cB,ac,C,aa];apply R;omega;refine X O O (Kt K.up K.up K.up K.up) (cW 8 [3,2,3,2] ?_);simp only[↓Z,Ls,cB,ac,C,aa];apply R;omega;refine X O O (Kt K.up K.up K.up K.up) (aK (Jp O O O) (bD ?_));intro u m;simp only[J];refine aX m 0 O O O rV (eU O) O ?_;intro u m;simp only[zy,zx,over,zF,zG,aa] at m;refine S ?_;apply aQ 1 [] m;simp only[↓Z];exact aS O ⟨_,O,((m.b 0 O).full Xr rV)⟩ ⟨_,O,m.ext,O⟩
def Ku[IT t]:dO X9 238 [tr t] (wv t.normal):=by
 intro w;refine⟨bP func238 (by kernel_rfl),?_⟩;have m:=Mem.refl w
 go_enter func238,ntmps238
 apply gJ 6 [0] m;simp only[↓Z,Vg];intro a c u m;refine cC m 11 aB (by kernel_rfl) ?_;simp only[zy];refine cW 4 [2,2] ?_;simp only[↓Z,cD,aW,ac,C,aa];apply R;omega;refine X O O sG (cW 4 [2,2] ?_);simp only[↓Z,cD,aW,ac,C,aa];apply R;omega;refine X O O sG ?_;simp only[J];refine X O O (Ro Bv.of Bv.of) (bD ?_);intro u m;simp only[J];refine aX m 0 O O O rV (eU O) O ?_;intro u m;simp only[zy,zx,over,zF,zG,aa] at m;refine S ?_;apply aQ 1 [] m;simp only[↓Z];exact aS O ⟨_,O,((m.b 0 O).full Xr rV)⟩ ⟨_,O,m.ext,O⟩
def ajk{p:Y}[I3 p][I3 q]:dO X9 159 [pt p,pt q] (W ((q.sub p).dot (q.sub p))):=by
 intro w;refine⟨bP func159 (by kernel_rfl),?_⟩;have m:=Mem.refl w
 go_enter func159,ntmps159
 apply gJ 10 [3,2,0] m;simp only[↓Z,eX,aW];intro a c d u m;refine iE m O O sG 7 [0,1,1,0] ?_;simp only[↓Z,Vg,aic,aa];intro e u m;refine iE m O O (Fy Bv.of Bv.of) 3 [1] ?_;simp only[↓Z,cB,aa];intro u m;exact aS O ⟨_,O,((m.b 1 O).full bE aJ)⟩ ⟨_,O,m.ext,O⟩
class Sr4(p:Y):Prop where
 x:p.x.natAbs<=262144
 y:p.y.natAbs<=262144
 z:p.z.natAbs<=262144
class Nr4(p:Y):Prop where
 x:p.x.natAbs<=524288
 y:p.y.natAbs<=524288
 z:p.z.natAbs<=524288
instance {p q:Y}[a:Sr4 p][b:Sr4 q]:Nr4 (p.sub q):=⟨by have:=a.x;have:=b.x;simp only[Y.sub];omega,by have:=a.y;have:=b.y;simp only[Y.sub];omega,by have:=a.z;have:=b.z;simp only[Y.sub];omega⟩
def mU{a b:Int}(c:a.natAbs<=524288)(d:b.natAbs<=524288) : -549755813888<a*b/\a*b<549755813888:=by
 have h:(a*b).natAbs<=524288*524288:=by rw[ku];exact Nat.mul_le_mul (by omega) (by omega)
 omega
def ac4(h : -549755813888<x/\x<549755813888)(k : -549755813888<y/\y<549755813888):IntKind.i64.wrap (x-y)=x-y:=bN (by omega) (by omega)
def Dp(h : -549755813888<x/\x<549755813888):IntKind.i64.wrap x=x:=bN (by omega) (by omega)
def ano{w:an}{g:Nat}{T:ba}{b c d:Y}(e:fQ w g [U a.x,U a.y,U a.z,U b.x,U b.y,U b.z,U c.x,U c.y,U c.z,U d.x,U d.y,U d.z] T):kO kS 3 w (H ⟨g,0,X8⟩) 4 [a,b,c,d]:=
 ⟨rfl,λi x f=>⟨_,rfl,by
  rw[cA,ae]
  match i,f with
  |0,h=>cases h;exact iX.pre (ys:=kS b++kS c++kS d) (e.row 0)
  |1,h=>cases h;exact iX.pre (ys:=kS c++kS d) (e.row 3)
  |2,h=>cases h;exact iX.pre (ys:=kS d) (e.row 6)
  |3,h=>cases h;exact e.row 9⟩⟩
theorem ajl{p:Y}{k:Nat}(h:∀q∈ps.take k,Sr4 q)(b:ps[k]? = H p)(a:Sr4 p):∀q∈ps.take (k+1),Sr4 q:=λq hq=>by
 rw[afl b] at hq;rcases bz.1 hq with hq|hq
 .exact h q hq
 rw[cr.1 hq];exact a
def Rp(w:an)(d:kO kS 3 w A vi ps)(t:vi<4611686018427387904):cX X9 255 [.slice A vi cap] w (λv _=>∃bo:Bool,v=.bool bo/\(bo=N->∀p∈ps,Sr4 p)):=by
 refine⟨bP func255 (by kernel_rfl),?_⟩;have m:=Mem.refl w
 go_enter func255,ntmps255
 apply iD 10 [0] m;simp only[↓Z];refine bT [3] [2,4,5,6,7,8,9,10,11,12,13,14,15,16,17,18,19,20,21,22,23,24,25,26,27,28,29,30,31,32,33,34,35,36,37,38,39,40,41,42] (λn vs j=>∃(k:Nat),vs=[U (k:Int)]/\Mem w j []/\(∀p∈ps.take k,Sr4 p)/\(k<=vi)/\(n=vi-k)) ?_ ?_
 .exact⟨_,0,O,m,λp h=>by simp at h,Nat.zero_le _,O⟩
 intro n vs D f u r l;obtain⟨k,rfl,m,b,B,C⟩:=f;simp only[zu,zF,zG];apply F 8 [0,0] m;simp only[↓Z,gZ];refine aZ O ?_ ?_<;>intro E
 .obtain⟨p,g,a,rfl,c⟩:=d.get (i:=k) (by omega);have c:iX w (a.add (k*3)) [U p.x,U p.y,U p.z]:=c;apply qW 23 [0,0,0,1,0,4,1,0,4,1,0,4,1,0] m;simp only[↓Z,gK,gC,aW,iR,dN,iJ,ab,ae,aa];refine⟨_,λu m=>(((c.ext m.ext)).lies aM aD),λs=>λ_=>λ_=>λ_=>⟨by omega,?_⟩⟩;intro u m;apply aQ 5 [4,1,0,4,1,0,0] m;simp only[↓Z,iS,dN,aa];refine λ_=>λ_=>?_;refine iY O ?_ ?_<;>intro o
  .apply F 5 [] m;simp only[↓Z];exact aS rfl rfl ⟨_,rfl,m.ext,X7,rfl,λh=>by cases h⟩
  have q:Sr4 p:=by
   simp only[nr,Y7] at o;exact⟨by omega,by omega,by omega⟩
  apply F 7 [0] m;simp only[↓Z];apply R;omega;exact l (vi-(k+1)) _ _ (by omega) (by kernel_rfl) ⟨k+1,O,(m.sel [X7]),ajl b g q,by omega,O⟩
 have e:ps.take k=ps:=ap (by rw[d.len];omega);rw[e] at b;apply F 6 [] m;simp only[↓Z];exact aS O O ⟨_,O,m.ext,N,O,λ_=>b⟩
def sH{p:Y}[a:Sr4 p][c:Sr4 q]:dO X9 257 [pt p,pt q] (nv (q.sub p)):=by
 intro w;refine⟨bP func257 (by kernel_rfl),?_⟩;have m:=Mem.refl w;have:=a.x;have:=a.y;have:=a.z;have:=c.x;have:=c.y;have:=c.z
 go_enter func257,ntmps257
 apply gJ 27 [2,3,2,3,2,3,0] m;simp only[↓Z,sQ,iR,dN,iJ,iS,uF,rD,aa];intro d e f;apply R;omega;intro u m;exact aS O ⟨_,O,((m.b 0 O).full rH jC)⟩ ⟨_,O,m.ext,O⟩
def Im{v:Y}(a:Nr4 u)(c:Nr4 v):dO X9 256 [nv u,nv v] (nv (u.cross v)):=by
 intro w;refine⟨bP func256 (by kernel_rfl),?_⟩;have m:=Mem.refl w
 go_enter func256,ntmps256
 apply gJ 12 [3,2,0] m;simp only[↓Z,sQ,gW,dN,ac,C,aa];intro d e f;apply R;omega;intro u m;refine aA (lT O O (Dp (mU a.y c.z))) ?_;apply aL 4 [3,2,0] m;simp only[↓Z,gW,dN,ac,C,aa];apply R;omega;refine aA (lT O O (Dp (mU a.z c.y))) (aA (pW O O (ac4 (mU a.y c.z) (mU a.z c.y))) ?_);apply aL 4 [3,2,0] m;simp only[↓Z,gW,dN,ac,C,aa];apply R;omega;refine aA (lT O O (Dp (mU a.z c.x))) ?_;apply aL 4 [3,2,0] m;simp only[↓Z,gW,dN,ac,C,aa];apply R;omega;refine aA (lT O O (Dp (mU a.x c.z))) (aA (pW O O (ac4 (mU a.z c.x) (mU a.x c.z))) ?_);apply aL 4 [3,2,0] m;simp only[↓Z,gW,dN,ac,C,aa];apply R;omega;refine aA (lT O O (Dp (mU a.x c.y))) ?_;apply aL 4 [3,2,0] m;simp only[↓Z,gW,dN,ac,C,aa];apply R;omega;refine aA (lT O O (Dp (mU a.y c.x))) (aA (pW O O (ac4 (mU a.x c.y) (mU a.y c.x))) ?_);apply kZ 4 [0] m;simp only[↓Z,uF,rD,aa];intro u m;exact aS O ⟨_,O,((m.b 0 O).full rH jC)⟩ ⟨_,O,m.ext,O⟩
def Dq  : dO X9 258 [U n] (U (bV n)):=by
 intro w;refine⟨bP func258 (by kernel_rfl),?_⟩;have m:=Mem.refl w
 go_enter func258,ntmps258
 apply iD 10 [0,0] m;simp only[↓Z];refine aZ O ?_ ?_<;>intro a
 .apply F 5 [] m;simp only[↓Z];refine aS O O ?_;try simp only[zD,zE]
  exact⟨_,O,m.ext,by rw[tJ (by assumption)]⟩
 apply F 7 [0,0] m;simp only[↓Z];refine aZ O ?_ ?_<;>intro b
 .apply F 5 [] m;simp only[↓Z];refine aS O O ?_;try simp only[zD,zE]
  exact⟨_,O,m.ext,by rw[qX (by assumption)]⟩
 apply F 6 [] m;simp only[↓Z];refine aS O O ?_;try simp only[zD,zE]
 exact⟨_,O,m.ext,by rw[show n=0 by omega];rfl⟩
def Rq{b c d:Y}[I3 a][I3 b][I3 c][I3 d]:dO X9 248 [pt a,pt b,pt c,pt d] (sg ((b.sub a).cross (d.sub c))):=by
 intro w;refine⟨bP func248 (by kernel_rfl),?_⟩;have m:=Mem.refl w
 go_enter func248,ntmps248
 apply gJ 14 [5,4,3,2,0] m;simp only[↓Z,sQ,aW];intro o p q r s u m;refine Fe O O O O ?_;intro u t f j k;replace m:=m.newB f j k;simp only[J];refine bY m O O (Rp (ps:=[a,b,c,d]) _ (ano (m.b 0 O)) (by decide)) ?_;rintro v u m ⟨bo,rfl,n⟩;apply aL 7 [0] m;simp only[↓Z];refine iY O ?_ ?_<;>intro l
 .have g:=n l;haveI:=g a (by simp);haveI:=g b (by simp);haveI:=g c (by simp);haveI:=g d (by simp);apply F 1 [0] m;simp only[↓Z];refine dR 8 [0,1,2,3,4,5,6] [⟨7,10,103,[U 0,U 0,U 0]⟩] aB (by kernel_rfl) (al1 ⟨_,_,_,O,by kernel_rfl,_,Bt,O⟩) (ol:=?_) ?h ?_
  case h=>simp only[zw,zQ,zR];try rfl
  intro u f;replace m:=m.ext' f;refine dA O (λu e=>(((m.ext' e).b 5 O).full aM aD)) ?_;simp only[J];refine dA O (λu e=>(((m.ext' e).b 4 O).full aM aD)) ?_;simp only[J];refine cY O O sH ?_;simp only[J];refine dA O (λu e=>(((m.ext' e).b 3 O).full aM aD)) ?_;simp only[J];refine dA O (λu e=>(((m.ext' e).b 2 O).full aM aD)) ?_;simp only[J];refine cY O O sH ?_;simp only[J];refine cY O O (Im X3 X3) (rN ?_);simp only[J];refine mf1 m ?_;intro i u m;simp only[zJ,zK,zF,zG];refine aX m 0 O O O jC (eU O) O ?_;intro u m;simp only[zy,zx,over,zF,zG,aa] at m;refine S ?_;apply aQ 1 [0] m;simp only[↓Z];refine cC m 10 aB (by kernel_rfl) ?_;simp only[zy];refine cW 2 [1] ?_;simp only[↓Z,gW,dN,ac,C,aa];apply R;omega;refine X O O Dq (cW 2 [1] ?_);simp only[↓Z,gW,dN,ac,C,aa];apply R;omega;refine X O O Dq (cW 2 [1] ?_);simp only[↓Z,gW,dN,ac,C,aa];apply R;omega;refine X O O Dq (aK (vB O O O) (bD ?_));intro u m;simp only[J];refine aX m 2 O O O jC (eU O) O ?_;intro u m;simp only[zy,zx,over,zF,zG,aa] at m;refine S ?_;apply aQ 1 [] m;simp only[↓Z];exact aS O ⟨_,O,((m.b 2 O).full rH jC)⟩ ⟨_,O,m.ext,O⟩
 apply F 2 [0] m;simp only[↓Z];refine dR 8 [0,1,2,3,4,5,6] [⟨7,11,86,[.bool X7,.string ⟨#[]⟩,.bool X7,.string ⟨#[]⟩,.bool X7,.string ⟨#[]⟩]⟩] aB (by kernel_rfl) (al1 ⟨_,_,_,O,by kernel_rfl,_,adE,O⟩) (ol:=?_) ?h ?_
 case h=>simp only[zw,zQ,zR];try rfl
 intro u f;replace m:=m.ext' f;refine dA O (λu e=>(((m.ext' e).b 5 O).full aM aD)) ?_;simp only[J];refine dA O (λu e=>(((m.ext' e).b 4 O).full aM aD)) ?_;simp only[J];refine cY O O sG ?_;simp only[J];refine dA O (λu e=>(((m.ext' e).b 3 O).full aM aD)) ?_;simp only[J];refine dA O (λu e=>(((m.ext' e).b 2 O).full aM aD)) ?_;simp only[J];refine cY O O sG ?_;simp only[J];refine cY O O (Ro Bv.of Bv.of) (rN ?_);simp only[J];refine mf1 m ?_;intro i u m;simp only[zJ,zK,zF,zG];refine aX m 0 O O O rV (eU O) O ?_;intro u m;simp only[zy,zx,over,zF,zG,aa] at m;refine S ?_;apply aQ 1 [0] m;simp only[↓Z];refine cC m 10 aB (by kernel_rfl) ?_;simp only[zy];refine cW 2 [1] ?_;simp only[↓Z,Ls,cB,ac,C,aa];apply R;omega;refine X O O (Dm K.up) (cW 2 [1] ?_);simp only[↓Z,Ls,cB,ac,C,aa];apply R;omega;refine X O O (Dm K.up) (cW 2 [1] ?_);simp only[↓Z,Ls,cB,ac,C,aa];apply R;omega;refine X O O (Dm K.up) (aK (vB O O O) (bD ?_));intro u m;simp only[J];refine aX m 2 O O O jC (eU O) O ?_;intro u m;simp only[zy,zx,over,zF,zG,aa] at m;refine S ?_;apply aQ 1 [] m;simp only[↓Z];exact aS O ⟨_,O,((m.b 2 O).full rH jC)⟩ ⟨_,O,m.ext,O⟩
def jB{b c:Y}[I3 a][I3 b][I3 c]:dO X9 239 [pt a,pt b,pt c] (sg ((b.sub a).cross (c.sub a))):=by
 intro w;refine⟨bP func239 (by kernel_rfl),?_⟩;have m:=Mem.refl w
 go_enter func239,ntmps239
 apply gJ 13 [4,3,4,2,0] m;simp only[↓Z,sQ,aW];intro d e f g u m;refine iE m O O Rq 3 [0] ?_;simp only[↓Z,rD,aa];intro u m;exact aS O ⟨_,O,((m.b 0 O).full rH jC)⟩ ⟨_,O,m.ext,O⟩
def Io[IT t]:dO X9 227 [tr t] (.bool (decide (bV t.normal.x=0/\bV t.normal.y=0/\bV t.normal.z=0))):=by
 intro w;refine⟨bP func227 (by kernel_rfl),?_⟩;have m:=Mem.refl w
 go_enter func227,ntmps227
 apply gJ 13 [1,1,1,0] m;simp only[↓Z,cD,aW,ac,C,aa];intro d;apply R;omega;intro u m;refine iE m O O (jB (a:=t.a) (b:=t.b) (c:=t.c)) 5 [] ?_;simp only[↓Z,uF,aa];refine⟨_,ad4,?_⟩;intro u m;exact aS O O ⟨_,O,m.ext,O⟩
def ajm(q:Int):∃o,q.tmod 2=o/\(o<0->q%2=1)/\(¬o<0->o=q%2):=by
 refine⟨_,O,?_⟩;cases q with
 |ofNat m=>
  rw[show (qv m).tmod 2=((m%2:Nat):Int) from rfl,show qv m=(m:Int) from rfl];constructor<;>intro h<;>omega
 |negSucc m=>
  rw[show (Int.negSucc m).tmod 2 = -(((m+1)%2:Nat):Int) from rfl,Int.negSucc_eq];constructor<;>intro h<;>omega
def abj{q o:Int}(h:gF q)(a:o=q%2):IntKind.i64.wrap ((q-o).tdiv 2)=q / 2:=by
 subst a;have e:(q-q%2).tdiv 2=q / 2:=by
  rw[show q-q%2=q / 2*2 by omega];exact Int.mul_tdiv_cancel _ (by decide)
 rw[e];unfold gF at h;exact bN (by omega) (by omega)
def al8{q:Int}(h:gF q):∃r,IntKind.i64.wrap (q.tdiv 2)=r/\gF r:=by
 refine⟨_,O,?_⟩;have e : -(q.natAbs:Int)<=q.tdiv 2/\q.tdiv 2<=(q.natAbs:Int)/\q.tdiv 2<=4611686018427387904:=by
  unfold gF at h;cases q with
  |ofNat m=>
   rw[show (qv m).tdiv 2=((m / 2:Nat):Int) from rfl];rw[show qv m=(m:Int) from rfl] at h ⊢;omega
  |negSucc m=>
   rw[show (Int.negSucc m).tdiv 2 = -(((m+1) / 2:Nat):Int) from rfl];omega
 unfold gF at h ⊢;rw[bN (by omega) (by omega)];omega
def Rs(w:an)(f:gF c)(t:bb<=62):cX X9 141 [U c,U (bb:Int)] w (λv _=>∃q,v=U q/\gF q/\(1<=bb->-4611686018427387904<=q/\q<4611686018427387904)):=by
 refine⟨bP func141 (by kernel_rfl),?_⟩;have m:=Mem.refl w
 go_enter func141,ntmps141
 apply iD 10 [0] m;simp only[↓Z];refine bT [0,5] [6,7,8,9,10,11,12,13,14,15,16,17,18,19] (λn vs j=>∃(k:Nat)(q:Int),vs=[U q,U (k:Int)]/\Mem w j []/\(gF q)/\(1<=k->-4611686018427387904<=q/\q<4611686018427387904)/\(k<=bb)/\(n=bb-k)) ?_ ?_
 .exact⟨_,0,_,O,m,f,by omega,by omega,O⟩
 intro n vs z a u s d
 obtain⟨k,q,rfl,m,a,i,x,y⟩:=a;simp only[zu,zF,zG];apply F 7 [0,0] m;simp only[↓Z];refine aZ O ?_ ?_<;>intro A
 .apply F 4 [] m;simp only[↓Z];obtain⟨o,g,r,p⟩:=ajm q;have l:=a;unfold gF at l;apply aQ 2 [0] m;simp only[↓Z];refine aA (cS O O (by omega) g) ?_;apply aL 8 [0,0] m;simp only[↓Z];refine aZ O ?_ ?_<;>intro e
  .have b:(1:Int)=q%2:=(r e).symm;apply F 7 [0] m;simp only[↓Z];apply R;omega;refine aA (gL O O (by omega) (abj a b)) ?_;apply aL 8 [0] m;simp only[↓Z];apply R;omega;unfold gF at a;exact d (bb-(k+1)) _ _ (by omega) (by kernel_rfl) ⟨k+1,_,O,m,by unfold gF;omega,by omega,by omega,rfl⟩
  have b:=p e;apply F 5 [0] m;simp only[↓Z];apply R;omega;refine aA (gL O O (by omega) (abj a b)) ?_;apply aL 8 [0] m;simp only[↓Z];apply R;omega;unfold gF at a;exact d (bb-(k+1)) _ _ (by omega) (by kernel_rfl) ⟨k+1,_,O,m,by unfold gF;omega,by omega,by omega,rfl⟩
 apply F 7 [] m;simp only[↓Z];exact aS O O ⟨_,O,m.ext,_,O,a,by intro h;exact i (by omega)⟩
def Ga(w:an)(b:gF c)(h:bb<=62):cX X9 94 [U c,U (bb:Int),.bool sh] w (λv _=>∃q,v=U q):=by
 refine⟨bP func94 (by kernel_rfl),?_⟩;have m:=Mem.refl w
 go_enter func94,ntmps94
 apply iD 12 [3,0,0] m;simp only[↓Z];refine λ_=>?_;refine dH O ?_ ?_<;>intro f
 .apply F 4 [0] m;simp only[↓Z];refine bY m O O (Rs (c:=c) (bb:=bb) _ b (by omega)) ?_;rintro v u m ⟨q,rfl,a,d⟩;apply aL 3 [] m;simp only[↓Z];exact aS O O ⟨_,O,m.ext,_,O⟩
 have k:1<=bb:=by cases sh<;>simp at f<;>omega
 apply F 5 [0] m;simp only[↓Z];refine aA (pW O O (show IntKind.i64.wrap ((bb:Int)-1)=((bb-1:Nat):Int) from by rw[bN (by omega) (by omega)];omega)) ?_;simp only[J];refine bY m O O (Rs (c:=c) (bb:=(bb-1)) _ b (by omega)) ?_;rintro v u m ⟨q,rfl,a,d⟩;apply aL 6 [0] m;simp only[↓Z];refine aA (cS O O (by omega) O) ?_;apply aL 2 [0,0] m;simp only[↓Z];refine aZ O ?_ ?_<;>intro l
 .apply F 1 [] m;simp only[↓Z];obtain⟨r,e,o⟩:=al8 a;apply aQ 2 [0] m;simp only[↓Z];refine aA (gL O O (by omega) e) ?_;apply aL 3 [] m;simp only[↓Z];exact aS O O ⟨_,O,m.ext,_,O⟩
 apply F 4 [0] m;simp only[↓Z];refine bY m O O (Rs (c:=q) (bb:=1) _ a (by omega)) ?_;rintro v u m ⟨i,rfl,j,g⟩;simp only[J];have n:=g (bg _);apply aL 4 [] m;simp only[↓Z];apply R;omega;exact aS O O ⟨_,O,m.ext,_,O⟩
def ajn(x:Int):∃n:Nat,(if 40<(if x<0 then 0 else x) then 40 else (if x<0 then 0 else x))=(n:Int)/\n<=40:=by
 refine⟨(if 40<(if x<0 then 0 else x) then 40 else (if x<0 then 0 else x):Int).toNat,?_,?_⟩<;>split<;>split<;>omega
def Kv{p:Prop}[Decidable p](a:gF x)(b:gF y):gF (if p then x else y):=by split<;>assumption
def ajo(h:IT t)(c:Nat):gF (t.cor c).x/\gF (t.cor c).y/\gF (t.cor c).z:=Zg h
def ac5(w:an)(G:cI w A vi ts)(hN:vi<=100000):cX X9 53 [.slice A vi cap,U bits,.bool sh] w (λv _=>∃p:Y,v=pt p):=by
 refine⟨bP func53 (by kernel_rfl),?_⟩;have m:=Mem.refl w
 go_enter func53,ntmps53
 apply gJ 11 [] m;simp only[↓Z,gC];intro o u m;obtain⟨bb,I,ai⟩:=ajn bits;rw[I];apply uR 10 [0] m;simp only[↓Z,gC];intro q u m;refine bT [8] [9,10,14,15,16,17,18,19,20,21,22,23,24,25,26,27,28,29,30,31,32,33,34,35,36,37,38,39,40,41,42,43,44,45,46,47,48,49,50] (λn vs l=>∃(k:Nat)(a:Y),vs=[U (k:Int)]/\Mem w l [bI q [U a.x,U a.y,U a.z] 41,bI o [U 0,U 0,U 0] 41]/\(gF a.x)/\(gF a.y)/\(gF a.z)/\(k<=vi)/\(n=vi-k)) ?_ ?_
 .exact⟨_,0,⟨0,0,0⟩,O,m,(show gF 0 by unfold gF;omega),(show gF 0 by unfold gF;omega),(show gF 0 by unfold gF;omega),by omega,rfl⟩
 intro n vs P g u W Q
 obtain⟨k,a,rfl,m,d,e,f,hk,hn⟩:=g;simp only[zu,zF,zG];apply F 8 [0,0] m;simp only[↓Z,gN];refine aZ O ?_ ?_<;>intro ad
 .obtain⟨t,ht,s,a0,E,V⟩:=G.get (i:=k) (by omega);subst E;apply F 8 [0] m;simp only[↓Z];refine bT [9] [10,20,21,22,23,24,25,26,27,28,29,30,31,32,33,34,35,36,37,38,39,40,41,42,43,44,45,46,47,48,49,50] (λn vs l=>∃(j:Nat)(a:Y),vs=[U (j:Int)]/\Mem w l [bI q [U a.x,U a.y,U a.z] 41,bI o [U 0,U 0,U 0] 41]/\(gF a.x)/\(gF a.y)/\(gF a.z)/\(j<=3)/\(n=3-j)) ?_ ?_
  .exact⟨_,0,_,O,m,d,e,f,by omega,O⟩
  intro n vs P g u X r
  obtain⟨j,a,rfl,m,d,e,f,hj,ah⟩:=g;simp only[zu,zF,zG];apply F 6 [0,0] m;simp only[↓Z];refine aZ O ?_ ?_<;>intro af
  .apply qW 22 [0,0,0,0,0] m;simp only[↓Z,eY,cD,gC,aW,ab,ae,aa];refine⟨_,λu m=>(show eZ _ _ _ _ (pt (t.cor j)) from ((V.ext m.ext).cor (show j<3 by omega)).lies aM aD),λg3=>⟨by omega,?_⟩⟩;intro u m;refine aZ O ?_ ?_<;>intro ag
   .apply qW 18 [1,1,2,1,2,1,2] m;simp only[↓Z,aW,iR,dN,iJ,iS,aa];intro u m;apply uR 11 [1,1,0] m;simp only[↓Z,dN,adZ,aW,aa];apply R;omega;intro u m;obtain⟨B,C,D⟩:=ajo s j;exact r (3-(j+1)) _ _ (by omega) (by kernel_rfl) ⟨j+1,⟨_,_,_⟩,O,(m.sel [X7,N,N]),by exact Kv (by assumption) (by assumption),by exact Kv (by assumption) (by assumption),by exact Kv (by assumption) (by assumption),by omega,O⟩
   apply F 18 [2,1,2,1,2,1] m;simp only[↓Z,iR,dN,iJ,iS,adZ,aa];apply uR 8 [1,0] m;simp only[↓Z,aW,aa];apply R;omega;intro u m;obtain⟨B,C,D⟩:=ajo s j;exact r (3-(j+1)) _ _ (by omega) (by kernel_rfl) ⟨j+1,⟨_,_,_⟩,O,(m.sel [X7,N,N]),by exact Kv (by assumption) (by assumption),by exact Kv (by assumption) (by assumption),by exact Kv (by assumption) (by assumption),by omega,O⟩
  apply F 7 [0] m;simp only[↓Z];apply R;omega;exact Q (vi-(k+1)) _ _ (by omega) (by kernel_rfl) ⟨k+1,_,O,m,d,e,f,by omega,O⟩
 apply F 2 [0] m;simp only[↓Z];refine mh m [N,X7] [(0,N),(2,N),(3,N),(5,N),(7,N),(8,N),(10,N),(12,N),(13,N),(1,N),(6,N),(11,N),(4,X7),(9,X7),(14,X7),(15,N),(16,X7)] aB (by kernel_rfl) (bR (λ_ _ _ _ _ h=>h)) (ol:=?_) ?T ?_
 case T=>simp only[zw,zQ,zR];try rfl
 intro u m;refine tL 12 [1,1,1] ?_;simp only[↓Z,iR,iJ,iS,dN,aa];refine bX (bY m O O (Ga (c:=a.x) (bb:=bb) _ d (by omega)) ?_);rintro v u m ⟨K,rfl⟩;refine S ⟨m.sel [N,X7],?_⟩;refine bX ?_;simp only[J];refine bY m O O (Ga (c:=a.y) (bb:=bb) _ e (by omega)) ?_;rintro v u m ⟨L,rfl⟩;refine S ⟨m.sel [N,X7],?_⟩;refine bX ?_;simp only[J];refine bY m O O (Ga (c:=a.z) (bb:=bb) _ f (by omega)) ?_;rintro v u m ⟨M,rfl⟩;refine S ⟨m.sel [N,X7],?_⟩;refine aV (nV O O O) (bX ?_);simp only[J];refine aX m 1 O O O aD (eU O) O ?_;intro u m;simp only[zy,zx,over,zF,zG,aa] at m;refine S ⟨m.sel [N,X7],?_⟩;refine aT ?_;apply aQ 1 [] m;simp only[↓Z];exact aS O ⟨_,O,((m.b 1 O).full aM aD)⟩ ⟨_,O,m.ext,⟨K,L,M⟩,O⟩
def aeq{w0 w:an}{S:List (Option Nat)}{g n k:Nat}{p:Y}(h:Ow w0 w S E 3 (H ⟨g,0,X8⟩) n cap (ps.flatMap kS))(a:ps[k]? = H p):iX w ⟨g,k*3,X8⟩ (kS p):=by
 have:=(h.lat (enc:=kS) (λ_=>rfl) (by decide)).at a;rwa [cA,ae] at this
def Lz{xs:List (List T3)}(w:an)(am:Dj w A vi xs)(hN:vi<=1000000)(hb:∀l∈xs,l.length<=100000):cX X9 23 [.slice A vi cap,U bits,.bool sh] w (λv w'=>∃(A':Option Addr) (n c:Nat) (L:List (Sl Int)),v=.slice A' n c/\L.length=n/\(L.flatMap Sl.l).Perm (nA vi)/\n<=vi/\Mem w w' [fN (L.map (Sl.it 3 1 nB)),oI 22 1 A' n c (L.flatMap Lx)]):=by
 refine⟨bP func23 (by kernel_rfl),?_⟩;have m:=Mem.refl w
 go_enter func23,ntmps23
 apply iD 6 [0] m;simp only[↓Z];refine aA aI ?_;replace m:=m.nilO 41 3;apply aL 3 [0] m;simp only[↓Z];refine aA aI ?_;replace m:=m.nilO 22 1;apply aL 1 [] m;simp only[↓Z];replace m:=m.bagNil;apply aQ 6 [0] m;simp only[↓Z];refine bT [7,8,9] [10,11,12,13,14,15,16,17,18,19,20,21,22,23,24,25,26,27,28,29,30,31,32,33,34,35,36,37,38,39,40,41,42,43,44,45,46,47,48,49,50,51,52,53,54,55,56,57,58,59,60,61,62,63,64,65,66,67,68,69,70,71,72,73,74,75,76,77,78,79,80,81,82,83,84,85,86,87,88,89,90,91,92] (λn vs wl=>∃(k d:Nat) (ps:List Y) (L:List (Sl Int)) (K M:Option Addr) (P Q:Nat),vs=[.slice K d P,.slice M d Q,U (k:Int)]/\Mem w wl [fN (L.map (Sl.it 3 1 nB)),oI 22 1 M d Q (L.flatMap Lx),oI 41 3 K d P (ps.flatMap kS)]/\(ps.length=d)/\(L.length=d)/\((L.flatMap Sl.l).Perm (nA k))/\(d<=k)/\(∀s∈L,s.l.length<=k)/\(k<=vi)/\(n=vi-k)) ?_ ?_
 .exact⟨_,0,0,[],[],_,_,_,_,rfl,m,rfl,rfl,.refl _,by omega,(λs h=>by cases h),by omega,rfl⟩
 intro n vs wr hI u K1 ad
 obtain⟨k,d,ps,L,K,M,P,Q,rfl,m,ar,ag,T,aq,t,hk,hn⟩:=hI;simp only[zu,zF,zG];apply F 8 [0,0] m;simp only[↓Z,ah8];refine aZ O ?_ ?_<;>intro ay
 .obtain⟨l,av,a,B,nl,cl,rfl,ap,ai,aG⟩:=am.get (i:=k) (by omega);apply F 8 [0] m;simp only[↓Z,aq0,ab,ae,bi];apply R;omega;refine bA O (lies1 (m.ext.cell ap) qJ) ?_;simp only[J];apply aL 2 [0] m;simp only[↓Z];refine bY m O O (ac5 _ (ai.ext m.ext) (by rw[<-ai.len];exact hb _ (ak av))) ?_;rintro v u m ⟨p,rfl⟩;apply kZ 9 [0,0] m;simp only[↓Z,gC,aW,aa];intro g1 u m;refine bT [11] [12,28,29,30,31,32,33,34,35,36,37,38,39,40,41] (λn vs wl=>∃(q:Nat),vs=[U (q:Int)]/\Mem w wl [bI g1 [U p.x,U p.y,U p.z] 41,fN (L.map (Sl.it 3 1 nB)),oI 22 1 M d Q (L.flatMap Lx),oI 41 3 K d P (ps.flatMap kS)]/\(q<=d)/\(n=d-q)) ?_ ?_
  .exact⟨_,0,O,m,by omega,O⟩
  intro n vs wr hI u K2 al
  obtain⟨q,rfl,m,hq,aF⟩:=hI;simp only[zu,zF,zG];apply F 8 [0,0] m;simp only[↓Z,gZ];refine aZ O ?_ ?_<;>intro az
  .obtain⟨p0,aj⟩:∃x,ps[q]? = H x:=⟨_,ah (by omega)⟩
   obtain⟨g7,rfl⟩:=(m.o 3 rfl).some (by omega);apply F 3 [0] m;simp only[↓Z];refine mq m aB (by kernel_rfl) (cW 5 [0,0,1] ?_);simp only[↓Z,gK,aW,ab,ae];refine⟨_,λu m=>(show eZ _ _ _ _ (pt p0) from (aeq (m.o 3 O) aj).lies aM aD),by omega,?_⟩;refine X O O (lB (p:=p0) (q:=p)) (aK aI (bD ?_));intro u m;apply aQ 6 [0] m;simp only[↓Z];refine iY O ?_ ?_<;>intro aE
   .apply F 3 [0] m;simp only[↓Z];refine mq m aB (by kernel_rfl) (cW 12 [1,0,0,0,0,0,0,0,1,0] ?_);simp only[↓Z,gZ,gK,aW,ab,ae];refine⟨_,λu m=>(show eZ _ _ _ _ (pt p0) from (aeq (m.o 3 O) aj).lies aM aD),_,fX,by omega,?_⟩;refine bD ?_;intro u m;refine gc (aZ O (λao=>?_) (λao=>?_))
    .obtain⟨s,S⟩:∃s,L[q]? = H s:=⟨_,ah (by omega)⟩
     obtain⟨g8,rfl⟩:=(m.o 2 rfl).some (by omega);have aJ:=t s (ak S);apply F 1 [] m;simp only[↓Z];replace m:=m.pull 1 O;simp only[bG,bH,zF,zG] at m;replace m:=m.bagPull q (j:=s.it 3 1 nB) (by rw[dc,S];rfl);replace m:Mem w _ (oI 3 1 s.A s.l.length s.cap (s.l.flatMap nB)::_):=m;apply aQ 6 [0] m;simp only[↓Z,Vf,ab,ae,bi];apply R;omega;refine bA O (lies1 (Rk (m.o 3 O) S) mA) ?_;simp only[J];apply aL 1 [0] m;simp only[↓Z];refine cO cF (z:=U 0) (by kernel_rfl) O O O ?_;intro u g2 e g r;replace m:=m.newB e g r;simp only[J];refine bJ m 1 O O cF gM O (by decide) O O O (m.b 0 O).rowsO (fU O) (by omega) (by omega) ?_;intro W af u m;simp only[zF,zG] at m;simp only[zA,zB,zC,zD,zE] at m;apply aL 1 [0] m;simp only[↓Z,Vf,ab,ae,bi];apply R;omega;refine kR m 4 O O O iF (show q+1<=d*1 by omega) O ?_;intro u m;simp only[zF,zG] at m;simp only[zA,zB,zC,zD,zE] at m;rw[al5 (L:=L) (q:=q) ⟨W,af,s.l++[(k:Int)]⟩ (by omega) (svv (by simp))] at m;apply aL 1 [] m;simp only[↓Z];obtain⟨C,V⟩:∃C:Sl Int,C=⟨W,af,s.l++[(k:Int)]⟩:=⟨_,rfl⟩
     rw[show oI 3 1 W _ af _=C.it 3 1 nB by rw[V];simp[Sl.it,nB]] at m;replace m:=m.pull 2 O;simp only[bG,bH,zF,zG] at m;replace m:=m.pull 2 O;simp only[bG,bH,zF,zG] at m;rw[<-V] at m;replace m:=m.bagSet (f:=Sl.it 3 1 nB) (i:=q) (x:=C) (by omega);apply aQ 6 [0] m;simp only[↓Z];apply R;omega;exact ad (vi-(k+1)) _ _ (by omega) (by kernel_rfl) ⟨k+1,_,_,(L.set q C),_,_,_,_,O,(m.sel [N,X7,X7,N,N]),ar,(by rw[fc];exact ag),(by rw[uN];exact afO S (by rw[V]) T),(by omega),(Nl (λs h=>f_ (t s h)) (by rw[V];simp;omega)),(by omega),rfl⟩
    apply F 3 [0] m;simp only[↓Z];refine aA aI ?_;replace m:=m.nilO 41 3;apply aL 2 [] m;simp only[↓Z];have aw:=(m.o 4 rfl).le;apply aQ 4 [0] m;simp only[↓Z];refine aA (gR eL aD O O (ab _) (by omega) (by omega)) ?_;simp only[J];refine bJ m 0 O O eL mB O (by decide) O O (by rw[dZ xG,bf,de (by omega)]) ((((m.o 4 O).lat xG (by decide)).take (k:=q) (by omega)).cells xG (by decide)) (Bj _) (by omega) (by omega) ?_;intro D G u m;simp only[zF,zG] at m;rw[cv,ae] at m;rw[ae];apply aL 6 [2,0] m;simp only[↓Z,aW];refine lF O ?_;intro u g2 e g r;replace m:=m.newB e g r;simp only[J];refine bJ m 1 O O eL mB O (by decide) O O O (m.b 0 O).rowsO (fU O) (by omega) (by omega) ?_;intro D G u m;simp only[zF,zG] at m;apply aL 7 [0] m;simp only[↓Z];refine aA (gS eL aD O O (ab _) (by omega) (by omega) O) ?_;simp only[J];refine bJ m 1 O O eL mB O (by decide) O O (by rw[dZ xG,ef];omega) (((m.o 5 rfl).lat xG (by decide)).cellsD xG (by decide) (m.o 5 rfl).le) (Bj _) (by omega) (by omega) ?_;intro D G u m;simp only[zF,zG] at m;refine aA aI ?_;simp only[J];replace m:=(m.pull 1 O).mv 4 O;simp only[bG,bH,zF,zG] at m;apply aL 3 [0] m;simp only[↓Z];refine aA aI ?_;replace m:=m.nilO 22 1;apply aL 2 [] m;simp only[↓Z];have ax:=(m.o 4 rfl).le;apply aQ 4 [0] m;simp only[↓Z];refine aA (gR Ai iF O O (ab _) (by omega) (by omega)) ?_;simp only[J];refine bJ m 0 O O Ai Jl O (by decide) O O (by rw[dZ sv1,bf,de (by omega)]) ((((m.o 4 O).lat sv1 (by decide)).take (k:=q) (by omega)).cells sv1 (by decide)) (Rj _) (by omega) (by omega) ?_;intro E I u m;simp only[zF,zG] at m;rw[cv,ae] at m;rw[ae];apply aL 6 [0] m;simp only[↓Z];refine cO cF (z:=U 0) (by kernel_rfl) O O O ?_;intro u g3 e g r;replace m:=m.newB e g r;simp only[J];replace m:=m.own 0 O (n:=1) (c:=1) O (eU O);simp only[zG] at m;refine cO Ai (z:=.slice X8 0 0) (by kernel_rfl) O O O ?_;intro u g4 e g r;replace m:=m.newB e g r;simp only[J];refine bJ m 2 O O Ai Jl O (by decide) O O O (m.b 0 O).rowsO (fU O) (by omega) (by omega) ?_;intro E I u m;simp only[zF,zG] at m;apply aL 6 [0] m;simp only[↓Z];refine aA (gS Ai iF O O (ab _) (by omega) (by omega) O) ?_;simp only[J];refine bJ m 2 O O Ai Jl O (by decide) O O (by rw[dZ sv1,ef];omega) (((m.o 6 rfl).lat sv1 (by decide)).cellsD sv1 (by decide) (m.o 6 rfl).le) (Rj _) (by omega) (by omega) ?_;intro E I u m;simp only[zF,zG] at m;refine aA aI ?_;simp only[J];replace m:=(m.pull 2 O).mv 5 O;simp only[bG,bH,zF,zG] at m;apply aL 1 [] m;simp only[↓Z];replace m:=m.pull 4 O;simp only[bG,bH,zF,zG] at m;replace m:=m.pull 2 O;simp only[bG,bH,zF,zG] at m;replace m:=Mem.bagIns (f:=Sl.it 3 1 nB) q (x:=⟨_,_,[(k:Int)]⟩) m;apply aQ 6 [0] m;simp only[↓Z];apply R;omega;rw[show q+1+(d-q)=d+1 by omega] at m ⊢;exact ad (vi-(k+1)) _ _ (by omega) (by kernel_rfl) ⟨k+1,_,(ps.take q++[p]++ps.drop q),(L.take q++[_]++L.drop q),_,_,_,_,O,(((m.reO 5 O ((m.o 5 O).as (by rw[au,au];rfl))).reO 4 rfl ((m.o 4 rfl).as (by rw[au,au];rfl))).sel [N,X7,X7,X7,N,N]),(by simp;omega),(by simp;omega),(by rw[uN];exact Vj q rfl T),(by omega),(λs h=>by rcases bz.1 h with h|h;rcases bz.1 h with h|h;exact f_ (t s (gj h));cases cr.1 h;simp;exact f_ (t s (kq h))),(by omega),O⟩
   apply F 7 [0] m;simp only[↓Z];apply R;omega;exact al (d-(q+1)) _ _ (by omega) (by kernel_rfl) ⟨q+1,O,m,by omega,O⟩
  apply F 3 [0] m;simp only[↓Z];refine mq m aB (by kernel_rfl) (cW 12 [2,0,0,0,0,0,0] ?_);simp only[↓Z,gZ];apply R;omega;refine bD ?_;intro u m;apply aQ 4 [0] m;simp only[↓Z];refine aA aI ?_;replace m:=m.nilO 41 3;apply aL 2 [] m;simp only[↓Z];have aw:=(m.o 4 rfl).le;apply aQ 4 [0] m;simp only[↓Z];refine aA (gR eL aD O O (ab _) (by omega) (by omega)) ?_;simp only[J];refine bJ m 0 O O eL mB O (by decide) O O (by rw[dZ xG,bf,de (by omega)]) ((((m.o 4 O).lat xG (by decide)).take (k:=q) (by omega)).cells xG (by decide)) (Bj _) (by omega) (by omega) ?_;intro D G u m;simp only[zF,zG] at m;rw[cv,ae] at m;rw[ae];apply aL 6 [2,0] m;simp only[↓Z,aW];refine lF O ?_;intro u g2 e g r;replace m:=m.newB e g r;simp only[J];refine bJ m 1 O O eL mB O (by decide) O O O (m.b 0 O).rowsO (fU O) (by omega) (by omega) ?_;intro D G u m;simp only[zF,zG] at m;apply aL 7 [0] m;simp only[↓Z];refine aA (gS eL aD O O (ab _) (by omega) (by omega) O) ?_;simp only[J];refine bJ m 1 O O eL mB O (by decide) O O (by rw[dZ xG,ef];omega) (((m.o 5 rfl).lat xG (by decide)).cellsD xG (by decide) (m.o 5 rfl).le) (Bj _) (by omega) (by omega) ?_;intro D G u m;simp only[zF,zG] at m;refine aA aI ?_;simp only[J];replace m:=(m.pull 1 O).mv 4 O;simp only[bG,bH,zF,zG] at m;apply aL 3 [0] m;simp only[↓Z];refine aA aI ?_;replace m:=m.nilO 22 1;apply aL 2 [] m;simp only[↓Z];have ax:=(m.o 4 rfl).le;apply aQ 4 [0] m;simp only[↓Z];refine aA (gR Ai iF O O (ab _) (by omega) (by omega)) ?_;simp only[J];refine bJ m 0 O O Ai Jl O (by decide) O O (by rw[dZ sv1,bf,de (by omega)]) ((((m.o 4 O).lat sv1 (by decide)).take (k:=q) (by omega)).cells sv1 (by decide)) (Rj _) (by omega) (by omega) ?_;intro E I u m;simp only[zF,zG] at m;rw[cv,ae] at m;rw[ae];apply aL 6 [0] m;simp only[↓Z];refine cO cF (z:=U 0) (by kernel_rfl) O O O ?_;intro u g3 e g r;replace m:=m.newB e g r;simp only[J];replace m:=m.own 0 O (n:=1) (c:=1) O (eU O);simp only[zG] at m;refine cO Ai (z:=.slice X8 0 0) (by kernel_rfl) O O O ?_;intro u g4 e g r;replace m:=m.newB e g r;simp only[J];refine bJ m 2 O O Ai Jl O (by decide) O O O (m.b 0 O).rowsO (fU O) (by omega) (by omega) ?_;intro E I u m;simp only[zF,zG] at m;apply aL 6 [0] m;simp only[↓Z];refine aA (gS Ai iF O O (ab _) (by omega) (by omega) O) ?_;simp only[J];refine bJ m 2 O O Ai Jl O (by decide) O O (by rw[dZ sv1,ef];omega) (((m.o 6 rfl).lat sv1 (by decide)).cellsD sv1 (by decide) (m.o 6 rfl).le) (Rj _) (by omega) (by omega) ?_;intro E I u m;simp only[zF,zG] at m;refine aA aI ?_;simp only[J];replace m:=(m.pull 2 O).mv 5 O;simp only[bG,bH,zF,zG] at m;apply aL 1 [] m;simp only[↓Z];replace m:=m.pull 4 O;simp only[bG,bH,zF,zG] at m;replace m:=m.pull 2 O;simp only[bG,bH,zF,zG] at m;replace m:=Mem.bagIns (f:=Sl.it 3 1 nB) q (x:=⟨_,_,[(k:Int)]⟩) m;apply aQ 6 [0] m;simp only[↓Z];apply R;omega;rw[show q+1+(d-q)=d+1 by omega] at m ⊢;exact ad (vi-(k+1)) _ _ (by omega) (by kernel_rfl) ⟨k+1,_,(ps.take q++[p]++ps.drop q),(L.take q++[_]++L.drop q),_,_,_,_,O,(((m.reO 5 O ((m.o 5 O).as (by rw[au,au];rfl))).reO 4 rfl ((m.o 4 rfl).as (by rw[au,au];rfl))).sel [N,X7,X7,X7,N,N]),(by simp;omega),(by simp;omega),(by rw[uN];exact Vj q rfl T),(by omega),(λs h=>by rcases bz.1 h with h|h;rcases bz.1 h with h|h;exact f_ (t s (gj h));cases cr.1 h;simp;exact f_ (t s (kq h))),(by omega),O⟩
 obtain rfl:k=vi:=by omega
 apply F 7 [] m;simp only[↓Z];exact aS O O ⟨_,O,m.ext,_,_,_,L,O,ag,T,aq,m.sel [N,N,X7]⟩
def abk{L:List (Sl Int)}{q j:Nat}{s:Sl Int}{z:Int}{u:an}(h:∀j∈L.map (Sl.it E 1 nB),j.P u)(b:L[q]? = H s)(c:s.l[j]? = H z):∃a,s.A=H a:=
 let ⟨a,e,_⟩:=(Sl.at in1 (by decide) (h _ (fg (ak b)))).r.row j _ c
 ⟨a,e⟩
def abl{L:List (Sl Int)}{q j:Nat}{s:Sl Int}{z:Int}{a:Addr}{u:an}(h:∀j∈L.map (Sl.it E 1 nB),j.P u)(f:L[q]? = H s)(g:s.l[j]? = H z)(c:s.A=H a):u.cell? (a.add j)=H (U z):=by
 obtain⟨b,e,d⟩:=(Sl.at in1 (by decide) (h _ (fg (ak f)))).r.row j _ g;cases c.symm.trans e;exact nY d
def ajp(x:Int):∃y:Int,(if x<1 then 1 else x)=y/\1<=y:=⟨_,rfl,by split<;>omega⟩
def ajq{n:Nat}(h:1<=y)(a:0<n):∃k:Nat,(if (n:Int)<y then (n:Int) else y)=(k:Int)/\1<=k/\k<=n:=by
 refine⟨(if (n:Int)<y then (n:Int) else y:Int).toNat,?_,?_,?_⟩<;>split<;>omega
def Rt(w:an)(C:cI w A vi ts)(hN:vi<=100000):cX X9 46 [.slice A vi cap,U most] w (λv w'=>∃(Q:Option Addr) (n c:Nat) (L:List (Sl T3)),v=.slice Q n c/\L.length=n/\yW L vi/\Mem w w' [fN (L.map (Sl.it 43 9 aP)),oI 44 1 Q n c (L.flatMap Lx)]):=by
 refine⟨bP func46 (by kernel_rfl),?_⟩;have m:=Mem.refl w
 go_enter func46,ntmps46
 apply iD 10 [] m;simp only[↓Z];obtain⟨mm,ai,ah⟩:=ajp most;rw[ai];apply aQ 3 [0] m;simp only[↓Z];refine bB O O (uH _ (C.ext m.ext) (by omega)) ?_;rintro v u y ⟨k,r,a,ak,rfl,D⟩;replace m:=m.newO y D;have af:a=vi:=by rw[ak];exact C.len
 apply aL 4 [0] m;simp only[↓Z];refine aA aI ?_;replace m:=m.nilO 44 1;apply aL 1 [] m;simp only[↓Z];replace m:=m.bagNil;apply aQ 2 [0] m;simp only[↓Z];refine bT [5,6] [7,8,13,14,15,16,17,18,19,20,21,22,23,24,25,26,27,28,29,30] (λn vs wl=>∃(q i e cb:Nat) (B g:Option Addr) (s:Nat) (L:List (Sl T3)),vs=[.slice B e cb,.slice g i s]/\Mem w wl [fN (L.map (Sl.it 43 9 aP)),oI 44 1 g i s (L.flatMap Lx),oI 43 9 k a r ((bS ts).flatMap aP)]/\(∀u,(oI 43 9 k a r ((bS ts).flatMap aP)).P u->cI u B e ((bS ts).drop q))/\(e=a-q)/\(e<=cb)/\(L.length=i)/\(yW L q)/\(q<=a)/\(n=a-q)) ?_ ?_
 . have am:=nK C.it
   exact⟨_,0,_,_,_,_,_,_,[],rfl,m,(λu E=>(show Ow { u with heap:=#[] } u [] 43 9 k a r ((bS ts).flatMap aP) from⟨E,λ_ _ h=>(by cases h),λ_ h=>(by cases h)⟩).tris am),(by omega),(m.o 2 rfl).le,rfl,yW.nil,(by omega),rfl⟩
 intro n vs wr W u K1 aa
 obtain⟨q,i,e,cb,B,g,s,L,rfl,m,S,aq,ag,ad,G,hq,hn⟩:=W;have ar:=G.len;simp only[zu,zF,zG];apply F 7 [0,0] m;simp only[↓Z,gN];refine aZ O ?_ ?_<;>intro ao
 .have ax:0<e:=by omega
  apply F 10 [] m;simp only[↓Z,gN];obtain⟨nn,al,aj,T⟩:=ajq ah (show 0<e by omega);rw[al];apply aQ 2 [0] m;simp only[↓Z];refine aA aI ?_;replace m:=m.nilO 43 9;apply aL 7 [0] m;simp only[↓Z];have V:=S _ (m.get 3 rfl);have K:=V.takeL T;have av:=K.len;refine aA (gR gB bK O O (ab _) (by omega) (by omega)) ?_;simp only[J];refine bJ m 0 O O gB mS O (by decide) O O (by rw[tA,K.len]) (cI.cells K) (qF _) (by omega) (by omega) ?_;intro p M u m;simp only[zF,zG] at m;rw[cv,ae] at m;rw[ae];simp only[J];refine cO If (z:=.slice X8 0 0) (by kernel_rfl) O O O ?_;intro u g1 y D Y;replace m:=m.newB y D Y;simp only[J];refine bJ m 3 O O If Xn O (by decide) O O O (m.b 0 O).rowsO (fU O) (by omega) (by omega) ?_;intro g aw u m;simp only[zF,zG] at m;apply aL 2 [] m;simp only[↓Z];have ap:=(jZ ts)
  obtain⟨d,j⟩:∃d:Sl T3,d=⟨p,M,((bS ts).drop q).take nn⟩:=⟨_,rfl⟩
  have I:d.l.length=nn:=by rw[j];simp;omega
  rw[show oI 43 9 p nn M _=d.it 43 9 aP by rw[Sl.it,I,j]] at m;replace m:=m.pull 2 O;simp only[bG,bH,zF,zG] at m;replace m:=m.pull 2 O;simp only[bG,bH,zF,zG] at m;replace m:=Mem.bagSnoc (f:=(Sl.it 43 9 aP)) (x:=d) m;apply aQ 3 [0] m;simp only[↓Z];refine aA (gS gB bK O O (ab _) (by omega) (by omega) O) ?_;apply aL 3 [0] m;simp only[↓Z];exact aa (a-(q+nn)) _ _ (by omega) (by kernel_rfl) ⟨q+nn,_,_,_,_,_,_,(L++[d]),O,((m.reO 2 O ((m.o 2 O).as (by rw[au];show _=_++[d.v];rw[show d.v=.slice p nn M by rw[Sl.v,I,j]];rfl))).sel [N,X7,N,N]),(λu E=>by rw[<-List.drop_drop];exact (S u E).dropL T ag),(by omega),(by omega),(by simp;omega),(G.app (yW.one (by rw[j];exact λt X=>V.it t (gj X)) I aj)),(by omega),O⟩
 obtain rfl:q=a:=by omega
 apply F 7 [] m;simp only[↓Z];exact aS O O ⟨_,O,m.ext,_,_,_,L,O,ad,(by rw[<-af];exact G),m.sel [N,N,X7]⟩
def abm(w:an)(W:cI w A vi ts)(hN:vi<=100000):cX X9 18 [.slice A vi cap,U bits,U most] w (λv w'=>∃(A':Option Addr) (n c:Nat) (L:List (Sl T3)),v=.slice A' n c/\L.length=n/\yW L vi/\Mem w w' [fN (L.map (Sl.it 43 9 aP)),oI 44 1 A' n c (L.flatMap Lx)]):=by
 refine⟨bP func18 (by kernel_rfl),?_⟩;have m:=Mem.refl w;have aT:=W.len
 go_enter func18,ntmps18
 apply iD 6 [0] m;simp only[↓Z];refine aA aI ?_;replace m:=m.nilO 44 1;apply aL 1 [] m;simp only[↓Z];replace m:=m.bagNil;apply aQ 6 [0] m;simp only[↓Z];refine bT [7,8] [14,15,16,17,18,19,20,21,22,23,24,25,26,27] (λn vs E=>∃(k C:Nat) (K:Option Addr) (T:Nat) (a:List (Sl T3)),vs=[.slice K C T,U (k:Int)]/\Mem w E [fN (a.map (Sl.it 43 9 aP)),oI 44 1 K C T (a.flatMap Lx)]/\(a.length=C)/\(yW a k)/\(∀s∈a,s.l.length<=100000)/\(C=k)/\(k<=vi)/\(n=vi-k)) ?_ ?_
 .exact⟨_,0,_,_,_,[],rfl,m,rfl,yW.nil,(λs h=>by cases h),rfl,by omega,rfl⟩
 intro n vs wr q u K1 ao
 obtain⟨k,C,K,T,a,rfl,m,aE,af,h1,am,hk,hn⟩:=q;simp only[zu,zF,zG];apply F 8 [0,0] m;simp only[↓Z,gN];refine aZ O ?_ ?_<;>intro aG
 .obtain⟨t,ht,aa,a0,V,ad⟩:=W.get (i:=k) (by omega);subst V;apply F 9 [0,1,0] m;simp only[↓Z,eY,ab,ae];refine⟨_,λu m=>(show eZ _ _ _ _ (tr t) from (ad.ext m.ext).lies eD bK),by omega,?_⟩;refine jL O ?_;intro u g1 e y B;replace m:=m.newB e y B;simp only[J];replace m:=m.own 0 O (n:=1) (c:=9) O (eU O);simp only[zG] at m;refine cO If (z:=.slice X8 0 0) (by kernel_rfl) O O O ?_;intro u g2 e y B;replace m:=m.newB e y B;simp only[J];refine bJ m 3 O O If Xn O (by decide) O O O (m.b 0 O).rowsO (fU O) (by omega) (by omega) ?_;intro K aX u m;simp only[zF,zG] at m;apply aL 2 [] m;simp only[↓Z];replace m:=m.pull 2 O;simp only[bG,bH,zF,zG] at m;replace m:=m.pull 2 O;simp only[bG,bH,zF,zG] at m;replace m:=Mem.bagSnoc (f:=(Sl.it 43 9 aP)) (x:=⟨_,_,[t]⟩) m;apply aQ 6 [0] m;simp only[↓Z];apply R;omega;exact ao (vi-(k+1)) _ _ (by omega) (by kernel_rfl) ⟨k+1,_,_,_,(a++[_]),O,((m.reO 2 O ((m.o 2 O).as (by rw[au];rfl))).sel [N,X7,N]),(by simp;omega),(af.app (yW.one (s:=⟨_,_,[t]⟩) (by simpa using aa) rfl (bg _))),(oV h1 (by simp)),(by omega),(by omega),rfl⟩
 obtain rfl:k=vi:=by omega
 apply F 5 [0] m;simp only[↓Z];refine bB O O (Lz (xs:=a.map Sl.l) _ (Rm (m.o 1 O) (m.get 0 O).1 af.it) (by omega) (by simpa using h1)) ?_;rintro v u e ⟨A9,p,c9,d,rfl,aF,S,aN,r⟩;replace m:=m.plus r;clear r;simp only[dx,cv] at m;apply aL 4 [0] m;simp only[↓Z];refine aA aI ?_;replace m:=m.nilO 44 1;apply aL 1 [] m;simp only[↓Z];replace m:=m.bagNil;apply aQ 6 [0] m;simp only[↓Z];refine bT [10,11] [12,13,31,32,33,34,35,36,37,38,39,40,41,42,43,44,45,46,47,48,49,50,51,52,53,54,55,56,57,58,59,60,61,62,63] (λn vs E=>∃(i I:Nat) (G:Option Addr) (P:Nat) (L:List (Sl T3)),vs=[.slice G I P,U (i:Int)]/\Mem w E [fN (L.map (Sl.it 43 9 aP)),oI 44 1 G I P (L.flatMap Lx),fN (d.map (Sl.it 3 1 nB)),oI 22 1 A9 p c9 (d.flatMap Lx)]/\(L.length=I)/\(yW L ((d.take i).flatMap Sl.l).length)/\(i<=p)/\(n=p-i)) ?_ ?_
 .exact⟨_,0,_,_,_,[],O,(m.sel [N,N,N,N,X7,X7]),O,yW.nil,by omega,O⟩
 intro n vs wr q u K2 aq
 obtain⟨i,I,G,P,L,rfl,m,av,Q,hi,hn⟩:=q;have aw:=Rl d i;rw[S.length_eq,xE] at aw;have aR:=Q.len;simp only[zu,zF,zG];apply F 8 [0,0] m;simp only[↓Z,am3];refine aZ O ?_ ?_<;>intro aJ
 .obtain⟨D,g⟩:∃x,d[i]? = H x:=⟨_,ah (by omega)⟩
  obtain⟨g9,rfl⟩:=(m.o 3 rfl).some (by omega);have ax:=Vi g S;have aO:=Fw g;have az:=Rl d (i+1);rw[S.length_eq,xE] at az;apply F 5 [0] m;simp only[↓Z];refine aA aI ?_;replace m:=m.nilO 43 9;apply aL 7 [0] m;simp only[↓Z];refine bT [12,13] [37,38,39,40,41,42,43,44,45,46,47,48,49,50,51,52,53,54,55,56,57,58] (λn vs E=>∃(j:Nat)(M:Option Addr)(Y:Nat)(us:List T3),vs=[.slice M j Y,U (j:Int)]/\Mem w E [oI 43 9 M j Y (us.flatMap aP),fN (L.map (Sl.it 43 9 aP)),oI 44 1 G I P (L.flatMap Lx),fN (d.map (Sl.it 3 1 nB)),oI 22 1 (H ⟨g9,0,X8⟩) p c9 (d.flatMap Lx)]/\(us.length=j)/\(∀t∈us,IT t)/\(j<=D.l.length)/\(n=D.l.length-j)) ?_ ?_
  .exact⟨_,0,_,_,[],rfl,m,rfl,(λt h=>by cases h),by omega,rfl⟩
  intro n vs wr q u K3 ar
  obtain⟨j,M,Y,us,rfl,m,aU,ai,hj,aM⟩:=q;simp only[zu,zF,zG];apply F 7 [0] m;simp only[↓Z,Vf,ab,ae,bi];apply R;omega;refine bA O (lies1 (Rk (m.o 4 O) g) mA) ?_;simp only[J];apply aL 3 [0,0] m;simp only[↓Z,gG];refine aZ O ?_ ?_<;>intro aK
  .obtain⟨z,X⟩:∃x,D.l[j]? = H x:=⟨_,ah (by omega)⟩
   obtain⟨ay,aV⟩:=ax z (ak X);obtain⟨c,rfl⟩:=ee ay;obtain⟨a9,ag⟩:=abk (m.get 3 rfl).1 g X;obtain⟨t,ht,aa,a0,V,ad⟩:=W.get (i:=c) (by omega);subst V;apply F 9 [0] m;simp only[↓Z,Vf,ab,ae,bi];apply R;omega;refine bA O (lies1 (aep (m.o 4 O) g ag) mA) ?_;simp only[J];apply aL 5 [0,2,0,1,0] m;simp only[↓Z,lV,eY,ab,ae,bi];refine⟨_,λu m=>(lies1 (abl (m.get 3 O).1 g X ag) bW),_,λu m=>(show eZ _ _ _ _ (tr t) from (ad.ext m.ext).lies eD bK),by omega,?_⟩;refine jL O ?_;intro u g1 e y B;replace m:=m.newB e y B;simp only[J];refine bJ m 1 O O gB mS O (by decide) O O O (m.b 0 O).rowsO (fU O) (by omega) (by omega) ?_;intro M a2 u m;simp only[zF,zG] at m;apply aL 8 [0] m;simp only[↓Z];apply R;omega;exact ar (D.l.length-(j+1)) _ _ (by omega) (by kernel_rfl) ⟨j+1,_,_,(us++[t]),O,((m.reO 1 O ((m.o 1 O).as (by rw[au];rfl))).sel [X7,N,N,N,N,N]),(by simp;omega),(oV ai aa),(by omega),rfl⟩
  obtain rfl:j=D.l.length:=by omega
  apply F 5 [0] m;simp only[↓Z];refine bB O O (Rt (ts:=us) _ ((m.o 0 O).tris ai) (by omega)) ?_;rintro v u e ⟨aB,aW,aD,al,rfl,aY,aj,r⟩;replace m:=m.plus r;clear r;simp only[dx,cv] at m;have a3:=aj.len;simp only[J];refine bJ m 4 O O If Xn O (by decide) O O (m.o 1 O).own.1 (m.o 1 O).row (Rj _) (by omega) (by omega) ?_;intro G a1 u m;simp only[zF,zG] at m;apply aL 2 [] m;simp only[↓Z];replace m:=m.pull 3 O;simp only[bG,bH,zF,zG] at m;replace m:=m.pull 1 O;simp only[bG,bH,zF,zG] at m;replace m:=Mem.bagApp (f:=(Sl.it 43 9 aP)) m;apply aQ 6 [0] m;simp only[↓Z];apply R;omega;exact aq (p-(i+1)) _ _ (by omega) (by kernel_rfl) ⟨i+1,_,_,_,(L++al),O,((m.reO 3 O ((m.o 3 O).as (by rw[au]))).sel [N,X7,X7,N,N,N]),(by simp;omega),(by rw[Fw g];exact Q.app aj),(by omega),O⟩
 obtain rfl:i=p:=by omega
 rw[ap (by omega),S.length_eq,xE,am] at Q;apply F 7 [] m;simp only[↓Z];exact aS O O ⟨_,O,m.ext,_,_,_,L,O,av,Q,m.sel [N,N,X7,X7]⟩
def Zl(h:gF x):∃r,Int.fdiv x (2^min (Int.toNat 3) IntKind.i64.bits)=r/\gF r:=by
 refine⟨_,O,?_⟩;rw[show (2:Int)^min (Int.toNat 3) IntKind.i64.bits=8 from rfl,Int.fdiv_eq_ediv_of_nonneg _ (by decide)];unfold gF at h ⊢;omega
def abn{C:List Int}(w:an)(E:kO apo 1 w A vi C)(f:∀z∈C,gF z):cX X9 5 [.slice A vi cap,U bits,U most] w (λv w'=>∃(q:Option Addr) (n c k:Nat) (L:List (Sl T3)),v=.slice q n c/\L.length=n/\yW L k/\k<=1536/\Mem w w' [fN (L.map (Sl.it 43 9 aP)),oI 44 1 q n c (L.flatMap Lx)]):=by
 refine⟨bP func5 (by kernel_rfl),?_⟩;have m:=Mem.refl w
 go_enter func5,ntmps5
 apply iD 7 [0] m;simp only[↓Z];refine bB O O (afD _ (E.ext m.ext) f) ?_;rintro v u h ⟨Af,cf,ins,rfl,hF⟩;replace m:=m.ext' h;simp only[J];refine bB O O (abe _ hF) ?_;rintro v u h ⟨ts,⟨e,b⟩,r,D,a,d,rfl,G⟩;replace m:=m.newO h G;clear hF;replace d:=d.symm;apply aL 8 [0] m;simp only[↓Z];refine bT [8] [9,10,14,15,16,17,18,19,20,21,22,23,24,25,26,27,28,29,30,31,32,33,34,35,36,37,38,39,40,41,42,43,44] (λn vs l=>∃(k:Nat)(ts:List T3),vs=[U (k:Int)]/\Mem w l [oI 43 9 r a D (ts.flatMap aP)]/\(ts.length=a)/\(ts.length<=1536)/\(∀t∈ts,IT t)/\(k<=a)/\(n=a-k)) ?_ ?_
 .exact⟨_,0,_,O,m,d,e,b,by omega,O⟩
 intro n vs I f u K1 K
 obtain⟨k,ts,rfl,m,d,e,b,hk,hn⟩:=f;simp only[zu,zF,zG];apply F 8 [0,0] m;simp only[↓Z,gN];refine aZ O ?_ ?_<;>intro ah
 .apply F 8 [0] m;simp only[↓Z];refine bT [9] [10,20,21,22,23,24,25,26,27,28,29,30,31,32,33,34,35,36,37,38,39,40,41,42,43,44] (λn vs l=>∃(j:Nat)(ts:List T3),vs=[U (j:Int)]/\Mem w l [oI 43 9 r a D (ts.flatMap aP)]/\(ts.length=a)/\(ts.length<=1536)/\(∀t∈ts,IT t)/\(j<=3)/\(n=3-j)) ?_ ?_
  .exact⟨_,0,_,O,m,d,e,b,by omega,O⟩
  intro n vs I f u K2 M
  obtain⟨j,ts,rfl,m,d,e,b,hj,aj⟩:=f;simp only[zu,zF,zG];apply F 6 [0,0] m;simp only[↓Z];refine aZ O ?_ ?_<;>intro ai
  .apply F 4 [] m;simp only[↓Z];obtain⟨g,t,rfl,i,T⟩:=alY (c:=j) (m.o 0 rfl) (show k<a by omega) (by omega);apply aQ 4 [0] m;simp only[↓Z];refine aA (aN gB bK O O (by omega) (by omega) Zh) ?_;simp only[J];refine aA (aR fR aD O O (by omega) (by omega) abd) ?_;simp only[J];refine bA O (show eZ _ _ _ _ (pt (t.cor j)) from T.lies aM aD) ?_;simp only[J];apply kZ 3 [0] m;simp only[↓Z,gC,aW,aa];intro g1 u m;obtain⟨V,W,X⟩:=Zg (b t (ak i)) (c:=j);obtain⟨x,Y,ab⟩:=Zl V;obtain⟨y,ad,ae⟩:=Zl W;obtain⟨B,af,ag⟩:=Zl X;refine gc (cC m 15 aB (by kernel_rfl) ?_);simp only[zy];refine cW 5 [1] ?_;simp only[↓Z,iR,dN,aa];refine aK (lH O O (by omega) Y) (cW 2 [1] ?_);simp only[↓Z,iJ,dN,aa];refine aK (lH O O (by omega) ad) (cW 2 [1] ?_);simp only[↓Z,iS,dN,aa];refine aK (lH O O (by omega) af) (aK (nV O O O) ?_);simp only[J];refine aK (aN gB bK O O (by omega) (by omega) Zh) ?_;simp only[J];refine aK (aR fR aD O O (by omega) (by omega) abd) (bD ?_);intro u m;simp only[J];refine kR (off:=(k*9+j*3)) m 1 O O O aD (by simp;omega) rfl ?_;intro u m;simp only[zF,zG] at m;rw[show over (ts.flatMap aP) (k*9+j*3) _=(ts.set k (t.setC j ⟨x,y,B⟩)).flatMap aP from ag5 (p:=⟨x,y,B⟩) i (by omega)] at m;refine S ?_;apply aQ 6 [0] m;simp only[↓Z];apply R;omega;exact M (3-(j+1)) _ _ (by omega) (by kernel_rfl) ⟨j+1,_,O,(m.sel [X7,N]),by rw[fc];exact d,by rw[fc];exact e,aej b i ab ae ag,by omega,O⟩
  apply F 7 [0] m;simp only[↓Z];apply R;omega;exact K (a-(k+1)) _ _ (by omega) (by kernel_rfl) ⟨k+1,_,O,m,d,e,b,by omega,O⟩
 apply F 6 [0] m;simp only[↓Z];refine bB O O (abm (ts:=ts) _ ((m.o 0 O).tris b) (by omega)) ?_;rintro v u h ⟨A8,n8,c8,L,rfl,P,Q,s⟩;replace m:=m.plus s;clear s;simp only[dx,cv] at m;apply aL 3 [] m;simp only[↓Z];exact aS O O ⟨_,O,m.ext,_,_,_,_,L,O,P,Q,by omega,m.sel [N,N,X7]⟩
end
section
attribute [local irreducible] be c_ fS Code.wp
def ajr{a:Int}(C:Bd 1000000 a):dO X9 104 [W a] (.tuple #[U (Jw a),.bool (decide (gF a))]):=by
 intro w;refine⟨bP func104 (by kernel_rfl),?_⟩;have d:=eR.refl w;have ak:(digs 65536 a.natAbs).length<=1000000:=rZ C;obtain⟨X,q⟩:∃X,X=a.natAbs:=⟨_,rfl⟩
 rw[<-q] at ak;have ah:X<65536^(digs 65536 X).length:=by have:=kJ (lU X);rwa [fK] at this
 have ai:=lU X
 go_enter func104,ntmps104
 refine L (λK1 Q=>?_);refine f ?_;refine zZ (by simp only[cJ,bL,bZ,ar,E];rfl) ?_;intro w1 M i G b;have a2:=ay d.size G;replace d:=d.trans i;clear i G;simp only[cJ,bL,bZ,ar,E,e,ax];refine aA aI ?_;simp only[cJ,bL,bZ,ar,E,e,ax];refine aA aI ?_;simp only[cJ,bL,bZ,ar,E,e,ax];refine S (Q _ _ ?_);refine L (λK2 T=>?_);refine f (bA O (b.lies bE aJ O O) ?_);simp only[cJ,bL,bZ,ar,E,e,ax];refine bB O O (sC _ (gU C)) ?_;rintro v w2 i ⟨J,K,rfl,l⟩;replace b:=b.ext i;(try replace l:=l.ext i);replace d:=d.trans i;clear i;rw[gT,<-q] at l ⊢;simp only[cJ,bL,bZ,ar,E,e,ax];refine aA aI ?_;simp only[cJ,bL,bZ,ar,E,e,ax];refine S (T _ _ ?_);refine L (λK3 Y=>?_);refine L (λK4 Z=>?_);refine f (aA aF ?_);simp only[cJ,bL,bZ,ar,E,e,ax];refine aA (iL O cF O) ?_;simp only[cJ,bL,bZ,ar,E,e,ax];refine aA (Tp O O) ?_;simp only[cJ,bL,bZ,ar,E,e,ax];refine S (Z _ _ ?_);refine aZ O ?_ ?_<;>intro a3
 .have aH:¬gF a:=alo q (by omega);refine L (λK5 aa=>?_);refine f (aA aI ?_);simp only[cJ,bL,bZ,ar,E,e,ax];refine aA aI ?_;simp only[cJ,bL,bZ,ar,E,e,ax];refine S (aa _ _ ?_);refine gh ?_;try simp only[t,Exit.then]
  refine kN O O O ?_;try simp only[ar,E]
  exact⟨_,O,d,acI aH⟩
 have I:(digs 65536 X).length<=4:=by omega
 refine gg ?_;refine Y _ _ (L (λK6 ad=>?_));refine f (aA aI ?_);simp only[cJ,bL,bZ,ar,E,e,ax];refine S (ad _ _ ?_);refine L (λK7 ae=>?_);refine L (λK8 af=>?_);refine f (aA aF ?_);simp only[cJ,bL,bZ,ar,E,e,ax];refine aA (iL O cF O) ?_;simp only[cJ,bL,bZ,ar,E,e,ax];refine aA (pW O O (bN (by omega) (by omega))) ?_;simp only[cJ,bL,bZ,ar,E,e,ax];refine aA aI ?_;simp only[cJ,bL,bZ,ar,E,e,ax];refine S (af _ _ ?_);refine gn (uT [5,6] [15,16,17,18,19,20,21,22,23,24,25,26] (λn vs o=>∃(k:Nat),vs=[.int .u64 ((val 65536 ((digs 65536 X).drop k):Nat):Int),U ((k:Int)-1)]/\(eR w o)/\(fQ o M [.bool (cQ a),.string (dQ a)] 37)/\(eE o o.heap.size J (digs 65536 X).length K (digs 65536 X))/\(k<=(digs 65536 X).length)/\(n=k)) ?_ ?_)
 .rw[show (0:Int)=((val 65536 ((digs 65536 X).drop (digs 65536 X).length):Nat):Int) by rw[j_];rfl];apply Exists.intro;simp only[df,fj,ar,E];exact⟨(digs 65536 X).length,O,d,b,l.here,bg _,O⟩
 intro n vs wr P u;obtain⟨k,rfl,d,b,l,hk,hn⟩:=P;simp only[zu,e,ax];refine L (λK9 ag=>?_);refine L (λaK an=>?_);refine f (aA aF ?_);simp only[cJ,bL,bZ,ar,E,e,ax];refine aA (zY O O) ?_;simp only[cJ,bL,bZ,ar,E,e,ax];refine S (an _ _ ?_);refine aZ O ?_ ?_<;>intro a4
 .obtain⟨j,rfl⟩:∃j,k=j+1:=⟨k-1,by omega⟩
  rw[show (((j+1:Nat):Int)-1)=(j:Int) by omega];obtain⟨p,rfl,F,al⟩:=l.get (show j<(digs 65536 X).length by omega);have z:=oL (B:=65536) (xs:=digs 65536 X) (k:=j+1) (by omega) (by simp only[g_];omega);simp only[g_] at z;have am:=ahS (j:=j) I ai (by omega);obtain⟨V,y⟩:∃V,V=val 65536 ((digs 65536 X).drop (j+1)):=⟨_,rfl⟩
  obtain⟨x,D⟩:∃x,x=(digs 65536 X)[j]:=⟨_,rfl⟩
  rw[<-y,<-D] at z;rw[<-y] at am;rw[<-y];rw[<-D] at F al;refine gg (ag _ _ ?_);refine L (λaL ao=>?_);refine gn (f ?_);refine aA aF ?_;simp only[cJ,bL,bZ,ar,E,e,ax];refine aA (lT O O (oK (by omega) (by omega))) ?_;simp only[cJ,bL,bZ,ar,E,e,ax];refine aA aF ?_;simp only[cJ,bL,bZ,ar,E,e,ax];refine aA aF ?_;simp only[cJ,bL,bZ,ar,E,e,ax];refine aA (aN cF bC O O (by omega) (by omega) (lK (ab _))) ?_;simp only[cJ,bL,bZ,ar,E,e,ax];refine bA O (lies1 F bW) ?_;simp only[cJ,bL,bZ,ar,E,e,ax];refine aA (iU nE mG O (oK (by omega) (by omega))) ?_;simp only[cJ,bL,bZ,ar,E,e,ax];refine aA (eH O O (oK (by omega) (by omega))) ?_;simp only[cJ,bL,bZ,ar,E,e,ax];refine aA aI ?_;simp only[cJ,bL,bZ,ar,E,e,ax];refine S (ao _ _ ?_);refine f (aA aF ?_);simp only[cJ,bL,bZ,ar,E,e,ax];refine aA (pW O O (bN (by omega) (by omega))) ?_;simp only[cJ,bL,bZ,ar,E,e,ax];refine aA aI ?_;simp only[cJ,bL,bZ,ar,E,e,ax];refine S ?_;rw[show ((V:Int)*65536+(x:Int))=((val 65536 ((digs 65536 X).drop j):Nat):Int) by exact ahU z];simp only[t,Exit.then];refine⟨j,_,?_,O,?_,?_⟩
  .omega
  .simp only[zu,df,fj,ar,E,e,ax]
  simp only[df,fj,ar,E];exact⟨j,O,d,b,l.here,by omega,O⟩
 obtain rfl:k=0:=by omega
 have a7:=aoO I ah;refine wp_exit (ae _ _ ?_);refine L (λaM A=>?_);refine L (λaP r=>?_);simp only[kv,fK];rcases afs q with ⟨g,m,h,s⟩|⟨g,m,h⟩|⟨g,m,h⟩|⟨g,m,h,s⟩
 .rw[g] at b;refine f (aA (aO (c:=0) Ec O dV O O) ?_);simp only[cJ,bL,bZ,ar,E,e,ax];refine bA O (b.lies1 eW O) ?_;simp only[cJ,bL,bZ,ar,E,e,ax];refine aA aF ?_;simp only[cJ,bL,bZ,ar,E,e,ax];refine bQ O (aA aF ?_);simp only[cJ,bL,bZ,ar,E,e,ax];refine bQ O (aA (anE O O (by omega)) ?_);simp only[cJ,bL,bZ,ar,E,e,ax];refine aA (dT O) ?_;simp only[cJ,bL,bZ,ar,E,e,ax];refine S (r _ _ ?_);refine mX O (L (λaQ ap=>?_));refine f (aA aF ?_);simp only[cJ,bL,bZ,ar,E,e,ax];refine aA (sU O O) ?_;simp only[cJ,bL,bZ,ar,E,e,ax];refine aA (iU mG nE O (ahT m)) ?_;simp only[cJ,bL,bZ,ar,E,e,ax];refine aA aI ?_;simp only[cJ,bL,bZ,ar,E,e,ax];refine aA aI ?_;simp only[cJ,bL,bZ,ar,E,e,ax];refine S (ap _ _ ?_);refine gh ?_;try simp only[t,Exit.then]
  refine kN O O O ?_;try simp only[ar,E]
  exact⟨_,O,d,adV h s.symm⟩
 .rw[g] at b;refine f (aA (aO (c:=0) Ec O dV O O) ?_);simp only[cJ,bL,bZ,ar,E,e,ax];refine bA O (b.lies1 eW O) ?_;simp only[cJ,bL,bZ,ar,E,e,ax];refine aA aF ?_;simp only[cJ,bL,bZ,ar,E,e,ax];refine bQ O (aA aF ?_);simp only[cJ,bL,bZ,ar,E,e,ax];refine bQ O (aA (anF O O (by omega)) ?_);simp only[cJ,bL,bZ,ar,E,e,ax];refine aA (dT O) ?_;simp only[cJ,bL,bZ,ar,E,e,ax];refine S (r _ _ ?_);refine Aj O (gg ?_);refine A _ _ (L (λaR a5=>?_));refine L (λaS au=>?_);refine f (aA aF ?_);simp only[cJ,bL,bZ,ar,E,e,ax];refine aA (xL O O (by omega)) ?_;simp only[cJ,bL,bZ,ar,E,e,ax];refine S (au _ _ ?_);refine mX O (L (λaT av=>?_));refine f (aA aI ?_);simp only[cJ,bL,bZ,ar,E,e,ax];refine aA aI ?_;simp only[cJ,bL,bZ,ar,E,e,ax];refine S (av _ _ ?_);refine gh ?_;try simp only[t,Exit.then]
  refine kN O O O ?_;try simp only[ar,E]
  exact⟨_,O,d,acI h⟩
 .rw[g] at b;refine f (aA (aO (c:=0) Ec O dV O O) ?_);simp only[cJ,bL,bZ,ar,E,e,ax];refine bA O (b.lies1 eW O) ?_;simp only[cJ,bL,bZ,ar,E,e,ax];refine aA aF ?_;simp only[cJ,bL,bZ,ar,E,e,ax];refine eF O ?_;simp only[cJ,bL,bZ,ar,E,e,ax];refine eF O ?_;simp only[cJ,bL,bZ,ar,E,e,ax];refine aA (gD O) ?_;simp only[cJ,bL,bZ,ar,E,e,ax];refine S (r _ _ ?_);refine Aj O (gg ?_);refine A _ _ (L (λaV a6=>?_));refine L (λaW az=>?_);refine f (aA aF ?_);simp only[cJ,bL,bZ,ar,E,e,ax];refine aA (xL O O (by omega)) ?_;simp only[cJ,bL,bZ,ar,E,e,ax];refine S (az _ _ ?_);refine mX O (L (λaX aB=>?_));refine f (aA aI ?_);simp only[cJ,bL,bZ,ar,E,e,ax];refine aA aI ?_;simp only[cJ,bL,bZ,ar,E,e,ax];refine S (aB _ _ ?_);refine gh ?_;try simp only[t,Exit.then]
  refine kN O O O ?_;try simp only[ar,E]
  exact⟨_,O,d,acI h⟩
 rw[g] at b;refine f (aA (aO (c:=0) Ec O dV O O) ?_);simp only[cJ,bL,bZ,ar,E,e,ax];refine bA O (b.lies1 eW O) ?_;simp only[cJ,bL,bZ,ar,E,e,ax];refine aA aF ?_;simp only[cJ,bL,bZ,ar,E,e,ax];refine eF O ?_;simp only[cJ,bL,bZ,ar,E,e,ax];refine eF O ?_;simp only[cJ,bL,bZ,ar,E,e,ax];refine aA (gD O) ?_;simp only[cJ,bL,bZ,ar,E,e,ax];refine S (r _ _ ?_);refine Aj O (gg ?_);refine A _ _ (L (λaY aC=>?_));refine L (λa0 aD=>?_);refine f (aA aF ?_);simp only[cJ,bL,bZ,ar,E,e,ax];refine aA (Ay O O (by omega)) ?_;simp only[cJ,bL,bZ,ar,E,e,ax];refine S (aD _ _ ?_);refine Aj O (gg ?_);refine aC _ _ (L (λa1 aE=>?_));refine f (aA aF ?_);simp only[cJ,bL,bZ,ar,E,e,ax];refine aA (iU mG nE O (bN (by omega) (by omega))) ?_;simp only[cJ,bL,bZ,ar,E,e,ax];refine aA aI ?_;simp only[cJ,bL,bZ,ar,E,e,ax];refine aA aI ?_;simp only[cJ,bL,bZ,ar,E,e,ax];refine S (aE _ _ ?_);refine gh ?_;try simp only[t,Exit.then]
 refine kN O O O ?_;try simp only[ar,E]
 exact⟨_,O,d,adV h s.symm⟩
end
end Go.Proofs.YtbbokjbcdkgfgaaGreatDoor
