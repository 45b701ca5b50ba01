/-
 Texts of one claim, laid together: K14, K15, K17, K18, Nest, Nest2, K19, Cn, Co, K20, K21, K22, K23, Mono, Cp, K24, K25, Trav, K27, K28, K29, Sh, Wq, Cq, K89, K90, Join, Open5, Open8.
-/
import Derived.RunT
import Derived.OpenVars
import Derived.OpenShut
import Derived.WalkKit
import Derived.ProofKit
import Derived.Test.YtfekpcimgncioaaGreatDoorWY5
open Nat renaming reduceAdd->aa,reduceMul->ah,zero_add->aj,le_trans->ax,le_refl->ba,zero_le->bu,lt_or_ge->d_,lt_succ_self->fu,le_of_not_lt->im,le_succ->rp
open Int renaming reduceToNat->ag,toNat_natCast->ai,reduceAdd->R
open Go renaming Value->ak,wp_region_lit->am,World->an,wpList->bf,TypeId->bh,Program->cg,MapEntry->cu,wpQuiet->M
open List renaming getElem?_eq_getElem->ap,mem_cons->av,getElem?_eq_some_iff->az,take_of_length_le->a_,length_cons->be,length_append->bg,flatMap_append->bi,map_cons->bm,mem_of_getElem?->bn,mem_singleton->bp,mem_cons_self->bq,mem_cons_of_mem->br,mem_append->bv,not_mem_nil->bw,length_take->bz,pairwise_cons->b_,length_nil->cd,nil_append->cl,mem_map->c_,map_append->db,cons_append->de,map_nil->df,mem_filter->di,mem_flatMap->dj,append_assoc->dm,toList_toArray->dx,length_map->eb,all_eq_true->ej,take_length->fe,any_eq_true->ff,getElem?_map->fi,mem_iff_getElem?->fp,filter_cons->ft,map_toArray->fx,append_nil->fz,length_filter_le->gd,filter_append->gl,mem_map_of_mem->gm,nodup_cons->gv,mem_append_left->g_,mem_append_right->ib,size_toArray->iq,getD_eq_getElem?_getD->ir,map_congr_left->iv,append_toArray->jj,nodup_append->jv,push_toArray->jw,length_set->la,nodup_nil->lx,filter_nil->np,map_eq_append_iff->ou,map_eq_cons_iff->pf,getElem_inj->pj,getElem?_zip_eq_some->pn,filter_eq_nil_iff->pz,perm_cons->rt
open Go.Value renaming bool->bj,okWide->pi
open Bool renaming and_eq_true->bt,false_ne_true->fh,or_eq_true->iy,eq_iff_iff->iz,and_false->ly,true_and->mr,false_and->nc,or_eq_false_iff->ns,and_true->nw,and_self->ow,or_true->qt
open Go.Exit renaming inBlock->cn
open Option renaming getD_some->dt,map_some->fw
open Array renaming getElem?_eq_some_iff->ec,replicate_succ->jg,replicate_zero->jh,eraseIdxIfInBounds->nt,toList_push->qe
open Option.some renaming inj->fq,injEq->gu
open Prod.mk renaming injEq->fy
open List.Perm renaming append_left->ox,refl->qg
set_option maxHeartbeats 8000000
set_option linter.unusedSimpArgs false
set_option linter.defProp false
set_option linter.unusedVariables false
set_option linter.unusedSectionVars false
open And renaming intro->I0
open Bool renaming true->Z,false->X9
open Option renaming some->H,none->G0
open Go.Proofs.Tryz renaming prog->G1
namespace Go.Proofs.YtfekpcimgncioaaGreatDoor
open Go.Proofs.Tryz
open Go.RowKit Go.Lith
set_option maxRecDepth 100000
section
attribute [local irreducible] bf M fY cJ cU Code.wp
variable{q:P3}{t:T3}{k:Nat}
instance {t:T3}{k:Nat}[h:IT t]:I3 (t.cor k):=by
 unfold T3.cor;split
 .exact h.a
 split
 .exact h.b
 exact h.c
def anR:List Nat->Int
 | []=>0
 | [_]=>1
 | [_,_]=>2
 |_=>3
def l3(f:Nat->Int):List Nat->List ak
 | []=>[.int .i64 0,.int .i64 0,.int .i64 0]
 | [a]=>[.int .i64 (f a),.int .i64 0,.int .i64 0]
 | [a,b]=>[.int .i64 (f a),.int .i64 (f b),.int .i64 0]
 |a::b::c::_=>[.int .i64 (f a),.int .i64 (f b),.int .i64 (f c)]
def ack(u:P3):Ka u<3:=by
 unfold Ka
 repeat' split
 all_goals omega
def Wx(p q:P3)(t:T3):Prop:=Ke t.a t.b t.c p=0/\Ke t.a t.b t.c q=0
instance (p q:P3)(t:T3):Decidable (Wx p q t):=inferInstanceAs (Decidable (_/\_))
def Gb(p:P3)(t:T3)(k:Nat):P3:=vV (t.cor k) (t.cor ((k+1)%3)) p
def yZ(p q:P3)(t:T3)(k:Nat):Int:=if Wx p q t then cA (qR (Gb p t k) (Ka t.normal)) else cA (Ke p q (t.cor k) (t.cor ((k+1)%3)))
def Mi{p:P3}(h:Wx p q t):yZ p q t k=cA (qR (Gb p t k) (Ka t.normal)):=Z9 h
def Mj{p:P3}(h:¬Wx p q t):yZ p q t k=cA (Ke p q (t.cor k) (t.cor ((k+1)%3))):=K0 h
def Cv{p:P3}(h:(decide (cA (Ke t.a t.b t.c p)≠0)||decide (cA (Ke t.a t.b t.c q)≠0))=X9):Wx p q t:=by
 simp only[ns,Y7,ne_eq,Decidable.not_not,gX] at h;exact h
def Pc{p:P3}(h:(decide (cA (Ke t.a t.b t.c p)≠0)||decide (cA (Ke t.a t.b t.c q)≠0))=Z):¬Wx p q t:=by
 simp only[gX,iy,Y2,ne_eq] at h;exact λk=>h.elim (· k.1) (· k.2)
def aee{a b c:Int}:Qn (cA a) (cA b) (cA c)↔Qn a b c:=by
 simp only[Qn,acN,akF]
def Wy{a b:Int}:0<cA a*cA b↔0<a*b:=by
 have:=anQ (a:=a) (b:=b);omega
def aqA{p:P3}(d:t.flat):mF p q (xZ (xZ t.a t.b) t.c) (Dt (Dt t.a t.b) t.c)=kB p q t:=by
 unfold kB;rw[show vV t.a t.b t.c=t.normal from rfl];rw[K0 (arE d)]
def auw{p:P3}(d:¬t.flat)(h:0<cA (Ke t.a t.b t.c p)*cA (Ke t.a t.b t.c q)):X9=kB p q t:=by
 unfold kB;rw[show vV t.a t.b t.c=t.normal from rfl];rw[Z9 (Ga d).2,Z9 (Wy.1 h)]
def awv{p:P3}(f:¬t.flat)(h:Wx p q t)(g:k<3)(d:mF p q (t.cor k) (t.cor ((k+1)%3))=Z):Z=kB p q t:=by
 unfold kB;rw[show vV t.a t.b t.c=t.normal from rfl];rw[Z9 (Ga f).2,K0 (by rw[h.1];simp),Z9 (show Ke t.a t.b t.c p=0/\Ke t.a t.b t.c q=0 from h)];have e:k=0\/k=1\/k=2:=by omega
 rcases e with rfl|rfl|rfl
 .rw[show mF p q t.a t.b=Z from d];rfl
 .rw[show mF p q t.b t.c=Z from d,qt];rfl
 rw[show mF p q t.c t.a=Z from d,qt];rfl
def aux{p:P3}(e:¬t.flat)(f:¬0<cA (Ke t.a t.b t.c p)*cA (Ke t.a t.b t.c q))(d:Wx p q t->∀k∈[0,1,2],mF p q (t.cor k) (t.cor ((k+1)%3))=X9):decide (Qn (yZ p q t 0) (yZ p q t 1) (yZ p q t 2))=kB p q t:=by
 unfold kB;rw[show vV t.a t.b t.c=t.normal from rfl];rw[Z9 (Ga e).2,K0 (λh=>f (Wy.2 h))];rw[iz,Y2];by_cases h:Wx p q t
 . rw[Z9 (show Ke t.a t.b t.c p=0/\Ke t.a t.b t.c q=0 from h),show mF p q t.a t.b=X9 from d h 0 (by decide),show mF p q t.b t.c=X9 from d h 1 (by decide),show mF p q t.c t.a=X9 from d h 2 (by decide),Mi h,Mi h,Mi h,aee]
   simp only[Bool.false_or,Bool.or_false,Y2];rw[(Ga e).1];exact Iff.rfl
 rw[K0 (show ¬(Ke t.a t.b t.c p=0/\Ke t.a t.b t.c q=0) from h),Mj h,Mj h,Mj h,aee]
 unfold avF;simp only[iy,bt,Y2,X4];exact Iff.rfl
def acl{p:P3}[I3 p][I3 q][IT t]:eS G1 242 [pt p,pt q,tr t] (.bool (kB p q t)):=by
 intro w;refine⟨bK func242 (by kernel_rfl),?_⟩;have m:=Mem.refl w;refine (callsIn_wide (n:=4)).1 (callsIn_of_wp_marks func242 O trivial ?_ O);simp only[ntmps242,iq,be,cd,aa,Nat.reduceSub,jg,jh,jw,jj,cl,de];refine wpIn_wide.2 ?_;refine aV λK1 k1=>am (Tb m O ?_);intro g1 u m;simp only[I];refine Tb m O ?_;intro g2 u m;simp only[I];refine Tb m O ?_;intro g3 u m;simp only[I];refine kR m iN O ?_;intro U u m;refine E (k1 _ _ ?_);try clear k1 K1
 refine aV λK2 k2=>am (C (aW fN aA O O (by decide) (by decide) O) ?_);simp only[I];refine aS O ((m.b 1 O).lies aF aA O O) ?_;simp only[I,zy,aj,aa,ah,ag];refine C (aW fN aA O O (by decide) (by decide) O) ?_;simp only[I];refine aS O ((m.b 1 O).lies aF aA O O) ?_;simp only[I,zy,aj,aa,ah,ag];refine C (aW fN aA O O (by decide) (by decide) O) ?_;simp only[I];refine aS O ((m.b 1 O).lies aF aA O O) ?_;simp only[I,zy,aj,aa,ah,ag];refine C (aW fN aA O O (by decide) (by decide) O) ?_;simp only[I];refine aS O ((m.b 1 O).lies aF aA O O) ?_;simp only[I,zy,aj,aa,ah,ag];refine nX m O O (uE (a:=t.a) (b:=t.b) (c:=t.a) (d:=t.c)) ?_;intro u m;simp only[I];refine nX m O O (ahP (u:=t.normal)) ?_;intro u m;simp only[I];refine kR m mV O ?_;intro g5 u m;simp only[I];refine dP m 0 O O O bL (X O) ⟨O,O⟩ ?_;intro u m;simp only[I,zy,zx,bR,aa] at m;refine E (k2 _ _ ?_);try clear k2 K2
 refine aV λK3 k3=>aV λT J=>?_;by_cases H:t.flat
 .rw[anP H] at m;refine am (aS O ((m.b 0 O).lies1 bJ O) ?_);simp only[I];refine C (sU O O (by omega)) (E (J _ _ ?_));try clear J T
  refine wU O (aV λK5 k5=>am (C (aW fN aA O O (by decide) (by decide) O) ?_));simp only[I];refine aS O ((m.b 2 O).lies aF aA O O) ?_;simp only[I,zy,aj,aa,ah,ag];refine C (aW fN aA O O (by decide) (by decide) O) ?_;simp only[I];refine aS O ((m.b 2 O).lies aF aA O O) ?_;simp only[I,zy,aj,aa,ah,ag];refine nX m O O (Ay (p:=t.a) (q:=t.b)) ?_;intro u m;refine C aI (C (dV O O) (C (dV O O) ?_));simp only[I];refine kR m eH O ?_;intro V u m;simp only[I];refine kR m eH O ?_;intro Y u m;simp only[I];refine cB m 1 O O O aA (X O) O ?_;intro u m;simp only[zy,zx,bR,zF,zG,aa] at m;refine cB m 0 O O O aA (X O) O ?_;intro u m;simp only[zy,zx,bR,zF,zG,aa] at m;refine E (k5 _ _ ?_);try clear k5 K5
  refine aV λK6 k6=>am (aS O ((m.b 1 O).full aF aA) ?_);simp only[I];refine C (aW fN aA O O (by decide) (by decide) O) ?_;simp only[I];refine aS O ((m.b 4 O).lies aF aA O O) ?_;simp only[I,zy,aj,aa,ah,ag];refine nX m O O (Ay (p:=xZ t.a t.b) (q:=t.c)) ?_;intro u m;refine C aI (C (dV O O) (C (dV O O) ?_));simp only[I];refine kR m eH O ?_;intro g8 u m;simp only[I];refine kR m eH O ?_;intro g9 u m;simp only[I];refine cB m 1 O O O aA (X O) O ?_;intro u m;simp only[zy,zx,bR,zF,zG,aa] at m;refine cB m 0 O O O aA (X O) O ?_;intro u m;simp only[zy,zx,bR,zF,zG,aa] at m;refine E (k6 _ _ ?_);try clear k6 K6
  refine aV λK7 k7=>am (aS O ((m.b 2 O).full aF aA) ?_);simp only[I];refine C (aW fN aA O O (by decide) (by decide) O) ?_;simp only[I];refine aS O ((m.b 6 O).lies aF aA O O) ?_;simp only[I,zy,aj,aa,ah,ag];refine nX m O O (Ay (p:=Dt t.a t.b) (q:=t.c)) ?_;intro u m;refine C aI (C (dV O O) (C (dV O O) ?_));simp only[I];refine kR m eH O ?_;intro S u m;simp only[I];refine kR m eH O ?_;intro af u m;simp only[I];refine cB m 1 O O O aA (X O) O ?_;intro u m;simp only[zy,zx,bR,zF,zG,aa] at m;refine cB m 0 O O O aA (X O) O ?_;intro u m;simp only[zy,zx,bR,zF,zG,aa] at m;refine E (k7 _ _ ?_);try clear k7 K7
  refine aV λK8 k8=>am (aS O ((m.b 10 O).full aF aA) ?_);simp only[I];refine aS O ((m.b 9 O).full aF aA) ?_;simp only[I];refine aS O ((m.b 3 O).full aF aA) ?_;simp only[I];refine aS O ((m.b 0 O).full aF aA) ?_;simp only[I];refine nX m O O (Sf (p:=p) (q:=q) (r:=xZ (xZ t.a t.b) t.c) (s:=Dt (Dt t.a t.b) t.c)) ?_;intro u m;simp only[I];refine dP m 7 O O O mW (X O) ⟨O,O⟩ ?_;intro u m;simp only[I,zy,zx,bR,aa] at m;refine E (k8 _ _ ?_);try clear k8 K8
  refine wp_ret ?_;try simp only[cn,Exit.then,Y4]
  refine arD ?_;refine aU O ⟨_,O,((m.b 7 O).lies1 xV O)⟩ ?_;try simp only[zD,zE]
  exact⟨_,O,m.ext,by rw[aqA H]⟩
 rw[anO H] at m;refine am (aS O ((m.b 0 O).lies1 bJ O) ?_);simp only[I];refine C (Il O O (by omega)) (E (J _ _ ?_));try clear J T
 refine Qs O (wp_skip (k3 _ _ ?_));try clear k3 K3
 refine aV λK9 k9=>?_;simp only[I];refine iF 18 [0,1,2,3,4,5,6,7,8,9,10,11,12,13,14,15] [⟨16,14,3,[G 0]⟩,⟨17,15,3,[G 0]⟩] aD (by kernel_rfl) (al2 ⟨_,_,_,O,by kernel_rfl,_,mV,O⟩ ⟨_,_,_,O,by kernel_rfl,_,mV,O⟩) (ol:=?_) ?bd ?_
 case bd=>simp only[zw,zQ,zR];try rfl
 intro u Q;replace m:=m.ext' Q;refine fT (aW fN aA O O (by decide) (by decide) O) ?_;simp only[I];refine iM O (λu e=>(((m.ext' e).b 2 O).lies aF aA O O)) ?_;simp only[I,zy,aj,aa,ah,ag];refine fT (aW fN aA O O (by decide) (by decide) O) ?_;simp only[I];refine iM O (λu e=>(((m.ext' e).b 2 O).lies aF aA O O)) ?_;simp only[I,zy,aj,aa,ah,ag];refine fT (aW fN aA O O (by decide) (by decide) O) ?_;simp only[I];refine iM O (λu e=>(((m.ext' e).b 2 O).lies aF aA O O)) ?_;simp only[I,zy,aj,aa,ah,ag];refine iM O (λu e=>(((m.ext' e).b 4 O).full aF aA)) ?_;simp only[I];refine iT O O (xM (a:=t.a) (b:=t.b) (c:=t.c) (d:=p)) (fT (aW fN aA O O (by decide) (by decide) O) ?_);simp only[I];refine iM O (λu e=>(((m.ext' e).b 2 O).lies aF aA O O)) ?_;simp only[I,zy,aj,aa,ah,ag];refine fT (aW fN aA O O (by decide) (by decide) O) ?_;simp only[I];refine iM O (λu e=>(((m.ext' e).b 2 O).lies aF aA O O)) ?_;simp only[I,zy,aj,aa,ah,ag];refine fT (aW fN aA O O (by decide) (by decide) O) ?_;simp only[I];refine iM O (λu e=>(((m.ext' e).b 2 O).lies aF aA O O)) ?_;simp only[I,zy,aj,aa,ah,ag];refine iM O (λu e=>(((m.ext' e).b 3 O).full aF aA)) ?_;simp only[I];refine iT O O (xM (a:=t.a) (b:=t.b) (c:=t.c) (d:=q)) (Pp ?_);simp only[I];refine mf2 m (by decide) ?_;intro V Y u m;simp only[zJ,zK,zF,zG];refine dP m 1 O O O bL (X O) ⟨O,O⟩ ?_;intro u m;simp only[I,zy,zx,bR,aa] at m;refine dP m 0 O O O bL (X O) ⟨O,O⟩ ?_;intro u m;simp only[I,zy,zx,bR,aa] at m;refine E (k9 _ _ ?_);try clear k9 K9
 refine aV λaO ak=>aV λaP al=>am (aS O ((m.b 1 O).lies1 bJ O) ?_);simp only[I];refine aS O ((m.b 0 O).lies1 bJ O) ?_;simp only[I];refine C (qW O O (aaE _ _)) (C (acv O O) (E (al _ _ ?_)));try clear al aP
 simp only[I];refine bB O ?_ ?_<;>intro ai
 .refine aV λaR an=>am (dP m 3 O O O mW (X O) ⟨O,O⟩ ?_);intro u m;simp only[I,zy,zx,bR,aa] at m;refine E (an _ _ ?_);try clear an aR
  refine wp_ret ?_;try simp only[cn,Exit.then,Y4]
  refine arD ?_;refine aU O ⟨_,O,((m.b 3 O).lies1 xV O)⟩ ?_;try simp only[zD,zE]
  exact⟨_,O,m.ext,by rw[<-auw H ai]⟩
 refine wp_skip (ak _ _ ?_);try clear ak aO
 refine aV λaT ao=>am (kR m ao3 O ?_);intro g8 u m;refine E (ao _ _ ?_);try clear ao aT
 refine aV λaY ap=>am ?_;simp only[I];refine kR m mV O ?_;intro g9 u m;simp only[I];refine dP m 0 O O O bL (X O) ⟨O,O⟩ ?_;intro u m;simp only[I,zy,zx,bR,aa] at m;refine E (ap _ _ ?_);try clear ap aY
 refine aV λaZ aq=>aV λa0 ar=>am (aS O ((m.b 6 O).full dG bA) ?_);simp only[I];refine aX O O (ahQ (t:=t) _) ?_;rintro v u Q ⟨S,rfl,h_,k_⟩;replace m:=m.newB Q h_ k_;refine E (ar _ _ ?_);try clear ar a0
 refine wp_block ?_;simp only[I];refine ad7 (v1:=λx=>pt (t.cor x)) (v2:=λx=>pt (t.cor ((x+1)%3))) (c1:=λx=>[G (t.cor x).x,G (t.cor x).y,G (t.cor x).z]) (c2:=λx=>[G (t.cor ((x+1)%3)).x,G (t.cor ((x+1)%3)).y,G (t.cor ((x+1)%3)).z]) (T1:=30) (T2:=30) (d1:=18) (d2:=19) (csB:=aM t) (tB:=39) O ak8 (Qo 3 (by omega) S 0 t _ (m.b 0 O)) (λpre=>[bI S (aM t) 39,bI g9 [G (anR pre)] 3,bI g8 (l3 (yZ p q t) pre) 36,bI Y [G (cA (Ke t.a t.b t.c q))] 3,bI V [G (cA (Ke t.a t.b t.c p))] 3,bI g5 [G (Ka t.normal:Int)] 3,bI U [.bool X9] 4,bI g3 [G t.a.x,G t.a.y,G t.a.z,G t.b.x,G t.b.y,G t.b.z,G t.c.x,G t.c.y,G t.c.z] 39,bI g2 [G (q).x,G (q).y,G (q).z] 30,bI g1 [G (p).x,G (p).y,G (p).z] 30]) (λ_=>[bI U [.bool Z] 4]) (λpre=>Wx p q t->∀k∈pre,mF p q (t.cor k) (t.cor ((k+1)%3))=X9) (λpre=>Wx p q t/\∃k∈pre,mF p q (t.cor k) (t.cor ((k+1)%3))=Z) (λ_ i g=>by simp only[av,bw,Y3] at g;rcases g with rfl|rfl|rfl|rfl|rfl|rfl|rfl|rfl|rfl|rfl<;>exact⟨_,_,_,rfl⟩) (λ_ i g=>by simp only[av,bw,Y3] at g;subst g ;exact⟨_,_,_,rfl⟩) (λ_=>rfl) (λ_=>bn (i:=0) rfl) m (λ_ k hk=>by cases hk) ?_ ?_ ?_ ?_
 .intro r pre x W K m hK;simp only[zF,zG];refine pD λa1 au=>cO (Mg m eH O ?_);intro af u m;simp only[I];refine Fw m 0 O O O aA (X O) O ?_;intro u m;simp only[zy,zx,bR,zF,zG,aa] at m;refine E (au _ _ ?_);try clear au a1
  refine cO (Mg m eH O ?_);intro bc u m;simp only[I];refine Fw m 0 O O O aA (X O) O ?_;intro u m;simp only[zy,zx,bR,zF,zG,aa] at m;exact E (hK _ _ _ m)
 .intro r pre x af bc W Q' _ F hN m j R;rcases pre with _|⟨a,_|⟨b,_|⟨c,l⟩⟩⟩
  .simp only[anR,l3] at m;simp only[zF,zG];refine rB (pD λab M=>rB (pD λa2 aw=>cO (aS O ((m.b 6 O).lies1 bJ O) ?_)));simp only[I];refine C (sT O O) (C aI ?_);simp only[I];refine lX O (λA=>bE O ((m.b 5 O).lies1 bJ O)) (gM O (λA=>sT (B A O) O) (C (gY O O O) (C aK (E (aw _ _ ?_)))));try clear aw a2
   simp only[I];refine Cs O ?_ ?_<;>intro h
   .refine Aw m 7 aD (by kernel_rfl) ?_;simp only[zy];refine Ho O (λu m=>((m.b 3 O).lies1 bJ O)) ?_;simp only[I];refine Ho O (λu m=>((m.b 11 O).full aF aA)) ?_;simp only[I];refine Ho O (λu m=>((m.b 10 O).full aF aA)) ?_;simp only[I];refine Ho O (λu m=>((m.b 1 O).full aF aA)) ?_;simp only[I];refine Ho O (λu m=>((m.b 0 O).full aF aA)) ?_;simp only[I];refine ajG O O (xM (a:=p) (b:=q) (c:=t.cor x) (d:=t.cor ((x+1)%3))) (L (aW xT bL O O (by decide) (by decide) O) (bM ?_));intro u m;simp only[I];refine jE m 4 O O O bL (X O) ⟨O,O⟩ ?_;intro u m;simp only[I,zy,zx,bR,aa] at m;refine E (M _ _ ?_);try clear M ab
    refine cO (aS O ((m.b 3 O).lies1 bJ O) ?_);simp only[I];refine C (fZ (m:=0) (n:=1) (r:=1) O O (by decide)) ?_;simp only[I];refine jE m 3 O O O bL (X O) ⟨O,O⟩ ?_;intro u m;simp only[I,zy,zx,bR,aa] at m;refine E ?_
    first
    |(have f:=Pc h;rw[show cA (((q.sub p).cross ((t.cor x).sub p)).dot ((t.cor ((x+1)%3)).sub p))=yZ p q t x from (Mj f).symm] at m;exact j _ _ ⟨m.toMem.sel [X9,X9,Z,Z,Z,Z,Z,Z,Z,Z,Z,Z],m.rx⟩ (λk=>Y0 k f))
    |(have f:= Cv h;rw[show cA (qR (Gb p t x) (Ka t.normal))=yZ p q t x from (Mi f).symm] at m;exact j _ _ ⟨m.toMem.sel [X9, X9, Z, Z, Z, Z, Z, Z, Z, Z, Z, Z], m.rx⟩ (λg k hk=> by
     rcases bv.1 hk with hk|hk
     .exact F g k hk
     rw[bp.1 hk];exact o))
   refine pD λa3 ax=>cO (aS O ((m.b 11 O).full aF aA) ?_);simp only[I];refine aS O ((m.b 10 O).full aF aA) ?_;simp only[I];refine aS O ((m.b 1 O).full aF aA) ?_;simp only[I];refine aS O ((m.b 0 O).full aF aA) ?_;simp only[I];refine Sc m O O (Sf (p:=p) (q:=q) (r:=t.cor x) (s:=t.cor ((x+1)%3))) ?_;intro u m;refine C aK (E (ax _ _ ?_));try clear ax a3
   simp only[I];refine Cs O ?_ ?_<;>intro o
   .refine pD λa4 ay=>cO (jE m 8 O O O mW (X O) ⟨O,O⟩ ?_);intro u m;simp only[I,zy,zx,bR,aa] at m;refine E (ay _ _ ?_);try clear ay a4
    refine Sb ?_;exact R _ _ ⟨m.toMem.sel [X9,X9,X9,X9,X9,X9,X9,X9,Z],m.rx⟩ ⟨Cv h,x,by simp,o⟩
   refine Aw m 9 aD (by kernel_rfl) ?_;simp only[zy];refine Ho O (λu m=>((m.b 3 O).lies1 bJ O)) ?_;simp only[I];refine Ho O (λu m=>((m.b 1 O).full aF aA)) ?_;simp only[I];refine Ho O (λu m=>((m.b 0 O).full aF aA)) ?_;simp only[I];refine Ho O (λu m=>((m.b 1 O).full aF aA)) ?_;simp only[I];refine Ho O (λu m=>((m.b 11 O).full aF aA)) ?_;simp only[I];refine ajG O O (uE (a:=t.cor x) (b:=t.cor ((x+1)%3)) (c:=t.cor x) (d:=p)) ?_;simp only[I];refine Ho O (λu m=>((m.b 7 O).lies1 bJ O)) ?_;simp only[I];refine L ((Fy (v:=Gb p t x) (ack _) O O)) (L (aW xT bL O O (by decide) (by decide) O) (bM ?_));intro u m;simp only[I];refine jE m 4 O O O bL (X O) ⟨O,O⟩ ?_;intro u m;simp only[I,zy,zx,bR,aa] at m;refine E (M _ _ ?_);try clear M ab
   refine cO (aS O ((m.b 3 O).lies1 bJ O) ?_);simp only[I];refine C (fZ (m:=0) (n:=1) (r:=1) O O (by decide)) ?_;simp only[I];refine jE m 3 O O O bL (X O) ⟨O,O⟩ ?_;intro u m;simp only[I,zy,zx,bR,aa] at m;refine E ?_
   first
   |(have f:=Pc h;rw[show cA (((q.sub p).cross ((t.cor x).sub p)).dot ((t.cor ((x+1)%3)).sub p))=yZ p q t x from (Mj f).symm] at m;exact j _ _ ⟨m.toMem.sel [X9,X9,Z,Z,Z,Z,Z,Z,Z,Z,Z,Z],m.rx⟩ (λk=>Y0 k f))
   |(have f:= Cv h;rw[show cA (qR (Gb p t x) (Ka t.normal))=yZ p q t x from (Mi f).symm] at m;exact j _ _ ⟨m.toMem.sel [X9, X9, Z, Z, Z, Z, Z, Z, Z, Z, Z, Z], m.rx⟩ (λg k hk=> by
    rcases bv.1 hk with hk|hk
    .exact F g k hk
    rw[bp.1 hk];exact o))
  .simp only[anR,l3] at m;simp only[zF,zG];refine rB (pD λad N=>rB (pD λa5 az=>cO (aS O ((m.b 6 O).lies1 bJ O) ?_)));simp only[I];refine C (sT O O) (C aI ?_);simp only[I];refine lX O (λA=>bE O ((m.b 5 O).lies1 bJ O)) (gM O (λA=>sT (B A O) O) (C (gY O O O) (C aK (E (az _ _ ?_)))));try clear az a5
   simp only[I];refine Cs O ?_ ?_<;>intro h
   .refine Aw m 7 aD (by kernel_rfl) ?_;simp only[zy];refine Ho O (λu m=>((m.b 3 O).lies1 bJ O)) ?_;simp only[I];refine Ho O (λu m=>((m.b 11 O).full aF aA)) ?_;simp only[I];refine Ho O (λu m=>((m.b 10 O).full aF aA)) ?_;simp only[I];refine Ho O (λu m=>((m.b 1 O).full aF aA)) ?_;simp only[I];refine Ho O (λu m=>((m.b 0 O).full aF aA)) ?_;simp only[I];refine ajG O O (xM (a:=p) (b:=q) (c:=t.cor x) (d:=t.cor ((x+1)%3))) (L (aW xT bL O O (by decide) (by decide) O) (bM ?_));intro u m;simp only[I];refine jE m 4 O O O bL (X O) ⟨O,O⟩ ?_;intro u m;simp only[I,zy,zx,bR,aa] at m;refine E (N _ _ ?_);try clear N ad
    refine cO (aS O ((m.b 3 O).lies1 bJ O) ?_);simp only[I];refine C (fZ (m:=1) (n:=1) (r:=2) O O (by decide)) ?_;simp only[I];refine jE m 3 O O O bL (X O) ⟨O,O⟩ ?_;intro u m;simp only[I,zy,zx,bR,aa] at m;refine E ?_
    first
    |(have f:=Pc h;rw[show cA (((q.sub p).cross ((t.cor x).sub p)).dot ((t.cor ((x+1)%3)).sub p))=yZ p q t x from (Mj f).symm] at m;exact j _ _ ⟨m.toMem.sel [X9,X9,Z,Z,Z,Z,Z,Z,Z,Z,Z,Z],m.rx⟩ (λk=>Y0 k f))
    |(have f:= Cv h;rw[show cA (qR (Gb p t x) (Ka t.normal))=yZ p q t x from (Mi f).symm] at m;exact j _ _ ⟨m.toMem.sel [X9, X9, Z, Z, Z, Z, Z, Z, Z, Z, Z, Z], m.rx⟩ (λg k hk=> by
     rcases bv.1 hk with hk|hk
     .exact F g k hk
     rw[bp.1 hk];exact o))
   refine pD λa6 aC=>cO (aS O ((m.b 11 O).full aF aA) ?_);simp only[I];refine aS O ((m.b 10 O).full aF aA) ?_;simp only[I];refine aS O ((m.b 1 O).full aF aA) ?_;simp only[I];refine aS O ((m.b 0 O).full aF aA) ?_;simp only[I];refine Sc m O O (Sf (p:=p) (q:=q) (r:=t.cor x) (s:=t.cor ((x+1)%3))) ?_;intro u m;refine C aK (E (aC _ _ ?_));try clear aC a6
   simp only[I];refine Cs O ?_ ?_<;>intro o
   .refine pD λa7 aE=>cO (jE m 8 O O O mW (X O) ⟨O,O⟩ ?_);intro u m;simp only[I,zy,zx,bR,aa] at m;refine E (aE _ _ ?_);try clear aE a7
    refine Sb ?_;exact R _ _ ⟨m.toMem.sel [X9,X9,X9,X9,X9,X9,X9,X9,Z],m.rx⟩ ⟨Cv h,x,by simp,o⟩
   refine Aw m 9 aD (by kernel_rfl) ?_;simp only[zy];refine Ho O (λu m=>((m.b 3 O).lies1 bJ O)) ?_;simp only[I];refine Ho O (λu m=>((m.b 1 O).full aF aA)) ?_;simp only[I];refine Ho O (λu m=>((m.b 0 O).full aF aA)) ?_;simp only[I];refine Ho O (λu m=>((m.b 1 O).full aF aA)) ?_;simp only[I];refine Ho O (λu m=>((m.b 11 O).full aF aA)) ?_;simp only[I];refine ajG O O (uE (a:=t.cor x) (b:=t.cor ((x+1)%3)) (c:=t.cor x) (d:=p)) ?_;simp only[I];refine Ho O (λu m=>((m.b 7 O).lies1 bJ O)) ?_;simp only[I];refine L ((Fy (v:=Gb p t x) (ack _) O O)) (L (aW xT bL O O (by decide) (by decide) O) (bM ?_));intro u m;simp only[I];refine jE m 4 O O O bL (X O) ⟨O,O⟩ ?_;intro u m;simp only[I,zy,zx,bR,aa] at m;refine E (N _ _ ?_);try clear N ad
   refine cO (aS O ((m.b 3 O).lies1 bJ O) ?_);simp only[I];refine C (fZ (m:=1) (n:=1) (r:=2) O O (by decide)) ?_;simp only[I];refine jE m 3 O O O bL (X O) ⟨O,O⟩ ?_;intro u m;simp only[I,zy,zx,bR,aa] at m;refine E ?_
   first
   |(have f:=Pc h;rw[show cA (((q.sub p).cross ((t.cor x).sub p)).dot ((t.cor ((x+1)%3)).sub p))=yZ p q t x from (Mj f).symm] at m;exact j _ _ ⟨m.toMem.sel [X9,X9,Z,Z,Z,Z,Z,Z,Z,Z,Z,Z],m.rx⟩ (λk=>Y0 k f))
   |(have f:= Cv h;rw[show cA (qR (Gb p t x) (Ka t.normal))=yZ p q t x from (Mi f).symm] at m;exact j _ _ ⟨m.toMem.sel [X9, X9, Z, Z, Z, Z, Z, Z, Z, Z, Z, Z], m.rx⟩ (λg k hk=> by
    rcases bv.1 hk with hk|hk
    .exact F g k hk
    rw[bp.1 hk];exact o))
  .simp only[anR,l3] at m;simp only[zF,zG];refine rB (pD λae P=>rB (pD λa8 aG=>cO (aS O ((m.b 6 O).lies1 bJ O) ?_)));simp only[I];refine C (sT O O) (C aI ?_);simp only[I];refine lX O (λA=>bE O ((m.b 5 O).lies1 bJ O)) (gM O (λA=>sT (B A O) O) (C (gY O O O) (C aK (E (aG _ _ ?_)))));try clear aG a8
   simp only[I];refine Cs O ?_ ?_<;>intro h
   .refine Aw m 7 aD (by kernel_rfl) ?_;simp only[zy];refine Ho O (λu m=>((m.b 3 O).lies1 bJ O)) ?_;simp only[I];refine Ho O (λu m=>((m.b 11 O).full aF aA)) ?_;simp only[I];refine Ho O (λu m=>((m.b 10 O).full aF aA)) ?_;simp only[I];refine Ho O (λu m=>((m.b 1 O).full aF aA)) ?_;simp only[I];refine Ho O (λu m=>((m.b 0 O).full aF aA)) ?_;simp only[I];refine ajG O O (xM (a:=p) (b:=q) (c:=t.cor x) (d:=t.cor ((x+1)%3))) (L (aW xT bL O O (by decide) (by decide) O) (bM ?_));intro u m;simp only[I];refine jE m 4 O O O bL (X O) ⟨O,O⟩ ?_;intro u m;simp only[I,zy,zx,bR,aa] at m;refine E (P _ _ ?_);try clear P ae
    refine cO (aS O ((m.b 3 O).lies1 bJ O) ?_);simp only[I];refine C (fZ (m:=2) (n:=1) (r:=3) O O (by decide)) ?_;simp only[I];refine jE m 3 O O O bL (X O) ⟨O,O⟩ ?_;intro u m;simp only[I,zy,zx,bR,aa] at m;refine E ?_
    first
    |(have f:=Pc h;rw[show cA (((q.sub p).cross ((t.cor x).sub p)).dot ((t.cor ((x+1)%3)).sub p))=yZ p q t x from (Mj f).symm] at m;exact j _ _ ⟨m.toMem.sel [X9,X9,Z,Z,Z,Z,Z,Z,Z,Z,Z,Z],m.rx⟩ (λk=>Y0 k f))
    |(have f:= Cv h;rw[show cA (qR (Gb p t x) (Ka t.normal))=yZ p q t x from (Mi f).symm] at m;exact j _ _ ⟨m.toMem.sel [X9, X9, Z, Z, Z, Z, Z, Z, Z, Z, Z, Z], m.rx⟩ (λg k hk=> by
     rcases bv.1 hk with hk|hk
     .exact F g k hk
     rw[bp.1 hk];exact o))
   refine pD λa9 aJ=>cO (aS O ((m.b 11 O).full aF aA) ?_);simp only[I];refine aS O ((m.b 10 O).full aF aA) ?_;simp only[I];refine aS O ((m.b 1 O).full aF aA) ?_;simp only[I];refine aS O ((m.b 0 O).full aF aA) ?_;simp only[I];refine Sc m O O (Sf (p:=p) (q:=q) (r:=t.cor x) (s:=t.cor ((x+1)%3))) ?_;intro u m;refine C aK (E (aJ _ _ ?_));try clear aJ a9
   simp only[I];refine Cs O ?_ ?_<;>intro o
   .refine pD λba aL=>cO (jE m 8 O O O mW (X O) ⟨O,O⟩ ?_);intro u m;simp only[I,zy,zx,bR,aa] at m;refine E (aL _ _ ?_);try clear aL ba
    refine Sb ?_;exact R _ _ ⟨m.toMem.sel [X9,X9,X9,X9,X9,X9,X9,X9,Z],m.rx⟩ ⟨Cv h,x,by simp,o⟩
   refine Aw m 9 aD (by kernel_rfl) ?_;simp only[zy];refine Ho O (λu m=>((m.b 3 O).lies1 bJ O)) ?_;simp only[I];refine Ho O (λu m=>((m.b 1 O).full aF aA)) ?_;simp only[I];refine Ho O (λu m=>((m.b 0 O).full aF aA)) ?_;simp only[I];refine Ho O (λu m=>((m.b 1 O).full aF aA)) ?_;simp only[I];refine Ho O (λu m=>((m.b 11 O).full aF aA)) ?_;simp only[I];refine ajG O O (uE (a:=t.cor x) (b:=t.cor ((x+1)%3)) (c:=t.cor x) (d:=p)) ?_;simp only[I];refine Ho O (λu m=>((m.b 7 O).lies1 bJ O)) ?_;simp only[I];refine L ((Fy (v:=Gb p t x) (ack _) O O)) (L (aW xT bL O O (by decide) (by decide) O) (bM ?_));intro u m;simp only[I];refine jE m 4 O O O bL (X O) ⟨O,O⟩ ?_;intro u m;simp only[I,zy,zx,bR,aa] at m;refine E (P _ _ ?_);try clear P ae
   refine cO (aS O ((m.b 3 O).lies1 bJ O) ?_);simp only[I];refine C (fZ (m:=2) (n:=1) (r:=3) O O (by decide)) ?_;simp only[I];refine jE m 3 O O O bL (X O) ⟨O,O⟩ ?_;intro u m;simp only[I,zy,zx,bR,aa] at m;refine E ?_
   first
   |(have f:=Pc h;rw[show cA (((q.sub p).cross ((t.cor x).sub p)).dot ((t.cor ((x+1)%3)).sub p))=yZ p q t x from (Mj f).symm] at m;exact j _ _ ⟨m.toMem.sel [X9,X9,Z,Z,Z,Z,Z,Z,Z,Z,Z,Z],m.rx⟩ (λk=>Y0 k f))
   |(have f:= Cv h;rw[show cA (qR (Gb p t x) (Ka t.normal))=yZ p q t x from (Mi f).symm] at m;exact j _ _ ⟨m.toMem.sel [X9, X9, Z, Z, Z, Z, Z, Z, Z, Z, Z, Z], m.rx⟩ (λg k hk=> by
    rcases bv.1 hk with hk|hk
    .exact F g k hk
    rw[bp.1 hk];exact o))
  exact Y0 hN (by simp)
 rotate_left
 . rintro D pre u hS ⟨f,k,hk,ho⟩ m
   try simp only[cn,Exit.then]
   refine aeO (Def.mk (m.get 0 O)) ?_;replace m:=m.putD (o':=.deferred G0) 0 O;exact aU O ⟨_,O,(m.b 1 O).lies1 xV O⟩ ⟨_,O,m.ext,by rw[<-awv H f (hS k hk) ho]⟩
 rintro D xs u rfl hj m;simp only[anR,l3] at m;refine aq _ _ ?_;try clear aq aZ
 refine aV λbb aN=>am (aS O ((m.b 3 O).full ae3 To) ?_);simp only[I];refine nX m O O (aqy (a:=yZ p q t 0) (b:=yZ p q t 1) (c:=yZ p q t 2)) ?_;intro u m;simp only[I];refine dP m 7 O O O mW (X O) ⟨O,O⟩ ?_;intro u m;simp only[I,zy,zx,bR,aa] at m;refine E (aN _ _ ?_);try clear aN bb
 refine wp_ret ?_;try simp only[cn,Exit.then,Y4]
 refine aeO (Def.mk (m.get 0 O)) ?_;replace m:=m.putD (o':=.deferred G0) 0 O;simp only[zF,zG] at m;refine aU O ⟨_,O,((m.b 7 O).lies1 xV O)⟩ ?_;try simp only[zD,zE]
 exact⟨_,O,m.ext,by rw[aux H ai hj]⟩
end
section
attribute [local irreducible] bf M fY cJ cU Code.wp
attribute [local congr] dK dL cZ dJ
variable{s t:T3}{k g50 g51 N cap g90 ga gf:Nat}{x q u:P3}{ts ms rs:List T3}
def aqB(d:k<3)(h:kB (s.cor k) (s.cor ((k+1)%3)) t=Z):Z=abK s t:=by
 have e:k=0\/k=1\/k=2:=by omega
 unfold abK;rcases e with rfl|rfl|rfl
 .rw[show kB s.a s.b t=Z from h];rfl
 .rw[show kB s.b s.c t=Z from h,qt];rfl
 rw[show kB s.c s.a t=Z from h,qt]
def anS(h:∀k∈[0,1,2],kB (s.cor k) (s.cor ((k+1)%3)) t=X9):X9=abK s t:=by
 unfold abK;rw[show kB s.a s.b t=X9 from h 0 (by decide),show kB s.b s.c t=X9 from h 1 (by decide),show kB s.c s.a t=X9 from h 2 (by decide)];rfl
def aef{l:List ak}{ty:bh}{x y:Operand}(c:k<3)(a:ev l x=tr t)(b:ev l y=G (k:Int)):iD G1 l (.index 39 x y) ty (pt (t.cor k)):=by
 have h:k=0\/k=1\/k=2:=by omega
 rcases h with rfl|rfl|rfl
 .exact jY a b
 .exact jZ a b
 exact kA a b
def anT(t:T3):List P3:=[t.a,t.b,t.c]
def anU(a:k<3):(anT t)[k]? = H (t.cor k):=by
 have h:k=0\/k=1\/k=2:=by omega
 rcases h with rfl|rfl|rfl<;>rfl
def Kb(s t:T3)(k:Nat):List P3:=((anT s).take k).filter λx=>t.has x
def Kc(s t:T3)(k:Nat):List P3:=((anT s).take k).filter λx=>!t.has x
def Mk(a:k<3):Kb s t (k+1)=Kb s t k++if t.has (s.cor k) then [s.cor k] else []:=by
 unfold Kb;rw[bV (anU a),gl,ft,np]
def Ml(a:k<3):Kc s t (k+1)=Kc s t k++if t.has (s.cor k) then [] else [s.cor k]:=by
 unfold Kc;rw[bV (anU a),gl,ft,np];cases t.has (s.cor k)<;>rfl
def ahT(s t:T3)(k:Nat):(Kb s t k).length<=3:=ax (gd _ _) (by rw[bz];exact Nat.min_le_right ..)
def ahU(s t:T3)(k:Nat):(Kc s t k).length<=3:=ax (gd _ _) (by rw[bz];exact Nat.min_le_right ..)
def arG   : ((decide (x.x=t.a.x/\x.y=t.a.y/\x.z=t.a.z)||decide (x.x=t.b.x/\x.y=t.b.y/\x.z=t.b.z))||decide (x.x=t.c.x/\x.y=t.c.y/\x.z=t.c.z))=t.has x:=by
 have e:∀p q:P3,(p.x=q.x/\p.y=q.y/\p.z=q.z)↔p=q:=λp q=>⟨λh=>P3.eq h.1 h.2.1 h.2.2,λh=>by rw[h];exact⟨O,O,O⟩⟩
 rw[iz,gK];simp only[iy,Y2,e,X6]
def Wz(s t:T3):(xB s t).length+(Cb s t).length=3:=by
 rw[asV,asW];cases t.has s.a<;>cases t.has s.b<;>cases t.has s.c<;>rfl
theorem nd_of(h:oY t=X9):t.nd=Z:=by
 have g:Rq (vV t.a t.b t.c)<3:=by
  unfold oY at h;rw[Y7,Decidable.not_not] at h;exact h
 have i:∀p q r:P3,p=q\/q=r\/r=p->vV p q r=⟨0,0,0⟩:=λp q r d=>by
  rcases d with rfl|rfl|rfl<;>(refine P3.eq ?_ ?_ ?_<;>(simp only[vV,P3.sub,P3.cross];grind))
 have f:¬(t.a=t.b\/t.b=t.c\/t.c=t.a):=λd=>by
  rw[i _ _ _ d] at g;exact Y0 g (by decide)
 rw[vM];exact⟨λe=>f (.inl e),λe=>f (.inr (.inl e)),λe=>f (.inr (.inr e))⟩
def agd{s t:T3}(c:oY s=X9)(d:oY t=X9)(a:(xB s t).length≠0) :
 (∃x u v y z,xB s t=[x]/\Cb s t=[u,v]/\Cb t s=[y,z])\/(∃x y u v,xB s t=[x,y]/\Cb s t=[u]/\Cb t s=[v])\/(xB s t).length=3:=by
 have h1:=Wz s t;have h2:=Wz t s;have b:=(alY (nd_of c) (nd_of d)).length_eq;generalize xB s t=L at *
 generalize Cb s t=U at *
 generalize Cb t s=V at *
 rw[<-b] at h2;rcases L with _|⟨x,_|⟨y,_|⟨z,_|⟨e,L⟩⟩⟩⟩
 .exact Y0 O a
 . rcases U with _|⟨u,_|⟨v,_|⟨_,_⟩⟩⟩<;>simp only[be,cd] at h1<;>try omega
   rcases V with _|⟨y,_|⟨z,_|⟨_,_⟩⟩⟩<;>simp only[be,cd] at h2<;>try omega
   exact .inl ⟨x,u,v,y,z,O,O,O⟩
 . rcases U with _|⟨u,_|⟨_,_⟩⟩<;>simp only[be,cd] at h1<;>try omega
   rcases V with _|⟨v,_|⟨_,_⟩⟩<;>simp only[be,cd] at h2<;>try omega
   exact .inr (.inl ⟨x,y,u,v,O,O,O⟩)
 .exact .inr (.inr O)
 simp only[be] at h1;omega
def auy{n:Nat}(a:n=(xB s t).length)(h:(decide ((n:Int)=0)||oY s||oY t)=Z):(abK s t||abK t s)=aan s t:=by
 unfold aan;rw[Z9];rw[iy,iy,Y2] at h;rcases h with (h|h)|h
 .exact .inl (by omega)
 .exact .inr (.inl h)
 exact .inr (.inr h)
def auz{n:Nat}(a:n=(xB s t).length)(h:(decide ((n:Int)=0)||oY s||oY t)=X9):((xB s t).length≠0/\oY s=X9/\oY t=X9)/\aan s t=aha s t (xB s t) (Cb s t) (Cb t s):=by
 rw[ns,ns,Y7] at h;refine⟨⟨λe=>h.1.1 (by omega),h.1.2,h.2⟩,?_⟩;unfold aan;rw[K0];rintro (k|k|k)
 .exact h.1.1 (by omega)
 .rw[h.1.2] at k;cases k
 rw[h.2] at k;cases k
theorem anV[h:IT s](d:x∈anT s):I3 x:=by
 simp only[anT,av,bw,Y3] at d;rcases d with rfl|rfl|rfl
 .exact h.a
 .exact h.b
 exact h.c
theorem anW[IT s]{L:List P3}{i:Nat}(h:xB s t=L)(a:L[i]? = H x):I3 x:=anV (di.1 (h▸bn a:x∈xB s t)).1
theorem Pd[IT s]{L:List P3}{i:Nat}(h:Cb s t=L)(a:L[i]? = H x):I3 x:=anV (di.1 (h▸bn a:x∈Cb s t)).1
def auA{a b c d:P3}:(decide (cA (((b.sub a).cross (c.sub a)).dot (d.sub a))=0)&&decide (cA ((b.sub a).cross (c.sub a)).x=cA ((b.sub a).cross (d.sub a)).x/\cA ((b.sub a).cross (c.sub a)).y=cA ((b.sub a).cross (d.sub a)).y/\cA ((b.sub a).cross (c.sub a)).z=cA ((b.sub a).cross (d.sub a)).z))=aha s t [a,b] [c] [d]:=by
 rw[decide_eq_decide.2 (gX (n:=((b.sub a).cross (c.sub a)).dot (d.sub a)))];rfl
def auB(h:(xB s t).length=3):aha s t (xB s t) (Cb s t) (Cb t s)=Z:=by
 generalize xB s t=L at h;rcases L with _|⟨x,_|⟨y,_|⟨z,L⟩⟩⟩<;>simp only[be,cd] at h<;>try omega
 rfl
def aaG[IT s][IT t]:eS G1 241 [tr s,tr t] (.bool (abK s t)):=by
 intro w;refine⟨bK func241 (by kernel_rfl),?_⟩;have m:=Mem.refl w;refine (callsIn_wide (n:=4)).1 (callsIn_of_wp_marks func241 O trivial ?_ O);simp only[ntmps241,iq,be,cd,aa,Nat.reduceSub,jg,jh,jw,jj,cl,de];refine wpIn_wide.2 ?_;refine aV λF g=>am (Tb m O ?_);intro R u m;simp only[I];refine Tb m O ?_;intro S u m;simp only[I];refine kR m iN O ?_;intro e u m;refine E (g _ _ ?_);try clear g F
 refine aV λH h=>aV λJ j=>am ?_;simp only[I];refine aS O ((m.b 2 O).full dG bA) ?_;simp only[I];refine aX O O (ahQ (t:=s) _) ?_;rintro v u Q ⟨f,rfl,h_,k_⟩;replace m:=m.newB Q h_ k_;refine E (j _ _ ?_);try clear j J
 refine wp_block ?_;simp only[I];refine ad7 (v1:=λx=>pt (s.cor x)) (v2:=λx=>pt (s.cor ((x+1)%3))) (c1:=λx=>[G (s.cor x).x,G (s.cor x).y,G (s.cor x).z]) (c2:=λx=>[G (s.cor ((x+1)%3)).x,G (s.cor ((x+1)%3)).y,G (s.cor ((x+1)%3)).z]) (T1:=30) (T2:=30) (d1:=5) (d2:=6) (csB:=aM s) (tB:=39) O ak8 (Qo 3 (by omega) f 0 s _ (m.b 0 O)) (λ_=>[bI f (aM s) 39,bI e [.bool X9] 4,bI S [G t.a.x,G t.a.y,G t.a.z,G t.b.x,G t.b.y,G t.b.z,G t.c.x,G t.c.y,G t.c.z] 39,bI R [G s.a.x,G s.a.y,G s.a.z,G s.b.x,G s.b.y,G s.b.z,G s.c.x,G s.c.y,G s.c.z] 39]) (λ_=>[bI e [.bool Z] 4]) (λpre=>∀k∈pre,kB (s.cor k) (s.cor ((k+1)%3)) t=X9) (λpre=>∃k∈pre,kB (s.cor k) (s.cor ((k+1)%3)) t=Z) (λ_ i d=>by simp only[av,bw,Y3] at d;rcases d with rfl|rfl|rfl|rfl<;>exact⟨_,_,_,rfl⟩) (λ_ i d=>by simp only[av,bw,Y3] at d;subst d ;exact⟨_,_,_,rfl⟩) (λ_=>rfl) (λ_=>bn (i:=0) rfl) m (λk hk=>by cases hk) ?_ ?_ ?_ ?_
 .intro r pre x W K m Y;simp only[zF,zG];refine pD λL l=>cO (Mg m eH O ?_);intro T u m;simp only[I];refine Fw m 0 O O O aA (X O) O ?_;intro u m;simp only[zy,zx,bR,zF,zG,aa] at m;refine E (l _ _ ?_);try clear l L
  refine cO (Mg m eH O ?_);intro U u m;simp only[I];refine Fw m 0 O O O aA (X O) O ?_;intro u m;simp only[zy,zx,bR,zF,zG,aa] at m;exact E (Y _ _ _ m)
 .intro r pre x T U W Q' _ V hN m hn hr
  simp only[zF,zG];refine rB (pD λM o=>cO (aS O ((m.b 1 O).full aF aA) ?_));simp only[I];refine aS O ((m.b 0 O).full aF aA) ?_;simp only[I];refine aS O ((m.b 4 O).full dG bA) ?_;simp only[I];refine Sc m O O (acl (p:=s.cor x) (q:=s.cor ((x+1)%3)) (t:=t)) ?_;intro u m;refine E (o _ _ ?_);try clear o M
  simp only[I];refine Cs O ?_ ?_<;>intro C
  .refine pD λN A=>cO (jE m 3 O O O mW (X O) ⟨O,O⟩ ?_);intro u m;simp only[I,zy,zx,bR,aa] at m;refine E (A _ _ ?_);try clear A N
   refine Sb ?_;exact hr _ _ ⟨m.toMem.sel [X9,X9,X9,Z],m.rx⟩ ⟨x,by simp,C⟩
  refine anG ?_;exact hn _ _ ⟨m.toMem.sel [X9,X9,Z,Z,Z,Z],m.rx⟩ (λk hk=>by
   rcases bv.1 hk with hk|hk
   .exact V k hk
   rw[bp.1 hk];exact C)
 rotate_left
 . rintro D pre u hS ⟨k,hk,ho⟩ m
   try simp only[cn,Exit.then]
   refine aeO (Def.mk (m.get 0 O)) ?_;replace m:=m.putD (o':=.deferred G0) 0 O;exact aU O ⟨_,O,(m.b 1 O).lies1 xV O⟩ ⟨_,O,m.ext,by rw[<-aqB (hS k hk) ho]⟩
 rintro D xs u rfl hj m;refine h _ _ ?_;try clear h H
 refine aV λP B=>am (dP m 2 O O O mW (X O) ⟨O,O⟩ ?_);intro u m;simp only[I,zy,zx,bR,aa] at m;refine E (B _ _ ?_);try clear B P
 refine wp_ret ?_;try simp only[cn,Exit.then,Y4]
 refine aeO (Def.mk (m.get 0 O)) ?_;replace m:=m.putD (o':=.deferred G0) 0 O;simp only[zF,zG] at m;refine aU O ⟨_,O,((m.b 2 O).lies1 xV O)⟩ ?_;try simp only[zD,zE]
 exact⟨_,O,m.ext,by rw[<-anS hj]⟩
def aeg(w:an):dF G1 240 [tr s,tr t] w (λv w'=>∃f r B g A D,v=.tuple #[.slice f r B,.slice g A D]/\r=(xB s t).length/\A=(Cb s t).length/\Mem w w' [oI 30 3 g A D ((Cb s t).flatMap pI),oI 30 3 f r B ((xB s t).flatMap pI)]):=by
 refine⟨bK func240 (by kernel_rfl),?_⟩;have m:=Mem.refl w
 go_enter func240,ntmps240
 apply kX 4 [0] m;simp only[↓U];intro M F u m;refine C aK ?_;replace m:=m.nilO 30 3;refine C aK ?_;replace m:=m.nilO 30 3;apply aJ 8 [4,0] m;simp only[↓U,fJ];refine bU [4,5,9] [7,10,11,12,13,14,15,16,17,18,19,20,21,22,23,24,25,26,27,28,29,30,31,32,33,34,35,36] (λn vs K=>∃(k:Nat)(f g:Option Addr)(h i:Nat),vs=[.slice f (Kb s t k).length h,.slice g (Kc s t k).length i,G (k:Int)]/\Mem w K [oI 30 3 g (Kc s t k).length i ((Kc s t k).flatMap pI),oI 30 3 f (Kb s t k).length h ((Kb s t k).flatMap pI),bI F [G t.a.x,G t.a.y,G t.a.z,G t.b.x,G t.b.y,G t.b.z,G t.c.x,G t.c.y,G t.c.z] 39]/\(k<=3)/\(n=3-k)) ?_ ?_
 .exact⟨_,0,_,_,_,_,O,(m.sel [Z,Z,Z,X9]),by omega,O⟩
 intro n vs wr J u L E
 obtain⟨k,f,g,h,i,rfl,m,P,Q⟩:=J;simp only[zu,zF,zG];apply aG 5 [0,0] m;simp only[↓U];refine bB O ?_ ?_<;>intro R
 .have e:k<3:=by omega
  apply aG 5 [0] m;simp only[↓U];refine C ((aef (t:=s) e O O)) ?_;apply iV 14 [0,1,4,5,1,4,5,1,4,0] m;simp only[↓U,cY,aN,l,aa,ag,ah];refine λN=>⟨_,fH,_,fH,λ_=>⟨_,fH,λ_=>⟨by omega,?_⟩⟩⟩
  intro u m;refine lL O ?_ ?_<;>intro d
  .rw[arG] at d;apply aG 3 [1,0] m;simp only[↓U,aN];refine tC O ?_;intro u H j o q;replace m:=m.newB j o q;simp only[I];refine bW m 3 O O kK vK O (by decide) O O O (m.b 0 O).rowsO (jB O) (by have:=ahT s t k;omega) (by have:=ahT s t k;omega) ?_;intro f h u m;simp only[zF,zG] at m;rw[show (Kb s t k).flatMap pI++_=(Kb s t (k+1)).flatMap pI by rw[Mk e,d,bi];rfl,show (Kb s t k).length+1=(Kb s t (k+1)).length by rw[Mk e,d,bg];rfl] at m;rw[show (Kb s t k).length+1=(Kb s t (k+1)).length by rw[Mk e,d,bg];rfl];apply aJ 7 [0] m;simp only[↓U];apply I0;omega;have p:Kc s t (k+1)=Kc s t k:=by rw[Ml e,d,Z9 rfl,fz]
   rw[<-p] at m ⊢;exact E (3-(k+1)) _ _ (by omega) (by kernel_rfl) ⟨k+1,_,_,_,_,O,(m.sel [X9,X9,Z,Z,Z]),by omega,O⟩
  rw[arG] at d;apply aG 3 [1,0] m;simp only[↓U,aN];refine tC O ?_;intro u H j o q;replace m:=m.newB j o q;simp only[I];refine bW m 2 O O kK vK O (by decide) O O O (m.b 0 O).rowsO (jB O) (by have:=ahU s t k;omega) (by have:=ahU s t k;omega) ?_;intro g i u m;simp only[zF,zG] at m;rw[show (Kc s t k).flatMap pI++_=(Kc s t (k+1)).flatMap pI by rw[Ml e,d,bi];rfl,show (Kc s t k).length+1=(Kc s t (k+1)).length by rw[Ml e,d,bg];rfl] at m;rw[show (Kc s t k).length+1=(Kc s t (k+1)).length by rw[Ml e,d,bg];rfl];apply aJ 7 [0] m;simp only[↓U];apply I0;omega;have p:Kb s t (k+1)=Kb s t k:=by rw[Mk e,d,K0 fh,fz]
  rw[<-p] at m ⊢;exact E (3-(k+1)) _ _ (by omega) (by kernel_rfl) ⟨k+1,_,_,_,_,O,(m.sel [X9,X9,Z,Z,Z]),by omega,O⟩
 obtain rfl:k=3:=by omega
 apply aG 9 [] m;simp only[↓U];exact jG O O O ⟨_,O,m.ext,_,_,_,_,_,_,O,O,O,m.sel [Z,Z,X9]⟩
def auC[IT s][IT t]:eS G1 176 [tr s,tr t] (.bool (aan s t)):=by
 intro w;refine⟨bK func176 (by kernel_rfl),?_⟩;have m:=Mem.refl w
 go_enter func176,ntmps176
 apply kX 9 [2] m;simp only[↓U,fJ];intro g1 g2 u m;apply S 1 [1,0] m;simp only[↓U,fJ];refine aX O O (aeg (s:=s) (t:=t) _) ?_;rintro v u J ⟨Y,n5,c5,A6,n6,c6,rfl,g,n,x⟩;replace m:=m.plus x;clear x;simp only[de,cl] at m;apply aJ 10 [3,4,0] m;simp only[↓U,fJ];refine aX O O (aeg (s:=t) (t:=s) _) ?_;rintro v u J ⟨A7,n7,c7,A8,n8,c8,rfl,ab,r,x⟩;replace m:=m.plus x;clear x;simp only[de,cl] at m;apply aJ 13 [0,0] m;simp only[↓U,xE];refine lX O (λe=>bE O ((m.b 5 O).full dG bA)) (aa6 m O O (λe=>by simp only[dx,bm,df,zA,zB,zC,zD,zE,e,jK];rfl) (λe=>ab7 (t:=s)) ?_);intro u m;refine C (gY O O O) ?_;apply aJ 1 [0] m;simp only[↓U];refine lX O (λe=>bE O ((m.b 4 O).full dG bA)) (aa6 m O O (λe=>by simp only[dx,bm,df,zA,zB,zC,zD,zE,e,jK];rfl) (λe=>ab7 (t:=t)) ?_);intro u m;refine C (gY O O O) ?_;apply aJ 1 [0] m;simp only[↓U];refine lL O ?_ ?_<;>intro D
 .rw[Jw,Jw] at D;apply aG 4 [6,5,0] m;simp only[↓U,fJ];refine tK m O O (aaG (s:=s) (t:=t)) 1 [0] ?_;simp only[↓U];intro u m;refine lX O (λe=>bE O ((m.b 4 O).full dG bA)) (lX O (λe=>bE O ((m.b 5 O).full dG bA)) (aa6 m O O (λe=>by simp only[dx,bm,df,zA,zB,zC,zD,zE,e,jK];rfl) (λe=>aaG (s:=t) (t:=s)) ?_));intro u m;refine C (gY O O O) ?_;apply aJ 3 [] m;simp only[↓U];refine aU O O ?_;try simp only[zD,zE]
  exact⟨_,O,m.ext,by rw[auy g D]⟩
 rw[Jw,Jw] at D;obtain⟨⟨P,V,W⟩,F⟩:=auz g D;apply aG 3 [] m;simp only[↓U];rcases agd V W P with ⟨j,k,G,l,H,h1,h2,f⟩|⟨j,A,k,l,h1,h2,f⟩|h1
 .rw[h1] at g;rw[h2] at n;rw[f] at r;have Q:I3 k:=Pd (i:=0) h2 rfl;have R:I3 G:=Pd (i:=1) h2 rfl;have i3:I3 l:=Pd (i:=0) f rfl;have T:I3 H:=Pd (i:=1) f rfl;simp only[be,cd] at g n r;subst g;subst n;subst r;rw[h1,h2,f] at m;obtain⟨K,rfl⟩:=(m.o 3 rfl).some (by decide);obtain⟨M,rfl⟩:=(m.o 2 rfl).some (by decide);obtain⟨N,rfl⟩:=(m.o 0 rfl).some (by decide);apply S 12 [1,0] m;simp only[↓U,xE];apply I0;omega;refine mq m aD (by kernel_rfl) (fE 7 [0,0,0,0,5] ?_);simp only[↓U,Aq,fJ,ag,ah,aa];refine⟨_,λu m=>(((m.o 2 O).at (enc:=pI) (i:=0) Mt O).lies aF aA),_,λu m=>(((m.o 2 O).at (enc:=pI) (i:=1) Mt O).lies aF aA),by omega,?_⟩;refine jF O O (acl (p:=k) (q:=G) (t:=t)) (L aI (fU O (λe=>aI) ?_));simp only[I];refine fU O (λe=>aP kK aA (B e O) O (by decide) (by omega) O) ?_;simp only[I];refine jU O (λe u m=>bE (B e O) (((m.o 0 O).at (enc:=pI) (i:=0) Mt O).lies aF aA)) (fU O (λe=>aI) ?_);simp only[I];refine fU O (λe=>aP kK aA (B e O) O (by decide) (by omega) O) ?_;simp only[I];refine jU O (λe u m=>bE (B e O) (((m.o 0 O).at (enc:=pI) (i:=1) Mt O).lies aF aA)) (jU O (λe u m=>bE O ((m.b 5 O).full dG bA)) (agH O O (λe=>by simp only[dx,bm,df,zA,zB,zC,zD,zE,e,jK];rfl) (λe=>acl (p:=l) (q:=H) (t:=s)) (L (gY rfl rfl rfl) (L aK (bM ?_)))));intro u m;apply S 1 [] m;simp only[↓U];refine aU O O ?_;try simp only[zD,zE]
  exact⟨_,O,m.ext,by rw[F,h1,h2,f];rfl⟩
 .rw[h1] at g;rw[h2] at n;rw[f] at r;have Q:I3 j:=anW (i:=0) h1 rfl;have R:I3 A:=anW (i:=1) h1 rfl;have i3:I3 k:=Pd (i:=0) h2 rfl;have T:I3 l:=Pd (i:=0) f rfl;simp only[be,cd] at g n r;subst g;subst n;subst r;rw[h1,h2,f] at m;obtain⟨K,rfl⟩:=(m.o 3 rfl).some (by decide);obtain⟨M,rfl⟩:=(m.o 2 rfl).some (by decide);obtain⟨N,rfl⟩:=(m.o 0 rfl).some (by decide);apply S 18 [2,1,0] m;simp only[↓U,xE];apply I0;omega;apply avd m (T1:=30) (T2:=30)
  . skip
    refine Zg m [Z,Z,Z,Z,Z,Z] (.take 0 (.take 1 (.take 2 (.take 3 (.take 4 (.take 5 (.two 6 (.one 7 (.one 8 (.one 9 .nil))) 7 (.one 6 (.one 8 (.one 9 .nil)))))))))) aD (by kernel_rfl) (λ_ _ _ _ _ h=>by cases h.1) ?_;intro u m;refine eC (by simp only[zw];rfl) (bY aI (bO (eC (by simp only[zw];rfl) ?_)));simp only[I];refine bY (aP kK aA O O (by decide) (by omega) O) (bO (eC (by simp only[zw];rfl) ?_));simp only[I];refine mU O (λu m=>(((m.o 3 O).at (enc:=pI) (i:=0) Mt O).lies aF aA)) ?_;simp only[I];refine bO (eC (by simp only[zw];rfl) (bY aI (bO (eC (by simp only[zw];rfl) ?_))));simp only[I];refine bY (aP kK aA O O (by decide) (by omega) O) (bO (eC (by simp only[zw];rfl) ?_));simp only[I];refine mU O (λu m=>(((m.o 3 O).at (enc:=pI) (i:=1) Mt O).lies aF aA)) ?_;simp only[I];refine bO ?_;refine Po (by simp only[zw];rfl) (by simp only[zw];rfl) ?_ ?_
    .refine kR m eH O ?_;intro y u m;refine E ⟨m.sel [X9,Z,Z,Z,Z,Z,Z],?_⟩;refine jQ (by simp only[zw];rfl) ?_;simp only[I];refine kR m eH O ?_;intro z u m;refine E ⟨m.sel [X9,X9,Z,Z,Z,Z,Z,Z],?_⟩;refine jQ (by simp only[zw];rfl) ?_;simp only[I];refine cB m 1 O O O aA (X O) O ?_;intro u m;simp only[zy,zx,bR,zF,zG,aa] at m;refine E ⟨m.sel [X9,X9,Z,Z,Z,Z,Z,Z],?_⟩;refine jQ (by simp only[zw];rfl) ?_;refine cB m 0 O O O aA (X O) O ?_;intro u m;simp only[zy,zx,bR,zF,zG,aa] at m;refine E ⟨m.sel [X9,X9,Z,Z,Z,Z,Z,Z],?_⟩;exact xR ⟨O,y,z,O,m⟩
    refine kR m eH O ?_;intro y u m;refine E ⟨m.sel [X9,Z,Z,Z,Z,Z,Z],?_⟩;refine jQ (by simp only[zw];rfl) ?_;simp only[I];refine kR m eH O ?_;intro z u m;refine E ⟨m.sel [X9,X9,Z,Z,Z,Z,Z,Z],?_⟩;refine jQ (by simp only[zw];rfl) ?_;simp only[I];refine cB m 0 O O O aA (X O) O ?_;intro u m;simp only[zy,zx,bR,zF,zG,aa] at m;refine E ⟨m.sel [X9,X9,Z,Z,Z,Z,Z,Z],?_⟩;refine jQ (by simp only[zw];rfl) ?_;refine cB m 1 O O O aA (X O) O ?_;intro u m;simp only[zy,zx,bR,zF,zG,aa] at m;refine E ⟨m.sel [X9,X9,Z,Z,Z,Z,Z,Z],?_⟩;exact xR ⟨O,z,y,O,m.s01⟩
  intro y z u m;try dsimp only
  apply S 1 [0] m;simp only[↓U];refine mq m aD (by kernel_rfl) (fE 8 [2,1,0,0,0,0] ?_);simp only[↓U,aN,Aq,ag,ah,aa];refine⟨_,λu m=>(((m.o 4 O).at (enc:=pI) (i:=0) Mt O).lies aF aA),_,λu m=>(((m.o 2 O).at (enc:=pI) (i:=0) Mt O).lies aF aA),by omega,?_⟩;refine jF O O (xM (a:=j) (b:=A) (c:=k) (d:=l)) (L (acw O O) (L aI ?_));simp only[I];refine eG O (λe u m=>bE O ((m.b 1 O).full aF aA)) (eG O (λe u m=>bE O ((m.b 0 O).full aF aA)) (eG O (λe u m=>bE O ((m.b 1 O).full aF aA)) (bZ O (λe=>aI) ?_)));simp only[I];refine bZ O (λe=>aP kK aA (B e O) O (by decide) (by omega) O) ?_;simp only[I];refine eG O (λe u m=>bE (B e O) (((m.o 4 O).at (enc:=pI) (i:=0) Mt O).lies aF aA)) (aa7 O O (λe=>by simp only[dx,bm,df,zA,zB,zC,zD,zE,e,jK];rfl) (λe=>uE (a:=j) (b:=A) (c:=j) (d:=k)) ?_);simp only[I];refine eG O (λe u m=>bE O ((m.b 1 O).full aF aA)) (eG O (λe u m=>bE O ((m.b 0 O).full aF aA)) (eG O (λe u m=>bE O ((m.b 1 O).full aF aA)) (bZ O (λe=>aI) ?_)));simp only[I];refine bZ O (λe=>aP kK aA (B e O) O (by decide) (by omega) O) ?_;simp only[I];refine eG O (λe u m=>bE (B e O) (((m.o 2 O).at (enc:=pI) (i:=0) Mt O).lies aF aA)) (aa7 O O (λe=>by simp only[dx,bm,df,zA,zB,zC,zD,zE,e,jK];rfl) (λe=>uE (a:=j) (b:=A) (c:=j) (d:=l)) (bZ rfl (λe=>aiC (B e rfl) (B e rfl)) (L (dR rfl rfl rfl) (L aK ?_))));simp only[I];refine bM ?_;intro u m;apply S 1 [] m;simp only[↓U];refine aU O O ?_;try simp only[zD,zE]
  exact⟨_,O,m.ext,by rw[F,h1,h2,f];exact Y1 bj auA⟩
 rw[h1] at g;subst g;apply S 24 [2,2] m;simp only[↓U,xE];apply I0;omega;refine aU O O ?_;try simp only[zD,zE]
 exact⟨_,O,m.ext,by rw[F,auB h1]⟩
def anX{r:T3}[IT t][IT r](w:an)(c:fK w g50 [G (Jl t 0),G (Jl t 1),G (Jl t 2),G (Jm t 0),G (Jm t 1),G (Jm t 2)] 222)(d:fK w g51 (aM t) 39):dF G1 174 [tr r,.pointer (H ⟨g50,0,G0⟩),.pointer (H ⟨g51,0,G0⟩)] w (λv _=>v=.bool (yA t r)):=by
 refine⟨bK func174 (by kernel_rfl),?_⟩;have m:=Mem.refl w
 go_enter func174,ntmps174
 apply kX 6 [0] m;simp only[↓U];intro e u m;refine mq m aD (by kernel_rfl) (ql O (λu m=>((c.ext m.ext).full agR Zo)) ?_);simp only[I];refine ql O (λu m=>((m.b 0 O).full dG bA)) ?_;simp only[I];refine jF O O (adX (t:=r)) ?_;simp only[I];refine jF O O (auj (t:=t) (r:=r)) (L aI ?_);simp only[I];refine eG O (λa u m=>bE O ((m.b 0 O).full dG bA)) (eG O (λa u m=>bE O ((d.ext m.ext).full dG bA)) (aa7 O O (λa=>by simp only[dx,bm,df,zA,zB,zC,zD,zE,a,jK];rfl) (λa=>auC (s:=r) (t:=t)) (L (dR rfl rfl rfl) (L aK (bM ?_)))));intro u m;apply S 1 [] m;simp only[↓U];exact aU O O ⟨_,O,m.ext,O⟩
def anY{A:Option Addr}[IT t](w:an)(q:fK w g50 [G (Jl t 0),G (Jl t 1),G (Jl t 2),G (Jm t 0),G (Jm t 1),G (Jm t 2)] 222)(s:fK w g51 (aM t) 39)(d:cN w A N ts)(z:N<=10000000):dF G1 244 [.slice A N cap,.func (.func 174) #[] #[.pointer (H ⟨g50,0,G0⟩),.pointer (H ⟨g51,0,G0⟩)]] w (λv _=>∃k:Int,v=G k/\decide (0<=k)=ts.any (yA t)):=by
 refine⟨bK func244 (by kernel_rfl),?_⟩;have m:=Mem.refl w;have F:=d.len
 go_enter func244,ntmps244
 apply fD 12 [0] m;simp only[↓U,jL];refine bU [8] [4,5,9,10,11,12,13,14,15,16,17,18] (λn vs o=>∃(k:Nat),vs=[G (k:Int)]/\Mem w o []/\(∀(j:Nat)(r:T3),j<k->ts[j]? = H r->yA t r=X9)/\(k<=N)/\(n=N-k)) ?_ ?_
 .exact⟨_,0,O,m,(λj r h=>by omega),bu _,O⟩
 intro n vs wr g u y p
 obtain⟨k,rfl,m,f,B,C⟩:=g;simp only[zu,zF,zG];apply aG 5 [0,0] m;simp only[↓U];refine bB O ?_ ?_<;>intro D
 .obtain⟨r,b,E,a,rfl,x⟩:=d.get (i:=k) (by omega);apply aG 15 [0,1,0] m;simp only[↓U,eO,ai,aj];refine⟨_,λu m=>((x.ext m.ext).lies dG bA),by omega,?_⟩;refine cC m O O (anX (t:=t) (r:=r) _ (q.ext m.ext) (s.ext m.ext)) ?_;rintro v u m rfl;apply aJ 1 [0] m;simp only[↓U];refine cQ O ?_ ?_<;>intro e
  .apply aG 6 [] m;simp only[↓U];exact aU O O ⟨_,O,m.ext,k,O,by rw[Y5 (by omega:(0:Int)<=k)];exact (ff.2 ⟨r,bn b,e⟩).symm⟩
  apply aG 6 [0] m;simp only[↓U];apply I0;omega;exact p (N-(k+1)) _ _ (by omega) (by kernel_rfl) ⟨k+1, rfl, m, (λj l c h1=> by
   rcases d_ j k with h|h
   .exact f j l h h1
   obtain rfl:j=k:=by omega
   rw[b] at h1;cases h1;exact e),by omega,O⟩
 obtain rfl:k=N:=by omega
 apply aG 6 [] m;simp only[↓U];exact aU rfl rfl ⟨_,rfl,m.ext,-1,rfl,(by rw[show ts.any (yA t)=X9 from List.any_eq_false.2 λr b=>by obtain⟨j,c⟩:=fp.1 b;rw[f j r (by have:=(az.1 c).1;omega) c];decide];rfl)⟩
def Gc{A:Option Addr}[IT t](w:an)(d:fK w g50 [G (Jl t 0),G (Jl t 1),G (Jl t 2),G (Jm t 0),G (Jm t 1),G (Jm t 2)] 222)(e:fK w g51 (aM t) 39)(b:cN w A N ts)(a:N<=10000000):dF G1 177 [.slice A N cap,.func (.func 174) #[] #[.pointer (H ⟨g50,0,G0⟩),.pointer (H ⟨g51,0,G0⟩)]] w (λv _=>v=.bool (ts.any (yA t))):=by
 refine⟨bK func177 (by kernel_rfl),?_⟩;have m:=Mem.refl w
 go_enter func177,ntmps177
 apply fD 8 [0] m;simp only[↓U];refine cC m O O (anY (t:=t) _ (d.ext m.ext) (e.ext m.ext) (b.ext m.ext) a) ?_;rintro v u m ⟨f,rfl,c⟩;apply aJ 4 [0] m;simp only[↓U];refine aU O O ?_;try simp only[zD,zE]
 exact⟨_,O,m.ext,by rw[<-c]⟩
def Yo(ms rs:List T3)(t:T3)(k:Nat):Bool:=!rs.any (yA t) && !(ms.take k).any (yA t)
def ajI(ms rs:List T3):Bool:=ms.zipIdx.all λx=>Yo ms rs x.1 x.2
def ahV(a:ms[k]? = H t)(h:Yo ms rs t k=X9):ajI ms rs=X9:=by
 unfold ajI;rw[List.all_eq_false];exact⟨(t,k),List.mk_mem_zipIdx_iff_getElem?.2 a,by rw[h];decide⟩
def anZ(h:∀(k:Nat)(t:T3),ms[k]? = H t->Yo ms rs t k=Z):ajI ms rs=Z:=by
 unfold ajI;rw[ej];rintro⟨t,k⟩ a;exact h k t (List.mk_mem_zipIdx_iff_getElem?.1 a)
def auD(h:rs.any (yA t)=Z):Yo ms rs t k=X9:=by unfold Yo;rw[h];rfl
def auE(h:(ms.take k).any (yA t)=Z):Yo ms rs t k=X9:=by unfold Yo;rw[h,Bool.not_true,ly]
def auF(h1:rs.any (yA t)=X9)(h2:(ms.take k).any (yA t)=X9):Yo ms rs t k=Z:=by unfold Yo;rw[h1,h2];rfl
def an0{s L M cx cy cf c r no co f K:Nat}{A l J o:Option Addr}{ex ey ef:Array cu}{X Y F:List (P3×Bool)}{ts:List T3}{p:P3}(w:an)(d:fK w s [.pointer (H ⟨g90,0,G0⟩),G p.x,G p.y,G p.z,G q.x,G q.y,G q.z,.map (H L),.map (H M),.slice l c r,.slice J no co,.slice o f K] 218)(ag:fK w g90 [.slice A N cap,.map (H ga),.map (H gf)] 109)(g:cN w l c ms)(B:cN w o f rs)(ad:c<=r)(hN:c+f<=10000000):dF G1 105 [.pointer (H ⟨s,0,G0⟩)] w (λv _=>v=.bool (ajI ms rs)):=by
 refine⟨bK func105 (by kernel_rfl),?_⟩;have m:=Mem.refl w;have af:=g.len
 go_enter func105,ntmps105
 apply fD 10 [0] m;simp only[↓U,Lp,aa];refine aS O ((d.ext m.ext).lies1 nZ O) ?_;simp only[I];apply aJ 4 [0] m;simp only[↓U,jL];refine bU [12] [2,3,4,5,6,13,14,15,16,17,18,19,20,21,22,23,24,25,26,27,28,29,30,31,32,33,34,35,36] (λn vs Q=>∃(k:Nat),vs=[G (k:Int)]/\Mem w Q []/\(∀(j:Nat)(t:T3),j<k->ms[j]? = H t->Yo ms rs t j=Z)/\(k<=c)/\(n=c-k)) ?_ ?_
 .exact⟨_,0,O,m,(λj t h=>by omega),bu _,O⟩
 intro n vs wr P u V R
 obtain⟨k,rfl,m,E,hk,hn⟩:=P;simp only[zu,zF,zG];apply aG 5 [0,0] m;simp only[↓U];refine bB O ?_ ?_<;>intro ab
 .obtain⟨t,e,ae,a,rfl,T⟩:=g.get (i:=k) (by omega);apply sO 15 [0,1,0,1,0] m;simp only[↓U,eO,mH,fJ,ai,aj,aa];refine⟨_,λu m=>((T.ext m.ext).lies dG bA),λW=>⟨by omega,?_⟩⟩;intro u m;refine tK m O O (adX (t:=t)) 5 [0,0] ?_;simp only[↓U,afJ,afI,aa];intro g2 u m;refine C eR ?_;simp only[I,fx,bm,df];apply aJ 3 [] m;simp only[↓U];rcases Bool.eq_false_or_eq_true (rs.any (yA t)) with hq|hq
  .apply S 4 [0] m;simp only[↓U,Vq,aa];refine aS O ((d.ext m.ext).lies1 nZ O) ?_;simp only[I];apply aJ 1 [0] m;simp only[↓U];refine cC m O O (Gc (ts:=rs) (t:=t) _ (m.b 0 O) (m.b 1 O) (B.ext m.ext) (by omega)) ?_;rintro v u m rfl;simp only[I];rw[hq];apply aJ 17 [0,0,0,0,0,0,0,0] m;simp only[↓U];refine aU O O ?_;try simp only[zD,zE]
   exact⟨_,O,m.ext,by rw[ahV e (auD hq)]⟩
  apply S 4 [0] m;simp only[↓U,Vq,aa];refine aS O ((d.ext m.ext).lies1 nZ O) ?_;simp only[I];apply aJ 1 [0] m;simp only[↓U];refine cC m O O (Gc (ts:=rs) (t:=t) _ (m.b 0 O) (m.b 1 O) (B.ext m.ext) (by omega)) ?_;rintro v u m rfl;simp only[I];rw[hq];apply aJ 4 [0,0,0,0] m;simp only[↓U,Lp,aa];refine gE O (aS O ((d.ext m.ext).lies1 nZ O) ?_);simp only[I];apply aJ 1 [0,0] m;simp only[↓U];refine gE O (C (lY fP bA O O (ai _) (by omega) (by omega)) ?_);apply aJ 1 [0,0] m;simp only[↓U];refine gE O (cC m O O (Gc (ts:=ms.take k) (t:=t) _ (m.b 0 O) (m.b 1 O) ((g.take (k:=k) (by omega)).ext m.ext) (by omega)) ?_);rintro v u m rfl;apply aJ 2 [0] m;simp only[↓U];refine cQ O ?_ ?_<;>intro D
  .apply aG 5 [] m;simp only[↓U];refine aU O O ?_;try simp only[zD,zE]
   exact⟨_,O,m.ext,by rw[ahV e (auE D)]⟩
  apply aG 6 [0] m;simp only[↓U];apply I0;omega;exact R (c-(k+1)) _ _ (by omega) (by kernel_rfl) ⟨k+1, rfl, (m.sel [X9, X9]), (λj t2 hj h1=> by
   rcases d_ j k with h|h
   .exact E j t2 h h1
   obtain rfl:j=k:=by omega
   rw[e] at h1;cases h1;exact auF hq D),by omega,O⟩
 apply aG 6 [] m;simp only[↓U];refine aU O O ?_;try simp only[zD,zE]
 exact⟨_,O,m.ext,by rw[anZ λj t h1=>E j t (by have:=(az.1 h1).1;omega) h1]⟩
def aww{v:P3}(h:ts[k]? = H t)(e:pT u v t=t):sS u v (ts.take (k+1))=sS u v (ts.take k)++[t]/\nL u v (ts.take (k+1))=nL u v (ts.take k):=by
 rw[bV h];unfold sS nL;simp[e]
def an1{v:P3}(h:ts[k]? = H t)(e:¬pT u v t=t)(a:(pT u v t).nd=Z):nL u v (ts.take (k+1))=nL u v (ts.take k)++[t]/\sS u v (ts.take (k+1))=sS u v (ts.take k):=by
 rw[bV h];unfold sS nL;simp[e,a]
def awx{v:P3}(h:ts[k]? = H t)(e:¬pT u v t=t)(a:(pT u v t).nd=X9):nL u v (ts.take (k+1))=nL u v (ts.take k)/\sS u v (ts.take (k+1))=sS u v (ts.take k):=by
 rw[bV h];unfold sS nL;simp[e,a]
def ahW{v:P3}{l m:List T3}(h:nL u v l=nL u v m):nM u v l=nM u v m:=by unfold nM;rw[h]
def age{v:P3}(h:nL u v (ts.take (k+1))=nL u v (ts.take k)++[t]):nM u v (ts.take (k+1))=nM u v (ts.take k)++[pT u v t]:=by unfold nM;rw[h,db];rfl
def an2(u v:P3)(l:List T3):(sS u v l).length<=l.length:=gd ..
def agf(u v:P3)(l:List T3):(nL u v l).length<=l.length:=gd ..
def acm(u v:P3)(l:List T3):(nM u v l).length=(nL u v l).length:=eb ..
def an3  : (s.a.x=t.a.x/\s.a.y=t.a.y/\s.a.z=t.a.z/\s.b.x=t.b.x/\s.b.y=t.b.y/\s.b.z=t.b.z/\s.c.x=t.c.x/\s.c.y=t.c.y/\s.c.z=t.c.z)↔s=t:=
 ⟨λ⟨h1,h2,d,e,f,g,i,j,k⟩=>Jc (P3.eq h1 h2 d) (P3.eq e f g) (P3.eq i j k),λh=>by rw[h];simp only[X7]⟩
def auG{ca:Nat}{A:Option Addr}{ea:Array cu}{D:List (P3×Hd)}{p:P3}[I3 p][I3 q](w:an)(Y:fK w g90 [.slice A N cap,.map (H ga),.map (H gf)] 109)(af:gQ w ga ea ca)(ae:bC pt Hd.v D ea ca)(Q:∀p,cN w (rG D p).A (rG D p).n (ts.filter λt=>t.has p)/\(rG D p).n<=(rG D p).cap)(hT:cN w A N ts)(hN:ts.length<=10000000):dF G1 99 [.pointer (H ⟨g90,0,G0⟩),pt p,pt q] w (λv w'=>∃ad gx ex cx gy ey cy Am V cm Ao no co Ar W cr,v=.pointer (H ⟨ad,0,G0⟩)/\Mem w w' [bI ad [.pointer (H ⟨g90,0,G0⟩),G p.x,G p.y,G p.z,G q.x,G q.y,G q.z,.map (H gx),.map (H gy),.slice Am V cm,.slice Ao no co,.slice Ar W cr] 218,oI 39 9 Ar W cr ((sS p q ts).flatMap aM),oI 39 9 Ao no co ((nL p q ts).flatMap aM),oI 39 9 Am V cm ((nM p q ts).flatMap aM),mI gy ey cy,mI gx ex cx]/\bC pt bj (eE [] (oU ts p)) ex cx/\bC pt bj (eE [] (oU ts q)) ey cy/\V=(nM p q ts).length/\no=(nL p q ts).length/\W=(sS p q ts).length):=by
 refine⟨bK func99 (by kernel_rfl),?_⟩;have m:=Mem.refl w;have ar:=hT.len
 go_enter func99,ntmps99
 apply kX 7 [0] m;simp only[↓U];intro g1 g2 u m;refine mh m [Z,Z] [(0,Z),(3,Z),(6,Z),(1,Z),(2,Z),(4,Z),(7,Z),(5,X9),(8,X9),(9,Z),(10,X9),(11,Z)] aD (by kernel_rfl) (bT (λ_ _ _ _ _ h=>h)) (ol:=?_) ?am ?_
 case am=>simp only[zw,zQ,zR];try rfl
 intro u m;refine Dk 7 [2,1,2,1] ?_;simp only[↓U,aN];refine bQ (aX O O (acb (p:=p) _ (Y.ext m.ext) (af.ext m.ext) ae (λz=>⟨((Q z).1).ext m.ext,(Q z).2⟩) hN) ?_);rintro v u f ⟨qx,ag,cx,rfl,J,ak⟩;replace m:=m.plus J;clear J;simp only[de,cl] at m;refine E ⟨m.sel [X9,Z,Z],?_⟩;refine bQ ?_;simp only[I];refine aX O O (acb (p:=q) _ (Y.ext m.ext) (af.ext m.ext) ae (λz=>⟨((Q z).1).ext m.ext,(Q z).2⟩) hN) ?_;rintro v u f ⟨qy,ah,cy,rfl,J,al⟩;replace m:=m.plus J;clear J;simp only[de,cl] at m;refine E ⟨m.sel [X9,X9,Z,Z],?_⟩;refine bY (Dj O O O O O) (bQ ?_);simp only[I];refine Tb m O ?_;intro g3 u m;refine E ⟨m.sel [X9,X9,X9,Z,Z],?_⟩;refine bY aK (bO ?_);simp only[I];replace m:=m.nilO 39 9;replace m:=m.nilO 39 9;replace m:=m.nilO 39 9;replace m:=m.pull 3 O;simp only[dX,dY,zF,zG] at m;apply S 6 [0] m;simp only[↓U,amj,aa];refine aS O ((Y.ext m.ext).lies1 nZ O) ?_;simp only[I];apply aJ 4 [0] m;simp only[↓U,jL];refine bU [28] [9,10,11,29,30,31,32,33,34,35,36,37,38,39,40,41,42,43,44,45,46,47,48,49,50,51,52,53,54,55,56,57,58,59,60,61,62,63,64,65,66,67,68,69,70,71,72,73,74,75] (λn vs wl=>∃(k:Nat)(r s P:Option Addr)(B C T:Nat),vs=[G (k:Int)]/\Mem w wl [bI g3 [.pointer (H ⟨g90,0,G0⟩),G p.x,G p.y,G p.z,G q.x,G q.y,G q.z,.map (H qx),.map (H qy),.slice r (nM p q (ts.take k)).length B,.slice s (nL p q (ts.take k)).length C,.slice P (sS p q (ts.take k)).length T] 218,oI 39 9 P (sS p q (ts.take k)).length T ((sS p q (ts.take k)).flatMap aM),oI 39 9 s (nL p q (ts.take k)).length C ((nL p q (ts.take k)).flatMap aM),oI 39 9 r (nM p q (ts.take k)).length B ((nM p q (ts.take k)).flatMap aM),mI qy ah cy,mI qx ag cx,bI g2 [G q.x,G q.y,G q.z] 30,bI g1 [G p.x,G p.y,G p.z] 30]/\(k<=N)/\(n=N-k)) ?_ ?_
 .exact⟨_,0,_,_,_,_,_,_,O,m,bu _,O⟩
 intro n vs wr hI u K1 L
 obtain⟨k,r,s,P,B,C,T,rfl,m,hk,hn⟩:=hI;simp only[zu,zF,zG];apply aG 5 [0,0] m;simp only[↓U];refine bB O ?_ ?_<;>intro ap
 .obtain⟨t,K,aq,a,hA,ao⟩:=hT.get (i:=k) (by omega);subst hA;have ab:=an2 p q (ts.take k);have o:=agf p q (ts.take k);have F:=acm p q (ts.take k);rw[bz] at ab o;apply sO 13 [0,1,0,1] m;simp only[↓U,eO,mH,fJ,ai,aj,aa];refine⟨_,λu m=>((ao.ext m.ext).lies dG bA),λg4=>⟨by omega,?_⟩⟩;intro u m;apply S 2 [9,8,0] m;simp only[↓U,aN];refine tK m O O (ahE (t:=t) (p:=p) (q:=q)) 13 [0,1,2] ?_;simp only[↓U,mH,fJ,aa];refine λg5=>⟨_,aty,?_⟩
  intro u m;apply S 2 [0] m;simp only[↓U];refine bB O ?_ ?_<;>intro M
  .refine am1 m [Z,Z,Z,X9,Z,Z,Z,Z,Z,Z] [10] (.take 0 (.take 1 (.take 2 (.take 3 (.take 4 (.take 5 (.one 6 (.one 7 (.take 8 (.take 9 (.one 10 .nil))))))))))) aD (by kernel_rfl) (bT (λ_ _ _ _ _ h=>h)) ?_;intro u m;refine gG (by simp only[zw];rfl) (bY aI (bO (gG (by simp only[zw];rfl) (bY aI (bO (gG (by simp only[zw];rfl) (bY (eX rfl) (bO (gG (by simp only[zw];rfl) (bY (aY (c:=0) oZ rfl iA rfl rfl) ?_))))))))));simp only[I];refine bO (gG (by simp only[zw];rfl) (mU rfl (λu m=>((m.b 2 rfl).lies1 nZ rfl)) ?_));simp only[I];refine bO (gG (by simp only[zw];rfl) (mU rfl (λu m=>((m.b 1 rfl).full dG bA)) ?_));simp only[I];refine bO (vC (by simp only[zw];rfl) ?_);refine nJ O ?_;intro u g6 f j l;replace m:=m.newB f j l;refine E ⟨λ_=>m.sel [X9,Z,Z,Z,X9,Z,Z,Z,Z,Z,Z],?_⟩;refine vC (by simp only[zw];rfl) ?_;simp only[I];refine bW m 4 O O fP kL O (by decide) O O O (m.b 0 O).rowsO (jB O) (by have:=ab;omega) (by have:=ab;omega) ?_;intro P T u m;simp only[zF,zG] at m;refine E ⟨λ_=>m.sel [X9,Z,Z,Z,X9,Z,Z,Z,Z,Z,Z],?_⟩;refine gG (by simp only[zw];rfl) (bY (eX rfl) (bO (gG (by simp only[zw];rfl) (bY (aY (c:=0) oZ rfl iA rfl rfl) (bO (vC (by simp only[zw];rfl) ?_))))));simp only[I];refine dP (off:=11) m 3 O O O iA (X O) ⟨O,O⟩ ?_;intro u m;simp only[I,zy,zx,bR,aa] at m;refine E ⟨λh=>Y0 (by decide) h,?_⟩;refine adP ?_;apply S 6 [0] m;simp only[↓U];apply I0;omega;have d:=aww (u:=p) (v:=q) K (an3.1 M);have g:=ahW d.2;rw[show ((sS p q (ts.take k))).flatMap aM++_=(sS p q (ts.take (k+1))).flatMap aM by rw[d.1,bi];rfl,show ((sS p q (ts.take k))).length+1=(sS p q (ts.take (k+1))).length by rw[d.1,bg];rfl] at m;rw[<-d.2,<-g] at m;exact L (N-(k+1)) _ _ (by omega) (by kernel_rfl) ⟨k+1,_,_,_,_,_,_,O,(m.sel [X9,X9,X9,Z,Z,Z,Z,Z,Z,Z,Z]),by omega,O⟩
  apply aG 5 [0] m;simp only[↓U];refine cQ O ?_ ?_<;>intro R
  .refine am1 m [Z,Z,Z,Z,X9,X9,Z,Z,Z,Z] [18,21] (.take 0 (.move 1 (.take 2 (.take 3 (.take 4 (.take 5 (.take 6 (.take 9 (.take 10 (.take 11 (.take 12 (.take 13 (.two 7 (.two 8 (.one 14 (.one 15 (.take 16 (.take 17 (.one 18 (.move 19 (.move 20 (.one 21 .nil)))))))) 14 (.one 8 (.one 15 (.take 16 (.take 17 (.one 18 (.move 19 (.move 20 (.one 21 .nil))))))))) 14 (.one 7 (.one 8 (.one 15 (.take 16 (.take 17 (.one 18 (.move 19 (.move 20 (.one 21 .nil)))))))))))))))))))))) aD (by kernel_rfl) (bT (λ_ _ _ _ _ h=>h)) ?_;intro u m;refine gG (by simp only[zw];rfl) (bY aI (bO (xI (by simp only[zw];rfl) (bY aI (bO (gG (by simp only[zw];rfl) (bY aI (bO (gG (by simp only[zw];rfl) (bY (eX rfl) ?_))))))))));simp only[I];refine bO (gG (by simp only[zw];rfl) (bY (aY (c:=0) oZ rfl iA rfl rfl) (bO (gG (by simp only[zw];rfl) ?_))));simp only[I];refine mU O (λu m=>((m.b 2 O).lies1 nZ O)) ?_;simp only[I];refine bO (gG (by simp only[zw];rfl) (mU rfl (λu m=>((m.b 0 rfl).full dG bA)) ?_));simp only[I];refine bO (gG (by simp only[zw];rfl) (bY aI (bO (gG (by simp only[zw];rfl) (bY (eX rfl) (bO (gG (by simp only[zw];rfl) (bY (aY (c:=0) oZ rfl iA rfl rfl) (bO (gG (by simp only[zw];rfl) ?_))))))))));simp only[I];refine mU O (λu m=>((m.b 2 O).lies1 nZ O)) ?_;simp only[I];refine bO (gG (by simp only[zw];rfl) (mU rfl (λu m=>((m.b 1 rfl).full dG bA)) ?_));simp only[I];refine bO ?_;refine art (by simp only[zw];rfl) (by simp only[zw];rfl) ?_ ?_
   .refine nJ O ?_;intro u g6 f j l;replace m:=m.newB f j l;refine E ⟨λ_=>m.sel [X9,Z,Z,Z,Z,X9,X9,Z,Z,Z,Z],?_⟩;simp only[I];refine art (by simp only[zw];rfl) (by simp only[zw];rfl) ?_ ?_
    .refine bW m 6 O O fP kL O (by decide) O O O (m.b 0 O).rowsO (jB O) (by have:=F;omega) (by have:=F;omega) ?_;intro r B u m;simp only[zF,zG] at m;refine E ⟨λ_=>m.sel [X9,Z,Z,Z,Z,X9,X9,Z,Z,Z,Z],?_⟩;refine vC (by simp only[zw];rfl) ?_;simp only[I];refine nJ O ?_;intro u g7 f j l;replace m:=m.newB f j l;refine E ⟨λ_=>m.sel [X9,X9,Z,Z,Z,Z,X9,X9,Z,Z,Z,Z],?_⟩;refine vC (by simp only[zw];rfl) ?_;simp only[I];refine bW m 6 O O fP kL O (by decide) O O O (m.b 0 O).rowsO (jB O) (by have:=o;omega) (by have:=o;omega) ?_;intro s C u m;simp only[zF,zG] at m;refine E ⟨λ_=>m.sel [X9,X9,Z,Z,Z,Z,X9,X9,Z,Z,Z,Z],?_⟩;refine gG (by simp only[zw];rfl) (bY (eX rfl) (bO (gG (by simp only[zw];rfl) (bY (aY (c:=0) oZ rfl iA rfl rfl) (bO (vC (by simp only[zw];rfl) ?_))))));simp only[I];refine dP (off:=9) m 4 O O O iA (X O) ⟨O,O⟩ ?_;intro u m;simp only[I,zy,zx,bR,aa] at m;refine E ⟨λh=>Y0 (by decide) h,?_⟩;refine xI (by simp only[zw];rfl) (bY (eX rfl) (bO (xI (by simp only[zw];rfl) (bY (aY (c:=0) oZ rfl iA rfl rfl) (bO (vC (by simp only[zw];rfl) ?_))))));simp only[I];refine dP (off:=10) m 4 O O O iA (X O) ⟨O,O⟩ ?_;intro u m;simp only[I,zy,zx,bR,aa] at m;refine E ⟨λh=>Y0 (by decide) h,?_⟩;refine adP ?_;apply S 6 [0] m;simp only[↓U];apply I0;omega;have d:=an1 (u:=p) (v:=q) K (λe=>M (an3.2 e)) R;have g:=age d.1;rw[show ((nL p q (ts.take k))).flatMap aM++_=(nL p q (ts.take (k+1))).flatMap aM by rw[d.1,bi];rfl,show ((nL p q (ts.take k))).length+1=(nL p q (ts.take (k+1))).length by rw[d.1,bg];rfl] at m;rw[show ((nM p q (ts.take k))).flatMap aM++_=(nM p q (ts.take (k+1))).flatMap aM by rw[g,bi];rfl,show ((nM p q (ts.take k))).length+1=(nM p q (ts.take (k+1))).length by rw[g,bg];rfl] at m;rw[<-d.2] at m;exact L (N-(k+1)) _ _ (by omega) (by kernel_rfl) ⟨k+1,_,_,_,_,_,_,O,(m.sel [X9,X9,X9,X9,Z,Z,Z,Z,Z,Z,Z,Z]),by omega,O⟩
    refine nJ O ?_;intro u g7 f j l;replace m:=m.newB f j l;refine E ⟨λ_=>m.sel [X9,X9,Z,Z,Z,Z,X9,X9,Z,Z,Z,Z],?_⟩;refine vC (by simp only[zw];rfl) ?_;simp only[I];refine bW m 7 O O fP kL O (by decide) O O O (m.b 1 O).rowsO (jB O) (by have:=F;omega) (by have:=F;omega) ?_;intro r B u m;simp only[zF,zG] at m;refine E ⟨λ_=>m.sel [X9,X9,Z,Z,Z,Z,X9,X9,Z,Z,Z,Z],?_⟩;refine vC (by simp only[zw];rfl) ?_;simp only[I];refine bW m 6 O O fP kL O (by decide) O O O (m.b 0 O).rowsO (jB O) (by have:=o;omega) (by have:=o;omega) ?_;intro s C u m;simp only[zF,zG] at m;refine E ⟨λ_=>m.sel [X9,X9,Z,Z,Z,Z,X9,X9,Z,Z,Z,Z],?_⟩;refine gG (by simp only[zw];rfl) (bY (eX rfl) (bO (gG (by simp only[zw];rfl) (bY (aY (c:=0) oZ rfl iA rfl rfl) (bO (vC (by simp only[zw];rfl) ?_))))));simp only[I];refine dP (off:=9) m 4 O O O iA (X O) ⟨O,O⟩ ?_;intro u m;simp only[I,zy,zx,bR,aa] at m;refine E ⟨λh=>Y0 (by decide) h,?_⟩;refine xI (by simp only[zw];rfl) (bY (eX rfl) (bO (xI (by simp only[zw];rfl) (bY (aY (c:=0) oZ rfl iA rfl rfl) (bO (vC (by simp only[zw];rfl) ?_))))));simp only[I];refine dP (off:=10) m 4 O O O iA (X O) ⟨O,O⟩ ?_;intro u m;simp only[I,zy,zx,bR,aa] at m;refine E ⟨λh=>Y0 (by decide) h,?_⟩;refine adP ?_;apply S 6 [0] m;simp only[↓U];apply I0;omega;have d:=an1 (u:=p) (v:=q) K (λe=>M (an3.2 e)) R;have g:=age d.1;rw[show ((nL p q (ts.take k))).flatMap aM++_=(nL p q (ts.take (k+1))).flatMap aM by rw[d.1,bi];rfl,show ((nL p q (ts.take k))).length+1=(nL p q (ts.take (k+1))).length by rw[d.1,bg];rfl] at m;rw[show ((nM p q (ts.take k))).flatMap aM++_=(nM p q (ts.take (k+1))).flatMap aM by rw[g,bi];rfl,show ((nM p q (ts.take k))).length+1=(nM p q (ts.take (k+1))).length by rw[g,bg];rfl] at m;rw[<-d.2] at m;exact L (N-(k+1)) _ _ (by omega) (by kernel_rfl) ⟨k+1,_,_,_,_,_,_,O,(m.sel [X9,X9,X9,X9,Z,Z,Z,Z,Z,Z,Z,Z]),by omega,O⟩
   refine nJ O ?_;intro u g6 f j l;replace m:=m.newB f j l;refine E ⟨λ_=>m.sel [X9,Z,Z,Z,Z,X9,X9,Z,Z,Z,Z],?_⟩;refine vC (by simp only[zw];rfl) ?_;simp only[I];refine nJ O ?_;intro u g7 f j l;replace m:=m.newB f j l;refine E ⟨λ_=>m.sel [X9,X9,Z,Z,Z,Z,X9,X9,Z,Z,Z,Z],?_⟩;refine vC (by simp only[zw];rfl) ?_;simp only[I];refine bW m 7 O O fP kL O (by decide) O O O (m.b 0 O).rowsO (jB O) (by have:=F;omega) (by have:=F;omega) ?_;intro r B u m;simp only[zF,zG] at m;refine E ⟨λ_=>m.sel [X9,X9,Z,Z,Z,Z,X9,X9,Z,Z,Z,Z],?_⟩;refine vC (by simp only[zw];rfl) ?_;simp only[I];refine bW m 6 O O fP kL O (by decide) O O O (m.b 1 O).rowsO (jB O) (by have:=o;omega) (by have:=o;omega) ?_;intro s C u m;simp only[zF,zG] at m;refine E ⟨λ_=>m.sel [X9,X9,Z,Z,Z,Z,X9,X9,Z,Z,Z,Z],?_⟩;refine gG (by simp only[zw];rfl) (bY (eX rfl) (bO (gG (by simp only[zw];rfl) (bY (aY (c:=0) oZ rfl iA rfl rfl) (bO (vC (by simp only[zw];rfl) ?_))))));simp only[I];refine dP (off:=9) m 4 O O O iA (X O) ⟨O,O⟩ ?_;intro u m;simp only[I,zy,zx,bR,aa] at m;refine E ⟨λh=>Y0 (by decide) h,?_⟩;refine xI (by simp only[zw];rfl) (bY (eX rfl) (bO (xI (by simp only[zw];rfl) (bY (aY (c:=0) oZ rfl iA rfl rfl) (bO (vC (by simp only[zw];rfl) ?_))))));simp only[I];refine dP (off:=10) m 4 O O O iA (X O) ⟨O,O⟩ ?_;intro u m;simp only[I,zy,zx,bR,aa] at m;refine E ⟨λh=>Y0 (by decide) h,?_⟩;refine adP ?_;apply S 6 [0] m;simp only[↓U];apply I0;omega;have d:=an1 (u:=p) (v:=q) K (λe=>M (an3.2 e)) R;have g:=age d.1;rw[show ((nL p q (ts.take k))).flatMap aM++_=(nL p q (ts.take (k+1))).flatMap aM by rw[d.1,bi];rfl,show ((nL p q (ts.take k))).length+1=(nL p q (ts.take (k+1))).length by rw[d.1,bg];rfl] at m;rw[show ((nM p q (ts.take k))).flatMap aM++_=(nM p q (ts.take (k+1))).flatMap aM by rw[g,bi];rfl,show ((nM p q (ts.take k))).length+1=(nM p q (ts.take (k+1))).length by rw[g,bg];rfl] at m;rw[<-d.2] at m;exact L (N-(k+1)) _ _ (by omega) (by kernel_rfl) ⟨k+1,_,_,_,_,_,_,O,(m.sel [X9,X9,X9,X9,Z,Z,Z,Z,Z,Z,Z,Z]),by omega,O⟩
  apply aG 7 [0] m;simp only[↓U];apply I0;omega;have d:=awx (u:=p) (v:=q) K (λe=>M (an3.2 e)) R;have g:=ahW d.1;rw[<-d.1,<-d.2,<-g] at m;exact L (N-(k+1)) _ _ (by omega) (by kernel_rfl) ⟨k+1,_,_,_,_,_,_,O,(m.sel [X9,X9,Z,Z,Z,Z,Z,Z,Z,Z]),by omega,O⟩
 obtain rfl:k=N:=by omega
 rw[show ts.take k=ts from a_ (by omega)] at m;apply aG 7 [] m;simp only[↓U];exact aU O O ⟨_,O,m.ext,_,_,_,_,_,_,_,_,_,_,_,_,_,_,_,_,O,m.sel [Z,Z,Z,Z,Z,Z,X9,X9],ak,al,O,O,O⟩
end
end Go.Proofs.YtfekpcimgncioaaGreatDoor
namespace Go.Lith
section
open Go.RowKit
def Kd(js:List It):It where
 own b:=∃j∈js,j.own b
 P w:=(∀j∈js,j.P w)/\js.Pairwise Ap
 lt w b h hb:=by
  obtain⟨j,hj,hb⟩:=hb;exact j.lt w b (h.1 j hj) hb
 st w w' h hs k:=⟨λj hj=>j.st w w' (h.1 j hj) hs λb hb=>k b ⟨j,hj,hb⟩,h.2⟩
section
variable{w0 w:an}{is js:List It}
def Mem.bagNil(m:Mem w0 w is):Mem w0 w (Kd []::is):=
 ⟨m.ext,λi hi=>by
  rcases av.1 hi with rfl|hi
  .exact⟨λj a=>(by cases a),List.Pairwise.nil⟩
  .exact m.all i hi,λi hi b c=>by
  rcases av.1 hi with rfl|hi
  .obtain⟨j,a,_⟩:=c;cases a
  exact m.ge i hi b c,b_.2 ⟨λi _ b ⟨j,a,_⟩=>(by cases a),m.nd⟩⟩
def Mem.bagPull(m:Mem w0 w (Kd js::is))(i:Nat){j:It}(g:js[i]? = H j):Mem w0 w (j::Kd (js.eraseIdx i)::is):=by
 have k:=Ng js i j g;obtain⟨h1,h2⟩:=b_.1 m.nd;have P:=m.all _ (bq ..);have e:=bn g;have f:∀x∈js.eraseIdx i,x∈js:=λx hx=>k.mem_iff.1 (br _ hx);have l:=b_.1 ((k.pairwise_iff (λ{a b}(h:Ap a b)=>h.symm)).2 P.2);refine⟨m.ext,λx hx=>?_,λx hx b c=>?_,b_.2 ⟨λx hx b c n=>?_,b_.2 ⟨λx hx b ⟨y,d,c⟩=>h1 x hx b ⟨y,f y d,c⟩,h2⟩⟩⟩
 . rcases av.1 hx with rfl|hx
   .exact P.1 x e
   rcases av.1 hx with rfl|hx
   .exact⟨λy d=>P.1 y (f y d),l.2⟩
   exact m.all x (br _ hx)
 . rcases av.1 hx with rfl|hx
   .exact m.ge _ (bq ..) b ⟨x,e,c⟩
   rcases av.1 hx with rfl|hx
   . obtain⟨y,d,c⟩:=c
     exact m.ge _ (bq ..) b ⟨y,f y d,c⟩
   exact m.ge x (br _ hx) b c
 rcases av.1 hx with rfl|hx
 . obtain⟨y,d,o⟩:=n
   exact l.1 y d b c o
 exact h1 x hx b ⟨j,e,c⟩ n
def Mem.bagPush{j:It}(m:Mem w0 w (j::Kd js::is)):Mem w0 w (Kd (j::js)::is):=by
 obtain⟨h1,h2⟩:=b_.1 m.nd;obtain⟨e,f⟩:=b_.1 h2;have P:=m.all (Kd js) (br _ (bq ..));have d:=m.all j (bq ..);refine⟨m.ext,λx hx=>?_,λx hx b a=>?_,b_.2 ⟨λx hx b ⟨y,hy,a⟩ c=>?_,f⟩⟩
 . rcases av.1 hx with rfl|hx
   . refine⟨λy hy=>?_,b_.2 ⟨λy hy b a g=>h1 _ (bq ..) b a ⟨y,hy,g⟩,P.2⟩⟩
     rcases av.1 hy with rfl|hy
     .exact d
     exact P.1 y hy
   exact m.all x (br _ (br _ hx))
 . rcases av.1 hx with rfl|hx
   . obtain⟨y,hy,a⟩:=a
     rcases av.1 hy with rfl|hy
     .exact m.ge y (bq ..) b a
     exact m.ge (Kd js) (br _ (bq ..)) b ⟨y,hy,a⟩
   exact m.ge x (br _ (br _ hx)) b a
 rcases av.1 hy with rfl|hy
 .exact h1 x (br _ hx) b a c
 exact e x hx b ⟨y,hy,a⟩ c
end
end
section
open Go.RowKit Go.ChangeMaps
variable{t:T3}{c:P3}
section
variable{w0 w:an}{is js ks:List It}
def Mem.bagPerm(m:Mem w0 w (Kd js::is))(h:js.Perm ks):Mem w0 w (Kd ks::is):=by
 obtain⟨h1,h2⟩:=b_.1 m.nd;have P:=m.all _ (bq ..);refine⟨m.ext,λx hx=>?_,λx hx b c=>?_,b_.2 ⟨λx hx b ⟨y,d,c⟩ f=>?_,h2⟩⟩
 . rcases av.1 hx with rfl|hx
   .exact⟨λj e=>P.1 j (h.mem_iff.2 e),(h.pairwise_iff (λ{a b}(h:Ap a b)=>h.symm)).1 P.2⟩
   exact m.all x (br _ hx)
 . rcases av.1 hx with rfl|hx
   . obtain⟨y,d,c⟩:=c
     exact m.ge _ (bq ..) b ⟨y,h.mem_iff.2 d,c⟩
   exact m.ge x (br _ hx) b c
 exact h1 x hx b ⟨y,h.mem_iff.2 d,c⟩ f
def aeh{K V:Type}[DecidableEq K]{k:K}{v:V}{e:K×V}:∀{D:List (K×V)},(D.map (·.1)).Nodup->e∈fL D k v->e=(k,v)\/(e∈D/\e.1≠k)
 | [],_,h=>.inl (bp.1 h)
 |x::D,c,h=>by
  obtain⟨n1,n2⟩:=gv.1 c;unfold fL at h;split at h
  . rename_i a
    rcases av.1 h with h|h
    .exact .inl h
    exact .inr ⟨br _ h,λb=>n1 (c_.2 ⟨e,h,b.trans a.symm⟩)⟩
  rename_i a
  rcases av.1 h with h|h
  .exact .inr ⟨h▸bq ..,h▸a⟩
  rcases aeh n2 h with h|h
  .exact .inl h
  exact .inr ⟨br _ h.1,h.2⟩
variable{E:bh}{fs:P3->List T3}{D:List (P3×Hd)}
def sI(E:bh)(fs:P3->List T3)(e:P3×Hd):It:=oI E 9 e.2.A (fs e.1).length e.2.cap ((fs e.1).flatMap aM)
structure Pe(D:List (P3×Hd))(fs:P3->List T3):Prop where
 nk:(D.map (·.1)).Nodup
 len:∀e∈D,e.2.n=(fs e.1).length
 no:∀p,p∉D.map (·.1)->fs p=[]
 yes:∀p,p∈D.map (·.1)->fs p≠[]
def Pe.nil:Pe [] λ_=>[]:=⟨lx,λ_ h=>(by cases h),λ_ _=>rfl,λ_ h=>(by cases h)⟩
def Pe.iff(S:Pe D fs){p:P3}:p∈D.map (·.1)↔fs p≠[]:=⟨S.yes p,λh=>Classical.byContradiction λk=>h (S.no p k)⟩
def Pe.take(S:Pe D fs)(m:Mem w0 w (Kd (D.map (sI E fs))::is))(p:P3) :
 ∃rest,Mem w0 w (oI E 9 (rG D p).A (rG D p).n (rG D p).cap ((fs p).flatMap aM)::Kd rest::is)/\(rG D p).n=(fs p).length /\
  ∀(c:Hd)(a:P3->List T3),(∀q,q≠p->a q=fs q)->c.n=(a p).length->a p≠[]->(sI E a (p,c)::rest).Perm ((fL D p c).map (sI E a))/\Pe (fL D p c) a:=by
 have C:∀(c:Hd)(a:P3->List T3),(∀q,q≠p->a q=fs q)->c.n=(a p).length->a p≠[]->Pe (fL D p c) a:=λc a b o r=>
  ⟨tD S.nk p c,λe f=>by
   rcases aeh S.nk f with rfl|⟨f,P⟩
   .exact o
   .rw[b _ P];exact S.len e f,λq d=>by
   rw[wL] at d;have h1:q∉D.map (·.1)/\q≠p:=by
    split at d
    .rename_i u;exact⟨d,λe=>d (e▸u)⟩
    exact⟨λh=>d (g_ _ h),λe=>d (ib _ (by rw[e];exact bp.2 O))⟩
   rw[b _ h1.2];exact S.no q h1.1,λq d=>by
   by_cases B:q=p
   .rw[B];exact r
   rw[b _ B]
   refine S.yes q ?_;rw[wL] at d;split at d
   .exact d
   exact (bv.1 d).elim id λh=>Y0 (bp.1 h) B⟩
 have I:∀{a:P3->List T3} {L:List (P3×Hd)},(∀q,q≠p->a q=fs q)->(∀e∈L,e.1≠p)->L.map (sI E a)=L.map (sI E fs):=λ{a L} b N=>
  iv λe f=>by unfold sI;rw[b _ (N e f)]
 cases F:pM D p 0 with
 |none=>
  obtain⟨s,h1,_⟩:=oA D p 0 F;have v:=kW.1 s;have g:rG D p=⟨G0,0,0⟩:=by unfold rG;rw[s];rfl
  refine⟨D.map (sI E fs),?_,?_,λc a b o r=>⟨?_,C c a b o r⟩⟩
  .rw[g,S.no p v];exact m.nilO E 9
  .rw[g,S.no p v];rfl
  rw[h1,db,I b λe f k=>v (c_.2 ⟨e,f,k⟩)]
  exact (List.perm_append_singleton _ _).symm
 |some q=>
  obtain⟨j,h⟩:=q;obtain⟨i,_,t,s,h1,_⟩:=lN D p 0 j h F;have g:rG D p=h:=by unfold rG;rw[s];rfl
  have Q:(p,h)∈D:=bn t;have G:=S.len _ Q;have R:∀e∈D.eraseIdx i,e.1≠p:=λe f k=>by
   obtain⟨q,b⟩:=fp.1 f;rw[List.getElem?_eraseIdx] at b;have key:∀{q:Nat},D[q]? = H e->q=i:=λ{q} b=>by
    have J:(D.map (·.1))[q]? = H p:=by rw[fi,b,<-k];rfl
    have K:(D.map (·.1))[i]? = H p:=by rw[fi,t];rfl
    obtain⟨T,M⟩:=az.1 J;obtain⟨c1,c2⟩:=az.1 K;exact (pj S.nk).1 (M.trans c2.symm)
   split at b
   .have:=key b;omega
   have:=key b;omega
  refine⟨(D.map (sI E fs)).eraseIdx i,?_,?_,λc a b o r=>⟨?_,C c a b o r⟩⟩
  . rw[g,show h.n=(fs p).length from G]
    exact m.bagPull i (j:=sI E fs (p,h)) (by rw[fi,t];rfl)
  .rw[g];exact G
  rw[h1,<-map_eraseIdx,<-I b R]
  have u:∀{l:List (P3×Hd)} {i:Nat} {x y:P3×Hd},l[i]? = H x->(l.set i y).Perm (y::l.eraseIdx i):=λ{l}=>by
   induction l with
   |nil=>intro i x y h;simp at h
   |cons z l ih=>
    intro i x y h;cases i with
    |zero=>exact .refl _
    |succ i=>exact ((ih (i:=i) (x:=x) (y:=y) (by simpa using h)).cons z).trans (.swap ..)
  exact ((u (y:=(p,c)) t).map (sI E a)).symm
def Pe.trisP(S:Pe D fs)(d:(Kd (D.map (sI E fs))).P w)(e:∀p,∀t∈fs p,IT t)(p:P3):cN w (rG D p).A (rG D p).n (fs p)/\(rG D p).n<=(rG D p).cap:=by
 unfold rG;cases a:bS D p with
 |none=>
  rw[S.no p (kW.1 a)];exact⟨cN.nil _ _,ba _⟩
 |some h=>
  have b:=rW a;have f:=d.1 _ (c_.2 ⟨(p,h),b,rfl⟩);have c:Ow { w with heap:=#[] } w [] E 9 h.A (fs p).length h.cap ((fs p).flatMap aM):=⟨f,λ_ _ h=>(by cases h),λ_ h=>(by cases h)⟩
  have g:=S.len _ b;simp only[dt];rw[show h.n=(fs p).length from g];exact⟨c.tris (e p),c.le⟩
end
def Xj(l:List T3)(t:T3)(cs:List P3)(p:P3):List T3:=l.filter (λt=>t.has p)++if p∈cs then [t] else []
def aqC(l:List T3)(t:T3):Xj l t []=λp=>l.filter λt=>t.has p:=by
 funext p
 unfold Xj;simp
def auH{l:List T3}{cs:List P3}{q:P3}(h:q≠c):Xj l t (cs++[c]) q=Xj l t cs q:=by
 unfold Xj;simp[h]
def auI{l:List T3}{cs:List P3}(h:c∉cs):Xj l t (cs++[c]) c=Xj l t cs c++[t]:=by
 unfold Xj;simp[h]
def aqD{l:List T3}{k:Nat}(e:l[k]? = H t):Xj (l.take k) t [t.a,t.b,t.c]=λp=>(l.take (k+1)).filter λt=>t.has p:=by
 funext p
 unfold Xj;rw[bV e,gl]
 congr 1
 by_cases h:t.has p=Z
 . have:=gK.1 h
   simp[h,this]
 have d:¬(p=t.a\/p=t.b\/p=t.c):=λk=>h (gK.2 k)
 simp[h,d]
end
end Go.Lith
namespace Go.Proofs.YtfekpcimgncioaaGreatDoor
open Go.Proofs.Tryz
open Go.RowKit Go.Lith
set_option maxRecDepth 100000
attribute [local irreducible] bf M fY cJ cU Code.wp
attribute [local congr] dK dL cZ dJ
variable{cap j:Nat}{ts:List T3}{t:T3}
structure Mm(T:bh)(w:an)(g90 ga gf:Nat)(A:Option Addr)(N cap:Nat)(ea ef:Array cu)(ca cf:Nat)(D:List (P3×Hd))(ts:List T3):Prop where
 b:fK w g90 [.slice A N cap,.map (H ga),.map (H gf)] T
 a:gQ w ga ea ca
 f:gQ w gf ef cf
 t:∀p,cN w (rG D p).A (rG D p).n (ts.filter λt=>t.has p)/\(rG D p).n<=(rG D p).cap
def Mm.ext{T:bh}{w w':an}{i g gf:Nat}{A:Option Addr}{N:Nat}{d ef:Array cu}{c cf:Nat}{D:List (P3×Hd)}(h:Mm T w i g gf A N cap d ef c cf D ts)(e:eQ w w'):Mm T w' i g gf A N cap d ef c cf D ts:=
 ⟨h.b.ext e,h.a.ext e,h.f.ext e,λp=>⟨(h.t p).1.ext e,(h.t p).2⟩⟩
structure Xa(ea ef:Array cu)(ca cf:Nat)(D:List (P3×Hd))(F:List (P3×Bool))(ts:List T3):Prop where
 a:bC pt Hd.v D ea ca
 f:bC pt bj F ef cf
 nk:(D.map (·.1)).Nodup
 k:∀p,p∈D.map (·.1)↔p∈bP ts
 b:∀p,(bS F p).getD X9=uW (Y ts) p
def ajJ(es:List E3):List P3:=es.flatMap λe=>[e.1,e.2]
def an4{es:List E3}{p:P3}:decide (p∈ajJ es)=uW es p:=by
 rw[iz,Y2];unfold ajJ uW;rw[dj,ff];constructor
 . rintro⟨e,b,a⟩
   refine⟨e,b,?_⟩;simp only[av,bw,Y3] at a;rcases a with rfl|rfl<;>simp
 rintro⟨e,b,a⟩
 refine⟨e,b,?_⟩;simp only[iy,Y2] at a;rcases a with rfl|rfl<;>simp
def ajK{es:List E3}{k:Nat}{e:E3}(h:es[k]? = H e):ajJ (es.take (k+1))=ajJ (es.take k)++[e.1]++[e.2]:=by
 rw[bV h];unfold ajJ;rw[bi,dm];rfl
def Hp(t:T3):List P3:=[t.a,t.b,t.c]
def ahX(a:j<3):(Hp t)[j]? = H (t.cor j):=by
 have h:j=0\/j=1\/j=2:=by omega
 rcases h with rfl|rfl|rfl<;>rfl
def aaH(a:j<3):(Hp t).take (j+1)=(Hp t).take j++[t.cor j]:=bV (ahX a)
def an5(f:t.nd=Z)(e:j<3):t.cor j∉(Hp t).take j:=λh=>by
 have d:(Hp t).Nodup:=Ww f;obtain⟨i,a⟩:=fp.1 h;rw[List.getElem?_take] at a;split at a
 . rename_i l
   obtain⟨g,b⟩:=az.1 a;obtain⟨k,c⟩:=az.1 (ahX (t:=t) e);have:=(pj d).1 (b.trans c.symm);omega
 cases a
def auJ{p:P3}:(ts.filter λt=>t.has p)≠[]↔p∈bP ts:=by
 constructor
 . intro h
   obtain⟨t,d⟩:=List.exists_mem_of_ne_nil _ h;obtain⟨h1,h2⟩:=di.1 d;exact sG h1 h2
 intro h e
 obtain⟨t,d,f⟩:=dj.1 (show p∈ts.flatMap λt=>[t.a,t.b,t.c] from h);have:t∈ts.filter λt=>t.has p:=di.2 ⟨d,gK.2 (by simpa using f)⟩;rw[e] at this;cases this
def Mn{is:List It}{w:an}(h:(Fq is).P w)(k:Nat){i:It}(a:is[k]? = H i):i.P w:=h.1 i (bn a)
def aqE(l:List T3)(t:T3)(cs:List P3)(p:P3){k:Nat}(h:l.length<=k):(Xj l t cs p).length<=k+1:=by
 have:=gd (λt=>T3.has t p) l;unfold Xj;rw[bg];split<;>simp<;>omega
def auK{A:Option Addr}{N:Nat}(w:an)(R:cN w A N ts)(az:∀t∈ts,t.nd=Z)(hN:ts.length<=1000000):dF G1 50 [.slice A N cap] w (λv w'=>∃am ga gf l ef d cf D F K,v=.pointer (H ⟨am,0,G0⟩)/\Mem w w' [K]/\(∀u,K.P u->Mm 109 u am ga gf A N cap l ef d cf D ts)/\Xa l ef d cf D F ts):=by
 refine⟨bK func50 (by kernel_rfl),?_⟩;have m:=Mem.refl w;have aZ:=R.len;have aK:(Y ts).length<=10000000:=by have h1:=uQ (all:=aR ts) (aR ts) [];have h2:=kF ts;simp only[cd] at h1;unfold Y;omega
 go_enter func50,ntmps50
 apply fD 7 [0] m;simp only[↓U];refine iB m ?_;intro r u m;have g:=bC.nil (K:=P3) (V:=Hd) pt Hd.v;simp only[I];refine iB m ?_;intro s u m;have f:=bC.nil (K:=P3) (V:=Bool) pt bj;apply iV 4 [] m;simp only[↓U,ate,aa];intro g3 u m;replace m:=m.bagNil;apply S 8 [0] m;simp only[↓U,jL];refine bU [17] [5,7,18,19,20,21,22,23,24,25,26,27,28,29,30,31,32,33,34,35,36,37] (λn vs M=>∃(k:Nat) (l:Array cu) (d:Nat) (D:List (P3×Hd)),vs=[G (k:Int)]/\Mem w M [Kd (D.map (sI 39 (λp=>(ts.take k).filter λt=>t.has p))),bI g3 [.slice A N cap,.map (H r),.map (H s)] 109,mI s #[] 0,mI r l d]/\(bC pt Hd.v D l d)/\(Pe D (λp=>(ts.take k).filter λt=>t.has p))/\(k<=N)/\(n=N-k)) ?_ ?_
 .exact⟨_,0,_,_,[],O,m,g,Pe.nil,bu _,O⟩
 intro n vs wr J u K1 aq
 obtain⟨k,W,d,D,rfl,m,g,B,hk,hn⟩:=J;simp only[zu,zF,zG];apply aG 5 [0,0] m;simp only[↓U];refine bB O ?_ ?_<;>intro aO
 .obtain⟨t,T,aY,a,hA,aF⟩:=R.get (i:=k) (by omega);subst hA;apply sO 16 [0,1,0,1,0] m;simp only[↓U,eO,mH,fJ,ai,aj,aa];refine⟨_,λu m=>((aF.ext m.ext).lies dG bA),λg4=>⟨by omega,?_⟩⟩;intro u m;refine bU [22] [7,23,24,25,26,27,28,29,30,31,32,33,34,35,36] (λn vs M=>∃(j:Nat) (l:Array cu) (d:Nat) (D:List (P3×Hd)),vs=[G (j:Int)]/\Mem w M [bI g4 [G t.a.x,G t.a.y,G t.a.z,G t.b.x,G t.b.y,G t.b.z,G t.c.x,G t.c.y,G t.c.z] 39,Kd (D.map (sI 39 (Xj (ts.take k) t ((Hp t).take j)))),bI g3 [.slice (H a) N cap,.map (H r),.map (H s)] 109,mI s #[] 0,mI r l d]/\(bC pt Hd.v D l d)/\(Pe D (Xj (ts.take k) t ((Hp t).take j)))/\(j<=3)/\(n=3-j)) ?_ ?_
  . rw[<-aqC (ts.take k) t] at m B
    exact⟨_,0,_,_,D,O,m,g,B,bu _,O⟩
  intro n vs wr J u K2 ar
  obtain⟨j,W,d,D,rfl,m,g,ae,hj,aV⟩:=J;simp only[zu,zF,zG];apply aG 5 [0,0] m;simp only[↓U];refine bB O ?_ ?_<;>intro aP
  .have ad:j<3:=by omega
   apply aG 5 [0] m;simp only[↓U];refine C ((aef (t:=t) ad O O)) ?_;apply iV 3 [0] m;simp only[↓U,cY,aN,aa];intro g5 u m;replace m:=m.pull 2 O;simp only[dX,dY,zF,zG] at m;obtain⟨rest,m9,af,aw⟩:=ae.take m (t.cor j);replace m:=m9;clear m9;have ax:((Xj (ts.take k) t ((Hp t).take j)) (t.cor j)).length<=k+1:=aqE _ _ _ _ (by rw[bz];omega);rw[<-af] at ax;refine gc (mh m [X9,Z,Z,Z,Z,Z,X9] [(0,Z),(1,Z),(2,Z),(3,Z),(4,Z),(5,Z),(6,X9),(7,X9),(8,Z),(10,Z),(9,X9),(11,X9)] aD (by kernel_rfl) (bT (λ_ _ _ _ _ h=>h)) (ol:=?_) ?ak ?_)
   case ak=>simp only[zw,zQ,zR];try rfl
   intro u m;refine Dk 6 [4,2,3] ?_;simp only[↓U,Vf,atc,aN,fJ,aa];refine bQ (nJ O ?_);intro u g6 e_ h_ k_;replace m:=m.newB e_ h_ k_;refine E ⟨m.sel [X9,X9,Z,Z,Z,Z,Z,X9],?_⟩;refine bQ ?_;simp only[I];refine Cj (ek:=pt) (en:=Hd.v) (a:=t.cor j) (v0:=⟨G0,0,0⟩) m 7 O underlying106 agO eL O O g ?_;intro W d bs u m ao L;simp only[zF,zG] at m;refine E ⟨m.sel [X9,X9,Z,Z,Z,Z,Z,X9],?_⟩;refine bY (dV O O) (bY (dV O O) (bQ ?_));simp only[I];refine bW m 1 O O fP kL O (by decide) O O O (m.b 0 O).rowsO (jB O) (by omega) (by omega) ?_;intro A9 al u m;simp only[zF,zG] at m;refine E ⟨m.sel [X9,X9,Z,Z,Z,Z,Z,X9],?_⟩;refine bQ ?_;simp only[I];refine sK (ek:=pt) (en:=Hd.v) (a:=t.cor j) (v:=(⟨A9,(rG D (t.cor j)).n+1,al⟩:Hd)) m 7 O O O O L ?_;intro W u m g;simp only[zF,zG] at m;refine E ⟨m.sel [X9,X9,Z,Z,Z,Z,Z,X9],?_⟩;refine bO ?_;replace m:=m.pull 2 O;simp only[dX,dY,zF,zG] at m;replace m:=m.pull 2 O;simp only[dX,dY,zF,zG] at m;have ab:(Xj (ts.take k) t ((Hp t).take (j+1))) (t.cor j)=(Xj (ts.take k) t ((Hp t).take j)) (t.cor j)++[t]:=by rw[aaH ad];exact auI (an5 (az t (bn T)) ad)
   obtain⟨aA,av⟩:=aw ⟨A9,(rG D (t.cor j)).n+1,al⟩ (Xj (ts.take k) t ((Hp t).take (j+1))) (λq hq=>by rw[aaH ad];exact auH hq) (by rw[ab,bg,af];rfl) (by rw[ab];simp);rw[show ((Xj (ts.take k) t ((Hp t).take j)) (t.cor j)).flatMap aM++_=((Xj (ts.take k) t ((Hp t).take (j+1))) (t.cor j)).flatMap aM by rw[ab,bi];rfl,show (rG D (t.cor j)).n+1=((Xj (ts.take k) t ((Hp t).take (j+1))) (t.cor j)).length by rw[ab,bg,af];rfl] at m;replace m:=(Mem.bagPush (j:=sI 39 (Xj (ts.take k) t ((Hp t).take (j+1))) (t.cor j,⟨A9,(rG D (t.cor j)).n+1,al⟩)) m).bagPerm aA;replace m:=m.pull 3 O;simp only[dX,dY,zF,zG] at m;apply S 5 [0] m;simp only[↓U];apply I0;omega;exact ar (3-(j+1)) _ _ (by omega) (by kernel_rfl) ⟨j+1,_,_,_,O,(m.sel [Z,Z,X9,X9,Z,Z,Z]),g,av,by omega,O⟩
  obtain rfl:j=3:=by omega
  rw[show (Hp t).take 3=[t.a,t.b,t.c] from rfl,aqD T] at m ae;apply aG 6 [0] m;simp only[↓U];apply I0;omega;exact aq (N-(k+1)) _ _ (by omega) (by kernel_rfl) ⟨k+1,_,_,D,O,(m.sel [X9,Z,Z,Z,Z]),g,ae,by omega,O⟩
 obtain rfl:N=k:=by omega
 rw[show ts.take N=ts from a_ (by omega)] at m B;apply aG 5 [0] m;simp only[↓U];refine aX O O (Om _ (R.ext m.ext) (by omega)) ?_;rintro v u e_ ⟨A4,c4,n4,ay,rfl,h_⟩;replace m:=m.newO e_ h_;subst ay;apply aJ 4 [0] m;simp only[↓U,xC];refine bU [41] [9,42,43,44,45,46,47,48,49,50,51,52,53,54,55,56,57,58,59,60,61] (λn vs M=>∃(i:Nat)(ef:Array cu)(cf:Nat),vs=[G (i:Int)]/\Mem w M [oI 56 6 A4 (Y ts).length c4 ((Y ts).flatMap bG),Kd (D.map (sI 39 (λp=>ts.filter λt=>t.has p))),bI g3 [.slice A N cap,.map (H r),.map (H s)] 109,mI s ef cf,mI r W d]/\(bC pt bj (eE [] (ajJ ((Y ts).take i))) ef cf)/\(i<=(Y ts).length)/\(n=(Y ts).length-i)) ?_ ?_
 .exact⟨_,0,_,_,O,m,f,bu _,O⟩
 intro n vs wr J u K3 au
 obtain⟨i,X,cf,rfl,m,f,hi,aW⟩:=J;simp only[zu,zF,zG];apply aG 5 [0,0] m;simp only[↓U];refine bB O ?_ ?_<;>intro aQ
 .obtain⟨e,he,aI,ap,aE⟩:=((m.o 0 rfl).lat (enc:=bG) (λ_=>rfl) (by decide)).get (i:=i) (by omega);subst ap;apply aG 6 [0] m;simp only[↓U,yE,ai,aj];apply I0;omega;refine aS O (show lC _ _ _ _ (.agg #[G e.1.x,G e.1.y,G e.1.z,G e.2.x,G e.2.y,G e.2.z]) from aE.lies sZ jD) ?_;simp only[I];apply iV 3 [0,0] m;simp only[↓U,Qh,xD,aa];intro g4 u m;refine mh m [Z,Z,Z,Z,X9,Z] [(0,Z),(1,Z),(2,Z),(4,Z),(6,Z),(7,Z),(8,Z),(10,Z),(3,Z),(5,Z),(9,Z),(11,Z),(12,X9),(13,Z),(14,X9),(15,X9),(16,Z),(17,X9)] aD (by kernel_rfl) (bT (λ_ _ _ _ _ h=>h)) (ol:=?_) ?ak ?_
  case ak=>simp only[zw,zQ,zR];try rfl
  intro u m;refine Dk 12 [4,1,4,1] ?_;simp only[↓U,Vg,vA,atd,aN,aa,ag,ah];apply I0;omega;refine bQ (Cj (ek:=pt) (en:=bj) (a:=e.1) (v0:=X9) m 4 O gN iN eL O O f ?_);intro X cf bs u m ao L;simp only[zF,zG] at m;refine E ⟨m.sel [Z,Z,Z,Z,X9,Z],?_⟩;refine bY (dV O O) (bQ ?_);simp only[I];refine sK (ek:=pt) (en:=bj) (a:=e.1) (v:=Z) m 4 O O O O L ?_;intro X u m f;simp only[zF,zG] at m;rw[<-jM] at f;refine E ⟨m.sel [Z,Z,Z,Z,X9,Z],?_⟩;refine bQ (Cj (ek:=pt) (en:=bj) (a:=e.2) (v0:=X9) m 4 O gN iN eL O O f ?_);intro X cf bs u m ao L;simp only[zF,zG] at m;refine E ⟨m.sel [Z,Z,Z,Z,X9,Z],?_⟩;refine bY (dV O O) (bQ ?_);simp only[I];refine sK (ek:=pt) (en:=bj) (a:=e.2) (v:=Z) m 4 O O O O L ?_;intro X u m f;simp only[zF,zG] at m;rw[<-jM] at f;refine E ⟨m.sel [Z,Z,Z,Z,X9,Z],?_⟩;refine bO ?_;apply S 5 [0] m;simp only[↓U];apply I0;omega;exact au ((Y ts).length-(i+1)) _ _ (by omega) (by kernel_rfl) ⟨i+1,_,_,O,(m.sel [X9,Z,Z,Z,Z,Z]),by rw[ajK he];exact f,by omega,O⟩
 obtain rfl:i=(Y ts).length:=by omega
 rw[show (Y ts).take (Y ts).length=Y ts from a_ (ba _)] at f;apply aG 7 [] m;simp only[↓U];exact aU O O ⟨_,O,m.ext,_,_,_,_,_,_,_,D,_,Fq [_,_,_,_],O,Mem.pack [] (m.sel [X9,Z,Z,Z,Z]),(λu Q=>⟨by have h:=Mn Q 1 O;exact h,by have h:=Mn Q 3 O;exact h,by have h:=Mn Q 2 O;exact h,λp=>B.trisP (Mn Q 0 O) (λp t T=>R.it t (di.1 T).1) p⟩),⟨g,f,B.nk,λp=>by rw[B.iff];exact auJ,λp=>by rw[mB];exact an4⟩⟩
end Go.Proofs.YtfekpcimgncioaaGreatDoor
namespace Go.Lith
open Go.RowKit
/-! ### Boxes -/
/-! ### What clear says -/
/-! ### The corners of a triangle,in order -/
/-! ### The same conditions -/
end Go.Lith
namespace Go.Proofs.YtfekpcimgncioaaGreatDoor
open Go.Proofs.Tryz
open Go.RowKit Go.Lith
set_option maxRecDepth 100000
attribute [local irreducible] bf M fY cJ cU Code.wp
attribute [local congr] dK dL cZ dJ
variable{cap k g4 g5:Nat}{ts:List T3}{t:T3}{w0 w:an}{K:It}
section
variable{ts:List T3}{p q:P3}{F:List (P3×Bool)}
def ajL(hF:∀z,(bS F z).getD X9=uW (Y ts) z):((bS (eE [] (oU ts p)) q).getD X9 && !(bS F p).getD X9)=wF ts p q:=by
 rw[hF,mB];unfold wF
 congr 1
 rw[iz,Y2,vF]
def ajM:decide (Jv (eE [] (oU ts q)) (eE [] (oU ts p))=2)=Ha ts p q:=by
 unfold Ha
 congr 2
 unfold Jv;have a:((eE [] (oU ts p)).map (·.1)).Perm (nbL ts p):=by
  refine (List.perm_ext_iff_of_nodup (qN _ [] lx) ?_).2 λx=>?_
  .exact (uF ts).sublist (List.filter_sublist ..)
  rw[sA,Cc,vF];simp
 have e:(λk=>(bS (eE [] (oU ts q)) k).getD X9)=Oa ts q:=funext λk=>by
  rw[mB,iz,Y2,vF]
 rw[e];exact (a.filter _).length_eq
def an6(hF:∀z,(bS F z).getD X9=uW (Y ts) z):acd (eE [] (oU ts p)) (eE [] (oU ts q)) F q=Jn ts p q:=by
 unfold acd Jn;rw[hF]
 congr 1
 rw[iz,ej,ej];have key:∀k,(!ajw F (eE [] (oU ts q)) q k)=(decide (k=q) || !uW (Y ts) k||Oa ts q k):=λk=>by
  unfold ajw;have b:decide (¬(k.x=q.x/\k.y=q.y/\k.z=q.z)) = !decide (k=q):=by
   rw[<-decide_not];exact decide_eq_decide.2 ⟨λh e=>h (by rw[e];exact⟨O,O,O⟩),λh e=>h (P3.eq e.1 e.2.1 e.2.2)⟩
  have c:(bS (eE [] (oU ts q)) k).getD X9=Oa ts q k:=by rw[mB,iz,Y2,vF]
  rw[b,c,hF];cases decide (k=q)<;>cases uW (Y ts) k<;>cases Oa ts q k<;>rfl
 constructor
 . intro h k a
   rw[<-key];exact h k ((sA _ _ _).2 (.inr (vF.2 (Cc.1 a))))
 intro h k a
 rw[key];exact h k (Cc.2 (vF.1 (((sA _ _ _).1 a).elim (λh=>(by cases h)) id)))
def agh:af8 (nL p q ts) (nM p q ts)=Ez ts p q:=by
 unfold af8 Ez nM;rw[List.zip_map_right,List.all_map];rw[iz,ej,ej];constructor
 . intro h t b
   obtain⟨i,a⟩:=fp.1 b;exact h (t,t) (bn (i:=i) (by rw[pn];exact⟨a,a⟩))
 rintro h ⟨x,y⟩ c
 obtain⟨i,a⟩:=fp.1 c;rw[pn] at a;obtain rfl:x=y:=fq (a.1.symm.trans a.2);exact h x (bn a.1)
def Xb(ts:List T3)(p:P3):(oU ts p).length<=3*ts.length:=by
 have h1:=gd (λt=>T3.has t p) ts;unfold oU;rw[List.length_flatMap];have h2:∀L:List T3,(L.map λt=>(nbT p t).length).sum<=3*L.length:=λL=>by
  induction L with
  |nil=>exact ba _
  |cons t L ih=>
   have:(nbT p t).length<=3:=by
    unfold nbT nbK;rw[bg,bg];split<;>split<;>split<;>simp
   simp only[bm,List.sum_cons,be];omega
 exact ax (h2 _) (by omega)
def an7:ajI (nM p q ts) (sS p q ts)=abM ts p q:=rfl
def awy(c:∀t∈ts,t.nd=Z):∀t∈nM p q ts++sS p q ts,t.nd=Z:=λt b=>by
 rcases bv.1 b with h|h
 . obtain⟨s,a,rfl⟩:=c_.1 h
   have:=(di.1 a).2;rw[bt] at this;exact this.2
 exact c t (di.1 h).1
def aaI[I3 q](e:∀t∈ts,IT t):(∀t∈nM p q ts,IT t)/\(∀t∈nL p q ts,IT t)/\∀t∈sS p q ts,IT t:=
 ⟨λt d=>by
  obtain⟨s,f,rfl⟩:=c_.1 d;have:=e s (di.1 f).1;exact⟨Ou X3 this.a,Ou X3 this.b,Ou X3 this.c⟩,λt d=>e t (di.1 d).1,λt d=>e t (di.1 d).1⟩
def auL(p q:P3)(ts:List T3):(nM p q ts).length+(sS p q ts).length<=ts.length+ts.length:=by
 have h1:=an2 p q ts;have h2:=agf p q ts;have a:=acm p q ts;omega
end
def ajN{s y gf N k cf:Nat}{A:Option Addr}{n ef:Array cu}{D:List (P3×Hd)}{F:List (P3×Bool)}{p q:P3}[I3 p][I3 q](w:an)(d:Mm 109 w s y gf A N cap n ef k cf D ts)(i:Xa n ef k cf D F ts)(e:cN w A N ts)(G:∀t∈ts,t.nd=Z)(T:ts.length<=1000000):dF G1 51 [.pointer (H ⟨s,0,G0⟩),pt p,pt q] w (λv _=>v=.bool (dZ ts p q)):=by
 refine⟨bK func51 (by kernel_rfl),?_⟩;have m:=Mem.refl w;have J:(eE [] (oU ts p)).length<=100000000:=by have h1:=qZ (oU ts p) [];have h2:=Xb ts p;simp only[cd] at h1;omega
 have al:=auL p q ts;have am:=agf p q ts;have ap:=acm p q ts
 go_enter func51,ntmps51
 apply kX 11 [2,1,0] m;simp only[↓U,aN];intro Q S u m;refine aX O O (auG (p:=p) (q:=q) _ (d.b.ext m.ext) (d.a.ext m.ext) i.a (λz=>⟨(d.t z).1.ext m.ext,(d.t z).2⟩) (e.ext m.ext) (by omega)) ?_;rintro v u l ⟨P,qx,g,cx,qy,h,cy,K,V,ai,L,W,aj,M,n7,ak,rfl,r,j,x,ad,ae,af⟩;replace m:=m.plus r;clear r;simp only[de,cl] at m;apply aJ 6 [0] m;simp only[↓U];refine C eR ?_;simp only[I,fx,bm,df];apply aJ 1 [0] m;simp only[↓U];refine C eR ?_;simp only[I,fx,bm,df];apply aJ 1 [0] m;simp only[↓U];refine C eR ?_;simp only[I,fx,bm,df];apply aJ 1 [0] m;simp only[↓U];refine C eR ?_;simp only[I,fx,bm,df];apply aJ 1 [0] m;simp only[↓U];refine C eR ?_;simp only[I,fx,bm,df];apply aJ 1 [0] m;simp only[↓U];refine C eR ?_;simp only[I,fx,bm,df];refine afd O O O O O O ?_;intro u ab l B E;replace m:=m.newB l B E;apply aJ 24 [7,1,1,0] m;simp only[↓U,ath,Oh,aat,ag,ah,aa];apply I0;omega;refine cC m O O (ajt (ts:=ts) (X:=eE [] (oU ts p)) (Y:=eE [] (oU ts q)) (F:=F) (ex:=g) (ey:=h) (ef:=ef) (cx:=cx) (cy:=cy) (cf:=cf) _ (m.b 1 O) (d.b.ext m.ext) (m.p 6 O) j (d.f.ext m.ext) i.f) ?_;rintro v u m rfl;simp only[I];rw[ajL i.b];apply aJ 2 [0] m;simp only[↓U];refine cQ O ?_ ?_<;>intro c
 .have f0:wF ts p q=X9:=by simpa using c
  apply aG 5 [] m;simp only[↓U];refine aU O O ?_;try simp only[zD,zE]
  exact⟨_,O,m.ext,by rw[show dZ ts p q=X9 by unfold dZ;simp only[f0,nc,ly,ow,mr,nw]]⟩
 have f0:wF ts p q=Z:=by simpa using c
 apply aG 25 [1,1,0] m;simp only[↓U,Oh,aat,R,ag,ah,aa];apply I0;omega;refine cC m O O (ajv (ts:=ts) (X:=eE [] (oU ts p)) (Y:=eE [] (oU ts q)) (F:=F) (ex:=g) (ey:=h) (ef:=ef) (cx:=cx) (cy:=cy) (cf:=cf) _ (m.b 1 O) (d.b.ext m.ext) (m.p 6 O) j (m.p 5 O) x J) ?_;rintro v u m rfl;simp only[I];rw[ajM];apply aJ 2 [0] m;simp only[↓U];refine cQ O ?_ ?_<;>intro c
 .have f1:Ha ts p q=X9:=by simpa using c
  apply aG 5 [] m;simp only[↓U];refine aU O O ?_;try simp only[zD,zE]
  exact⟨_,O,m.ext,by rw[show dZ ts p q=X9 by unfold dZ;simp only[f0,f1,nc,ly,ow,mr,nw]]⟩
 have f1:Ha ts p q=Z:=by simpa using c
 apply aG 25 [1,1,0] m;simp only[↓U,Oh,aat,R,ag,ah,aa];apply I0;omega;refine cC m O O (ajF (ts:=ts) (X:=eE [] (oU ts p)) (Y:=eE [] (oU ts q)) (F:=F) (ex:=g) (ey:=h) (ef:=ef) (cx:=cx) (cy:=cy) (cf:=cf) (ms:=nM p q ts) (rs:=sS p q ts) _ (m.b 1 O) (d.b.ext m.ext) ((m.o 4 O).tris (aaI (p:=p) (q:=q) e.it).1) ((m.o 2 O).tris (aaI (p:=p) (q:=q) e.it).2.2) (awy G) (by omega)) ?_;rintro v u m rfl;simp only[I];rw[show decide ((nM p q ts++sS p q ts).map Uy).Nodup=Rr ts p q from rfl];apply aJ 2 [0] m;simp only[↓U];refine cQ O ?_ ?_<;>intro c
 .have f2:Rr ts p q=X9:=by simpa using c
  apply aG 5 [] m;simp only[↓U];refine aU O O ?_;try simp only[zD,zE]
  exact⟨_,O,m.ext,by rw[show dZ ts p q=X9 by unfold dZ;simp only[f0,f1,f2,nc,ly,ow,mr,nw]]⟩
 have f2:Rr ts p q=Z:=by simpa using c
 apply aG 25 [1,1,0] m;simp only[↓U,Oh,aat,R,ag,ah,aa];apply I0;omega;refine cC m O O (anw (ts:=ts) (X:=eE [] (oU ts p)) (Y:=eE [] (oU ts q)) (F:=F) (ex:=g) (ey:=h) (ef:=ef) (cx:=cx) (cy:=cy) (cf:=cf) _ (m.b 1 O) (d.b.ext m.ext) (m.p 6 O) j (m.p 5 O) x (d.f.ext m.ext) i.f) ?_;rintro v u m rfl;simp only[I];rw[an6 i.b];apply aJ 2 [0] m;simp only[↓U];refine cQ O ?_ ?_<;>intro c
 .have f3:Jn ts p q=X9:=by simpa using c
  apply aG 5 [] m;simp only[↓U];refine aU O O ?_;try simp only[zD,zE]
  exact⟨_,O,m.ext,by rw[show dZ ts p q=X9 by unfold dZ;simp only[f0,f1,f2,f3,nc,ly,ow,mr,nw]]⟩
 have f3:Jn ts p q=Z:=by simpa using c
 apply aG 25 [1,1,0] m;simp only[↓U,Oh,aat,R,ag,ah,aa];apply I0;omega;refine cC m O O (af9 (ts:=ts) (X:=eE [] (oU ts p)) (Y:=eE [] (oU ts q)) (F:=F) (ex:=g) (ey:=h) (ef:=ef) (cx:=cx) (cy:=cy) (cf:=cf) (ms:=nM p q ts) (os:=nL p q ts) _ (m.b 1 O) (d.b.ext m.ext) ((m.o 4 O).tris (aaI (p:=p) (q:=q) e.it).1) ((m.o 3 O).tris (aaI (p:=p) (q:=q) e.it).2.1) (by omega) (by omega)) ?_;rintro v u m rfl;simp only[I];rw[agh];apply aJ 2 [0] m;simp only[↓U];refine cQ O ?_ ?_<;>intro c
 .have f4:Ez ts p q=X9:=by simpa using c
  apply aG 5 [] m;simp only[↓U];refine aU O O ?_;try simp only[zD,zE]
  exact⟨_,O,m.ext,by rw[show dZ ts p q=X9 by unfold dZ;simp only[f0,f1,f2,f3,f4,nc,ly,ow,mr,nw]]⟩
 have f4:Ez ts p q=Z:=by simpa using c
 apply aG 25 [1,1,0] m;simp only[↓U,Oh,aat,R,ag,ah,aa];apply I0;omega;refine cC m O O (an0 (ts:=ts) (X:=eE [] (oU ts p)) (Y:=eE [] (oU ts q)) (F:=F) (ex:=g) (ey:=h) (ef:=ef) (cx:=cx) (cy:=cy) (cf:=cf) (ms:=nM p q ts) (rs:=sS p q ts) _ (m.b 1 O) (d.b.ext m.ext) ((m.o 4 O).tris (aaI (p:=p) (q:=q) e.it).1) ((m.o 2 O).tris (aaI (p:=p) (q:=q) e.it).2.2) (m.o 4 O).le (by omega)) ?_;rintro v u m rfl;simp only[I];rw[an7];apply aJ 2 [0] m;simp only[↓U];refine cQ O ?_ ?_<;>intro c
 .have f5:abM ts p q=X9:=by simpa using c
  apply aG 5 [] m;simp only[↓U];refine aU O O ?_;try simp only[zD,zE]
  exact⟨_,O,m.ext,by rw[show dZ ts p q=X9 by unfold dZ;simp only[f0,f1,f2,f3,f4,f5,nc,ly,ow,mr,nw]]⟩
 have f5:abM ts p q=Z:=by simpa using c
 apply aG 19 [2] m;simp only[↓U,R];apply I0;omega;refine aU O O ?_;try simp only[zD,zE]
 exact⟨_,O,m.ext,by rw[show dZ ts p q=Z by unfold dZ;simp only[f0,f1,f2,f3,f4,f5,nc,ly,ow,mr,nw]]⟩
def an8(h:cD Z ts=0):∀t∈ts,t.nd=Z:=λt a=>Go.Lith.nd_of ((mE h).1 t a)
def agi{a b:List Int}(c:a.length=10)(d:b.length=10)(o:Jo k a)(p:Jo k b)(z:k<=900000):eS G1 61 [qV a,qV b] (qV (Hm a b)):=by
 intro w;refine⟨bK func61 (by kernel_rfl),?_⟩;have m:=Mem.refl w
 go_enter func61,ntmps61
 apply kX 12 [0] m;simp only[↓U,amh];intro h j l u m;refine bU [6] [5,7,8,9,10,11,12,13,14,15,16,17,18] (λn vs s=>∃(i:Nat),vs=[G (i:Int)]/\Mem w s [bI l [.bool X9,.string ⟨#[]⟩,.bool X9,.string ⟨#[]⟩,.bool X9,.string ⟨#[]⟩,.bool X9,.string ⟨#[]⟩,.bool X9,.string ⟨#[]⟩,.bool X9,.string ⟨#[]⟩,.bool X9,.string ⟨#[]⟩,.bool X9,.string ⟨#[]⟩,.bool X9,.string ⟨#[]⟩,.bool X9,.string ⟨#[]⟩] 97,bI j (qC b) 97,bI h (qC (qP a b i)) 97]/\(i<=10)/\(n=10-i)) ?_ ?_
 .exact⟨_,0,O,m,bu _,O⟩
 intro n vs wr q u v t
 obtain⟨i,rfl,m,e,A⟩:=q;simp only[zu,zF,zG];apply aG 5 [0,0] m;simp only[↓U];refine bB O ?_ ?_<;>intro B
 .have e:i<10:=by omega
  obtain⟨x,g⟩:∃x,a[i]? = H x:=⟨_,abQ c e⟩
  obtain⟨y,f⟩:∃y,b[i]? = H y:=⟨_,abQ d e⟩
  have r:=avI c d e g;apply aG 8 [0] m;simp only[↓U];refine dQ m 9 aD (by kernel_rfl) ?_;simp only[zy];refine fE 3 [] ?_;simp only[↓U,Ve,ai,aj];apply I0;omega;refine ql O (λu m=>(show lC _ _ _ _ (W x) from (Fc (m.b 2 O) r).lies cE aO)) ?_;simp only[I];refine L aI (fE 1 [] ?_);simp only[↓U,Ve,ai,aj];apply I0;omega;refine ql O (λu m=>(show lC _ _ _ _ (W y) from (Fc (m.b 1 O) f).lies cE aO)) ?_;simp only[I];refine jF O O (We ((o.at g).mono (by omega)) ((p.at f).mono (by omega))) (fE 1 [] ?_);simp only[↓U,Ve,ai,aj];apply I0;omega;refine bM ?_;intro u m;refine cB m 2 O O O aO (by have h1:=Fb (qP a b i);have h2:=al7 c d (show i<=10 by omega);simp only[be,cd];omega) rfl ?_;intro u m;simp only[zF,zG] at m;rw[show bR (qC (qP a b i)) (i*2) [.bool (fF (x+y)),.string (iR (x+y))]=qC (qP a b (i+1)) from (abO (x:=x+y) (by rw[al7 c d (by omega)];omega)).trans (by rw[as2 c d e g f])] at m;refine E ?_;apply S 5 [0] m;simp only[↓U];apply I0;omega;exact t (10-(i+1)) _ _ (by omega) (by kernel_rfl) ⟨i+1,O,m,by omega,O⟩
 obtain rfl:i=10:=by omega
 rw[as1 c d] at m;apply aG 3 [0] m;simp only[↓U];refine aS O (yR (m.b 2 O) Bq lF (by simp only[mG c d])) ?_;simp only[I];refine Hb (n:=20) m 0 O O O (by rw[mG c d]) O lF ?_;intro u m;simp only[zF,zG] at m;apply aJ 2 [] m;simp only[↓U];exact aU O ⟨_,O,(yR (m.b 0 O) Bq lF (by simp only[mG c d]))⟩ ⟨_,O,m.ext,O⟩
def aw6[IT t]:eS G1 182 [tr t] (qV [t.normal.x,t.normal.y,t.normal.z,0-t.normal.x*t.a.x-t.normal.y*t.a.y-t.normal.z*t.a.z]):=by
 intro w;refine⟨bK func182 (by kernel_rfl),?_⟩;have m:=Mem.refl w
 go_enter func182,ntmps182
 apply kX 8 [2,0] m;simp only[↓U,afK,fJ];intro c d u m;refine tK m O O (Wj (t:=t)) 14 [0,1,1,1,0] ?_;simp only[↓U,abT,afL,Vr,fB,amo,afK,amn,aa,ag,ah];intro e g4;apply I0;omega;intro u m;apply S 31 [4,4,4,4,1,0] m;simp only[↓U,l,iW,j,iX,kC,Dg,ag,ah,aa];apply I0;omega;refine C (jV O O) ?_;apply aJ 3 [0] m;simp only[↓U];refine dQ m 10 aD (by kernel_rfl) ?_;simp only[zy];refine fE 1 [] ?_;simp only[↓U,Fk,ag,ah,aa];apply I0;omega;refine ql O (λu m=>(apB ((m.b 0 O).lies cE aO O O))) ?_;simp only[I];refine fE 4 [2] ?_;simp only[↓U,Vr,fB,ag,ah,aa];apply I0;omega;refine jF O O (qU Iw.h) ?_;simp only[I];refine jF O O (vD D.up D.up) ?_;simp only[I];refine jF O O (Ih D.up D.up) (fE 1 [] ?_);simp only[↓U,Fk,ag,ah,aa];apply I0;omega;refine bM ?_;intro u m;refine cB m 0 O O O aO (X O) O ?_;intro u m;simp only[zy,zx,bR,zF,zG,aa] at m;refine E ?_;apply S 18 [1,0] m;simp only[↓U,R];apply I0;omega;refine C (jW O O) ?_;apply aJ 3 [0] m;simp only[↓U];refine dQ m 10 aD (by kernel_rfl) ?_;simp only[zy];refine fE 6 [1,2] ?_;simp only[↓U,Fk,fB,Vr,ag,ah,aa];apply I0;omega;refine jF O O (qU Iw.h) ?_;simp only[I];refine jF O O (vD D.up D.up) ?_;simp only[I];refine jF O O (Ih D.up D.up) (fE 1 [] ?_);simp only[↓U,Fk,ag,ah,aa];apply I0;omega;refine bM ?_;intro u m;refine cB m 0 O O O aO (X O) O ?_;intro u m;simp only[zy,zx,bR,zF,zG,aa] at m;refine E ?_;apply S 18 [1,0] m;simp only[↓U,R];apply I0;omega;refine C (jX O O) ?_;apply aJ 3 [0] m;simp only[↓U];refine dQ m 10 aD (by kernel_rfl) ?_;simp only[zy];refine fE 6 [1,2] ?_;simp only[↓U,Fk,fB,Vr,ag,ah,aa];apply I0;omega;refine jF O O (qU Iw.h) ?_;simp only[I];refine jF O O (vD D.up D.up) ?_;simp only[I];refine jF O O (Ih D.up D.up) (fE 1 [] ?_);simp only[↓U,Fk,ag,ah,aa];apply I0;omega;refine bM ?_;intro u m;refine cB m 0 O O O aO (X O) O ?_;intro u m;simp only[zy,zx,bR,zF,zG,aa] at m;refine E ?_;apply Lc 19 [2,1,2] m;simp only[↓U,amn,R,aa];apply I0;omega;intro u m;exact aU O ⟨_,O,((m.b 2 O).full agS Ni)⟩ ⟨_,O,m.ext,O⟩
def awz(f:FuncId)(a:Array ak)(w0:an)(is:List It)(k:Nat)(J:Nat->It):Prop:=
 ∀n u,n<10->Mem w0 u (is.set k (J n))->xJ G1 f ([G (n:Int),G (eI n:Int),G (eJ n:Int)]++a.toList) u λ_ w'=>Mem w0 w' (is.set k (J (n+1)))
def an9{is:List It}{f:FuncId}{a:Array ak}{J:Nat->It}(m:Mem w0 w is)(k:Nat)(b:is[k]? = H (J 0))(hc:awz f a w0 is k J):Calls G1 119 [.func (.func f) #[] a].toArray w λe w'=>∃v i,e=.returned v/\Mem w0 w' (is.set k i)/\(v=.tuple #[]/\i=J 10):=by
 replace m:=(show Mem w0 w (is.set k (J 0)) by rw[Tu b];exact m)
 go_enter func119,ntmps119
 apply fD 49 [5,1,5,1,0] m;simp only[↓U];apply I0;omega;refine jN O O (hc 0 _ (by decide) m) ?_;rintro v u m;apply aJ 29 [1,0] m;simp only[↓U,R];apply I0;omega;refine jN O O (hc 1 _ (by decide) m) ?_;rintro v u m;apply aJ 29 [1,0] m;simp only[↓U,R];apply I0;omega;refine jN O O (hc 2 _ (by decide) m) ?_;rintro v u m;apply aJ 29 [1,0] m;simp only[↓U,R];apply I0;omega;refine jN O O (hc 3 _ (by decide) m) ?_;rintro v u m;apply aJ 65 [2,1,4,1,0] m;simp only[↓U,R];apply I0;omega;refine jN O O (hc 4 _ (by decide) m) ?_;rintro v u m;apply aJ 29 [1,0] m;simp only[↓U,R];apply I0;omega;refine jN O O (hc 5 _ (by decide) m) ?_;rintro v u m;apply aJ 29 [1,0] m;simp only[↓U,R];apply I0;omega;refine jN O O (hc 6 _ (by decide) m) ?_;rintro v u m;apply aJ 65 [2,1,3,1,0] m;simp only[↓U,R];apply I0;omega;refine jN O O (hc 7 _ (by decide) m) ?_;rintro v u m;apply aJ 29 [1,0] m;simp only[↓U,R];apply I0;omega;refine jN O O (hc 8 _ (by decide) m) ?_;rintro v u m;apply aJ 65 [2,1,2,1,0] m;simp only[↓U,R];apply I0;omega;refine jN O O (hc 9 _ (by decide) m) ?_;rintro v u m;apply aJ 34 [2,2,0] m;simp only[↓U,R];apply I0;omega;exact So O ⟨_,J 10,O,m,O,O⟩
def awA{g n:Nat}{a b c d:Int}(m:Mem w0 w [bI g (qC (qF a b c d n)) 97,bI g5 (wC 2) 95,bI g4 (qC [a,b,c,d]) 229,K])(e:n<10)(h:Jo k [a,b,c,d])(t:k<=400000):xJ G1 183 [G (n:Int),G (eI n:Int),G (eJ n:Int),.pointer (H ⟨g4,0,G0⟩),.pointer (H ⟨g,0,G0⟩),.pointer (H ⟨g5,0,G0⟩)] w λ_ w'=>Mem w0 w' [bI g (qC (qF a b c d (n+1))) 97,bI g5 (wC 2) 95,bI g4 (qC [a,b,c,d]) 229,K]:=by
 refine⟨bK func183 (by kernel_rfl),?_⟩;have l:=al8 e;have o:=al9 e;have i:=arh a b c d l;have j:=arh a b c d o;have r:=as3 a b c d (show n<=10 by omega);have s:=afC h rfl e;have q:Bd 2 (2:Int):=by unfold Bd;decide
 go_enter func183,ntmps183
 apply fD 1 [0] m;simp only[↓U];refine dQ m 9 aD (by kernel_rfl) ?_;simp only[zy];refine fE 3 [] ?_;simp only[↓U,Fk,ai,aj];apply I0;omega;refine ql O (λu m=>(show lC _ _ _ _ (W ([a,b,c,d].getD (eI n) 0)) from (Fc (m.b 2 O) i).lies cE aO)) ?_;simp only[I];refine L aI (fE 1 [] ?_);simp only[↓U,Fk,ai,aj];apply I0;omega;refine ql O (λu m=>(show lC _ _ _ _ (W ([a,b,c,d].getD (eJ n) 0)) from (Fc (m.b 2 O) j).lies cE aO)) ?_;simp only[I];refine jF O O (vD ((h.at i).mono (by omega)) ((h.at j).mono (by omega))) (fE 1 [] ?_);simp only[↓U,Ve,ai,aj];apply I0;omega;refine bM ?_;intro u m;refine cB m 0 O O O aO (by have h1:=Fb (qF a b c d n);have h2:=r;simp only[be,cd];omega) rfl ?_;intro u m;simp only[zF,zG] at m;rw[show bR (qC (qF a b c d n)) (n*2) [.bool (fF ([a,b,c,d].getD (eI n) 0*[a,b,c,d].getD (eJ n) 0)),.string (iR ([a,b,c,d].getD (eI n) 0*[a,b,c,d].getD (eJ n) 0))]=qC ((qF a b c d n).set n (pr1 [a,b,c,d] n)) from abO (by omega)] at m;refine E ?_;apply S 6 [0,0] m;simp only[↓U];refine bB O ?_ ?_<;>intro v
 .have p:((qF a b c d n).set n (pr1 [a,b,c,d] n))[n]? = H (pr1 [a,b,c,d] n):=by rw[List.getElem?_set_self (by omega)]
  have f:=ama (a:=a) (b:=b) (c:=c) (d:=d) e;rw[K0 (by omega)] at f;refine dQ m 7 aD (by kernel_rfl) ?_;simp only[zy];refine fE 3 [] ?_;simp only[↓U,Ve,ai,aj];apply I0;omega;refine ql O (λu m=>(show lC _ _ _ _ (W (pr1 [a,b,c,d] n)) from (Fc (m.b 0 O) p).lies cE aO)) ?_;simp only[I];refine ql O (λu m=>(show lC _ _ _ _ (W 2) from (m.b 1 O).lies cE aO O O)) ?_;simp only[I];refine jF O O (vD (s.mono (by omega)) (q.mono (by omega))) (fE 1 [] ?_);simp only[↓U,Ve,ai,aj];apply I0;omega;refine bM ?_;intro u m;refine cB m 0 O O O aO (by have h1:=Fb ((qF a b c d n).set n (pr1 [a,b,c,d] n));have h2:=(la:((qF a b c d n).set n (pr1 [a,b,c,d] n)).length=_);simp only[be,cd];omega) rfl ?_;intro u m;simp only[zF,zG] at m;rw[show bR (qC ((qF a b c d n).set n (pr1 [a,b,c,d] n))) (n*2) [.bool (fF (pr1 [a,b,c,d] n*2)),.string (iR (pr1 [a,b,c,d] n*2))]=qC (((qF a b c d n).set n (pr1 [a,b,c,d] n)).set n (pr1 [a,b,c,d] n*2)) from abO (by rw[la];omega)] at m;refine E ?_;exact So O ⟨_,O,by rw[f] at m;exact m⟩
 have f:=ama (a:=a) (b:=b) (c:=c) (d:=d) e;rw[Z9 (by omega),List.set_set] at f;apply aG 1 [0] m;simp only[↓U];exact So O ⟨_,O,by rw[f] at m;exact m⟩
def zw0:[bj X9,Value.string ⟨#[]⟩]=wC 0:=by unfold wC;rw[Na];rfl
def zq0:([.bool X9,.string ⟨#[]⟩,.bool X9,.string ⟨#[]⟩,.bool X9,.string ⟨#[]⟩,.bool X9,.string ⟨#[]⟩,.bool X9,.string ⟨#[]⟩,.bool X9,.string ⟨#[]⟩,.bool X9,.string ⟨#[]⟩,.bool X9,.string ⟨#[]⟩,.bool X9,.string ⟨#[]⟩,.bool X9,.string ⟨#[]⟩]:List ak)=qC q0:=by unfold qC q0;simp only[List.flatMap_cons,List.flatMap_nil,<-zw0];rfl
def zqV:(Value.agg #[.bool X9,.string ⟨#[]⟩,.bool X9,.string ⟨#[]⟩,.bool X9,.string ⟨#[]⟩,.bool X9,.string ⟨#[]⟩,.bool X9,.string ⟨#[]⟩,.bool X9,.string ⟨#[]⟩,.bool X9,.string ⟨#[]⟩,.bool X9,.string ⟨#[]⟩,.bool X9,.string ⟨#[]⟩,.bool X9,.string ⟨#[]⟩])=qV q0:=by unfold qV;rw[<-zq0]
def ahY{n:Int}(h1:fF n=X9)(h2:iR n=⟨#[]⟩):n=0:=aq0 (by rw[aa1];unfold W;rw[h1,h2])
theorem aw7(t:T3):0-t.normal.x*t.a.x-t.normal.y*t.a.y-t.normal.z*t.a.z = -((vV t.a t.b t.c).dot t.a):=by
 show 0-(vV t.a t.b t.c).x*t.a.x-(vV t.a t.b t.c).y*t.a.y-(vV t.a t.b t.c).z*t.a.z=_
 generalize vV t.a t.b t.c=n;unfold P3.dot
 grind
def agj(t:T3):qPr t.normal.x t.normal.y t.normal.z (0-t.normal.x*t.a.x-t.normal.y*t.a.y-t.normal.z*t.a.z)=qOf t:=by rw[aw7];rfl
def arH[IT t]:Jo 300 [t.normal.x,t.normal.y,t.normal.z,0-t.normal.x*t.a.x-t.normal.y*t.a.y-t.normal.z*t.a.z]:=λx b=>by
 simp only[av,bw,Y3] at b;rcases b with rfl|rfl|rfl|rfl
 .exact (D.up:Bd 300 t.normal.x)
 .exact (D.up:Bd 300 t.normal.y)
 .exact (D.up:Bd 300 t.normal.z)
 exact (D.up:Bd 300 (0-t.normal.x*t.a.x-t.normal.y*t.a.y-t.normal.z*t.a.z))
def aoa[IT t]:Jo 602 (qOf t):=by rw[<-agj];exact avK arH
def yI(t:T3):(qOf t).length=10:=rfl
def awB:Jo 1 q0:=λx a=>by
 simp only[q0,av,bw,Y3] at a;rcases a with rfl|rfl|rfl|rfl|rfl|rfl|rfl|rfl|rfl|rfl<;>(unfold Bd;decide)
def Mo{p:P3}(h:ts[k]? = H t):xN (ts.take (k+1)) p=if t.has p then Hm (xN (ts.take k) p) (qOf t) else xN (ts.take k) p:=by
 unfold xN;rw[bV h,gl,List.foldl_append];cases a:t.has p<;>simp[a]
def Cw{ts:List T3}{p:P3}:∀k,k<=ts.length->(xN (ts.take k) p).length=10
 |0,_=>rfl
 |k+1,a=>by
  rw[Mo (ap (by omega))];split
  .exact mG (Cw k (by omega)) (yI _)
  exact Cw k (by omega)
def acn{ts:List T3}{p:P3}(a:∀t∈ts,IT t):∀k,k<=ts.length->Jo (602+k) (xN (ts.take k) p)
 |0,_=>awB.mono (by omega)
 |k+1,b=>by
  rw[Mo (ap (by omega))];split
  . haveI:=a _ (List.getElem_mem (by omega:k<ts.length))
    exact Rs (acn a k (by omega)) (aoa.mono (by show 602<=602+k;omega))
  exact (acn a k (by omega)).mono (by omega)
def awC[IT t]:eS G1 117 [tr t] (qV (qOf t)):=by
 intro w;refine⟨bK func117 (by kernel_rfl),?_⟩;have m:=Mem.refl w
 go_enter func117,ntmps117
 apply kX 12 [3,0] m;simp only[↓U,amh,fJ];intro g h d u m;refine tK m O O (aw6 (t:=t)) 1 [0] ?_;simp only[↓U,afK];intro g4 u m;refine Hb (n:=8) m 0 O O O O O Ni ?_;intro u m;simp only[zF,zG] at m;apply aJ 4 [0] m;simp only[↓U];refine aS O (yR (m.b 0 O) agS Ni O) ?_;simp only[I];apply aJ 3 [0] m;simp only[↓U,amo,aa];refine⟨_,apJ,?_⟩;refine bB O ?_ ?_<;>intro c
 .apply aG 1 [] m;simp only[↓U];rw[zq0] at m;apply S 1 [0] m;simp only[↓U];refine aS O (yR (m.b 1 O) Bq lF (by first|rw[yI]|rfl)) ?_;simp only[I];refine Hb (n:=20) m 2 O O O O O lF ?_;intro u m;simp only[zF,zG] at m;apply aJ 2 [] m;simp only[↓U];refine aU O ⟨_,O,(yR (m.b 2 O) Bq lF (by first|rw[yI]|rfl))⟩ ?_;try simp only[zD,zE]
  exact⟨_,O,m.ext,by rw[<-agj,ahY c.2.2.2.2.2.2.1 c.2.2.2.2.2.2.2,ahY c.1 c.2.1,ahY c.2.2.1 c.2.2.2.1,ahY c.2.2.2.2.1 c.2.2.2.2.2.1];rfl⟩
 apply aG 3 [0] m;simp only[↓U];refine tK m O O (qU (n:=2) (by constructor<;>decide)) 4 [0] ?_;simp only[↓U,lT,fB,aa];intro g5 u m;rw[zq0] at m;apply S 1 [0] m;simp only[↓U];refine C eR ?_;simp only[I,fx,bm,df];replace m:=m.pull 1 O;simp only[dX,dY,zF,zG] at m;replace m:=m.pull 1 O;simp only[dX,dY,zF,zG] at m;replace m:=m.pull 2 O;simp only[dX,dY,zF,zG] at m;replace m:=m.pack3;refine nK m 0 ak1 O O (λm=>an9 (J:=λn=>bI d (qC (qF t.normal.x t.normal.y t.normal.z (0-t.normal.x*t.a.x-t.normal.y*t.a.y-t.normal.z*t.a.z) n)) 97) m 0 O (λn u e f=>awA (k:=300) f e arH (by decide))) ?_;rintro v i u m ⟨rfl,rfl⟩;simp only[zF,zG] at m;simp only[I];replace m:=m.unpack3;rw[avJ,agj] at m;apply aJ 3 [0] m;simp only[↓U];refine aS O (yR (m.b 0 O) Bq lF (by first|rw[yI]|rfl)) ?_;simp only[I];refine Hb (n:=20) m 3 O O O (by rw[yI]) O lF ?_;intro u m;simp only[zF,zG] at m;apply aJ 2 [] m;simp only[↓U];exact aU O ⟨_,O,(yR (m.b 3 O) Bq lF (by first|rw[yI]|rfl))⟩ ⟨_,O,m.ext,O⟩
def awD{d n:Nat}{q x:List Int}(m:Mem w0 w [bI g5 (wC (atS q x n)) 95,bI g4 (qC x) 168,bI d (qC q) 97,K])(a:n<10)(e:Jo k q)(g:q.length=10)(c:Jo 64 x)(l:x.length=4)(t:k<=900000):xJ G1 120 [G (n:Int),G (eI n:Int),G (eJ n:Int),.pointer (H ⟨g5,0,G0⟩),.pointer (H ⟨d,0,G0⟩),.pointer (H ⟨g4,0,G0⟩)] w λ_ w'=>Mem w0 w' [bI g5 (wC (atS q x (n+1))) 95,bI g4 (qC x) 168,bI d (qC q) 97,K]:=by
 refine⟨bK func120 (by kernel_rfl),?_⟩;have r:=al8 a;have s:=al9 a;have i:x[eI n]? = H (x.getD (eI n) 0):=by rw[ir,ap (by omega:eI n<x.length)];rfl
 have j:x[eJ n]? = H (x.getD (eJ n) 0):=by rw[ir,ap (by omega:eJ n<x.length)];rfl
 have f:=abQ g a;have h:Bd 128 (x.getD (eI n) 0*x.getD (eJ n) 0):=afC c l a;have p:=afD e g c l n (by omega);have o:=(e.at f).mul h
 go_enter func120,ntmps120
 refine g0 ?_;refine dQ m 13 aD (by kernel_rfl) ?_;simp only[zy];refine ql O (λu m=>(show lC _ _ _ _ (W (atS q x n)) from (m.b 0 O).lies cE aO O O)) ?_;simp only[I];refine L aI (fE 1 [] ?_);simp only[↓U,Ve,ai,aj];apply I0;omega;refine ql O (λu m=>(show lC _ _ _ _ (W (q.getD n 0)) from (Fc (m.b 2 O) f).lies cE aO)) ?_;simp only[I];refine L aI (fE 1 [] ?_);simp only[↓U,amk,ai,aj];apply I0;omega;refine ql O (λu m=>(show lC _ _ _ _ (W (x.getD (eI n) 0)) from (Fc (m.b 1 O) i).lies cE aO)) ?_;simp only[I];refine L aI (fE 1 [] ?_);simp only[↓U,amk,ai,aj];apply I0;omega;refine ql O (λu m=>(show lC _ _ _ _ (W (x.getD (eJ n) 0)) from (Fc (m.b 1 O) j).lies cE aO)) ?_;simp only[I];refine jF O O (vD ((c.at i).mono (by omega)) ((c.at j).mono (by omega))) ?_;simp only[I];refine jF O O (vD ((e.at f).mono (by omega)) (h.mono (by omega))) ?_;simp only[I];refine jF O O (We (p.mono (by omega)) (o.mono (by omega))) (bM ?_);intro u m;simp only[I];refine cB m 0 O O O aO (by simp[wC]) O ?_;intro u m;simp only[zF,zG] at m;rw[adD (by rfl)] at m;exact E (So O ⟨_,O,m⟩)
def awE{q:List Int}{p:P3}[I3 p](j:Jo k q)(a:q.length=10)(f:k<=900000):eS G1 60 [qV q,pt p] (W (qAt q p)):=by
 intro w;refine⟨bK func60 (by kernel_rfl),?_⟩;have m:=Mem.refl w
 go_enter func60,ntmps60
 apply kX 7 [0] m;simp only[↓U,lT];intro r s t u m;refine iF 12 [0,1,2,3,4,5,6,7,8,9,10] [⟨11,5,168,[.bool X9,.string ⟨#[]⟩,.bool X9,.string ⟨#[]⟩,.bool X9,.string ⟨#[]⟩,.bool X9,.string ⟨#[]⟩]⟩] aD (by kernel_rfl) (al1 ⟨_,_,_,O,by kernel_rfl,_,acY,O⟩) (ol:=?_) ?o ?_
 case o=>simp only[zw,zQ,zR];try rfl
 intro u d;replace m:=m.ext' d;refine fT (aY (c:=0) lQ O bL O O) ?_;simp only[I];refine iM O (λu e=>(((m.ext' e).b 1 O).lies1 bJ O)) ?_;simp only[I];refine iT O O (qU Iw.h) (fT (aY (c:=0) lQ O bL O O) ?_);simp only[I];refine iM O (λu e=>(((m.ext' e).b 1 O).lies1 bJ O)) ?_;simp only[I];refine iT O O (qU Iw.h) (fT (aY (c:=0) lQ O bL O O) ?_);simp only[I];refine iM O (λu e=>(((m.ext' e).b 1 O).lies1 bJ O)) ?_;simp only[I];refine iT O O (qU Iw.h) ?_;simp only[I];refine iT O O (qU (n:=1) (by constructor<;>decide)) (fT (Hl rfl rfl rfl rfl) (Pp ?_));simp only[I];refine mf1 m ?_;intro g4 u m;simp only[zJ,zK,zF,zG];refine cB m 0 O O O aiy (X O) O ?_;intro u m;simp only[zy,zx,bR,zF,zG,aa] at m;refine E ?_;apply Lc 5 [] m;simp only[↓U,lT];intro g5 u m;rw[zw0] at m;apply S 1 [0] m;simp only[↓U];refine C eR ?_;simp only[I,fx,bm,df];replace m:=m.pull 4 O;simp only[dX,dY,zF,zG] at m;replace m:=m.pull 2 O;simp only[dX,dY,zF,zG] at m;replace m:=m.pull 2 O;simp only[dX,dY,zF,zG] at m;replace m:=m.pack3;refine nK m 0 ak1 O O (λm=>an9 (J:=λn=>bI g5 (wC (atS q [p.x,p.y,p.z,1] n)) 95) m 0 O (λn u g l=>awD l g j a (bd4 X3) O f)) ?_;rintro v i u m ⟨rfl,rfl⟩;simp only[zF,zG] at m;simp only[I];replace m:=m.unpack3;rw[amb a] at m;apply iV 7 [1,3] m;simp only[↓U,fB,aa];intro u m;exact aU O ⟨_,O,((m.b 3 O).full cE aO)⟩ ⟨_,O,m.ext,O⟩
def arI{x:P3}:(decide (t.a.x=x.x/\t.a.y=x.y/\t.a.z=x.z)||decide (t.b.x=x.x/\t.b.y=x.y/\t.b.z=x.z)||decide (t.c.x=x.x/\t.c.y=x.y/\t.c.z=x.z))=t.has x:=by
 have e:∀p q:P3,(p.x=q.x/\p.y=q.y/\p.z=q.z)↔q=p:=λp q=>⟨λh=>(P3.eq h.1 h.2.1 h.2.2).symm,λh=>by rw[h];exact⟨O,O,O⟩⟩
 rw[iz,gK];simp only[iy,Y2,e,X6]
def auM{N:Nat}{A:Option Addr}{p:P3}(w:an)(f:cN w A N ts)(H:N<=800000):dF G1 58 [.slice A N cap,pt p] w (λv _=>v=qV (xN ts p)):=by
 refine⟨bK func58 (by kernel_rfl),?_⟩;have m:=Mem.refl w;have P:=f.len
 go_enter func58,ntmps58
 apply kX 17 [0] m;simp only[↓U,amh,jL];intro o q r u m;refine bU [10] [7,11,12,13,14,15,16,17,18,19,20,21,22,23,24,25,26,27,28,29,30,31,32,33,34] (λn vs B=>∃(k:Nat),vs=[G (k:Int)]/\Mem w B [bI r (qC (xN (ts.take k) p)) 97,bI q [.bool X9,.string ⟨#[]⟩,.bool X9,.string ⟨#[]⟩,.bool X9,.string ⟨#[]⟩,.bool X9,.string ⟨#[]⟩,.bool X9,.string ⟨#[]⟩,.bool X9,.string ⟨#[]⟩,.bool X9,.string ⟨#[]⟩,.bool X9,.string ⟨#[]⟩,.bool X9,.string ⟨#[]⟩,.bool X9,.string ⟨#[]⟩] 97,bI o [G p.x,G p.y,G p.z] 30]/\(k<=N)/\(n=N-k)) ?_ ?_
 . rw[show ([.bool X9,.string ⟨#[]⟩,.bool X9,.string ⟨#[]⟩,.bool X9,.string ⟨#[]⟩,.bool X9,.string ⟨#[]⟩,.bool X9,.string ⟨#[]⟩,.bool X9,.string ⟨#[]⟩,.bool X9,.string ⟨#[]⟩,.bool X9,.string ⟨#[]⟩,.bool X9,.string ⟨#[]⟩,.bool X9,.string ⟨#[]⟩]:List ak)=qC (xN (ts.take 0) p) from zq0] at m
   exact⟨_,0,O,m,bu _,O⟩
 intro n vs wr s u F j
 obtain⟨k,rfl,m,J,K⟩:=s;simp only[zu,zF,zG];apply aG 5 [0,0] m;simp only[↓U];refine bB O ?_ ?_<;>intro L
 .obtain⟨t,h,M,a,rfl,D⟩:=f.get (i:=k) (by omega);have g:=Cw (ts:=ts) (p:=p) k (by omega);have C:=acn (p:=p) f.it k (by omega);apply sO 21 [0,1,0,1,4,5,1,4,5,1,4,0] m;simp only[↓U,eO,mH,fJ,l,aN,ai,aj,aa,ag,ah];refine⟨_,λu m=>((D.ext m.ext).lies dG bA),λg4=>⟨_,fH,_,fH,λ_=>⟨_,fH,λ_=>⟨by omega,?_⟩⟩⟩⟩;intro u m;refine cQ O ?_ ?_<;>intro d
  .rw[arI] at d;have c:=Mo (p:=p) h;rw[Z9 d] at c;refine dQ m 4 aD (by kernel_rfl) ?_;simp only[zy];refine ql O (λu m=>(yR (m.b 1 O) Bq lF (by first|rw[e]|rw[Cw _ (by omega)]))) ?_;simp only[I];refine ql O (λu m=>((m.b 0 O).full dG bA)) ?_;simp only[I];refine jF O O (awC (t:=t)) ?_;simp only[I];refine jF O O (agi g (yI t) C (aoa.mono (by omega)) (by omega)) (bM ?_);intro u m;simp only[I];refine Hb (n:=20) m 1 O O O (by rw[mG g (yI t)]) (by rw[Fb,g]) lF ?_;intro u m;simp only[zF,zG] at m;refine E ?_;apply S 5 [0] m;simp only[↓U];apply I0;omega;rw[<-c] at m;exact j (N-(k+1)) _ _ (by omega) (by kernel_rfl) ⟨k+1,O,(m.sel [X9,Z,Z,Z]),by omega,O⟩
  rw[arI] at d;have c:=Mo (p:=p) h;rw[K0 (by rw[d];exact fh)] at c;apply aG 6 [0] m;simp only[↓U];apply I0;omega;rw[<-c] at m;exact j (N-(k+1)) _ _ (by omega) (by kernel_rfl) ⟨k+1,O,(m.sel [X9,Z,Z,Z]),by omega,O⟩
 obtain rfl:N=k:=by omega
 rw[show ts.take N=ts from a_ (by omega)] at m;have e:(xN ts p).length=10:=by have:=Cw (ts:=ts) (p:=p) N (by omega);rwa [a_ (by omega)] at this
 apply aG 3 [0] m;simp only[↓U];refine aS O (yR (m.b 0 O) Bq lF (by first|rw[e]|rw[Cw _ (by omega)])) ?_;simp only[I];refine Hb (n:=20) m 1 O O O (by rw[e]) O lF ?_;intro u m;simp only[zF,zG] at m;apply aJ 2 [] m;simp only[↓U];exact aU O ⟨_,O,(yR (m.b 1 O) Bq lF (by rw[e]))⟩ ⟨_,O,m.ext,O⟩
end Go.Proofs.YtfekpcimgncioaaGreatDoor
set_option linter.unusedSectionVars false
namespace Go.Lith
section
open Go
variable{P:cg}{w:an}{α:Type}{d:Nat}{m m':Machine}
def agk{a:Addr}{u:bh}{k:Addr}{v:ak}{b:Bool}{r:an×List Addr}(h:w.viewStore P a u k v b=.ok r):r.1.drawn=w.drawn:=by
 unfold World.viewStore at h;simp only[bind,Except.bind,pure,Except.pure,throw] at h
 repeat' split at h
 all_goals first|(cases h;done)|(cases h;rfl)|skip
def ajO{x:Addr}{v:ak}{b:Bool}{r:an×List Addr}(h:w.farStore P x v b=.ok r):r.1.drawn=w.drawn:=by
 unfold World.farStore at h;split at h
 . split at h
   . rename_i a
     cases h;exact agk a
   cases h
 cases h
def aco(w:an)(x:Addr)(n:Nat):(w.freeze x n).drawn=w.drawn:=by
 unfold World.freeze;split<;>rfl
def ajP(s:Ask α):∀w:an,w.drawn<=(w.ask s).2.drawn:=by
 induction s with
 |done a=>intro w;exact ba _
 |ask b range k ih=>
  intro w;simp only[World.ask];split
  .exact ih _ w
  exact ax (rp _) (ih _ { w with drawn:=w.drawn+1 })
def ajQ(w:an)(c:Sys):w.drawn<=(w.sys c).2.drawn:=by
 have h:=ajP (Kernel.perform c w.os) w;unfold World.sys;split
 .exact ba _
 rename_i e
 rw[e] at h;exact h
def okR{α:Type}(d:Nat):Result α->Prop
 |.ok _ w=>d<=w.drawn
 |.halt _ w=>d<=w.drawn
def okR.mono{α:Type}{d e:Nat}(h:e<=d):∀{r:Result α},okR d r->okR e r
 |.ok _ _,k=>ax h k
 |.halt _ _,k=>ax h k
def Sg(s:Sem α):∀w:an,okR w.drawn (s.run P w):=by
 induction s with
 |pure _=>intro w;exact ba _
 |load m x k ih=>
  intro w;simp only[Sem.run];split
  .exact ih _ _
  split
  .exact ih _ _
  exact ba _
 |store m x v k ih=>
  intro w;have key:okR w.drawn (match w.cell? x with
   |some _=>if w.frozen? x then Result.halt (.unsupported (.unsafePointer "a write to bytes that a string shares")) w else k.run P (w.setCell x v)
   |none=>match w.farStore P x v (m == Mode.atomic) with
    |.ok (w,_)=>k.run P w
    |.error h=>.halt h w):=by
   split
   . split
     .exact ba _
     exact ih (w.setCell x v)
   split
   . rename_i a
     exact okR.mono (Nat.le_of_eq (ajO a).symm) (ih _)
   exact ba _
  cases v<;>simp only[Sem.run]<;>first|exact ba _|exact key
 |new o k ih=>intro w;exact ih _ { w with heap:=w.heap.push o }
 |shape r k ih=>intro w;exact ih _ _
 |freeze x n k ih=>intro w;exact okR.mono (Nat.le_of_eq (aco w x n).symm) (ih _)
 |frozen x k ih=>intro w;exact ih _ _
 |getObj r k ih=>
  intro w;simp only[Sem.run];split
  .exact ba _
  .exact ih _ _
  exact ba _
 |setObj r o k ih=>
  intro w;simp only[Sem.run];split
  .exact ba _
  .exact ih { w with heap:=w.heap.setIfInBounds r o }
  exact ba _
 |choose q k ih=>
  intro w;simp only[Sem.run];split
  .exact ih _ _
  exact okR.mono (rp _) (ih _ { w with drawn:=w.drawn+1 })
 |sys c k ih=>intro w;exact okR.mono (ajQ w c) (ih _ _)
 |program k ih=>intro w;exact ih _ _
 |mark m k ih=>intro w;exact ih _
 |halt x=>intro w;exact ba _
def aei{s:Sem α}{es:Array Event}{r:Result α}{a:Array Event}(h:s.runT P w es=(r,a)):okR w.drawn r:=by
 have:=Sem.runT_fst P s w es;rw[h] at this;rw[show r=s.run P w from this];exact Sg s w
def iK{s:Sem α}{r:Result α}(h:s.run P w=r):okR w.drawn r:=h▸Sg s w
def qB{s:Sem α}{es:Array Event}{r:Result α}(h:(s.runT P w es).1=r):okR w.drawn r:=by
 rw[Sem.runT_fst] at h;exact iK h
def okG(d:Nat):GStep->Prop
 |.go _ w _|.comm _ _ _ _ w _|.spawn _ _ w _|.count _ w _|.timer _ _ w _|.alone _ _ w _|.newcoro _ _ _ w _|.coroswitch _ _ _ w _|.collect _ w _|.watch _ w _=>d<=w.drawn
 |.ended _ _ _=>True
def Az{es:Array Event}{g:GStep}(h:okG d g):okG d (g.after es):=by cases g<;>exact h
def aqF{α:Type}{d:Nat}{x:GStep}{f:α->GStep}(h1:okG d x)(h2:∀a,okG d (f a)):∀o:Option α,okG d (o.elim x f)
 |none=>h1
 |some a=>h2 a
section
variable{P:cg}{d:Nat}{w:an}(hw:d<=w.drawn)
include hw
theorem agl(a:Nat)(t:ByteArray)(o:Outcome):okG d (endWith w a t o):=by
 unfold endWith;dsimp only
 repeat' split
 all_goals trivial
theorem Xc(b:Frame)(cs:List Frame)(a:Option Dying)(m:String):okG d (endFatal P b cs a m w):=by
 unfold endFatal;dsimp only;split
 . rename_i h
   exact ax hw (iK h)
 .trivial
 trivial
theorem Qp(a:Frame)(v:ak):okG d (endPrinting P a v w):=by
 unfold endPrinting;dsimp only;split
 .exact hw
 trivial
theorem Pf(c:Bool)(b:Frame)(cs:List Frame)(a:Option Dying)(v:ak):okG d (doReturn P c b cs a v w):=by
 unfold doReturn
 repeat' (first|exact hw|trivial|split)
theorem aej(a:Frame)(cs:List Frame)(b:Option Dying)(g:Nat):okG d (early P a cs b g w):=by
 have n:∀w:an,d<=w.drawn->okG d (match w.heap[g]? with
  |some (.pending c elem)=>GStep.go { frame:=a,callers:=cs,status:=.running,dying:=b } { w with heap:=w.heap.setIfInBounds g (.cells c elem) }
  |_=>.ended (.stuck "early: the variable does not wait" (a.pos P)) w):=λw hw=>by
  split
  .exact hw
  trivial
 unfold early;dsimp only
 repeat' (first|exact n _ hw|exact hw|trivial|exact ax hw (iK (r:=.ok _ _) (by assumption))|(rename_i f h1 h c1 e h2;exact ax hw (iK h1))|split)
theorem Xd(b:Bool)(g:Frame)(cs:List Frame)(f:Option Dying)(s:Sem Next):okG d (stepG.apply P b g cs f s w):=by
 unfold stepG.apply;dsimp only;have c:okR w.drawn (if b=Z then s.runT P w #[] else (s.run P w,#[])).1:=by
  split
  .rw[Sem.runT_fst];exact Sg s w
  exact Sg s w
 generalize (if b=Z then s.runT P w #[] else (s.run P w,#[]))=r at c;obtain⟨r,es⟩:=r;refine Az ?_;cases r with
 |ok n u=>
  have a:d<=u.drawn:=ax hw c;cases n
  all_goals dsimp only
  all_goals repeat' (first|exact a|trivial|exact throw_ok a _ _|split)
 |halt x u=>
  have a:d<=u.drawn:=ax hw c;cases x
  all_goals dsimp only
  all_goals repeat' (first|exact a|trivial|exact throw_ok a _ _|exact Xc a _ _ _ _|exact aej a _ _ _ _|(rename_i e;cases e;done)|(rename_i e;cases e;exact a)|(rename_i e;cases e;exact Xc a _ _ _ _)|(rename_i e;cases e;exact aej a _ _ _ _)|split)
theorem aqG(b:Bool)(c:Frame)(cs:List Frame)(a:Option Dying):okG d (stepG.oper P b c cs a w):=by
 unfold stepG.oper
 repeat' (first|trivial|exact Xd hw _ _ _ _ _|split)
theorem aqH(e b:Bool)(c:Frame)(cs:List Frame)(a:Option Dying):okG d (stepG.exec P e b c cs a w):=by
 unfold stepG.exec;dsimp only
 repeat' (first|exact hw|trivial|exact Xd hw _ _ _ _ _|exact aqG hw _ _ _ _|(with_reducible refine Az ?_)|exact ax hw (qB (r:=.ok _ _) (by assumption))|exact ax hw (qB (r:=.halt _ _) (by assumption))|exact ax hw (iK (r:=.ok _ _) (by assumption))|exact Pf (ax hw (qB (r:=.ok _ _) (by assumption))) _ _ _ _ _|exact Xd (ax hw (qB (r:=.ok _ _) (by assumption))) _ _ _ _ _|refine aqF ?_ (λ_=>?_) _|split)
theorem aek(b:Frame)(cs:List Frame)(a:Option Dying)(x:Deferred):okG d (callDeferred P b cs a x w):=by
 unfold callDeferred;dsimp only
 repeat' (first|exact hw|trivial|(with_reducible refine Az ?_)|exact ax hw (qB (r:=.ok _ _) (by assumption))|exact ax hw (qB (r:=.halt _ _) (by assumption))|exact throw_ok (ax hw (qB (r:=.halt _ _) (by assumption))) _ _|exact Xc (ax hw (qB (r:=.halt _ _) (by assumption))) _ _ _ _|split)
theorem ajS(c:Bool)(b:Frame)(cs:List Frame)(a:Option Dying):okG d (unwind P c b cs a w):=by
 unfold unwind;dsimp only
 repeat' (first|exact hw|trivial|(with_reducible refine Az ?_)|exact aek hw _ _ _ _|exact Pf hw _ _ _ _ _|exact Qp hw _ _|exact ax hw (qB (r:=.ok _ _) (by assumption))|exact ax hw (iK (r:=.ok _ _) (by assumption))|exact Pf (ax hw (qB (r:=.ok _ _) (by assumption))) _ _ _ _ _|split)
theorem agm(a:Frame)(x:Dying)(f:Fatal):okG d (writeOn P a x f w):=by
 unfold writeOn;dsimp only
 repeat' (first|exact hw|trivial|exact ax hw (aei (r:=.ok _ _) (by assumption))|exact ax hw (aei (r:=.halt _ _) (by assumption))|split)
theorem auN(a:Frame)(x:Dying):okG d (die P a x w):=by
 unfold die;dsimp only
 repeat' (first|exact hw|trivial|(with_reducible refine Az ?_)|exact agm hw _ _ _|exact agl hw _ _ _|exact ax hw (qB (r:=.ok _ _) (by assumption))|exact ax hw (iK (r:=.ok _ _) (by assumption))|exact Qp (ax hw (qB (r:=.halt _ _) (by assumption))) _ _|split)
theorem aob(a:Bool)(g:Goroutine)(b:Bool):okG d (stepG P a g w b):=by
 unfold stepG;dsimp only
 repeat' (first|exact auN hw _ _|exact aqH hw _ _ _ _ _|exact ajS hw _ _ _ _|split)
end
def okS(d:Nat):Stepped->Prop
 |.next m=>d<=m.world.drawn
 |_=>True
section
variable{P:cg}{d:Nat}{w:an}(hw:d<=w.drawn)
include hw
theorem agn{rest:Rest}{cases:Array CommCase}{u:an}(h:waitingAt rest cases w=H u):d<=u.drawn:=by
 unfold waitingAt at h;split at h
 . split at h
   .cases h;exact hw
   cases h
 cases h;exact hw
theorem aqI(rest:Rest)(gs:Array Goroutine)(i:Nat)(g:Goroutine)(cases:Array CommCase)(a:Bool)(b:CommShape):okS d (communicate P rest gs i g cases a b w).1:=by
 unfold communicate;dsimp only
 repeat' (first|exact hw|trivial|exact agn hw (by assumption)|split)
 all_goals dsimp only[okS]
 all_goals first|exact ax hw (iK (r:=.ok _ _) (by assumption))|exact ax (ax hw (iK (r:=.ok _ _) (by assumption))) (iK (r:=.ok _ _) (by assumption))|exact ax (ax hw (iK (r:=.ok _ _) (by assumption))) (iK (r:=.halt _ _) (by assumption))
theorem ahZ(gs:Array Goroutine)(rest:Rest):okS d (look P gs rest w):=by
 unfold look;dsimp only
 repeat' (first|exact hw|trivial|split)
 all_goals dsimp only[okS]
 all_goals exact ax hw (iK (r:=.ok _ _) (by assumption))
end
def aoc(m:Machine)(k:Nat):okS m.world.drawn (serve P m k):=by
 unfold serve;dsimp only
 repeat' (first|exact ba _|trivial|split)
def aaJ(m:Machine)(k:Nat)(t:Timer)(a b:Nat):m.world.drawn<=(retime m k t a b).2.world.drawn:=by
 unfold retime;dsimp only;split
 . unfold drain
   split<;>exact ba _
 exact ba _
def ael{v:ak}{g:Addr}{f:Nat->Timer->ak×Machine}(d:∀k t,m.world.drawn<=(f k t).2.world.drawn){c:Machine}(h:timerOp.named c g f=.ok (v,m')):m.world.drawn<=m'.world.drawn:=by
 unfold timerOp.named at h;split at h
 . rename_i k _
   have:=d k (c.rest.timers.getD k default);cases e:f k (c.rest.timers.getD k default) with
   |mk a b=>
    rw[e] at h this;cases h;exact this
 cases h
def ago{op:TimerOp}{v:ak}(h:timerOp m op=.ok (v,m')):m.world.drawn<=m'.world.drawn:=by
 unfold timerOp at h;cases op with
 |new t=>
  dsimp only at h
  repeat' (first|(cases h;done)|(cases h;exact ba _)|split at h)
 |stop b=>exact ael (λk t=>aaJ m k t _ _) h
 |reset b c f=>
  dsimp only at h;split at h
  . rename_i m1 a
    have h1:m.world.drawn<=m1.world.drawn:=by
     unfold timerOp.opened at a
     repeat' (first|(cases a;done)|(cases a;exact ba _)|split at a)
    exact ael (λk t=>ax h1 (aaJ m1 k t _ _)) h
  cases h
 |deadline d read e c=>cases h;exact ba _
def auO(P:cg)(m:Machine)(i:Nat)(b:Bool):okS m.world.drawn (runT P m i b).1:=by
 unfold runT;dsimp only;have h:=aob (P:=P) (ba m.world.drawn) (i == 0) (m.gs.swapAt! i { (default:Goroutine) with status:=.finished }).1 b;generalize stepG P (i == 0) (m.gs.swapAt! i { (default:Goroutine) with status:=.finished }).1 m.world b=s at h;cases s
 all_goals dsimp only
 all_goals repeat' (first|exact h|trivial|exact aqI h _ _ _ _ _ _ _|exact ahZ h _ _|split)
 all_goals exact ax h (ago (by assumption))
def okM(d:Nat):Move->Prop
 |.goroutine m _=>d<=m.world.drawn
 |.machine s _=>okS d s
def okS.mono{d e:Nat}(h:e<=d):∀{s:Stepped},okS d s->okS e s
 |.next _,k=>ax h k
 |.ended _ _,_=>trivial
def acq{P:cg}{d:Nat}(rs:List Nat)(m:Machine)(a:d<=m.world.drawn):okM d (match (choose (.sched rs.length)).run P m.world with
 |.halt _ w=>.machine (.ended (.stuck "sched" "") w)
 |.ok k world=>
  if rs.length<=1 then .goroutine { m with world } (rs.getD k 0) else
  match (choose (.extern "sched.slice" 65536)).run P world with
  |.halt _ w=>.machine (.ended (.stuck "sched.slice" "") w)
  |.ok n world=>.goroutine { m with world,rest:={ m.rest with slice:=if n=0 then G0 else H (rs.getD k 0,n) } } (rs.getD k 0)):=by
 repeat' (first|trivial|split)
 all_goals dsimp only[okM]
 all_goals first|exact ax a (iK (r:=.ok _ _) (by assumption))|exact ax (ax a (iK (r:=.ok _ _) (by assumption))) (iK (r:=.ok _ _) (by assumption))
def Xe(e:d<=m.world.drawn):okM d (askOn P m):=by
 unfold askOn;dsimp only;split
 .trivial
 rename_i k c h1
 have a:d<=c.drawn:=ax e (iK h1);split
 .exact okS.mono a (aoc { m with world:=c } _)
 split
 . split
   .exact a
   split
   .exact a
   split<;>trivial
 split
 .exact acq _ { m with world:=c } a
 split
 .trivial
 . rename_i b h2
   exact acq _ { m with world:=b } (ax a (iK h2))
 . rename_i b h2
   exact ax a (iK h2)
 rename_i b h2
 exact acq _ (({ m with world:=b }:Machine).advanceTo _) (ax a (iK h2))
def aod(b:d<=m.world.drawn):okM d (ask P m):=by
 unfold ask;split
 . split
   .trivial
   . rename_i a h1
     have h:d<=a.drawn:=ax b (iK h1);have c:=ahZ (P:=P) h m.gs m.rest;split
     . rename_i m2 h2
       rw[h2] at c;exact Xe c
     rename_i e f
     cases g:look P m.gs m.rest a with
     |next m2=>exact Y0 g (f m2)
     |ended o i=>trivial
   rename_i a h1 _
   exact Xe (m:={ m with world:=a }) (show d<=a.drawn from ax b (iK (r:=.ok _ _) (by assumption)))
 exact Xe b
def aqJ   : okM m.world.drawn (move P m):=by
 unfold move;split
 . split
   .exact ba _
   trivial
 split
 . split
   .exact ba _
   exact aod (m:={ m with rest:={ m.rest with slice:=G0 } }) (ba _)
 exact aod (ba _)
def aqK(h:step P m=.next m'):m.world.drawn<=m'.world.drawn:=by
 have h1:=aqJ (P:=P) (m:=m);have h2:okS m.world.drawn (step P m):=by
  unfold step stepT;split
  . rename_i m1 i a
    rw[a] at h1;exact okS.mono h1 (auO P m1 i _)
  rename_i s ops a
  rw[a] at h1;exact h1
 rw[h] at h2;exact h2
def aem(h:Steps P m m'):m.world.drawn<=m'.world.drawn:=by
 obtain⟨n,a⟩:=h
 induction n generalizing m with
 |zero=>cases a;exact ba _
 |succ n ih=>
  simp only[runN] at a;split at a
  . rename_i m1 h1
    exact ax (aqK h1) (ih a)
  rename_i e c
  cases b:step P m with
  |next m2=>exact Y0 b (c m2)
  |ended o d=>rw[b] at a;cases a
def aen{f:FuncId}{args:Array ak}{R:Ending->an->Prop}(d:∀w',¬R .outgrown w')(h:Calls P f args w R):Calls P f args w λe w'=>R e w'/\w.drawn<=w'.drawn:=λcs=>by
 obtain⟨e,w',b,a,hc,g,i⟩:=h cs;refine⟨e,w',b,⟨a,?_⟩,hc,g,i⟩;cases e with
 |returned v=>exact aem hc
 |panicked c=>exact aem hc
 |outgrown=>exact Y0 a (d w')
def eS.g{f:FuncId}{args:List ak}{v:ak}(h:eS P f args v):vS P f args v:=λw=>
 ⟨(h w).1,(aen (λ_ ⟨_,e,_⟩=>(by cases e)) (h w).2).mono λ_ _ ⟨⟨u,c,a,d⟩,b⟩=>⟨u,c,⟨a,b⟩,d⟩⟩
end
section
open Go.RowKit
def agp{l:List T3}{q:P3->List Int}{cs:List mP}{c:mP}{k:Nat}(g:∀d,d∈cs↔d∈afB l q)(p:cs.Pairwise λa b=>¬b.Lt a)(f:cs[k]? = H c)(m:dZ l c.u c.v=Z)(n:∀j d,j<k->cs[j]? = H d->dZ l d.u d.v=X9):Df l q=H c:=by
 refine apA (di.2 ⟨(g c).1 (bn f),m⟩) λd o i=>?_;obtain⟨h1,h2⟩:=di.1 o;obtain⟨j,e⟩:=fp.1 ((g d).2 h1);rcases Nat.lt_trichotomy j k with h|h|h
 .rw[n j d h e] at h2;cases h2
 .rw[h,f] at e;cases e;exact mP.lt_irrefl _ i
 obtain⟨s,rfl⟩:=az.1 f
 obtain⟨r,rfl⟩:=az.1 e;exact List.pairwise_iff_getElem.1 p k j s r h i
def agq{l:List T3}{q:P3->List Int}{cs:List mP}(c:∀d,d∈cs↔d∈afB l q)(a:∀d∈cs,dZ l d.u d.v=X9):Df l q=G0:=by
 refine Oc.2 (pz.2 λd b=>?_);rw[a d ((c d).2 b)];exact fh
/-! ### The example: the octahedron -/
end
end Go.Lith
namespace Go.Proofs.YtfekpcimgncioaaGreatDoor
open Go.Proofs.Tryz
open Go.RowKit Go.Lith
set_option maxRecDepth 100000
attribute [local irreducible] bf M fY cJ cU Code.wp
attribute [local congr] dK dL cZ dJ
variable{g50 g90 ga gf N cap ca cf n1 c1:Nat}{ts:List T3}
def vR(c:mP):List ak:=[G c.u.x,G c.u.y,G c.u.z,G c.v.x,G c.v.y,G c.v.z,.bool (fF c.c),.string (iR c.c)]
def acr(c:mP):ak:=.agg (vR c).toArray
def eM:(∀c,vR c=[G c.u.x,G c.u.y,G c.u.z,G c.v.x,G c.v.y,G c.v.z,.bool (fF c.c),.string (iR c.c)])/\(∀c,(acr c).cells.toList=[G c.u.x,G c.u.y,G c.u.z,G c.v.x,G c.v.y,G c.v.z,.bool (fF c.c),.string (iR c.c)])/\(∀c f,vvA (acr c) f=f [G c.u.x,G c.u.y,G c.u.z,G c.v.x,G c.v.y,G c.v.z,.bool (fF c.c),.string (iR c.c)]):=⟨λ_=>rfl,λ_=>rfl,λ_ _=>rfl⟩
def aqL(c:mP):∀v∈vR c,v.oneCell'=Z:=λv h=>by
 simp only[vR,av,bw,Y3] at h;rcases h with rfl|rfl|rfl|rfl|rfl|rfl|rfl|rfl<;>rfl
def aoe(a b:mP):Int:=if cA (a.c-b.c)=0 then if sQ a.u b.u=0 then sQ a.v b.v else sQ a.u b.u else cA (a.c-b.c)
def Mp(a b:mP):(aoe a b<0)↔a.Lt b:=by
 unfold aoe mP.Lt;have d:cA (a.c-b.c)=0↔a.c=b.c:=by rw[gX];omega
 have h1:cA (a.c-b.c)<0↔a.c<b.c:=by
  have:=acN (n:=a.c-b.c);omega
 by_cases h:a.c=b.c
 . rw[Z9 (d.2 h)]
   by_cases g:a.u=b.u
   . rw[Z9 (oT.2 g),nD]
     simp[h,g,P3.lt_irrefl]
   rw[K0 λk=>g (oT.1 k),nD]
   simp[h,g]
 rw[K0 λk=>h (d.1 k),h1]
 simp[h]
abbrev aof:Type:={ c:mP // Bd 900000 c.c }
instance:Inhabited aof:=⟨⟨⟨⟨0,0,0⟩,⟨0,0,0⟩,0⟩,Ra _⟩⟩
def aog:Go.Sort.SWO (Go.Proofs.ltOf λa b:aof=>aoe a.1 b.1) where
 irrefl a:=by simp only[Go.Proofs.ltOf,Y7,Mp];exact mP.lt_irrefl a.1
 trans x y z h1 h2:=by
  simp only[Go.Proofs.ltOf,Y2,Mp] at *
  exact mP.lt_trans h1 h2
 ntrans x y z h1 h2:=by
  simp only[Go.Proofs.ltOf,Y7,Mp] at *
  intro h;rcases mP.lt_tri y.1 x.1 with k|k|k
  .exact h2 (mP.lt_trans k h)
  .exact h2 (by rw[k];exact h)
  exact h1 k
def aqM{p q:mP}(i:Bd 900000 p.c)(j:Bd 900000 q.c):vS G1 64 [acr p,acr q] (G (aoe p q)):=by
 intro w;refine⟨bK func64 (by kernel_rfl),?_⟩;have m:=iL.refl w
 go_enter func64,ntmps64
 refine aV λf d=>am (qJ m O ?_);intro k u m;simp only[I];refine qJ m O ?_;intro l u m;refine C aK (E (d _ _ ?_));try clear d f
 refine aV λh e=>?_;simp only[I];refine Tc m 15 aD (by kernel_rfl) ?_;simp only[zy];refine L (aY (c:=1) Bp O aO O O) ?_;simp only[I];refine Xg O (λu m=>((m.b 1 O).lies cE aO O O)) ?_;simp only[I,zy,aj,aa,ah,ag];refine L (aY (c:=1) Bp O aO O O) ?_;simp only[I];refine Xg O (λu m=>((m.b 0 O).lies cE aO O O)) ?_;simp only[I,zy,aj,aa,ah,ag];refine Ks O O ((av8 (a:=p.c) (b:=q.c) i j).g) (L (aY (c:=2) Bp O aA O O) ?_);simp only[I];refine Xg O (λu m=>((m.b 1 O).lies aF aA O O)) ?_;simp only[I,zy,aj,aa,ah,ag];refine L (aY (c:=2) Bp O aA O O) ?_;simp only[I];refine Xg O (λu m=>((m.b 0 O).lies aF aA O O)) ?_;simp only[I,zy,aj,aa,ah,ag];refine Ks O O (Wn (p:=p.u) (q:=q.u)) (L (aY (c:=2) Bp O aA O O) ?_);simp only[I];refine Xg O (λu m=>((m.b 1 O).lies aF aA O O)) ?_;simp only[I,zy,aj,aa,ah,ag];refine L (aY (c:=2) Bp O aA O O) ?_;simp only[I];refine Xg O (λu m=>((m.b 0 O).lies aF aA O O)) ?_;simp only[I,zy,aj,aa,ah,ag];refine Ks O O (Wn (p:=p.v) (q:=q.v)) (bM ?_);intro u m;simp only[I];refine adL m dS (z:=G 0) (by kernel_rfl) O O O O O O O ?_;intro n u m;simp only[I];refine abW m O O (anm _ (m.b 0 O)) ?_;intro u m;refine C aK (E (e _ _ ?_));try clear e h
 refine wp_ret ?_;simp only[I];try simp only[cn,Exit.then,Y4]
 refine aU O O ?_;try simp only[zD,zE]
 exact⟨_,O,m.ext,O⟩
def aqN{w0 w:an}{is:List It}{A:Option Addr}{n cap:Nat}{xs:List mP}(g:∀c∈xs,Bd 900000 c.c)(m:Mem w0 w is)(k:Nat)(q:is[k]? = H (oI 112 8 A n cap (xs.flatMap vR)))(s:n<4611686018427387904) :
 Calls G1 123 [.slice A n cap,.func (.func 64) #[] #[]].toArray w λe w'=>∃v i,e=.returned v/\Mem w0 w' (is.set k i)/\(v=.tuple #[]/\∃ys:List mP,i=oI 112 8 A n cap (ys.flatMap vR)/\ys.Perm xs/\ys.Pairwise λa b=>¬b.Lt a):=by
 have d:(xs.attachWith (λc=>Bd 900000 c.c) g).map (·.1)=xs:=List.attachWith_map_subtype_val ..;have f:∀L:List aof,L.flatMap (λc=>vR c.1)=(L.map (·.1)).flatMap vR:=λL=>by rw[List.flatMap_map]
 have r:is[k]? = H (oI 112 8 A n cap ((xs.attachWith (λc=>Bd 900000 c.c) g).flatMap λc=>vR c.1)):=by rw[f,d];exact q
 refine (Es (α:=aof) (enc:=λc=>vR c.1) Tryz.sort123 (λw=>rK Ky w) (λw=>eT Ae w) (λ_=>rfl) (by decide) (λx=>aqL x.1) (λa b=>aoe a.1 b.1) aog (λx y=>aqM x.2 y.2) m k r s).mono ?_;rintro e w' ⟨v,i,h1,h2,j,ys,l,o,p⟩;refine⟨v,i,h1,h2,j,ys.map (·.1),by rw[l,f],?_,?_⟩
 . have:=o.map (λc:aof=>c.1)
   rwa [d] at this
 rw[List.pairwise_map]
 exact p.imp λh=>by simpa[Go.Proofs.ltOf,Mp] using h
def auP{A:Option Addr}{a ef:Array cu}{D:List (P3×Hd)}{F:List (P3×Bool)}{c:mP}[I3 c.u][I3 c.v](w:an)(h:fK w g50 [.pointer (H ⟨g90,0,G0⟩)] 88)(e:Mm 109 w g90 ga gf A N cap a ef ca cf D ts)(f:cN w A N ts)(b:Xa a ef ca cf D F ts)(g:∀t∈ts,t.nd=Z)(d:ts.length<=1000000):dF G1 65 [acr c,.pointer (H ⟨g50,0,G0⟩)] w (λv _=>v=.bool (dZ ts c.u c.v)):=by
 refine⟨bK func65 (by kernel_rfl),?_⟩;have m:=Mem.refl w
 go_enter func65,ntmps65
 apply kX 7 [0] m;simp only[↓U,↓eM];intro i u m;refine aS O ((h.ext m.ext).lies1 abd O) ?_;simp only[I];apply aJ 4 [1,1,0] m;simp only[↓U,↓eM,Ff,aN,xF,aa];refine cC m O O (ajN (p:=c.u) (q:=c.v) _ (e.ext m.ext) b (f.ext m.ext) g d) ?_;rintro v u m rfl;apply aJ 3 [] m;simp only[↓U];exact aU O O ⟨_,O,m.ext,O⟩
def aoh{A:Option Addr}{g ef:Array cu}{D:List (P3×Hd)}{F:List (P3×Bool)}{cs:List mP}{f:Option Addr}(w:an)(K:fK w g50 [.pointer (H ⟨g90,0,G0⟩)] 88)(s:Mm 109 w g90 ga gf A N cap g ef ca cf D ts)(x:cN w A N ts)(p:Xa g ef ca cf D F ts)(J:∀t∈ts,t.nd=Z)(q:ts.length<=1000000)(l:pH vR 8 w f n1 cs)(a:∀c∈cs,I3 c.u/\I3 c.v)(T:n1<=100000000):dF G1 124 [.slice f n1 c1,.func (.func 65) #[] #[.pointer (H ⟨g50,0,G0⟩)]] w (λv _=>∃k:Int,v=G k/\((k<0/\∀c∈cs,dZ ts c.u c.v=X9)\/∃(j:Nat)(c:mP),k=j/\j<n1/\cs[j]? = H c/\dZ ts c.u c.v=Z/\∀(i:Nat)(d:mP),i<j->cs[i]? = H d->dZ ts d.u d.v=X9)):=by
 refine⟨bK func124 (by kernel_rfl),?_⟩;have m:=Mem.refl w;have S:=l.len
 go_enter func124,ntmps124
 apply fD 12 [0] m;simp only[↓U,atb];refine bU [8] [4,5,9,10,11,12,13,14,15,16,17,18] (λn vs C=>∃(k:Nat),vs=[G (k:Int)]/\Mem w C []/\(∀(j:Nat)(d:mP),j<k->cs[j]? = H d->dZ ts d.u d.v=X9)/\(k<=n1)/\(n=n1-k)) ?_ ?_
 .exact⟨_,0,O,m,(λj r h=>by omega),bu _,O⟩
 intro n vs wr a u M E
 obtain⟨k,rfl,m,e,Q,V⟩:=a;simp only[zu,zF,zG];apply aG 5 [0,0] m;simp only[↓U];refine bB O ?_ ?_<;>intro R
 .obtain⟨c,hc,P,rfl,L⟩:=l.get (i:=k) (by omega);apply aG 14 [0] m;simp only[↓U,↓eM,ami,ai,aj];apply I0;omega;refine aS O ((L.ext m.ext).lies Ky Ae) ?_;simp only[I];refine cC m O O ((haveI:=(a c (bn hc)).1;haveI:=(a c (bn hc)).2;auP (c:=c) _ (K.ext m.ext) (s.ext m.ext) (x.ext m.ext) p J q)) ?_;rintro v u m rfl;apply aJ 1 [0] m;simp only[↓U];refine cQ O ?_ ?_<;>intro o
  .apply aG 6 [] m;simp only[↓U];exact aU O O ⟨_,O,m.ext,k,O,.inr ⟨k,c,O,by omega,hc,o,λi d z y=>e i d z y⟩⟩
  apply aG 6 [0] m;simp only[↓U];apply I0;omega;exact E (n1-(k+1)) _ _ (by omega) (by kernel_rfl) ⟨k+1, rfl, m, (λj B b h1=> by
   rcases d_ j k with h|h
   .exact e j B h h1
   obtain rfl:j=k:=by omega
   rw[hc] at h1;cases h1;exact o),by omega,O⟩
 obtain rfl:n1=k:=by omega
 apply aG 6 [] m;simp only[↓U];exact aU rfl rfl ⟨_,rfl,m.ext,-1,rfl,.inl ⟨by decide,λc hc=>by obtain⟨j,b⟩:=fp.1 hc;exact e j c (by have:=(az.1 b).1;omega) b⟩⟩
def auQ{w0 w:an}{K l:It}{A:Option Addr}{n ef:Array cu}{D:List (P3×Hd)}{F:List (P3×Bool)}{cs:List mP}{k:Option Addr}(m:Mem w0 w [oI 112 8 k n1 c1 (cs.flatMap vR),bI g50 [.pointer (H ⟨g90,0,G0⟩)] 88,K,oI 39 9 A N cap (ts.flatMap aM),l])(s:∀u,K.P u->Mm 109 u g90 ga gf A N cap n ef ca cf D ts)(q:Xa n ef ca cf D F ts)(T:∀t∈ts,t.nd=Z)(L:∀t∈ts,IT t)(B:ts.length<=1000000)(r:∀c∈cs,I3 c.u/\I3 c.v)(E:∀c∈cs,Bd 900000 c.c)(S:n1<=100000000):xJ G1 63 [.slice k n1 c1,.func (.func 64) #[] #[],.func (.func 65) #[] #[.pointer (H ⟨g50,0,G0⟩)]] w λv w'=>Mem w0 w' [bI g50 [.pointer (H ⟨g90,0,G0⟩)] 88,K,oI 39 9 A N cap (ts.flatMap aM),l]/\((v=.tuple #[.agg #[G 0,G 0,G 0,G 0,G 0,G 0,.bool X9,.string ⟨#[]⟩],.bool X9]/\∀c∈cs,dZ ts c.u c.v=X9)\/∃(c:mP)(ys:List mP)(j:Nat),v=.tuple #[acr c,.bool Z]/\ys.Perm cs/\(ys.Pairwise λa b=>¬b.Lt a)/\ys[j]? = H c/\dZ ts c.u c.v=Z/\∀(i:Nat)(d:mP),i<j->ys[i]? = H d->dZ ts d.u d.v=X9):=by
 refine⟨bK func63 (by kernel_rfl),?_⟩
 go_enter func63,ntmps63
 apply kX 9 [0] m;simp only[↓U,↓eM,afG];intro ab u m;refine nK m 1 (bK func123 (by kernel_rfl)) O O (λm=>aqN E m 1 O (by omega)) ?_;rintro v i u m ⟨rfl,ys,rfl,g,W⟩;simp only[zF,zG] at m;apply aJ 5 [0] m;simp only[↓U];refine cC m O O (aoh _ (m.b 2 O) (s _ (m.get 3 O)) ((m.o 4 O).tris L) q T B ((m.o 1 O).lat (enc:=vR) (λ_=>rfl) (by decide)) (λc hc=>r c (g.mem_iff.1 hc)) S) ?_;rintro v u m ⟨kk,rfl,p⟩;apply aJ 8 [0,0] m;simp only[↓U];refine bB O ?_ ?_<;>intro Q
 .apply sO 11 [1,1] m;simp only[↓U,↓eM,afG,afF,aa];intro ad u m;exact jG O ⟨_,O,((m.b 1 O).full Ky Ae)⟩ O ⟨_,O,m.sel [X9,X9,X9,Z,Z,Z,Z],.inl ⟨O,λc hc=>(p.resolve_right (λ⟨j,c2,e,_⟩=>by omega)).2 c (g.mem_iff.2 hc)⟩⟩
 obtain⟨j,c,rfl,Y,hc,C,M⟩:=p.resolve_left (λh=>Q h.1);obtain⟨f,R,X,J,V⟩:=((m.o 1 rfl).lat (enc:=vR) (λ_=>rfl) (by decide)).get (i:=j) (by omega);obtain rfl:f=c:=fq (R.symm.trans hc);subst J;apply aG 6 [0] m;simp only[↓U,↓eM,ami,ai,aj];apply I0;omega;refine aS O (show lC _ _ _ _ (.agg #[G f.u.x,G f.u.y,G f.u.z,G f.v.x,G f.v.y,G f.v.z,.bool (fF f.c),.string (iR f.c)]) from V.lies Ky Ae) ?_;simp only[I];apply iV 4 [0] m;simp only[↓U,↓eM,afF,aa];intro u m;exact jG O ⟨_,O,((m.b 0 O).full Ky Ae)⟩ O ⟨_,O,m.sel [X9,X9,Z,Z,Z,Z],.inr ⟨f,ys,j,O,g,W,hc,C,M⟩⟩
end Go.Proofs.YtfekpcimgncioaaGreatDoor
namespace Go.Lith
open Go.RowKit Go.ChangeMaps Go.MapKept
section
variable{K V:Type}[DecidableEq K]{P:cg}{T M E ty:bh}{ek:K->ak}{ev:V->ak}{w w0:an}{g c:Nat}{es:Array cu}{D:List (K×V)}{is:List It}
def vY(ek:K->ak)(ev:V->ak)(D:List (K×V))(es:Array cu)(seen:Array Nat)(c rs:List (K×V)):Prop:=
 (c++rs).Perm D/\∃a b:List cu,(∀e∈a,e.born∈seen.toList)/\(∀e∈b,e.born∉seen.toList)/\(a++b).Perm es.toList/\a.map Ye=c.map (λx=>(ek x.1,ev x.2))/\b.map Ye=rs.map (λx=>(ek x.1,ev x.2))
def Ba(ek:K->ak)(ev:V->ak)(D:List (K×V))(es:Array cu)(seen:Array Nat)(a:List (K×V))(k:K)(v:V)(rs:List (K×V)):Prop:=
 vY ek ev D es seen (a++[(k,v)]) rs/\∃(e:cu)(s:Array Nat),e∈es.toList/\Ye e=(ek k,ev v)/\seen=s.push e.born
def vY.start(a:bC ek ev D es c):vY ek ev D es #[] [] D:=⟨qg _,[],es.toList,λ_ h=>(by cases h),λ_ _ h=>(by cases h),qg _,rfl,a.cells⟩
def vY.done{seen:Array Nat}{a:List (K×V)}(h:vY ek ev D es seen a []):a.Perm D:=by simpa using h.1
def aqO(ek:K->ak)(ev:V->ak)(D:List (K×V))(es:Array cu)(c rs:List (K×V))(b:Bool)(d:Array Nat):Prop:=
 (b=X9/\rs=[])\/(b=Z/\∃k v a,rs.Perm ((k,v)::a)/\Ba ek ev D es d c k v a)
def ajU{r:Nat}{seen:Array Nat}{n rs:List (K×V)}(l:uT w r g c seen c)(I:gQ w g es c)(p:bC ek ev D es c)(J:vY ek ev D es seen n rs) :
 ∃b Q R A d,(d=w\/d=w.drew)/\(Instr.next (.pointer (H ⟨r,0,G0⟩)) X9 ty).run P w=.ok (Ie b Q R) (setBlock d r (.mapIter (H g) c A c))/\aqO ek ev D es n rs b A:=by
 obtain⟨N,a,f,h1,q,h2,G,j⟩:=J;have S:((a++f).map (·.born)).Nodup:=(h2.map (·.born)).nodup_iff.2 p.nd;have z:∀e,e∈(leftOf es seen).toList↔e∈f:=λe=>by
  unfold leftOf;simp only[Array.toList_filter,di,Bool.not_eq_true',Array.contains_eq_mem,Y7];rw[<-Array.mem_toList_iff (xs:=seen),<-h2.mem_iff,bv];constructor
  . rintro⟨h|h,M⟩
    .exact Y0 (h1 e h) M
    exact h
  intro h
  exact⟨.inr h,q e h⟩
 rcases run_next_at (P:=P) w ty r g c c seen es c l I p.born (ba _) with ⟨F,m⟩|⟨e,L,d,T,m⟩
 . refine⟨X9,default,default,seen,w,.inl O,?_,.inl ⟨O,?_⟩⟩
   . rw[m]
     have:setBlock w r (.mapIter (H g) c seen c)=w:=by
      unfold setBlock;have X:=(ec.1 l).1;have:w.heap.setIfInBounds r (.mapIter (H g) c seen c)=w.heap:=by
       apply Array.ext_getElem?;intro i;rw[Array.getElem?_setIfInBounds];split
       .rename_i e;subst e;exact l.symm
       rfl
      rw[this]
     rw[this];rfl
   cases rs with
   |nil=>rfl
   |cons x rs=>
    cases f with
    |nil=>simp at j
    |cons e f=>
     have:=(z e).2 (bq ..);rw[Array.eq_empty_of_size_eq_zero F] at this;simp at this
 obtain⟨s,t,rfl⟩:=List.append_of_mem ((z e).1 L)
 rw[db,bm] at j;obtain⟨U,Y,rfl,B,C⟩:=ou.1 j.symm;obtain⟨x,W,rfl,o,E⟩:=pf.1 C;obtain⟨k,v⟩:=x;have u:(a++[e]++(s++t)).Perm (a++(s++e::t)):=by
  simp only[dm,de,cl];exact ox _ List.perm_middle.symm
 have y:((a++[e]++(s++t)).map (·.born)).Nodup:=(u.map _).nodup_iff.2 S;rw[db,jv] at y;refine⟨Z,e.key,e.val,seen.push e.born,d,T,m,.inr ⟨O,k,v,U++W,List.perm_middle,⟨?_,a++[e],s++t,?_,?_,?_,?_,?_⟩,e,seen,h2.mem_iff.1 (by simp),by rw[<-o],O⟩⟩
 . refine List.Perm.trans ?_ N
   simp only[dm,de,cl];exact ox _ List.perm_middle.symm
 . intro x hx
   rw[qe];rcases bv.1 hx with hx|hx
   .exact g_ _ (h1 x hx)
   rw[bp.1 hx];exact ib _ (bp.2 O)
 . intro x hx hm
   rw[qe] at hm;rcases bv.1 hm with hm|hm
   . refine q x ?_ hm
     rcases bv.1 hx with h|h
     .exact g_ _ h
     exact ib _ (br _ h)
   refine y.2.2 e.born (c_.2 ⟨e,by simp,O⟩) x.born (c_.2 ⟨x,hx,O⟩) (bp.1 hm).symm
 .exact u.trans h2
 . simp only[db,G,bm,df]
   rw[<-o]
 simp[B,E]
def agr{r:Nat}{seen:Array Nat}{b rs:List (K×V)}{k:K}{v:V}(f:uT w r g c seen c)(h:gQ w g es c)(d:bC ek ev D es c)(i:Ba ek ev D es seen b k v rs) :
 (Instr.entry (.pointer (H ⟨r,0,G0⟩))).run P w=.ok (.tuple #[ek k,ev v]) w:=by
 obtain⟨_,e,s,j,a,rfl⟩:=i;have:=run_entry_at (P:=P) w r g c _ es c e f h j d.nd;rw[this];simp only[Ye,fy] at a;rw[a.1,a.2]
def aoi(w:an)(c:rX P T ek){a b:K}(h:ek a=ek b):a=b:=by
 have h1:=c.eq a b w;have h2:=c.eq a a w;rw[<-h,h2] at h1
 injection h1 with h1
 simpa using h1.symm
def Pg{α:Type}:∀{l:List α}{p:Nat}{x:α},l[p]? = H x->l.Perm (x::l.eraseIdx p)
 | [],_,_,h=>by simp at h
 |y::l,0,x,h=>by simp at h;subst h;exact .refl _
 |y::l,p+1,x,h=>by
  have:=Pg (l:=l) (p:=p) (by simpa using h);exact (this.cons y).trans (.swap ..)
def Ph{α:Type}:∀{l:List α}{p:Nat}{x y:α},l[p]? = H x->(l.set p y).Perm (y::l.eraseIdx p)
 | [],_,_,_,h=>by simp at h
 |z::l,0,x,y,h=>.refl _
 |z::l,p+1,x,y,h=>by
  have:=Ph (l:=l) (p:=p) (y:=y) (x:=x) (by simpa using h);exact (this.cons z).trans (.swap ..)
def Xf{D:List (K×V)}(c:(D.map (·.1)).Nodup){p q:Nat}{k:K}{v u:V}(d:D[p]? = H (k,v))(e:D[q]? = H (k,u)):p=q:=by
 have h1:(D.map (·.1))[p]? = H k:=by simp[d]
 have h2:(D.map (·.1))[q]? = H k:=by simp[e]
 obtain⟨f,a⟩:=az.1 h1;obtain⟨g,b⟩:=az.1 h2;exact (pj c).1 (a.trans b.symm)
def Ba.at(M:rX P T ek)(w:an){seen:Array Nat}{g rs:List (K×V)}{k:K}{v:V}(E:bC ek ev D es c)(r:(D.map (·.1)).Nodup)(F:Ba ek ev D es seen g k v rs) :
 ∃(p:Nat)(e:cu)(f d:List cu),pM D k 0=H (p,v)/\D[p]? = H (k,v)/\es.toList[p]? = H e/\(g++rs).Perm (D.eraseIdx p)/\(f++d).Perm (es.toList.eraseIdx p)/\e.born∈seen.toList /\
  (∀e∈f,e.born∈seen.toList)/\(∀e∈d,e.born∉seen.toList)/\f.map Ye=g.map (λx=>(ek x.1,ev x.2))/\d.map Ye=rs.map (λx=>(ek x.1,ev x.2)):=by
 obtain⟨⟨s,f,d,h1,N,h2,n,C⟩,_⟩:=F;have R:(k,v)∈D:=s.mem_iff.1 (by simp);have h:=lG r R;cases i:pM D k 0 with
 |none=>rw[(oA D k 0 i).1] at h;cases h
 |some q=>
  obtain⟨j,v'⟩:=q;obtain⟨p,rfl,m,B,_,_⟩:=lN D k 0 j v' i;rw[aj] at i ⊢;obtain rfl:v'=v:=by rw[B] at h;exact fq h
  rw[db,bm,df] at n;obtain⟨d1,d2,rfl,t,y⟩:=ou.1 n;obtain⟨e,d3,rfl,z,A⟩:=pf.1 y;obtain rfl:d3=[]:=by simpa using A
  have G:e∈es.toList:=h2.mem_iff.1 (by simp);obtain⟨q,l⟩:=fp.1 G;have Q:∃u,D[q]? = H (k,u):=by
   have b:=Y1 (λL=>L[q]?) E.cells;simp only[fi,l,fw,z] at b;cases o:D[q]? with
   |none=>rw[o] at b;cases b
   |some x=>
    rw[o] at b;simp only[fw,gu,fy] at b;obtain⟨a,u⟩:=x;obtain rfl:k=a:=aoi w M b.1;exact⟨u,O⟩
  obtain⟨u,I⟩:=Q;obtain rfl:=Xf r m I;refine⟨p,e,d1,d,O,m,l,?_,?_,h1 e (by simp),λx J=>h1 x (g_ _ J),N,t,C⟩
  . have:((k,v')::(g++rs)).Perm ((k,v')::D.eraseIdx p):=by
     refine (?_:List.Perm _ _).trans (s.trans (Pg m));rw[dm];exact List.perm_middle.symm
    exact (rt _).1 this
  have:(e::(d1++d)).Perm (e::es.toList.eraseIdx p):=by
   refine (?_:List.Perm _ _).trans (h2.trans (Pg l));rw[dm];exact List.perm_middle.symm
  exact (rt _).1 this
def aeo{T2:bh}{seen:Array Nat}{i rs:List (K×V)}{k:K}{v:V}(y:P.underlying M=H (.map T E))(d:rX P T ek)(b:gQ w g es c)(a:bC ek ev D es c)(x:(D.map (·.1)).Nodup)(t:Ba ek ev D es seen i k v rs) :
 ∃f,(Builtin.delete_ #[M,T2] ty #[.map (H g),ek k]).run P w=.ok (.tuple #[]) (setBlock w g (.map f c))/\bC ek ev (sR D k) f c/\vY ek ev (sR D k) f seen i rs:=by
 unfold gQ at b;obtain⟨p,e,n,z,l,C,B,u,s,_,h1,A,q,r⟩:=t.at d w a x;obtain⟨F,j,_,_,_,m⟩:=lN D k 0 p v l;rw[aj] at j;subst j;refine⟨es.eraseIdxIfInBounds p,?_,m▸a.erase p,m▸u,n,z,h1,A,?_,q,r⟩
 .simp[Builtin.delete_,run_underlying y,getObj,Sem.run,b,d.chk,rY d k w a,l,run_setObj_map _ b,setBlock]
 have o:(es.eraseIdxIfInBounds p).toList=es.toList.eraseIdx p:=by
  by_cases h:p<es.size
  .simp[nt,h]
  simp only[nt,h,dite_false]
  exact (List.eraseIdx_of_length_le (by simpa using im h)).symm
 rw[o];exact s
def aep{seen:Array Nat}{m rs:List (K×V)}{k:K}{v:V}(I:P.underlying M=H (.map T E))(d:rX P T ek)(f:gQ w g es c)(b:bC ek ev D es c)(G:(D.map (·.1)).Nodup)(A:Ba ek ev D es seen m k v rs)(u:V) :
 ∃l,(Instr.mapUpdate M (.map (H g)) (ek k) (ev u)).run P w=.ok () (setBlock w g (.map l c))/\bC ek ev (fL D k u) l c/\vY ek ev (fL D k u) l seen (m++[(k,u)]) rs:=by
 unfold gQ at f;obtain⟨p,e,r,J,o,i,a,C,z,B,h1,N,t,y⟩:=A.at d w b G;obtain⟨R,n,_,_,q,_⟩:=lN D k 0 p v o;rw[aj] at n;subst n;have F:e.key=ek k:=by
  have h2:=Y1 (λL=>L[p]?) b.cells;simp only[fi,i,a,fw,Ye,gu,fy] at h2;exact h2.1
 have O:es[p]? = H e:=by rw[<-Array.getElem?_toList];exact a
 have Q:((es[p]?).map (·.key)).getD (ek k)=ek k:=by rw[O];exact F
 refine⟨es.modify p λe=>{ e with key:=ek k,val:=ev u },?_,q u▸b.set i u,q u▸?_,r++[{ e with key:=ek k,val:=ev u }],J,?_,N,?_,?_,y⟩
 . simp only[Instr.mapUpdate,Sem.run_bind,run_underlying I,Result.andThen,getObj,Sem.run,f,Sem.run_pure,d.chk,rY d k w b,o,fw,Q,Instr.keyThatStays,d.bits,Y4]
   exact run_setObj_map _ f
 . rw[dm]
   refine List.perm_middle.trans (((C.cons (k,u))).trans (Ph i).symm)
 . intro x hx
   rcases bv.1 hx with hx|hx
   .exact h1 x hx
   rw[bp.1 hx];exact B
 . have s:(es.modify p λe=>{ e with key:=ek k,val:=ev u }).toList=es.toList.set p { e with key:=ek k,val:=ev u }:=by
    rw[Array.toList_modify];apply List.ext_getElem?;intro j;rw[List.getElem?_modify,List.getElem?_set];by_cases h:p=j
    . subst h
      have:=(az.1 a).1;rw[a];simp[this];simpa using this
    simp[h]
   rw[s,dm];exact List.perm_middle.trans ((z.cons _).trans (Ph a).symm)
 simp[t,Ye]
def Ba.stay{seen:Array Nat}{a rs:List (K×V)}{k:K}{v:V}(b:Ba ek ev D es seen a k v rs):vY ek ev D es seen (a++[(k,v)]) rs:=b.1
variable{ds:List Deferred}{l:List ak}{x y z:Operand}{ops:Array Oper}{Q:Exit->Act->an->Prop}{rest:List Oper}{d:Nat}{pos:String}{after:Array Edge}
def aoj{r:Nat}{seen:Array Nat}{p rs:List (K×V)}(m:Mem w0 w is)(k:Nat)(s:is[k]? = H (iI r g c seen))(F:Go.Lith.ev l x=.pointer (H ⟨r,0,G0⟩))(z:gQ w g es c)(y:bC ek ev D es c)(B:vY ek ev D es seen p rs)
 (h:∀b j n i u,Mem w0 u (is.set k (iI r g c i))->aqO ek ev D es p rs b i->bf P ops Q rest (Fr (l.set d (Ie b j n)) ds) u) :
 bf P ops Q (Oper.mk (H d) (.next x X9) ty pos after G0::rest) (Fr l ds) w:=by
 have q:=m.r k s;obtain⟨b,j,n,i,f,J,E,A⟩:=ajU (P:=P) (ty:=ty) q z y B;refine lK (w':=setBlock f r (.mapIter (H g) c i c)) (v:=Ie b j n) (λo C I=>by simp[execOp,C,cK,F,I,E]) (h b j n i _ ?_ A);have a:f.heap=w.heap/\f.os=w.os/\f.tape=w.tape/\f.output=w.output:=by rcases J with rfl|rfl<;>exact⟨rfl,rfl,rfl,rfl⟩
 refine m.put k s a.2.1 a.2.2.1 a.2.2.2 (by simp[setBlock,a.1]) (λt _ G=>?_) ?_ (.inl λ_ h=>h)
 . have:t≠r:=λe=>G (by rw[e];rfl)
   simp only[setBlock,a.1];exact Array.getElem?_setIfInBounds_ne (Ne.symm this)
 exact iU (w:=f) (o:=.mapIter (H g) c seen c) (by rw[a.1];exact q)
def aeq{r:Nat}{seen:Array Nat}{a rs:List (K×V)}{k:K}{v:V}(i:Go.Lith.ev l x=.pointer (H ⟨r,0,G0⟩))(d:uT w r g c seen c)(e:gQ w g es c)(b:bC ek ev D es c)(f:Ba ek ev D es seen a k v rs) :
 Dh P l (.entry x) ty (.tuple #[ek k,ev v]) w:=λo h _=>by
 have:=agr (P:=P) d e b f;simp[execOp,h,cK,i,this]
def aok{a:K}{I:V}{T2:bh}{seen:Array Nat}{i rs:List (K×V)}(m:Mem w0 w is)(k:Nat)(n:is[k]? = H (mI g es c))(B:P.underlying M=H (.map T E))(G:rX P T ek)(C:Go.Lith.ev l x=.map (H g))(F:Go.Lith.ev l y=ek a)(r:bC ek ev D es c)
 (v:(D.map (·.1)).Nodup) (s:Ba ek ev D es seen i a I rs) {a0:Array bh} (t:a0 = #[M,T2])
 (h:∀d u,Mem w0 u (is.set k (mI g d c))->bC ek ev (sR D a) d c->vY ek ev (sR D a) d seen i rs->bf P ops Q rest (Fr l ds) u):bf P ops Q (Oper.mk G0 (.call { callee:=.builtin .delete,args:=#[x,y],argTypes:=a0 }) ty pos after G0::rest) (Fr l ds) w:=by
 subst t;have j:=m.p k n;have f:=λd q=>oR (w:=w) (g:=g) (.map d q);refine aho λo z=>?_;obtain⟨d,A,J,L⟩:=aeo (T2:=T2) (ty:=o.type) B G j r v s;exact⟨.tuple #[],setBlock w g (.map d c),by simp[execOp,z,resolve,invoke,builtin,cK,C,F,A],h d _ (m.put k n (f d c).os (f d c).tape (f d c).output (by rw[(f d c).size];exact ba _) (λb _ N=>(f d c).block b λe=>N (by rw[e];rfl)) (iU j) (.inl λ_ h=>h)) J L⟩
def aol{v J:V}{a:K}{seen:Array Nat}{i rs:List (K×V)}(m:Mem w0 w is)(k:Nat)(n:is[k]? = H (mI g es c))(B:P.underlying M=H (.map T E))(I:rX P T ek)(C:Go.Lith.ev l x=.map (H g))(F:Go.Lith.ev l y=ek a)(G:Go.Lith.ev l z=ev v)(q:bC ek ev D es c)
 (s:(D.map (·.1)).Nodup) (r:Ba ek ev D es seen i a J rs)
 (h:∀d u,Mem w0 u (is.set k (mI g d c))->bC ek ev (fL D a v) d c->vY ek ev (fL D a v) d seen (i++[(a,v)]) rs->bf P ops Q rest (Fr l ds) u):bf P ops Q (Oper.mk G0 (.mapUpdate M x y z) ty pos after G0::rest) (Fr l ds) w:=by
 have j:=m.p k n;obtain⟨d,A,L,N⟩:=aep B I j q s r v;have f:=oR (w:=w) (g:=g) (.map d c);refine Kg (w':=setBlock w g (.map d c)) (λo t=>by simp[execOp,t,cK,C,F,G,A]) (h d _ ?_ L N);exact m.put k n f.os f.tape f.output (by rw[f.size];exact ba _) (λb _ O=>f.block b λe=>O (by rw[e];rfl)) (iU j) (.inl λ_ h=>h)
end
end Go.Lith
namespace Go.Proofs.YtfekpcimgncioaaGreatDoor
open Go.Proofs.Tryz
open Go.RowKit Go.Lith
set_option maxRecDepth 100000
section
attribute [local irreducible] bf M fY cJ cU Code.wp
attribute [local congr] dK dL cZ dJ
variable{R0:It}{q60 c60 g16:Nat}{cc:mP}
def awG:qD G1 95 (W 0):=by rw[aa1];exact uB
def ah0:qD G1 97 (qV q0):=by rw[<-zqV];exact ao6
def sN(D:List (E3×Int))(Q:P3->List Int):Prop:=∀k v,bS D k=H v->v=vW Q k.1 k.2
def sN.put{D:List (E3×Int)}{Q:P3->List Int}(h:sN D Q)(p q:P3):sN (fL D (p,q) (vW Q p q)) Q:=λk v a=>by
 rw[kH] at a;split at a
 .rename_i e;cases e;cases a;rfl
 exact h k v a
structure QOK(Dq:List (P3×List Int))(Q:P3->List Int)(B:Nat):Prop where
 get:∀x,(bS Dq x).getD q0=Q x
 len:∀x,(Q x).length=10
 bd:∀x,Jo B (Q x)
def auR{w0 w:an}{l n h j B:Nat}{o r:Array cu}{g:List (E3×Int)}{d:List (P3×List Int)}{Q:P3->List Int}{p q:P3}[I3 p][I3 q](m:Mem w0 w [bI l [.map (H q60)] 100,bI n [.map (H h)] 93,mI q60 o c60,mI h r j,R0])(f:bC ed W g o c60)(G:bC pt qV d r j)(i:sN g Q)(F:(g.map (·.1)).Nodup)(e:QOK d Q B)(K:B<=800000):xJ G1 59 [pt p,pt q,.pointer (H ⟨l,0,G0⟩),.pointer (H ⟨n,0,G0⟩)] w λv w'=>∃(es:Array cu) (c:Nat) (D:List (E3×Int)),v=W (vW Q p q)/\Mem w0 w' [bI l [.map (H q60)] 100,bI n [.map (H h)] 93,mI q60 es c,mI h r j,R0]/\bC ed W D es c/\sN D Q/\(D.map (·.1)).Nodup:=by
 refine⟨bK func59 (by kernel_rfl),?_⟩;obtain rfl:(λx=>(bS d x).getD q0)=Q:=funext e.get;have A:((bS d p).getD q0).length=10:=e.len p;have C:((bS d q).getD q0).length=10:=e.len q;have t:Jo B ((bS d p).getD q0):=e.bd p;have z:Jo B ((bS d q).getD q0):=e.bd q
 go_enter func59,ntmps59
 apply kX 12 [4,3,2,0] m;simp only[↓U,↓eM,lT,abS,aN,pU,aa];intro L M N u m;refine eB (wM (ek:=ed) (en:=W) (k:=(p,q)) (v0:=0) underlying100 awG pV O O (m.p 5 O) f) ?_;simp only[I];apply iV 13 [0,0] m;simp only[↓U,↓eM,lT,fB,aa];intro P u m;refine cQ O ?_ ?_<;>intro J
 .apply aG 1 [0] m;simp only[↓U];refine dQ m 9 aD (by kernel_rfl) ?_;simp only[zy];refine ql O (λu m=>((m.b 5 O).lies1 alc O)) ?_;simp only[I];refine ql O (λu m=>((m.b 3 O).full aF aA)) ?_;simp only[I];refine kI (λu m=>dA (ek:=pt) (en:=qV) (k:=p) (v0:=q0) Tn ah0 eL O O (m.p 7 O) G) ?_;simp only[I];refine ql O (λu m=>((m.b 5 O).lies1 alc O)) ?_;simp only[I];refine ql O (λu m=>((m.b 2 O).full aF aA)) ?_;simp only[I];refine kI (λu m=>dA (ek:=pt) (en:=qV) (k:=q) (v0:=q0) Tn ah0 eL O O (m.p 7 O) G) ?_;simp only[I];refine jF O O (agi A C t z (by omega)) ?_;simp only[I];refine ql O (λu m=>((m.b 2 O).full aF aA)) ?_;simp only[I];refine jF O O (awE (Rs t z) (mG A C) (by omega)) (bM ?_);intro u m;simp only[I];refine cB m 0 O O O aO (X O) O ?_;intro u m;simp only[zy,zx,bR,zF,zG,aa] at m;refine E ?_;apply S 6 [5,4,3,1,0] m;simp only[↓U,↓eM,abS,aN,pU,fB,aa];refine eP (ek:=ed) (en:=W) (a:=(p,q)) (v:=(vW (λx=>(bS d x).getD q0) p q)) m 6 O underlying100 pV O O O f ?_;intro o c60 u m f;simp only[zF,zG] at m;apply iV 7 [1,1] m;simp only[↓U,↓eM,fB,aa];intro u m;exact aU O ⟨_,O,((m.b 1 O).full cE aO)⟩ ⟨_,O,_,_,_,O,m.sel [X9,X9,X9,X9,Z,Z,Z,Z,Z],f,i.put p q,tD F _ _⟩
 obtain⟨y,s⟩:∃y,bS g (p,q)=H y:=Option.isSome_iff_exists.1 (by simpa using J);obtain rfl:=i _ _ s;simp only[s,dt] at m;apply sO 7 [1,1] m;simp only[↓U,↓eM,fB,aa];intro u m;exact aU O ⟨_,O,((m.b 1 O).full cE aO)⟩ ⟨_,O,_,_,_,O,m.sel [X9,X9,X9,X9,Z,Z,Z,Z,Z],f,i,F⟩
def aom{K V:Type}[DecidableEq K]{ek:K->ak}{ev:V->ak}{D c rs:List (K×V)}{es:Array cu}{b:Bool}{d:Array Nat}(a:b=X9)(h:aqO ek ev D es c rs b d):rs=[]:=by
 rcases h with ⟨_,h⟩|⟨h,_⟩
 .exact h
 rw[h] at a;cases a
def aon{K V:Type}[DecidableEq K]{ek:K->ak}{ev:V->ak}{D a rs:List (K×V)}{es:Array cu}{b:Bool}{d:Array Nat}(c:b=Z)(h:aqO ek ev D es a rs b d):∃k v e,rs.Perm ((k,v)::e)/\Ba ek ev D es d a k v e:=by
 rcases h with ⟨h,_⟩|⟨_,h⟩
 .rw[h] at c;cases c
 exact h
def aqQ(a b:P3):decide (a.x=b.x/\a.y=b.y/\a.z=b.z)=decide (a=b):=decide_eq_decide.2 ⟨λh=>P3.eq h.1 h.2.1 h.2.2,λh=>by rw[h];exact⟨rfl,rfl,rfl⟩⟩
def aoo(v:P3)(k:E3):Bool:=decide (k.1=v)||decide (k.2=v)
def aop{k:E3}{x:Int}(w:an)(d:fK w g16 (vR cc) 112):dF G1 67 [ed k,W x,.pointer (H ⟨g16,0,G0⟩)] w (λv _=>v=.bool (aoo cc.v k)):=by
 refine⟨bK func67 (by kernel_rfl),?_⟩;have m:=Mem.refl w
 go_enter func67,ntmps67
 apply kX 11 [2,0] m;simp only[↓U,↓eM,vA,aN,xF,ag,ah,aa];intro e f;apply I0;omega;intro u m;refine aS O ((d.ext m.ext).lies aF aA O O) ?_;simp only[I,zy,aj,aa,ah,ag];apply aJ 2 [0] m;simp only[↓U,↓eM];refine⟨_,fH,?_⟩;refine gM O (λa=>aW Tm aA O O (by decide) (by decide) O) ?_;simp only[I];refine lX O (λa=>bE (B a O) ((m.b 1 O).lies aF aA O O)) ?_;simp only[I,zy,aj,aa,ah,ag];refine gM O (λa=>aY (c:=2) Bp O aA O O) ?_;simp only[I];refine lX O (λa=>bE (B a O) ((d.ext m.ext).lies aF aA O O)) ?_;simp only[I,zy,aj,aa,ah,ag];refine gM O (λa=>oQ (B a O) (B a O)) (C (gY O O O) ?_);apply aJ 3 [] m;simp only[↓U];refine aU O O ?_;try simp only[zD,zE]
 exact⟨_,O,m.ext,by rw[aqQ,aqQ];rfl⟩
def aoq{w0 w:an}{i:Array cu}{d:List (E3×Int)}(m:Mem w0 w [mI q60 i c60,bI g16 (vR cc) 112,R0])(c:bC ed W d i c60)(P:(d.map (·.1)).Nodup):xJ G1 66 [.map (H q60),.func (.func 67) #[] #[.pointer (H ⟨g16,0,G0⟩)]] w λv w'=>∃(es:Array cu) (D:List (E3×Int)),v=.tuple #[]/\Mem w0 w' [mI q60 es c60,bI g16 (vR cc) 112,R0]/\bC ed W D es c60/\(D.map (·.1)).Nodup/\∀k v,bS D k=H v->bS d k=H v/\aoo cc.v k=X9:=by
 refine⟨bK func66 (by kernel_rfl),?_⟩
 go_enter func66,ntmps66
 apply fD 3 [0] m;simp only[↓U];refine tE m underlying100 O (m.p 0 O) ?_;intro K u m;apply aJ 2 [0] m;simp only[↓U];refine bU [] [4,5,8,9,10,11,12,13,14,15,16,17,18] (λn vs L=>∃(D e rs:List (E3×Int)) (j:Array Nat) (es:Array cu),vs=[]/\Mem w0 L [iI K q60 c60 j,mI q60 es c60,bI g16 (vR cc) 112,R0]/\(bC ed W D es c60)/\((D.map (·.1)).Nodup)/\(vY ed W D es j e rs)/\(∀x∈e,aoo cc.v x.1=X9)/\(∀k v,bS D k=H v->bS d k=H v)/\(n=rs.length)) ?_ ?_
 .exact⟨_,d,[],d,#[],i,rfl,m,c,P,vY.start c,(λx h=>(by cases h)),(λ_ _ h=>h),rfl⟩
 intro n vs wr G u Q E
 obtain⟨D,e,rs,j,i,rfl,m,c,g,y,q,s,z⟩:=G;simp only[zu,zF,zG];apply aG 2 [0] m;simp only[↓U];refine aoj m 0 O O (m.p 1 O) c y ?_;intro R S T j u m t;simp only[zF,zG] at m;refine C (nS O) ?_;apply aJ 2 [0] m;simp only[↓U];refine cQ O ?_ ?_<;>intro F
 .obtain⟨f,B,l,A,o⟩:=aon F t;apply aG 4 [0] m;simp only[↓U];refine eB (aeq O (m.r 0 O) (m.p 1 O) c o) ?_;simp only[I];apply iV 12 [1,0,2,1,0] m;simp only[↓U,↓eM,Qh,lT,xD,fB,aa];intro V X u m;refine cC m O O (aop (k:=f) (x:=B) _ (m.b 4 O)) ?_;rintro v u m rfl;apply aJ 1 [0] m;simp only[↓U];refine cQ O ?_ ?_<;>intro N
  .apply aG 3 [2,0] m;simp only[↓U,↓eM,xD];refine aok (ek:=ed) (ev:=W) (a:=f) m 3 O underlying100 pV O O c g o O ?_;intro i u m c M;simp only[zF,zG] at m;apply aJ 2 [0] m;simp only[↓U];exact E l.length _ _ (by rw[z,A.length_eq];exact fu _) (by kernel_rfl) ⟨sR D f,e,l,_,_,O,(m.sel [X9,X9,Z,Z,Z,Z]),c,Ts g f,M,q,(λk v h=>s k v (by rw[Nn _ _ g] at h;split at h;cases h;exact h)),O⟩
  apply aG 2 [0] m;simp only[↓U];exact E l.length _ _ (by rw[z,A.length_eq];exact fu _) (by kernel_rfl) ⟨D,e++[(f,B)],l,_,_,O,(m.sel [X9,X9,Z,Z,Z,Z]),c,g,o.stay,(λx J=>(bv.1 J).elim (q x) λh=>(by rw[bp.1 h];exact N)),s,O⟩
 obtain rfl:=aom F t;apply aG 1 [0] m;simp only[↓U];exact So O ⟨_,O,_,D,O,m.sel [X9,Z,Z,Z],c,g,λk v h=>⟨s k v h,q (k,v) (y.done.mem_iff.2 (rW h))⟩⟩
end
section
attribute [local irreducible] bf M fY cJ cU Code.wp
variable{u q k x:P3}{l:List T3}{S:List P3}{cs:List mP}{D:List Mv}
def aqR{B:Nat}{Q:P3->List Int}(a:∀x,(Q x).length=10)(b:∀x,Jo B (Q x))(d:B<=800000)(u:P3){v:P3}(c:I3 v):Bd 900000 (vW Q u v):=by
 unfold vW;rw[<-amb (mG (a u) (a v))];exact (afD (Rs (b u) (b v)) (mG (a u) (a v)) (bd4 c) O 10 (ba _)).mono (by omega)
def QOK.upd{Dq:List (P3×List Int)}{Q:P3->List Int}{B:Nat}(h:QOK Dq Q B)(u v:P3):QOK (fL Dq v (Hm (Q u) (Q v))) (abN Q u v) (B+1) where
 get x:=by
  rw[kH];unfold abN;by_cases e:v=x
  .rw[Z9 e,Z9 e.symm];rfl
  rw[K0 e,K0 λk=>e k.symm];exact h.get x
 len x:=by
  unfold abN;split
  .exact mG (h.len u) (h.len v)
  exact h.len x
 bd x:=by
  unfold abN;split
  .exact Rs (h.bd u) (h.bd v)
  exact (h.bd x).mono (rp B)
def QOK.mono{a:List (P3×List Int)}{Q:P3->List Int}{B C:Nat}(h:QOK a Q B)(b:B<=C):QOK a Q C:=⟨h.get,h.len,λx=>(h.bd x).mono b⟩
def sN.upd{D b:List (E3×Int)}{Q:P3->List Int}{v:P3}(h:sN D Q)(h1:∀k x,bS b k=H x->bS D k=H x/\aoo v k=X9):sN b (abN Q u v):=λk x c=>by
 obtain⟨h2,a⟩:=h1 k x c;rw[h k x h2];simp only[aoo,ns,Y7] at a;unfold vW abN;rw[K0 a.1,K0 a.2]
def sN.nil(Q:P3->List Int):sN [] Q:=λ_ _ h=>by cases h
/-! ### The quadrics of the corners -/
def Mq(l:List T3)(S:List P3)(a:List (P3×List Int)):Prop:=∀x,(bS a x).getD q0=if x∈S then xN l x else q0
def Mq.nil(l:List T3):Mq l [] []:=λ_=>rfl
def Mq.put{ps:List P3}{k:Nat}{p:P3}{a:List (P3×List Int)}(h:Mq l (ps.take k) a)(b:ps[k]? = H p):Mq l (ps.take (k+1)) (fL a p (xN l p)):=λx=>by
 rw[kH,bV b];by_cases e:p=x
 . subst e
   rw[Z9 rfl,Z9 (ib _ (bp.2 rfl))];rfl
 rw[K0 e,h x]
 have:x∈ps.take k++[p]↔x∈ps.take k:=by
  rw[bv,bp];exact⟨λh=>h.resolve_right λk=>e k.symm,.inl⟩
 simp only[this]
def aor{p:P3}(h:p∉bP l):xN l p=q0:=by
 unfold xN;rw[pz.2 λt b a=>h (sG b a)];rfl
def Mq.ok{l:List T3}{ps:List P3}{Dq:List (P3×List Int)}(h:Mq l ps Dq)(hps:∀a,a∈ps↔a∈bP l)(hI:∀t∈l,IT t):QOK Dq (xN l) (602+l.length) where
 get x:=by
  rw[h x];split
  .rfl
  rename_i e;rw[aor λk=>e ((hps x).2 k)]
 len x:=by have:=Cw (ts:=l) (p:=x) l.length (ba _);rwa [fe] at this
 bd x:=by have:=acn (p:=x) hI l.length (ba _);rwa [fe] at this
theorem Mr(e:∀t∈l,IT t){p:P3}(h:p∈bP l):I3 p:=by
 obtain⟨t,f,d⟩:=dj.1 (show p∈l.flatMap λt=>[t.a,t.b,t.c] from h);have:=e t f;simp only[av,bw,Y3] at d;rcases d with rfl|rfl|rfl
 .exact this.a
 .exact this.b
 exact this.c
def acs{p:P3}(h:Oa l p q=Z):p∈bP l/\q∈bP l:=by
 simp only[Oa,bt,iE,ff] at h;obtain⟨_,t,a,h⟩:=h;exact⟨sG a h.1,sG a h.2⟩
/-! ### Candidates -/
def Hq(l:List T3)(Q:P3->List Int)(S:List P3)(cs:List mP):Prop:=∀d,d∈cs↔d.u∈S/\uW (Y l) d.u=X9/\Oa l d.u d.v=Z/\d.c=vW Q d.u d.v
def ags(l:List T3)(Q:P3->List Int)(S:List P3)(p:P3)(a:List P3)(cs:List mP):Prop:=∀d,d∈cs↔(d.u∈S/\uW (Y l) d.u=X9/\Oa l d.u d.v=Z/\d.c=vW Q d.u d.v)\/(d.u=p/\d.v∈a/\d.c=vW Q d.u d.v)
def Hq.nil(l:List T3)(Q:P3->List Int):Hq l Q [] []:=λd=>by simp
def Hq.skip{Q:P3->List Int}{p:P3}(h:Hq l Q S cs)(b:uW (Y l) p=Z):Hq l Q (S++[p]) cs:=λd=>by
 rw[h d];constructor
 .rintro⟨h1,h2⟩;exact⟨g_ _ h1,h2⟩
 rintro⟨h1,h2,a⟩
 rcases bv.1 h1 with h1|h1
 .exact⟨h1,h2,a⟩
 rw[bp.1 h1,b] at h2;cases h2
def Hq.start{Q:P3->List Int}(h:Hq l Q S cs)(p:P3):ags l Q S p [] cs:=λd=>by rw[h d];simp
def ags.put{Q:P3->List Int}{b:List P3}{p:P3}(h:ags l Q S p b cs):ags l Q S p (b++[q]) (cs++[⟨p,q,vW Q p q⟩]):=λd=>by
 rw[bv,h d,bv,bp,bp];constructor
 . rintro ((h1|⟨h1,h2,a⟩)|rfl)
   .exact .inl h1
   .exact .inr ⟨h1,.inl h2,a⟩
   exact .inr ⟨O,.inr O,O⟩
 rintro (h1|⟨h1,h2|h2,a⟩)
 .exact .inl (.inl h1)
 .exact .inl (.inr ⟨h1,h2,a⟩)
 refine .inr ?_
 obtain⟨e,f,c⟩:=d;simp only at h1 h2 a;subst h1;subst h2;subst a;rfl
def ags.done{Q:P3->List Int}{b:List P3}{p:P3}(h:ags l Q S p b cs)(f:uW (Y l) p=X9)(e:∀x,x∈b↔Oa l p x=Z):Hq l Q (S++[p]) cs:=λd=>by
 rw[h d,bv,bp];constructor
 . rintro (⟨h1,h2⟩|⟨h1,h2,a⟩)
   .exact⟨.inl h1,h2⟩
   rw[e] at h2;subst h1;exact⟨.inr O,f,h2,a⟩
 rintro⟨h1|h1,h2,a,c⟩
 .exact .inl ⟨h1,h2,a,c⟩
 refine .inr ⟨h1,?_,c⟩;rw[e,<-h1];exact a
def Hq.all{Q:P3->List Int}(h:Hq l Q S cs)(a:∀x,x∈S↔x∈bP l)(d:mP):d∈cs↔d∈afB l Q:=by
 rw[h d,ahf,a];exact⟨λh=>h.2,λh=>⟨(acs h.2.1).1,h⟩⟩
/-! ### The moves -/
def Gd(S:List P3)(u v:P3)(D:List Mv):List Mv:=D.map λe=>(e.1,if e.1∈S then K u v e.2 else e.2)
def aer(u v:P3)(D:List Mv):Gd [] u v D=D:=by simp[Gd]
def Hj(S:List P3)(u v:P3)(D:List Mv):(Gd S u v D).map (·.1)=D.map (·.1):=by simp[Gd,Function.comp_def]
def aos{v:P3}(h:∀e∈D,e.1∈S):fL (Gd S u v D) u v=toF D u v:=by
 unfold Gd toF;rw[iv λe a=>by rw[Z9 (h e a)]]
def aes{K V:Type}[DecidableEq K]:∀{D:List (K×V)} {k:K} {x:V},(D.map (·.1)).Nodup->k∈D.map (·.1)->fL D k x=D.map λe=>(e.1,if e.1=k then x else e.2)
 | [],_,_,_,h=>by cases h
 |e::D,k,x,b,h=>by
  rw[bm,gv] at b;by_cases a:e.1=k
  . subst a
    have:∀f∈D,((f.1,if f.1=e.1 then x else f.2):K×V)=f:=λf c=>by
     rw[K0 λk:f.1=e.1=>b.1 (by rw[<-k];exact gm (f:=λx:K×V=>x.1) c)]
    simp only[fL,bm,Z9];rw[iv this,List.map_id']
  have h2:k∈D.map (·.1):=by
   rcases av.1 h with h|h
   .exact Y0 h.symm a
   exact h
  simp only[fL,bm,K0 a];rw[aes b.2 h2]
def aot{v:P3}(g:(D.map (·.1)).Nodup)(b:(k,x)∈Gd S u v D)(m:k∉S)(l:x=u):fL (Gd S u v D) k v=Gd (S++[k]) u v D:=by
 have p:k∈(Gd S u v D).map (·.1):=gm (f:=(·.1)) b;rw[aes (by rw[Hj];exact g) p];unfold Gd at b ⊢;obtain⟨e,n,h⟩:=c_.1 b;cases h;rw[K0 m] at l;rw[List.map_map];refine iv λf o=>?_;simp only[Function.comp_apply];by_cases c:f.1=e.1
 . have:f=e:=by
    obtain⟨i,a⟩:=fp.1 o;obtain⟨j,d⟩:=fp.1 n;have h1:i=j:=Xf g (k:=e.1) (v:=f.2) (u:=e.2) (by rw[a,<-c]) d;rw[h1,d] at a;exact (fq a).symm
   subst this;rw[Z9 rfl,Z9 (ib S (bp.2 rfl))];unfold K;rw[Z9 l]
 rw[K0 c]
 have:f.1∈S++[e.1]↔f.1∈S:=by simp[c]
 simp only[this]
def ajV{v:P3}(o:(D.map (·.1)).Nodup)(d:(k,x)∈Gd S u v D)(b:k∉S)(g:x≠u):Gd S u v D=Gd (S++[k]) u v D:=by
 unfold Gd at d ⊢;obtain⟨e,m,h⟩:=c_.1 d;cases h;rw[K0 b] at g;refine iv λf n=>?_;by_cases l:f.1=e.1
 . have:f=e:=by
    obtain⟨i,a⟩:=fp.1 n;obtain⟨j,c⟩:=fp.1 m;have h1:i=j:=Xf o (k:=e.1) (v:=f.2) (u:=e.2) (by rw[a,<-l]) c;rw[h1,c] at a;exact (fq a).symm
   subst this;rw[K0 b,Z9 (ib S (bp.2 rfl))];unfold K;rw[K0 g]
 have:f.1∈S++[e.1]↔f.1∈S:=by simp[l]
 simp only[this]
def aou{V:Type}{ek:P3->ak}{ev:V->ak}{D a rs:List (P3×V)}{es:Array cu}{e:Array Nat}{x:V}(d:(D.map (·.1)).Nodup)(h:Ba ek ev D es e a k x rs):k∉a.map (·.1)/\(k,x)∈D:=by
 have b:=h.1.1;refine⟨λc=>?_,b.mem_iff.1 (by simp)⟩;have h1:=(b.map (·.1)).nodup_iff.2 d;simp only[db,bm,df,dm] at h1;exact (jv.1 h1).2.2 k c k (by simp) O
def auS(a:(D.map (·.1)).Nodup)(u v:P3):((toF D u v).map (·.1)).Nodup:=by
 unfold toF;exact tD (by rw[List.map_map];exact a) u v
def ajW{l:List T3}{want:Int}{Q:P3->List Int}{D:List Mv}{c:mP}(d:0<=want)(h:¬(l.length:Int)<=want)(a:Df l Q=H c) :
 oH l.length want l Q D=oH (gF l c.u c.v).length want (gF l c.u c.v) (abN Q c.u c.v) (toF D c.u c.v):=by
 have h1:=An a;obtain⟨n,b⟩:∃n,l.length=n+1:=⟨l.length-1,by omega⟩
 rw[b]
 conv=>lhs;unfold oH
 rw[K0 h,a];exact aaq n _ want _ _ _ (by omega) (ba _) d
def aet{want:Int}{Q:P3->List Int}(h:(l.length:Int)<=want\/Df l Q=G0):oH l.length want l Q D=(l,D):=by
 rcases h with h|h
 .exact al6 h
 cases a:l.length with
 |zero=>rfl
 |succ n=>
  unfold oH;split
  .rfl
  rw[h]
def auT{w0 w:an}{K l:It}{f g s gf N cap n cf:Nat}{A:Option Addr}{o ef:Array cu}{D:List (P3×Hd)}{F:List (P3×Bool)}{ts:List T3}{cs:List mP}{n1 c1:Nat}{i:Option Addr}{Q:P3->List Int}{B:Nat}(m:Mem w0 w [oI 112 8 i n1 c1 (cs.flatMap vR),bI f [.pointer (H ⟨g,0,G0⟩)] 88,K,oI 39 9 A N cap (ts.flatMap aM),l])(z:∀u,K.P u->Mm 109 u g s gf A N cap o ef n cf D ts)(p:Xa o ef n cf D F ts)(M:∀t∈ts,t.nd=Z)(h:∀t∈ts,IT t)(C:ts.length<=1000000)(I:∀x,(Q x).length=10)(G:∀x,Jo B (Q x))(y:B<=800000)(a:Hq ts Q (D.map (·.1)) cs)(L:n1<=100000000) :
 xJ G1 63 [.slice i n1 c1,.func (.func 64) #[] #[],.func (.func 65) #[] #[.pointer (H ⟨f,0,G0⟩)]] w λv w'=>∃(c:mP)(b:Bool),v=.tuple #[acr c,.bool b]/\Mem w0 w' [bI f [.pointer (H ⟨g,0,G0⟩)] 88,K,oI 39 9 A N cap (ts.flatMap aM),l]/\((b=X9/\Df ts Q=G0)\/(b=Z/\Df ts Q=H c/\I3 c.u/\I3 c.v)):=by
 have r:=a.all (λx=>p.k x);have e:∀c∈cs,I3 c.u/\I3 c.v:=λc hc=>by
  have:=acs ((a c).1 hc).2.2.1;exact⟨Mr h this.1,Mr h this.2⟩
 refine (auQ m z p M h C e (λc hc=>by rw[((a c).1 hc).2.2.2];exact aqR I G y c.u (e c hc).2) L).mono ?_;rintro v w' ⟨h1,⟨rfl,h2⟩|⟨c,ys,j,rfl,q,R,hc,E,J⟩⟩
 .exact⟨⟨⟨0,0,0⟩,⟨0,0,0⟩,0⟩,X9,by simp only[acr,vR,Na];rfl,h1,.inl ⟨rfl,agq r h2⟩⟩
 refine⟨c,Z,O,h1,.inr ⟨O,agp (λd=>by rw[q.mem_iff];exact r d) R hc E J,e c (q.mem_iff.1 (bn hc))⟩⟩
end
section
attribute [local irreducible] bf M fY cJ cU Code.wp
attribute [local congr] dK dL cZ dJ
variable{l ts:List T3}{want:Int}
theorem Ge(h:∀t∈l,IT t):∀t∈dM l,IT t:=λt e=>by
 obtain⟨s,d,rfl⟩:=Hh.1 e;have:=h s d;unfold F;split
 .exact⟨this.c,this.a,this.b⟩
 split
 .exact⟨this.b,this.c,this.a⟩
 exact this
def aaK{b:List P3}{a:P3}:a∈(eE [] b).map (·.1)↔a∈b:=by rw[sA];simp
def ajX{ps:List P3}(h:tL ps)(c:∀a,a∈ps↔a∈bP l):ps.length<=3*l.length:=by
 have d:ps.Nodup:=List.Pairwise.imp (λ{a b}(h:P3.Lt a b)(e:a=b)=>P3.lt_irrefl b (by rw[e] at h;exact h)) h;have h1:=List.Nodup.length_le_of_subset d (l₂:=bP l) λx f=>(c x).1 f;rw[wE] at h1;omega
def Hq.perm{Q:P3->List Int}{a D:List (P3×Hd)}{cs:List mP}(h:Hq l Q (a.map (·.1)) cs)(b:a.Perm D):Hq l Q (D.map (·.1)) cs:=λd=>by rw[h d,(b.map (·.1)).mem_iff]
def arJ{D:List Mv}{k:Nat}{p:P3}(h:(Ak (D.map (·.1)))[k]? = H p):(kU D)[k]? = H (p,(bS D p).getD ⟨0,0,0⟩):=by
 have c:p∈D.map (·.1):=(lP _).mem_iff.1 (bn h);obtain⟨y,a⟩:∃y,bS D p=H y:=by
  cases b:bS D p with
  |some y=>exact⟨y,rfl⟩
  |none=>exact Y0 c (kW.1 b)
 unfold kU;rw[fi,h,a];simp[a]
def aaL{b ef:Array cu}{a cf:Nat}{D:List (P3×Hd)}{F:List (P3×Bool)}(h:Xa b ef a cf D F l):D.length<=3*l.length:=by
 have h1:=List.Nodup.length_le_of_subset h.nk (l₂:=bP l) λx c=>(h.k x).1 c;rw[eb,wE] at h1;omega
def aqS(D:List Mv)(u v:P3):(toF D u v).length<=D.length+1:=by
 have:=xW (D.map λe=>(e.1,K u v e.2)) u v;rwa [eb] at this
def wQ{D:List Mv}(a:cD Z (dM ts)=0)(h:oH (dM ts).length want (dM ts) (xN (dM ts)) []=(l,D)):nG ts want=(l,kU D):=by
 unfold nG;rw[K0 (by rw[a];simp),h]
def agt(h:¬cD Z (dM ts)=0):nG ts want=(dM ts,[]):=by unfold nG;rw[Z9 h]
def agu{N cap:Nat}{A:Option Addr}(w:an)(a6:cN w A N ts)(hN:N<=2000)(hw:0<=want):dF G1 24 [.slice A N cap,G want] w (λv w'=>∃A1 n1 c1 A2 n2 c2,v=.tuple #[.slice A1 n1 c1,.slice A2 n2 c2]/\n1=(nG ts want).1.length/\n2=(nG ts want).2.length/\Mem w w' [oI 55 6 A2 n2 c2 ((nG ts want).2.flatMap bG),oI 39 9 A1 n1 c1 ((nG ts want).1.flatMap aM)]):=by
 refine⟨bK func24 (by kernel_rfl),?_⟩;have m:=Mem.refl w;have cP:=a6.len;have ci:=tS ts;have hit:∀t∈dM ts,IT t:=Ge a6.it;have cJ:(dM ts).length<=2000:=by omega
 go_enter func24,ntmps24
 apply fD 8 [0] m;simp only[↓U];refine aX O O (adV _ (a6.ext m.ext) (by omega)) ?_;rintro v u j ⟨A1,ao,n1,cn,rfl,B⟩;replace m:=m.newO j B;obtain rfl:n1=(dM ts).length:=by rw[ci];exact cn
 apply aJ 6 [0] m;simp only[↓U];refine cC m O O (Ck _ ((m.o 0 O).tris hit) (by omega)) ?_;rintro v u m rfl;apply aJ 2 [0,0] m;simp only[↓U];refine bB O ?_ ?_<;>intro bf
 .apply aG 6 [] m;simp only[↓U];replace m:=m.nilO 55 6;apply S 1 [] m;simp only[↓U];exact jG O O O ⟨_,O,m.ext,_,_,_,_,_,_,O,by rw[agt bf],by rw[agt bf];rfl,by rw[agt bf];exact m.sel [Z,Z]⟩
 have av:cD Z (dM ts)=0:=by omega
 have a1:=an8 av;apply aG 3 [0] m;simp only[↓U];refine iB m ?_;intro ah u m;have X:=bC.nil (K:=P3) (V:=List Int) pt qV;apply iV 7 [0,0] m;simp only[↓U,↓eM,avU,ahj,aa];intro g2 u m;refine aX O O (Jp _ ((m.o 2 O).tris hit) (by omega)) ?_;rintro v u j ⟨A3,n3,cv,_,rfl,B,ps,rfl,aP,b2⟩;replace m:=m.newO j B;obtain rfl:ps.length=n3:=by have:=(m.o 0 rfl).own.1;rw[alD] at this;omega
 have cO:ps.length<=10000000:=by have h1:=ajX aP b2;omega
 apply aJ 4 [0] m;simp only[↓U,xE];refine bU [33] [8,34,35,36,37,38,39,40,41,42] (λn vs wl=>∃(k:Nat) (es:Array cu) (c:Nat) (Y:List (P3×List Int)),vs=[G (k:Int)]/\Mem w wl [oI 30 3 A3 ps.length cv (ps.flatMap gA),bI g2 [.map (H ah)] 93,mI ah es c,oI 39 9 A1 (dM ts).length ao ((dM ts).flatMap aM)]/\(bC pt qV Y es c)/\(Mq (dM ts) (ps.take k) Y)/\(k<=ps.length)/\(n=ps.length-k)) ?_ ?_
 .exact⟨_,0,_,_,[],O,m,X,Mq.nil _,bu _,O⟩
 intro n vs wr hI u K1 b7
 obtain⟨k,ap,al,Y,rfl,m,X,bn,hk,hn⟩:=hI;simp only[zu,zF,zG];apply aG 5 [0,0] m;simp only[↓U];refine bB O ?_ ?_<;>intro cK
 .obtain⟨p,hp,a3,b6,ct⟩:=((m.o 0 rfl).lat (enc:=gA) (λ_=>rfl) (by decide)).get (i:=k) (by omega);subst b6;apply aG 6 [0] m;simp only[↓U,↓eM,Aq,ai,aj];apply I0;omega;refine aS O (show lC _ _ _ _ (pt p) from ct.lies aF aA) ?_;simp only[I];apply iV 3 [0,0] m;simp only[↓U,↓eM,cY,aN,aa];intro g3 u m;refine mh m [Z,Z,Z,X9,Z] [(2,Z),(0,Z),(1,Z),(3,Z),(4,X9),(5,X9)] aD (by kernel_rfl) (bT (λ_ _ _ _ _ h=>h)) (ol:=?_) ?ax ?_
  case ax=>simp only[zw,zQ,zR];try rfl
  intro u m;refine Dk 4 [3,1,1] ?_;simp only[↓U,↓eM,ahj,aN];refine bQ (cC m O O (auM (p:=p) _ ((m.o 4 O).tris hit) (by omega)) ?_);rintro v u m rfl;refine E ⟨m.sel [Z,Z,Z,X9,Z],?_⟩;refine bQ ?_;simp only[I];refine eP (ek:=pt) (en:=qV) (a:=p) (v:=(xN (dM ts) p)) m 3 O Tn eL O O O X ?_;intro ap al u m X;simp only[zF,zG] at m;refine E ⟨m.sel [Z,Z,Z,X9,Z],?_⟩;refine bO ?_;apply S 5 [0] m;simp only[↓U];apply I0;omega;exact b7 (ps.length-(k+1)) _ _ (by omega) (by kernel_rfl) ⟨k+1,_,_,_,O,(m.sel [X9,Z,Z,Z,Z]),X,bn.put hp,by omega,O⟩
 obtain rfl:k=ps.length:=by omega
 rw[a_ (ba _)] at bn;have L:=bn.ok b2 hit;apply aG 3 [0] m;simp only[↓U];refine iB m ?_;intro am u m;have s:=bC.nil (K:=P3) (V:=P3) pt pt;apply aJ 4 [0] m;simp only[↓U];refine iB m ?_;intro ar u m;have T:=bC.nil (K:=E3) (V:=Int) ed W;apply iV 5 [0,0] m;simp only[↓U,↓eM,ata,abS,aa];intro g5 u m;refine C eR ?_;simp only[I,fx,bm,df];apply aJ 4 [0] m;simp only[↓U];refine bU [0] [12,13,14,15,16,17,18,19,46,47,48,49,50,51,52,53,54,55,56,57,58,59,60,61,62,63,64,65,66,67,68,69,70,71,72,73,74,75,76,77,78,79,80,81,82,83,84,85,86,87,88,89,90,91,92,93,94,95,96,97,98,99,100,101,102,103,104,105,106,107,108,109,110,111,112,113,114,115,116,117,118,119,120,121,122,123,124,125,126,127,128,129,130,131,132,133] (λn vs wl=>∃(l:List T3) (Q:P3->List Int) (A1:Option Addr) (ao:Nat) (P ap R:Array cu) (ab al ae:Nat) (M:List (E3×Int)) (Y:List (P3×List Int)) (d:List Mv),vs=[.slice A1 l.length ao]/\Mem w wl [bI g5 [.map (H ar)] 100,mI ar P ab,mI am R ae,bI g2 [.map (H ah)] 93,mI ah ap al,oI 39 9 A1 l.length ao (l.flatMap aM)]/\(bC ed W M P ab)/\(sN M Q)/\((M.map (·.1)).Nodup)/\(bC pt qV Y ap al)/\(bC pt pt d R ae)/\(QOK Y Q (602+2*(dM ts).length-l.length))/\(∀t∈l,IT t)/\(∀t∈l,t.nd=Z)/\((d.map (·.1)).Nodup)/\(oH (dM ts).length want (dM ts) (xN (dM ts)) []=oH l.length want l Q d)/\(l.length+d.length<=(dM ts).length)/\(n=l.length)) ?_ ?_
 .exact⟨_,(dM ts),(xN (dM ts)),_,_,_,_,_,_,_,_,[],_,[],O,(m.sel [Z,Z,Z,X9,Z,Z,Z]),T,sN.nil _,lx,X,s,L.mono (by omega),hit,a1,lx,O,(by simp),O⟩
 intro n vs wr hI u K2 b8
 obtain⟨l,Q,A1,ao,P,ap,R,ab,al,ae,M,Y,d,rfl,m,T,hC,ag,X,s,L,hit,a1,aw,hS,cM,hn⟩:=hI;simp only[zu,zF,zG];apply aG 8 [0,0] m;simp only[↓U,jL];refine bB O ?_ ?_<;>intro cL
 .apply aG 5 [0] m;simp only[↓U];refine aX O O (auK _ ((m.o 5 O).tris hit) a1 (by omega)) ?_;rintro v u j ⟨bA,ga,gf,ea,ef,ca,cf,D,F,K,rfl,hM,hK,af⟩;replace m:=m.plus hM;clear hM;simp only[de,cl] at m;apply iV 7 [0] m;simp only[↓U,↓eM,avT,ahi,aa];intro g6 u m;replace m:=m.nilO 112 8;apply S 6 [2,0] m;simp only[↓U,↓eM,ahi,Vf,aa];refine aS O (((hK _ (m.get 2 O)).b).lies1 agQ O) ?_;simp only[I];refine tE m underlying106 O ((hK _ (m.get 2 O)).a) ?_;intro r1 u m;apply aJ 2 [0] m;simp only[↓U];refine bU [13] [14,15,57,58,59,60,61,62,63,64,65,66,67,68,69,70,71,72,73,74,75,76,77,78,79,80,81,82,83,84] (λn vs wl=>∃(J rs:List (P3×Hd)) (sn:Array Nat) (cs:List mP) (A9:Option Addr) (au:Nat) (P:Array cu) (ab:Nat) (M:List (E3×Int)),vs=[.slice A9 cs.length au]/\Mem w wl [iI r1 ga ca sn,oI 112 8 A9 cs.length au (cs.flatMap vR),bI g6 [.pointer (H ⟨bA,0,G0⟩)] 88,K,bI g5 [.map (H ar)] 100,mI ar P ab,mI am R ae,bI g2 [.map (H ah)] 93,mI ah ap al,oI 39 9 A1 l.length ao (l.flatMap aM)]/\(bC ed W M P ab)/\(sN M Q)/\((M.map (·.1)).Nodup)/\(lU pt Hd.v D ea sn J rs)/\(Hq l Q (J.map (·.1)) cs)/\(cs.length<=J.length*6000)/\(n=rs.length)) ?_ ?_
  .exact⟨_,[],D,#[],[],_,_,_,_,_,O,m,T,hC,ag,(lU.start af.a),(Hq.nil _ _),(bu _),O⟩
  intro n vs wr hI u K3 bD
  obtain⟨J,rs,sn,cs,A9,au,P,ab,M,rfl,m,T,hC,ag,hT,aE,cT,bZ⟩:=hI;simp only[zu,zF,zG];apply aG 2 [0] m;simp only[↓U];refine Er m 0 O O ((hK _ (m.get 3 O)).a) af.a hT ?_;intro bb kk vv sn u m hN;simp only[zF,zG] at m;refine C (nS O) ?_;apply aJ 2 [0] m;simp only[↓U];refine cQ O ?_ ?_<;>intro bL
  .obtain⟨g,kb,ad,aO,aI⟩:=Dd bL hN;have cj:g∈D.map (·.1):=gm (f:=(·.1)) (aI.1.mem_iff.1 (by simp):(g,kb)∈D);have a8:=aI.len;have cH:=aaL af;rw[bg,be,cd] at a8;apply aG 4 [0] m;simp only[↓U];refine eB (pY O (m.r 0 O) ((hK _ (m.get 3 O)).a) af.a aI) ?_;simp only[I];apply iV 6 [0,0] m;simp only[↓U,↓eM,cY,aN,aa];intro g8 u m;refine mq m aD (by kernel_rfl) (fE 3 [4] ?_);simp only[↓U,↓eM,ahi,Vg,aa];refine ql O (λu m=>(((hK _ (m.get 4 O)).b).lies1 wD O)) ?_;simp only[I];refine ql O (λu m=>((m.b 0 O).full aF aA)) ?_;simp only[I];refine kI (λu m=>dA (ek:=pt) (en:=bj) (k:=g) (v0:=X9) gN iN eL O O ((hK _ (m.get 4 O)).f) af.f) ?_;simp only[I];refine bM ?_;intro u m;refine gc (cQ O (λaL=>?_) (λaL=>?_))
   .rw[af.b] at aL;apply aG 1 [0] m;simp only[↓U];exact bD ad.length _ _ (by rw[bZ,aO.length_eq];exact fu _) (by kernel_rfl) ⟨J++[(g,kb)],ad,_,cs,_,_,_,_,_,O,(m.sel [X9,Z,Z,Z,Z,Z,Z,Z,Z,Z,Z]),T,hC,ag,aI,(by rw[db];exact aE.skip aL),(by rw[bg];simp only[be,cd];omega),rfl⟩
   rw[af.b] at aL;apply aG 5 [4,1,0] m;simp only[↓U,↓eM,ahi,aN];refine aX O O (acb (p:=g) _ ((hK _ (m.get 4 O)).b) ((hK _ (m.get 4 O)).a) af.a ((hK _ (m.get 4 O)).t) (by omega)) ?_;rintro v u j ⟨qx,bw,cx,rfl,hM,a5⟩;replace m:=m.plus hM;clear hM;simp only[de,cl] at m;simp only[I];refine tE m gN O (m.p 0 O) ?_;intro r2 u m;apply aJ 2 [0] m;simp only[↓U];refine bU [13] [15,71,72,73,74,75,76,77,78,79,80,81,82,83,84] (λn vs wl=>∃(az ad:List (P3×Bool)) (bs:Array Nat) (cs:List mP) (A9:Option Addr) (au:Nat) (P:Array cu) (ab:Nat) (M:List (E3×Int)),vs=[.slice A9 cs.length au]/\Mem w wl [iI r2 qx cx bs,mI qx bw cx,bI g8 [G g.x,G g.y,G g.z] 30,iI r1 ga ca sn,oI 112 8 A9 cs.length au (cs.flatMap vR),bI g6 [.pointer (H ⟨bA,0,G0⟩)] 88,K,bI g5 [.map (H ar)] 100,mI ar P ab,mI am R ae,bI g2 [.map (H ah)] 93,mI ah ap al,oI 39 9 A1 l.length ao (l.flatMap aM)]/\(bC ed W M P ab)/\(sN M Q)/\((M.map (·.1)).Nodup)/\(lU pt bj (eE [] (oU l g)) bw bs az ad)/\(ags l Q (J.map (·.1)) g (az.map (·.1)) cs)/\(cs.length<=J.length*6000+az.length)/\(n=ad.length)) ?_ ?_
   .exact⟨_,[],_,#[],cs,_,_,_,_,_,O,m,T,hC,ag,(lU.start a5),(aE.start g),(by simp only[cd];omega),rfl⟩
   intro n vs wr hI u K4 b9
   obtain⟨az,cS,bs,cs,A9,au,P,ab,M,rfl,m,T,hC,ag,a7,aR,cU,co⟩:=hI;simp only[zu,zF,zG];apply aG 2 [0] m;simp only[↓U];refine Er m 0 O O (m.p 1 O) a5 a7 ?_;intro bb kk vv sn u m hN;simp only[zF,zG] at m;refine C (nS O) ?_;apply aJ 2 [0] m;simp only[↓U];refine cQ O ?_ ?_<;>intro bN
   .obtain⟨kq,kv,b1,cr,aU⟩:=Dd bN hN;have cq:Oa l g kq=Z:=vF.1 (aaK.1 (gm (f:=(·.1)) (aU.1.mem_iff.1 (by simp):(kq,kv)∈eE [] (oU l g))));have cy:=aU.len;have aW:=qZ (oU l g) [];have ce:=Xb l g;rw[bg,be,cd] at cy;rw[cd] at aW;apply aG 4 [0] m;simp only[↓U];refine eB (pY O (m.r 0 O) (m.p 1 O) a5 aU) ?_;simp only[I];apply iV 4 [0] m;simp only[↓U,↓eM,cY,aN,aa];intro bx u m;replace m:=m.pull 12 O;simp only[dX,dY,zF,zG] at m;replace m:=m.pull 10 O;simp only[dX,dY,zF,zG] at m;replace m:=m.pull 12 O;simp only[dX,dY,zF,zG] at m;replace m:=m.pull 11 O;simp only[dX,dY,zF,zG] at m;refine gc (mh m [Z,Z,X9,Z,Z,Z,Z,Z,Z,X9,Z,Z,Z,Z] [(0,Z),(3,Z),(1,Z),(2,Z),(4,Z),(5,Z),(6,X9),(7,Z),(8,X9),(9,X9),(10,Z)] aD (by kernel_rfl) (bT (λ_ _ _ _ _ h=>h)) (ol:=?_) ?ax ?_)
    case ax=>simp only[zw,zQ,zR];try rfl
    intro u m;refine Dk 6 [7,4,7,4] ?_;simp only[↓U,↓eM,aN];refine bQ ?_;replace m:=m.pack4;refine jN O O ((haveI:=Mr hit ((af.k g).1 cj);haveI:=Mr hit (acs cq).2;auR (p:=g) (q:=kq) m T X hC ag L (by omega))) ?_;rintro v u ⟨P,ab,M,rfl,m,T,hC,ag⟩;simp only[I];replace m:=m.unpack4;refine E ⟨m.sel [Z,Z,X9,Z,Z,Z,Z,Z,Z,X9,Z,Z,Z,Z],?_⟩;refine bY (Kz O O O) (bQ ?_);simp only[I];refine afb O ?_;intro u bz j B k_;replace m:=m.newB j B k_;refine E ⟨m.sel [X9,Z,Z,X9,Z,Z,Z,Z,Z,Z,X9,Z,Z,Z,Z],?_⟩;refine bQ ?_;simp only[I];refine bW m 10 O O underlying105 ao7 O (by decide) O O O (m.b 0 O).rowsO (jB O) (by omega) (by omega) ?_;intro A9 au u m;simp only[zF,zG] at m;rw[show cs.flatMap vR++_=(cs++[⟨g,kq,vW Q g kq⟩]:List mP).flatMap vR by rw[bi];rfl] at m;have bR:cs.length+1=(cs++[⟨g,kq,vW Q g kq⟩]:List mP).length:=by simp
    rw[bR] at m;rw[bR];refine E ⟨m.sel [X9,Z,Z,X9,Z,Z,Z,Z,Z,Z,X9,Z,Z,Z,Z],?_⟩;refine bY aK (bO ?_);simp only[I];replace m:=m.pull 14 O;simp only[dX,dY,zF,zG] at m;replace m:=m.pull 5 O;simp only[dX,dY,zF,zG] at m;replace m:=m.pull 4 O;simp only[dX,dY,zF,zG] at m;replace m:=m.pull 14 O;simp only[dX,dY,zF,zG] at m;replace m:=m.pull 6 O;simp only[dX,dY,zF,zG] at m;replace m:=m.pull 6 O;simp only[dX,dY,zF,zG] at m;replace m:=m.pull 14 O;simp only[dX,dY,zF,zG] at m;replace m:=m.pull 14 O;simp only[dX,dY,zF,zG] at m;replace m:=m.pull 14 O;simp only[dX,dY,zF,zG] at m;replace m:=m.pull 14 O;simp only[dX,dY,zF,zG] at m;replace m:=m.pull 14 O;simp only[dX,dY,zF,zG] at m;replace m:=m.pull 14 O;simp only[dX,dY,zF,zG] at m;replace m:=m.pull 14 O;simp only[dX,dY,zF,zG] at m;replace m:=m.pull 14 O;simp only[dX,dY,zF,zG] at m;apply S 1 [0] m;simp only[↓U];exact b9 b1.length _ _ (by rw[co,cr.length_eq];exact fu _) (by kernel_rfl) ⟨az++[(kq,kv)],b1,_,(cs++[mP.mk g kq (vW Q g kq)]),_,_,_,_,_,O,(m.sel [X9,Z,Z,Z,Z,Z,Z,Z,Z,Z,Z,Z,Z,Z,X9]),T,hC,ag,aU,(by rw[db];exact aR.put),(by rw[bg,bg];simp only[be,cd];omega),rfl⟩
   obtain rfl:=Db bN hN;have cw:=a7.len;have aW:=qZ (oU l g) [];have ce:=Xb l g;rw[cd] at aW cw;replace aR:=aR.done aL (λx=>by rw[<-vF];exact ((a7.done.map (·.1)).mem_iff).trans aaK);apply aG 2 [0] m;simp only[↓U];exact bD ad.length _ _ (by rw[bZ,aO.length_eq];exact fu _) (by kernel_rfl) ⟨J++[(g,kb)],ad,_,cs,_,_,_,_,_,O,(m.sel [X9,X9,X9,Z,Z,Z,Z,Z,Z,Z,Z,Z,Z]),T,hC,ag,aI,(by rw[db];exact aR),(by rw[bg];simp only[be,cd] at aW ⊢;omega),rfl⟩
  obtain rfl:=Db bL hN;have a8:=hT.len;have cH:=aaL af;rw[cd] at a8;have bh:=hT.done;replace aE:=aE.perm bh;apply aG 4 [0] m;simp only[↓U];refine C eR ?_;simp only[I,fx,bm,df];replace m:=m.pull 9 O;simp only[dX,dY,zF,zG] at m;replace m:=m.pull 4 O;simp only[dX,dY,zF,zG] at m;replace m:=m.pull 4 O;simp only[dX,dY,zF,zG] at m;replace m:=m.pull 4 O;simp only[dX,dY,zF,zG] at m;replace m:=m.pack4;refine jN O O (auT m hK af a1 hit (by omega) L.len L.bd (by omega) aE (by omega)) ?_;rintro v u ⟨c,bb,rfl,m,b4⟩;simp only[I];replace m:=m.unpack3;apply aJ 1 [0] m;simp only[↓U];refine C (dV (v:=acr c) O O) ?_;simp only[I];refine C (dV (v:=.bool bb) O O) ?_;simp only[I];apply iV 2 [0] m;simp only[↓U,↓eM,afG,afF,aa];intro g8 u m;apply S 8 [0] m;simp only[↓U];refine cQ O ?_ ?_<;>intro aZ
  .have ay:=aet (l:=l) (want:=want) (Q:=Q) (D:=d) (.inr (b4.resolve_right (λh=>by rw[h.1] at aZ;cases aZ)).2);apply aG 5 [] m;simp only[↓U];replace m:=m.nilO 55 6;apply S 4 [0] m;simp only[↓U];refine aX O O (anN (q:=am) _) ?_;rintro v u j ⟨g9,rfl,B,k_⟩;replace m:=m.newB j B k_;simp only[I];refine aX O O (aec _ ak3 (Qm (m.p 9 O) s (m.b 0 O)) (λxs h=>by rw[h.length_eq,eb];exact ba _) (by omega)) ?_;rintro v u j ⟨xs,ys,⟨a2,bv,br,bt,rfl,B⟩,aQ,bq,aP⟩;replace m:=m.newO j B;obtain rfl:br=d.length:=by rw[bt,aQ.length_eq,eb]
   obtain rfl:ys=Ak (d.map (·.1)):=Wv aw (bq.trans aQ) aP;apply aJ 4 [0] m;simp only[↓U,xE];refine bU [20,138] [22,139,140,141,142,143,144,145,146,147,148,149,150] (λn vs wl=>∃(k:Nat)(ak:Option Addr)(aq:Nat),vs=[.slice ak k aq,G (k:Int)]/\Mem w wl [oI 30 3 a2 d.length bv ((Ak (d.map (·.1))).flatMap gA),oI 55 6 ak k aq (((kU d).take k).flatMap bG),oI 39 9 A1 l.length ao (l.flatMap aM),mI am R ae]/\(k<=d.length)/\(n=d.length-k)) ?_ ?_
   .exact⟨_,0,_,_,O,(m.sel [Z,X9,Z,X9,X9,X9,Z,X9,X9,X9,Z,X9,X9]),bu _,O⟩
   intro n vs wr hI u K5 cb
   obtain⟨k,ak,aq,rfl,m,hk,cp⟩:=hI;simp only[zu,zF,zG];apply aG 5 [0,0] m;simp only[↓U];refine bB O ?_ ?_<;>intro cA
   .obtain⟨k9,bk,a9,a4,bo⟩:=((m.o 0 rfl).lat (enc:=gA) (λ_=>rfl) (by decide)).get (i:=k) (by omega);subst a4;have bl:=arJ bk;apply aG 6 [0] m;simp only[↓U,↓eM,Aq,ai,aj];apply I0;omega;refine aS O (show lC _ _ _ _ (pt k9) from bo.lies aF aA) ?_;simp only[I];apply iV 3 [0,0] m;simp only[↓U,↓eM,cY,aN,aa];intro bx u m;refine mh m [Z,Z,X9,Z,Z] [(0,Z),(2,Z),(1,Z),(3,Z),(4,X9),(5,Z),(6,X9),(7,X9),(8,Z)] aD (by kernel_rfl) (bT (λ_ _ _ _ _ h=>h)) (ol:=?_) ?ax ?_
    case ax=>simp only[zw,zQ,zR];try rfl
    intro u m;refine Dk 4 [1,1] ?_;simp only[↓U,↓eM,aN];refine bQ (eB (dA (ek:=pt) (en:=pt) (k:=k9) (v0:=⟨0,0,0⟩) En eH eL O O (m.p 4 O) s) ?_);simp only[I];refine E ⟨m.sel [Z,Z,X9,Z,Z],?_⟩;refine bY (rV O O) (bQ ?_);simp only[I];refine tA O ?_;intro u bz j B k_;replace m:=m.newB j B k_;refine E ⟨m.sel [X9,Z,Z,X9,Z,Z],?_⟩;refine bQ ?_;simp only[I];refine bW m 3 O O Hx abc O (by decide) O O O (m.b 0 O).rowsO (jB O) (by omega) (by omega) ?_;intro ak aq u m;simp only[zF,zG] at m;rw[show ((kU d).take k).flatMap bG++_=((kU d).take (k+1)).flatMap bG by rw[bV bl,bi];rfl] at m;refine E ⟨m.sel [X9,Z,Z,X9,Z,Z],?_⟩;refine bY aK (bO ?_);apply S 5 [0] m;simp only[↓U];apply I0;omega;exact cb (d.length-(k+1)) _ _ (by omega) (by kernel_rfl) ⟨k+1,_,_,O,(m.sel [X9,X9,Z,Z,Z,Z]),by omega,O⟩
   obtain rfl:k=d.length:=by omega
   rw[show (kU d).take d.length=kU d from a_ (by rw[Av];exact ba _)] at m;apply aG 9 [] m;simp only[↓U];exact jG O O O ⟨_,O,m.ext,_,_,_,_,_,_,O,by rw[wQ av (hS.trans ay)],by rw[wQ av (hS.trans ay)];exact (Av _).symm,by rw[wQ av (hS.trans ay)];exact m.sel [X9,Z,Z,X9]⟩
  obtain⟨rfl,aY,bc⟩:=b4.resolve_left (λh=>by rw[h.1] at aZ;cases aZ);have ck:((bS Y c.u).getD q0).length=10:=by rw[L.get];exact L.len _
  have cg:Jo (602+2*(dM ts).length-l.length) ((bS Y c.u).getD q0):=by rw[L.get];exact L.bd _
  have cm:((bS Y c.v).getD q0).length=10:=by rw[L.get];exact L.len _
  have ch:Jo (602+2*(dM ts).length-l.length) ((bS Y c.v).getD q0):=by rw[L.get];exact L.bd _
  apply aG 8 [1,1,0] m;simp only[↓U,↓eM,Ff,aN,xF,aa];refine aX O O ((haveI:=bc.1;haveI:=bc.2;af4 (p:=c.u) (q:=c.v) _ ((m.o 3 rfl).tris hit) (by omega))) ?_;rintro v u j ⟨b5,cG,cR,cE,rfl,B⟩;replace m:=m.newO j B;subst cE;refine C aK ?_;simp only[I];replace m:=(m.pull 0 O).mv 3 O;simp only[dX,dY,zF,zG] at m;apply aJ 2 [0] m;simp only[↓U];refine dQ m 12 aD (by kernel_rfl) ?_;simp only[zy];refine fE 6 [9,1,9,1] ?_;simp only[↓U,↓eM,ahj,xF,aN,Ff,aa];refine kI (λu m=>dA (ek:=pt) (en:=qV) (k:=c.u) (v0:=q0) Tn ah0 eL O O (m.p 9 O) X) ?_;simp only[I];refine fE 3 [9,1] ?_;simp only[↓U,↓eM,ahj,xF,aN,aa];refine kI (λu m=>dA (ek:=pt) (en:=qV) (k:=c.v) (v0:=q0) Tn ah0 eL O O (m.p 9 O) X) ?_;simp only[I];refine jF O O (agi ck cm cg ch (by omega)) (bM ?_);intro u m;simp only[I];refine eP (ek:=pt) (en:=qV) (a:=c.v) (v:=(Hm ((bS Y c.u).getD q0) ((bS Y c.v).getD q0))) m 9 O Tn eL O O O X ?_;intro ap al u m X;simp only[zF,zG] at m;rw[L.get,L.get] at X;refine E ?_;apply S 3 [6,0] m;simp only[↓U,↓eM,abS];refine C eR ?_;simp only[I,fx,bm,df];replace m:=m.pull 0 O;simp only[dX,dY,zF,zG] at m;replace m:=m.pull 6 O;simp only[dX,dY,zF,zG] at m;replace m:=m.pack2;refine jN O O (aoq m T ag) ?_;rintro v u ⟨P,cI,rfl,m,T,cF,cB⟩;simp only[I];replace m:=m.unpack2;apply aJ 5 [0] m;simp only[↓U];refine tE m En O (m.p 7 O) ?_;intro r3 u m;apply aJ 2 [0] m;simp only[↓U];refine bU [] [18,19,116,117,118,119,120,121,122,123,124,125,126,127,128] (λn vs wl=>∃(J rs:List Mv)(sn:Array Nat)(R:Array cu),vs=[]/\Mem w wl [iI r3 am ae sn,mI ar P ab,bI g8 (vR c) 112,oI 39 9 b5 (gF l c.u c.v).length cG ((gF l c.u c.v).flatMap aM),bI g5 [.map (H ar)] 100,mI am R ae,bI g2 [.map (H ah)] 93,mI ah ap al]/\(bC pt pt (Gd (J.map (·.1)) c.u c.v d) R ae)/\(vY pt pt (Gd (J.map (·.1)) c.u c.v d) R sn J rs)/\(n=rs.length)) ?_ ?_
  .exact⟨_,[],d,#[],_,O,(m.sel [Z,Z,Z,X9,X9,Z,X9,Z,Z,Z,Z]),(by rw[df,aer];exact s),(by rw[df,aer];exact vY.start s),O⟩
  intro n vs wr hI u K6 bE
  obtain⟨J,rs,sn,R,rfl,m,s,bH,b0⟩:=hI;simp only[zu,zF,zG];apply aG 2 [0] m;simp only[↓U];refine aoj m 0 O O (m.p 5 O) s bH ?_;intro bb kk vv sn u m hN;simp only[zF,zG] at m;refine C (nS O) ?_;apply aJ 2 [0] m;simp only[↓U];refine cQ O ?_ ?_<;>intro bP
  .obtain⟨g,kb,ad,aO,aV⟩:=aon bP hN;obtain⟨b3,bX⟩:=aou (by rw[Hj];exact aw) aV;apply aG 4 [0] m;simp only[↓U];refine eB (aeq O (m.r 0 O) (m.p 5 O) s aV) ?_;simp only[I];apply iV 5 [1] m;simp only[↓U,↓eM,cY,aN,aa];intro bx bz u m;apply Lc 8 [0,1,5] m;simp only[↓U,↓eM,aN,Ff,aa];refine⟨_,fH,?_⟩;intro u m;apply S 1 [0] m;simp only[↓U];refine cQ O ?_ ?_<;>intro a0
   .rw[aqQ,Y2] at a0;have bp:=aot aw bX b3 a0;apply aG 5 [2,5,0] m;simp only[↓U,↓eM,aN,xF,aa];refine aol (ek:=pt) (ev:=pt) (a:=g) (v:=c.v) m 7 O En eL O O O s (by rw[Hj];exact aw) aV ?_;intro R u m s bF;simp only[zF,zG] at m;apply aJ 2 [0] m;simp only[↓U];rw[bp] at s bF;exact bE ad.length _ _ (by rw[b0,aO.length_eq];exact fu _) (by kernel_rfl) ⟨J++[(g,c.v)],ad,_,_,O,(m.sel [X9,X9,Z,Z,Z,Z,Z,Z,Z,Z]),(by rw[db];exact s),(by rw[db];exact bF),O⟩
   rw[aqQ,Y7] at a0;have bp:=ajV (v:=c.v) aw bX b3 a0;apply aG 2 [0] m;simp only[↓U];have bJ:=aV.stay;rw[bp] at s bJ;exact bE ad.length _ _ (by rw[b0,aO.length_eq];exact fu _) (by kernel_rfl) ⟨J++[(g,kb)],ad,_,_,O,(m.sel [X9,X9,Z,Z,Z,Z,Z,Z,Z,Z]),(by rw[db];exact s),(by rw[db];exact bJ),O⟩
  obtain rfl:=aom bP hN;have bh:=bH.done;have cz:∀e∈d,e.1∈J.map (·.1):=λe he=>(bh.map (·.1)).mem_iff.2 (by rw[Hj];exact gm he);apply aG 7 [3,3,0] m;simp only[↓U,↓eM,Ff,aN,xF,aa];refine eP (ek:=pt) (en:=pt) (a:=c.u) (v:=c.v) m 5 O En eL O O O s ?_;intro R ae u m s;simp only[zF,zG] at m;rw[aos cz] at s;apply aJ 1 [] m;simp only[↓U];replace m:=m.pull 3 O;simp only[dX,dY,zF,zG] at m;replace m:=m.pull 7 O;simp only[dX,dY,zF,zG] at m;replace m:=m.pull 7 O;simp only[dX,dY,zF,zG] at m;replace m:=m.pull 7 O;simp only[dX,dY,zF,zG] at m;replace m:=m.pull 5 O;simp only[dX,dY,zF,zG] at m;replace m:=m.pull 7 O;simp only[dX,dY,zF,zG] at m;apply S 1 [0] m;simp only[↓U];exact b8 ((gF l c.u c.v).length) _ _ (by have:=An aY;omega) (by kernel_rfl) ⟨(gF l c.u c.v),(abN Q c.u c.v),_,_,_,_,_,_,_,_,_,_,(toF d c.u c.v),rfl,(m.sel [Z,Z,Z,Z,Z,Z,X9,X9]),T,(hC.upd cB),cF,X,s,((L.upd c.u c.v).mono (by have:=An aY;omega)),(Ge (aca bc.2 hit)),(al4 l c.u c.v),(auS aw _ _),(hS.trans (ajW hw (by omega) aY)),(by have:=An aY;have:=aqS d c.u c.v;omega),rfl⟩
 have ay:=aet (l:=l) (want:=want) (Q:=Q) (D:=d) (.inl (by omega));apply aG 5 [] m;simp only[↓U];replace m:=m.nilO 55 6;apply S 4 [0] m;simp only[↓U];refine aX O O (anN (q:=am) _) ?_;rintro v u j ⟨g6,rfl,B,k_⟩;replace m:=m.newB j B k_;simp only[I];refine aX O O (aec _ ak3 (Qm (m.p 4 O) s (m.b 0 O)) (λxs h=>by rw[h.length_eq,eb];exact ba _) (by omega)) ?_;rintro v u j ⟨xs,ys,⟨a2,bv,br,bt,rfl,B⟩,aQ,bq,aP⟩;replace m:=m.newO j B;obtain rfl:br=d.length:=by rw[bt,aQ.length_eq,eb]
 obtain rfl:ys=Ak (d.map (·.1)):=Wv aw (bq.trans aQ) aP;apply aJ 4 [0] m;simp only[↓U,xE];refine bU [20,138] [22,139,140,141,142,143,144,145,146,147,148,149,150] (λn vs wl=>∃(k:Nat)(ak:Option Addr)(aq:Nat),vs=[.slice ak k aq,G (k:Int)]/\Mem w wl [oI 30 3 a2 d.length bv ((Ak (d.map (·.1))).flatMap gA),oI 55 6 ak k aq (((kU d).take k).flatMap bG),mI am R ae,oI 39 9 A1 l.length ao (l.flatMap aM)]/\(k<=d.length)/\(n=d.length-k)) ?_ ?_
 .exact⟨_,0,_,_,O,(m.sel [Z,X9,Z,X9,X9,Z,X9,X9,Z]),bu _,O⟩
 intro n vs wr hI u K7 cc
 obtain⟨k,ak,aq,rfl,m,hk,cp⟩:=hI;simp only[zu,zF,zG];apply aG 5 [0,0] m;simp only[↓U];refine bB O ?_ ?_<;>intro cA
 .obtain⟨k9,bk,a9,a4,bo⟩:=((m.o 0 rfl).lat (enc:=gA) (λ_=>rfl) (by decide)).get (i:=k) (by omega);subst a4;have bl:=arJ bk;apply aG 6 [0] m;simp only[↓U,↓eM,Aq,ai,aj];apply I0;omega;refine aS O (show lC _ _ _ _ (pt k9) from bo.lies aF aA) ?_;simp only[I];apply iV 3 [0,0] m;simp only[↓U,↓eM,cY,aN,aa];intro g7 u m;refine mh m [Z,Z,X9,Z,Z] [(0,Z),(2,Z),(1,Z),(3,Z),(4,X9),(5,Z),(6,X9),(7,X9),(8,Z)] aD (by kernel_rfl) (bT (λ_ _ _ _ _ h=>h)) (ol:=?_) ?ax ?_
  case ax=>simp only[zw,zQ,zR];try rfl
  intro u m;refine Dk 4 [1,1] ?_;simp only[↓U,↓eM,aN];refine bQ (eB (dA (ek:=pt) (en:=pt) (k:=k9) (v0:=⟨0,0,0⟩) En eH eL O O (m.p 3 O) s) ?_);simp only[I];refine E ⟨m.sel [Z,Z,X9,Z,Z],?_⟩;refine bY (rV O O) (bQ ?_);simp only[I];refine tA O ?_;intro u g8 j B k_;replace m:=m.newB j B k_;refine E ⟨m.sel [X9,Z,Z,X9,Z,Z],?_⟩;refine bQ ?_;simp only[I];refine bW m 3 O O Hx abc O (by decide) O O O (m.b 0 O).rowsO (jB O) (by omega) (by omega) ?_;intro ak aq u m;simp only[zF,zG] at m;rw[show ((kU d).take k).flatMap bG++_=((kU d).take (k+1)).flatMap bG by rw[bV bl,bi];rfl] at m;refine E ⟨m.sel [X9,Z,Z,X9,Z,Z],?_⟩;refine bY aK (bO ?_);apply S 5 [0] m;simp only[↓U];apply I0;omega;exact cc (d.length-(k+1)) _ _ (by omega) (by kernel_rfl) ⟨k+1,_,_,O,(m.sel [X9,X9,Z,Z,Z,Z]),by omega,O⟩
 obtain rfl:k=d.length:=by omega
 rw[show (kU d).take d.length=kU d from a_ (by rw[Av];exact ba _)] at m;apply aG 9 [] m;simp only[↓U];exact jG O O O ⟨_,O,m.ext,_,_,_,_,_,_,O,by rw[wQ av (hS.trans ay)],by rw[wQ av (hS.trans ay)];exact (Av _).symm,by rw[wQ av (hS.trans ay)];exact m.sel [X9,Z,X9,Z]⟩
end
end Go.Proofs.YtfekpcimgncioaaGreatDoor
namespace Go.Lith
open Go.RowKit
variable{q:P3}
section
variable{g gi:P3->P3}{ts us l:List T3}{f:P3->P3}
end
/-! ### Moves,one after the other -/
/-! ### How far -/
theorem auU{n m:Nat}(h:n<=m*m):(dO n+if dO n*dO n=n then 0 else 1)<=m:=by
 obtain⟨h1,h2⟩:=sW n;by_cases e:dO n*dO n=n
 . rw[Z9 e]
   refine im λk=>?_;have:(m+1)*(m+1)<=dO n*dO n:=Nat.mul_le_mul k k;have a:(m+1)*(m+1)=m*m+2*m+1:=by grind
   omega
 rw[K0 e]
 refine im λk=>?_;have:m*m<=dO n*dO n:=Nat.mul_le_mul (by omega) (by omega);omega
def Yp(p q:P3):Nat:=dO (nW p q)+if dO (nW p q)*dO (nW p q)=nW p q then 0 else 1
def ah1(p q:P3):sF p q=(Yp p q:Int):=by
 unfold sF Yp;split<;>simp
def aeu(p q:P3):((nW p q:Nat):Int)=(q.x-p.x)*(q.x-p.x)+((q.y-p.y)*(q.y-p.y)+(q.z-p.z)*(q.z-p.z)):=by
 have h:=akH (q.sub p);unfold nW;have e:(q.sub p).dot (q.sub p)=(q.x-p.x)*(q.x-p.x)+((q.y-p.y)*(q.y-p.y)+(q.z-p.z)*(q.z-p.z)):=by simp only[P3.sub,P3.dot,Int.add_assoc]
 rw[<-e];omega
/-! ### The greatest distance -/
def mxM:List Mv->Nat->Nat
 | [],n=>n
 |m::ms,n=>mxM ms (max n (Yp m.1 m.2))
def aov:∀(ms:List Mv)(n:Nat),n<=mxM ms n/\∀m∈ms,Yp m.1 m.2<=mxM ms n
 | [],n=>⟨ba _,λm h=>by cases h⟩
 |m::ms,n=>by
  obtain⟨h1,h2⟩:=aov ms (max n (Yp m.1 m.2));refine⟨ax (Nat.le_max_left _ _) h1,λk hk=>?_⟩;rcases av.1 hk with rfl|hk
  .exact ax (Nat.le_max_right _ _) h1
  exact h2 k hk
def aev:∀(ms:List Mv)(n:Nat),(∀m∈ms,nQ (sF m.1 m.2))->nF ms (n:Int)=H ((mxM ms n:Nat):Int)
 | [],n,_=>rfl
 |m::ms,n,h=>by
  rw[nF,Z9 (h m (bq ..)),ah1];have:max (n:Int) (Yp m.1 m.2:Int)=((max n (Yp m.1 m.2):Nat):Int):=by omega
  rw[this,aev ms _ λq a=>h q (br _ a)];rfl
theorem ajY{p:P3}(a:Mid p)(b:Mid q):Yp p q<=12000000:=by
 have n:=aeu p q;obtain⟨c,d,a3,a4,a5,e⟩:=a;obtain⟨f,g,i,j,l,m⟩:=b;have k:∀x y:Int,-2000000<=x->x<=2000000->-2000000<=y->y<=2000000->(y-x)*(y-x)<=4000000*4000000:=λx y h1 h2 o r=>by
  rcases Int.le_total 0 (y-x) with h|h
  .exact Int.mul_le_mul (by omega) (by omega) h (by omega)
  have:(y-x)*(y-x)=(x-y)*(x-y):=by grind
  rw[this];exact Int.mul_le_mul (by omega) (by omega) (by omega) (by omega)
 have s:=k p.x q.x (by omega) (by omega) (by omega) (by omega);have t:=k p.y q.y (by omega) (by omega) (by omega) (by omega);have u:=k p.z q.z (by omega) (by omega) (by omega) (by omega);exact auU (by omega)
def aqT{p:P3}(a:Mid p)(b:Mid q):nQ (sF p q):=by
 have h1:=ajY a b;rw[ah1];exact⟨by omega,by omega⟩
def aqU{p:P3}(h:p≠q):1<=Yp p q:=by
 have c:1<=nW p q:=by
  refine Nat.one_le_iff_ne_zero.2 λe=>h ?_;have:=aeu p q;rw[e] at this;have a:∀x:Int,0<=x*x:=λx=>by
   rcases Int.le_total 0 x with h|h
   .exact Int.mul_nonneg h h
   exact Int.mul_nonneg_of_nonpos_of_nonpos h h
  have d:=a (q.x-p.x);have f:=a (q.y-p.y);have g:=a (q.z-p.z);have z:∀x y:Int,(y-x)*(y-x)=0->x=y:=λx y h=>by
   have:=Int.mul_eq_zero.1 h;omega
  have b:((0:Nat):Int)=0:=rfl;rw[b] at this;refine P3.eq (z _ _ ?_) (z _ _ ?_) (z _ _ ?_)<;>omega
 unfold Yp;obtain⟨h1,h2⟩:=sW (nW p q);rcases Nat.eq_zero_or_pos (dO (nW p q)) with e|e
 . rw[e] at h2 ⊢
   split
   .rename_i k;omega
   omega
 omega
def yV.ends{l us:List T3}{f:P3->P3}(A:yV l us f)(dg:nE l)(nd:(aR l).Nodup){e:E3}(g:e∈Y us):tQ us e.1 us.length e.2=tQ l e.1 l.length e.2:=by
 obtain⟨v,a⟩:=e;have c:rA us (v,a):=uZ.1 g;have b:rA l (v,a):=(A.bd _).1 c;obtain⟨z,d⟩:=anB dg nd b;exact (Sa A.dg A.nd c (A.fan v a z b d)).trans (Sa dg nd b d).symm
def acu{s:List T3}{want:Int}(hc:cD Z s=0)(b:∀x∈bP s,Mid x) :
 ∃n:Nat,gR s (nG s want).1 (nG s want).2=((n:Int),0)/\(n=0↔(nG s want).2.length=0):=by
 have S:=tX (want:=want) hc;obtain⟨h1,h2,c⟩:=lJ.1 S.ck;have g:∀m∈(nG s want).2,nQ (sF m.1 m.2):=λm h=>aqT (b _ (S.mv.ic m h)) (b _ (S.acc.sub _ (S.mv.to m h)));refine⟨mxM (nG s want).2 0,aqr S.acc S.mv h1 h2 c (aev _ 0 g),λh=>?_,λh=>?_⟩
 . cases d:(nG s want).2 with
   |nil=>rfl
   |cons m ms=>
    have a:m∈(nG s want).2:=by rw[d];exact bq ..
    have f:m.1≠m.2:=λe=>S.mv.nl m a (e▸S.mv.to m a);have i:=(aov (nG s want).2 0).2 m a;have j:=aqU f;omega
 rw[List.length_eq_zero_iff.1 h];rfl
def aqV{p a b c d:P3}:(gR [⟨p,a,b⟩,⟨p,c,d⟩] [⟨p,a,d⟩,⟨a,b,d⟩,⟨p,c,b⟩,⟨c,d,b⟩] []).2≠0:=λh=>by
 unfold gR at h;split at h
 .rename_i k;exact k h
 rename_i q;split at h
 .rename_i k;exact k h
 rename_i r;split at h
 .cases h
 rename_i A;split at h
 .cases h
 rename_i y;have q:=Decidable.not_not.1 q;have r:=Decidable.not_not.1 r;obtain⟨d1,n1⟩:=mE q;obtain⟨d2,_⟩:=mE r;obtain⟨f,i,a3⟩:=Yh (d1 _ (bq ..));obtain⟨_,a5,l⟩:=Yh (d1 ⟨p,c,d⟩ (by simp));obtain⟨_,j,m⟩:=Yh (d2 ⟨p,a,d⟩ (by simp));obtain⟨_,s,_⟩:=Yh (d2 ⟨a,b,d⟩ (by simp));obtain⟨g,n,_⟩:=Yh (d2 ⟨p,c,b⟩ (by simp));simp only at f i a3 a5 l j m s g n;have z:a≠c:=λe=>by
  subst e;simp[aR] at n1
 have w:(p,a)∈Y [⟨p,a,b⟩,⟨p,c,d⟩]:=by
  rw[uZ];refine⟨by simp[aR],?_⟩;simp[aR,f,Ne.symm f,i,Ne.symm i,a3,Ne.symm a3,j,Ne.symm j,g,Ne.symm g,z]
 have t:oD [⟨p,a,b⟩,⟨p,c,d⟩] [⟨p,a,d⟩,⟨a,b,d⟩,⟨p,c,b⟩,⟨c,d,b⟩] (Y [⟨p,a,b⟩,⟨p,c,d⟩])=Z:=by
  cases x:oD [⟨p,a,b⟩,⟨p,c,d⟩] [⟨p,a,d⟩,⟨a,b,d⟩,⟨p,c,b⟩,⟨c,d,b⟩] (Y [⟨p,a,b⟩,⟨p,c,d⟩]) with
  |true=>rfl
  |false=>exact Y0 (.inr x) y
 unfold oD at t;have o:=Y9 (ej.1 t _ w);simp only[be,cd] at o;have u:tQ [⟨p,a,b⟩,⟨p,c,d⟩] p (0+1+1) a=b:=by
  simp[tQ,bD,T3.fnd,f,Ne.symm f,i,Ne.symm i,a3,Ne.symm a3,n,Ne.symm n,g,Ne.symm g,l,Ne.symm l]
 have v:tQ [⟨p,a,d⟩,⟨a,b,d⟩,⟨p,c,b⟩,⟨c,d,b⟩] p (0+1+1+1+1) a=d:=by
  simp[tQ,bD,T3.fnd,f,Ne.symm f,j,Ne.symm j,m,Ne.symm m,a3,Ne.symm a3,g,Ne.symm g,a5,Ne.symm a5]
 rw[u,v] at o;exact s o
end Go.Lith
namespace Go.Proofs.YtfekpcimgncioaaGreatDoor
open Go.Proofs.Tryz
open Go.RowKit Go.Lith
set_option maxRecDepth 100000
attribute [local irreducible] bf M fY cJ cU Code.wp
attribute [local congr] dK dL cZ dJ
variable{a c d:P3}
theorem aew:∀(n:Nat){want:Int}{l:List T3}{q:P3->List Int}{D:List Mv},(∀t∈l,IT t)->∀t∈(oH n want l q D).1,IT t
 |0,_,_,_,_,h=>h
 |n+1,want,l,q,D,h=>by
  unfold oH;split
  .exact h
  cases a:Df l q with
  |none=>exact h
  |some c=>exact aew n (Ge (aca (Mr h (acs (ahf.1 (Oe a).1).2.1).2) h))
theorem aow{l:List T3}{want:Int}(h:∀t∈l,IT t):∀t∈(nG l want).1,IT t:=by
 unfold nG;split
 .exact Ge h
 exact aew _ (Ge h)
structure aw8(s L:List T3)(Ms:List Mv):Prop where
 ac:∃n:Nat,gR s L Ms=((n:Int),0)/\(n=0↔Ms.length=0)
 si:arA s L Ms
 ll:L.length<=s.length
 ml:Ms.length<=3*s.length
 li:∀t∈L,IT t
 mi:∀m∈Ms,I3 m.1/\I3 m.2
def aqW{s:List T3}{want:Int}(hc:cD Z s=0)(hm:∀x∈bP s,Mid x):aw8 s (nG s want).1 (nG s want).2 where
 ac:=acu hc hm
 si:=tX hc
 ll:=(tX hc).le
 ml:=by
  have:=(tX (want:=want) hc).num;have:=Ek s;omega
 li:=aow (Ju hm)
 mi m h:=⟨(hm _ ((tX hc).mv.ic m h)).i3,(hm _ ((tX hc).acc.sub _ ((tX hc).mv.to m h))).i3⟩
def aox{us:List T3}{n:Nat}(h:∀x∈bP us,Mid x):∀x∈bP (us.take n),Mid x:=λx c=>h x (by
 obtain⟨t,b,a⟩:=lI.1 c;exact lI.2 ⟨t,List.mem_of_mem_take b,a⟩)
def aqX{P:cg}{f:FuncId}{args:List ak}{w:an}{v v':ak}(h:dF P f args w λu _=>u=v)(e:v=v'):dF P f args w λu _=>u=v':=e▸h
def Sh{w0 w:an}{S:List (Option Nat)}{E:bh}{g n cap k:Nat}{e:E3}{es:List E3}(h:Ow w0 w S E 6 (H ⟨g,0,G0⟩) n cap (es.flatMap bG))(a:es[k]? = H e):jS w ⟨g,k*6,G0⟩ (bG e):=by
 have:=(h.lat (enc:=bG) yM (by decide)).at a;rwa [eD,aj] at this
def aoy{ts:List T3}(h:cD Z ts=0):(Y ts).length<=ts.length*3:=by
 rw[<-kF,<-Qj (mE h).2];exact gd ..
theorem arK{p b:P3}[I3 p][I3 a][I3 b][I3 c][I3 d]:∀t∈[(⟨p,a,b⟩:T3),⟨p,c,d⟩],IT t:=λt h=>by
 simp only[av,bw,Y3] at h;rcases h with rfl|rfl<;>constructor<;>infer_instance
theorem arL{p b:P3}[I3 p][I3 a][I3 b][I3 c][I3 d]:∀t∈[(⟨p,a,d⟩:T3),⟨a,b,d⟩,⟨p,c,b⟩,⟨c,d,b⟩],IT t:=λt h=>by
 simp only[av,bw,Y3] at h;rcases h with rfl|rfl|rfl|rfl<;>constructor<;>infer_instance
def Yq{kind bits:Int}[Iw kind][Iw bits]{K R F Q:Nat}{J D:Option Addr}{zs:List Int}{T:List Q4}{n0:Int}[Iw n0]{p b:P3}[I3 p][I3 a][I3 b][I3 c][I3 d](w:an)(hZ:vH w J K zs)(hQ:pH q4C 4 w D F T)(r:∀q∈T,IQ q):dF G1 13 [.agg #[G kind,G bits,.slice J K R,.slice D F Q],G n0,.agg #[G p.x,G p.y,G p.z,G a.x,G a.y,G a.z,G b.x,G b.y,G b.z,G c.x,G c.y,G c.z,G d.x,G d.y,G d.z]] w (λv _=>v=.bool Z):=by
 refine⟨bK func13 (by kernel_rfl),?_⟩;have m:=Mem.refl w
 go_enter func13,ntmps13
 apply kX 4 [] m;simp only[↓U];intro g1 g2 u m;apply S 4 [0] m;simp only[↓U];refine tK m O O anl 5 [2,0] ?_;simp only[↓U,avS];intro u m;refine aX O O (aue _ (hZ.ext m.ext) (hQ.ext m.ext) r) ?_;rintro v u j ⟨us,ms,A7,c7,A8,c8,W,c5,i,rfl,s,hi,av⟩;replace m:=m.plus s;clear s;simp only[de,cl] at m;have l:=av.srf hi;have aV:=l.ul;have aR:=(m.o 1 rfl).le;obtain⟨f,aY⟩:∃f,f=min 60 us.length:=⟨_,rfl⟩
 have B:f<=us.length:=by omega
 apply aJ 14 [] m;simp only[↓U,jL];rw[show (if (60:Int)<(us.length:Int) then (60:Int) else (us.length:Int))=(f:Int) by split<;>omega];refine go (C (lY fP bA O O (ai _) (by omega) (by omega)) ?_);apply aJ 6 [0] m;simp only[↓U];refine cC m O O (Cg _ (((m.o 1 O).tris (Ju l.um)).take B) (by omega)) ?_;rintro v u m rfl;apply aJ 2 [0,0] m;simp only[↓U];refine adb m [] [6,11,12,13,14,15,16,42,43,44,45,46,47,48,49,50,51,52,53,54,55,56,57,58,59,60,61,62,63,64,65,66,67,68,69,70,71,72,73,74,75,76,77,78,79,80,81,82,83,84,85,86,87,88,89,90] (λvs=>vs=[]) ?_ ?_
 . intro K1 V
   refine bB O ?_ ?_<;>intro aP
   .have N:cD Z (us.take f)=0:=by omega
    apply aG 4 [0] m;simp only[↓U];refine nX m O O (yH (n:=n0) (k:=50) (by decide) (by decide)) ?_;intro u m;simp only[I];refine aX O O (agu (ts:=us.take f) _ (((m.o 1 O).tris (Ju l.um)).take B) (by omega) (by omega)) ?_;rintro v u j ⟨ab,aE,ae,A9,n9,c9,rfl,aI,ay,s⟩;replace m:=m.plus s;clear s;simp only[de,cl] at m;obtain⟨L,al⟩:∃L,L=(nG (us.take f) (n0%50)).1:=⟨_,rfl⟩
    obtain⟨Ms,am⟩:∃L,L=(nG (us.take f) (n0%50)).2:=⟨_,rfl⟩
    have g:=aqW (want:=n0%50) N (aox l.um);rw[<-al] at m aI g;rw[<-am] at m ay g;obtain⟨ee,ar,aS⟩:=g.ac;have aw:=g.ll;have ax:=g.ml;rw[bz] at aw ax;apply aJ 11 [0] m;simp only[↓U];refine cC m O O (xK (fs:=us.take f) (gs:=L) (ms:=Ms) _ (((m.o 3 O).tris (Ju l.um)).take B) ((m.o 1 O).tris g.li) ((m.o 0 O).lat yM (by decide)) (by omega) (by omega) (by omega) g.mi) ?_;rintro v u m rfl;simp only[I];rw[ar];dsimp only;apply aJ 9 [0] m;simp only[↓U];refine aX O O (Lr _ (((m.o 3 O).tris (Ju l.um)).take B) (by omega)) ?_;rintro v u j ⟨ad,af,aW,aK,rfl,t⟩;replace m:=m.newO j t;subst aK;have ao:=aoy N;rw[bz] at ao;have au:=mE N;have P:=mE g.si.ck;apply aJ 8 [0] m;simp only[↓U];refine bU [16] [6,58,59,60,61,62,63,64,65,66,67,68,69,70,71,72,73,74,75,76,77,78,79,80,81,82,83,84,85,86,87,88] (λn vs wl=>∃(k:Nat),vs=[G (k:Int)]/\Mem w wl [oI 56 6 ad (Y (us.take f)).length af ((Y (us.take f)).flatMap bG),oI 39 9 ab aE ae (L.flatMap aM),oI 55 6 A8 ms.length c8 (ms.flatMap bG),oI 39 9 A7 us.length c7 (us.flatMap aM),oI 39 9 W (vT kind bits zs).length c5 ((vT kind bits zs).flatMap aM),bI g2 [G p.x,G p.y,G p.z,G a.x,G a.y,G a.z,G b.x,G b.y,G b.z,G c.x,G c.y,G c.z,G d.x,G d.y,G d.z] 82,bI g1 [G kind,G bits,.slice J K R,.slice D F Q] 75]/\(k<=(Y (us.take f)).length)/\(n=(Y (us.take f)).length-k)) ?_ ?_
    .exact⟨_,0,O,(m.sel [Z,X9,Z,Z,Z,Z,Z,Z]),bu _,O⟩
    intro n vs wr r u K2 ak
    obtain⟨k,rfl,m,hk,hn⟩:=r;simp only[zu,zF,zG];apply aG 8 [0,0] m;simp only[↓U,xC];refine bB O ?_ ?_<;>intro aQ
    .obtain⟨e,A⟩:∃e,(Y (us.take f))[k]? = H e:=⟨_,ap (by omega)⟩
     obtain⟨aO,rfl⟩:=(m.o 0 rfl).some (by omega);apply aG 4 [0] m;simp only[↓U];refine mh m [Z,Z,Z,Z,Z,Z,Z] [(0,Z),(1,Z),(2,Z),(3,Z),(4,Z),(6,Z),(7,Z),(8,Z),(9,Z),(12,Z),(13,Z),(14,Z),(15,Z),(16,Z),(18,Z),(19,Z),(20,Z),(21,Z),(5,Z),(10,Z),(17,Z),(22,Z),(11,X9),(23,X9),(24,Z)] aD (by kernel_rfl) (bT (λ_ _ _ _ _ h=>h)) (ol:=?_) ?az ?_
     case az=>simp only[zw,zQ,zR];try rfl
     intro u m;refine Dk 13 [] ?_;simp only[↓U,yE,vA,ai,aj,ag,ah,aa];apply I0;omega;refine Dk 9 [0,0,0,0,0,0,0,0] ?_;simp only[↓U,vA,yE,ag,ah,aa,ai,aj];refine⟨_,λu m=>(show lC _ _ _ _ (pt e.1) from ((Sh (m.o 0 O) A).take 3).lies aF aA),_,λu m=>(show lC _ _ _ _ (pt e.2) from (((Sh (m.o 0 O) A).sub 3).take 3).lies aF aA),_,λu m=>(show lC _ _ _ _ (pt e.1) from ((Sh (m.o 0 O) A).take 3).lies aF aA),_,λu m=>(show lC _ _ _ _ (pt e.2) from (((Sh (m.o 0 O) A).sub 3).take 3).lies aF aA),by omega,?_⟩;refine bQ (cC m O O (abU (ts:=us.take f) (p:=e.1) (a0:=e.2) _ (((m.o 3 O).tris (Ju l.um)).take B).lat (by omega) au.1) ?_);rintro v u m rfl;refine E ⟨m,?_⟩;refine bQ ?_;simp only[I];refine cC m O O ((aqX (abU (ts:=L) (p:=e.1) (a0:=e.2) _ ((m.o 1 O).tris g.li).lat (by omega) P.1) (by rw[<-g.si.acc.ends P.1 P.2 (bn A)]))) ?_;rintro v u m rfl;refine E ⟨m,?_⟩;refine bY (Gu O O) (bO (gc ?_));simp only[I];refine bB O ?_ ?_<;>intro aq
     .simp at aq
     apply aG 7 [0] m;simp only[↓U];apply I0;omega;exact ak ((Y (us.take f)).length-(k+1)) _ _ (by omega) (by kernel_rfl) ⟨k+1,O,m,by omega,O⟩
    apply aG 8 [2,0] m;simp only[↓U];apply I0;omega;exact V _ _ (by kernel_rfl) (m.sel [X9,X9,Z,Z,Z,Z,Z]) O
   apply aG 1 [0] m;simp only[↓U];exact V _ _ (by kernel_rfl) m O
 intro vs wr m r u
 obtain rfl:=r;simp only[zu,zF,zG];apply Lc 7 [4,0] m;simp only[↓U,adG,aN,cY,ag,ah,aa];intro g3;apply I0;omega;intro u m;apply Lc 7 [5,0] m;simp only[↓U,adG,aN,cY,ag,ah,aa];intro g4;apply I0;omega;intro u m;apply Lc 7 [6,0] m;simp only[↓U,adG,aN,cY,ag,ah,aa];intro g5;apply I0;omega;intro u m;apply Lc 7 [7,0] m;simp only[↓U,adG,aN,cY,ag,ah,aa];intro g6;apply I0;omega;intro u m;apply Lc 7 [8,0] m;simp only[↓U,adG,aN,cY,ag,ah,aa];intro g7;apply I0;omega;intro u m;apply S 6 [5,4,3] m;simp only[↓U,aN,nU,aa];apply S 4 [5,2,1] m;simp only[↓U,aN,nU,aa];refine go (Ag O O ?_);intro u g8 j t M;replace m:=m.newB j t M;simp only[I];replace m:=m.own 0 O (n:=2) (c:=9) O (X O);simp only[zG] at m;apply aJ 8 [6,5,2] m;simp only[↓U,aN,nU,aa];apply S 4 [5,4,2] m;simp only[↓U,aN,nU,aa];apply S 4 [6,3,4] m;simp only[↓U,aN,nU,aa];apply S 4 [3,2,4] m;simp only[↓U,aN,nU,aa];refine go (Zs O O O O ?_);intro u g9 j t M;replace m:=m.newB j t M;simp only[I];replace m:=m.own 0 O (n:=4) (c:=9) O (X O);simp only[zG] at m;apply aJ 6 [0] m;simp only[↓U];refine cC m rfl rfl (xK (fs:=[(⟨p,a,b⟩:T3),⟨p,c,d⟩]) (gs:=[(⟨p,a,d⟩:T3),⟨a,b,d⟩,⟨p,c,b⟩,⟨c,d,b⟩]) (ms:=[]) _ (Ow.tris (ts:=[(⟨p,a,b⟩:T3),⟨p,c,d⟩]) (m.o 1 rfl) arK) (Ow.tris (ts:=[(⟨p,a,d⟩:T3),⟨a,b,d⟩,⟨p,c,b⟩,⟨c,d,b⟩]) (m.o 0 rfl) arL) (pH.nil _ _) (by decide) (by decide) (by decide) (λmv h=>by cases h)) ?_;rintro v u m rfl;apply aJ 10 [0] m;simp only[↓U];refine cC m rfl rfl (anj (fs:=[(⟨p,a,b⟩:T3),⟨p,c,d⟩]) (gs:=[(⟨p,a,d⟩:T3),⟨a,b,d⟩,⟨p,c,b⟩,⟨c,d,b⟩]) (ms:=[]) _ (Ow.tris (ts:=[(⟨p,a,b⟩:T3),⟨p,c,d⟩]) (m.o 1 rfl) arK) (Ow.tris (ts:=[(⟨p,a,d⟩:T3),⟨a,b,d⟩,⟨p,c,b⟩,⟨c,d,b⟩]) (m.o 0 rfl) arL) (pH.nil _ _) (by decide) (by decide) (by decide) (λmv h=>by cases h) (m.o 1 rfl).le (m.o 0 rfl).le) ?_;rintro v u m rfl;apply aJ 10 [0,0,0] m;simp only[↓U];refine gE O (C (arR O O aqV) ?_);apply aJ 4 [] m;simp only[↓U];exact aU O O ⟨_,O,m.ext,O⟩
end Go.Proofs.YtfekpcimgncioaaGreatDoor
namespace Go.Lith
open Go.RowKit Go.ChangeShapes
variable{v8:Type}{enc:bh×ak->v8}{P:cg}
def Qr(g:laidOutB P=Z){W c:an}(f:eQ W c){j:Nat->Bool} :
 ∀{ts:List bh} {vs:List ak} {ds:List (DataW v8)} {ps:List MemPlace},(ts.all λt=>P.readableRec t&&decide (t<P.types.size))=Z->DataW.TrodAll enc P W 0 (λ_=>Z) Z ts vs ds ps->(∀p∈ps,j p.block=Z)->DataW.TrodAll enc P c 0 j Z ts vs ds ps
 | [],[],[],_,_,h,_=>h
 | [],[],_::_,_,_,h,_=>h.elim
 | [],_::_,_,_,_,h,_=>h.elim
 |_::_,[],_,_,_,h,_=>h.elim
 |_::_,_::_,[],_,_,h,_=>h.elim
 |t::ts,v::vs,d::ds,ps,a,h,i=>by
  obtain⟨p,q,⟨n,h1⟩,h2,e⟩:=h;subst e;simp only[List.all_cons,bt,Y2] at a;have k:=DataW.trod_lt n _ _ _ h1;exact⟨p,q,⟨n,DataW.trod_stays (kids_book g a.1.1) (book_sized a.1.1) (λh=>by cases h) ⟨a.1.2,book_self t⟩ h1 (λx b=>Below.same f (k x b)) (λx b=>i x (by simp[b]))⟩,
   Qr g f (by simpa using a.2) h2 (λx b=>i x (by simp[b])),rfl⟩
def aex{f:Func}{s:ChangeSpec}{apart L N K:Bool}{W c:an}{args:Array ak}{t:bh}{ds gs:List (DataW v8)}{M:List MemPlace}
 (B:laidOutB P=Z) (G:(f.params.toList.all λt=>P.readableRec t&&decide (t<P.types.size))=Z) (o:s.vars=[]) (m:f.resultTypes = #[t]) (n:P.underlying t=H .bool)
 (d:DataW.Whole enc P f.params.toList s.vars apart W args.toList ds gs M) (i:(s.fn v8 (ds++gs)).results=[.lit (.bool Z)]/\(s.fn v8 (ds++gs)).args=ds/\(s.fn v8 (ds++gs)).vars=[]) (e:eQ W c) :
 s.post enc P f apart L N K W args (.bool Z) c:=by
 have E:=d;obtain⟨p,q,z,k,rfl,D,C⟩:=E;rw[o] at k;obtain⟨rfl,rfl⟩:=trodVars_none k;have w:∀a:Nat->Bool,(∀x∈p++[],a x.block=Z)->DataW.TrodAll enc P c 0 a Z f.params.toList args.toList (s.fn v8 (ds++[])).args p:=λa I=>by
  rw[i.2.1];exact Qr B e G z (λx h=>I x (by simp[h]))
 have y:∀a:Nat->Bool,DataW.TrodVars enc P c a s.vars (s.fn v8 (ds++[])).vars []:=λa=>by
  rw[o,i.2.2];exact rfl
 have v:∀(b:Nat)(a:Nat->Bool)(l:Bool),DataW.TrodAll enc P c b a l f.resultTypes.toList ((bj Z).resultList f.resultTypes.size) (s.fn v8 (ds++[])).results []:=λb a l=>by
  rw[m,i.1];exact trodAll_cons_mk (shut_bool n Z) trodAll_mk0
 have F:∀(j:Nat)(t:bh)(r:ak),f.resultTypes[j]? = H t->((bj Z).resultList f.resultTypes.size)[j]? = H r->pi P c .any 0 t r:=ok_one m rfl (okWide_bool_mk n _);have u:∀x∈p++[],x.block<W.heap.size:=d.lt;have J:∀x∈p++[],(λb=>decide (b<W.heap.size)) x.block=Z:=λx h=>by simpa using u x h
 refine⟨ds,[],p++[],[],p,[],d,v _ _ _,w _ J,y _,Below.frame e _,λ_=>?_⟩;refine⟨F,_,_,([]++p)++[],⟨[]++p,[],trodAll_append (w _ (λ_ _=>rfl)) (v _ _ _),y _,O,?_,?_⟩,?_⟩
 . intro b off g
   have h1:MemPlace.cell b off∈p++[]:=by simpa using g
   rw[Below.frozen e (p:=⟨b,off,G0⟩) (u _ h1)];exact D b off h1
 . intro A
   simpa using C A
 intro x g _
 simpa using g
variable{v8:Type}{enc:bh×ak->v8}{P:cg}{w:an}{base:Nat}{spare:Nat->Bool}{held:Bool}
def awI{zs:List Int}(h:zs.length=4):∃a b c d,zs=[a,b,c,d]:=by
 match zs,h with
 | [a,b,c,d],_=>exact⟨a,b,c,d,rfl⟩
def agv{n:Nat}{t e:bh}{s:Nat}{cs:List ak}{x:DataW v8×List MemPlace}(r:P.underlying t=H (.slice e))(b:nY P n e=Z)(hc:P.cellsOf e=4)(h:DataW.trod enc P w base spare held s t cs=H x) :
 ∃(A:Option Addr)(len cap:Nat)(d:List Q4),cs=[.slice A len cap]/\len<=cap/\cap<=maxLen/\pH q4C 4 w A len d/\∀q∈d,IQ q:=by
 obtain⟨A,len,cap,rfl,h1,h2,v,g⟩:=Zh r b hc h;obtain⟨d,j,f⟩:=Eh (p:=λi (q:Q4)=>IQ q/\∃a,A=H a/\jS w (a.add (i*4)) (q4C q)) len (λi b=>by
  obtain⟨a,zs,rfl,_,o,k,c⟩:=g i b;obtain⟨x,y,z,u,rfl⟩:=awI k;exact⟨⟨x,y,z,u⟩,⟨c _ (by simp),c _ (by simp),c _ (by simp),c _ (by simp)⟩,a,O,o⟩)
 refine⟨A,len,cap,d,O,h1,h2,⟨j,λi p l=>(f i p l).2⟩,λq m=>?_⟩;obtain⟨i,b,rfl⟩:=List.getElem_of_mem m;exact (f i _ (ap b)).1
def aey{r:Reach}{J n:Nat}{t tI tH tM tT:bh}{fs:Array Field}{v:ak}{d:DataW v8}{p:List MemPlace}(D:P.underlying t=H (.struct fs))(Y:fs.map (λf=>(f.type,f.offset)) = #[(tI,0),(tI,1),(tH,2),(tM,3)])(Q:P.cellsOf t=4)
 (u:nY P n tI=Z) (A:P.cellsOf tI=1) (T:P.underlying tH=H (.slice tI)) (L:P.cellsOf tH=1) (U:P.underlying tM=H (.slice tT)) (M:P.cellsOf tM=1) (W:nY P n tT=Z) (N:P.cellsOf tT=4)
 (x:pi P w r J t v) (h:DataW.Trod enc P w base spare held t v d p) :
 ∃(kind bits:Int)(e b:Option Addr)(g s c o:Nat)(zs:List Int)(k:List Q4),v=.agg #[G kind,G bits,.slice e g s,.slice b c o] /\
  Iw kind/\Iw bits/\vH w e g zs/\pH q4C 4 w b c k/\∀q∈k,IQ q:=by
 obtain⟨af,ab⟩:=h;unfold pi at x;rw[D] at x;obtain⟨cs,rfl,E,_⟩:=x;obtain⟨xs,m,_,_,hl,ae,hx⟩:=DataW.trod_struct D ab;have field:∀(i:Nat)(ty:bh)(off:Nat),(#[(tI,0),(tI,1),(tH,2),(tM,3)]:Array (bh×Nat))[i]? = H (ty,off)->∃y,DataW.trod enc P w base spare held m ty ((cs.toList.drop off).take (P.cellsOf ty))=H y:=λi ty off a=>by
  rw[<-Y,Array.getElem?_map] at a;cases j:fs[i]? with
  |none=>rw[j] at a;cases a
  |some f=>
   rw[j] at a;simp only[fw,gu,fy] at a;obtain⟨rfl,rfl⟩:=a;have ad:i<fs.size:=(ec.1 j).1;exact⟨xs[i]'(by omega),(hx i f j).trans (ap (by omega))⟩
 rw[Q] at E;obtain⟨l⟩:=cs
 match l,E with
 | [z,c1,c2,K],_=>
  obtain⟨y0,B⟩:=field 0 tI 0 rfl;obtain⟨y1,h1⟩:=field 1 tI 1 rfl;obtain⟨y2,h2⟩:=field 2 tH 2 rfl;obtain⟨y3,C⟩:=field 3 tM 3 rfl;simp only[A,L,M] at B h1 h2 C;have R:=(oP n tI m [z] _ u B).2;have S:=(oP n tI m [c1] _ u h1).2;obtain⟨kind,rfl,k0⟩:=R z (by simp);obtain⟨bits,rfl,k1⟩:=S c1 (by simp);obtain⟨e,g,s,zs,F,_,_,_,X⟩:=aeT (n:=n) (cs:=[c2]) T u A h2;obtain⟨b,c,o,k,I,_,_,V,aa⟩:=agv (n:=n) (cs:=[K]) U W N C;simp only[List.cons.injEq,Y8] at F I;subst F;subst I;exact⟨kind,bits,e,b,g,s,c,o,zs,k,O,⟨k0⟩,⟨k1⟩,X,V,aa⟩
variable{v8:Type}{enc:bh×ak->v8}{P:cg}{w:an}{base:Nat}{spare:Nat->Bool}{held:Bool}
def aqY{r:Reach}{g n:Nat}{t:bh}{v:ak}{d:DataW v8}{p:List MemPlace}(i:fM P t Z)(j:nY P n t=Z)(hc:P.cellsOf t=15)(k:pi P w r g t v)(h:DataW.Trod enc P w base spare held t v d p) :
 ∃a b c e f:P3,I3 a/\I3 b/\I3 c/\I3 e/\I3 f/\v=.agg #[G a.x,G a.y,G a.z,G b.x,G b.y,G b.z,G c.x,G c.y,G c.z,G e.x,G e.y,G e.z,G f.x,G f.y,G f.z]:=by
 obtain⟨zs,h1,rfl,h2⟩:=aim i j hc k h;rcases zs with _|⟨l,_|⟨m,_|⟨o,_|⟨q,_|⟨s,_|⟨u,_|⟨A,_|⟨B,_|⟨C,_|⟨D,_|⟨E,_|⟨F,_|⟨H,_|⟨I,_|⟨J,_|⟨K,zs⟩⟩⟩⟩⟩⟩⟩⟩⟩⟩⟩⟩⟩⟩⟩⟩<;>simp only[be,cd] at h1<;>try omega
 exact⟨⟨l,m,o⟩,⟨q,s,u⟩,⟨A,B,C⟩,⟨D,E,F⟩,⟨H,I,J⟩,⟨h2 _ (by simp),h2 _ (by simp),h2 _ (by simp)⟩,⟨h2 _ (by simp),h2 _ (by simp),h2 _ (by simp)⟩,⟨h2 _ (by simp),h2 _ (by simp),h2 _ (by simp)⟩,⟨h2 _ (by simp),h2 _ (by simp),h2 _ (by simp)⟩,⟨h2 _ (by simp),h2 _ (by simp),h2 _ (by simp)⟩,O⟩
end Go.Lith
