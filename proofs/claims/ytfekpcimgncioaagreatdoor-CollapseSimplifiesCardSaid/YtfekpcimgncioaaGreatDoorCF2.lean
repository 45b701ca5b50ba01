/-
 Texts of one claim, laid together: Wf, Wg, Wh, Wi, Ca, Near, Cb, Cc, Wk, Wl, Wm, Wn, Cd, Ce, Cf, Cg, Qd, Facts, Facts2, Cmp, Grow2, SortPt, Nc, Vg, Vs, Cj, Vj, Vt, Vu, Fa3, Maps1, W1, Rchk.
-/
import Derived.Test.YtfekpcimgncioaaGreatDoorProg
import Derived.Shelf.SlLaysF0
import Derived.Test.YtfekpcimgncioaaGreatDoorCF1
open Nat renaming reduceAdd->aa,reduceMul->ag,zero_add->ai,le_refl->ar,zero_le->bn,lt_succ_self->fx,min_eq_left->ij,le_of_not_lt->i_,strongRecOn->rh
open Int renaming reduceToNat->ad,toNat_natCast->ah,reduceAdd->an,neg_eq_zero->ll,mul_eq_zero->om,le_of_lt->o_,zero_mul->q_,mul_comm->ra,neg_mul_neg->ri,zero_sub->ro
open Go renaming Value->aj,World->ak,wp_region_lit->av,wpList->az,TypeId->ba,Program->bt,Operand->b_,MapEntry->cu,wpQuiet->cw,Deferred->ej,wp_ret->jv,wp_block->ki,wp_skip->km,wp_loop_rounds->qj
open List renaming getElem?_eq_getElem->am,getElem?_eq_some_iff->ao,mem_cons->ap,length_append->aq,take_of_length_le->au,flatMap_append->aw,length_cons->ay,mem_singleton->a_,mem_of_getElem?->bf,map_cons->bi,length_take->bj,length_nil->bm,mem_cons_of_mem->bp,mem_cons_self->br,pairwise_cons->bv,flatMap_cons->bx,nil_append->bz,not_mem_nil->cd,length_map->cj,append_assoc->cn,mem_filter->ct,mem_map->dj,append_nil->fb,mem_flatMap->ff,filter_cons->fk,length_drop->gg,any_eq_false->gi,set_cons_succ->gn,drop_of_length_le->gq,getD_eq_getElem?_getD->gr,getElem?_cons_succ->iq,pairwise_map->jf,toArray->jo,range->ke,mem_range->kf,getElem?_toArray->lj,flatMap_nil->mc,filter_nil->mx,take_add_one->nh,perm_cons->pa,getElem?_zipWith->ph,perm_singleton->qd,set_set->rd
open Bool renaming and_eq_true->bg,false_ne_true->fg,false_and->ju,false_eq_true->oq,true_or->qg,or_comm->rb
open Go.Oper renaming mk->bu
open Go.Value renaming bool->bw
open Go.Exit renaming inBlock->dq
open Option renaming getD_some->dx,map_some->gh,bind_some->ja,bind_eq_some_iff->mf
open Prod.mk renaming injEq->gl
open Array renaming getElem?_toList->gm,mapM_eq_mapM_toList->gz
open Option.some renaming injEq->ik
open Prod renaming ext->pq
set_option maxHeartbeats 8000000
set_option linter.unusedSimpArgs false
set_option linter.defProp false
set_option linter.unusedVariables false
set_option linter.unusedSectionVars false
open And renaming intro->I0
open Bool renaming true->Z,false->X3
open Option renaming some->X4,none->X5
namespace Go.Lith
open Go.RowKit
variable{q u x a y:H}{n j i k:Nat}{f:H->H}{L:List Int}
def H.lt_asymm{p:H}(h:p.Lt q):¬q.Lt p:=λk=>H.lt_irrefl _ (H.lt_trans h k)
def Sh{t:T3}(h:t.nd=Z):dB ⟨t.b,t.c,t.a⟩=dB t:=by
 unfold T3.nd at h;simp only[bg,R] at h;obtain⟨⟨h1,h2⟩,d⟩:=h;unfold dB;simp only;rcases H.lt_tri t.a t.b with ab | ab | ab
 . rcases H.lt_tri t.b t.c with bc | bc | bc
   . have ac:=H.lt_trans ab bc
     simp[ab,bc,ac,H.lt_asymm ab,H.lt_asymm bc,H.lt_asymm ac]
   .exact Z8 bc h2
   rcases H.lt_tri t.a t.c with ac | ac | ac
   .simp[ab,bc,ac,H.lt_asymm ab,H.lt_asymm bc,H.lt_asymm ac]
   .exact Z8 ac.symm d
   simp[ab,bc,ac,H.lt_asymm ab,H.lt_asymm bc,H.lt_asymm ac]
 .exact Z8 ab h1
 rcases H.lt_tri t.b t.c with bc | bc | bc
 . rcases H.lt_tri t.a t.c with ac | ac | ac
   .simp[ab,bc,ac,H.lt_asymm ab,H.lt_asymm bc,H.lt_asymm ac]
   .exact Z8 ac.symm d
   simp[ab,bc,ac,H.lt_asymm ab,H.lt_asymm bc,H.lt_asymm ac]
 .exact Z8 bc h2
 have ca:=H.lt_trans bc ab
 simp[ab,bc,ca,H.lt_asymm ab,H.lt_asymm bc,H.lt_asymm ca]
def Py{t:T3}:(⟨t.b,t.c,t.a⟩:T3).nd=t.nd:=by
 unfold T3.nd;simp only;cases decide (t.a≠t.b) <;> cases decide (t.b≠t.c) <;> cases decide (t.c≠t.a) <;> rfl
def acb(t u:T3):Prop:=u=t\/u=⟨t.b,t.c,t.a⟩\/u=⟨t.c,t.a,t.b⟩
def Si{t u:T3}(h:acb t u)(d:t.nd=Z):dB u=dB t:=by
 rcases h with rfl | rfl | rfl
 .rfl
 .exact Sh d
 have h2:=Sh (t:=⟨t.b,t.c,t.a⟩) (by rw[Py];exact d)
 exact h2.trans (Sh d)
def afW{t u:T3}(h:acb t u):u.nd=t.nd:=by
 rcases h with rfl | rfl | rfl
 .rfl
 .exact Py
 exact (Py (t:=⟨t.b,t.c,t.a⟩)).trans Py
/-! ### Edges of a list in which triangles are changed -/
def Dl(ts:List T3)(e:E3):Prop:=e∈aX ts/\(e.2,e.1)∉aX ts
def Dn{ts:List T3}{e:E3}:e∈bB ts↔Dl ts e:=Rz
def Do{ts us:List T3}(h:∀e,Dl ts e↔Dl us e):bB ts=bB us :=
 Oo (rT ts) (rT us) λe=>Dn.trans ((h e).trans Dn.symm)
section
variable {p:H} {X:E3->Prop} {old new R fine fine':List T3}
end
/-! ### The two kinds of division -/
def ajt{t u:T3}(h:acb t u)(x:H):u.has x=t.has x:=by
 unfold T3.has;rcases h with rfl | rfl | rfl
 .rfl
 .simp only;cases decide (t.a=x) <;> cases decide (t.b=x) <;> cases decide (t.c=x) <;> rfl
 simp only;cases decide (t.a=x) <;> cases decide (t.b=x) <;> cases decide (t.c=x) <;> rfl
def aqS{t:T3}{p:H}(h:t.has p=X3):p≠t.a/\p≠t.b/\p≠t.c:=by
 refine⟨λe=>?_,λe=>?_,λe=>?_⟩ <;> (rw[eF.2 (by rw[e];simp)] at h;cases h)
def aju(t:T3):List (E3 × H):=[((t.a,t.b),t.c),((t.b,t.c),t.a),((t.c,t.a),t.b)]
def eZ{ts:List T3}{x:E3 × H}:x∈kL ts↔∃t∈ts,x∈aju t:=ff
def aeg{ts us:List T3}(h:ts.Perm us){x:E3 × H}:x∈kL ts↔x∈kL us:=by
 rw[eZ,eZ];exact Y5 λt=>and_congr h.mem_iff Iff.rfl
/-! ### Images -/
section
variable {l fine fine' R:List T3} {ms:List Mv} {B B':Int} {p:H}
end
def Dp{ts:List T3}  : x∈cF ts↔∃t∈ts,x=t.cor 0\/x=t.cor 1\/x=t.cor 2:=by
 unfold cF;rw[ff];exact Y5 λt=>and_congr Iff.rfl (by simp[T3.cor])
def dU(a b c:H):H:=(b.sub a).cross (c.sub a)
def mR(a b c d:H):Int:=(dU a b c).dot (d.sub a)
def dV(v:H)(k:Nat):Int:=if k=0 then v.x else if k=1 then v.y else v.z
def iJ(v:H):Nat:=if v.x≠0 then 0 else if v.y≠0 then 1 else if v.z≠0 then 2 else 3
/-! ### Points in a plane -/
def afX{p1 p2 p3 q1 q2 q3 N:Int}(m:0<N)(hp:p1+p2+p3=N)(hq:q1+q2+q3=N)(h1:0<=p1)(h2:0<=p2)(e:0<=p3)(l:¬(0<=q1/\0<=q2/\0<=q3)) :
 (q3<0/\(p2*q3-p3*q2)*(p3*q1-p1*q3)<=0)\/(q1<0/\(p3*q1-p1*q3)*(p1*q2-p2*q1)<=0)\/(q2<0/\(p1*q2-p2*q1)*(p2*q3-p3*q2)<=0):=by
 have nn:∀{a b:Int},0<=a->0<=b->0<=a*b:=λf g=>Int.mul_nonneg f g;have i:∀{a b:Int},0<=a->b<=0->a*b<=0:=λf g=>Int.mul_nonpos_of_nonneg_of_nonpos f g;have j:∀{a b:Int},a<=0->0<=b->a*b<=0:=λf g=>Int.mul_nonpos_of_nonpos_of_nonneg f g
 -- one that is negative,of two others one is not
 have key:∀{p1 p2 p3 q1 q2 q3:Int},0<=p1->0<=p2->0<=p3->q3<0->0<=q1->0<=q2->(p2*q3-p3*q2)*(p3*q1-p1*q3)<=0:=λ{p1 p2 p3 q1 q2 q3} h1 h2 e k3 k1 k2=>by
  have a:=i h2 (o_ k3);have b:=nn e k2;have c:=nn e k1;have d:=i h1 (o_ k3);exact j (by omega) (by omega)
 have k:∀{p1 p2 p3 q1 q2 q3:Int},0<=p1->0<=p2->0<=p3->q3<0->q2<0->0<=q1->(p2*q3-p3*q2)*(p3*q1-p1*q3)<=0\/(p1*q2-p2*q1)*(p2*q3-p3*q2)<=0:=λ{p1 p2 p3 q1 q2 q3} h1 h2 e k3 k2 k1=>by
  have a:=i h1 (o_ k3);have b:=nn e k1;have c:=i h1 (o_ k2);have d:=nn h2 k1;rcases Int.le_total (p2*q3-p3*q2) 0 with h | h
  .exact .inl (j h (by omega))
  exact .inr (j (by omega) h)
 rcases (show q3<0\/0<=q3 by omega) with k3 | k3
 . rcases (show q2<0\/0<=q2 by omega) with k2 | k2
   . rcases (show q1<0\/0<=q1 by omega) with k1 | k1
     .omega
     rcases k h1 h2 e k3 k2 k1 with h | h
     .exact .inl ⟨k3,h⟩
     exact .inr (.inr ⟨k2,h⟩)
   rcases (show q1<0\/0<=q1 by omega) with k1 | k1
   . rcases k (p1:=p2) (p2:=p3) (p3:=p1) (q1:=q2) (q2:=q3) (q3:=q1) h2 e h1 k1 k3 k2 with h | h
     .exact .inr (.inl ⟨k1,h⟩)
     exact .inl ⟨k3,h⟩
   exact .inl ⟨k3,key h1 h2 e k3 k1 k2⟩
 rcases (show q2<0\/0<=q2 by omega) with k2 | k2
 . rcases (show q1<0\/0<=q1 by omega) with k1 | k1
   . rcases k (p1:=p3) (p2:=p1) (p3:=p2) (q1:=q3) (q2:=q1) (q3:=q2) e h1 h2 k2 k1 k3 with h | h
     .exact .inr (.inr ⟨k2,h⟩)
     exact .inr (.inl ⟨k1,h⟩)
   exact .inr (.inr ⟨k2,key (p1:=p3) (p2:=p1) (p3:=p2) (q1:=q3) (q2:=q1) (q3:=q2) e h1 h2 k2 k3 k1⟩)
 rcases (show q1<0\/0<=q1 by omega) with k1 | k1
 .exact .inr (.inl ⟨k1,key (p1:=p2) (p2:=p3) (p3:=p1) (q1:=q2) (q2:=q3) (q3:=q1) h2 e h1 k1 k2 k3⟩)
 exact Z8 ⟨k1,k2,k3⟩ l
theorem Xs(a b c x:H)(k:Nat):dV (dU b c x) k+dV (dU c a x) k+dV (dU a b x) k=dV (dU a b c) k:=by
 unfold dV dU H.cross H.sub;split
 .simp only;grind
 split
 .simp only;grind
 simp only;grind
theorem aqT(a b c p q:H)(k:Nat):dV (dU p q a) k*dV (dU a b c) k=dV (dU c a p) k*dV (dU a b q) k-dV (dU a b p) k*dV (dU c a q) k:=by
 unfold dV dU H.cross H.sub;split
 .simp only;grind
 split
 .simp only;grind
 simp only;grind
def aeh{v:H}(h:iJ v<3):dV v (iJ v)≠0:=by
 unfold iJ at h ⊢;split
 .assumption
 split
 .assumption
 split
 .assumption
 rename_i h1 h2 a;rw[X h1,X h2,X a] at h;omega
def anF{v w:H}(j:iJ v<3)(f:dV w (iJ v)≠0)(h:v.cross w=⟨0,0,0⟩):iJ w=iJ v:=by
 have h1:=C H.x h;have h2:=C H.y h;have g:=C H.z h;simp only[H.cross] at h1 h2 g;have l:=aeh j;have z:∀{a b c d:Int},a*b-c*d=0->a=0->c≠0->d=0:=λ{a b c d} e i hc=>by
  subst i;rw[q_,ro,ll] at e;exact (om.1 e).resolve_left hc
 by_cases x0:v.x=0
 . by_cases y0:v.y=0
   . by_cases z0:v.z=0
     . have:iJ v=3:=by unfold iJ;rw[X (by omega),X (by omega),X (by omega)]
       omega
     have e:iJ v=2:=by unfold iJ;rw[X (by omega),X (by omega),J z0]
     rw[e] at f ⊢;have k:w.x=0:=(om.1 (show v.z*w.x=0 by rw[x0,q_,Int.sub_zero] at h2;exact h2)).resolve_left z0;have m:w.y=0:=(om.1 (show v.z*w.y=0 by rw[y0,q_,ro,ll] at h1;exact h1)).resolve_left z0;unfold iJ;rw[X (by omega),X (by omega)];exact J f
   have e:iJ v=1:=by unfold iJ;rw[X (by omega),J y0]
   rw[e] at f ⊢;have k:w.x=0:=(om.1 (show v.y*w.x=0 by rw[x0,q_,ro,ll] at g;exact g)).resolve_left y0;unfold iJ;rw[X (by omega)];exact J f
 have e:iJ v=0:=by unfold iJ;rw[J x0]
 rw[e] at f ⊢;unfold iJ;exact J f
theorem aud{n v:H}(h:n.dot u=0)(k:n.dot v=0):n.cross (u.cross v)=⟨0,0,0⟩:=by
 simp only[H.dot] at h k;refine H.eq ?_ ?_ ?_ <;> (simp only[H.cross];grind)
theorem avC{n v:H}(a:dV n j≠0)(h:n.dot u=0)(k:n.dot v=0)(l:n.dot x=0):(u.cross v).dot x=0:=by
 have p:=aud h k;have p1:=C H.x p;have p2:=C H.y p;have p3:=C H.z p;generalize u.cross v=w at p1 p2 p3 ⊢;simp only[H.cross] at p1 p2 p3;simp only[H.dot] at l ⊢;have key:dV n j*(w.x*x.x+w.y*x.y+w.z*x.z)=0:=by
  unfold dV;split
  .grind
  split
  .grind
  grind
 exact (om.1 key).resolve_left a
def Z3(u:H):Prop:=u.x=0/\u.y=0/\u.z=0
instance (u:H):Decidable (Z3 u):=inferInstanceAs (Decidable (_/\_/\_))
def mU(p q:H):H:=if q.Lt p then q else p
def oC(p q:H):H:=if q.Lt p then p else q
def ajv(a b c:H):Bool:=decide (iJ (dU a b c)=3)
def aqU(p q r s:H):Bool:=(if mU p q=oC p q then ajv (mU r s) (oC r s) (mU p q) else ajv (mU p q) (oC p q) (mU r s)) && !decide ((oC p q).Lt (mU r s)) && !decide ((oC r s).Lt (mU p q))
def vN(p q r s:H):H:=(q.sub p).cross (s.sub r)
def eU(p q r s:H):Bool :=
 if iJ (vN p q r s)<3 then
  decide (mR p q r s=0)&&decide (dV (dU p q r) (iJ (vN p q r s))*dV (dU p q s) (iJ (vN p q r s))<=0)&&decide (dV (dU r s p) (iJ (vN p q r s))*dV (dU r s q) (iJ (vN p q r s))<=0)
 else aqU p q r s
def lt_asymm{p:H}(h:p.Lt q):¬q.Lt p:=λk=>H.lt_irrefl p (H.lt_trans h k)
def lt_tri(p q:H):p.Lt q\/p=q\/q.Lt p:=by
 by_cases h:p=q
 .exact .inr (.inl h)
 have:¬(p.x=q.x/\p.y=q.y/\p.z=q.z):=λk=>h (H.eq k.1 k.2.1 k.2.2)
 unfold H.Lt;omega
def ajw(p q:H):mU p q=mU q p:=by
 unfold mU;rcases lt_tri p q with h | h | h
 .rw[X (lt_asymm h),J h]
 .rw[h]
 rw[J h,X (lt_asymm h)]
def ajx(p q:H):oC p q=oC q p:=by
 unfold oC;rcases lt_tri p q with h | h | h
 .rw[X (lt_asymm h),J h]
 .rw[h]
 rw[J h,X (lt_asymm h)]
def Md(v:H):H:=⟨-v.x,-v.y,-v.z⟩
def anG(v:H):iJ (Md v)=iJ v:=by unfold iJ Md;simp only[ne_eq,ll]
def acd(v:H)(k:Nat):dV (Md v) k = -dV v k:=by
 by_cases a:k=0
 .simp only[dV,Md,J a]
 by_cases h1:k=1
 .simp only[dV,Md,X a,J h1]
 simp only[dV,Md,X a,X h1]
theorem Js(p q r:H):dU q p r=Md (dU p q r):=by
 refine H.eq ?_ ?_ ?_ <;> (simp only[dU,Md,H.sub,H.cross];grind)
theorem ajy(p q r s:H):vN q p r s=Md (vN p q r s):=by
 refine H.eq ?_ ?_ ?_ <;> (simp only[vN,Md,H.sub,H.cross];grind)
theorem Jt(p q r s:H):mR q p r s = -mR p q r s:=by
 simp only[mR,dU,H.sub,H.cross,H.dot];grind
def vO(p q r s:H):eU q p r s=eU p q r s:=by
 unfold eU;rw[ajy,anG,Jt,Js,Js p q s,acd,acd,ri,ra (dV (dU r s q) _)];simp only[ll];unfold aqU;rw[ajw q p,ajx q p]
/-! ### In the plane of a triangle -/
def wth(a b c x:H)(k:Nat):Prop:=(0<=dV (dU a b x) k/\0<=dV (dU b c x) k/\0<=dV (dU c a x) k)\/(dV (dU a b x) k<=0/\dV (dU b c x) k<=0/\dV (dU c a x) k<=0)
instance (a b c x:H)(k:Nat):Decidable (wth a b c x k):=by unfold wth;infer_instance
def aej{b c:H}:(dU a b c).dot (x.sub a)=mR a b c x:=rfl
theorem ajz{a b c p q:H}(d:iJ (dU a b c)<3)(hp:mR a b c p=0)(hq:mR a b c q=0){u v:H}(f:(dU a b c).dot (u.sub a)=0)(g:(dU a b c).dot (v.sub a)=0)
 (h1:dV (dU u v p) (iJ (dU a b c))≠dV (dU u v q) (iJ (dU a b c))) (h2:dV (dU u v p) (iJ (dU a b c))*dV (dU u v q) (iJ (dU a b c))<=0)
 (j:dV (dU p q u) (iJ (dU a b c))*dV (dU p q v) (iJ (dU a b c))<=0):eU p q u v=Z:=by
 have l:=aeh d;have e:∀k,dV (vN p q u v) k=dV (dU u v p) k-dV (dU u v q) k:=λk=>by
  unfold dV vN dU H.cross H.sub;split
  .simp only;grind
  split
  .simp only;grind
  simp only;grind
 have h:(dU a b c).dot (q.sub p)=0:=by
  rw[<-aej] at hp hq;simp only[H.dot,H.sub] at hp hq ⊢
  grind
 have o:(dU a b c).dot (v.sub u)=0:=by
  simp only[H.dot,H.sub] at f g ⊢
  grind
 have n:(dU a b c).dot (u.sub p)=0:=by
  rw[<-aej] at hp;simp only[H.dot,H.sub] at hp f ⊢
  grind
 have r:(dU a b c).dot (v.sub p)=0:=by
  rw[<-aej] at hp;simp only[H.dot,H.sub] at hp g ⊢
  grind
 have w0:dV (vN p q u v) (iJ (dU a b c))≠0:=by rw[e];omega
 have i:=anF d w0 (aud h o);have m:mR p q u v=0:=avC l h n r;unfold eU;rw[i,J d,m,Y0 j,Y0 h2];rfl
theorem Xt{a b c p q:H}(B:iJ (dU a b c)<3)(hp:mR a b c p=0)(hq:mR a b c q=0)(wp:wth a b c p (iJ (dU a b c)))(w:¬wth a b c q (iJ (dU a b c))) :
 eU p q a b=Z\/eU p q b c=Z\/eU p q c a=Z:=by
 have F:=aeh B;have G:=Xs a b c p (iJ (dU a b c));have I:=Xs a b c q (iJ (dU a b c));have e:(dU a b c).dot (a.sub a)=0:=by simp only[H.dot,H.sub];grind
 have f:(dU a b c).dot (b.sub a)=0:=by simp only[dU,H.cross,H.dot,H.sub];grind
 have i:(dU a b c).dot (c.sub a)=0:=by simp only[dU,H.cross,H.dot,H.sub];grind
 have j:=aqT a b c p q (iJ (dU a b c));have l:dV (dU p q b) (iJ (dU a b c))*dV (dU a b c) (iJ (dU a b c))=dV (dU a b p) (iJ (dU a b c))*dV (dU b c q) (iJ (dU a b c))-dV (dU b c p) (iJ (dU a b c))*dV (dU a b q) (iJ (dU a b c)):=by
  generalize iJ (dU a b c)=k;unfold dV dU H.cross H.sub;split
  .simp only;grind
  split
  .simp only;grind
  simp only;grind
 have m:dV (dU p q c) (iJ (dU a b c))*dV (dU a b c) (iJ (dU a b c))=dV (dU b c p) (iJ (dU a b c))*dV (dU c a q) (iJ (dU a b c))-dV (dU c a p) (iJ (dU a b c))*dV (dU b c q) (iJ (dU a b c)):=by
  generalize iJ (dU a b c)=k;unfold dV dU H.cross H.sub;split
  .simp only;grind
  split
  .simp only;grind
  simp only;grind
 have hit:∀{u v:H},(dU a b c).dot (u.sub a)=0->(dU a b c).dot (v.sub a)=0->dV (dU u v p) (iJ (dU a b c))≠dV (dU u v q) (iJ (dU a b c))->dV (dU u v p) (iJ (dU a b c))*dV (dU u v q) (iJ (dU a b c))<=0->dV (dU p q u) (iJ (dU a b c))*dV (dU p q v) (iJ (dU a b c))<=0->eU p q u v=Z:=λ{u v} D E=>ajz (u:=u) (v:=v) B hp hq D E;unfold wth at wp w;generalize K:dV (dU a b c) (iJ (dU a b c))=N at *
 have d:∀{x y X Y:Int},x*N=X->y*N=Y->X*Y<=0->x*y<=0:=λ{x y X Y} h1 h2 h=>by
  have J:x*y*(N*N)<=0:=by rw[show x*y*(N*N)=(x*N)*(y*N) by grind,h1,h2];exact h
  have C:0<N*N:=by
   rcases Int.lt_or_gt_of_ne F with h | h
   .exact Int.mul_pos_of_neg_of_neg h h
   exact Int.mul_pos h h
  refine Int.le_of_not_gt λk=>?_;have:=Int.mul_pos k C;omega
 have t:∀{x y:Int},0<=x->y<0->x*y<=0:=λh k=>Int.mul_nonpos_of_nonneg_of_nonpos h (o_ k);have A:∀{x y:Int},x<=0->0<y->x*y<=0:=λh k=>Int.mul_nonpos_of_nonpos_of_nonneg h (o_ k);rcases wp with ⟨s,o,r⟩ | ⟨s,o,r⟩
 . have z:0<N:=by omega
   rcases afX z G I o r s (λh=>w (.inl ⟨h.2.2,h.1,h.2.1⟩)) with ⟨n,h⟩ | ⟨n,h⟩ | ⟨n,h⟩
   .exact .inl (hit e f (by omega) (t s n) (d j l h))
   .exact .inr (.inl (hit f i (by omega) (t o n) (d l m h)))
   exact .inr (.inr (hit i e (by omega) (t r n) (d m j h)))
 have z:0 < -N:=by omega
 have g:=afX (p1:=-dV (dU b c p) (iJ (dU a b c))) (p2:=-dV (dU c a p) (iJ (dU a b c))) (p3:=-dV (dU a b p) (iJ (dU a b c))) (q1:=-dV (dU b c q) (iJ (dU a b c))) (q2:=-dV (dU c a q) (iJ (dU a b c))) (q3:=-dV (dU a b q) (iJ (dU a b c))) z (by omega) (by omega) (by omega) (by omega) (by omega) (λh=>w (.inr ⟨by omega,by omega,by omega⟩));simp only[ri] at g;rcases g with ⟨n,h⟩ | ⟨n,h⟩ | ⟨n,h⟩
 .exact .inl (hit e f (by omega) (A s (by omega)) (d j l h))
 .exact .inr (.inl (hit f i (by omega) (A o (by omega)) (d l m h)))
 exact .inr (.inr (hit i e (by omega) (A r (by omega)) (d m j h)))
def Sj(x y z:Int):Bool:=(decide (0<=x)&&decide (0<=y)&&decide (0<=z))||(decide (x<=0)&&decide (y<=0)&&decide (z<=0))
def dN(p q:H)(t:T3):Bool :=
 if iJ (dU t.a t.b t.c)<3 then
  if 0<mR t.a t.b t.c p*mR t.a t.b t.c q then X3
  else if mR t.a t.b t.c p=0/\mR t.a t.b t.c q=0 then eU p q t.a t.b||eU p q t.b t.c||eU p q t.c t.a||decide (wth t.a t.b t.c p (iJ (dU t.a t.b t.c)))
  else Sj (mR p q t.a t.b) (mR p q t.b t.c) (mR p q t.c t.a)
 else eU p q (mU (mU t.a t.b) t.c) (oC (oC t.a t.b) t.c)
def anH(x y z:Int):Sj (-x) (-y) (-z)=Sj x y z:=by
 unfold Sj;have e:∀n:Int,decide (0 <= -n)=decide (n<=0):=λn=>decide_eq_decide.2 (by omega);have f:∀n:Int,decide (-n<=0)=decide (0<=n):=λn=>decide_eq_decide.2 (by omega);rw[e,e,e,f,f,f,rb]
def Sk(p q:H)(t:T3):dN q p t=dN p q t:=by
 unfold dN;by_cases e:iJ (dU t.a t.b t.c)<3
 . rw[J e,J e,ra (mR t.a t.b t.c q)]
   by_cases f:0<mR t.a t.b t.c p*mR t.a t.b t.c q
   .rw[J f,J f]
   rw[X f,X f]
   by_cases hc:mR t.a t.b t.c p=0/\mR t.a t.b t.c q=0
   . rw[J hc,J hc.symm,vO,vO p q,vO p q]
     by_cases d:(eU p q t.a t.b||eU p q t.b t.c||eU p q t.c t.a)=Z
     .rw[d,qg,qg]
     have key:wth t.a t.b t.c p (iJ (dU t.a t.b t.c))↔wth t.a t.b t.c q (iJ (dU t.a t.b t.c)):=by
      simp only[Bool.or_eq_true,not_or] at d;constructor
      . intro h
        refine Decidable.byContradiction λk=>?_;rcases Xt e hc.1 hc.2 h k with h | h | h
        .exact d.1.1 h
        .exact d.1.2 h
        exact d.2 h
      intro h
      refine Decidable.byContradiction λk=>?_;rcases Xt e hc.2 hc.1 h k with h | h | h <;> rw[vO] at h
      .exact d.1.1 h
      .exact d.1.2 h
      exact d.2 h
     rw[decide_eq_decide.2 key]
   rw[X hc,X (λk=>hc k.symm),Jt,Jt p q t.b,Jt p q t.c,anH]
 rw[X e,X e,vO]
theorem Sl(a b c:H):dU b c a=dU a b c:=by
 refine H.eq ?_ ?_ ?_ <;> (simp only[dU,H.sub,H.cross];grind)
theorem anI(a b c x:H):mR b c a x=mR a b c x:=by
 unfold mR;rw[Sl];simp only[dU,H.sub,H.cross,H.dot];grind
def ajA(a b c:H):mU (mU b c) a=mU (mU a b) c:=by
 unfold mU;have t1:=lt_tri a b;have t2:=lt_tri b c;have t3:=lt_tri a c;by_cases h1:c.Lt b
 . by_cases h2:b.Lt a
   .rw[J h1,J h2,J h1,X (lt_asymm (H.lt_trans h1 h2))]
   rw[J h1,X h2]
   by_cases e:c.Lt a
   .rw[J e,X (lt_asymm e)]
   rw[X e]
   by_cases d:a.Lt c
   .rw[J d]
   rw[X d]
   rcases t3 with h | h | h
   .exact Z8 h d
   .exact h.symm
   exact Z8 h e
 rw[X h1]
 by_cases h2:b.Lt a
 .rw[J h2,X h1,X (lt_asymm h2)]
 rw[X h2]
 have e:¬c.Lt a:=λk=>by
  rcases t1 with h | h | h
  .exact h1 (H.lt_trans k h)
  .exact h1 (h▸k)
  exact h2 h
 rw[X e];by_cases d:a.Lt b
 .rw[J d]
 rw[X d]
 rcases t1 with h | h | h
 .exact Z8 h d
 .exact h.symm
 exact Z8 h h2
def ajB(a b c:H):oC (oC b c) a=oC (oC a b) c:=by
 unfold oC;have t1:=lt_tri a b;have t3:=lt_tri a c;by_cases h1:c.Lt b
 . rw[J h1]
   by_cases h2:b.Lt a
   .rw[X (lt_asymm h2),J h2,J (H.lt_trans h1 h2)]
   rw[X h2,J h1]
   by_cases d:a.Lt b
   .rw[J d]
   rw[X d]
   rcases t1 with h | h | h
   .exact Z8 h d
   .exact h
   exact Z8 h h2
 rw[X h1]
 by_cases h2:b.Lt a
 . rw[J h2]
   by_cases d:c.Lt a
   .rw[J d,X (lt_asymm d)]
   rw[X d]
   by_cases e:a.Lt c
   .rw[J e]
   rw[X e]
   rcases t3 with h | h | h
   .exact Z8 h e
   .exact h
   exact Z8 h d
 rw[X h2,X h1]
 by_cases e:a.Lt c
 .rw[J e]
 rw[X e]
 rcases t3 with h | h | h
 .exact Z8 h e
 .exact h
 exact Z8 h (λk=>by
  rcases t1 with h | h | h
  .exact h1 (H.lt_trans k h)
  .exact h1 (h▸k)
  exact h2 h)
def ajC(x y z:Int):Sj y z x=Sj x y z:=by
 unfold Sj;cases decide (0<=x) <;> cases decide (0<=y) <;> cases decide (0<=z) <;> cases decide (x<=0) <;> cases decide (y<=0) <;> cases decide (z<=0) <;> rfl
def aek(p q a b c:H):dN p q ⟨b,c,a⟩=dN p q ⟨a,b,c⟩:=by
 unfold dN;simp only[Sl,anI,ajA,ajB,ajC];have w:wth b c a p (iJ (dU a b c))↔wth a b c p (iJ (dU a b c)):=by
  unfold wth;omega
 rw[decide_eq_decide.2 w];cases eU p q a b <;> cases eU p q b c <;> cases eU p q c a <;> rfl
/-! ### Two places of a list -/
/-! ### A step -/
/-! ### The surfaces -/
def T3.mapP(f:H->H)(t:T3):T3:=⟨f t.a,f t.b,f t.c⟩
section
variable {f:H->H} {S:H->Prop} {ts:List T3}
end
def Xu{ts:List T3}:(aQ ts).any (Jg ts)=Z↔∃e∈aX ts,∃j,1<=j/\j<wF (cF ts) e.1/\rM ts e.1 j e.2=X4 e.2:=by
 rw[pinned];refine Y5 λe=>?_;rw[Se,Sb,Sd];refine and_congr Iff.rfl (Y5 λj=>?_);rw[Jn];constructor
 .rintro⟨h1,h2,a⟩;exact⟨h1,by omega,a⟩
 rintro⟨h1,h2,a⟩;exact⟨h1,by omega,a⟩
def ahr{ts:List T3}:fO Z ts=0↔Br ts/\(aX ts).Nodup/\¬∃e∈aX ts,∃j,1<=j/\j<wF (cF ts) e.1/\rM ts e.1 j e.2=X4 e.2:=by
 constructor
 . intro h
   obtain⟨h1,h2⟩:=aca h;refine⟨h1,h2,λk=>?_⟩;have hp:=Xu.2 k;have b:ts.any xB=X3:=gi.2 λt c=>by rw[h1 t c];exact fg
   have a:=Jl (es:=aX ts);rw[Y (λk=>k h2)] at a;unfold fO at h;rw[b,a,hp] at h;simp at h
 rintro⟨h1,h2,d⟩
 have hp:(aQ ts).any (Jg ts)=X3:=by
  cases f:(aQ ts).any (Jg ts) with
  | false=>rfl
  | true=>exact Z8 (Xu.1 f) d
 have b:ts.any xB=X3:=gi.2 λt c=>by rw[h1 t c];exact fg
 have a:=Jl (es:=aX ts);rw[Y (λk=>k h2)] at a;unfold fO;rw[b,a,hp];rfl
/-! ### An edge is divided -/
section
variable {f:H->H} {S:H->Prop}
end
inductive rU(N:H->H->Prop):H->H->Prop
 | refl (a:H):rU N a a
 | tail {a b c:H} (h:rU N a b) (s:N b c):rU N a c
section
variable {N N':H->H->Prop} {a b c p q x0 y0:H}
def rU.one(h:N a b):rU N a b:=.tail (.refl a) h
def rU.trans(h:rU N a b)(k:rU N b c):rU N a c:=by
 induction k with
 | refl=>exact h
 | tail _ s ih=>exact .tail ih s
def rU.head(h:rU N a b):a=b\/∃c,N a c/\rU N c b:=by
 induction h with
 | refl=>exact .inl rfl
 | tail _ s ih =>
  rcases ih with rfl | ⟨d,e,k⟩
  .exact .inr ⟨_,s,.refl _⟩
  exact .inr ⟨d,e,.tail k s⟩
def Cyc(N:H->H->Prop)(s:H):Prop:=∃y,N s y/\rU N y s
def oZ(N:H->H->Prop):Prop:=∀s,Cyc N s->∀x y,N x y->rU N s x
def Pk(N:H->H->Prop)(a z:H):Prop:=rU N a z/\∀y,¬N z y
/-! ### A corner between two -/
structure Ins(p x0 y0:H)(N N':H->H->Prop):Prop where
 no:∀x y,N x y->x≠p/\y≠p
 was:N x0 y0
 iff:∀x y,N' x y↔(N x y/\¬(x=x0/\y=y0))\/(x=x0/\y=p)\/(x=p/\y=y0)
def Ins.up(h:Ins p x0 y0 N N')(k:rU N a b):rU N' a b:=by
 induction k with
 | refl=>exact .refl _
 | @tail b c _ s ih =>
  by_cases e:b=x0/\c=y0
  . obtain⟨rfl,rfl⟩:=e
    exact .tail (.tail ih ((h.iff _ _).2 (.inr (.inl ⟨O,O⟩)))) ((h.iff _ _).2 (.inr (.inr ⟨O,O⟩)))
  exact .tail ih ((h.iff _ _).2 (.inl ⟨s,e⟩))
def Ins.down(h:Ins p x0 y0 N N')(d:a≠p)(k:rU N' a b):(b≠p/\rU N a b)\/(b=p/\rU N a x0):=by
 obtain⟨n1,n2⟩:=h.no _ _ h.was
 induction k with
 | refl=>exact .inl ⟨d,.refl _⟩
 | @tail b c _ s ih =>
  rcases (h.iff _ _).1 s with ⟨s,_⟩ | ⟨rfl,rfl⟩ | ⟨rfl,rfl⟩
  . rcases ih with ⟨_,ih⟩ | ⟨e,_⟩
    .exact .inl ⟨(h.no _ _ s).2,.tail ih s⟩
    exact Z8 e (h.no _ _ s).1
  . rcases ih with ⟨_,ih⟩ | ⟨e,_⟩
    .exact .inr ⟨O,ih⟩
    exact Z8 e n1
  rcases ih with ⟨e,_⟩ | ⟨_,ih⟩
  .exact Z8 O e
  exact .inl ⟨n2,.tail ih h.was⟩
def Ins.fan(h:Ins p x0 y0 N N'){z:H}(c:z≠p)(k:Pk N a z):Pk N' a z :=
 ⟨h.up k.1,λy b=>by
  rcases (h.iff _ _).1 b with ⟨s,_⟩ | ⟨rfl,rfl⟩ | ⟨e,_⟩
  .exact k.2 _ s
  .exact k.2 _ h.was
  exact c e⟩
/-! ### A corner in another's place -/
def ren(q p x:H):H:=if x=q then p else x
def apN:ren q p q=p:=J rfl
def afZ{x:H}(h:x≠q):ren q p x=x:=X h
def aax{x y:H}(c:x≠p)(d:y≠p)(h:ren q p x=ren q p y):x=y:=by
 unfold ren at h;by_cases a:x=q <;> by_cases b:y=q
 .rw[a,b]
 .rw[J a,X b] at h;exact Z8 h.symm d
 .rw[X a,J b] at h;exact Z8 h c
 rwa [X a,X b] at h
structure Ren(q p:H)(N N':H->H->Prop):Prop where
 no:∀x y,N x y->x≠p/\y≠p
 iff:∀x y,N' x y↔∃u v,N u v/\x=ren q p u/\y=ren q p v
def Ren.up(h:Ren q p N N')(k:rU N a b):rU N' (ren q p a) (ren q p b):=by
 induction k with
 | refl=>exact .refl _
 | tail _ s ih=>exact .tail ih ((h.iff _ _).2 ⟨_,_,s,rfl,rfl⟩)
def Ren.down(h:Ren q p N N')(d:a≠p)(k:rU N' (ren q p a) b):∃c,c≠p/\b=ren q p c/\rU N a c:=by
 induction k with
 | refl=>exact⟨a,d,rfl,.refl _⟩
 | tail _ s ih =>
  obtain⟨c,hc,rfl,r⟩:=ih;obtain⟨u,v,hs,e,rfl⟩:=(h.iff _ _).1 s;obtain rfl:=aax hc (h.no _ _ hs).1 e;exact⟨v,(h.no _ _ hs).2,O,.tail r hs⟩
def Ren.nopin(h:Ren q p N N')(a:oZ N):oZ N':=by
 rintro s ⟨y,d,hr⟩ i j b;obtain⟨u,v,hs,rfl,rfl⟩:=(h.iff _ _).1 d;obtain⟨n1,n2⟩:=h.no _ _ hs;obtain⟨c,hc,e,r⟩:=h.down n2 hr;obtain rfl:=aax n1 hc e;obtain⟨g,v2,f,rfl,rfl⟩:=(h.iff _ _).1 b;exact h.up (a _ ⟨_,hs,r⟩ _ _ f)
def Ren.fan(h:Ren q p N N'){z:H}(c:a≠q)(g:z≠q)(f:z≠p)(k:Pk N a z):Pk N' a z:=by
 have r:=h.up k.1;rw[afZ c,afZ g] at r;refine⟨r,λy d=>?_⟩;obtain⟨u,v,hs,e,rfl⟩:=(h.iff _ _).1 d;by_cases b:u=q
 .rw[b,apN] at e;exact f e
 rw[afZ b] at e;exact k.2 _ (e▸hs)
def ael(h:∀x y,N' x y↔N x y)(a:oZ N):oZ N':=by
 have:N'=N:=funext λx=>funext λy=>Y6 (h x y);rwa [this]
def ajD(h:∀x y,N' x y↔N x y){z:H}(k:Pk N a z):Pk N' a z:=by
 have:N'=N:=funext λx=>funext λy=>Y6 (h x y);rwa [this]
end
/-! ### The corners behind each other round a corner -/
def Nx(ts:List T3)(v x y:H):Prop:=((v,x),y)∈kL ts
def Hk{ts:List T3}(b:(aX ts).Nodup){v:H}:Nx ts v x y↔cC ts v x=X4 y:=by
 constructor
 . intro h
   obtain⟨z,a⟩:=Df (show (v,x)∈aX ts by rw[<-mY];exact dj.2 ⟨_,h,O⟩);rw[a,vL b h (vM a)]
 exact vM
def aem{ts:List T3}(d:(aX ts).Nodup){v b:H}:rU (Nx ts v) a b↔∃n,rM ts v n a=X4 b:=by
 constructor
 . intro h
   induction h with
   | refl=>exact⟨0,rfl⟩
   | tail _ s ih =>
    obtain⟨n,h⟩:=ih;exact⟨n+1,by rw[Dg,h,ja];exact (Hk d).1 s⟩
 rintro⟨n,h⟩
 induction n generalizing b with
 | zero=>cases h;exact .refl _
 | succ n ih =>
  rw[Dg] at h;obtain⟨c,hc,h⟩:=mf.1 h;exact .tail (ih hc) ((Hk d).2 h)
def apO{P:Nat->Prop}:∀n,P n->∃m,P m/\∀k,k<m->¬P k:=by
 intro n
 induction n using rh with
 | _ n ih =>
  intro h;by_cases k:∃m,m<n/\P m
  . obtain⟨m,a,hp⟩:=k
    exact ih m a hp
  exact⟨n,h,λm a hp=>k ⟨m,a,hp⟩⟩
def ace(ts:List T3)(v:H):List H:=((aX ts).filter λe=>decide (e.1=v)).map (·.2)
def Sn{ts:List T3}{v:H}:x∈ace ts v↔(v,x)∈aX ts:=by
 unfold ace;rw[dj];constructor
 . rintro⟨e,a,rfl⟩
   obtain⟨h1,h2⟩:=ct.1 a;rw[<-Y3 h2];exact h1
 exact λh=>⟨(v,x),ct.2 ⟨h,Y0 O⟩,O⟩
def aen{ts:List T3}{v:H}(f:(aX ts).Nodup):(ace ts v).Nodup:=by
 unfold ace;rw[List.Nodup,jf];refine (f.sublist List.filter_sublist).imp_of_mem λ{a b} c d g e=>g ?_;have h1:=Y3 (ct.1 c).2;have h2:=Y3 (ct.1 d).2;exact pq (h1.trans h2.symm) e
def ajE:∀ts:List T3,(aX ts).map (·.1)=cF ts:=by
 intro ts;unfold aX cF;rw[List.map_flatMap];rfl
def acf(ts:List T3)(v:H):(ace ts v).length=wF (cF ts) v:=by
 rw[<-ajE];unfold ace wF;rw[cj,List.filter_map,cj];rfl
def full{S E:List H}(c:S.Nodup)(hs:∀x∈S,x∈E)(g:E.length<=S.length):∀x∈E,x∈S:=λx a=>by
 refine Decidable.byContradiction λd=>?_;have h1:S.length<=(E.erase x).length:=oY c λy b=>by
  have f:y≠x:=λe=>d (e▸b);exact (List.mem_erase_of_ne f).2 (hs y b)
 rw[List.length_erase_of_mem a] at h1;have:0<E.length:=List.length_pos_of_mem a;omega
def aeo{ts:List T3}{v b:H}(h:rM ts v i a=X4 b):rM ts v (i+j) a=rM ts v j b:=by rw[aav,h,ja]
def aqV{ts:List T3}{v s:H}(h1:1<=j)(h:rM ts v j s=X4 s):∀n,rM ts v n s=rM ts v (n%j) s:=λn=>by
 induction n using rh with
 | _ n ih =>
  rcases Nat.lt_or_ge n j with hl | hl
  .rw[Nat.mod_eq_of_lt hl]
  have e:n=j+(n-j):=by omega
  rw[e,aeo h,ih (n-j) (by omega),Nat.add_mod_left]
def acg{ts:List T3}(c:(aX ts).Nodup){v s:H}{j:Nat}(b:∀k,1<=k->k<j->rM ts v k s≠X4 s):∀(i k:Nat) (x:H),i<k->k<j->rM ts v i s=X4 x->rM ts v k s≠X4 x
 | 0,k,x,f,a,h,h2=>by cases h;exact b k (by omega) a h2
 | i+1,k,x,f,a,h,h2=>by
  obtain⟨m,rfl⟩:∃m,k=m+1:=⟨k-1,by omega⟩
  rw[Dg] at h h2;obtain⟨y,d,g⟩:=mf.1 h;obtain⟨z,e,l⟩:=mf.1 h2;obtain rfl:=ad7 c g l;exact acg c b i m y (by omega) (by omega) d e
def af0{ts:List T3}{v b:H}(d:i<=j)(h:rM ts v j a=X4 b):∃y,rM ts v i a=X4 y:=by
 have e:j=i+(j-i):=by omega
 rw[e,aav] at h;obtain⟨y,c,_⟩:=mf.1 h;exact⟨y,c⟩
def Xv{ts:List T3}(l:(aX ts).Nodup){v s:H}{j:Nat}(h1:1<=j)(h:rM ts v j s=X4 s)(o:∀k,1<=k->k<j->rM ts v k s≠X4 s) :
 ∃L:List H,L.Nodup/\L.length=j/\(∀x∈L,x∈ace ts v)/\∀x,x∈L↔rU (Nx ts v) s x:=by
 have get:∀i,i<=j->∃y,rM ts v i s=X4 y:=λi d=>af0 d h;refine⟨(ke j).map λi=>(rM ts v i s).getD s,?_,by rw[cj,List.length_range],λx g=>?_,λx=>?_⟩
 . rw[List.Nodup,jf]
   refine (List.pairwise_lt_range (n:=j)).imp_of_mem λ{a b} r m p e=>?_;have q:=kf.1 m;obtain⟨y,c⟩:=get a (by omega);obtain⟨z,f⟩:=get b (by omega);rw[c,f] at e;obtain rfl:y=z:=e;exact acg l o a b y p q c f
 . obtain⟨i,d,rfl⟩:=dj.1 g
   have t:=kf.1 d;obtain⟨y,c⟩:=get i (by omega);obtain⟨z,f⟩:=get (i+1) (by omega);rw[Dg,c,ja] at f;rw[c];exact Sn.2 (wN f)
 rw[aem l,dj]
 constructor
 . rintro⟨i,d,rfl⟩
   obtain⟨y,c⟩:=get i (by have:=kf.1 d;omega);exact⟨i,by rw[c];rfl⟩
 rintro⟨n,g⟩
 rw[aqV h1 h] at g;exact⟨n%j,kf.2 (Nat.mod_lt _ (by omega)),by rw[g];rfl⟩
def Xw{ts:List T3}(c:(aX ts).Nodup):(¬∃e∈aX ts,∃j,1<=j/\j<wF (cF ts) e.1/\rM ts e.1 j e.2=X4 e.2)↔∀v,oZ (Nx ts v):=by
 constructor
 . rintro D v s ⟨y,a,hr⟩ x z l
   obtain⟨n,hr⟩:=(aem c).1 hr;have A:rM ts v (1+n) s=X4 s:=by rw[aeo (b:=y) (by rw[rM,(Hk c).1 a];rfl)];exact hr
   obtain⟨j,⟨g,f⟩,h⟩:=apO (P:=λk=>1<=k/\rM ts v k s=X4 s) (1+n) ⟨by omega,A⟩;obtain⟨L,t,o,u,p⟩:=Xv c g f (λk h1 h2 d=>h k h2 ⟨h1,d⟩);have B:wF (cF ts) v<=j:=by
    refine i_ λq=>D ⟨(v,s),wN ((Hk c).1 a),j,g,q,f⟩
   exact (p x).1 (full t u (by rw[o,acf];exact B) x (Sn.2 (wN ((Hk c).1 l))))
 rintro F ⟨⟨v,s⟩,H,m,h1,h2,d⟩
 simp only at h2 d;obtain⟨j,⟨g,f⟩,h⟩:=apO (P:=λk=>1<=k/\rM ts v k s=X4 s) m ⟨h1,d⟩;have I:j<=m:=i_ λq=>h m q ⟨h1,d⟩;obtain⟨L,t,o,u,p⟩:=Xv c g f (λk h1 h2 d=>h k h2 ⟨h1,d⟩);have G:Cyc (Nx ts v) s:=by
  obtain⟨y,a⟩:=af0 (i:=1) g f;have E:cC ts v s=X4 y:=by
   rw[rM] at a;cases r:cC ts v s with
   | none=>rw[r] at a;cases a
   | some w=>rw[r] at a;exact a
  refine⟨y,(Hk c).2 E,(aem c).2 ⟨j-1,?_⟩⟩;have e:j=1+(j-1):=by omega
  rw[e,aeo a] at f;exact f
 have C:(ace ts v).length<=L.length:=oY (aen c) λx l=>by
  obtain⟨y,a⟩:=Df (Sn.1 l);exact (p x).2 (F v s G x y ((Hk c).2 a))
 rw[acf,o] at C;omega
def wP{ts:List T3}:fO Z ts=0↔Br ts/\(aX ts).Nodup/\∀v,oZ (Nx ts v):=by
 rw[ahr];constructor
 .rintro⟨h1,h2,a⟩;exact⟨h1,h2,(Xw h2).1 a⟩
 rintro⟨h1,h2,a⟩;exact⟨h1,h2,(Xw h2).2 a⟩
/-! ### Images -/
def vP{t:T3}:t.nd=Z↔t.a≠t.b/\t.b≠t.c/\t.c≠t.a:=by
 unfold T3.nd;simp only[bg,R,Y8]
def apP{t:T3}:t.nd=X3↔t.a=t.b\/t.b=t.c\/t.c=t.a:=by
 cases h:t.nd with
 | true =>
  obtain⟨h1,h2,d⟩:=vP.1 h;exact⟨λk=>(by cases k),λk=>k.elim (λk=>Z8 k h1) λk=>k.elim (λk=>Z8 k h2) λk=>Z8 k d⟩
 | false =>
  refine⟨λ_=>?_,λ_=>rfl⟩;by_cases h1:t.a=t.b
  .exact .inl h1
  by_cases h2:t.b=t.c
  .exact .inr (.inl h2)
  refine .inr (.inr (Decidable.byContradiction λd=>?_))
  rw[vP.2 ⟨h1,h2,d⟩] at h;cases h
def anJ{t:T3}(h:t.nd=X3):(t.mapP f).nd=X3:=by
 rw[apP] at h ⊢;unfold T3.mapP;rcases h with h | h | h
 .exact .inl (by simp only[h])
 .exact .inr (.inl (by simp only[h]))
 exact .inr (.inr (by simp only[h]))
def jQ(t:T3):acb t (dB t):=by
 unfold dB;split
 .exact .inr (.inr O)
 split
 .exact .inr (.inl O)
 exact .inl O
def ahs{t u:T3}(f:H->H)(h:acb t u):acb (t.mapP f) (u.mapP f):=by
 rcases h with rfl | rfl | rfl
 .exact .inl O
 .exact .inr (.inl O)
 exact .inr (.inr O)
def hF(f:H->H)(t:T3):List T3:=if (t.mapP f).nd then [dB (t.mapP f)] else []
def Gc(f:H->H)(us:List T3):List T3:=us.flatMap (hF f)
def anK(ms:List Mv):∀us:List T3,aub ms us=Gc (ajq ms) us
 | []=>rfl
 | t::us=>by
  have ih:=anK ms us;unfold aub Gc at ih ⊢;rw[bx,<-ih];show _=(if (t.img ms).nd then [dB (t.img ms)] else [])++_
  cases h:(t.img ms).nd with
  | true=>rw[List.filter_cons_of_pos (p:=λt:T3=>(t.img ms).nd) h];rfl
  | false=>rw[List.filter_cons_of_neg (by simp[h])];rfl
def af1{t u:T3}(h:acb t u):hF f u=hF f t:=by
 have k:=ahs f h;unfold hF;rw[afW k];cases a:(t.mapP f).nd with
 | true=>rw[Si k a]
 | false=>rfl
def anL(f g:H->H)(t:T3):hF (λx=>f (g x)) t=(hF g t).flatMap (hF f):=by
 have e:t.mapP (λx=>f (g x))=(t.mapP g).mapP f:=rfl;cases h:(t.mapP g).nd with
 | true =>
  have:hF g t=[dB (t.mapP g)]:=J h;rw[this,bx,mc,fb,af1 (jQ _)];unfold hF;rw[e]
 | false =>
  have k:hF g t=[]:=X (by rw[h];exact fg);rw[k,mc];unfold hF;rw[e,anJ h];rfl
def Xx(f g:H->H):∀us:List T3,Gc (λx=>f (g x)) us=(Gc g us).flatMap (hF f)
 | []=>rfl
 | t::us=>by
  have ih:=Xx f g us;unfold Gc at ih ⊢;rw[bx,bx,aw,ih,anL]
def So{g:H->H}{us:List T3}(h:∀x∈cF us,f x=g x):Gc f us=Gc g us:=by
 unfold Gc;have key:∀t∈us,hF f t=hF g t:=λt a=>by
  have e:t.mapP f=t.mapP g:=Di (h _ (Dp.2 ⟨t,a,.inl rfl⟩)) (h _ (Dp.2 ⟨t,a,.inr (.inl rfl)⟩)) (h _ (Dp.2 ⟨t,a,.inr (.inr rfl)⟩));unfold hF;rw[e]
 clear h
 induction us with
 | nil=>rfl
 | cons t us ih=>rw[bx,bx,key t (br ..),ih λu b=>key u (bp _ b)]
def anM{us:List T3}(a:Br us)(h:∀x∈cF us,f x=x):Gc f us=us.map dB:=by
 rw[So (g:=λx=>x) h];clear h
 induction us with
 | nil=>rfl
 | cons t us ih =>
  have e:hF (λx=>x) t=[dB t]:=by
   unfold hF;have:t.mapP (λx=>x)=t:=rfl;rw[this,nd_of (a t (br ..))];rfl
  unfold Gc at ih ⊢;rw[bx,e,ih λu b=>a u (bp _ b)];rfl
/-! ### What holds of both -/
def oM{ts:List T3}{t:T3}(a:t∈ts)(h:t.has x=Z):x∈cF ts:=Dp.2 ⟨t,a,eF.1 h⟩
/-! ### One step -/
def gK(p a x:H):H:=if x=p then a else x
def kB{p:H}:gK p a p=a:=J rfl
def fV{p:H}(h:x≠p):gK p a x=x:=X h
section
variable {p a:H} {X:E3->Prop} {old new R us us':List T3}
end
/-! ### The corners round a corner,in a step -/
def Hl{u:T3}{v:H}:((v,x),y)∈aju u↔(v=u.a/\x=u.b/\y=u.c)\/(v=u.b/\x=u.c/\y=u.a)\/(v=u.c/\x=u.a/\y=u.b):=by
 simp only[aju,ap,cd,Z9,gl,Y8]
def ach{t u:T3}(h:acb t u){x:E3 × H}:x∈aju u↔x∈aju t:=by
 obtain⟨⟨v,w⟩,y⟩:=x;rw[Hl,Hl];rcases h with rfl | rfl | rfl
 .exact Iff.rfl
 .exact⟨λh=>h.elim (λh=>.inr (.inl h)) λh=>h.elim (λh=>.inr (.inr h)) .inl,λh=>h.elim (λh=>.inr (.inr h)) λh=>h.elim .inl λh=>.inr (.inl h)⟩
 exact⟨λh=>h.elim (λh=>.inr (.inr h)) λh=>h.elim .inl λh=>.inr (.inl h),λh=>h.elim (λh=>.inr (.inl h)) λh=>h.elim (λh=>.inr (.inr h)) .inl⟩
def anN{us vs:List T3}(h:us.Perm vs){v:H}:Nx us v x y↔Nx vs v x y:=aeg h
def An{us:List T3}{v:H}(h:Nx us v x y):(v,x)∈aX us:=by rw[<-mY];exact dj.2 ⟨_,h,rfl⟩
def fK(t:T3):Bool:=decide (¬iJ (dU t.a t.b t.c)<3)
def mS(s t:T3):List H:=[s.a,s.b,s.c].filter λp=>t.has p
def tE(s t:T3):List H:=[s.a,s.b,s.c].filter λp=>!t.has p
def wG(s t:T3):Bool:=dN s.a s.b t||dN s.b s.c t||dN s.c s.a t
def sgE(u v:H):Bool:=decide (bA u.x=bA v.x/\bA u.y=bA v.y/\bA u.z=bA v.z)
def nU(s t:T3):List H->List H->List H->Bool
 | [_],[u,x],[v,y]=>dN u x t||dN v y s
 | [a,b],[u],[v]=>decide (mR a b u v=0)&&sgE (dU a b u) (dU a b v)
 | _,_,_=>Z
def mP(s t:T3):Bool :=
 if (mS s t).length=0\/fK s=Z\/fK t=Z then wG s t||wG t s else nU s t (mS s t) (tE s t) (tE t s)
def sL(t:T3):T3:=⟨t.b,t.c,t.a⟩
def Xy(t:T3)(p:H):(sL t).has p=t.has p:=by
 rw[Bool.eq_iff_iff,eF,eF];show p=t.b\/p=t.c\/p=t.a↔_
 constructor
 . rintro (h | h | h)
   .exact .inr (.inl h)
   .exact .inr (.inr h)
   exact .inl h
 rintro (h | h | h)
 .exact .inr (.inr h)
 .exact .inl h
 exact .inr (.inl h)
def Sq(t:T3):fK (sL t)=fK t:=by unfold fK sL;simp only[Sl]
def Xz(s t:T3):wG (sL s) t=wG s t:=by
 unfold wG sL;simp only;cases dN s.a s.b t <;> cases dN s.b s.c t <;> cases dN s.c s.a t <;> rfl
def sM(p q:H)(t:T3):dN p q (sL t)=dN p q t:=aek p q t.a t.b t.c
def Ya(s t:T3):wG s (sL t)=wG s t:=by unfold wG;rw[sM,sM,sM]
def aqW(u v:H):sgE (Md u) (Md v)=sgE u v:=by
 have e:∀a b:Int,bA (-a)=bA (-b)↔bA a=bA b:=λa b=>by
  unfold bA;split <;> split <;> (try split) <;> (try split) <;> (try split) <;> (try split) <;> omega
 unfold sgE Md;simp only[e]
def anO(u v:H):sgE u v=sgE v u:=decide_eq_decide.2 ⟨λ⟨h1,h2,a⟩=>⟨h1.symm,h2.symm,a.symm⟩,λ⟨h1,h2,a⟩=>⟨h1.symm,h2.symm,a.symm⟩⟩
def ajF(s t:T3)(b u v:List H):nU (sL s) t b u v=nU s t b u v:=by
 unfold nU;split <;> simp only[sM]
def ajG(s t:T3)(b u v:List H):nU s (sL t) b u v=nU s t b u v:=by
 unfold nU;split <;> simp only[sM]
def ajH(s t:T3)(x u y:H)(V:List H):nU s t [x] [y,u] V=nU s t [x] [u,y] V:=by
 rcases V with _ | ⟨v,_ | ⟨z,_ | ⟨_,_⟩⟩⟩
 .rfl
 .rfl
 .show (dN y u t||_)=(dN u y t||_);rw[Sk]
 rfl
def af2(s t:T3)(b U:List H)(v z:H):nU s t b U [z,v]=nU s t b U [v,z]:=by
 rcases b with _ | ⟨x,_ | ⟨y,_ | ⟨_,_⟩⟩⟩
 .rfl
 . rcases U with _ | ⟨u,_ | ⟨w,_ | ⟨_,_⟩⟩⟩
   .rfl
   .rfl
   .show (_||dN z v s)=(_||dN v z s);rw[Sk v z s]
   rfl
 .rcases U with _ | ⟨u,_ | ⟨_,_⟩⟩ <;> rfl
 rfl
def aep(s t:T3)(x y u:H)(V:List H):nU s t [y,x] [u] V=nU s t [x,y] [u] V:=by
 rcases V with _ | ⟨v,_ | ⟨_,_⟩⟩
 .rfl
 . show (decide (mR y x u v=0)&&sgE (dU y x u) (dU y x v))=(decide (mR x y u v=0)&&sgE (dU x y u) (dU x y v))
   rw[Jt,Js,Js x y v,aqW];simp only[ll]
 rfl
def Sr(s t:T3):mS s t=(if t.has s.a then [s.a] else [])++((if t.has s.b then [s.b] else [])++if t.has s.c then [s.c] else []):=by
 unfold mS;simp only[fk,mx];cases t.has s.a <;> cases t.has s.b <;> cases t.has s.c <;> rfl
def Ss(s t:T3):tE s t=(if t.has s.a then [] else [s.a])++((if t.has s.b then [] else [s.b])++if t.has s.c then [] else [s.c]):=by
 unfold tE;simp only[fk,mx];cases t.has s.a <;> cases t.has s.b <;> cases t.has s.c <;> rfl
def Yb(s t:T3):tE s (sL t)=tE s t:=by unfold tE;simp only[Xy]
def aht(s t:T3):mS s (sL t)=mS s t:=by unfold mS;simp only[Xy]
def Me(s t:T3):mP (sL s) t=mP s t:=by
 have d:(mS (sL s) t).length=(mS s t).length:=by
  rw[Sr,Sr];show ((if t.has s.b then [s.b] else [])++((if t.has s.c then [s.c] else [])++if t.has s.a then [s.a] else [])).length=_
  cases t.has s.a <;> cases t.has s.b <;> cases t.has s.c <;> rfl
 unfold mP;rw[d,Sq,Xz,Ya,Yb,ajF];by_cases h:(mS s t).length=0\/fK s=Z\/fK t=Z
 .rw[J h,J h]
 rw[X h,X h,Sr,Sr,Ss,Ss s]
 show nU s t ((if t.has s.b then [s.b] else [])++((if t.has s.c then [s.c] else [])++if t.has s.a then [s.a] else [])) ((if t.has s.b then [] else [s.b])++((if t.has s.c then [] else [s.c])++if t.has s.a then [] else [s.a])) _=_
 cases t.has s.a <;> cases t.has s.b <;> cases t.has s.c
 .rfl
 .exact ajH ..
 .exact ajH ..
 .rfl
 .rfl
 .exact aep ..
 .exact aep ..
 rfl
def Hm(s t:T3):mP s (sL t)=mP s t:=by
 unfold mP;rw[aht,Sq,Xz,Ya,Yb,ajG];by_cases h:(mS s t).length=0\/fK s=Z\/fK t=Z
 .rw[J h,J h]
 rw[X h,X h,Ss (sL t),Ss t]
 show nU s t _ _ ((if s.has t.b then [] else [t.b])++((if s.has t.c then [] else [t.c])++if s.has t.a then [] else [t.a]))=_
 cases s.has t.a <;> cases s.has t.b <;> cases s.has t.c
 .rcases mS s t with _ | ⟨x,_ | ⟨y,_ | ⟨_,_⟩⟩⟩ <;> rcases tE s t with _ | ⟨u,_ | ⟨w,_ | ⟨_,_⟩⟩⟩ <;> rfl
 .exact af2 ..
 .exact af2 ..
 .rfl
 .rfl
 .rfl
 .rfl
 rfl
theorem anP(a b u v:H):mR a b v u = -mR a b u v:=by
 simp only[mR,dU,H.sub,H.cross,H.dot];grind
def anQ(s t:T3){b a:List H}(U V:List H)(h:b.Perm a):nU s t b U V=nU t s a V U:=by
 have two:∀(x y:H),nU s t [x,y] U V=nU t s [x,y] V U:=λx y=>by
  rcases U with _ | ⟨u,_ | ⟨_,_⟩⟩ <;> rcases V with _ | ⟨v,_ | ⟨_,_⟩⟩ <;> try rfl
  show (decide (mR x y u v=0)&&sgE (dU x y u) (dU x y v))=(decide (mR x y v u=0)&&sgE (dU x y v) (dU x y u))
  rw[anP x y u v,anO];simp only[ll]
 rcases b with _ | ⟨x,_ | ⟨y,_ | ⟨z,l⟩⟩⟩
 .obtain rfl:=h.symm.eq_nil;rfl
 . rw[qd.1 h.symm]
   rcases U with _ | ⟨u,_ | ⟨w,_ | ⟨_,_⟩⟩⟩ <;> rcases V with _ | ⟨v,_ | ⟨z,_ | ⟨_,_⟩⟩⟩ <;> try rfl
   show (dN u w t||dN v z s)=(dN v z s||dN u w t)
   rw[rb]
 . have c:=h.length_eq
   rcases a with _ | ⟨p,_ | ⟨q,_ | ⟨_,_⟩⟩⟩ <;> simp only[ay,bm] at c <;> try omega
   have hp:p∈[x,y]:=h.symm.subset (br ..);rcases ap.1 hp with e | e
   . subst e
     have:=qd.1 ((pa p).1 h).symm;rw[this];exact two p y
   obtain rfl:=a_.1 e
   have h2:[p,x].Perm [p,q]:=(List.Perm.swap x p []).trans h;have:=qd.1 ((pa p).1 h2).symm;rw[this,two x p];rcases V with _ | ⟨v,_ | ⟨_,_⟩⟩
   .rfl
   .exact (aep t s x p v U).symm
   rfl
 have c:=h.length_eq
 rcases a with _ | ⟨p,_ | ⟨q,_ | ⟨r,m⟩⟩⟩ <;> simp only[ay,bm] at c <;> try omega
 rfl
def yB{t:T3}(h:t.nd=Z):[t.a,t.b,t.c].Nodup:=by
 obtain⟨h1,h2,d⟩:=vP.1 h;simp only[List.nodup_cons,ap,cd,Z9,not_or,not_false_eq_true,List.nodup_nil,Y2];exact⟨⟨h1,d.symm⟩,h2⟩
def aci{s t:T3}(hs:s.nd=Z)(a:t.nd=Z):(mS s t).Perm (mS t s):=by
 refine (List.perm_ext_iff_of_nodup ((yB hs).filter _) ((yB a).filter _)).2 λp=>?_;rw[ct,ct,eF,eF];simp only[ap,cd,Z9];exact and_comm
def ahu{s t:T3}(hs:s.nd=Z)(a:t.nd=Z):mP s t=mP t s:=by
 have hp:=aci hs a;unfold mP;rw[hp.length_eq,rb (wG t s),anQ s t _ _ hp];have e:((mS t s).length=0\/fK s=Z\/fK t=Z)↔((mS t s).length=0\/fK t=Z\/fK s=Z):=or_congr Iff.rfl or_comm;by_cases h:(mS t s).length=0\/fK s=Z\/fK t=Z
 .rw[J h,J (e.1 h)]
 rw[X h,X (λk=>h (e.2 k))]
def T3.Lt(s t:T3):Prop:=s.a.Lt t.a\/s.a=t.a/\(s.b.Lt t.b\/s.b=t.b/\s.c.Lt t.c)
variable{t s:T3}{l:List T3}
instance (s t:T3):Decidable (s.Lt t):=by unfold T3.Lt;infer_instance
def T3.lt_irrefl(s:T3):¬s.Lt s:=λh=>by
 rcases h with h | ⟨_,h | ⟨_,h⟩⟩ <;> exact H.lt_irrefl _ h
def T3.lt_trans{u:T3}(h:s.Lt t)(k:t.Lt u):s.Lt u:=by
 rcases h with h | ⟨e,h | ⟨f,h⟩⟩ <;> rcases k with k | ⟨a,k | ⟨f2,k⟩⟩
 .exact .inl (H.lt_trans h k)
 .exact .inl (a▸h)
 .exact .inl (a▸h)
 .exact .inl (e▸k)
 .exact .inr ⟨e.trans a,.inl (H.lt_trans h k)⟩
 .exact .inr ⟨e.trans a,.inl (f2▸h)⟩
 .exact .inl (e▸k)
 .exact .inr ⟨e.trans a,.inl (f▸k)⟩
 exact .inr ⟨e.trans a,.inr ⟨f.trans f2,H.lt_trans h k⟩⟩
def T3.lt_tri(s t:T3):s.Lt t\/s=t\/t.Lt s:=by
 rcases Go.Lith.lt_tri s.a t.a with h | h | h
 .exact .inl (.inl h)
 . rcases Go.Lith.lt_tri s.b t.b with k | k | k
   .exact .inl (.inr ⟨h,.inl k⟩)
   . rcases Go.Lith.lt_tri s.c t.c with l | l | l
     .exact .inl (.inr ⟨h,.inr ⟨k,l⟩⟩)
     .exact .inr (.inl (Di h k l))
     exact .inr (.inr (.inr ⟨h.symm,.inr ⟨k.symm,l⟩⟩))
   exact .inr (.inr (.inr ⟨h.symm,.inl k⟩))
 exact .inr (.inr (.inl h))
def vQ(s t:T3):Prop:=¬t.Lt s
def Ot{u:T3}(h:vQ s t)(k:vQ t u):vQ s u:=λl=>by
 rcases T3.lt_tri s t with e | e | e
 .exact k (T3.lt_trans l e)
 .exact k (e▸l)
 exact h e
def aeq(h:vQ s t)(k:vQ t s):s=t:=by
 rcases T3.lt_tri s t with e | e | e
 .exact Z8 e k
 .exact e
 exact Z8 e h
def ahv(t:T3):List T3->List T3
 | []=>[t]
 | u::l=>if u.Lt t then u::ahv t l else t::u::l
def wQ:List T3->List T3
 | []=>[]
 | t::l=>ahv t (wQ l)
def aV(l:List T3):List T3:=wQ (l.map dB)
def St(t:T3):∀l:List T3,(ahv t l).Perm (t::l)
 | []=>.refl _
 | u::l=>by
  rw[ahv];split
  .exact ((St t l).cons u).trans (.swap ..)
  exact .refl _
def uR:∀l:List T3,(wQ l).Perm l
 | []=>.refl _
 | t::l=>(St t _).trans ((uR l).cons t)
def Su(t:T3):∀l:List T3,l.Pairwise vQ->(ahv t l).Pairwise vQ
 | [],_=>List.pairwise_singleton _ _
 | u::l,h=>by
  rw[ahv];obtain⟨h1,h2⟩:=bv.1 h;split
  . rename_i k
    refine bv.2 ⟨λx hx=>?_,Su t l h2⟩;rcases ap.1 ((St t l).subset hx) with rfl | hx
    .exact λa=>T3.lt_irrefl _ (T3.lt_trans k a)
    exact h1 x hx
  rename_i k
  refine bv.2 ⟨λx hx=>?_,h⟩;rcases ap.1 hx with rfl | hx
  .exact k
  exact Ot k (h1 x hx)
def sN:∀l:List T3,(wQ l).Pairwise vQ
 | []=>List.Pairwise.nil
 | t::l=>Su t _ (sN l)
def Dr:∀{l m:List T3},l.Perm m->l.Pairwise vQ->m.Pairwise vQ->l=m
 | [],m,h,_,_=>h.symm.eq_nil.symm
 | s::l,[],h,_,_=>by have:=h.length_eq;simp at this
 | s::l,t::m,h,h1,h2=>by
  obtain⟨a,b⟩:=bv.1 h1;obtain⟨c,d⟩:=bv.1 h2;have e:s=t:=by
   have hs:s∈t::m:=h.subset (br ..);have ht:t∈s::l:=h.symm.subset (br ..);rcases ap.1 hs with e | hs
   .exact e
   rcases ap.1 ht with e | ht
   .exact e.symm
   exact aeq (a t ht) (c s hs)
  subst e;rw[Dr ((pa s).1 h) b d]
def mZ(l:List T3):(aV l).Perm (l.map dB):=uR _
def aay(l:List T3):(aV l).Pairwise vQ:=sN _
def ajI{m:List T3}(h:m.Perm (l.map dB))(hs:m.Pairwise vQ):m=aV l:=Dr (h.trans (mZ l).symm) hs (aay l)
def gX(u v:H)(t:T3):T3:=t.mapP (gK u v)
def lW(u v:H)(l:List T3):List T3:=(l.map (gX u v)).filter T3.nd
def eD(l:List T3)(u v:H):List T3:=aV (lW u v l)
def lB(u v:H)(l:List T3):List T3:=l.filter λt=>!decide (gX u v t=t)&&(gX u v t).nd
def iS(u v:H)(l:List T3):List T3:=(lB u v l).map (gX u v)
def mT(u v:H)(l:List T3):List T3:=l.filter λt=>decide (gX u v t=t)
def Gd(l:List T3)(p q:H):Bool:=decide (q≠p)&&kU l p q
def nbL(l:List T3)(p:H):List H:=(aQ l).filter (Gd l p)
def ahw(p:H):List H->List H
 | []=>[p]
 | q::l=>if q.Lt p then q::ahw p l else p::q::l
def Bu:List H->List H
 | []=>[]
 | p::l=>ahw p (Bu l)
def qL(t:T3):List H:=Bu [t.a,t.b,t.c]
def Fb(t:T3)(k:Nat):Int:=min (min (dV t.a k) (dV t.b k)) (dV t.c k)
def Fc(t:T3)(k:Nat):Int:=max (max (dV t.a k) (dV t.b k)) (dV t.c k)
def acj(s t:T3)(k:Nat):Bool:=decide (Fc s k<Fb t k)||decide (Fc t k<Fb s k)
def oN(s t:T3):Bool:=!acj s t 0 && !acj s t 1 && !acj s t 2
def tO(t s:T3):Bool:=oN t s&&mP s t
def Vz(s t:T3):Int:=bA ((dU s.a s.b s.c).dot (dU t.a t.b t.c))
def rV(l:List T3)(u v:H):Bool:=Gd l u v && !Bt (bB l) u
def wR(l:List T3)(u v:H):Bool:=decide (((nbL l u).filter (Gd l v)).length=2)
def rW(l:List T3)(u v:H):Bool:=decide (((iS u v l++mT u v l).map qL).Nodup)
def Aq(l:List T3)(u v:H):Bool:=!Bt (bB l) v||(nbL l u).all λp=>decide (p=v) || !Bt (bB l) p||Gd l v p
def vR(l:List T3)(u v:H):Bool:=(lB u v l).all λt=>!fK (gX u v t)&&decide (Vz t (gX u v t)=1)
def Hn(l:List T3)(u v:H):Bool:=(iS u v l).zipIdx.all λx=>!(mT u v l).any (tO x.1) && !((iS u v l).take x.2).any (tO x.1)
def cH(l:List T3)(u v:H):Bool:=rV l u v&&wR l u v&&rW l u v&&Aq l u v&&vR l u v&&Hn l u v
def xF{p:H}:Gd l p q=Z↔q≠p/\kU l p q=Z:=by
 unfold Gd;rw[bg,R]
def rX{p:H}:q∈nbL l p↔Gd l p q=Z:=by
 unfold nbL;rw[ct,gU];refine⟨λh=>h.2,λh=>⟨?_,h⟩⟩;obtain⟨t,a,_,hq⟩:=kM.1 (xF.1 h).2;exact oM a hq
def ajJ{v:H}(f:u≠v):gX u v t=t↔t.has u=X3:=by
 have e:∀x,gK u v x=x↔x≠u:=λx=>by
  unfold gK;split
  .rename_i h;subst h;exact⟨λh=>Z8 h.symm f,λh=>Z8 O h⟩
  rename_i h;exact⟨λ_=>h,λ_=>rfl⟩
 constructor
 . intro h
   have h1:=(e _).1 (C T3.a h);have h2:=(e _).1 (C T3.b h);have d:=(e _).1 (C T3.c h);unfold T3.has;simp[h1,h2,d]
 intro h
 obtain⟨h1,h2,d⟩:=aqS h;exact Di ((e _).2 h1.symm) ((e _).2 h2.symm) ((e _).2 d.symm)
theorem ajK{v:H}(c:u≠v)(a:t.nd=Z):(gX u v t).nd=Z↔¬(t.has u=Z/\t.has v=Z):=by
 obtain⟨h1,h2,b⟩:=vP.1 a;rw[vP,eF,eF];unfold gX T3.mapP gK;simp only
 grind
def aaz{v:H}(l:List T3):∀t∈lW u v l,t.nd=Z:=λt h=>(ct.1 h).2
def Ho{u v:H}:∀l:List T3,(∀t∈l,t.nd=Z)->(iS u v l++mT u v l).Perm (lW u v l)
 | [],_=>.refl _
 | t::l,h=>by
  have ih:=Ho (u:=u) (v:=v) l λx b=>h x (bp _ b);have a:=h t (br ..);unfold iS lB mT lW at ih ⊢;simp only[fk,bi];by_cases e:gX u v t=t
  . rw[e,a]
    simp only[decide_true,Bool.not_true,ju,oq,Y4,K0];exact List.perm_middle.trans (ih.cons t)
  simp only[e,decide_false,Bool.not_false,Bool.true_and,oq,Y4]
  split
  .rw[bi,List.cons_append];exact ih.cons _
  exact ih
def ajL(t:T3):(dB t).nd=t.nd:=(afW (jQ t))
def ajM(h:∀t∈l,t.nd=Z):∀t∈aV l,t.nd=Z:=λt a=>by
 obtain⟨s,hs,rfl⟩:=dj.1 ((mZ l).mem_iff.1 a);rw[ajL];exact h s hs
def aes(l:List T3)(u v:H):∀t∈eD l u v,t.nd=Z:=ajM (aaz l)
def jR(l:List T3):(aV l).length=l.length:=by rw[(mZ l).length_eq,cj]
theorem ajN{v:H}(h:rV l u v=Z):(eD l u v).length<l.length:=by
 have b:=(Bool.and_eq_true_iff.1 h).1;obtain⟨f,a⟩:=xF.1 b;obtain⟨t,e,h1,h2⟩:=kM.1 a;unfold eD;rw[jR];unfold lW;have d:(gX u v t).nd=X3:=by
  rw[apP];rw[eF] at h1 h2;unfold gX T3.mapP gK;simp only
  grind
 have c:gX u v t∈l.map (gX u v):=List.mem_map_of_mem e;have:=List.length_filter_lt_length_iff_exists (p:=T3.nd) (l:=l.map (gX u v)) |>.2 ⟨_,c,by rw[d];exact fg⟩
 rwa [cj] at this
def Ju(u v:H)(l:List T3):(lW u v l).length<=l.length:=by
 have:=List.length_filter_le T3.nd (l.map (gX u v));rwa [cj] at this
def tF(a b:List Int):List Int:=List.zipWith (· + ·) a b
def q0:List Int:=[0,0,0,0,0,0,0,0,0,0]
def qPr(a b c d:Int):List Int:=[a*a,2*(a*b),2*(a*c),2*(a*d),b*b,2*(b*c),2*(b*d),c*c,2*(c*d),d*d]
def qOf(t:T3):List Int:=qPr (dU t.a t.b t.c).x (dU t.a t.b t.c).y (dU t.a t.b t.c).z (-((dU t.a t.b t.c).dot t.a))
def ajO(q:List Int)(x y z:Int):Int:=match q with
 | [a,b,c,d,e,f,g,h,i,j]=>a*(x*x)+b*(x*y)+c*(x*z)+d*x+e*(y*y)+f*(y*z)+g*y+h*(z*z)+i*z+j
 | _=>0
def qAt(q:List Int)(p:H):Int:=ajO q p.x p.y p.z
def nA(l:List T3)(p:H):List Int:=(l.filter λt=>t.has p).foldl (λs t=>tF s (qOf t)) q0
structure fX where
 u:H
 v:H
 c:Int
def fX.Lt(a b:fX):Prop:=a.c<b.c\/a.c=b.c/\(a.u.Lt b.u\/a.u=b.u/\a.v.Lt b.v)
variable{c:fX}
instance (a b:fX):Decidable (a.Lt b):=by unfold fX.Lt;infer_instance
def fX.ext' {a b:fX}(h1:a.u=b.u)(h2:a.v=b.v)(d:a.c=b.c):a=b:=by
 obtain⟨u,v,c⟩:=a;obtain⟨f,v',e⟩:=b;simp only at h1 h2 d;rw[h1,h2,d]
def fX.lt_irrefl(a:fX):¬a.Lt a:=λh=>by
 rcases h with h | ⟨_,h | ⟨_,h⟩⟩
 .omega
 .exact H.lt_irrefl _ h
 exact H.lt_irrefl _ h
def fX.lt_trans{a b:fX}(h:a.Lt b)(k:b.Lt c):a.Lt c:=by
 rcases h with h | ⟨e,h | ⟨f,h⟩⟩ <;> rcases k with k | ⟨d,k | ⟨f2,k⟩⟩
 .exact .inl (by omega)
 .exact .inl (by omega)
 .exact .inl (by omega)
 .exact .inl (by omega)
 .exact .inr ⟨e.trans d,.inl (H.lt_trans h k)⟩
 .exact .inr ⟨e.trans d,.inl (f2▸h)⟩
 .exact .inl (by omega)
 .exact .inr ⟨e.trans d,.inl (f▸k)⟩
 exact .inr ⟨e.trans d,.inr ⟨f.trans f2,H.lt_trans h k⟩⟩
def fX.lt_tri(a b:fX):a.Lt b\/a=b\/b.Lt a:=by
 rcases Int.lt_trichotomy a.c b.c with h | h | h
 .exact .inl (.inl h)
 . rcases Go.Lith.lt_tri a.u b.u with k | k | k
   .exact .inl (.inr ⟨h,.inl k⟩)
   . rcases Go.Lith.lt_tri a.v b.v with l | l | l
     .exact .inl (.inr ⟨h,.inr ⟨k,l⟩⟩)
     .exact .inr (.inl (fX.ext' k l h))
     exact .inr (.inr (.inr ⟨h.symm,.inr ⟨k.symm,l⟩⟩))
   exact .inr (.inr (.inr ⟨h.symm,.inl k⟩))
 exact .inr (.inr (.inl h))
def Wa:List fX->Option fX
 | []=>X5
 | c::cs=>match Wa cs with
  | none=>X4 c
  | some d=>if d.Lt c then X4 d else X4 c
def Mf:∀{cs:List fX},Wa cs=X5↔cs=[]
 | []=>⟨λ_=>rfl,λ_=>rfl⟩
 | c::cs=>by
  unfold Wa;constructor
  . intro h
    cases a:Wa cs with
    | none=>rw[a] at h;cases h
    | some d=>rw[a] at h;simp only at h;split at h <;> cases h
  intro h;cases h
def Mg:∀{cs:List fX} {c:fX},Wa cs=X4 c->c∈cs/\∀d∈cs,¬d.Lt c
 | [],c,h=>by cases h
 | a::cs,c,h=>by
  unfold Wa at h;cases f:Wa cs with
  | none =>
   rw[f] at h;cases h;rw[Mf.1 f];exact⟨List.mem_singleton_self _,λd g=>by rw[a_.1 g];exact fX.lt_irrefl _⟩
  | some d =>
   rw[f] at h;simp only at h;obtain⟨h1,h2⟩:=Mg f;split at h
   . rename_i k
     cases h;refine⟨bp _ h1,λe he=>?_⟩;rcases ap.1 he with rfl | he
     .exact λb=>fX.lt_irrefl _ (fX.lt_trans k b)
     exact h2 e he
   rename_i k
   cases h;refine⟨br ..,λe he b=>?_⟩;rcases ap.1 he with rfl | he
   .exact fX.lt_irrefl _ b
   rcases fX.lt_tri d e with k3 | k3 | k3
   .exact k (fX.lt_trans k3 b)
   .exact k (k3▸b)
   exact h2 e he k3
def anR{cs:List fX}(hc:c∈cs)(h:∀d∈cs,¬d.Lt c):Wa cs=X4 c:=by
 cases a:Wa cs with
 | none=>rw[Mf.1 a] at hc;cases hc
 | some d =>
  obtain⟨h1,h2⟩:=Mg a;rcases fX.lt_tri c d with k | k | k
  .exact Z8 k (h2 c hc)
  .rw[k]
  exact Z8 k (h d h1)
def rH(q:H->List Int)(u v:H):Int:=qAt (tF (q u) (q v)) v
def aqX(l:List T3)(q:H->List Int)(u:H):List fX:=if Bt (bB l) u then [] else (nbL l u).map λv=>⟨u,v,rH q u v⟩
def Sv(l:List T3)(q:H->List Int):List fX:=(aQ l).flatMap (aqX l q)
def tP(l:List T3)(q:H->List Int):Option fX:=Wa ((Sv l q).filter λc=>cH l c.u c.v)
def uF(q:H->List Int)(u v:H)(p:H):List Int:=if p=v then tF (q u) (q v) else q p
def Ln(D:List Mv)(u v:H):List Mv:=fP (D.map λe=>(e.1,gK u v e.2)) u v
def kN:Nat->Int->List T3->(H->List Int)->List Mv->List T3 × List Mv
 | 0,_,l,_,D=>(l,D)
 | n+1,want,l,q,D=>if (l.length:Int)<=want then (l,D) else match tP l q with
  | none=>(l,D)
  | some c=>kN n want (eD l c.u c.v) (uF q c.u c.v) (Ln D c.u c.v)
def kQ(D:List Mv):List Mv:=(Bu (D.map (·.1))).map λk=>(k,(cG D k).getD k)
def lJ(l:List T3)(want:Int):List T3 × List Mv :=
 if fO Z (aV l)≠0 then (aV l,[]) else
 ((kN (aV l).length want (aV l) (nA (aV l)) []).1,kQ (kN (aV l).length want (aV l) (nA (aV l)) []).2)
def aaA{q:H->List Int}  : c∈Sv l q↔Bt (bB l) c.u=X3/\Gd l c.u c.v=Z/\c.c=rH q c.u c.v:=by
 unfold Sv;rw[ff];constructor
 . rintro⟨u,a,hc⟩
   unfold aqX at hc;split at hc
   .cases hc
   rename_i d
   obtain⟨v,f,rfl⟩:=dj.1 hc;exact⟨by simpa using d,rX.1 f,O⟩
 rintro⟨h1,h2,b⟩
 obtain⟨t,e,a,_⟩:=kM.1 (xF.1 h2).2;refine⟨c.u,gU.2 (oM e a),?_⟩;unfold aqX;rw[X (by rw[h1];exact fg)];exact dj.2 ⟨c.v,rX.2 h2,fX.ext' O O b.symm⟩
def Sw{v:H}(h:cH l u v=Z):rV l u v=Z:=by
 unfold cH at h;simp only[bg] at h;exact h.1.1.1.1.1
def Fe{q:H->List Int}(h:tP l q=X4 c):c∈Sv l q/\cH l c.u c.v=Z:=by
 have:=(Mg h).1;exact ct.1 this
def pJ{q:H->List Int}(h:tP l q=X4 c):(eD l c.u c.v).length<l.length:=ajN (Sw (Fe h).2)
def Yc:∀(n m:Nat) (want:Int) (l:List T3) (q:H->List Int) (D:List Mv),l.length<=n->l.length<=m->0<=want->kN n want l q D=kN m want l q D
 | 0,0,_,_,_,_,_,_,_=>rfl
 | 0,m+1,want,l,q,D,h1,h2,a=>by
  have:l.length=0:=by omega
  unfold kN;rw[J (by omega)]
 | n+1,0,want,l,q,D,h1,h2,a=>by
  have:l.length=0:=by omega
  unfold kN;rw[J (by omega)]
 | n+1,m+1,want,l,q,D,h1,h2,a=>by
  unfold kN;split
  .rfl
  cases b:tP l q with
  | none=>rfl
  | some c =>
   have:=pJ b;exact Yc n m want _ _ _ (by omega) (by omega) a
def ajP{want:Int}{q:H->List Int}{D:List Mv}(h:(l.length:Int)<=want):kN n want l q D=(l,D):=by
 cases n with
 | zero=>rfl
 | succ n=>unfold kN;rw[J h]
def wC(n:Int):List aj:=[.bool (dH n),.string (eC n)]
def qC(L:List Int):List aj:=L.flatMap wC
def qV(L:List Int):aj:=.agg (qC L).toArray
def wC2(n:Int):(wC n).length=2:=rfl
def nW(L:List Int):(qC L).length=L.length*2:=iX wC2 ..
def xG{w:ak}{g:Nat}{T:ba}{x:Int}(h:fQ w g (qC L) T)(b:L[k]? = X4 x):kV w ⟨g,k*2,X5⟩ (wC x):=by
 have h2:=h.row (k*2);rw[qC,Rr wC2 b] at h2;exact λj u a=>h2 j u (by rw[List.getElem?_append_left (ao.1 a).1];exact a)
def Pz{x:Int}(h:k<L.length):over (qC L) (k*2) (wC x)=qC (L.set k x):=by
 unfold over qC;rw[show k*2+(wC x).length=(k+1)*2 by rw[wC2];omega,<-Hi wC2,<-vD wC2,List.set_eq_take_append_cons_drop,J h,aw,bx,cn]
def aqY(L:List Int):∀u∈qC L,u.oneCell'=Z:=λu a=>by
 obtain⟨x,_,h⟩:=ff.1 a;simp only[wC,ap,cd,Z9] at h;rcases h with rfl | rfl <;> rfl
def As(k:Nat)(L:List Int):Prop:=∀x∈L,Bd k x
def As.mono{m:Nat}(h:As k L)(a:k<=m):As m L:=λx b=>(h x b).mono a
def As.at{x:Int}(h:As k L)(a:L[i]? = X4 x):Bd k x:=h x (bf a)
def eY{a b:List Int}(c:a.length=10)(d:b.length=10):(tF a b).length=10:=by unfold tF;rw[List.length_zipWith,c,d];rfl
def Ff{a b:List Int}(e:As k a)(f:As k b):As (k+1) (tF a b):=λx d=>by
 unfold tF at d;obtain⟨i,c⟩:=List.mem_iff_getElem?.1 d;rw[ph] at c;cases h1:a[i]? with
 | none=>simp[h1] at c
 | some y =>
  cases h2:b[i]? with
  | none=>simp[h1,h2] at c
  | some z =>
   simp[h1,h2] at c;subst c;exact ((e.at h1).add (f.at h2)).mono (by omega)
section
variable {P:bt} {ds:List ej} {l:List aj} {x y:b_} {T ty:ba} {ops:Array Oper} {Q:Exit->Act->ak->Prop} {rest:List Oper} {pos:String} {after:Array Edge} {w w0:ak} {is:List It}
def ack{cs us:List aj}(h:us.length=cs.length):over cs 0 us=us:=by unfold over;rw[List.take_zero,bz,ai,gq (by omega),fb]
def qM{g n:Nat}{cs:List aj}{L:List Int}{t:ba}(m:Mem w0 w is)(k:Nat)(d:is[k]? = X4 (bI g cs t))(f:ev l x=.pointer (X4 ⟨g,0,X5⟩))(e:ev l y=qV L)(a:L.length*2=n)(c:cs.length=n)(hc:dO P T n)
 (h:∀u,Mem w0 u (is.set k (bI g (qC L) t))->az P ops Q rest (Fr l ds) u):az P ops Q (bu X5 (.store T x y) ty pos after X5::rest) (Fr l ds) w :=
 bP (us:=qC L) m k d f e (by rw[nW,a];exact hc) (by rw[nW,a,c,ai];exact ar _) (List.all_eq_true.2 (aqY L)) λu b=>h u (by rw[ack (by rw[nW,a,c])] at b;exact b)
def nB{g:Nat}{L:List Int}{t:ba}(h:fQ w g (qC L) t)(a:eX P T Z)(hc:dO P T n)(b:L.length*2=n):dQ P w T ⟨g,0,X5⟩ (qV L):=h.full a (by rw[nW,b];exact hc)
def anS{a:Addr}(h:dQ P w T a (.agg #[.bool X3,.string ⟨#[]⟩])):dQ P w T a (W 0):=by rw[aal];exact h
end
def qP(a b:List Int)(k:Nat):List Int:=(tF a b).take k++a.drop k
def aqZ{a b:List Int}(c:a.length=10)(d:b.length=10):qP a b 10=tF a b:=by
 unfold qP;rw[au (by rw[eY c d];exact ar _),gq (by omega),fb]
def ajQ{a b:List Int}(c:a.length=10)(d:b.length=10)(e:k<=10):(qP a b k).length=10:=by
 unfold qP;rw[aq,bj,gg,eY c d,c];omega
def aug{a b:List Int}(c:a.length=10)(d:b.length=10){x:Int}(f:k<10)(e:a[k]? = X4 x):(qP a b k)[k]? = X4 x:=by
 unfold qP;rw[List.getElem?_append_right (by rw[bj];omega),bj,eY c d,ij (by omega),Nat.sub_self,List.getElem?_drop,Nat.add_zero];exact e
def aq0{a b:List Int}(c:a.length=10)(d:b.length=10){x y:Int}(g:k<10)(e:a[k]? = X4 x)(f:b[k]? = X4 y):(qP a b k).set k (x+y)=qP a b (k+1):=by
 have h1:(tF a b)[k]? = X4 (x+y):=by unfold tF;rw[ph,e,f]
 have h2:((tF a b).take k).length=k:=by rw[bj,eY c d];omega
 unfold qP;rw[nh,h1,List.set_append_right _ _ (by rw[h2];exact ar _),h2,Nat.sub_self,Option.toList,cn]
 congr 1
 rw[List.drop_eq_getElem_cons (by omega:k<a.length)];rfl
/-! ### The pairs,in order -/
def eI(n:Nat):Nat:=[0,0,0,0,1,1,1,2,2,3].getD n 0
def eJ(n:Nat):Nat:=[0,1,2,3,1,2,3,2,3,3].getD n 0
def aaB{Q:Nat->Prop}(i:n<10)(a:Q 0)(h1:Q 1)(h2:Q 2)(b:Q 3)(c:Q 4)(d:Q 5)(e:Q 6)(f:Q 7)(g:Q 8)(h:Q 9):Q n:=by
 rcases n with _ | _ | _ | _ | _ | _ | _ | _ | _ | _ | n
 all_goals first | assumption | omega
def ajR(a:n<10):eI n<4:=aaB (Q:=λn=>eI n<4) a (by decide) (by decide) (by decide) (by decide) (by decide) (by decide) (by decide) (by decide) (by decide) (by decide)
def ajS(a:n<10):eJ n<4:=aaB (Q:=λn=>eJ n<4) a (by decide) (by decide) (by decide) (by decide) (by decide) (by decide) (by decide) (by decide) (by decide) (by decide)
def Ye(p:List Int)(n:Nat):Int:=p.getD (eI n) 0*p.getD (eJ n) 0
def qF(a b c d:Int)(n:Nat):List Int:=(qPr a b c d).take n++List.replicate (10-n) 0
def aq1(a b c d:Int)(e:n<=10):(qF a b c d n).length=10:=by
 unfold qF;rw[aq,bj,List.length_replicate,show (qPr a b c d).length=10 from rfl];omega
def ajT{a b c d:Int}(e:n<10):((qF a b c d n).set n (Ye [a,b,c,d] n)).set n (if eI n=eJ n then Ye [a,b,c,d] n else Ye [a,b,c,d] n*2)=qF a b c d (n+1):=by
 rw[rd];refine aaB (Q:=λn=>(qF a b c d n).set n (if eI n=eJ n then Ye [a,b,c,d] n else Ye [a,b,c,d] n*2)=qF a b c d (n+1)) e ?_ ?_ ?_ ?_ ?_ ?_ ?_ ?_ ?_ ?_
 all_goals simp[qF,qPr,Ye,eI,eJ,ra]
def auh(a b c d:Int):qF a b c d 10=qPr a b c d:=by unfold qF qPr;rfl
def apR(a b c d:Int)(e:i<4):[a,b,c,d][i]? = X4 ([a,b,c,d].getD i 0):=by
 rcases i with _ | _ | _ | _ | i
 all_goals first | rfl | omega
def aui{a b c d:Int}(h:As k [a,b,c,d]):As (k+k+2) (qPr a b c d):=λx i=>by
 have e:=h a (by simp);have f:=h b (by simp);have hc:=h c (by simp);have g:=h d (by simp);have two:∀{x:Int},Bd (k+k) x->Bd (k+k+2) (2*x):=λ{x} i=>by
  have h2:Bd 2 (2:Int):=by unfold Bd;decide
  rw[Nat.add_comm];exact h2.mul i
 simp only[qPr,ap,cd,Z9] at i;rcases i with rfl | rfl | rfl | rfl | rfl | rfl | rfl | rfl | rfl | rfl
 .exact (e.mul e).mono (by omega)
 .exact two (e.mul f)
 .exact two (e.mul hc)
 .exact two (e.mul g)
 .exact (f.mul f).mono (by omega)
 .exact two (f.mul hc)
 .exact two (f.mul g)
 .exact (hc.mul hc).mono (by omega)
 .exact two (hc.mul g)
 exact (g.mul g).mono (by omega)
/-! ### A quadric's value -/
def atS(q x:List Int):Nat->Int
 | 0=>0
 | n+1=>atS q x n+q.getD n 0*Ye x n
def Mh{q:List Int}(hq:q.length=10)(a:n<10):q[n]? = X4 (q.getD n 0):=by
 rw[gr,am (by omega)];rfl
theorem ajU{q:List Int}(hq:q.length=10)(p:H):atS q [p.x,p.y,p.z,1] 10=qAt q p:=by
 rcases q with _ | ⟨a,_ | ⟨b,_ | ⟨c,_ | ⟨d,_ | ⟨e,_ | ⟨f,_ | ⟨g,_ | ⟨h,_ | ⟨i,_ | ⟨j,_ | ⟨k,q⟩⟩⟩⟩⟩⟩⟩⟩⟩⟩⟩ <;> simp only[ay,bm] at hq <;> try omega
 simp only[atS,Ye,eI,eJ,qAt,ajO,List.getD_cons_zero,List.getD_cons_succ,List.getD_nil]
 grind
def aet{p:List Int}(h:As k p)(c:p.length=4)(a:n<10):Bd (k+k) (Ye p n):=by
 have key:∀i,i<4->Bd k (p.getD i 0):=λi b=>by
  rw[gr,am (by omega:i<p.length)];exact h _ (List.getElem_mem _)
 exact (key _ (ajR a)).mul (key _ (ajS a))
def aeu{k m:Nat}{q p:List Int}(hq:As k q)(a:q.length=10)(hp:As m p)(b:p.length=4):∀n,n<=10->Bd (k+m+m+n) (atS q p n)
 | 0,_=>Pt _
 | n+1,c=>by
  have h1:=aeu hq a hp b n (by omega);have h2:=(hq.at (Mh a (by omega:n<10))).mul (aet hp b (by omega:n<10));exact (h1.add (h2.mono (by omega:k+(m+m)<=k+m+m+n))).mono (by omega)
def bd4{p:H}(h:I3 p):As 64 [p.x,p.y,p.z,1]:=λx a=>by
 simp only[ap,cd,Z9] at a;rcases a with rfl | rfl | rfl | rfl
 .exact h.x.bd
 .exact h.y.bd
 .exact h.z.bd
 unfold Bd;decide
end Go.Lith
namespace Go.Proofs.YtfekpcimgncioaaGreatDoor
open Go.Proofs.Tryz
open Go.RowKit Go.Lith
section
variable{v0 v1 v2 A B C D E F v3 G H I J K L M N O0 P R S T U:aj}{l:List aj}{ty T':ba}{x0 x1 x y:b_}{x2 x3 x4 y0 y1 y2 y3 y4 x5 y5 x6 y6 x7 y7 x8 y8:Int}
abbrev nX:=@underlying107
abbrev Au:=@underlying112
abbrev Mi:=@underlying124
abbrev vS:=@underlying215
abbrev nY:=@underlying218
abbrev eK:=@underlying22
abbrev lC:=@underlying231
abbrev Av:=@underlying257
abbrev fC:=@underlying27
abbrev iT:=@underlying3
abbrev fY:=@underlying30
abbrev pA:=@underlying300
abbrev vT:=@underlying36
abbrev eB:=@underlying39
abbrev Wb:=@underlying4
abbrev Wc:=@underlying5
abbrev wS:=@underlying52
abbrev eR:=@underlying65
abbrev pN:=@underlying9
abbrev Sx:=@underlying93
abbrev Jv:=@underlying97
abbrev Sy:=@underlying99
set_option maxRecDepth 100000
def aB:prog.follows .mixedOrders=Z:=by kernel_rfl
def af3:Entr prog 82:=bJ func82 (by kernel_rfl)
def aev:Entr prog 114:=bJ func114 (by kernel_rfl)
def ajV:Entr prog 119:=bJ func119 (by kernel_rfl)
def ajW:Entr prog 125:=bJ func125 (by kernel_rfl)
def aew:Entr prog 128:=bJ func128 (by kernel_rfl)
def ajX:Entr prog 129:=bJ func129 (by kernel_rfl)
def ajY:Entr prog 195:=bJ func195 (by kernel_rfl)
def aaC:Entr prog 235:=bJ func235 (by kernel_rfl)
def ajZ:Entr prog 276:=bJ func276 (by kernel_rfl)
def aj0:Entr prog 277:=bJ func277 (by kernel_rfl)
def aj1:Entr prog 278:=bJ func278 (by kernel_rfl)
def aex:Entr prog 336:=bJ func336 (by kernel_rfl)
def aj2:Entr prog 337:=bJ func337 (by kernel_rfl)
def aY:dO prog 3 1:=dX (by kernel_rfl)
def bK:eX prog 3 X3:=dP _ iT rfl
def lO:nJ prog 3 (X6 0):=jE (by kernel_rfl)
def tQ:(prog.info? 3).map (λi=>(i.size,i.bytes,i.zero))=X4 (1,8,X4 (X6 0)):=by kernel_rfl
def jZ:dO prog 4 1:=dX (by kernel_rfl)
def pK:eX prog 4 X3:=dP _ Wb rfl
def pB:nJ prog 4 (.bool X3):=jE (by kernel_rfl)
def apT:(prog.info? 4).map (λi=>(i.size,i.bytes,i.zero))=X4 (1,1,X4 (.bool X3)):=by kernel_rfl
def Yf:(prog.info? 5).map (λi=>(i.size,i.bytes,i.zero))=X4 (1,1,X4 (.int .u8 0)):=by kernel_rfl
def anT:dO prog 9 1:=dX (by kernel_rfl)
def apU:eX prog 9 X3:=dP _ pN rfl
def aq2:eX prog 24 Z:=dP _ underlying24 rfl
def gL:dO prog 27 1:=dX (by kernel_rfl)
def tG:eX prog 27 X3:=dP _ fC rfl
def af4:nJ prog 27 (.slice X5 0 0):=jE (by kernel_rfl)
def aA:dO prog 30 3:=dX (by kernel_rfl)
def aG:eX prog 30 Z:=dP _ fY rfl
def iF:nJ prog 30 (.agg #[X6 0,X6 0,X6 0]):=jE (by kernel_rfl)
def mK:(prog.info? 30).map (λi=>(i.size,i.bytes,i.zero))=X4 (3,24,X4 (.agg #[X6 0,X6 0,X6 0])):=by kernel_rfl
def iN:dO prog 36 3:=dX (by kernel_rfl)
def vU:eX prog 36 Z:=dP _ vT rfl
def Fg:nJ prog 36 (.agg #[X6 0,X6 0,X6 0]):=jE (by kernel_rfl)
def aj3:dO prog 38 9:=dX (by kernel_rfl)
def aq3:eX prog 38 Z:=dP _ underlying38 rfl
def aW:dO prog 39 9:=dX (by kernel_rfl)
def cD:eX prog 39 Z:=dP _ eB rfl
def anU:nJ prog 39 (.agg #[X6 0,X6 0,X6 0,X6 0,X6 0,X6 0,X6 0,X6 0,X6 0]):=jE (by kernel_rfl)
def iO:(prog.info? 39).map (λi=>(i.size,i.bytes,i.zero))=X4 (9,72,X4 (.agg #[X6 0,X6 0,X6 0,X6 0,X6 0,X6 0,X6 0,X6 0,X6 0])):=by kernel_rfl
def acl:dO prog 55 6:=dX (by kernel_rfl)
def aj4:eX prog 55 Z:=dP _ underlying55 rfl
def anV:nJ prog 55 (.agg #[X6 0,X6 0,X6 0,X6 0,X6 0,X6 0]):=jE (by kernel_rfl)
def aaD:(prog.info? 55).map (λi=>(i.size,i.bytes,i.zero))=X4 (6,48,X4 (.agg #[X6 0,X6 0,X6 0,X6 0,X6 0,X6 0])):=by kernel_rfl
def qN:dO prog 56 6:=dX (by kernel_rfl)
def Sz:eX prog 56 Z:=dP _ underlying56 rfl
def Ds:(prog.info? 56).map (λi=>(i.size,i.bytes,i.zero))=X4 (6,48,X4 (.agg #[X6 0,X6 0,X6 0,X6 0,X6 0,X6 0])):=by kernel_rfl
def aj5:dO prog 62 1:=dX (by kernel_rfl)
def aj6:dO prog 65 1:=dX (by kernel_rfl)
def aj7:eX prog 65 X3:=dP _ eR rfl
def Ta:dO prog 88 1:=dX (by kernel_rfl)
def aaE:eX prog 88 X3:=dP _ underlying88 rfl
def aj8:eX prog 93 X3:=dP _ Sx rfl
def aO:dO prog 95 2:=dX (by kernel_rfl)
def bU:eX prog 95 Z:=dP _ underlying95 rfl
def uG:nJ prog 95 (.agg #[.bool X3,.string ⟨#[]⟩]):=jE (by kernel_rfl)
def dA:dO prog 97 20:=dX (by kernel_rfl)
def kR:eX prog 97 Z:=dP _ Jv rfl
def aaF:nJ prog 97 (.agg #[.bool X3,.string ⟨#[]⟩,.bool X3,.string ⟨#[]⟩,.bool X3,.string ⟨#[]⟩,.bool X3,.string ⟨#[]⟩,.bool X3,.string ⟨#[]⟩,.bool X3,.string ⟨#[]⟩,.bool X3,.string ⟨#[]⟩,.bool X3,.string ⟨#[]⟩,.bool X3,.string ⟨#[]⟩,.bool X3,.string ⟨#[]⟩]):=jE (by kernel_rfl)
def aq4:eX prog 99 X3:=dP _ Sy rfl
def af5:eX prog 106 X3:=dP _ underlying106 rfl
def Fh:dO prog 107 1:=dX (by kernel_rfl)
def uH:eX prog 107 X3:=dP _ nX rfl
def yC:dO prog 112 8:=dX (by kernel_rfl)
def Jw:eX prog 112 Z:=dP _ Au rfl
def aj9:nJ prog 112 (.agg #[X6 0,X6 0,X6 0,X6 0,X6 0,X6 0,.bool X3,.string ⟨#[]⟩]):=jE (by kernel_rfl)
def anW:(prog.info? 112).map (λi=>(i.size,i.bytes,i.zero))=X4 (8,72,X4 (.agg #[X6 0,X6 0,X6 0,X6 0,X6 0,X6 0,.bool X3,.string ⟨#[]⟩])):=by kernel_rfl
def Fi:dO prog 126 23:=dX (by kernel_rfl)
def aka:nJ prog 126 (.agg #[X6 0,X6 0,X6 0,.bool X3,.string ⟨#[]⟩,.bool X3,.string ⟨#[]⟩,.bool X3,.string ⟨#[]⟩,.bool X3,.string ⟨#[]⟩,.bool X3,.string ⟨#[]⟩,.bool X3,.string ⟨#[]⟩,.bool X3,.string ⟨#[]⟩,.bool X3,.string ⟨#[]⟩,.bool X3,.string ⟨#[]⟩,.bool X3,.string ⟨#[]⟩]):=jE (by kernel_rfl)
def anX:(prog.info? 126).map (λi=>(i.size,i.bytes,i.zero))=X4 (23,264,X4 (.agg #[X6 0,X6 0,X6 0,.bool X3,.string ⟨#[]⟩,.bool X3,.string ⟨#[]⟩,.bool X3,.string ⟨#[]⟩,.bool X3,.string ⟨#[]⟩,.bool X3,.string ⟨#[]⟩,.bool X3,.string ⟨#[]⟩,.bool X3,.string ⟨#[]⟩,.bool X3,.string ⟨#[]⟩,.bool X3,.string ⟨#[]⟩,.bool X3,.string ⟨#[]⟩])):=by kernel_rfl
def nO:dO prog 130 8:=dX (by kernel_rfl)
def Qd:eX prog 130 Z:=dP _ underlying130 rfl
def akb:nJ prog 130 (.agg #[X6 0,X6 0,X6 0,X6 0,X6 0,X6 0,.bool X3,.string ⟨#[]⟩]):=jE (by kernel_rfl)
def anY:(prog.info? 130).map (λi=>(i.size,i.bytes,i.zero))=X4 (8,72,X4 (.agg #[X6 0,X6 0,X6 0,X6 0,X6 0,X6 0,.bool X3,.string ⟨#[]⟩])):=by kernel_rfl
def Mj:dO prog 139 2:=dX (by kernel_rfl)
def anZ:eX prog 139 Z:=dP _ underlying139 rfl
def Tb:nJ prog 139 (.agg #[X6 0,.slice X5 0 0]):=jE (by kernel_rfl)
def Mk:dO prog 168 8:=dX (by kernel_rfl)
def an0:eX prog 168 Z:=dP _ underlying168 rfl
def acm:nJ prog 168 (.agg #[.bool X3,.string ⟨#[]⟩,.bool X3,.string ⟨#[]⟩,.bool X3,.string ⟨#[]⟩,.bool X3,.string ⟨#[]⟩]):=jE (by kernel_rfl)
def uS:dO prog 215 6:=dX (by kernel_rfl)
def Fj:eX prog 215 Z:=dP _ vS rfl
def an1:(prog.info? 215).map (λi=>(i.size,i.bytes,i.zero))=X4 (6,48,X4 (.agg #[X6 0,X6 0,X6 0,X6 0,X6 0,X6 0])):=by kernel_rfl
def akc:nJ prog 218 (.agg #[.pointer X5,X6 0,X6 0,X6 0,X6 0,X6 0,X6 0,.map X5,.map X5,.slice X5 0 0,.slice X5 0 0,.slice X5 0 0]):=jE (by kernel_rfl)
def Yg:dO prog 222 6:=dX (by kernel_rfl)
def af6:eX prog 222 Z:=dP _ underlying222 rfl
def Ml:dO prog 229 8:=dX (by kernel_rfl)
def af7:eX prog 229 Z:=dP _ underlying229 rfl
def fA:dO prog 231 1:=dX (by kernel_rfl)
def lP:eX prog 231 X3:=dP _ lC rfl
def Jy:(prog.info? 231).map (λi=>(i.size,i.bytes,i.zero))=X4 (1,8,X4 (.int .u64 0)):=by kernel_rfl
def Fk:dO prog 242 1:=dX (by kernel_rfl)
def aaG:eX prog 242 X3:=dP _ underlying242 rfl
def Mm:dO prog 243 3:=dX (by kernel_rfl)
def af8:eX prog 243 Z:=dP _ underlying243 rfl
def acn:nJ prog 243 (.agg #[.nilFunc,.nilFunc,.nilFunc]):=jE (by kernel_rfl)
def pL:dO prog 257 6:=dX (by kernel_rfl)
def Qe:eX prog 257 Z:=dP _ Av rfl
def aco:nJ prog 257 (.agg #[.bool X3,.string ⟨#[]⟩,.bool X3,.string ⟨#[]⟩,.bool X3,.string ⟨#[]⟩]):=jE (by kernel_rfl)
def Yh:dO prog 273 6:=dX (by kernel_rfl)
def af9:eX prog 273 Z:=dP _ underlying273 rfl
def ahx:dO prog 280 18:=dX (by kernel_rfl)
def an2:eX prog 280 Z:=dP _ underlying280 rfl
def ahy:dO prog 300 1:=dX (by kernel_rfl)
def an3:eX prog 300 X3:=dP _ pA rfl
def akd:nJ prog 300 (.slice X5 0 0):=jE (by kernel_rfl)
def Yi:dO prog 333 3:=dX (by kernel_rfl)
def aga:eX prog 333 Z:=dP _ underlying333 rfl
def ahz(w:ak):((#[{ name := "X", type:=3,offset:=0,embedded:=X3,tag := "", pkgPath := "", byteOffset:=0 },{ name := "Y", type:=3,offset:=1,embedded:=X3,tag := "", pkgPath := "", byteOffset:=8 },{ name := "Z", type:=3,offset:=2,embedded:=X3,tag := "", pkgPath := "", byteOffset:=16 }]:Array Field).mapM λf=>do pure (f.offset,<-sizeOf f.type):Sem (Array (Nat × Nat))).run prog w=.ok #[(0,1),(1,1),(2,1)] w:=by
 simp[gz,dY aY]
def aey(a:v0.cells = #[A])(h1:v1.cells = #[B])(h2:v2.cells = #[C])(w:ak):(Instr.build 30 #[(0,v0),(1,v1),(2,v2)]).run prog w=.ok (.agg #[A,B,C]) w:=fM fY iF ahz (by simp[Instr.fill,jN,a,h1,h2]) w
def yD{x2:b_}(a:(ev l x0).cells = #[A])(h1:(ev l x1).cells = #[B])(h2:(ev l x2).cells = #[C]):iB prog l (.build 30 #[(0,x0),(1,x1),(2,x2)]) ty (.agg #[A,B,C]):=mN (vs:=#[(0,ev l x0),(1,ev l x1),(2,ev l x2)]) (by simp) λw=>aey a h1 h2 w
def aez(a:v0.cells = #[A])(h1:v1.cells = #[B])(h2:v2.cells = #[C])(w:ak):(Instr.build 36 #[(0,v0),(1,v1),(2,v2)]).run prog w=.ok (.agg #[A,B,C]) w:=kD vT Fg aY (by simp[Instr.fill,jN,a,h1,h2]) w
def yE{x2:b_}(a:(ev l x0).cells = #[A])(h1:(ev l x1).cells = #[B])(h2:(ev l x2).cells = #[C]):iB prog l (.build 36 #[(0,x0),(1,x1),(2,x2)]) ty (.agg #[A,B,C]):=mN (vs:=#[(0,ev l x0),(1,ev l x1),(2,ev l x2)]) (by simp) λw=>aez a h1 h2 w
def ahA(w:ak):((#[{ name := "From", type:=30,offset:=0,embedded:=X3,tag := "", pkgPath := "", byteOffset:=0 },{ name := "To", type:=30,offset:=3,embedded:=X3,tag := "", pkgPath := "", byteOffset:=24 }]:Array Field).mapM λf=>do pure (f.offset,<-sizeOf f.type):Sem (Array (Nat × Nat))).run prog w=.ok #[(0,3),(3,3)] w:=by
 simp[gz,dY aA]
def ake(a:v0.cells = #[A,B,C])(h1:v1.cells = #[D,E,F])(w:ak):(Instr.build 55 #[(0,v0),(1,v1)]).run prog w=.ok (.agg #[A,B,C,D,E,F]) w:=fM underlying55 anV ahA (by simp[Instr.fill,jN,a,h1]) w
def Dt(a:(ev l x0).cells = #[A,B,C])(h1:(ev l x1).cells = #[D,E,F]):iB prog l (.build 55 #[(0,x0),(1,x1)]) ty (.agg #[A,B,C,D,E,F]):=mN (vs:=#[(0,ev l x0),(1,ev l x1)]) (by simp) λw=>ake a h1 w
def ahB(w:ak):((#[{ name := "Neg", type:=4,offset:=0,embedded:=X3,tag := "", pkgPath := "", byteOffset:=0 },{ name := "Mag", type:=9,offset:=1,embedded:=X3,tag := "", pkgPath := "", byteOffset:=8 }]:Array Field).mapM λf=>do pure (f.offset,<-sizeOf f.type):Sem (Array (Nat × Nat))).run prog w=.ok #[(0,1),(1,1)] w:=by
 simp[gz,dY jZ,dY anT]
def akf(a:v0.cells = #[A])(h1:v1.cells = #[B])(w:ak):(Instr.build 95 #[(0,v0),(1,v1)]).run prog w=.ok (.agg #[A,B]) w:=fM underlying95 uG ahB (by simp[Instr.fill,jN,a,h1]) w
def Du(a:(ev l x0).cells = #[A])(h1:(ev l x1).cells = #[B]):iB prog l (.build 95 #[(0,x0),(1,x1)]) ty (.agg #[A,B]):=mN (vs:=#[(0,ev l x0),(1,ev l x1)]) (by simp) λw=>akf a h1 w
def xH{v4 v5 a b c v9:aj}(d:v0.cells = #[A,B])(h1:v1.cells = #[C,D])(h2:v2.cells = #[E,F])(e:v3.cells = #[G,H])(f:v4.cells = #[I,J])(g:v5.cells = #[K,L])(h:a.cells = #[M,N])(i:b.cells = #[O0,P])(j:c.cells = #[R,S])(k:v9.cells = #[T,U])(w:ak):(Instr.build 97 #[(0,v0),(1,v1),(2,v2),(3,v3),(4,v4),(5,v5),(6,a),(7,b),(8,c),(9,v9)]).run prog w=.ok (.agg #[A,B,C,D,E,F,G,H,I,J,K,L,M,N,O0,P,R,S,T,U]) w:=kD Jv aaF aO (by simp[Instr.fill,jN,d,h1,h2,e,f,g,h,i,j,k]) w
def rN{x2 x3 x4 x5 x6 x7 x8 a:b_}(b:(ev l x0).cells = #[A,B])(h1:(ev l x1).cells = #[C,D])(h2:(ev l x2).cells = #[E,F])(c:(ev l x3).cells = #[G,H])(d:(ev l x4).cells = #[I,J])(e:(ev l x5).cells = #[K,L])(f:(ev l x6).cells = #[M,N])(g:(ev l x7).cells = #[O0,P])(h:(ev l x8).cells = #[R,S])(i:(ev l a).cells = #[T,U]):iB prog l (.build 97 #[(0,x0),(1,x1),(2,x2),(3,x3),(4,x4),(5,x5),(6,x6),(7,x7),(8,x8),(9,a)]) ty (.agg #[A,B,C,D,E,F,G,H,I,J,K,L,M,N,O0,P,R,S,T,U]):=mN (vs:=#[(0,ev l x0),(1,ev l x1),(2,ev l x2),(3,ev l x3),(4,ev l x4),(5,ev l x5),(6,ev l x6),(7,ev l x7),(8,ev l x8),(9,ev l a)]) (by simp) λw=>xH b h1 h2 c d e f g h i w
def aeA(w:ak):((#[{ name := "u", type:=30,offset:=0,embedded:=X3,tag := "", pkgPath := "lithophane/collapse", byteOffset:=0 },{ name := "v", type:=30,offset:=3,embedded:=X3,tag := "", pkgPath := "lithophane/collapse", byteOffset:=24 },{ name := "cost", type:=95,offset:=6,embedded:=X3,tag := "", pkgPath := "lithophane/collapse", byteOffset:=48 }]:Array Field).mapM λf=>do pure (f.offset,<-sizeOf f.type):Sem (Array (Nat × Nat))).run prog w=.ok #[(0,3),(3,3),(6,2)] w:=by
 simp[gz,dY aA,dY aO]
def acp(a:v0.cells = #[A,B,C])(h1:v1.cells = #[D,E,F])(h2:v2.cells = #[G,H])(w:ak):(Instr.build 112 #[(0,v0),(1,v1),(2,v2)]).run prog w=.ok (.agg #[A,B,C,D,E,F,G,H]) w:=fM Au aj9 aeA (by simp[Instr.fill,jN,a,h1,h2]) w
def Jz{x2:b_}(a:(ev l x0).cells = #[A,B,C])(h1:(ev l x1).cells = #[D,E,F])(h2:(ev l x2).cells = #[G,H]):iB prog l (.build 112 #[(0,x0),(1,x1),(2,x2)]) ty (.agg #[A,B,C,D,E,F,G,H]):=mN (vs:=#[(0,ev l x0),(1,ev l x1),(2,ev l x2)]) (by simp) λw=>acp a h1 h2 w
def aeB(w:ak):((#[{ name := "p", type:=30,offset:=0,embedded:=X3,tag := "", pkgPath := "lithophane/lithophaneref11", byteOffset:=0 },{ name := "q", type:=97,offset:=3,embedded:=X3,tag := "", pkgPath := "lithophane/lithophaneref11", byteOffset:=24 }]:Array Field).mapM λf=>do pure (f.offset,<-sizeOf f.type):Sem (Array (Nat × Nat))).run prog w=.ok #[(0,3),(3,20)] w:=by
 simp[gz,dY aA,dY dA]
def ahC(a:v0.cells = #[B,C,D]){V W X:aj}(h1:v1.cells = #[E,A,F,G,H,I,J,K,L,M,N,O0,P,R,S,T,U,V,W,X])(w:ak):(Instr.build 126 #[(0,v0),(1,v1)]).run prog w=.ok (.agg #[B,C,D,E,A,F,G,H,I,J,K,L,M,N,O0,P,R,S,T,U,V,W,X]) w:=fM underlying126 aka aeB (by simp[Instr.fill,jN,a,h1]) w
def Pm(a:(ev l x0).cells = #[B,C,D]){V W X:aj}(h1:(ev l x1).cells = #[E,A,F,G,H,I,J,K,L,M,N,O0,P,R,S,T,U,V,W,X]):iB prog l (.build 126 #[(0,x0),(1,x1)]) ty (.agg #[B,C,D,E,A,F,G,H,I,J,K,L,M,N,O0,P,R,S,T,U,V,W,X]):=mN (vs:=#[(0,ev l x0),(1,ev l x1)]) (by simp) λw=>ahC a h1 w
def aeC(w:ak):((#[{ name := "u", type:=30,offset:=0,embedded:=X3,tag := "", pkgPath := "lithophane/lithophaneref11", byteOffset:=0 },{ name := "v", type:=30,offset:=3,embedded:=X3,tag := "", pkgPath := "lithophane/lithophaneref11", byteOffset:=24 },{ name := "cost", type:=95,offset:=6,embedded:=X3,tag := "", pkgPath := "lithophane/lithophaneref11", byteOffset:=48 }]:Array Field).mapM λf=>do pure (f.offset,<-sizeOf f.type):Sem (Array (Nat × Nat))).run prog w=.ok #[(0,3),(3,3),(6,2)] w:=by
 simp[gz,dY aA,dY aO]
def acq(a:v0.cells = #[A,B,C])(h1:v1.cells = #[D,E,F])(h2:v2.cells = #[G,H])(w:ak):(Instr.build 130 #[(0,v0),(1,v1),(2,v2)]).run prog w=.ok (.agg #[A,B,C,D,E,F,G,H]) w:=fM underlying130 akb aeC (by simp[Instr.fill,jN,a,h1,h2]) w
def Ka{x2:b_}(a:(ev l x0).cells = #[A,B,C])(h1:(ev l x1).cells = #[D,E,F])(h2:(ev l x2).cells = #[G,H]):iB prog l (.build 130 #[(0,x0),(1,x1),(2,x2)]) ty (.agg #[A,B,C,D,E,F,G,H]):=mN (vs:=#[(0,ev l x0),(1,ev l x1),(2,ev l x2)]) (by simp) λw=>acq a h1 h2 w
def aeD(w:ak):((#[{ name := "Level", type:=3,offset:=0,embedded:=X3,tag := "", pkgPath := "", byteOffset:=0 },{ name := "In", type:=62,offset:=1,embedded:=X3,tag := "", pkgPath := "", byteOffset:=8 }]:Array Field).mapM λf=>do pure (f.offset,<-sizeOf f.type):Sem (Array (Nat × Nat))).run prog w=.ok #[(0,1),(1,1)] w:=by
 simp[gz,dY aY,dY aj5]
def ahD(a:v0.cells = #[A])(h1:v1.cells = #[B])(w:ak):(Instr.build 139 #[(0,v0),(1,v1)]).run prog w=.ok (.agg #[A,B]) w:=fM underlying139 Tb aeD (by simp[Instr.fill,jN,a,h1]) w
def By(a:(ev l x0).cells = #[A])(h1:(ev l x1).cells = #[B]):iB prog l (.build 139 #[(0,x0),(1,x1)]) ty (.agg #[A,B]):=mN (vs:=#[(0,ev l x0),(1,ev l x1)]) (by simp) λw=>ahD a h1 w
def Wd(a:v0.cells = #[A,B])(h1:v1.cells = #[C,D])(h2:v2.cells = #[E,F])(b:v3.cells = #[G,H])(w:ak):(Instr.build 168 #[(0,v0),(1,v1),(2,v2),(3,v3)]).run prog w=.ok (.agg #[A,B,C,D,E,F,G,H]) w:=kD underlying168 acm aO (by simp[Instr.fill,jN,a,h1,h2,b]) w
def tR{x2 x3:b_}(a:(ev l x0).cells = #[A,B])(h1:(ev l x1).cells = #[C,D])(h2:(ev l x2).cells = #[E,F])(b:(ev l x3).cells = #[G,H]):iB prog l (.build 168 #[(0,x0),(1,x1),(2,x2),(3,x3)]) ty (.agg #[A,B,C,D,E,F,G,H]):=mN (vs:=#[(0,ev l x0),(1,ev l x1),(2,ev l x2),(3,ev l x3)]) (by simp) λw=>Wd a h1 h2 b w
def aeE(w:ak):((#[{ name := "surface", type:=88,offset:=0,embedded:=Z,tag := "", pkgPath := "lithophane/collapse", byteOffset:=0 },{ name := "u", type:=30,offset:=1,embedded:=X3,tag := "", pkgPath := "lithophane/collapse", byteOffset:=8 },{ name := "v", type:=30,offset:=4,embedded:=X3,tag := "", pkgPath := "lithophane/collapse", byteOffset:=32 },{ name := "x", type:=107,offset:=7,embedded:=X3,tag := "", pkgPath := "lithophane/collapse", byteOffset:=56 },{ name := "y", type:=107,offset:=8,embedded:=X3,tag := "", pkgPath := "lithophane/collapse", byteOffset:=64 },{ name := "moved", type:=27,offset:=9,embedded:=X3,tag := "", pkgPath := "lithophane/collapse", byteOffset:=72 },{ name := "old", type:=27,offset:=10,embedded:=X3,tag := "", pkgPath := "lithophane/collapse", byteOffset:=96 },{ name := "rest", type:=27,offset:=11,embedded:=X3,tag := "", pkgPath := "lithophane/collapse", byteOffset:=120 }]:Array Field).mapM λf=>do pure (f.offset,<-sizeOf f.type):Sem (Array (Nat × Nat))).run prog w=.ok #[(0,1),(1,3),(4,3),(7,1),(8,1),(9,1),(10,1),(11,1)] w:=by
 simp[gz,dY Fh,dY gL,dY aA,dY Ta]
def Pn{v4:aj}(a:v0.cells = #[A])(h1:v1.cells = #[B,C,D])(h2:v2.cells = #[E,F,G])(b:v3.cells = #[H])(c:v4.cells = #[I])(w:ak):(Instr.build 218 #[(0,v0),(1,v1),(2,v2),(3,v3),(4,v4)]).run prog w=.ok (.agg #[A,B,C,D,E,F,G,H,I,(.slice X5 0 0),(.slice X5 0 0),(.slice X5 0 0)]) w:=fM nY akc aeE (by simp[Instr.fill,jN,a,h1,h2,b,c]) w
def Cd{x2 x3 x4:b_}(a:(ev l x0).cells = #[A])(h1:(ev l x1).cells = #[B,C,D])(h2:(ev l x2).cells = #[E,F,G])(b:(ev l x3).cells = #[H])(c:(ev l x4).cells = #[I]):iB prog l (.build 218 #[(0,x0),(1,x1),(2,x2),(3,x3),(4,x4)]) ty (.agg #[A,B,C,D,E,F,G,H,I,(.slice X5 0 0),(.slice X5 0 0),(.slice X5 0 0)]):=mN (vs:=#[(0,ev l x0),(1,ev l x1),(2,ev l x2),(3,ev l x3),(4,ev l x4)]) (by simp) λw=>Pn a h1 h2 b c w
def acr(a:v0.cells = #[A])(h1:v1.cells = #[B])(h2:v2.cells = #[C])(w:ak):(Instr.build 243 #[(0,v0),(1,v1),(2,v2)]).run prog w=.ok (.agg #[A,B,C]) w:=kD underlying243 acn Fk (by simp[Instr.fill,jN,a,h1,h2]) w
def Kb{x2:b_}(a:(ev l x0).cells = #[A])(h1:(ev l x1).cells = #[B])(h2:(ev l x2).cells = #[C]):iB prog l (.build 243 #[(0,x0),(1,x1),(2,x2)]) ty (.agg #[A,B,C]):=mN (vs:=#[(0,ev l x0),(1,ev l x1),(2,ev l x2)]) (by simp) λw=>acr a h1 h2 w
def acs(a:v0.cells = #[A,B])(h1:v1.cells = #[C,D])(h2:v2.cells = #[E,F])(w:ak):(Instr.build 257 #[(0,v0),(1,v1),(2,v2)]).run prog w=.ok (.agg #[A,B,C,D,E,F]) w:=kD Av aco aO (by simp[Instr.fill,jN,a,h1,h2]) w
def Kc{x2:b_}(a:(ev l x0).cells = #[A,B])(h1:(ev l x1).cells = #[C,D])(h2:(ev l x2).cells = #[E,F]):iB prog l (.build 257 #[(0,x0),(1,x1),(2,x2)]) ty (.agg #[A,B,C,D,E,F]):=mN (vs:=#[(0,ev l x0),(1,ev l x1),(2,ev l x2)]) (by simp) λw=>acs a h1 h2 w
def nC(d:Nat){x0:Int}{x1:Int}  : sZ prog (d+2) 30 (.agg #[X6 x0,X6 x1,X6 x2]) (.agg #[X6 y0,X6 y1,X6 y2]) (x0=y0/\x1=y1/\x2=y2):=(sZ.struct fY (by kernel_rfl) (zZ.cons (by decide) (cZ bK rfl) (cZ bK rfl) (sZ.int (d:=d+0) iT) (zZ.cons (by decide) (cZ bK rfl) (cZ bK rfl) (sZ.int (d:=d+0) iT) (zZ.cons (by decide) (cZ bK rfl) (cZ bK rfl) (sZ.int (d:=d+0) iT) zZ.nil)))).iff (by simp only[Y8,Y2])
def uT{x0:Int}{x1:Int}(a:ev l x=(.agg #[X6 x0,X6 x1,X6 x2]))(b:ev l y=(.agg #[X6 y0,X6 y1,X6 y2])):iB prog l (.binOp .eql 30 x y T') ty (.bool (decide (x0=y0/\x1=y1/\x2=y2))):=adM (by kernel_rfl) a b (nC 9998)
def Fl{x0:Int}{x1:Int}(a:ev l x=(.agg #[X6 x0,X6 x1,X6 x2]))(b:ev l y=(.agg #[X6 y0,X6 y1,X6 y2])):iB prog l (.binOp .neq 30 x y T') ty (.bool (decide (¬(x0=y0/\x1=y1/\x2=y2)))):=adN (by kernel_rfl) a b (nC 9998)
def akg(d:Nat){x0:Int}{x1:Int}  : sZ prog (d+2) 36 (.agg #[X6 x0,X6 x1,X6 x2]) (.agg #[X6 y0,X6 y1,X6 y2]) (x0=y0/\x1=y1/\x2=y2):=(sZ.array vT aY (sF.cons (cZ bK rfl) (cZ bK rfl) (sZ.int (d:=d+0) iT) (sF.cons (cZ bK rfl) (cZ bK rfl) (sZ.int (d:=d+0) iT) (sF.cons (cZ bK rfl) (cZ bK rfl) (sZ.int (d:=d+0) iT) sF.nil)))).iff (by simp only[Y8,Y2])
def Yj{x0:Int}{x1:Int}(a:ev l x=(.agg #[X6 x0,X6 x1,X6 x2]))(b:ev l y=(.agg #[X6 y0,X6 y1,X6 y2])):iB prog l (.binOp .eql 36 x y T') ty (.bool (decide (x0=y0/\x1=y1/\x2=y2))):=adM (by kernel_rfl) a b (akg 9998)
def aq5(d:Nat){x0:Int}{x1:Int}        : sZ prog (d+3) 38 (.agg #[X6 x0,X6 x1,X6 x2,X6 x3,X6 x4,X6 x5,X6 x6,X6 x7,X6 x8]) (.agg #[X6 y0,X6 y1,X6 y2,X6 y3,X6 y4,X6 y5,X6 y6,X6 y7,X6 y8]) (x0=y0/\x1=y1/\x2=y2/\x3=y3/\x4=y4/\x5=y5/\x6=y6/\x7=y7/\x8=y8):=(sZ.array underlying38 aA (sF.cons (cU aG aA rfl) (cU aG aA rfl) (nC (d+0)) (sF.cons (cU aG aA rfl) (cU aG aA rfl) (nC (d+0)) (sF.cons (cU aG aA rfl) (cU aG aA rfl) (nC (d+0)) sF.nil)))).iff (by simp only[Y8,Y2])
def akh(d:Nat){x0:Int}{x1:Int}        : sZ prog (d+3) 39 (.agg #[X6 x0,X6 x1,X6 x2,X6 x3,X6 x4,X6 x5,X6 x6,X6 x7,X6 x8]) (.agg #[X6 y0,X6 y1,X6 y2,X6 y3,X6 y4,X6 y5,X6 y6,X6 y7,X6 y8]) (x0=y0/\x1=y1/\x2=y2/\x3=y3/\x4=y4/\x5=y5/\x6=y6/\x7=y7/\x8=y8):=(sZ.array eB aA (sF.cons (cU aG aA rfl) (cU aG aA rfl) (nC (d+0)) (sF.cons (cU aG aA rfl) (cU aG aA rfl) (nC (d+0)) (sF.cons (cU aG aA rfl) (cU aG aA rfl) (nC (d+0)) sF.nil)))).iff (by simp only[Y8,Y2])
def aq6(d:Nat){x0:Int}{x1:Int}     : sZ prog (d+3) 55 (.agg #[X6 x0,X6 x1,X6 x2,X6 x3,X6 x4,X6 x5]) (.agg #[X6 y0,X6 y1,X6 y2,X6 y3,X6 y4,X6 y5]) (x0=y0/\x1=y1/\x2=y2/\x3=y3/\x4=y4/\x5=y5):=(sZ.struct underlying55 (by kernel_rfl) (zZ.cons (by decide) (cU aG aA rfl) (cU aG aA rfl) (nC (d+0)) (zZ.cons (by decide) (cU aG aA rfl) (cU aG aA rfl) (nC (d+0)) zZ.nil))).iff (by simp only[Y8,Y2])
def ahE{x0:Int}{x1:Int}(a:ev l x=(.agg #[X6 x0,X6 x1,X6 x2,X6 x3,X6 x4,X6 x5]))(b:ev l y=(.agg #[X6 y0,X6 y1,X6 y2,X6 y3,X6 y4,X6 y5])):iB prog l (.binOp .neq 55 x y T') ty (.bool (decide (¬(x0=y0/\x1=y1/\x2=y2/\x3=y3/\x4=y4/\x5=y5)))):=adN (by kernel_rfl) a b (aq6 9997)
def aki(d:Nat){x0:Int}{x1:Int}     : sZ prog (d+3) 56 (.agg #[X6 x0,X6 x1,X6 x2,X6 x3,X6 x4,X6 x5]) (.agg #[X6 y0,X6 y1,X6 y2,X6 y3,X6 y4,X6 y5]) (x0=y0/\x1=y1/\x2=y2/\x3=y3/\x4=y4/\x5=y5):=(sZ.array underlying56 aA (sF.cons (cU aG aA rfl) (cU aG aA rfl) (nC (d+0)) (sF.cons (cU aG aA rfl) (cU aG aA rfl) (nC (d+0)) sF.nil))).iff (by simp only[Y8,Y2])
def aaH(d:Nat){x0 y0:Bool}{x1 y1:ByteArray}:sZ prog (d+2) 95 (.agg #[.bool x0,.string x1]) (.agg #[.bool y0,.string y1]) (x0=y0/\x1=y1):=(sZ.struct underlying95 (by kernel_rfl) (zZ.cons (by decide) (cZ pK rfl) (cZ pK rfl) (sZ.bool (d:=d+0) Wb) (zZ.cons (by decide) (cZ apU rfl) (cZ apU rfl) (sZ.str (d:=d+0) pN) zZ.nil))).iff (by simp only[Y8,Y2])
def an4(d:Nat){x0:Int}{x1:Int}     : sZ prog (d+3) 215 (.agg #[X6 x0,X6 x1,X6 x2,X6 x3,X6 x4,X6 x5]) (.agg #[X6 y0,X6 y1,X6 y2,X6 y3,X6 y4,X6 y5]) (x0=y0/\x1=y1/\x2=y2/\x3=y3/\x4=y4/\x5=y5):=(sZ.struct vS (by kernel_rfl) (zZ.cons (by decide) (cU aG aA rfl) (cU aG aA rfl) (nC (d+0)) (zZ.cons (by decide) (cU aG aA rfl) (cU aG aA rfl) (nC (d+0)) zZ.nil))).iff (by simp only[Y8,Y2])
def an5(d:Nat){x0 y0:Bool}{x1 y1:ByteArray}{x2 y2:Bool}{x3 y3:ByteArray}{x4 y4:Bool}{x5 y5:ByteArray}{x6 y6:Bool}{x7 y7:ByteArray}:sZ prog (d+3) 229 (.agg #[.bool x0,.string x1,.bool x2,.string x3,.bool x4,.string x5,.bool x6,.string x7]) (.agg #[.bool y0,.string y1,.bool y2,.string y3,.bool y4,.string y5,.bool y6,.string y7]) (x0=y0/\x1=y1/\x2=y2/\x3=y3/\x4=y4/\x5=y5/\x6=y6/\x7=y7):=(sZ.array underlying229 aO (sF.cons (cU bU aO rfl) (cU bU aO rfl) (aaH (d+0)) (sF.cons (cU bU aO rfl) (cU bU aO rfl) (aaH (d+0)) (sF.cons (cU bU aO rfl) (cU bU aO rfl) (aaH (d+0)) (sF.cons (cU bU aO rfl) (cU bU aO rfl) (aaH (d+0)) sF.nil))))).iff (by simp only[Y8,Y2])
end
section
variable{l:List aj}{ty:ba}{x y x0 x1 x2 x3:b_}{k:IntKind}{c0 c1 c2 c3 c4 c5 c6 c7 c8 c9 c10 c11 c12 c13 c14 c15 c16 c17 A B C D E F G H I J K L M N O0 P R S:aj}{ds:List ej}{ops:Array Oper}{rest:List Oper}{d:Nat}{pos:String}{after:Array Edge}{w:ak}
def jJ(a:ev l x=.agg #[c0,c1,c2])(b:ev l y=.int k 0):iB prog l (.index 36 x y) ty c0:=pV vT bK aY a b (by decide) (by decide) rfl
def jK(a:ev l x=.agg #[c0,c1,c2])(b:ev l y=.int k 1):iB prog l (.index 36 x y) ty c1:=pV vT bK aY a b (by decide) (by decide) rfl
def jL(a:ev l x=.agg #[c0,c1,c2])(b:ev l y=.int k 2):iB prog l (.index 36 x y) ty c2:=pV vT bK aY a b (by decide) (by decide) rfl
def uI(a:ev l x=.agg #[c0,c1,c2,c3,c4,c5,c6,c7,c8])(b:ev l y=.int k 0):iB prog l (.index 39 x y) ty (.agg #[c0,c1,c2]):=pW eB aG aA a b (by decide) (by decide) rfl
def uJ(a:ev l x=.agg #[c0,c1,c2,c3,c4,c5,c6,c7,c8])(b:ev l y=.int k 1):iB prog l (.index 39 x y) ty (.agg #[c3,c4,c5]):=pW eB aG aA a b (by decide) (by decide) rfl
def uK(a:ev l x=.agg #[c0,c1,c2,c3,c4,c5,c6,c7,c8])(b:ev l y=.int k 2):iB prog l (.index 39 x y) ty (.agg #[c6,c7,c8]):=pW eB aG aA a b (by decide) (by decide) rfl
def Gp(a:ev l x=.agg #[c0,c1,c2])(b:ev l y=.int k 0):iB prog l (.index 243 x y) ty c0:=pV underlying243 aaG Fk a b (by decide) (by decide) rfl
def Gq(a:ev l x=.agg #[c0,c1,c2])(b:ev l y=.int k 1):iB prog l (.index 243 x y) ty c1:=pV underlying243 aaG Fk a b (by decide) (by decide) rfl
def Gr(a:ev l x=.agg #[c0,c1,c2])(b:ev l y=.int k 2):iB prog l (.index 243 x y) ty c2:=pV underlying243 aaG Fk a b (by decide) (by decide) rfl
def We(a:ev l x=.agg #[c0,c1,c2,c3,c4,c5])(b:ev l y=.int k 0):iB prog l (.index 273 x y) ty (.agg #[c0,c1]):=pW underlying273 bU aO a b (by decide) (by decide) rfl
def Wf(a:ev l x=.agg #[c0,c1,c2,c3,c4,c5])(b:ev l y=.int k 1):iB prog l (.index 273 x y) ty (.agg #[c2,c3]):=pW underlying273 bU aO a b (by decide) (by decide) rfl
def Wg(a:ev l x=.agg #[c0,c1,c2,c3,c4,c5])(b:ev l y=.int k 2):iB prog l (.index 273 x y) ty (.agg #[c4,c5]):=pW underlying273 bU aO a b (by decide) (by decide) rfl
def Wh(a:ev l x=.agg #[c0,c1,c2,c3,c4,c5,c6,c7,c8,c9,c10,c11,c12,c13,c14,c15,c16,c17])(b:ev l y=.int k 0):iB prog l (.index 280 x y) ty (.agg #[c0,c1,c2,c3,c4,c5]):=pW underlying280 Fj uS a b (by decide) (by decide) rfl
def Wi(a:ev l x=.agg #[c0,c1,c2,c3,c4,c5,c6,c7,c8,c9,c10,c11,c12,c13,c14,c15,c16,c17])(b:ev l y=.int k 1):iB prog l (.index 280 x y) ty (.agg #[c6,c7,c8,c9,c10,c11]):=pW underlying280 Fj uS a b (by decide) (by decide) rfl
def Wj(a:ev l x=.agg #[c0,c1,c2,c3,c4,c5,c6,c7,c8,c9,c10,c11,c12,c13,c14,c15,c16,c17])(b:ev l y=.int k 2):iB prog l (.index 280 x y) ty (.agg #[c12,c13,c14,c15,c16,c17]):=pW underlying280 Fj uS a b (by decide) (by decide) rfl
def Wk(a:ev l x=.agg #[c0,c1,c2])(b:ev l y=.int k 0):iB prog l (.index 333 x y) ty c0:=pV underlying333 bK aY a b (by decide) (by decide) rfl
def Wl(a:ev l x=.agg #[c0,c1,c2])(b:ev l y=.int k 1):iB prog l (.index 333 x y) ty c1:=pV underlying333 bK aY a b (by decide) (by decide) rfl
def Wm(a:ev l x=.agg #[c0,c1,c2])(b:ev l y=.int k 2):iB prog l (.index 333 x y) ty c2:=pV underlying333 bK aY a b (by decide) (by decide) rfl
def fE{Q:Exit->Act->ak->Prop}(a:(ev l x0).cells = #[A,B,C,D,E,F,G,H,I])(h:∀w' g,fJ w w'->w.heap.size<=g->fQ w' g [A,B,C,D,E,F,G,H,I] 39->az prog ops Q rest (Fr (l.set d (.slice (X4 ⟨g,0,X5⟩) 1 1)) ds) w'):az prog ops Q (bu (X4 d) (.buildSlice 27 1 #[(0,x0)]) ty pos after X5::rest) (Fr l ds) w :=
 kK (vs:=#[(0,ev l x0)]) (base:=#[X6 0,X6 0,X6 0,X6 0,X6 0,X6 0,X6 0,X6 0,X6 0]) (c:=9) (z:=(.agg #[X6 0,X6 0,X6 0,X6 0,X6 0,X6 0,X6 0,X6 0,X6 0])) fC (by kernel_rfl) (by decide) (by decide) (by kernel_rfl) (by simp) (by simp[Instr.fill,a]) h
def ahF{Q:Exit->Act->ak->Prop}{T U V W X Y Z b e f i j k m n o p q:aj}(a:(ev l x0).cells = #[A,B,C,D,E,F,G,H,I])(h1:(ev l x1).cells = #[J,K,L,M,N,O0,P,R,S])(h2:(ev l x2).cells = #[T,U,V,W,X,Y,Z,b,e])(r:(ev l x3).cells = #[f,i,j,k,m,n,o,p,q])(h:∀w' g,fJ w w'->w.heap.size<=g->fQ w' g [A,B,C,D,E,F,G,H,I,J,K,L,M,N,O0,P,R,S,T,U,V,W,X,Y,Z,b,e,f,i,j,k,m,n,o,p,q] 39->az prog ops Q rest (Fr (l.set d (.slice (X4 ⟨g,0,X5⟩) 4 4)) ds) w'):az prog ops Q (bu (X4 d) (.buildSlice 27 4 #[(0,x0),(1,x1),(2,x2),(3,x3)]) ty pos after X5::rest) (Fr l ds) w :=
 kK (vs:=#[(0,ev l x0),(1,ev l x1),(2,ev l x2),(3,ev l x3)]) (base:=#[X6 0,X6 0,X6 0,X6 0,X6 0,X6 0,X6 0,X6 0,X6 0,X6 0,X6 0,X6 0,X6 0,X6 0,X6 0,X6 0,X6 0,X6 0,X6 0,X6 0,X6 0,X6 0,X6 0,X6 0,X6 0,X6 0,X6 0,X6 0,X6 0,X6 0,X6 0,X6 0,X6 0,X6 0,X6 0,X6 0]) (c:=9) (z:=(.agg #[X6 0,X6 0,X6 0,X6 0,X6 0,X6 0,X6 0,X6 0,X6 0])) fC (by kernel_rfl) (by decide) (by decide) (by kernel_rfl) (by simp) (by simp[Instr.fill,a,h1,h2,r]) h
def yF{Q:Exit->Act->ak->Prop}(a:(ev l x0).cells = #[A,B,C,D,E,F])(h:∀w' g,fJ w w'->w.heap.size<=g->fQ w' g [A,B,C,D,E,F] 55->az prog ops Q rest (Fr (l.set d (.slice (X4 ⟨g,0,X5⟩) 1 1)) ds) w'):az prog ops Q (bu (X4 d) (.buildSlice 46 1 #[(0,x0)]) ty pos after X5::rest) (Fr l ds) w :=
 kK (vs:=#[(0,ev l x0)]) (base:=#[X6 0,X6 0,X6 0,X6 0,X6 0,X6 0]) (c:=6) (z:=(.agg #[X6 0,X6 0,X6 0,X6 0,X6 0,X6 0])) underlying46 (by kernel_rfl) (by decide) (by decide) (by kernel_rfl) (by simp) (by simp[Instr.fill,a]) h
def Mn{Q:Exit->Act->ak->Prop}(a:(ev l x0).cells = #[A,B,C,D,E,F])(h:∀w' g,fJ w w'->w.heap.size<=g->fQ w' g [A,B,C,D,E,F] 56->az prog ops Q rest (Fr (l.set d (.slice (X4 ⟨g,0,X5⟩) 1 1)) ds) w'):az prog ops Q (bu (X4 d) (.buildSlice 52 1 #[(0,x0)]) ty pos after X5::rest) (Fr l ds) w :=
 kK (vs:=#[(0,ev l x0)]) (base:=#[X6 0,X6 0,X6 0,X6 0,X6 0,X6 0]) (c:=6) (z:=(.agg #[X6 0,X6 0,X6 0,X6 0,X6 0,X6 0])) wS (by kernel_rfl) (by decide) (by decide) (by kernel_rfl) (by simp) (by simp[Instr.fill,a]) h
def ahG{Q:Exit->Act->ak->Prop}(a:(ev l x0).cells = #[A,B,C,D,E,F])(h1:(ev l x1).cells = #[G,H,I,J,K,L])(h2:(ev l x2).cells = #[M,N,O0,P,R,S])(h:∀w' g,fJ w w'->w.heap.size<=g->fQ w' g [A,B,C,D,E,F,G,H,I,J,K,L,M,N,O0,P,R,S] 56->az prog ops Q rest (Fr (l.set d (.slice (X4 ⟨g,0,X5⟩) 3 3)) ds) w'):az prog ops Q (bu (X4 d) (.buildSlice 52 3 #[(0,x0),(1,x1),(2,x2)]) ty pos after X5::rest) (Fr l ds) w :=
 kK (vs:=#[(0,ev l x0),(1,ev l x1),(2,ev l x2)]) (base:=#[X6 0,X6 0,X6 0,X6 0,X6 0,X6 0,X6 0,X6 0,X6 0,X6 0,X6 0,X6 0,X6 0,X6 0,X6 0,X6 0,X6 0,X6 0]) (c:=6) (z:=(.agg #[X6 0,X6 0,X6 0,X6 0,X6 0,X6 0])) wS (by kernel_rfl) (by decide) (by decide) (by kernel_rfl) (by simp) (by simp[Instr.fill,a,h1,h2]) h
def kH{Q:Exit->Act->ak->Prop}(a:(ev l x0).cells = #[A,B,C])(h:∀w' g,fJ w w'->w.heap.size<=g->fQ w' g [A,B,C] 30->az prog ops Q rest (Fr (l.set d (.slice (X4 ⟨g,0,X5⟩) 1 1)) ds) w'):az prog ops Q (bu (X4 d) (.buildSlice 65 1 #[(0,x0)]) ty pos after X5::rest) (Fr l ds) w :=
 kK (vs:=#[(0,ev l x0)]) (base:=#[X6 0,X6 0,X6 0]) (c:=3) (z:=(.agg #[X6 0,X6 0,X6 0])) eR (by kernel_rfl) (by decide) (by decide) (by kernel_rfl) (by simp) (by simp[Instr.fill,a]) h
def Yk{Q:Exit->Act->ak->Prop}(a:(ev l x0).cells = #[A,B,C])(h1:(ev l x1).cells = #[D,E,F])(h:∀w' g,fJ w w'->w.heap.size<=g->fQ w' g [A,B,C,D,E,F] 30->az prog ops Q rest (Fr (l.set d (.slice (X4 ⟨g,0,X5⟩) 2 2)) ds) w'):az prog ops Q (bu (X4 d) (.buildSlice 65 2 #[(0,x0),(1,x1)]) ty pos after X5::rest) (Fr l ds) w :=
 kK (vs:=#[(0,ev l x0),(1,ev l x1)]) (base:=#[X6 0,X6 0,X6 0,X6 0,X6 0,X6 0]) (c:=3) (z:=(.agg #[X6 0,X6 0,X6 0])) eR (by kernel_rfl) (by decide) (by decide) (by kernel_rfl) (by simp) (by simp[Instr.fill,a,h1]) h
def ahH{Q:Exit->Act->ak->Prop}(a:(ev l x0).cells = #[A,B,C])(h1:(ev l x1).cells = #[D,E,F])(h2:(ev l x2).cells = #[G,H,I])(h:∀w' g,fJ w w'->w.heap.size<=g->fQ w' g [A,B,C,D,E,F,G,H,I] 30->az prog ops Q rest (Fr (l.set d (.slice (X4 ⟨g,0,X5⟩) 3 3)) ds) w'):az prog ops Q (bu (X4 d) (.buildSlice 65 3 #[(0,x0),(1,x1),(2,x2)]) ty pos after X5::rest) (Fr l ds) w :=
 kK (vs:=#[(0,ev l x0),(1,ev l x1),(2,ev l x2)]) (base:=#[X6 0,X6 0,X6 0,X6 0,X6 0,X6 0,X6 0,X6 0,X6 0]) (c:=3) (z:=(.agg #[X6 0,X6 0,X6 0])) eR (by kernel_rfl) (by decide) (by decide) (by kernel_rfl) (by simp) (by simp[Instr.fill,a,h1,h2]) h
def Fm{Q:Exit->Act->ak->Prop}(a:(ev l x0).cells = #[A,B,C])(h1:(ev l x1).cells = #[D,E,F])(h2:(ev l x2).cells = #[G,H,I])(b:(ev l x3).cells = #[J,K,L])(h:∀w' g,fJ w w'->w.heap.size<=g->fQ w' g [A,B,C,D,E,F,G,H,I,J,K,L] 30->az prog ops Q rest (Fr (l.set d (.slice (X4 ⟨g,0,X5⟩) 4 4)) ds) w'):az prog ops Q (bu (X4 d) (.buildSlice 65 4 #[(0,x0),(1,x1),(2,x2),(3,x3)]) ty pos after X5::rest) (Fr l ds) w :=
 kK (vs:=#[(0,ev l x0),(1,ev l x1),(2,ev l x2),(3,ev l x3)]) (base:=#[X6 0,X6 0,X6 0,X6 0,X6 0,X6 0,X6 0,X6 0,X6 0,X6 0,X6 0,X6 0]) (c:=3) (z:=(.agg #[X6 0,X6 0,X6 0])) eR (by kernel_rfl) (by decide) (by decide) (by kernel_rfl) (by simp) (by simp[Instr.fill,a,h1,h2,b]) h
def aeF{Q:Exit->Act->ak->Prop}(a:(ev l x0).cells = #[A,B,C,D,E,F,G,H])(h:∀w' g,fJ w w'->w.heap.size<=g->fQ w' g [A,B,C,D,E,F,G,H] 112->az prog ops Q rest (Fr (l.set d (.slice (X4 ⟨g,0,X5⟩) 1 1)) ds) w'):az prog ops Q (bu (X4 d) (.buildSlice 105 1 #[(0,x0)]) ty pos after X5::rest) (Fr l ds) w :=
 kK (vs:=#[(0,ev l x0)]) (base:=#[X6 0,X6 0,X6 0,X6 0,X6 0,X6 0,.bool X3,.string ⟨#[]⟩]) (c:=8) (z:=(.agg #[X6 0,X6 0,X6 0,X6 0,X6 0,X6 0,.bool X3,.string ⟨#[]⟩])) underlying105 (by kernel_rfl) (by decide) (by decide) (by kernel_rfl) (by simp) (by simp[Instr.fill,a]) h
def aeG{Q:Exit->Act->ak->Prop}{T U V W X:aj}(a:(ev l x0).cells = #[C,A,B,D,E,F,G,H,I,J,K,L,M,N,O0,P,R,S,T,U,V,W,X])(h:∀w' g,fJ w w'->w.heap.size<=g->fQ w' g [C,A,B,D,E,F,G,H,I,J,K,L,M,N,O0,P,R,S,T,U,V,W,X] 126->az prog ops Q rest (Fr (l.set d (.slice (X4 ⟨g,0,X5⟩) 1 1)) ds) w'):az prog ops Q (bu (X4 d) (.buildSlice 124 1 #[(0,x0)]) ty pos after X5::rest) (Fr l ds) w :=
 kK (vs:=#[(0,ev l x0)]) (base:=#[X6 0,X6 0,X6 0,.bool X3,.string ⟨#[]⟩,.bool X3,.string ⟨#[]⟩,.bool X3,.string ⟨#[]⟩,.bool X3,.string ⟨#[]⟩,.bool X3,.string ⟨#[]⟩,.bool X3,.string ⟨#[]⟩,.bool X3,.string ⟨#[]⟩,.bool X3,.string ⟨#[]⟩,.bool X3,.string ⟨#[]⟩,.bool X3,.string ⟨#[]⟩]) (c:=23) (z:=(.agg #[X6 0,X6 0,X6 0,.bool X3,.string ⟨#[]⟩,.bool X3,.string ⟨#[]⟩,.bool X3,.string ⟨#[]⟩,.bool X3,.string ⟨#[]⟩,.bool X3,.string ⟨#[]⟩,.bool X3,.string ⟨#[]⟩,.bool X3,.string ⟨#[]⟩,.bool X3,.string ⟨#[]⟩,.bool X3,.string ⟨#[]⟩,.bool X3,.string ⟨#[]⟩])) Mi (by kernel_rfl) (by decide) (by decide) (by kernel_rfl) (by simp) (by simp[Instr.fill,a]) h
def aeH{Q:Exit->Act->ak->Prop}(a:(ev l x0).cells = #[A,B,C,D,E,F,G,H])(h:∀w' g,fJ w w'->w.heap.size<=g->fQ w' g [A,B,C,D,E,F,G,H] 130->az prog ops Q rest (Fr (l.set d (.slice (X4 ⟨g,0,X5⟩) 1 1)) ds) w'):az prog ops Q (bu (X4 d) (.buildSlice 127 1 #[(0,x0)]) ty pos after X5::rest) (Fr l ds) w :=
 kK (vs:=#[(0,ev l x0)]) (base:=#[X6 0,X6 0,X6 0,X6 0,X6 0,X6 0,.bool X3,.string ⟨#[]⟩]) (c:=8) (z:=(.agg #[X6 0,X6 0,X6 0,X6 0,X6 0,X6 0,.bool X3,.string ⟨#[]⟩])) underlying127 (by kernel_rfl) (by decide) (by decide) (by kernel_rfl) (by simp) (by simp[Instr.fill,a]) h
def aeI{Q:Exit->Act->ak->Prop}{a b:b_}(e:(ev l x0).cells = #[A])(h1:(ev l x1).cells = #[B])(h2:(ev l x2).cells = #[C])(f:(ev l x3).cells = #[D])(i:(ev l a).cells = #[E])(j:(ev l b).cells = #[F])(h:∀w' g,fJ w w'->w.heap.size<=g->fQ w' g [A,B,C,D,E,F] 26->az prog ops Q rest (Fr (l.set d (.slice (X4 ⟨g,0,X5⟩) 6 6)) ds) w'):az prog ops Q (bu (X4 d) (.buildSlice 157 6 #[(0,x0),(1,x1),(2,x2),(3,x3),(4,a),(5,b)]) ty pos after X5::rest) (Fr l ds) w :=
 kK (vs:=#[(0,ev l x0),(1,ev l x1),(2,ev l x2),(3,ev l x3),(4,ev l a),(5,ev l b)]) (base:=#[.nilFunc,.nilFunc,.nilFunc,.nilFunc,.nilFunc,.nilFunc]) (c:=1) (z:=(.nilFunc)) underlying157 (by kernel_rfl) (by decide) (by decide) (by kernel_rfl) (by simp) (by simp[Instr.fill,e,h1,h2,f,i,j]) h
def aeJ{Q:Exit->Act->ak->Prop}(a:(ev l x0).cells = #[A,B,C,D,E,F])(h:∀w' g,fJ w w'->w.heap.size<=g->fQ w' g [A,B,C,D,E,F] 215->az prog ops Q rest (Fr (l.set d (.slice (X4 ⟨g,0,X5⟩) 1 1)) ds) w'):az prog ops Q (bu (X4 d) (.buildSlice 212 1 #[(0,x0)]) ty pos after X5::rest) (Fr l ds) w :=
 kK (vs:=#[(0,ev l x0)]) (base:=#[X6 0,X6 0,X6 0,X6 0,X6 0,X6 0]) (c:=6) (z:=(.agg #[X6 0,X6 0,X6 0,X6 0,X6 0,X6 0])) underlying212 (by kernel_rfl) (by decide) (by decide) (by kernel_rfl) (by simp) (by simp[Instr.fill,a]) h
end
section
set_option maxRecDepth 100000
attribute [local irreducible] az cw fW bX cP Code.wp
variable{q:H}
def apV{p:H}:tN prog 276 [pt p] (X6 p.x):=by
 intro w;refine⟨ajZ,?_⟩;have m:=iC.refl w
 go_enter func276,ntmps276
 refine bM λe a=>av (oX m O ?_);intro g u m;refine aD aM (aI (a _ _ ?_));refine bM λf d=>av (aD (aU (c:=0) underlying245 O aY O O) ?_);simp only[G];refine bE O ((m.b 0 O).lies1 bK O) ?_;simp only[G];refine aD aM (aI (d _ _ ?_));refine jv ?_;simp only[G];try simp only[dq,Exit.then,K0]
 refine aS O O ?_;try simp only[zD,zE]
 exact⟨_,O,m.ext,O⟩
def apW{p:H}:tN prog 277 [pt p] (X6 p.y):=by
 intro w;refine⟨aj0,?_⟩;have m:=iC.refl w
 go_enter func277,ntmps277
 refine bM λe a=>av (oX m O ?_);intro g u m;refine aD aM (aI (a _ _ ?_));refine bM λf d=>av (aD (aU (c:=0) underlying245 O aY O O) ?_);simp only[G];refine bE O ((m.b 0 O).lies1 bK O) ?_;simp only[G];refine aD aM (aI (d _ _ ?_));refine jv ?_;simp only[G];try simp only[dq,Exit.then,K0]
 refine aS O O ?_;try simp only[zD,zE]
 exact⟨_,O,m.ext,O⟩
def apX{p:H}:tN prog 278 [pt p] (X6 p.z):=by
 intro w;refine⟨aj1,?_⟩;have m:=iC.refl w
 go_enter func278,ntmps278
 refine bM λe a=>av (oX m O ?_);intro g u m;refine aD aM (aI (a _ _ ?_));refine bM λf d=>av (aD (aU (c:=0) underlying245 O aY O O) ?_);simp only[G];refine bE O ((m.b 0 O).lies1 bK O) ?_;simp only[G];refine aD aM (aI (d _ _ ?_));refine jv ?_;simp only[G];try simp only[dq,Exit.then,K0]
 refine aS O O ?_;try simp only[zD,zE]
 exact⟨_,O,m.ext,O⟩
def an6  : tN prog 195 [] (.agg #[.func (.func 276) #[] #[],.func (.func 277) #[] #[],.func (.func 278) #[] #[]]):=by
 intro w;refine⟨ajY,?_⟩;have m:=iC.refl w
 go_enter func195,ntmps195
 refine bM λd a=>av (anv m acn O ?_);intro f u m;refine aI (a _ _ ?_);refine bM λe c=>av (aD (Kb O O O) ?_);simp only[G];refine aja m 0 O O O Mm (gS O) O ?_;intro u m;simp only[zy,zx,over,zF,zG,aa] at m;refine aI (c _ _ ?_);refine jv ?_;try simp only[dq,Exit.then,K0]
 refine aS O ⟨_,O,((m.b 0 O).full af8 Mm)⟩ ?_;try simp only[zD,zE]
 exact⟨_,O,m.ext,O⟩
def uL{p:H}:tN prog 130 [pt p,pt q] (.bool (decide (p.Lt q))):=by
 intro w;refine⟨bJ func130 (by kernel_rfl),?_⟩;have m:=iC.refl w
 go_enter func130,ntmps130
 refine bM λQ c=>av (oX m O ?_);intro g1 u m;simp only[G];refine oX m O ?_;intro g2 u m;refine aD aM (aI (c _ _ ?_));refine bM λR d=>bM λS e=>av ?_;simp only[G];refine Pv m O O an6 ?_;intro u m;refine aD aJ (aI (e _ _ ?_));refine ki (qj 4 (Cr (bM λT f=>av (aD (rI (m:=0) (n:=3) O O (by decide)) (aI (f _ _ ?_))))));refine bM λU g=>Ck O (km (g _ _ ?_));refine bM λV i=>ki (bM λW j=>av (aD (Gp O O) ?_));simp only[G];refine aD aM (aI (j _ _ ?_));refine bM λX k=>?_;simp only[G];refine Gmq m aB (by kernel_rfl) (aK aJ ?_);simp only[G];refine Vo O (λu m=>((m.b 1 O).full aG aA)) ?_;simp only[G];refine Jc O O apV (aK aJ ?_);simp only[G];refine Vo O (λu m=>((m.b 0 O).full aG aA)) ?_;simp only[G];refine Jc O O apV (aK aM (aK aM (aZ ?_)));intro u m;refine k _ _ ?_;refine bM λZ l=>av (aD aJ ?_);simp only[G];refine aD aJ (aD (rD O O) (aI (l _ _ ?_)));simp only[G];refine bC O ?_ ?_<;>intro a
 .refine bM λaa o=>av (aD aJ (aD aJ (aD (xQ O O) (aD aM ?_))));simp only[G];refine aI (o _ _ ?_);refine jv ?_;try simp only[dq,Exit.then,K0]
  refine aS O O ?_;try simp only[zD,zE]
  exact⟨_,O,m.ext,by simp only[H.lt_x a]⟩
 have ex:p.x=q.x:=by omega
 refine km (i _ _ ?_);refine av (aD (fU (m:=0) (n:=1) (r:=1) O O (by decide)) (aD aJ (aI (lI (bM λab s=>av (aD (rI (m:=1) (n:=3) O O (by decide)) (aI (s _ _ ?_))))))));refine bM λad t=>Ck O (km (t _ _ ?_));refine bM λae v=>ki (bM λaf A=>av (aD (Gq O O) ?_));simp only[G];refine aD aM (aI (A _ _ ?_));refine bM λag B=>?_;simp only[G];refine Gmq m aB (by kernel_rfl) (aK aJ ?_);simp only[G];refine Vo O (λu m=>((m.b 1 O).full aG aA)) ?_;simp only[G];refine Jc O O apW (aK aJ ?_);simp only[G];refine Vo O (λu m=>((m.b 0 O).full aG aA)) ?_;simp only[G];refine Jc O O apW (aK aM (aK aM (aZ ?_)));intro u m;refine B _ _ ?_;refine bM λah C=>av (aD aJ ?_);simp only[G];refine aD aJ (aD (rD O O) (aI (C _ _ ?_)));simp only[G];refine bC O ?_ ?_<;>intro a
 .refine bM λai D=>av (aD aJ (aD aJ (aD (xQ O O) (aD aM ?_))));simp only[G];refine aI (D _ _ ?_);refine jv ?_;try simp only[dq,Exit.then,K0]
  refine aS O O ?_;try simp only[zD,zE]
  exact⟨_,O,m.ext,by simp only[H.lt_y ex a]⟩
 have ey:p.y=q.y:=by omega
 refine km (v _ _ ?_);refine av (aD (fU (m:=1) (n:=1) (r:=2) O O (by decide)) (aD aJ (aI (lI (bM λaj E=>av (aD (rI (m:=2) (n:=3) O O (by decide)) (aI (E _ _ ?_))))))));refine bM λak F=>Ck O (km (F _ _ ?_));refine bM λal I=>ki (bM λam J=>av (aD (Gr O O) ?_));simp only[G];refine aD aM (aI (J _ _ ?_));refine bM λan K=>?_;simp only[G];refine Gmq m aB (by kernel_rfl) (aK aJ ?_);simp only[G];refine Vo O (λu m=>((m.b 1 O).full aG aA)) ?_;simp only[G];refine Jc O O apX (aK aJ ?_);simp only[G];refine Vo O (λu m=>((m.b 0 O).full aG aA)) ?_;simp only[G];refine Jc O O apX (aK aM (aK aM (aZ ?_)));intro u m;refine K _ _ ?_;refine bM λao L=>av (aD aJ ?_);simp only[G];refine aD aJ (aD (rD O O) (aI (L _ _ ?_)));simp only[G];refine bC O ?_ ?_<;>intro a
 .refine bM λap M=>av (aD aJ (aD aJ (aD (xQ O O) (aD aM ?_))));simp only[G];refine aI (M _ _ ?_);refine jv ?_;try simp only[dq,Exit.then,K0]
  refine aS O O ?_;try simp only[zD,zE]
  exact⟨_,O,m.ext,by simp only[H.lt_z ex ey]⟩
 have ez:p.z=q.z:=by omega
 refine km (I _ _ ?_);refine av (aD (fU (m:=2) (n:=1) (r:=3) O O (by decide)) (aD aJ (aI (lI (bM λaq N=>av (aD (Gy (m:=3) (n:=3) O O (by decide)) (aI (N _ _ ?_))))))));refine bM λar aw=>agY O (wp_exit (d _ _ ?_));refine bM λau P=>av (aD aM ?_);simp only[G];refine aI (P _ _ ?_);refine jv ?_;try simp only[dq,Exit.then,K0]
 refine aS O O ?_;try simp only[zD,zE]
 exact⟨_,O,m.ext,by rw[Y (λh=>by unfold H.Lt at h;omega)]⟩
def Fo{p:H}:tN prog 116 [pt p,pt q] (X6 (rC p q)):=by
 intro w;refine⟨bJ func116 (by kernel_rfl),?_⟩;have m:=iC.refl w
 go_enter func116,ntmps116
 refine bM λk d=>av (oX m O ?_);intro v u m;simp only[G];refine oX m O ?_;intro x u m;refine aD aM (aI (d _ _ ?_));refine bM λl e=>ki (bM λn f=>av ?_);simp only[G];refine bE O ((m.b 1 O).full aG aA) ?_;simp only[G];refine bE O ((m.b 0 O).full aG aA) ?_;simp only[G];refine Pv m O O uL ?_;intro u m;refine aD aM (aI (f _ _ ?_));simp only[G];refine bC O ?_ ?_<;>intro a
 .refine bM λo g=>av (aD aM (aI (g _ _ ?_)));refine jv ?_;simp only[G];try simp only[dq,Exit.then,K0]
  refine aS O O ?_;try simp only[zD,zE]
  exact⟨_,O,m.ext,by simp[rC,a]⟩
 refine bM λr h=>av (bE O ((m.b 0 O).full aG aA) ?_);simp only[G];refine bE O ((m.b 1 O).full aG aA) ?_;simp only[G];refine Pv m O O uL ?_;intro u m;refine aD aM (aI (h _ _ ?_));simp only[G];refine bC O ?_ ?_<;>intro c
 .refine bM λs i=>av (aD aM (aI (i _ _ ?_)));refine jv ?_;simp only[G];try simp only[dq,Exit.then,K0]
  refine aS O O ?_;try simp only[zD,zE]
  exact⟨_,O,m.ext,by simp[rC,a,c]⟩
 refine km (e _ _ ?_);refine bM λt j=>av (aD aM (aI (j _ _ ?_)));refine jv ?_;simp only[G];try simp only[dq,Exit.then,K0]
 refine aS O O ?_;try simp only[zD,zE]
 exact⟨_,O,m.ext,by simp[rC,a,c]⟩
end
end Go.Proofs.YtfekpcimgncioaaGreatDoor
namespace Go.Lith
open Go.RowKit
def akj(P:bt)(f:FuncId)(args:List aj)(w:ak)(v:aj):Prop:=Entr P f/\Calls P f args.toArray w λe w'=>∃u,e=.returned u/\GX w w'/\u=v
section
variable {P:bt} {ds:List ej} {l:List aj} {x y:b_} {T ty:ba}
variable {ops:Array Oper} {Q:Exit->Act->ak->Prop} {rest:List Oper} {d:Nat} {pos:String} {after:Array Edge} {w w0:ak} {is:List It} {v:aj}
def akk{E:ba}{z:aj}(m:iC w0 w is)(f:P.underlying T=X4 (.slice E))(a:(P.info? E).map (λi=>(i.size,i.zero))=X4 (1,X4 z))(p:z.cells = #[z]){v v2:aj}(k:ev l x=v)(j:v.cells = #[v])(n:ev l y=v2)(q:v2.cells = #[v2])
 (h:∀g u,iC w0 u (bI g [v,v2] E::is)->az P ops Q rest (Fr (l.set d (.slice (X4 ⟨g,0,X5⟩) 2 2)) ds) u) :
 az P ops Q (bu (X4 d) (.buildSlice T 2 #[(0,x),(1,y)]) ty pos after X5::rest) (Fr l ds) w:=by
 cases hq:P.info? E with
 | none=>rw[hq] at a;cases a
 | some i =>
  rw[hq] at a;simp only[gh,ik,gl] at a;obtain⟨b,c⟩:=a;exact mG (w':=w.alloc (.cells #[v,v2] E)) (v:=.slice (X4 ⟨w.heap.size,0,X5⟩) 2 2) (λo e _=>by simp[execOp,e,Instr.buildSlice,run_underlying f,sizeOf,typeInfo,zeroValue,hq,b,c,p,cN,k,j,n,q,Instr.fill,newRow,newObj,Sem.run,Iy]) (h _ _ (m.go (m.mem.newB ((fJ.refl w).alloc _) (ar _) (iV w [v,v2] E)) (ar _)))
def aaI(z v v2 v3:aj):(((Array.map (λx=>[z][x%1]?.getD default) (Array.range 3)).setIfInBounds 0 v).setIfInBounds 1 v2).setIfInBounds 2 v3 = #[v,v2,v3]:=by
 apply Array.ext (by simp);intro i h1 h2;have a:i<3:=by simpa using h2
 rcases Nat.lt_trichotomy i 1 with h | h | h
 . obtain rfl:i=0:=by omega
   simp
 . subst h
   simp
 obtain rfl:i=2:=by omega
 simp
def acu{E:ba}{z:aj}{b:b_}(m:iC w0 w is)(j:P.underlying T=X4 (.slice E))(a:(P.info? E).map (λi=>(i.size,i.zero))=X4 (1,X4 z))(q:z.cells = #[z]){v v2 v3:aj}(n:ev l x=v)(k:v.cells = #[v])(p:ev l y=v2)(r:v2.cells = #[v2])(t:ev l b=v3)(s:v3.cells = #[v3])
 (h:∀g u,iC w0 u (bI g [v,v2,v3] E::is)->az P ops Q rest (Fr (l.set d (.slice (X4 ⟨g,0,X5⟩) 3 3)) ds) u) :
 az P ops Q (bu (X4 d) (.buildSlice T 3 #[(0,x),(1,y),(2,b)]) ty pos after X5::rest) (Fr l ds) w:=by
 cases hq:P.info? E with
 | none=>rw[hq] at a;cases a
 | some i =>
  rw[hq] at a;simp only[gh,ik,gl] at a;obtain⟨c,e⟩:=a;exact mG (w':=w.alloc (.cells #[v,v2,v3] E)) (v:=.slice (X4 ⟨w.heap.size,0,X5⟩) 3 3) (λo f _=>by simp[execOp,f,Instr.buildSlice,run_underlying j,sizeOf,typeInfo,zeroValue,hq,c,e,q,cN,n,k,p,r,t,s,Instr.fill,newRow,newObj,Sem.run,aaI]) (h _ _ (m.go (m.mem.newB ((fJ.refl w).alloc _) (ar _) (iV w [v,v2,v3] E)) (ar _)))
def aaJ{f:FuncId}{a:b_}{xs:Array b_}{args:List aj}{first cap:Array aj}{a0:Array ba}(m:iC w0 w is)(g:ev l a=.func (.func f) first cap)(i:first.toList++xs.toList.map (ev l)++cap.toList=args)(hc:akj P f args w v)
 (h:∀u,iC w0 u is->az P ops Q rest (Fr (l.set d v) ds) u):az P ops Q (bu (X4 d) (.call { callee:=.value a,args:=xs,argTypes:=a0 }) ty pos after X5::rest) (Fr l ds) w:=by
 refine wpList_plain O λK c=>?_;unfold Oper.wp;rw[jY,pT hc.1 g i _ rfl];refine hc.2.mono ?_;rintro e w' ⟨u,rfl,b,rfl⟩;show K ((Fr l ds).put (X4 d) u) w'
 rw[gI];exact c _ _ (h w' (m.ext' b))
end
end Go.Lith
namespace Go.Proofs
open Go.Shelf
def Tryz.sort112_ren:Go.Shelf.Ren:=⟨fun | 6=>112 | 15=>181 | 14=>180 | 28=>254 | 29=>255 | 20=>246 | 21=>247 | 22=>248 | 23=>249 | 24=>250 | 25=>251 | 26=>252 | 27=>253 | 46=>309 | 47=>310 | 48=>311 | 49=>312 | 50=>313 | 57=>339 | n=>n,fun | 22=>27 | 24=>39 | 25=>162 | 3=>3 | 39=>141 | 0=>0 | 53=>297 | 55=>231 | 4=>4 | 46=>291 | 45=>290 | 50=>202 | 5=>5 | 9=>9 | 66=>343 | 70=>347 | 76=>369 | 77=>367 | n=>n,fun | n=>n⟩
def Tryz.sort112:Go.Proofs.SlLaysF0.n6 Tryz.prog Tryz.sort112_ren:={
 mixed:=by kernel_rfl
 f6:=⟨Tryz.f112.name,by decide,Tryz.func112.trans (C X4 (by kernel_rfl))⟩
 f14:=⟨Tryz.f180.name,by decide,Tryz.func180.trans (C X4 (by kernel_rfl))⟩
 f15:=Tryz.func181.trans (C X4 (by kernel_rfl))
 f20:=⟨Tryz.f246.name,by decide,Tryz.func246.trans (C X4 (by kernel_rfl))⟩
 f21:=⟨Tryz.f247.name,by decide,Tryz.func247.trans (C X4 (by kernel_rfl))⟩
 f22:=⟨Tryz.f248.name,by decide,Tryz.func248.trans (C X4 (by kernel_rfl))⟩
 f23:=⟨Tryz.f249.name,by decide,Tryz.func249.trans (C X4 (by kernel_rfl))⟩
 f24:=⟨Tryz.f250.name,by decide,Tryz.func250.trans (C X4 (by kernel_rfl))⟩
 f25:=⟨Tryz.f251.name,by decide,Tryz.func251.trans (C X4 (by kernel_rfl))⟩
 f26:=⟨Tryz.f252.name,by decide,Tryz.func252.trans (C X4 (by kernel_rfl))⟩
 f27:=⟨Tryz.f253.name,by decide,Tryz.func253.trans (C X4 (by kernel_rfl))⟩
 f28:=Tryz.func254.trans (C X4 (by kernel_rfl))
 f29:=Tryz.func255.trans (C X4 (by kernel_rfl))
 f46:=⟨Tryz.f309.name,by decide,Tryz.func309.trans (C X4 (by kernel_rfl))⟩
 f47:=Tryz.func310.trans (C X4 (by kernel_rfl))
 f48:=Tryz.func311.trans (C X4 (by kernel_rfl))
 f49:=⟨Tryz.f312.name,by decide,Tryz.func312.trans (C X4 (by kernel_rfl))⟩
 f50:=⟨Tryz.f313.name,by decide,Tryz.func313.trans (C X4 (by kernel_rfl))⟩
 f57:=⟨Tryz.f339.name,by decide,Tryz.func339.trans (C X4 (by kernel_rfl))⟩
 t0:=Tryz.underlying0
 a0:=Tryz.isAgg0
 z0:=Tryz.sizeOf0
 v0:=Tryz.zeroValue0
 t3:=Tryz.underlying3
 a3:=Tryz.isAgg3
 z3:=Tryz.sizeOf3
 v3:=Tryz.zeroValue3
 t4:=Tryz.underlying4
 a4:=Tryz.isAgg4
 z4:=Tryz.sizeOf4
 v4:=Tryz.zeroValue4
 t5:=Tryz.underlying5
 a5:=Tryz.isAgg5
 z5:=Tryz.sizeOf5
 v5:=Tryz.zeroValue5
 t9:=Tryz.underlying9
 a9:=Tryz.isAgg9
 z9:=Tryz.sizeOf9
 v9:=Tryz.zeroValue9
 t22:=Tryz.underlying27
 a22:=Tryz.isAgg27
 z22:=Tryz.sizeOf27
 v22:=Tryz.zeroValue27
 t25:=Tryz.underlying162
 a25:=Tryz.isAgg162
 z25:=Tryz.sizeOf162
 v25:=Tryz.zeroValue162
 t39:=Tryz.underlying141
 a39:=Tryz.isAgg141
 z39:=Tryz.sizeOf141
 v39:=Tryz.zeroValue141
 t45:=Tryz.underlying290
 a45:=Tryz.isAgg290
 z45:=Tryz.sizeOf290
 v45:=Tryz.zeroValue290
 t46:=Tryz.underlying291
 a46:=Tryz.isAgg291
 z46:=Tryz.sizeOf291
 v46:=Tryz.zeroValue291
 t50:=Tryz.underlying202
 a50:=Tryz.isAgg202
 z50:=Tryz.sizeOf202
 v50:=Tryz.zeroValue202
 t53:=Tryz.underlying297
 a53:=Tryz.isAgg297
 z53:=Tryz.sizeOf297
 v53:=Tryz.zeroValue297
 t55:=Tryz.underlying231
 a55:=Tryz.isAgg231
 z55:=Tryz.sizeOf231
 v55:=Tryz.zeroValue231
 t66:=Tryz.underlying343
 a66:=Tryz.isAgg343
 z66:=Tryz.sizeOf343
 v66:=Tryz.zeroValue343
 t70:=Tryz.underlying347
 a70:=Tryz.isAgg347
 z70:=Tryz.sizeOf347
 v70:=Tryz.zeroValue347
 t76:=Tryz.underlying369
 a76:=Tryz.isAgg369
 z76:=Tryz.sizeOf369
 v76:=Tryz.zeroValue369
 t77:=Tryz.underlying367
 a77:=Tryz.isAgg367
 z77:=Tryz.sizeOf367
 v77:=Tryz.zeroValue367 }
def Tryz.sort123_ren:Go.Shelf.Ren:=⟨fun | 6=>123 | 15=>181 | 14=>190 | 28=>254 | 29=>255 | 20=>259 | 21=>260 | 22=>261 | 23=>262 | 24=>263 | 25=>264 | 26=>265 | 27=>266 | 46=>319 | 47=>310 | 48=>311 | 49=>320 | 50=>321 | 57=>343 | n=>n,fun | 22=>105 | 24=>112 | 25=>115 | 3=>3 | 39=>141 | 0=>0 | 53=>297 | 55=>231 | 4=>4 | 46=>291 | 45=>290 | 50=>202 | 5=>5 | 9=>9 | 66=>343 | 70=>347 | 76=>369 | 77=>367 | n=>n,fun | n=>n⟩
def Tryz.sort123:Go.Proofs.SlLaysF0.n6 Tryz.prog Tryz.sort123_ren:={
 mixed:=by kernel_rfl
 f6:=⟨Tryz.f123.name,by decide,Tryz.func123.trans (C X4 (by kernel_rfl))⟩
 f14:=⟨Tryz.f190.name,by decide,Tryz.func190.trans (C X4 (by kernel_rfl))⟩
 f15:=Tryz.func181.trans (C X4 (by kernel_rfl))
 f20:=⟨Tryz.f259.name,by decide,Tryz.func259.trans (C X4 (by kernel_rfl))⟩
 f21:=⟨Tryz.f260.name,by decide,Tryz.func260.trans (C X4 (by kernel_rfl))⟩
 f22:=⟨Tryz.f261.name,by decide,Tryz.func261.trans (C X4 (by kernel_rfl))⟩
 f23:=⟨Tryz.f262.name,by decide,Tryz.func262.trans (C X4 (by kernel_rfl))⟩
 f24:=⟨Tryz.f263.name,by decide,Tryz.func263.trans (C X4 (by kernel_rfl))⟩
 f25:=⟨Tryz.f264.name,by decide,Tryz.func264.trans (C X4 (by kernel_rfl))⟩
 f26:=⟨Tryz.f265.name,by decide,Tryz.func265.trans (C X4 (by kernel_rfl))⟩
 f27:=⟨Tryz.f266.name,by decide,Tryz.func266.trans (C X4 (by kernel_rfl))⟩
 f28:=Tryz.func254.trans (C X4 (by kernel_rfl))
 f29:=Tryz.func255.trans (C X4 (by kernel_rfl))
 f46:=⟨Tryz.f319.name,by decide,Tryz.func319.trans (C X4 (by kernel_rfl))⟩
 f47:=Tryz.func310.trans (C X4 (by kernel_rfl))
 f48:=Tryz.func311.trans (C X4 (by kernel_rfl))
 f49:=⟨Tryz.f320.name,by decide,Tryz.func320.trans (C X4 (by kernel_rfl))⟩
 f50:=⟨Tryz.f321.name,by decide,Tryz.func321.trans (C X4 (by kernel_rfl))⟩
 f57:=⟨Tryz.f343.name,by decide,Tryz.func343.trans (C X4 (by kernel_rfl))⟩
 t0:=Tryz.underlying0
 a0:=Tryz.isAgg0
 z0:=Tryz.sizeOf0
 v0:=Tryz.zeroValue0
 t3:=Tryz.underlying3
 a3:=Tryz.isAgg3
 z3:=Tryz.sizeOf3
 v3:=Tryz.zeroValue3
 t4:=Tryz.underlying4
 a4:=Tryz.isAgg4
 z4:=Tryz.sizeOf4
 v4:=Tryz.zeroValue4
 t5:=Tryz.underlying5
 a5:=Tryz.isAgg5
 z5:=Tryz.sizeOf5
 v5:=Tryz.zeroValue5
 t9:=Tryz.underlying9
 a9:=Tryz.isAgg9
 z9:=Tryz.sizeOf9
 v9:=Tryz.zeroValue9
 t22:=Tryz.underlying105
 a22:=Tryz.isAgg105
 z22:=Tryz.sizeOf105
 v22:=Tryz.zeroValue105
 t25:=Tryz.underlying115
 a25:=Tryz.isAgg115
 z25:=Tryz.sizeOf115
 v25:=Tryz.zeroValue115
 t39:=Tryz.underlying141
 a39:=Tryz.isAgg141
 z39:=Tryz.sizeOf141
 v39:=Tryz.zeroValue141
 t45:=Tryz.underlying290
 a45:=Tryz.isAgg290
 z45:=Tryz.sizeOf290
 v45:=Tryz.zeroValue290
 t46:=Tryz.underlying291
 a46:=Tryz.isAgg291
 z46:=Tryz.sizeOf291
 v46:=Tryz.zeroValue291
 t50:=Tryz.underlying202
 a50:=Tryz.isAgg202
 z50:=Tryz.sizeOf202
 v50:=Tryz.zeroValue202
 t53:=Tryz.underlying297
 a53:=Tryz.isAgg297
 z53:=Tryz.sizeOf297
 v53:=Tryz.zeroValue297
 t55:=Tryz.underlying231
 a55:=Tryz.isAgg231
 z55:=Tryz.sizeOf231
 v55:=Tryz.zeroValue231
 t66:=Tryz.underlying343
 a66:=Tryz.isAgg343
 z66:=Tryz.sizeOf343
 v66:=Tryz.zeroValue343
 t70:=Tryz.underlying347
 a70:=Tryz.isAgg347
 z70:=Tryz.sizeOf347
 v70:=Tryz.zeroValue347
 t76:=Tryz.underlying369
 a76:=Tryz.isAgg369
 z76:=Tryz.sizeOf369
 v76:=Tryz.zeroValue369
 t77:=Tryz.underlying367
 a77:=Tryz.isAgg367
 z77:=Tryz.sizeOf367
 v77:=Tryz.zeroValue367 }
def Tryz.sort128_ren:Go.Shelf.Ren:=⟨fun | 6=>128 | 15=>181 | 14=>194 | 28=>254 | 29=>255 | 20=>268 | 21=>269 | 22=>270 | 23=>271 | 24=>272 | 25=>273 | 26=>274 | 27=>275 | 46=>322 | 47=>310 | 48=>311 | 49=>323 | 50=>324 | 57=>344 | n=>n,fun | 22=>65 | 24=>30 | 25=>123 | 3=>3 | 39=>141 | 0=>0 | 53=>297 | 55=>231 | 4=>4 | 46=>291 | 45=>290 | 50=>202 | 5=>5 | 9=>9 | 66=>343 | 70=>347 | 76=>369 | 77=>367 | n=>n,fun | n=>n⟩
def Tryz.sort128:Go.Proofs.SlLaysF0.n6 Tryz.prog Tryz.sort128_ren:={
 mixed:=by kernel_rfl
 f6:=⟨Tryz.f128.name,by decide,Tryz.func128.trans (C X4 (by kernel_rfl))⟩
 f14:=⟨Tryz.f194.name,by decide,Tryz.func194.trans (C X4 (by kernel_rfl))⟩
 f15:=Tryz.func181.trans (C X4 (by kernel_rfl))
 f20:=⟨Tryz.f268.name,by decide,Tryz.func268.trans (C X4 (by kernel_rfl))⟩
 f21:=⟨Tryz.f269.name,by decide,Tryz.func269.trans (C X4 (by kernel_rfl))⟩
 f22:=⟨Tryz.f270.name,by decide,Tryz.func270.trans (C X4 (by kernel_rfl))⟩
 f23:=⟨Tryz.f271.name,by decide,Tryz.func271.trans (C X4 (by kernel_rfl))⟩
 f24:=⟨Tryz.f272.name,by decide,Tryz.func272.trans (C X4 (by kernel_rfl))⟩
 f25:=⟨Tryz.f273.name,by decide,Tryz.func273.trans (C X4 (by kernel_rfl))⟩
 f26:=⟨Tryz.f274.name,by decide,Tryz.func274.trans (C X4 (by kernel_rfl))⟩
 f27:=⟨Tryz.f275.name,by decide,Tryz.func275.trans (C X4 (by kernel_rfl))⟩
 f28:=Tryz.func254.trans (C X4 (by kernel_rfl))
 f29:=Tryz.func255.trans (C X4 (by kernel_rfl))
 f46:=⟨Tryz.f322.name,by decide,Tryz.func322.trans (C X4 (by kernel_rfl))⟩
 f47:=Tryz.func310.trans (C X4 (by kernel_rfl))
 f48:=Tryz.func311.trans (C X4 (by kernel_rfl))
 f49:=⟨Tryz.f323.name,by decide,Tryz.func323.trans (C X4 (by kernel_rfl))⟩
 f50:=⟨Tryz.f324.name,by decide,Tryz.func324.trans (C X4 (by kernel_rfl))⟩
 f57:=⟨Tryz.f344.name,by decide,Tryz.func344.trans (C X4 (by kernel_rfl))⟩
 t0:=Tryz.underlying0
 a0:=Tryz.isAgg0
 z0:=Tryz.sizeOf0
 v0:=Tryz.zeroValue0
 t3:=Tryz.underlying3
 a3:=Tryz.isAgg3
 z3:=Tryz.sizeOf3
 v3:=Tryz.zeroValue3
 t4:=Tryz.underlying4
 a4:=Tryz.isAgg4
 z4:=Tryz.sizeOf4
 v4:=Tryz.zeroValue4
 t5:=Tryz.underlying5
 a5:=Tryz.isAgg5
 z5:=Tryz.sizeOf5
 v5:=Tryz.zeroValue5
 t9:=Tryz.underlying9
 a9:=Tryz.isAgg9
 z9:=Tryz.sizeOf9
 v9:=Tryz.zeroValue9
 t22:=Tryz.underlying65
 a22:=Tryz.isAgg65
 z22:=Tryz.sizeOf65
 v22:=Tryz.zeroValue65
 t25:=Tryz.underlying123
 a25:=Tryz.isAgg123
 z25:=Tryz.sizeOf123
 v25:=Tryz.zeroValue123
 t39:=Tryz.underlying141
 a39:=Tryz.isAgg141
 z39:=Tryz.sizeOf141
 v39:=Tryz.zeroValue141
 t45:=Tryz.underlying290
 a45:=Tryz.isAgg290
 z45:=Tryz.sizeOf290
 v45:=Tryz.zeroValue290
 t46:=Tryz.underlying291
 a46:=Tryz.isAgg291
 z46:=Tryz.sizeOf291
 v46:=Tryz.zeroValue291
 t50:=Tryz.underlying202
 a50:=Tryz.isAgg202
 z50:=Tryz.sizeOf202
 v50:=Tryz.zeroValue202
 t53:=Tryz.underlying297
 a53:=Tryz.isAgg297
 z53:=Tryz.sizeOf297
 v53:=Tryz.zeroValue297
 t55:=Tryz.underlying231
 a55:=Tryz.isAgg231
 z55:=Tryz.sizeOf231
 v55:=Tryz.zeroValue231
 t66:=Tryz.underlying343
 a66:=Tryz.isAgg343
 z66:=Tryz.sizeOf343
 v66:=Tryz.zeroValue343
 t70:=Tryz.underlying347
 a70:=Tryz.isAgg347
 z70:=Tryz.sizeOf347
 v70:=Tryz.zeroValue347
 t76:=Tryz.underlying369
 a76:=Tryz.isAgg369
 z76:=Tryz.sizeOf369
 v76:=Tryz.zeroValue369
 t77:=Tryz.underlying367
 a77:=Tryz.isAgg367
 z77:=Tryz.sizeOf367
 v77:=Tryz.zeroValue367 }
def Tryz.sort237_ren:Go.Shelf.Ren:=⟨fun | 6=>237 | 15=>181 | 14=>297 | 28=>254 | 29=>255 | 20=>328 | 21=>329 | 22=>330 | 23=>331 | 24=>332 | 25=>333 | 26=>334 | 27=>335 | 46=>345 | 47=>310 | 48=>311 | 49=>346 | 50=>347 | 57=>350 | n=>n,fun | 22=>212 | 24=>215 | 25=>216 | 3=>3 | 39=>141 | 0=>0 | 53=>297 | 55=>231 | 4=>4 | 46=>291 | 45=>290 | 50=>202 | 5=>5 | 9=>9 | 66=>343 | 70=>347 | 76=>369 | 77=>367 | n=>n,fun | n=>n⟩
def Tryz.sort237:Go.Proofs.SlLaysF0.n6 Tryz.prog Tryz.sort237_ren:={
 mixed:=by kernel_rfl
 f6:=⟨Tryz.f237.name,by decide,Tryz.func237.trans (C X4 (by kernel_rfl))⟩
 f14:=⟨Tryz.f297.name,by decide,Tryz.func297.trans (C X4 (by kernel_rfl))⟩
 f15:=Tryz.func181.trans (C X4 (by kernel_rfl))
 f20:=⟨Tryz.f328.name,by decide,Tryz.func328.trans (C X4 (by kernel_rfl))⟩
 f21:=⟨Tryz.f329.name,by decide,Tryz.func329.trans (C X4 (by kernel_rfl))⟩
 f22:=⟨Tryz.f330.name,by decide,Tryz.func330.trans (C X4 (by kernel_rfl))⟩
 f23:=⟨Tryz.f331.name,by decide,Tryz.func331.trans (C X4 (by kernel_rfl))⟩
 f24:=⟨Tryz.f332.name,by decide,Tryz.func332.trans (C X4 (by kernel_rfl))⟩
 f25:=⟨Tryz.f333.name,by decide,Tryz.func333.trans (C X4 (by kernel_rfl))⟩
 f26:=⟨Tryz.f334.name,by decide,Tryz.func334.trans (C X4 (by kernel_rfl))⟩
 f27:=⟨Tryz.f335.name,by decide,Tryz.func335.trans (C X4 (by kernel_rfl))⟩
 f28:=Tryz.func254.trans (C X4 (by kernel_rfl))
 f29:=Tryz.func255.trans (C X4 (by kernel_rfl))
 f46:=⟨Tryz.f345.name,by decide,Tryz.func345.trans (C X4 (by kernel_rfl))⟩
 f47:=Tryz.func310.trans (C X4 (by kernel_rfl))
 f48:=Tryz.func311.trans (C X4 (by kernel_rfl))
 f49:=⟨Tryz.f346.name,by decide,Tryz.func346.trans (C X4 (by kernel_rfl))⟩
 f50:=⟨Tryz.f347.name,by decide,Tryz.func347.trans (C X4 (by kernel_rfl))⟩
 f57:=⟨Tryz.f350.name,by decide,Tryz.func350.trans (C X4 (by kernel_rfl))⟩
 t0:=Tryz.underlying0
 a0:=Tryz.isAgg0
 z0:=Tryz.sizeOf0
 v0:=Tryz.zeroValue0
 t3:=Tryz.underlying3
 a3:=Tryz.isAgg3
 z3:=Tryz.sizeOf3
 v3:=Tryz.zeroValue3
 t4:=Tryz.underlying4
 a4:=Tryz.isAgg4
 z4:=Tryz.sizeOf4
 v4:=Tryz.zeroValue4
 t5:=Tryz.underlying5
 a5:=Tryz.isAgg5
 z5:=Tryz.sizeOf5
 v5:=Tryz.zeroValue5
 t9:=Tryz.underlying9
 a9:=Tryz.isAgg9
 z9:=Tryz.sizeOf9
 v9:=Tryz.zeroValue9
 t22:=Tryz.underlying212
 a22:=Tryz.isAgg212
 z22:=Tryz.sizeOf212
 v22:=Tryz.zeroValue212
 t25:=Tryz.underlying216
 a25:=Tryz.isAgg216
 z25:=Tryz.sizeOf216
 v25:=Tryz.zeroValue216
 t39:=Tryz.underlying141
 a39:=Tryz.isAgg141
 z39:=Tryz.sizeOf141
 v39:=Tryz.zeroValue141
 t45:=Tryz.underlying290
 a45:=Tryz.isAgg290
 z45:=Tryz.sizeOf290
 v45:=Tryz.zeroValue290
 t46:=Tryz.underlying291
 a46:=Tryz.isAgg291
 z46:=Tryz.sizeOf291
 v46:=Tryz.zeroValue291
 t50:=Tryz.underlying202
 a50:=Tryz.isAgg202
 z50:=Tryz.sizeOf202
 v50:=Tryz.zeroValue202
 t53:=Tryz.underlying297
 a53:=Tryz.isAgg297
 z53:=Tryz.sizeOf297
 v53:=Tryz.zeroValue297
 t55:=Tryz.underlying231
 a55:=Tryz.isAgg231
 z55:=Tryz.sizeOf231
 v55:=Tryz.zeroValue231
 t66:=Tryz.underlying343
 a66:=Tryz.isAgg343
 z66:=Tryz.sizeOf343
 v66:=Tryz.zeroValue343
 t70:=Tryz.underlying347
 a70:=Tryz.isAgg347
 z70:=Tryz.sizeOf347
 v70:=Tryz.zeroValue347
 t76:=Tryz.underlying369
 a76:=Tryz.isAgg369
 z76:=Tryz.sizeOf369
 v76:=Tryz.zeroValue369
 t77:=Tryz.underlying367
 a77:=Tryz.isAgg367
 z77:=Tryz.sizeOf367
 v77:=Tryz.zeroValue367 }
end Go.Proofs
namespace Go.Lith
open Go.RowKit
variable{w0 w:ak}{is:List It}{P:bt}{T:ba}{n:Nat}{α:Type}{op:Op}{q:Prop}{ops:Array Oper}{c:Code}
def Mem.gb(m:Mem w0 w is)(k:Nat){g:Nat}{cs:List aj}{t:ba}(a:is[k]? = X4 (bI g cs t)):w0.heap.size<=g:=m.ge _ (bf a) g rfl
def dT{l:List aj}{x:b_}{ty:ba}{a:Addr}(c:ev l x=.pointer (X4 a)):iB P l (.nilCheck x) ty (.pointer (X4 a)):=λw o b _=>by
 simp[execOp,b,cN,c]
inductive Ko where
 | c (c:Code)
 | b (id:Nat)
 | o (ops:Array Oper) (rest:List Oper)
 | k (K:Act->ak->Prop)
 | r (c:Code) (n:Nat)
def Ct(P:bt)(R:Exit->Act->ak->Prop):List Ko->Exit->Act->ak->Prop
 | []=>R
 | .c c::s=>Exit.then (c.wp P (Ct P R s)) (Ct P R s)
 | .b id::s=>dq id (Ct P R s)
 | .o ops rest::s=>Exit.then (az P ops (Ct P R s) rest) (Ct P R s)
 | .k K::s=>Exit.then K (Ct P R s)
 | .r c n::s=>Exit.then (Code.rounds P c (Ct P R s) n) (Ct P R s)
def Gt(P:bt)(R:Exit->Act->ak->Prop)(s:List Ko)(a:Act)(w:ak):Prop:=Ct P R s .normal a w
def akl{P:bt}{R:Exit->Act->ak->Prop}{a:Act}{w:ak}(h:R .ret a w):∀s,Ct P R s .ret a w
 | []=>h
 | .c _::s | .b _::s | .o _ _::s | .k _::s | .r _ _::s=>akl h s
/-! ### Values taken apart -/
def tS(v:aj)(f:IntKind->Int->Prop):Prop:=match v with | .int k m=>f k m | _=>False
def vvB(v:aj)(f:Bool->Prop):Prop:=match v with | .bool b=>f b | _=>False
def vvP(v:aj)(f:Addr->Prop):Prop:=match v with | .pointer (X4 a)=>f a | _=>False
def vvS(v:aj)(f:Option Addr->Nat->Nat->Prop):Prop:=match v with | .slice a n c=>f a n c | _=>False
def vvA(v:aj)(f:List aj->Prop):Prop:=match v with | .agg cs=>f cs.toList | _=>False
def vvT(v:aj)(f:List aj->Prop):Prop:=match v with | .tuple cs=>f cs.toList | _=>False
def Cg{α:Type}(o:Option α)(f:α->Prop):Prop:=match o with | some x=>f x | none=>False
def vbX(b:Bool)(p q:Prop):Prop:=match b with | true=>p | false=>q
def vnX(n:Nat)(p:Prop):Prop:=match n with | 0=>False | _+1=>p
def Wn:Nat->Nat->Prop->Prop->Prop
 | 0,0,p,_=>p
 | n+1,m+1,p,q=>Wn n m p q
 | _,_,_,q=>q
def Mo:List aj->Nat->(aj->Prop)->Prop
 | x::_,0,f=>f x
 | _::l,n+1,f=>Mo l n f
 | [],_,_=>False
def Hp:List aj->Nat->Prop
 | [],0=>True
 | _::l,n+1=>Hp l n
 | _,_=>False
def Fp:∀{l:List aj} {n:Nat},Hp l n->l.length=n
 | [],0,_=>rfl
 | _::l,n+1,h=>by rw[ay,Fp (l:=l) h]
def Qf:∀{l:List aj} {n:Nat} {f:aj->Prop},Mo l n f->∃v,l[n]? = X4 v/\f v
 | x::_,0,_,h=>⟨x,rfl,h⟩
 | _::l,n+1,_,h=>by rw[iq];exact Qf (l:=l) h
def aaM:List aj->Prop
 | []=>True
 | v::l=>v.oneCell'=Z/\aaM l
def agb:∀{l:List aj},aaM l->(l.all (·.oneCell'))=Z
 | [],_=>rfl
 | v::l,h=>by rw[List.all_cons,h.1,agb (l:=l) h.2];rfl
def InR(k:IntKind)(n:Int):Prop:=match k with
 | .i64=>-9223372036854775808<=n/\n<9223372036854775808
 | .i32=>-2147483648<=n/\n<2147483648
 | .u64=>0<=n/\n<18446744073709551616
 | .u32=>0<=n/\n<4294967296
 | .u8=>0<=n/\n<256
 | _=>False
def InR.wrap{k:IntKind}{n:Int}(h:InR k n):k.wrap n=n:=by
 cases k <;> first | exact h.elim | exact bZ h.1 h.2 | exact aiP h.1 h.2 | exact xS h.1 h.2 | exact aiO h.1 h.2 | exact afD h.1 h.2
/-! ### Types -/
def tT(P:bt)(T:ba):Option (Bool × Nat):=match P.underlying T,P.info? T with
 | some d,X4 i=>X4 (Ep d,i.size)
 | _,_=>X5
def Aw{b:Bool}(h:tT P T=X4 (b,n)):eX P T b/\dO P T n:=by
 unfold tT at h;split at h
 . rename_i d i h1 h2
   cases h;exact⟨⟨d,h1,O⟩,⟨i,h2,O⟩⟩
 cases h
def lX(P:bt)(T:ba)(i:Nat):Option (Nat × Bool × Nat):=match P.underlying T with
 | some (.struct fs)=>match fs[i]? with
  | some f=>(tT P f.type).map λx=>(f.offset,x)
  | none=>X5
 | _=>X5
def agc{i o:Nat}{b:Bool}(h:lX P T i=X4 (o,b,n)):∃fs f,P.underlying T=X4 (.struct fs)/\fs[i]? = X4 f/\f.offset=o/\eX P f.type b/\dO P f.type n:=by
 unfold lX at h;split at h
 . rename_i fs c
   split at h
   . rename_i f a
     cases hs:tT P f.type with
     | none=>rw[hs] at h;cases h
     | some x =>
      obtain⟨d,n'⟩:=x;rw[hs] at h;cases h;exact⟨fs,f,c,a,O,(Aw hs).1,(Aw hs).2⟩
   cases h
 cases h
def Mp(P:bt)(T:ba):Option (Option Nat × Nat):=match P.underlying T with
 | some (.array n E)=>(tT P E).map λx=>(X4 n,x.2)
 | some (.slice E)=>(tT P E).map λx=>(X5,x.2)
 | _=>X5
def Ge(P:bt)(T:ba):Option ba:=match P.underlying T with
 | some (.slice E)=>X4 E
 | _=>X5
def an8{E:ba}(h:Ge P T=X4 E):P.underlying T=X4 (.slice E):=by
 unfold Ge at h;split at h
 .rename_i b a;cases h;exact a
 cases h
def ikP(P:bt)(T:ba):Option IntKind:=match P.underlying T with
 | some (.int k)=>X4 k
 | _=>X5
def akm{k:IntKind}(h:ikP P T=X4 k):P.underlying T=X4 (.int k):=by
 unfold ikP at h;split at h
 .rename_i b a;cases h;exact a
 cases h
def Kd(P:bt)(T:ba):Option (List aj):=((P.info? T).bind (·.zero)).map (·.cells.toList)
def aaN{cs:List aj}(h:Kd P T=X4 cs):∃z,nJ P T z/\z.cells=cs.toArray:=by
 unfold Kd at h;cases a:(P.info? T).bind (·.zero) with
 | none=>rw[a] at h;cases h
 | some z=>rw[a] at h;cases h;exact⟨z,jE a,by simp⟩
def yG(P:bt)(T:ba):Option (List (Nat × Nat) × List aj):=match P.underlying T,Kd P T with
 | some (.struct fs),X4 z=>(fs.toList.mapM λ(f:Field)=>(tT P f.type).map λx=>(f.offset,x.2)).map λl=>(l,z)
 | some (.array n E),X4 z=>(tT P E).map λx=>((ke n).map λi=>(i*x.2,x.2),z)
 | _,_=>X5
def aaO:List (Nat × Nat)->Nat->(Nat × Nat->Prop)->Prop
 | x::_,0,f=>f x
 | _::l,n+1,f=>aaO l n f
 | [],_,_=>False
def blV(l:List aj)(a:List (Nat × Nat)):List (Nat × b_)->List aj->Prop->(Prop->List aj->Prop)->Prop
 | [],cs,q,f=>f q cs
 | (i,x)::ps,cs,q,f=>aaO a i λz=>vnX z.2 (blV l a ps (over cs z.1 (ev l x).cells.toList) (Hp (ev l x).cells.toList z.2/\Hp ((cs.drop z.1).take z.2) z.2/\q) f)
/-! ### Operations -/
def vvX(n:Option Nat)(v:aj)(f:Addr->Nat->Prop):Prop:=match n with
 | some n=>vvP v λa=>f a n
 | none=>vvS v λA n _=>Cg A λa=>f a n
abbrev KV:Type:=Prop->aj->List Nat->List It->Prop
variable{K:KV}
def cV(a:List Nat)(p:Prop)[Decidable p](K:KV)(is:List It):Prop:=match a with
 | 0::a=>K True (.bool (decide p)) a is
 | 1::a=>K p (.bool Z) a is
 | 2::a=>K (¬p) (.bool X3) a is
 | _=>False
def vvE(v:aj)(f:IntKind->Int->Prop)(g:List aj->Prop):Prop:=match v with
 | .int k m=>f k m
 | .agg cs=>g cs.toList
 | _=>False
def EqB(P:bt)(T:ba)(cs us:List aj)(b:Bool):Prop:=P.eqGuardType P.depth T=X3/\sZ P 10000 T (.agg cs.toArray) (.agg us.toArray) (b=Z)
def NeB(P:bt)(T:ba)(cs us:List aj)(b:Bool):Prop:=P.eqGuardType P.depth T=X3/\sZ P 10000 T (.agg cs.toArray) (.agg us.toArray) (b=X3)
def biV(P:bt)(T:ba)(b:BinOp)(x y:aj)(c:List Nat)(is:List It)(K:KV):Prop:=match b with
 | .add=>tS x λk m=>tS y λa n=>K (a=k/\InR k (m+n)) (.int k (m+n)) c is
 | .sub=>tS x λk m=>tS y λa n=>K (a=k/\InR k (m-n)) (.int k (m-n)) c is
 | .mul=>tS x λk m=>tS y λa n=>K (a=k/\InR k (m*n)) (.int k (m*n)) c is
 | .lss=>tS x λk m=>tS y λa n=>cV c (m<n) (λp=>K (a=k/\p)) is
 | .leq=>tS x λk m=>tS y λa n=>cV c (m<=n) (λp=>K (a=k/\p)) is
 | .gtr=>tS x λk m=>tS y λa n=>cV c (n<m) (λp=>K (a=k/\p)) is
 | .geq=>tS x λk m=>tS y λa n=>cV c (n<=m) (λp=>K (a=k/\p)) is
 | .eql=>vvE x (λk m=>tS y λa n=>cV c (m=n) (λp=>K (a=k/\p)) is) λcs=>vvA y λus=>∃b,EqB P T cs us b/\K True (.bool b) c is
 | .neq=>vvE x (λk m=>tS y λa n=>cV c (m≠n) (λp=>K (a=k/\p)) is) λcs=>vvA y λus=>∃b,NeB P T cs us b/\K True (.bool b) c is
 | _=>False
abbrev Ob:Type:=Nat × List aj × ba
def atO:List Ob->Nat->(Ob->Prop)->Prop
 | x::_,0,f=>f x
 | _::l,n+1,f=>atO l n f
 | [],_,_=>False
def atB:List It->List Ob->Nat->(Ob->Prop)->Prop
 | i::_,_,0,f=>Cg i.bk f
 | _::is,os,n+1,f=>atB is os n f
 | [],os,n,f=>atO os n f
def atM:List It->Nat->(Ob->Prop)->Prop
 | i::_,0,f=>Cg i.bk f
 | _::is,n+1,f=>atM is n f
 | [],_,_=>False
def akp:∀{os:List Ob} {k:Nat} {f:Ob->Prop},atO os k f->∃x∈os,f x
 | x::_,0,_,h=>⟨x,br ..,h⟩
 | _::os,k+1,_,h=>let ⟨x,b,a⟩:=akp (os:=os) h;⟨x,bp _ b,a⟩
def pC{o:Option α}{f:α->Prop}(h:Cg o f):∃x,o=X4 x/\f x:=by
 cases o with
 | none=>exact h.elim
 | some x=>exact⟨x,rfl,h⟩
def aeL:∀{is:List It} {k:Nat} {f:Ob->Prop},atM is k f->∃i x,is[k]? = X4 i/\i.bk=X4 x/\f x
 | i::_,0,_,h=>let ⟨x,b,a⟩:=pC h;⟨i,x,rfl,b,a⟩
 | _::is,k+1,_,h=>by rw[iq];exact aeL (is:=is) h
def akq:∀{is:List It} {os:List Ob} {k:Nat} {f:Ob->Prop},atB is os k f->(∃i∈is,∃x,i.bk=X4 x/\f x)\/∃x∈os,f x
 | i::_,_,0,_,h=>let ⟨x,c,a⟩:=pC h;.inl ⟨i,br ..,x,c,a⟩
 | _::is,os,k+1,_,h=>(akq (is:=is) (os:=os) h).imp (λ⟨i,b,r⟩=>⟨i,bp _ b,r⟩) id
 | [],_,_,_,h=>.inr (akp h)
def caV(P:bt)(l:List aj)(is:List It)(b:Builtin)(xs:List b_)(ts:List ba)(c:List Nat)(K:KV):Prop:=match b,xs,ts with
 | .len,[x],[T]=>Cg (Ge P T) λ_=>vvS (ev l x) λ_ n _=>K True (.int .i64 n) c is
 | .min,[x,y],_=>tS (ev l x) λk m=>tS (ev l y) λa n=>K (a=k) (.int k (if n<m then n else m)) c is
 | .max,[x,y],_=>tS (ev l x) λk m=>tS (ev l y) λa n=>K (a=k) (.int k (if m<n then n else m)) c is
 | _,_,_=>False
def ldK(g:aj->Prop):Nat->Prop
 | 0=>∃p:H,g (pt p)
 | 1=>∃t:T3,g (tr t)
 | 2=>∃z:Int,g (.int .i64 z)
 | 3=>∃b:Bool,g (.bool b)
 | 4=>∃e:E3,g (ed e)
 | 5=>∃n:Int,g (W n)
 | _=>∃v:aj,g v
def aq8{g:aj->Prop}{k:Nat}(h:ldK g k):∃v,g v:=by
 unfold ldK at h;split at h <;> (obtain⟨x,h⟩:=h;exact⟨_,h⟩)
def Ch(P:bt)(w0:ak)(l:List aj)(is:List It)(os:List Ob)(e:Bool)(op:Op)(d:List Nat)(K:KV):Prop:=match op with
 | .move x=>K True (ev l x) d is
 | .assign x=>K True (ev l x) d is
 | .nilCheck x=>vvP (ev l x) λa=>K True (.pointer (X4 a)) d is
 | .pick c x y=>vvB (ev l c) λb=>vbX b (K True (ev l x) d is) (K True (ev l y) d is)
 | .binOp b T x y _=>biV P T b (ev l x) (ev l y) d is K
 | .unOp .not _ x=>vvB (ev l x) λb=>K True (.bool (!b)) d is
 | .unOp .neg _ x=>tS (ev l x) λk m=>K (InR k (0-m)) (.int k (0-m)) d is
 | .convert T T' x=>Cg (ikP P T) λ_=>Cg (ikP P T') λk=>tS (ev l x) λ_ m=>K (InR k m) (.int k m) d is
 | .fieldAddr T x i=>Cg (lX P T i) λf=>vvP (ev l x) λa=>vnX f.2.2 (K True (.pointer (X4 (a.add f.1))) d is)
 | .indexAddr T x y=>Cg (Mp P T) λz=>vvX z.1 (ev l x) λa n=>tS (ev l y) λ_ m=>K (0<=m/\m<n) (.pointer (X4 (a.add (m.toNat*z.2)))) d is
 | .field T x i=>Cg (lX P T i) λf=>vvA (ev l x) λcs=>vbX f.2.1 (K True (.agg ((cs.drop f.1).take f.2.2).toArray) d is) (Mo cs f.1 λv=>K True v d is)
 | .build T parts=>Cg (yG P T) λz=>blV l z.1 parts.toList z.2 True λq cs=>K q (.agg cs.toArray) d is
 | .extract x i=>vvT (ev l x) λcs=>Mo cs i λv=>K True v d is
 | .load T x=>match d with
  | 0::k::d=>vvP (ev l x) λa=>ldK (λv=>(∀w,Mem w0 w is->dQ P w T a v)/\K True v d is) k
  | (k+1)::d=>Cg (tT P T) λz=>vvP (ev l x) λa=>atB is os k λg=>vbX z.1 (K (a=⟨g.1,a.off,X5⟩/\Hp ((g.2.1.drop a.off).take z.2) z.2) (.agg ((g.2.1.drop a.off).take z.2).toArray) d is) (Mo g.2.1 a.off λv=>K (a=⟨g.1,a.off,X5⟩) v d is)
  | _=>False
 | .box T x=>vbX e False (∀g,K True (.pointer (X4 ⟨g,0,X5⟩)) d (bI g (ev l x).cells.toList T::is))
 | .alloc T=>vbX e False (Cg (Kd P T) λz=>∀g,K True (.pointer (X4 ⟨g,0,X5⟩)) d (bI g z T::is))
 | .call c=>match c.callee with
  | .builtin b=>caV P l is b c.args.toList c.argTypes.toList d K
  | _=>False
 | _=>False
def stV(P:bt)(l:List aj)(is:List It)(c:Bool)(op:Op)(b:List Nat)(K:KV):Prop:=match op,b with
 | .store T x y,k::b=>vbX c False (Cg (tT P T) λz=>vnX z.2 (vvP (ev l x) λa=>atM is k λg=>K (a=⟨g.1,a.off,X5⟩/\Hp ((g.2.1.drop a.off).take z.2) z.2/\Hp (ev l y).cells.toList z.2/\aaM (ev l y).cells.toList) undef b (is.set k (bI g.1 (over g.2.1 a.off (ev l y).cells.toList) g.2.2))))
 | _,_=>False
def vyv(ops:List Oper)(l:List aj)(j:Nat):aj:=match ops[j]? with
 | some o=>match o.dst with
  | some d=>l.getD d undef
  | none=>undef
 | none=>undef
def vvG(v:aj)(b:Bool)(p q:Prop):Prop:=match v with
 | .bool c=>if c=b then p else q
 | .tuple _=>q
 | _=>False
def opG(ops:Array Oper)(l:List aj)(g:Option (Nat × Bool))(a:List Nat)(p q:List Nat->Prop)(r:Nat->List Nat->Nat->Bool->Prop):Prop:=match g with
 | none=>p a
 | some (j,b)=>match a with
  | 0::a=>vvG (vyv ops.toList l j) b (p a) (q a)
  | (k+1)::a=>r k a j b
  | []=>False
def dsT:List Oper->Nat->(Nat->Prop)->Prop
 | ⟨X4 d,_,_,_,_,_⟩::_,0,f=>f d
 | _::ops,j+1,f=>dsT ops j f
 | _,_,_=>False
def vbE(a b:Bool)(p:Prop):Prop:=match a,b with
 | true,Z=>p
 | false,X3=>p
 | _,_=>False
def Yl(l:List aj):List Nat->(Nat->aj)->List aj
 | [],_=>l
 | d::ds,u=>(Yl l ds u).set d (u d)
def pkG(want b:Bool)(l:List aj)(x y:b_)(f:Bool->Prop):Prop:=match want with
 | true=>(match y with
  | .const (.bool X3)=>vvB (ev l x) λv=>f (b&&v)
  | _=>False)
 | false=>(match x with
  | .const (.bool Z)=>vvB (ev l y) λv=>f (b||v)
  | _=>False)
def VG{α:Type}(c:α->Option Oper)(P:bt)(w0:ak)(is:List It)(os:List Ob)(j:Nat)(want b:Bool)(t:Nat)(K:Prop->List Nat->List α->List Nat->Nat->Bool->Prop):Nat->List Nat->Prop->List α->List aj->List Nat->Prop
 | k+1,a,q,x::rest,l,ds=>match c x with
  | some ⟨X4 d,op,_,_,_,X4 (i,w)⟩=>Wn j i (vbE want w (Wn t d False (Ch P w0 l is os Z op a λe v a _=>VG c P w0 is os j want b t K k a ((b=want->e)/\q) rest (l.set d v) (d::ds)))) False
  | some ⟨X4 d,.pick (.tmp i) x y,_,_,_,X5⟩=>Wn t i (pkG want b l x y λv=>K q a rest ds d v) False
  | _=>False
 | _,_,_,_,_,_=>False
def Vp(id:Nat):List Ko->(List Ko->Prop)->Prop
 | .b j::s,f=>Wn id j (f s) (Vp id s f)
 | .c _::s,f=>Vp id s f
 | .o _ _::s,f=>Vp id s f
 | .k _::s,f=>Vp id s f
 | .r _ _::s,f=>Vp id s f
 | [],_=>False
abbrev Kw:Type:=Option (Bool × ak)
def kr:Bool->ak->ak->Prop
 | true,v,w=>v=w
 | false,v,w=>fJ v w
def kpt(k:Kw)(w:ak):Prop:=∀b v,k=X4 (b,v)->kr b v w
def kpb:Kw->Bool
 | some (b,_)=>b
 | none=>X3
def aks(w0:ak)(is:List It)(X:ak->Prop):Kw->Prop
 | some (Z,v)=>X v
 | k=>∀w,Mem w0 w is->kpt k w->X w
def agd{X:ak->Prop}{k:Kw}(h:aks w0 is X k)(m:Mem w0 w is)(a:kpt k w):X w:=by
 rcases k with _ | ⟨b,v⟩
 .exact h w m a
 cases b
 .exact h w m a
 have e:v=w:=a Z v rfl
 exact e▸h
def V(P:bt)(R:Exit->Act->ak->Prop)(w0:ak)(ds:List ej)(f:Kw):Nat->List Nat->Prop->List Ko->List aj->List It->Prop
 | 0,_,q,s,l,is=>q/\aks w0 is (Gt P R s (Fr l ds)) f
 | n+1,e,q,.b _::s,l,is=>V P R w0 ds f n e q s l is
 | n+1,e,q,.o _ []::s,l,is=>V P R w0 ds f n e q s l is
 | n+1,e,q,.o ops (o::rest)::s,l,is=>match o.dst with
  | some d=>opG ops l o.guard e (λe=>Ch P w0 l is [] (kpb f) o.op e λg v e is=>V P R w0 ds f n e (g/\q) (.o ops rest::s) (l.set d v) is) (λe=>V P R w0 ds f n e q (.o ops rest::s) (l.set d undef) is)
   λk e j w=>dsT ops.toList j λt=>vvB (l.getD t undef) λb=>VG X4 P w0 is [] j w b t (λq e rest h d v=>∀u:Nat->aj,V P R w0 ds f n e q (.o ops rest::s) ((Yl l h u).set d (.bool v)) is) (k+1) e q (o::rest) l []
  | none=>opG ops l o.guard e (λe=>stV P l is f.isSome o.op e λg _ e is=>V P R w0 ds f n e (g/\q) (.o ops rest::s) l is) (λe=>V P R w0 ds f n e q (.o ops rest::s) l is) λ_ _ _ _=>False
 | n+1,e,q,.c c::s,l,is=>match c with
  | .seq a b=>V P R w0 ds f n e q (.c a :: .c b::s) l is
  | .skip=>V P R w0 ds f n e q s l is
  | .block id c=>V P R w0 ds f n e q (.c c :: .b id::s) l is
  | .exit id=>Vp id s λs=>V P R w0 ds f n e q s l is
  | .ret=>q/\aks w0 is (R .ret (Fr l ds)) f
  | .cond x a b=>vvB (ev l x) λt=>vbX t (V P R w0 ds f n e q (.c a::s) l is) (V P R w0 ds f n e q (.c b::s) l is)
  | .region _ ops d=>vbX d False (V P R w0 ds f n e q (.o ops ops.toList::s) l is)
  | .loop c=>match e with
   | k::e=>V P R w0 ds f n e q (.r c k::s) l is
   | []=>False
  | _=>False
 | n+1,e,q,.r c (k+1)::s,l,is=>V P R w0 ds f n e q (.c c :: .r c k::s) l is
 | _,_,_,_,_,_=>False
def rO{v:aj}{f:IntKind->Int->Prop}(h:tS v f):∃k m,v=.int k m/\f k m:=by
 cases v <;> first | exact h.elim | exact⟨_,_,rfl,h⟩
def Hq{v:aj}{f:Bool->Prop}(h:vvB v f):∃b,v=.bool b/\f b:=by
 cases v <;> first | exact h.elim | exact⟨_,rfl,h⟩
def Hr{v:aj}{f:Addr->Prop}(h:vvP v f):∃a,v=.pointer (X4 a)/\f a:=by
 cases v with
 | pointer a=>cases a with
  | none=>exact h.elim
  | some a=>exact⟨_,rfl,h⟩
 | _=>exact h.elim
def akt{v:aj}{f:Option Addr->Nat->Nat->Prop}(h:vvS v f):∃a n c,v=.slice a n c/\f a n c:=by
 cases v <;> first | exact h.elim | exact⟨_,_,_,rfl,h⟩
def aku{v:aj}{f:List aj->Prop}(h:vvA v f):∃cs,v=.agg cs/\f cs.toList:=by
 cases v <;> first | exact h.elim | exact⟨_,rfl,h⟩
def aq9{v:aj}{f:List aj->Prop}(h:vvT v f):∃cs,v=.tuple cs/\f cs.toList:=by
 cases v <;> first | exact h.elim | exact⟨_,rfl,h⟩
def aaQ{p:Prop}(h:vnX n p):∃m,n=m+1/\p:=by
 cases n with
 | zero=>exact h.elim
 | succ m=>exact⟨m,rfl,h⟩
def Tc:∀{n m:Nat} {p q:Prop},Wn n m p q->(n=m/\p)\/(n≠m/\q)
 | 0,0,_,_,h=>.inl ⟨rfl,h⟩
 | n+1,m+1,_,_,h=>(Tc (n:=n) (m:=m) h).imp (λ⟨e,h⟩=>⟨by rw[e],h⟩) λ⟨e,h⟩=>⟨λc=>e (Nat.succ.inj c),h⟩
 | 0,_+1,_,_,h=>.inr ⟨λc=>(by cases c),h⟩
 | _+1,0,_,_,h=>.inr ⟨λc=>(by cases c),h⟩
section
variable {P:bt} {l:List aj} {is:List It} {os:List Ob} {w0:ak} {ds:List ej}
def Yd(P:bt)(l:List aj)(is:List It)(w0:ak)(op:Op)(v:aj):Prop:=∀w,Mem w0 w is->∀ty,Cb P l op ty v w
def lY{v:aj}(h:∀ty,iB P l op ty v):Yd P l is w0 op v:=λw _ ty=>h ty w
def apZ{d:List Nat}{p:Prop}[Decidable p]{c:List It}(h:cV d p (λp=>K (q/\p)) c):∃b v e,K (q/\b) v e c/\(b->∀{X:aj->Prop},(X (.bool (decide p)))->X v):=by
 unfold cV at h;split at h
 .exact⟨_,_,_,h,λ_ _ a=>a⟩
 .exact⟨_,_,_,h,λhp X a=>by rwa [Y0 hp] at a⟩
 .exact⟨_,_,_,h,λhp X a=>by rwa [Y hp] at a⟩
 exact h.elim
def Yd.as{u v:aj}(h:Yd P l is w0 op u)(e:u=v):Yd P l is w0 op v:=e▸h
def ara{v:aj}{f:IntKind->Int->Prop}{g:List aj->Prop}(h:vvE v f g):(∃k m,v=.int k m/\f k m)\/∃cs,v=.agg cs/\g cs.toList:=by
 cases v <;> first | exact h.elim | exact .inl ⟨_,_,rfl,h⟩ | exact .inr ⟨_,rfl,h⟩
def arb{b:BinOp}{x y:b_}{T':ba}{q:List Nat}(h:biV P T b (ev l x) (ev l y) q is K):∃d v j,K d v j is/\(d->Yd P l is w0 (.binOp b T x y T') v):=by
 cases b
 case add | sub | mul =>
  obtain⟨k,m,a,h⟩:=rO h;obtain⟨p,n,c,h⟩:=rO h;refine⟨_,_,_,h,λ⟨e,hr⟩=>lY λty=>?_⟩;subst e
  first | exact fU a c hr.wrap | exact Il a c hr.wrap | exact kS a c hr.wrap
 case eql | neq =>
  unfold biV at h;rcases ara h with ⟨k,m,a,h⟩ | ⟨cs,a,h⟩
  . obtain⟨p,n,c,h⟩:=rO h
    obtain⟨d,v,j,h,g⟩:=apZ h;refine⟨_,_,_,h,λ⟨e,i⟩=>?_⟩;subst e;refine g i (X:=λv=>Yd P l is w0 _ v) (lY λty=>?_)
    first | exact Im a c | exact rD a c
  obtain⟨us,c,h⟩:=aku h
  obtain⟨b,⟨o,f⟩,h⟩:=h;rw[Array.toArray_toList,Array.toArray_toList] at f;refine⟨_,_,_,h,λ_=>?_⟩
  first
   | exact (lY λty=>adM o a c f).as (by simp)
   | exact (lY λty=>adN o a c f).as (by simp)
 case lss | leq | gtr | geq =>
  obtain⟨k,m,a,h⟩:=rO h;obtain⟨p,n,c,h⟩:=rO h;obtain⟨d,v,j,h,g⟩:=apZ h;refine⟨_,_,_,h,λ⟨e,i⟩=>?_⟩;subst e;refine g i (X:=λv=>Yd P l is w0 _ v) (lY λty=>?_)
  first | exact xQ a c | exact Nz a c | exact aiM a c | exact atU a c
 all_goals exact h.elim
def arc{b:Builtin}{xs:List b_}{ts:List ba}{o:List Nat}(h:caV P l is b xs ts o K):∃g v p,K g v p is/\(g->Yd P l is w0 (.call { callee:=.builtin b,args:=xs.toArray,argTypes:=ts.toArray }) v):=by
 unfold caV at h;split at h
 . obtain⟨E,i,h⟩:=pC h
   obtain⟨a,n,c,d,h⟩:=akt h;exact⟨_,_,_,h,λ_=>lY λty=>Lp O (an8 i) d⟩
 . obtain⟨k,m,d,h⟩:=rO h
   obtain⟨j,n,f,h⟩:=rO h;refine⟨_,_,_,h,λe=>lY λty=>?_⟩;subst e;exact atV d f O
 . obtain⟨k,m,d,h⟩:=rO h
   obtain⟨j,n,f,h⟩:=rO h;refine⟨_,_,_,h,λe=>lY λty=>?_⟩;subst e;exact xR d f O
 exact h.elim
def aoc{k:Nat}{f:Ob->Prop}(d:∀x∈os,fQ w0 x.1 x.2.1 x.2.2)(h:atB is os k f):∃x:Ob,(∀w,Mem w0 w is->fQ w x.1 x.2.1 x.2.2)/\f x:=by
 rcases akq h with ⟨i,c,x,b,a⟩ | ⟨x,b,a⟩
 .exact⟨x,λw m=>(i.bkP x b).2 w (m.all i c),a⟩
 exact⟨x,λw m=>(d x b).ext m.ext,a⟩
def aaR(cs:Array aj)(o n:Nat):cs.extract o (o+n)=((cs.toList.drop o).take n).toArray:=by
 apply Array.ext';simp
def age:∀{l:List (Nat × Nat)} {n:Nat} {f:Nat × Nat->Prop},aaO l n f->∃z,l[n]? = X4 z/\f z
 | x::_,0,_,h=>⟨x,rfl,h⟩
 | _::l,n+1,_,h=>by rw[iq];exact age (l:=l) h
def ahJ{cs us:List aj}{o:Nat}{c:aj}(h:o<cs.length):over (cs.set o c) (o+1) us=over cs o (c::us):=by
 unfold over;have a:(cs.set o c).take (o+1)=cs.take o++[c]:=by
  rw[nh,List.take_set_of_le (ar o),List.getElem?_set_self h];rfl
 have b:(cs.set o c).drop (o+1+us.length)=cs.drop (o+(us.length+1)):=by
  rw[List.drop_set_of_lt (by omega)]
  congr 1
  omega
 rw[a,b];simp
def Ym:∀(us:List aj) (off k:Nat) (cs:Array aj),off+k+us.length<=cs.size ->
 (us.zipIdx k).foldl (λ(cs:Array aj) (x:aj × Nat)=>cs.setIfInBounds (off+x.2) x.1) cs=(over cs.toList (off+k) us).toArray
 | [],off,k,cs,h=>by simp[over]
 | c::us,off,k,cs,h=>by
  simp only[ay] at h;rw[List.zipIdx_cons,List.foldl_cons,Ym us off (k+1) _ (by simp;omega),<-ahJ (by simp;omega)];simp[Nat.add_assoc]
def ahK{a:Nat->Option (Nat × Nat)}{cells:Array aj}{i off size:Nat}{v:aj}{rest:List (Nat × aj)}(hp:a i=X4 (off,size))(hs:v.cells.size=size)(c:off+size<=cells.size) :
 Instr.fill a cells ((i,v)::rest)=Instr.fill a (over cells.toList off v.cells.toList).toArray rest:=by
 have hc:¬(v.cells.size≠size||off+v.cells.size>cells.size)=Z:=by simp;omega
 have b:=Ym v.cells.toList off 0 cells (by simp;omega);rw[Instr.fill];simp only[hp];rw[X hc]
 congr 1
 rw[<-Array.foldl_toList,Array.toList_zipIdx];exact b
def akv{c:List (Nat × Nat)}:∀{ps:List (Nat × b_)} {cs:List aj} {q:Prop} {f:Prop->List aj->Prop},blV l c ps cs q f ->
 ∃a b,f a b/\(a->q/\Instr.fill (λi=>c[i]?) cs.toArray (ps.map λx=>(x.1,ev l x.2))=X4 b.toArray)
 | [],cs,q,f,h=>⟨q,cs,h,λhq=>⟨hq,rfl⟩⟩
 | (i,x)::ps,cs,q,f,h=>by
  obtain⟨z,e,h⟩:=age h;obtain⟨k,m,h⟩:=aaQ h;obtain⟨a,b,d,hq⟩:=akv h;refine⟨a,b,d,λh=>?_⟩;obtain⟨⟨h1,h2,j⟩,g⟩:=hq h;have h1:=Fp h1;have h2:=Fp h2;rw[bj,gg] at h2;refine⟨j,?_⟩;rw[bi,ahK (off:=z.1) (size:=z.2) (by rw[e]) (by simpa using h1) ?_]
  .exact g
  simp
  omega
def Yn{p a:Nat->Option (Nat × Nat)}(h:∀i x,p i=X4 x->a i=X4 x):∀{l:List (Nat × aj)} {cells cs:Array aj},Instr.fill p cells l=X4 cs->Instr.fill a cells l=X4 cs
 | [],_,_,e=>e
 | (i,v)::l,cells,cs,e=>by
  rw[Instr.fill] at e ⊢;cases hp:p i with
  | none=>rw[hp] at e;cases e
  | some x =>
   rw[hp] at e;rw[h i x hp];simp only at e ⊢;split at e
   .cases e
   rename_i hc
   rw[X hc];exact Yn h e
def Td{P:bt}:∀{fs:List Field} {l:List (Nat × Nat)},fs.mapM (λ(f:Field)=>(tT P f.type).map λx=>(f.offset,x.2))=X4 l->∀w,(fs.mapM λf=>do pure (f.offset,<-sizeOf f.type):Sem (List (Nat × Nat))).run P w=.ok l w
 | [],l,h,w=>by
  rw[List.mapM_nil] at h ⊢;cases h;rfl
 | f::fs,l,h,w=>by
  rw[List.mapM_cons] at h ⊢;cases hs:tT P f.type with
  | none=>rw[hs] at h;cases h
  | some x =>
   obtain⟨b,n⟩:=x;rw[hs] at h;cases a:fs.mapM (λ(f:Field)=>(tT P f.type).map λx=>(f.offset,x.2)) with
   | none=>simp[a] at h
   | some c =>
    simp[a] at h;subst h;have hr:=Td a w;simp only[bind_pure_comp] at hr;simp[dY (Aw hs).2,hr]
def aod{P:bt}{k:List (Nat × Nat)}{z:List aj}(h:yG P T=X4 (k,z)){vs:Array (Nat × aj)}{cs:List aj}(o:Instr.fill (λi=>k[i]?) z.toArray vs.toList=X4 cs.toArray)(w:ak):(Instr.build T vs).run P w=.ok (.agg cs.toArray) w:=by
 unfold yG at h;split at h
 . rename_i fs p e g
   obtain⟨z0,l,m⟩:=aaN g;cases d:fs.toList.mapM (λ(f:Field)=>(tT P f.type).map λx=>(f.offset,x.2)) with
   | none=>rw[d] at h;cases h
   | some q =>
    rw[d] at h;cases h;refine fM (places:=k.toArray) e l (λw=>?_) (by rw[m];simpa using o) w;have hr:=Td d w;rw[gz];simp only[bind_pure_comp] at hr ⊢;simp[hr]
 . rename_i n E p e g
   obtain⟨z0,l,m⟩:=aaN g;cases hs:tT P E with
   | none=>rw[hs] at h;cases h
   | some x =>
    obtain⟨b,c⟩:=x;rw[hs] at h;cases h;refine kD e l (Aw hs).2 ?_ w;rw[m];refine Yn (λi x a=>?_) o;rw[List.getElem?_map] at a;cases hr:(ke n)[i]? with
    | none=>rw[hr] at a;cases a
    | some j =>
     rw[hr] at a;have:=ao.1 hr;obtain⟨h1,h2⟩:=this;rw[List.getElem_range] at h2;subst h2;cases a;rfl
 cases h
def Bx(P:bt)(l:List aj)(is:List It)(w0:ak)(ds:List ej)(op:Op)(cs:List aj)(T:ba):Prop:=∀(d:Nat) (ty:ba) (pos:String) (a:Array Edge) (ops:Array Oper) (Q:Exit->Act->ak->Prop) (rest:List Oper) (w:ak),Mem w0 w is->(∀g u,fJ w u->Mem w0 u (bI g cs T::is)->az P ops Q rest (Fr (l.set d (.pointer (X4 ⟨g,0,X5⟩))) ds) u)->az P ops Q (bu (X4 d) op ty pos a X5::rest) (Fr l ds) w
def Te{y:Bool}{op:Op}{M:List Nat}{K:KV}(W:∀x∈os,fQ w0 x.1 x.2.1 x.2.2)(h:Ch P w0 l is os y op M K) :
 (∃N v X,K N v X is/\(N->Yd P l is w0 op v))\/(y=X3/\∃cs T,(∀g,K True (.pointer (X4 ⟨g,0,X5⟩)) M (bI g cs T::is))/\Bx P l is w0 ds op cs T):=by
 unfold Ch at h;split at h
 .exact .inl ⟨_,_,_,h,λ_=>lY λty=>aJ⟩
 .exact .inl ⟨_,_,_,h,λ_=>lY λty=>aM⟩
 . obtain⟨a,i,h⟩:=Hr h
   exact .inl ⟨_,_,_,h,λ_=>lY λty=>dT i⟩
 . obtain⟨b,hc,h⟩:=Hq h
   cases b
   .exact .inl ⟨_,_,_,h,λ_=>lY λty=>zX hc⟩
   exact .inl ⟨_,_,_,h,λ_=>lY λty=>rQ hc⟩
 .exact .inl (arb h)
 . obtain⟨b,i,h⟩:=Hq h
   exact .inl ⟨_,_,_,h,λ_=>lY λty=>pS i⟩
 . obtain⟨k,m,i,h⟩:=rO h
   exact .inl ⟨_,_,_,h,λhr=>lY λty=>uX i hr.wrap⟩
 . obtain⟨k1,h1,h⟩:=pC h
   obtain⟨k2,h2,h⟩:=pC h;obtain⟨k,m,i,h⟩:=rO h;exact .inl ⟨_,_,_,h,λhr=>lY λty=>iK (akm h2) (akm h1) i hr.wrap⟩
 . obtain⟨f,C,h⟩:=pC h
   obtain⟨a,i,h⟩:=Hr h;obtain⟨m,L,h⟩:=aaQ h;obtain⟨o,b,n⟩:=f;obtain⟨fs,f,h1,h2,s,B,t⟩:=agc C;simp only at L h;rw[L] at t;exact .inl ⟨_,_,_,h,λ_=>lY λty=>aU h1 h2 t i (by rw[s])⟩
 . obtain⟨⟨z,c⟩,j,h⟩:=pC h
   unfold Mp at j;split at j
   . rename_i n E G
     cases hs:tT P E with
     | none=>rw[hs] at j;cases j
     | some x =>
      obtain⟨b,S⟩:=x;rw[hs] at j;cases j;obtain⟨a,i,h⟩:=Hr (show vvP _ _ from h);obtain⟨k,m,H,h⟩:=rO h;exact .inl ⟨_,_,_,h,λp=>lY λty=>aN G (Aw hs).2 i H p.1 p.2 O⟩
   . rename_i E G
     cases hs:tT P E with
     | none=>rw[hs] at j;cases j
     | some x =>
      obtain⟨b,S⟩:=x;rw[hs] at j;cases j;obtain⟨A,n,Z,i,h⟩:=akt (show vvS _ _ from h);obtain⟨a,rfl,h⟩:=pC h;obtain⟨k,m,H,h⟩:=rO h;exact .inl ⟨_,_,_,h,λp=>lY λty=>aR G (Aw hs).2 i H p.1 p.2 O⟩
   cases j
 . obtain⟨f,C,h⟩:=pC h
   obtain⟨cs,i,h⟩:=aku h;obtain⟨o,b,n⟩:=f;obtain⟨fs,f,h1,h2,s,B,t⟩:=agc C;simp only at h;cases b
   . obtain⟨v,p,h⟩:=Qf h
     exact .inl ⟨_,_,_,h,λ_=>lY λty=>aiQ h1 h2 B i (by rw[s];simpa using p)⟩
   exact .inl ⟨_,_,_,h,λ_=>lY λty=>aiR h1 h2 B t i (by rw[s];exact aaR _ _ _)⟩
 . obtain⟨⟨pl,z⟩,j,h⟩:=pC h
   obtain⟨q,cs,h,hq⟩:=akv h;exact .inl ⟨_,_,_,h,λp=>lY λty=>mN O (aod j (by simpa using (hq p).2))⟩
 . obtain⟨cs,i,h⟩:=aq9 h
   obtain⟨v,p,h⟩:=Qf h;exact .inl ⟨_,_,_,h,λ_=>lY λty=>fG i (by simpa using p)⟩
 . split at h
   . obtain⟨a,i,h⟩:=Hr h
     obtain⟨v,V,h⟩:=aq8 h;exact .inl ⟨_,_,_,h,λ_ w m ty=>bD i (V w m)⟩
   . obtain⟨z,j,h⟩:=pC h
     obtain⟨a,i,h⟩:=Hr h;obtain⟨g,r,h⟩:=aoc W h;obtain⟨b,n⟩:=z;have I:=(Aw j).1;have U:=(Aw j).2;cases b
     . obtain⟨v,p,h⟩:=Qf h
       exact .inl ⟨_,_,_,h,λe w m ty=>bD i (by rw[e];exact (r w m).lies1 I p)⟩
     exact .inl ⟨_,_,_,h,λe w m ty=>bD i (by rw[e.1];exact (r w m).lies I U O (Fp e.2))⟩
   exact h.elim
 . cases y
   .refine .inr ⟨O,_,_,h,λd ty pos R ops Q rest w m F=>aiN (by simp) λu g e D r=>F g u e (m.newB e D r)⟩
   exact h.elim
 . cases y
   . obtain⟨cs,j,h⟩:=pC (show Cg _ _ from h)
     obtain⟨z,h1,h2⟩:=aaN j;refine .inr ⟨O,_,_,h,λd ty pos R ops Q rest w m F=>Er h1 h2 λu g e D r=>F g u e (m.newB e D r)⟩
   exact h.elim
 . rename_i c
   split at h
   . rename_i b J
     obtain⟨Y,xs,ts⟩:=c;simp only at J h;subst J;have:=arc (w0:=w0) h;simpa using Or.inl this
   exact h.elim
 exact h.elim
def akw{f:Bool}{q:List Nat}(h:stV P l is f op q K):f=X3/\∃r G s,K r undef G s/\(r->∀(ty:ba) (pos:String) (j:Array Edge) (ops:Array Oper) (Q:Exit->Act->ak->Prop) (rest:List Oper) (w:ak),Mem w0 w is->(∀u,Mem w0 u s->az P ops Q rest (Fr l ds) u)->az P ops Q (bu X5 op ty pos j X5::rest) (Fr l ds) w):=by
 unfold stV at h;split at h
 . rename_i T x y k q
   cases f with
   | true=>exact h.elim
   | false =>
   obtain⟨z,D,h⟩:=pC (show Cg _ _ from h);obtain⟨n,C,h⟩:=aaQ h;obtain⟨a,p,h⟩:=Hr h;obtain⟨i,g,o,d,h⟩:=aeL h;obtain⟨b,z⟩:=z;refine⟨O,_,_,_,h,λ⟨e,h1,h2,t⟩ ty pos j ops Q rest w m B=>?_⟩;have A:=(Aw D).2;have h1:=Fp h1;have h2:=Fp h2;simp only at C h1 h2;have c:=i.bkP g d;have v:=c.2 w (m.all i (bf o));rw[e] at p;refine yY p (us:=(ev l y).cells.toList) (by simp) (by rw[h2];exact A) v ?_ (fN (agb t)) λu hc E=>B u (m.put k o hc.os hc.tape hc.output (by rw[hc.size];exact ar _) (λb _ F=>hc.block b λe=>F ((c.1 b).2 e)) E (.inl λb d=>(c.1 b).2 (by cases d;rfl)));rw[bj,gg] at h1;omega
 exact h.elim
def ard{v:aj}{b:Bool}{p:Prop}(h:vvG v b p q):(v=.bool b/\p)\/((∀c,v=.bool c->(c == b)=X3)/\q):=by
 cases v with
 | bool c =>
  unfold vvG at h;simp only at h;split at h
  .rename_i e;exact .inl ⟨by rw[e],h⟩
  rename_i e;exact .inr ⟨λd a=>by cases a;simpa using e,h⟩
 | tuple=>exact .inr ⟨λc e=>(by cases e),h⟩
 | _=>exact h.elim
def aaS{j:Nat}{b:Bool}(h:vyv ops.toList l j=.bool b):yielded ops l.toArray j=X4 b:=by
 unfold vyv at h;unfold yielded;simp only[gm] at h;cases c:ops[j]? with
 | none=>rw[c] at h;cases h
 | some o =>
  rw[c] at h;simp only at h;cases a:o.dst with
  | none=>rw[a] at h;cases h
  | some d =>
   rw[a] at h;simp only[gr] at h;simp only[ja,a,lj];cases e:l[d]? with
   | none=>rw[e] at h;cases h
   | some v=>rw[e] at h;simp only[dx] at h;rw[h]
def are{j:Nat}{b:Bool}(h:yielded ops l.toArray j=X4 b):vyv ops.toList l j=.bool b:=by
 unfold yielded at h;unfold vyv;simp only[gm];cases c:ops[j]? with
 | none=>rw[c] at h;cases h
 | some o =>
  rw[c] at h;simp only[ja] at h ⊢;cases a:o.dst with
  | none=>rw[a] at h;cases h
  | some d =>
   rw[a] at h;simp only[ja,lj] at h;simp only[gr];cases e:l[d]? with
   | none=>rw[e] at h;cases h
   | some v =>
    rw[e] at h;simp only[dx];cases v <;> first | (cases h;done) | (cases h;rfl)
def Mq{g:Option (Nat × Bool)}{a:List Nat}{p q:List Nat->Prop}{r:Nat->List Nat->Nat->Bool->Prop}(h:opG ops l g a p q r):(∃a,p a/\∀d op ty pos f,Region.wanted (bu d op ty pos f g) (yielded ops l.toArray)=Z)\/(∃a,q a/\∀d op ty pos f,Region.wanted (bu d op ty pos f g) (yielded ops l.toArray)=X3)\/∃k a j b,g=X4 (j,b)/\r k a j b:=by
 cases g with
 | none=>exact .inl ⟨_,h,λ_ _ _ _ _=>rfl⟩
 | some g =>
  obtain⟨j,b⟩:=g;rcases a with _ | ⟨_ | k,a⟩
  .exact h.elim
  . rcases ard (show vvG _ _ _ _ from h) with ⟨e,h⟩ | ⟨e,h⟩
    .exact .inl ⟨_,h,λ_ _ _ _ _=>by simp[Region.wanted,aaS e]⟩
    refine .inr (.inl ⟨_,h,λ_ _ _ _ _=>?_⟩)
    cases i:yielded ops l.toArray j with
    | none=>simp[Region.wanted,i]
    | some c=>simpa[Region.wanted,i] using e c (are i)
  exact .inr (.inr ⟨k,a,j,b,O,h⟩)
def aeM:∀{ops:List Oper} {j:Nat} {f:Nat->Prop},dsT ops j f->∃t,(∀l:List aj,vyv ops l j=l.getD t undef)/\f t
 | ⟨X4 d,_,_,_,_,_⟩::_,0,_,h=>⟨d,λ_=>rfl,h⟩
 | ⟨X5,_,_,_,_,_⟩::_,0,_,h=>h.elim
 | ⟨X4 _,_,_,_,_,_⟩::ops,j+1,_,h | ⟨X5,_,_,_,_,_⟩::ops,j+1,_,h=>let ⟨t,h1,h2⟩:=aeM (ops:=ops) (j:=j) h;⟨t,λl=>h1 l,h2⟩
 | [],0,_,h | [],_+1,_,h=>h.elim
def arf{a b:Bool}{p:Prop}(h:vbE a b p):a=b/\p:=by cases a <;> cases b <;> first | exact h.elim | exact⟨rfl,h⟩
def upU(u:Nat->aj)(d:Nat)(v:aj)(i:Nat):aj:=if i=d then v else u i
def aeN(l:List aj)(u:Nat->aj)(d:Nat)(v:aj):∀ds:List Nat,(Yl l ds (upU u d v)).set d v=(Yl l ds u).set d v
 | []=>rfl
 | e::ds=>by
  show ((Yl l ds (upU u d v)).set e (upU u d v e)).set d v=((Yl l ds u).set e (u e)).set d v
  by_cases h:e=d
  . subst h
    rw[rd,rd];exact aeN l u e v ds
  rw[List.set_comm _ _ h,List.set_comm _ _ h,aeN l u d v ds]
  unfold upU;rw[X h]
def aaT(l:List aj)(u:Nat->aj)(d:Nat)(v:aj)(ds:List Nat):(Yl l ds u).set d v=Yl l (d::ds) (upU u d v):=by
 show _=(Yl l ds (upU u d v)).set d (upU u d v d)
 rw[show upU u d v d=v from J rfl,aeN]
def akx{α:Type}{C:α->Option Oper}{ops:Array Oper}{j t:Nat}{want b:Bool}{K:Prop->List Nat->List α->List Nat->Nat->Bool->Prop}{Y:List α->List aj->Prop}{l0:List aj}(J:∀x∈os,fQ w0 x.1 x.2.1 x.2.2)
 (E:∀x d op ty pos m g rest l v,C x=X4 ⟨X4 d,op,ty,pos,m,g⟩->Region.wanted (bu (X4 d) op ty pos m g) (yielded ops l.toArray)=Z->Yd P l is w0 op v->Y rest (l.set d v)->Y (x::rest) l)
 (hp:∀x d op ty pos m g rest l,C x=X4 ⟨X4 d,op,ty,pos,m,g⟩->Region.wanted (bu (X4 d) op ty pos m g) (yielded ops l.toArray)=X3->Y rest (l.set d undef)->Y (x::rest) l)
 (D:∀l:List aj,vyv ops.toList l j=l.getD t undef) (B:∀q s rest ds d v,K q s rest ds d v->q/\∀u:Nat->aj,Y rest ((Yl l0 ds u).set d (.bool v))) :
 ∀(k:Nat) (s:List Nat) (q:Prop) (rest:List α) (l:List aj) (ds:List Nat),VG C P w0 is os j want b t K k s q rest l ds->l.getD t undef=.bool b->(∃u,l=Yl l0 ds u) ->
  q/\(b=want->Y rest l)/\(b≠want->∀u,(Yl l0 ds u).getD t undef=.bool b->Y rest (Yl l0 ds u))
 | k+1,s,q,x::rest,l,ds,h,p,⟨I,F⟩=>by
  unfold VG at h;split at h
  . rename_i d op ty pos m i w r
    rcases Tc h with ⟨y,h1⟩ | ⟨_,h1⟩
    . obtain⟨L,h2⟩:=arf h1
      subst y;subst L;replace h:=h2;clear h1 h2;rcases Tc h with ⟨_,h⟩ | ⟨O,h⟩
      .exact h.elim
      rcases Te (ds:=[]) J h with ⟨Q,v,R,h,N⟩ | ⟨e,_⟩
      . have H:∀(f:List aj) (c:aj),(f.set d c).getD t undef=f.getD t undef:=λf c=>by
         rw[gr,gr,List.getElem?_set_ne (Ne.symm O)]
        obtain⟨⟨h1,hq⟩,h2,A⟩:=akx J E hp D B k _ _ _ _ _ h (by rw[H];exact p) ⟨_,by rw[F];exact aaT ..⟩;refine⟨hq,λe=>E _ _ _ _ _ _ _ _ _ _ r ?_ (N (h1 e)) (h2 e),λe u o=>hp _ _ _ _ _ _ _ _ _ r ?_ ?_⟩
        .simp[Region.wanted,aaS ((D l).trans p),e]
        .simp[Region.wanted,aaS ((D _).trans o),e]
        rw[aaT]
        exact A e _ (by rw[<-aaT,H];exact o)
      cases e
    exact h1.elim
  . rename_i d i a c ty pos m r
    rcases Tc h with ⟨y,h1⟩ | ⟨_,h1⟩
    . subst y
      replace h:=h1;clear h1;have M:∀f:List aj,Region.wanted (bu (X4 d) (.pick (.tmp t) a c) ty pos m X5) (yielded ops f.toArray)=Z:=λ_=>rfl;have key:∀(f:List aj) (v z:Bool),f.getD t undef=.bool b->(b=Z->ev f a=.bool v)->(b=X3->ev f c=.bool v)->v=z->Y rest (f.set d (.bool z))->Y (x::rest) f:=λf v z h1 h2 A e n=>by
       subst e;refine E _ _ _ _ _ _ _ _ _ _ r (M f) ?_ n;cases b with
       | true=>exact (lY λty=>rQ (show ev f (.tmp t)=_ from h1)).as (h2 rfl)
       | false=>exact (lY λty=>zX (show ev f (.tmp t)=_ from h1)).as (A rfl)
      unfold pkG at h;split at h
      . split at h
        . obtain⟨v,G,h⟩:=Hq h
          obtain⟨hq,n⟩:=B _ _ _ _ _ _ h;refine⟨hq,λe=>?_,λe u o=>?_⟩
          . subst e
            subst F;exact key _ v _ p (λ_=>G) (λe=>by cases e) (Bool.true_and v).symm (n I)
          have e:b=X3:=by simpa using e
          subst e;exact key _ X3 _ o (λe=>by cases e) (λ_=>rfl) (ju v).symm (n u)
        exact h.elim
      split at h
      . obtain⟨v,G,h⟩:=Hq h
        obtain⟨hq,n⟩:=B _ _ _ _ _ _ h;refine⟨hq,λe=>?_,λe u o=>?_⟩
        . subst e
          subst F;exact key _ v _ p (λe=>by cases e) (λ_=>G) (Bool.false_or v).symm (n I)
        have e:b=Z:=by simpa using e
        subst e;exact key _ Z _ o (λ_=>rfl) (λe=>by cases e) (qg v).symm (n u)
      exact h.elim
    exact h1.elim
  exact h.elim
 | 0,_,_,_,_,_,h,_,_=>h.elim
 | _+1,_,_,[],_,_,h,_,_=>h.elim
def nD{ops:Array Oper}{Q:Exit->Act->ak->Prop}{rest:List Oper}{d:Option Nat}{op:Op}{ty:ba}{pos:String}{a:Array Edge}{g:Option (Nat × Bool)}{w:ak}(b:Region.wanted (bu d op ty pos a g) (yielded ops l.toArray)=Z)
 (h:az P ops Q (bu d op ty pos a X5::rest) (Fr l ds) w):az P ops Q (bu d op ty pos a g::rest) (Fr l ds) w:=by
 unfold az at h ⊢;rw[J (by simp[Region.wanted])] at h;rw[J b];exact h
def sO{ops:Array Oper}{Q:Exit->Act->ak->Prop}{rest:List Oper}{o:Oper}{w:ak}(a:Region.wanted o (yielded ops l.toArray)=X3)
 (h:az P ops Q rest ((Fr l ds).put o.dst undef) w):az P ops Q (o::rest) (Fr l ds) w:=by
 unfold az;rw[X (by rw[a];simp)];exact h
def aaU{R:Exit->Act->ak->Prop}{id:Nat}{a:Act}{w:ak}{G:List Ko->Prop}:∀{s:List Ko},Vp id s G->∃d,G d/\(Ct P R d .normal a w->Ct P R s (.exit id) a w)
 | .b j::s,h=>by
  rcases Tc h with ⟨e,h⟩ | ⟨e,h⟩
  . refine⟨s,h,λhs=>?_⟩
    show dq j (Ct P R s) (.exit id) a w
    simp only[dq];rw[J e];exact hs
  obtain⟨d,f,hs⟩:=aaU (R:=R) (a:=a) (w:=w) h
  refine⟨d,f,λh=>?_⟩;show dq j (Ct P R s) (.exit id) a w
  simp only[dq];rw[X e];exact hs h
 | .c _::s,h | .o _ _::s,h | .k _::s,h | .r _ _::s,h=>let ⟨d,f,hs⟩:=aaU (R:=R) (a:=a) (w:=w) (s:=s) h;⟨d,f,λh=>hs h⟩
 | [],h=>h.elim
def Yo:∀x∈([]:List Ob),fQ w0 x.1 x.2.1 x.2.2:=λ_ h=>(by cases h)
def aoe{k:Kw}{w u:ak}(hp:kpb k=X3)(h:kpt k w)(e:fJ w u):kpt k u:=by
 intro b v c;subst c;have a:b=X3:=hp;subst a;exact fJ.trans (h X3 v O) e
def qO{R:Exit->Act->ak->Prop}(p:Kw):∀(n:Nat) (y:List Nat) (q:Prop) (s:List Ko) (l:List aj) (is:List It),V P R w0 ds p n y q s l is->q/\∀w,Mem w0 w is->kpt p w->Gt P R s (Fr l ds) w
 | 0,_,_,_,_,_,h=>⟨h.1,λ_ m i=>agd h.2 m i⟩
 | n+1,y,q,.b _::s,l,is,h=>qO p n y q s l is h
 | n+1,y,q,.o _ []::s,l,is,h=>qO p n y q s l is h
 | n+1,y,q,.o ops (⟨X4 d,op,ty,pos,B,g⟩::rest)::s,l,is,h=>by
  unfold V at h;rcases Mq h with ⟨_,h,z⟩ | ⟨_,h,z⟩ | ⟨k,_,j,b,rfl,h⟩
  . rcases Te (ds:=ds) Yo h with ⟨K,v,L,h,C⟩ | ⟨D,cs,T,h,H⟩
    . obtain⟨⟨F,hq⟩,i⟩:=qO p n _ _ _ _ _ h
      exact⟨hq,λw m f=>nD (z _ _ _ _ _) (fI (C F w m ty) (i w m f))⟩
    exact⟨(qO p n _ _ _ _ _ (h 0)).1.2,λw m f=>nD (z _ _ _ _ _) (H d ty pos B ops _ rest w m λg u e G=>(qO p n _ _ _ _ _ (h g)).2 u G (aoe D f e))⟩
  . obtain⟨hq,i⟩:=qO p n _ _ _ _ _ h
    exact⟨hq,λw m f=>sO (z _ _ _ _ _) (by rw[gI];exact i w m f)⟩
  obtain⟨t,I,h⟩:=aeM h
  obtain⟨c,hc,h⟩:=Hq h;obtain⟨hq,h1,h2⟩:=akx (Y:=λrest l=>∀w,Mem w0 w is->kpt p w->az P ops (Ct P R s) rest (Fr l ds) w) (l0:=l) Yo
   (λx d op ty pos B g rest l v A z C h w m f=>by cases A;exact nD z (fI (C w m ty) (h w m f)))
   (λx d op ty pos B g rest l A z h w m f=>by cases A;exact sO z (by rw[gI];exact h w m f)) I
   (λq y rest M d v h=>⟨(qO p n _ _ _ _ _ (h λ_=>undef)).1,λu=>(qO p n _ _ _ _ _ (h u)).2⟩) _ _ _ _ _ _ h hc ⟨λ_=>undef,rfl⟩
  refine⟨hq,λw m f=>?_⟩;by_cases e:c=b
  .exact h1 e w m f
  exact h2 e (λ_=>undef) hc w m f
 | n+1,y,q,.o ops (⟨X5,op,ty,pos,B,g⟩::rest)::s,l,is,h=>by
  unfold V at h;rcases Mq h with ⟨_,h,z⟩ | ⟨_,h,z⟩ | ⟨_,_,_,_,_,h⟩
  . obtain⟨D,K,L,N,h,C⟩:=akw (w0:=w0) (ds:=ds) h
    obtain⟨⟨F,hq⟩,i⟩:=qO p n _ _ _ _ _ h;exact⟨hq,λw m f=>nD (z _ _ _ _ _) (C F ty pos B ops _ rest w m λu G=>i u G λb v e=>(by rw[e] at D;cases D))⟩
  . obtain⟨hq,i⟩:=qO p n _ _ _ _ _ h
    exact⟨hq,λw m f=>sO (z _ _ _ _ _) (i w m f)⟩
  exact h.elim
 | n+1,y,q,.c c::s,l,is,h=>by
  cases c with
  | seq a b=>exact (qO p n _ _ _ _ _ h).imp id λi w m f=>wp_seq (i w m f)
  | skip=>exact (qO p n _ _ _ _ _ h).imp id λi w m f=>km (i w m f)
  | block id c=>exact (qO p n _ _ _ _ _ h).imp (λh=>h) λi w m f=>ki (i w m f)
  | exit id =>
   refine⟨?_,λw m f=>?_⟩
   . obtain⟨J,E,_⟩:=aaU (P:=P) (R:=R) (a:=Fr l ds) (w:=w0) h
     exact (qO p n _ _ _ _ _ E).1
   obtain⟨J,E,hs⟩:=aaU (P:=P) (R:=R) (a:=Fr l ds) (w:=w) h
   exact wp_exit (hs ((qO p n _ _ _ _ _ E).2 w m f))
  | ret=>exact⟨h.1,λw m f=>jv (akl (agd h.2 m f) s)⟩
  | cond x a b =>
   obtain⟨t,A,h⟩:=Hq h;cases t
   .exact (qO p n _ _ _ _ _ h).imp id λi w m f=>agY A (i w m f)
   exact (qO p n _ _ _ _ _ h).imp id λi w m f=>Ck A (i w m f)
  | region id ops d =>
   cases d
   .exact (qO p n _ _ _ _ _ h).imp (λh=>h) λi w m f=>wp_region_list (i w m f)
   exact h.elim
  | loop c =>
   cases y with
   | nil=>exact h.elim
   | cons k y=>exact (qO p n _ _ _ _ _ h).imp (λh=>h) λi w m f=>qj k (i w m f)
  | _=>exact h.elim
 | n+1,y,q,.r c (k+1)::s,l,is,h=>(qO p n y q _ l is h).imp (λh=>h) λi w m f=>i w m f
 | _+1,_,_,.r _ 0::_,_,_,h=>h.elim
 | _+1,_,_,.k _::_,_,_,h=>h.elim
 | _+1,_,_,[],_,_,h=>h.elim
/-! ### Regions in a drawn order -/
def VQ{α:Type}(c:α->Option Oper)(P:bt)(w0:ak)(is:List It)(os:List Ob)(ops:Array Oper)(K:List α->List aj->Prop):Nat->List Nat->Prop->List α->List aj->Prop
 | 0,_,q,rest,l=>q/\K rest l
 | n+1,a,q,x::rest,l=>match c x with
  | some ⟨X4 d,op,_,_,_,g⟩=>opG ops l g a (λa=>Ch P w0 l is os Z op a λf v a _=>VQ c P w0 is os ops K n a (f/\q) rest (l.set d v)) (λa=>VQ c P w0 is os ops K n a q rest (l.set d undef))
   λk a j w=>dsT ops.toList j λt=>vvB (l.getD t undef) λb=>VG c P w0 is os j w b t (λq a rest e d v=>∀u:Nat->aj,VQ c P w0 is os ops K n a q rest ((Yl l e u).set d (.bool v))) (k+1) a q (x::rest) l []
  | _=>False
 | _+1,_,_,[],_=>False
def Yp{α:Type}{p:α->Option Oper}{ops:Array Oper}{K Y:List α->List aj->Prop}(i:∀x∈os,fQ w0 x.1 x.2.1 x.2.2)(o:∀rest l,K rest l->Y rest l)
 (f:∀x d op ty pos a g rest l v,p x=X4 ⟨X4 d,op,ty,pos,a,g⟩->Region.wanted (bu (X4 d) op ty pos a g) (yielded ops l.toArray)=Z->Yd P l is w0 op v->Y rest (l.set d v)->Y (x::rest) l)
 (hp:∀x d op ty pos a g rest l,p x=X4 ⟨X4 d,op,ty,pos,a,g⟩->Region.wanted (bu (X4 d) op ty pos a g) (yielded ops l.toArray)=X3->Y rest (l.set d undef)->Y (x::rest) l) :
 ∀(n:Nat) (s:List Nat) (q:Prop) (rest:List α) (l:List aj),VQ p P w0 is os ops K n s q rest l->q/\Y rest l
 | 0,_,_,_,_,h=>⟨h.1,o _ _ h.2⟩
 | n+1,s,q,x::rest,l,h=>by
  unfold VQ at h;split at h
  . rename_i d op ty pos a g y
    rcases Mq h with ⟨_,h,w⟩ | ⟨_,h,w⟩ | ⟨k,_,j,b,z,m⟩
    . rcases Te (ds:=[]) i h with ⟨D,v,E,h,B⟩ | ⟨e,_⟩
      . obtain⟨⟨h1,hq⟩,r⟩:=Yp i o f hp n _ _ _ _ h
        exact⟨hq,f _ _ _ _ _ _ _ _ _ _ y (w _ _ _ _ _) (B h1) r⟩
      cases e
    . obtain⟨hq,r⟩:=Yp i o f hp n _ _ _ _ h
      exact⟨hq,hp _ _ _ _ _ _ _ _ _ y (w _ _ _ _ _) r⟩
    subst z
    obtain⟨t,A,m⟩:=aeM m;obtain⟨c,hc,m⟩:=Hq m;obtain⟨hq,h1,h2⟩:=akx (l0:=l) i f hp A (λq s rest C d v h=>⟨(Yp i o f hp n _ _ _ _ (h λ_=>undef)).1,λu=>(Yp i o f hp n _ _ _ _ (h u)).2⟩) _ _ _ _ _ _ m hc ⟨λ_=>undef,rfl⟩;refine⟨hq,?_⟩;by_cases e:c=b
    .exact h1 e
    exact h2 e (λ_=>undef) hc
  exact h.elim
 | _+1,_,_,[],_,h=>h.elim
def avD{Q:Act->Prop}(i:∀x∈os,fQ w0 x.1 x.2.1 x.2.2){e:List Nat}{rest:List Oper}{l:List aj}(h:VQ X4 P w0 is os ops (λrest l=>cw P ops (λu=>Mem w0 u is) Q rest (Fr l ds)) n e True rest l):cw P ops (λu=>Mem w0 u is) Q rest (Fr l ds):=by
 refine (Yp (Y:=λrest l=>cw P ops (λu=>Mem w0 u is) Q rest (Fr l ds)) i (λ_ _ h=>h) (λx d op ty pos c g rest l v b a f h=>?_) (λx d op ty pos c g rest l b a h=>?_) n e True rest l h).2
 . cases b
   have h:=kC (ty:=ty) (pos:=pos) (after:=c) (λu m=>f u m ty) h;unfold cw at h ⊢;rw[J (by simp[Region.wanted])] at h;rw[J a];exact h
 cases b
 unfold cw;rw[X (by rw[a];simp)];show cw P ops _ Q rest ((Fr l ds).put (X4 d) undef)
 rw[gI];exact h
def hdH(x:Oper × Bool):Option Oper:=match x.2 with
 | true=>X4 x.1
 | false=>X5
def avE{Q:Exit->Act->ak->Prop}{w:ak}(k:∀x∈os,fQ w0 x.1 x.2.1 x.2.2){i:List Nat}{rest:List (Oper × Bool)}{l:List aj}(h:VQ hdH P w0 is os ops (λrest l=>bX P ops (λu=>Mem w0 u is) Q rest (Fr l ds) w) n i True rest l):bX P ops (λu=>Mem w0 u is) Q rest (Fr l ds) w:=by
 refine (Yp (Y:=λrest l=>bX P ops (λu=>Mem w0 u is) Q rest (Fr l ds) w) k (λ_ _ h=>h) (λx d op ty pos f g rest l v a e c h=>?_) (λx d op ty pos f g rest l a e h=>?_) n i True rest l h).2
 . obtain⟨o,b⟩:=x
   cases b
   .cases a
   cases a
   obtain⟨v,c,h⟩:=aah (ty:=ty) (pos:=pos) (after:=f) (λu m=>c u m ty) h;refine⟨v,?_,h⟩;rcases c with ⟨_,c⟩ | ⟨j,_⟩
   .exact .inl ⟨e,c⟩
   simp[Region.wanted] at j
 obtain⟨o,b⟩:=x
 cases b
 .cases a
 cases a
 refine⟨undef,.inr ⟨e,O⟩,?_⟩;show bX P ops _ Q rest ((Fr l ds).put (X4 d) undef) w
 rw[gI];exact h
end
def avF{P R w0 ds k n b q s l a is c}(h:l=a)(d:is=c):V P R w0 ds k n b q s l is=V P R w0 ds k n b q s a c:=by rw[h,d]
def arh{ops l a g b c p q r}(h:l=a)(d:b=c):opG ops l g b p q r=opG ops a g c p q r:=by rw[h,d]
def ari{P w0 l a is os b d op c K}(h:l=a)(e:b=d):Ch P w0 l is os b op c K=Ch P w0 a is os d op c K:=by rw[h,e]
def arj{P l a is b d op c K}(h:l=a)(e:b=d):stV P l is b op c K=stV P a is d op c K:=by rw[h,e]
def ark{P l a is b xs ts c K}(h:l=a):caV P l is b xs ts c K=caV P a is b xs ts c K:=by rw[h]
def arl{P T b x y c d a is K}(h:x=c)(e:y=d):biV P T b x y a is K=biV P T b c d a is K:=by rw[h,e]
def arm{v v' f g}(h:v=v'):vvE v f g=vvE v' f g:=by rw[h]
def auk{a:α->Option Oper}{P w0 is os j want b t K k d q rest l c ds}(h:l=c):VG a P w0 is os j want b t K k d q rest l ds=VG a P w0 is os j want b t K k d q rest c ds:=by rw[h]
def arn{want b l x y f}:pkG want b l x y f=pkG want b l x y f:=rfl
def aro{g k}:ldK g k=ldK g k:=rfl
def arp{ops j f}:dsT ops j f=dsT ops j f:=rfl
def aul{a b p K is}[Decidable p](h:a=b):cV a p K is=cV b p K is:=by rw[h]
def arq{v v' f}(h:v=v'):tS v f=tS v' f:=by rw[h]
def ars{v v' f}(h:v=v'):vvB v f=vvB v' f:=by rw[h]
def art{v v' f}(h:v=v'):vvP v f=vvP v' f:=by rw[h]
def aru{v v' f}(h:v=v'):vvS v f=vvS v' f:=by rw[h]
def arv{v v' f}(h:v=v'):vvA v f=vvA v' f:=by rw[h]
def arw{v v' f}(h:v=v'):vvT v f=vvT v' f:=by rw[h]
def arx{v v' b p q}(h:v=v'):vvG v b p q=vvG v' b p q:=by rw[h]
def ary{o o':Option α}{f}(h:o=o'):Cg o f=Cg o' f:=by rw[h]
def arz{b a p q}(h:b=a):vbX b p q=vbX a p q:=by rw[h]
def arA{n n' p}(h:n=n'):vnX n p=vnX n' p:=by rw[h]
def arB{n n' m p q}(h:n=n'):Wn n m p q=Wn n' m p q:=by rw[h]
def aof{l a n n' f}(h:l=a)(b:n=n'):Mo l n f=Mo a n' f:=by rw[h,b]
def aog{l a n f}(h:l=a):aaO l n f=aaO a n f:=by rw[h]
def arC{l a ps cs b q f}(h:cs=b):blV l a ps cs q f=blV l a ps b q f:=by rw[h]
def arD{is a os k f}(h:is=a):atB is os k f=atB a os k f:=by rw[h]
def arE{n n' v v' f}(h:n=n')(a:v=v'):vvX n v f=vvX n' v' f:=by rw[h,a]
def aum{a:α->Option Oper}{P w0 is os ops K n c q rest l b}(h:l=b):VQ a P w0 is os ops K n c q rest l=VQ a P w0 is os ops K n c q rest b:=by rw[h]
def dJ{P ops S Q ol a b w}(h:a=b):bX P ops S Q ol a w=bX P ops S Q ol b w:=by rw[h]
def arF{os k a f}(h:k=a):atO os k f=atO os a f:=by rw[h]
def arG{is k a f}(h:k=a):atM is k f=atM is a f:=by rw[h]
def arH{i a s f}(h:i=a):Vp i s f=Vp a s f:=by rw[h]
def aun{P R s e a b w}(h:a=b):Ct P R s e a w=Ct P R s e b w:=by rw[h]
def dK{P ops Q rest a b w}(h:a=b):az P ops Q rest a w=az P ops Q rest b w:=by rw[h]
def dL{P Q a b w}(h:a=b):c.wp P Q a w=c.wp P Q b w:=by rw[h]
def cR{P ops C Q rest a b}(h:a=b):cw P ops C Q rest a=cw P ops C Q rest b:=by rw[h]
def acx:∀(n:Nat) (p q:Prop),Wn n n p q=p
 | 0,_,_=>rfl
 | n+1,p,q=>acx n p q
def auo{i:Nat}{s:List Ko}{f:List Ko->Prop}:Vp i (.b i::s) f=f s:=acx i _ _
def kp0{X:ak->Prop}:(q/\aks w0 is X X5)=(q/\∀w,Mem w0 w is->X w):=Y6 ⟨λh=>⟨h.1,λw m=>h.2 w m λ_ _ e=>(by cases e)⟩,λh=>⟨h.1,λw m _=>h.2 w m⟩⟩
def kp1{a:ak}{X:ak->Prop}:(q/\aks w0 is X (X4 (X3,a)))=(q/\∀w,Mem w0 w is->fJ a w->X w):=Y6 ⟨λh=>⟨h.1,λw m e=>h.2 w m λ_ _ b=>(by cases b;exact e)⟩,λh=>⟨h.1,λw m e=>h.2 w m (e _ _ rfl)⟩⟩
def aky{p:Prop}[Decidable p]:p↔decide p=Z:=decide_eq_true_iff.symm
def aup{p:Prop}[Decidable p]:p↔decide (¬p)=X3:=⟨λh=>Y λe=>e h,λh=>Decidable.of_not_not (Y9 h)⟩
def lA{g:Nat}{v:aj}(h:dQ P w T ((⟨g,0,X5⟩:Addr).add n) v):dQ P w T ⟨g,n,X5⟩ v:=by
 rw[cS,ai] at h;exact h
def Fz(l:List aj)(ds:List ej):Act:=Fr l ds
section
variable {P:bt} {R:Exit->Act->ak->Prop} {w0 w:ak} {ds:List ej} {s:List Ko} {l:List aj} {is:List It}
def xI(n:Nat)(a:List Nat)(m:Mem w0 w is)(h:V P R w0 ds X5 n a True (.c c::s) l is):c.wp P (Ct P R s) (Fr l ds) w:=(qO X5 n a True _ l is h).2 w m λ_ _ e=>(by cases e)
def L(n:Nat)(a:List Nat)(m:Mem w0 w is)(h:V P R w0 ds (X4 (Z,w)) n a True (.c c::s) l is):c.wp P (Ct P R s) (Fr l ds) w:=(qO (X4 (Z,w)) n a True _ l is h).2 w m λ_ _ e=>(by cases e;rfl)
def gH(n:Nat)(a:List Nat)(m:Mem w0 w is)(h:V P R w0 ds X5 n a True [.c c] l is):c.wp P R (Fr l ds) w:=(qO X5 n a True _ l is h).2 w m λ_ _ e=>(by cases e)
def fF(n:Nat)(a:List Nat)(m:Mem w0 w is)(h:V P R w0 ds (X4 (Z,w)) n a True [.c c] l is):c.wp P R (Fr l ds) w:=(qO (X4 (Z,w)) n a True _ l is h).2 w m λ_ _ e=>(by cases e;rfl)
def lK{rest:List Oper}(n:Nat)(a:List Nat)(m:Mem w0 w is)(h:V P R w0 ds X5 n a True (.o ops rest::s) l is):az P ops (Ct P R s) rest (Fr l ds) w:=(qO X5 n a True _ l is h).2 w m λ_ _ e=>(by cases e)
def aH{rest:List Oper}(n:Nat)(a:List Nat)(m:Mem w0 w is)(h:V P R w0 ds (X4 (Z,w)) n a True (.o ops rest::s) l is):az P ops (Ct P R s) rest (Fr l ds) w:=(qO (X4 (Z,w)) n a True _ l is h).2 w m λ_ _ e=>(by cases e;rfl)
def cX{Q:Act->Prop}{rest:List Oper}(n:Nat)(a:List Nat)(h:VQ X4 P w0 is [] ops (λrest l=>cw P ops (λu=>Mem w0 u is) Q rest (Fz l ds)) n a True rest l):cw P ops (λu=>Mem w0 u is) Q rest (Fr l ds):=avD Yo h
def Fq{Q:Exit->Act->ak->Prop}{ol:List (Oper × Bool)}(n:Nat)(a:List Nat)(h:VQ hdH P w0 is [] ops (λrest l=>bX P ops (λu=>Mem w0 u is) Q rest (Fz l ds) w) n a True ol l):bX P ops (λu=>Mem w0 u is) Q ol (Fr l ds) w:=avE Yo h
def lD{rest:List Oper}{f:FuncId}{a:b_}{xs:Array b_}{args:List aj}{first cap:Array aj}{a0:Array ba}{v:aj}{d:Nat}{ty:ba}{pos:String}{c:Array Edge}(m:Mem w0 w is)(g:ev l a=.func (.func f) first cap)(i:first.toList++xs.toList.map (ev l)++cap.toList=args)(hc:dF P f args v)(n:Nat)(b:List Nat)(h:V P R w0 ds X5 n b True (.o ops rest::s) (l.set d v) is):az P ops (Ct P R s) (bu (X4 d) (.call { callee:=.value a,args:=xs,argTypes:=a0 }) ty pos c X5::rest) (Fr l ds) w :=
 jG m g i hc λu m=>(qO X5 n b True _ _ is h).2 u m λ_ _ e=>(by cases e)
def g0{a:Act}(h:c.wp P (Ct P R []) a w):c.wp P R a w:=h
def gc{a:Act}(h:c.wp P (Ct P R s) a w):Ct P R (.c c::s) .normal a w:=h
def go{rest:List Oper}{a:Act}(h:az P ops (Ct P R s) rest a w):Ct P R (.o ops rest::s) .normal a w:=h
def gk{K:Act->ak->Prop}{a:Act}(h:K a w):Ct P R (.k K::s) .normal a w:=h
def bT{c:Code}(ts ss:List Nat)(I:Nat->List aj->ak->Prop)(b:∃n,I n (ts.map (l.getD · undef)) w)
 (hr:∀n vs w,I n vs w->∀(g:Nat->aj) (K:Act->ak->Prop),(∀n' a w',n'<n->pX (fH l ts (ts.map (a.getD · undef))) ss (a.getD · undef)=a->I n' (ts.map (a.getD · undef)) w'->K (Fr a) w')->c.wp P (Ct P R (.k K::s)) (Fr (pX (fH l ts vs) ss g)) w):(Code.loop c).wp P (Ct P R s) (Fr l) w :=
 afE ts ss I b λn vs w e g=>hr n vs w e g _ λn' a w' h1 h2 d=>⟨n',a,h1,rfl,h2,d⟩
def Mr(n:Nat)(a:List Nat)(m:Mem w0 w is)(h:V P R w0 ds X5 n a True s l is):Ct P R s .normal (Fr l ds) w:=(qO X5 n a True _ l is h).2 w m λ_ _ e=>(by cases e)
def aT(n:Nat)(a:List Nat)(m:Mem w0 w is)(h:V P R w0 ds (X4 (Z,w)) n a True s l is):Ct P R s .normal (Fr l ds) w:=(qO (X4 (Z,w)) n a True _ l is h).2 w m λ_ _ e=>(by cases e;rfl)
end
section
variable {P:bt} {ds:List ej} {l:List aj}
def agf{c:Code}{Q:Exit->Act->ak->Prop}{w:ak}(ts ss:List Nat)(J:List aj->ak->Prop)
 (hc:c.wp P (Exit.then (λd w'=>∃b,d=Fr b ds/\pX (fH l ts (ts.map (b.getD · undef))) ss (b.getD · undef)=b/\J (ts.map (b.getD · undef)) w') Q) (Fr l ds) w)
 (j:∀vs u,J vs u->∀g:Nat->aj,Q .normal (Fr (pX (fH l ts vs) ss g) ds) u):c.wp P Q (Fr l ds) w:=by
 refine Code.wp_mono ?_ hc;intro e a w' h;cases e with
 | normal =>
  obtain⟨b,rfl,i,f⟩:=h;rw[<-i];exact j _ _ f _
 | exit id=>exact h
 | goto id=>exact h
 | ret=>exact h
 | panic k=>exact h
 | outgrown=>exact h
def aoh{c:Code}{Q:Exit->Act->ak->Prop}{w0 w:ak}{is:List It}(m:Mem w0 w is)(ts ss:List Nat)(J:List aj->Prop)
 (hc:c.wp P (Exit.then (λb w'=>∃a,b=Fr a ds/\pX (fH l ts (ts.map (a.getD · undef))) ss (a.getD · undef)=a/\Mem w0 w' is/\J (ts.map (a.getD · undef))) Q) (Fr l ds) w)
 (d:∀vs u,Mem w0 u is->J vs->∀g:Nat->aj,Q .normal (Fr (pX (fH l ts vs) ss g) ds) u):c.wp P Q (Fr l ds) w :=
 agf ts ss (λvs w'=>Mem w0 w' is/\J vs) hc λvs u h g=>d vs u h.1 h.2 g
def aoi{c:Code}{Q:Exit->Act->ak->Prop}{w0 w:ak}{is:List It}(m:Mem w0 w is)(k:Nat)(ts ss:List Nat)(J:List aj->It->Prop)
 (hc:c.wp P (Exit.then (λd w'=>∃b i,d=Fr b ds/\pX (fH l ts (ts.map (b.getD · undef))) ss (b.getD · undef)=b/\Mem w0 w' (is.set k i)/\J (ts.map (b.getD · undef)) i) Q) (Fr l ds) w)
 (n:∀vs i u,Mem w0 u (is.set k i)->J vs i->∀g:Nat->aj,Q .normal (Fr (pX (fH l ts vs) ss g) ds) u):c.wp P Q (Fr l ds) w:=by
 refine agf ts ss (λvs w'=>∃i,Mem w0 w' (is.set k i)/\J vs i) (Code.wp_mono ?_ hc) λvs u h g=>?_
 . intro e a w' h
   cases e with
   | normal=>obtain⟨b,i,h1,h2,f,j⟩:=h;exact⟨b,h1,h2,i,f,j⟩
   | exit id=>exact h
   | goto id=>exact h
   | ret=>exact h
   | panic o=>exact h
   | outgrown=>exact h
 obtain⟨i,h1,h2⟩:=h
 exact n vs i u h1 h2 g
end
section
variable {P:bt} {R:Exit->Act->ak->Prop} {w0 w:ak} {ds:List ej} {s:List Ko} {l:List aj} {is:List It}
def Tf{c:Code}(m:Mem w0 w is)(ts ss:List Nat)(J:List aj->Prop)
 (hc:∀K:Act->ak->Prop,(∀a w',pX (fH l ts (ts.map (a.getD · undef))) ss (a.getD · undef)=a->Mem w0 w' is->J (ts.map (a.getD · undef))->K (Fr a ds) w')->c.wp P (Ct P R (.k K::s)) (Fr l ds) w)
 (d:∀vs u,Mem w0 u is->J vs->∀g:Nat->aj,Ct P R s .normal (Fr (pX (fH l ts vs) ss g) ds) u):c.wp P (Ct P R s) (Fr l ds) w :=
 aoh m ts ss J (hc _ λa w' h1 h2 b=>⟨a,rfl,h1,h2,b⟩) d
def gY{c:Code}(m:Mem w0 w is)(k:Nat)(ts ss:List Nat)(J:List aj->It->Prop)
 (hc:∀K:Act->ak->Prop,(∀a i w',pX (fH l ts (ts.map (a.getD · undef))) ss (a.getD · undef)=a->Mem w0 w' (is.set k i)->J (ts.map (a.getD · undef)) i->K (Fr a ds) w')->c.wp P (Ct P R (.k K::s)) (Fr l ds) w)
 (d:∀vs i u,Mem w0 u (is.set k i)->J vs i->∀g:Nat->aj,Ct P R s .normal (Fr (pX (fH l ts vs) ss g) ds) u):c.wp P (Ct P R s) (Fr l ds) w :=
 aoi m k ts ss J (hc _ λa i w' h1 h2 b=>⟨a,i,rfl,h1,h2,b⟩) d
end
def auq:∀{o:Oper} {ops:List Oper} {j:Nat} {f:Nat->Prop},dsT (o::ops) (j+1) f=dsT ops j f
 | ⟨X5,_,_,_,_,_⟩,_,_,_=>rfl
 | ⟨X4 _,_,_,_,_,_⟩,_,_,_=>rfl
def U:(∀P R w0 ds q s l is,V P R w0 ds X5 0 [] q s l is=(q/\∀w,Mem w0 w is->Ct P R s .normal (Fz l ds) w))
 /\ (∀P R w0 ds B q s l is,V P R w0 ds (X4 (X3,B)) 0 [] q s l is=(q/\∀w,Mem w0 w is->fJ B w->Ct P R s .normal (Fz l ds) w))/\(∀P R w0 ds B q s l is,V P R w0 ds (X4 (Z,B)) 0 [] q s l is=(q/\Ct P R s .normal (Fz l ds) B))
 /\ (∀P R w0 ds k h q l is,V P R w0 ds X5 0 (k::h) q [] l is=(q/\∀w,Mem w0 w is->R .normal (Fz l ds) w))
 /\ (∀P R w0 ds B k h q l is,V P R w0 ds (X4 (X3,B)) 0 (k::h) q [] l is=(q/\∀w,Mem w0 w is->fJ B w->R .normal (Fz l ds) w))/\(∀P R w0 ds B k h q l is,V P R w0 ds (X4 (Z,B)) 0 (k::h) q [] l is=(q/\R .normal (Fz l ds) B))
 /\ (∀P R w0 ds k h q c s l is,V P R w0 ds X5 0 (k::h) q (.c c::s) l is=(q/\∀w,Mem w0 w is->c.wp P (Ct P R s) (Fz l ds) w))
 /\ (∀P R w0 ds B k h q c s l is,V P R w0 ds (X4 (X3,B)) 0 (k::h) q (.c c::s) l is=(q/\∀w,Mem w0 w is->fJ B w->c.wp P (Ct P R s) (Fz l ds) w))/\(∀P R w0 ds B k h q c s l is,V P R w0 ds (X4 (Z,B)) 0 (k::h) q (.c c::s) l is=(q/\c.wp P (Ct P R s) (Fz l ds) B))
 /\ (∀P R w0 ds k h q ops rest s l is,V P R w0 ds X5 0 (k::h) q (.o ops rest::s) l is=(q/\∀w,Mem w0 w is->az P ops (Ct P R s) rest (Fz l ds) w))
 /\ (∀P R w0 ds B k h q ops rest s l is,V P R w0 ds (X4 (X3,B)) 0 (k::h) q (.o ops rest::s) l is=(q/\∀w,Mem w0 w is->fJ B w->az P ops (Ct P R s) rest (Fz l ds) w))/\(∀P R w0 ds B k h q ops rest s l is,V P R w0 ds (X4 (Z,B)) 0 (k::h) q (.o ops rest::s) l is=(q/\az P ops (Ct P R s) rest (Fz l ds) B))
 /\ (∀P R w0 ds k h q K s l is,V P R w0 ds X5 0 (k::h) q (.k K::s) l is=(q/\∀w,Mem w0 w is->K (Fz l ds) w))
 /\ (∀P R w0 ds B k h q K s l is,V P R w0 ds (X4 (X3,B)) 0 (k::h) q (.k K::s) l is=(q/\∀w,Mem w0 w is->fJ B w->K (Fz l ds) w))/\(∀P R w0 ds B k h q K s l is,V P R w0 ds (X4 (Z,B)) 0 (k::h) q (.k K::s) l is=(q/\K (Fz l ds) B))
 /\ (∀P R w0 ds os n h q i s l is,V P R w0 ds os (n+1) h q (.b i::s) l is=V P R w0 ds os n h q s l is)
 /\ (∀P R w0 ds os n h q ops s l is,V P R w0 ds os (n+1) h q (.o ops []::s) l is=V P R w0 ds os n h q s l is)
 /\ (∀P R w0 ds os n h q ops d op ty pos D g rest s l is,V P R w0 ds os (n+1) h q (.o ops (⟨X4 d,op,ty,pos,D,g⟩::rest)::s) l is=opG ops l g h (λh=>Ch P w0 l is [] (kpb os) op h λF v h is=>V P R w0 ds os n h (F/\q) (.o ops rest::s) (l.set d v) is) (λh=>V P R w0 ds os n h q (.o ops rest::s) (l.set d undef) is) λk h j w=>dsT ops.toList j λt=>vvB (l.getD t undef) λb=>VG X4 P w0 is [] j w b t (λq h rest G d v=>∀u:Nat->aj,V P R w0 ds os n h q (.o ops rest::s) ((Yl l G u).set d (.bool v)) is) (k+1) h q (⟨X4 d,op,ty,pos,D,g⟩::rest) l [])
 /\ (∀P R w0 ds os n h q ops op ty pos D g rest s l is,V P R w0 ds os (n+1) h q (.o ops (⟨X5,op,ty,pos,D,g⟩::rest)::s) l is=opG ops l g h (λh=>stV P l is os.isSome op h λF _ h is=>V P R w0 ds os n h (F/\q) (.o ops rest::s) l is) (λh=>V P R w0 ds os n h q (.o ops rest::s) l is) λ_ _ _ _=>False)
 /\ (∀P R w0 ds os n h q a b s l is,V P R w0 ds os (n+1) h q (.c (.seq a b)::s) l is=V P R w0 ds os n h q (.c a :: .c b::s) l is)
 /\ (∀P R w0 ds os n h q s l is,V P R w0 ds os (n+1) h q (.c .skip::s) l is=V P R w0 ds os n h q s l is)
 /\ (∀P R w0 ds os n h q i c s l is,V P R w0 ds os (n+1) h q (.c (.block i c)::s) l is=V P R w0 ds os n h q (.c c :: .b i::s) l is)
 /\ (∀P R w0 ds os n h q i s l is,V P R w0 ds os (n+1) h q (.c (.exit i)::s) l is=Vp i s λs=>V P R w0 ds os n h q s l is)
 /\ (∀P R w0 ds n h q s l is,V P R w0 ds X5 (n+1) h q (.c .ret::s) l is=(q/\∀w,Mem w0 w is->R .ret (Fz l ds) w))/\(∀P R w0 ds B n h q s l is,V P R w0 ds (X4 (X3,B)) (n+1) h q (.c .ret::s) l is=(q/\∀w,Mem w0 w is->fJ B w->R .ret (Fz l ds) w))/\(∀P R w0 ds B n h q s l is,V P R w0 ds (X4 (Z,B)) (n+1) h q (.c .ret::s) l is=(q/\R .ret (Fz l ds) B))
 /\ (∀P R w0 ds os n h q x a b s l is,V P R w0 ds os (n+1) h q (.c (.cond x a b)::s) l is=vvB (ev l x) λt=>vbX t (V P R w0 ds os n h q (.c a::s) l is) (V P R w0 ds os n h q (.c b::s) l is))
 /\ (∀P R w0 ds os n h q i ops s l is,V P R w0 ds os (n+1) h q (.c (.region i (jo ops) X3)::s) l is=V P R w0 ds os n h q (.o ops.toArray ops::s) l is)
 /\ (∀ops l h p q r,opG ops l X5 h p q r=p h)/\(∀ops l j b h p q r,opG (jo ops) l (X4 (j,b)) (0::h) p q r=vvG (vyv ops l j) b (p h) (q h))/\(∀ops l j b k h p q r,opG ops l (X4 (j,b)) ((k+1)::h) p q r=r k h j b)
 /\ (∀ops j f,dsT (jo ops).toList j f=dsT ops j f)/\(∀d op ty pos D g ops f,dsT (⟨X4 d,op,ty,pos,D,g⟩::ops) 0 f=f d)/\(∀o ops j f,dsT (o::ops) (j+1) f=dsT ops j f)
 /\ (∀P w0 is os j want b t K k h q d op ty pos D i w rest l ds,VG X4 P w0 is os j want b t K (k+1) h q (⟨X4 d,op,ty,pos,D,X4 (i,w)⟩::rest) l ds=Wn j i (vbE want w (Wn t d False (Ch P w0 l is os Z op h λF v h _=>VG X4 P w0 is os j want b t K k h ((b=want->F)/\q) rest (l.set d v) (d::ds)))) False)
 /\ (∀P w0 is os j want b t K k h q d i x y ty pos D rest l ds,VG X4 P w0 is os j want b t K (k+1) h q (⟨X4 d,.pick (.tmp i) x y,ty,pos,D,X5⟩::rest) l ds=Wn t i (pkG want b l x y λv=>K q h rest ds d v) False)
 /\ (∀P w0 is os j want b t K k h q d op ty pos D i w rest l ds,VG hdH P w0 is os j want b t K (k+1) h q ((⟨X4 d,op,ty,pos,D,X4 (i,w)⟩,Z)::rest) l ds=Wn j i (vbE want w (Wn t d False (Ch P w0 l is os Z op h λF v h _=>VG hdH P w0 is os j want b t K k h ((b=want->F)/\q) rest (l.set d v) (d::ds)))) False)
 /\ (∀P w0 is os j want b t K k h q d i x y ty pos D rest l ds,VG hdH P w0 is os j want b t K (k+1) h q ((⟨X4 d,.pick (.tmp i) x y,ty,pos,D,X5⟩,Z)::rest) l ds=Wn t i (pkG want b l x y λv=>K q h rest ds d v) False)
 /\ (∀p,vbE Z Z p=p)/\(∀p,vbE X3 X3 p=p)/\(∀b l x f,pkG Z b l x (.const (.bool X3)) f=vvB (ev l x) λv=>f (b&&v))/\(∀b l y f,pkG X3 b l (.const (.bool Z)) y f=vvB (ev l y) λv=>f (b||v))
 /\ (∀l u,Yl l [] u=l)/\(∀l d ds u,Yl l (d::ds) u=(Yl l ds u).set d (u d))
 /\ (∀p:Prop,(p->True)=True)/\(∀p [Decidable p],(decide p=Z)=p)/\(∀p [Decidable p],(decide p=X3)=¬p)/\(∀a b:Bool,((a&&b)=Z)=(a=Z/\b=Z))/\(∀a b:Bool,((a||b)=X3)=(a=X3/\b=X3))/\(∀a:Bool,((!a)=Z)=(a=X3))/\(∀a:Bool,((!a)=X3)=(a=Z))
 /\ (∀o ops l j,vyv (o::ops) l (j+1)=vyv ops l j)/\(∀d op ty pos D g ops l,vyv (⟨X4 d,op,ty,pos,D,g⟩::ops) l 0=l.getD d undef)
 /\ (∀p q,vvG (.bool Z) Z p q=p)/\(∀p q,vvG (.bool X3) Z p q=q)/\(∀p q,vvG (.bool Z) X3 p q=q)/\(∀p q,vvG (.bool X3) X3 p q=p)/\(∀b p q,vvG undef b p q=q)
 /\ (∀i s f,Vp i (.b i::s) f=f s)/\(∀i j s f,Vp i (.b j::s) f=Wn i j (f s) (Vp i s f))/\(∀i c s f,Vp i (.c c::s) f=Vp i s f)/\(∀i ops rest s f,Vp i (.o ops rest::s) f=Vp i s f)/\(∀i K s f,Vp i (.k K::s) f=Vp i s f)/\(∀i c n s f,Vp i (.r c n::s) f=Vp i s f)
 /\ (∀P R w0 ds os n h q c k s l is,V P R w0 ds os (n+1) (k::h) q (.c (.loop c)::s) l is=V P R w0 ds os n h q (.r c k::s) l is)/\(∀P R w0 ds os n h q c k s l is,V P R w0 ds os (n+1) h q (.r c (k+1)::s) l is=V P R w0 ds os n h q (.c c :: .r c k::s) l is)
 /\ (∀p q,Wn 0 0 p q=p)/\(∀n m p q,Wn (n+1) (m+1) p q=Wn n m p q)/\(∀n p q,Wn (n+1) 0 p q=q)/\(∀n p q,Wn 0 (n+1) p q=q)
 /\ (∀k m f,tS (.int k m) f=f k m)/\(∀b f,vvB (.bool b) f=f b)/\(∀a f,vvP (.pointer (X4 a)) f=f a)/\(∀a n c f,vvS (.slice a n c) f=f a n c)/\(∀cs f,vvA (.agg (jo cs)) f=f cs)/\(∀cs f,vvT (.tuple (jo cs)) f=f cs)
 /\ (∀p q,vbX Z p q=p)/\(∀p q,vbX X3 p q=q)/\(∀n p,vnX (n+1) p=p)
 /\ (∀x l f,Mo (x::l) 0 f=f x)/\(∀x l n f,Mo (x::l) (n+1) f=Mo l n f)
 /\ (∀P w0 l is os C x h K,Ch P w0 l is os C (.move x) h K=K True (ev l x) h is)
 /\ (∀P w0 l is os C x h K,Ch P w0 l is os C (.assign x) h K=K True (ev l x) h is)
 /\ (∀P w0 l is os C x h K,Ch P w0 l is os C (.nilCheck x) h K=vvP (ev l x) λa=>K True (.pointer (X4 a)) h is)
 /\ (∀P w0 l is os C c x y h K,Ch P w0 l is os C (.pick c x y) h K=vvB (ev l c) λb=>vbX b (K True (ev l x) h is) (K True (ev l y) h is))
 /\ (∀P w0 l is os C b T x y T' h K,Ch P w0 l is os C (.binOp b T x y T') h K=biV P T b (ev l x) (ev l y) h is K)
 /\ (∀P w0 l is os C T x h K,Ch P w0 l is os C (.unOp .not T x) h K=vvB (ev l x) λb=>K True (.bool (!b)) h is)
 /\ (∀P w0 l is os C T x h K,Ch P w0 l is os C (.unOp .neg T x) h K=tS (ev l x) λk m=>K (InR k (0-m)) (.int k (0-m)) h is)
 /\ (∀P w0 l is os C T T' x h K,Ch P w0 l is os C (.convert T T' x) h K=Cg (ikP P T) λ_=>Cg (ikP P T') λk=>tS (ev l x) λ_ m=>K (InR k m) (.int k m) h is)
 /\ (∀P w0 l is os C x i h K,Ch P w0 l is os C (.extract x i) h K=vvT (ev l x) λcs=>Mo cs i λv=>K True v h is)
 /\ (∀P w0 l is os C b xs ts h K,Ch P w0 l is os C (.call ⟨.builtin b,jo xs,jo ts⟩) h K=caV P l is b xs ts h K)
 /\ (∀P l is x T h K,caV P l is .len [x] [T] h K=Cg (Ge P T) λ_=>vvS (ev l x) λ_ n _=>K True (X6 n) h is)
 /\ (∀P l is x y ts h K,caV P l is .min [x,y] ts h K=tS (ev l x) λk m=>tS (ev l y) λE n=>K (E=k) (.int k (if n<m then n else m)) h is)
 /\ (∀P l is x y ts h K,caV P l is .max [x,y] ts h K=tS (ev l x) λk m=>tS (ev l y) λE n=>K (E=k) (.int k (if m<n then n else m)) h is)
 /\ (∀P T x y h is K,biV P T .add x y h is K=tS x λk m=>tS y λE n=>K (E=k/\InR k (m+n)) (.int k (m+n)) h is)
 /\ (∀P T x y h is K,biV P T .sub x y h is K=tS x λk m=>tS y λE n=>K (E=k/\InR k (m-n)) (.int k (m-n)) h is)
 /\ (∀P T x y h is K,biV P T .mul x y h is K=tS x λk m=>tS y λE n=>K (E=k/\InR k (m*n)) (.int k (m*n)) h is)
 /\ (∀P T x y h is K,biV P T .lss x y h is K=tS x λk m=>tS y λE n=>cV h (m<n) (λp=>K (E=k/\p)) is)
 /\ (∀P T x y h is K,biV P T .leq x y h is K=tS x λk m=>tS y λE n=>cV h (m<=n) (λp=>K (E=k/\p)) is)
 /\ (∀P T x y h is K,biV P T .gtr x y h is K=tS x λk m=>tS y λE n=>cV h (n<m) (λp=>K (E=k/\p)) is)
 /\ (∀P T x y h is K,biV P T .geq x y h is K=tS x λk m=>tS y λE n=>cV h (n<=m) (λp=>K (E=k/\p)) is)
 /\ (∀P T x y h is K,biV P T .eql x y h is K=vvE x (λk m=>tS y λE n=>cV h (m=n) (λp=>K (E=k/\p)) is) λcs=>vvA y λus=>∃b,EqB P T cs us b/\K True (.bool b) h is)
 /\ (∀P T x y h is K,biV P T .neq x y h is K=vvE x (λk m=>tS y λE n=>cV h (m≠n) (λp=>K (E=k/\p)) is) λcs=>vvA y λus=>∃b,NeB P T cs us b/\K True (.bool b) h is)
 /\ (∀k m f g,vvE (.int k m) f g=f k m)/\(∀cs f g,vvE (.agg (jo cs)) f g=g cs)/\(∀p f g,vvE (pt p) f g=g [X6 p.x,X6 p.y,X6 p.z])/\(∀t f g,vvE (tr t) f g=g [X6 t.a.x,X6 t.a.y,X6 t.a.z,X6 t.b.x,X6 t.b.y,X6 t.b.z,X6 t.c.x,X6 t.c.y,X6 t.c.z])/\(∀e f g,vvE (ed e) f g=g [X6 e.1.x,X6 e.1.y,X6 e.1.z,X6 e.2.x,X6 e.2.y,X6 e.2.z])
 /\ (∀g,ldK g 0=∃p:H,g (pt p))/\(∀g,ldK g 1=∃t:T3,g (tr t))/\(∀g,ldK g 2=∃z:Int,g (X6 z))/\(∀g,ldK g 3=∃b:Bool,g (.bool b))/\(∀g,ldK g 4=∃e:E3,g (ed e))/\(∀g,ldK g 5=∃n:Int,g (W n))/\(∀g,ldK g 6=∃v:aj,g v)
 /\ (∀h p K is [Decidable p],cV (0::h) p K is=K True (.bool (decide p)) h is)/\(∀h p K is [Decidable p],cV (1::h) p K is=K p (.bool Z) h is)/\(∀h p K is [Decidable p],cV (2::h) p K is=K (¬p) (.bool X3) h is)
 /\ (∀n,InR .i64 n=(-9223372036854775808<=n/\n<9223372036854775808))/\(∀n,InR .i32 n=(-2147483648<=n/\n<2147483648))/\(∀n,InR .u64 n=(0<=n/\n<18446744073709551616))/\(∀n,InR .u32 n=(0<=n/\n<4294967296))/\(∀n,InR .u8 n=(0<=n/\n<256))
 /\ (∀{α:Type} (J:α->Option Oper) P w0 is os ops K q rest l,VQ J P w0 is os ops K 0 [] q rest l=(q/\K rest l))/\(∀P w0 is os ops K n h q d op ty pos D g rest l,VQ X4 P w0 is os ops K (n+1) h q (⟨X4 d,op,ty,pos,D,g⟩::rest) l=opG ops l g h (λh=>Ch P w0 l is os Z op h λF v h _=>VQ X4 P w0 is os ops K n h (F/\q) rest (l.set d v)) (λh=>VQ X4 P w0 is os ops K n h q rest (l.set d undef)) λk h j w=>dsT ops.toList j λt=>vvB (l.getD t undef) λb=>VG X4 P w0 is os j w b t (λq h rest G d v=>∀u:Nat->aj,VQ X4 P w0 is os ops K n h q rest ((Yl l G u).set d (.bool v))) (k+1) h q (⟨X4 d,op,ty,pos,D,g⟩::rest) l [])
 /\ (∀P w0 is os ops K n h q d op ty pos D g rest l,VQ hdH P w0 is os ops K (n+1) h q ((⟨X4 d,op,ty,pos,D,g⟩,Z)::rest) l=opG ops l g h (λh=>Ch P w0 l is os Z op h λF v h _=>VQ hdH P w0 is os ops K n h (F/\q) rest (l.set d v)) (λh=>VQ hdH P w0 is os ops K n h q rest (l.set d undef)) λk h j w=>dsT ops.toList j λt=>vvB (l.getD t undef) λb=>VG hdH P w0 is os j w b t (λq h rest G d v=>∀u:Nat->aj,VQ hdH P w0 is os ops K n h q rest ((Yl l G u).set d (.bool v))) (k+1) h q ((⟨X4 d,op,ty,pos,D,g⟩,Z)::rest) l [])
 /\ (∀(w:Bool × ak),(X4 w).isSome=Z)/\((X5:Kw).isSome=X3)/\(∀b w,kpb (X4 (b,w))=b)/\(kpb X5=X3)
 /\ (∀{α:Type} (x:α) f,Cg (X4 x) f=f x)/\(∀l ds,Fz l ds=Fr l ds)
 /\ (∀{α β:Type} (a:α) (b:β),(a,b).1=a)/\(∀{α β:Type} (a:α) (b:β),(a,b).2=b)
 /\ (∀p:Prop,(True/\p)=p)/\(∀p:Prop,(p/\True)=p)
 /\ (∀(l:List Go.Value) (t:Nat),ev l (.tmp t)=l.getD t undef)/\(∀(l:List Go.Value) (v:Go.Value),ev l (.const v)=v)/\(∀(l:List Go.Value) (f:Nat),ev l (.func f)=.func (.func f) #[] #[])/\(∀{α:Type} (x:α) (xs:List α) (n:Nat) (d:α),(x::xs).getD (n+1) d=xs.getD n d)/\(∀{α:Type} (x:α) (xs:List α) (d:α),(x::xs).getD 0 d=x)/\(∀{α:Type} (x:α) (xs:List α) (n:Nat) (a:α),(x::xs).set (n+1) a=x::xs.set n a)/\(∀{α:Type} (x:α) (xs:List α) (a:α),(x::xs).set 0 a=a::xs)
 /\ (∀P w0 l is os C T x i h K,Ch P w0 l is os C (.fieldAddr T x i) h K=Cg (lX P T i) λf=>vvP (ev l x) λa=>vnX f.2.2 (K True (.pointer (X4 (a.add f.1))) h is))
 /\ (∀P w0 l is os C T x i h K,Ch P w0 l is os C (.field T x i) h K=Cg (lX P T i) λf=>vvA (ev l x) λcs=>vbX f.2.1 (K True (.agg ((cs.drop f.1).take f.2.2).toArray) h is) (Mo cs f.1 λv=>K True v h is))
 /\ (∀P w0 l is os C T x k h K,Ch P w0 l is os C (.load T x) (0::k::h) K=vvP (ev l x) λa=>ldK (λv=>(∀w,Mem w0 w is->dQ P w T a v)/\K True v h is) k)/\(∀P w0 l is os C T x k h K,Ch P w0 l is os C (.load T x) ((k+1)::h) K=Cg (tT P T) λz=>vvP (ev l x) λa=>atB is os k λg=>vbX z.1 (K (a=⟨g.1,a.off,X5⟩/\Hp ((g.2.1.drop a.off).take z.2) z.2) (.agg ((g.2.1.drop a.off).take z.2).toArray) h is) (Mo g.2.1 a.off λv=>K (a=⟨g.1,a.off,X5⟩) v h is))
 /\ (∀P w0 l is os C T ps h K,Ch P w0 l is os C (.build T (jo ps)) h K=Cg (yG P T) λz=>blV l z.1 ps z.2 True λq cs=>K q (.agg cs.toArray) h is)
 /\ (∀l I cs q f,blV l I [] cs q f=f q cs)/\(∀l I i x ps cs q f,blV l I ((i,x)::ps) cs q f=aaO I i λz=>vnX z.2 (blV l I ps (over cs z.1 (ev l x).cells.toList) (Hp (ev l x).cells.toList z.2/\Hp ((cs.drop z.1).take z.2) z.2/\q) f))
 /\ (∀x l f,aaO (x::l) 0 f=f x)/\(∀x l n f,aaO (x::l) (n+1) f=aaO l n f)
 /\ (∀P w0 l is os T x h K,Ch P w0 l is os X3 (.box T x) h K=∀g,K True (.pointer (X4 ⟨g,0,X5⟩)) h (bI g (ev l x).cells.toList T::is))
 /\ (∀P w0 l is os T h K,Ch P w0 l is os X3 (.alloc T) h K=Cg (Kd P T) λz=>∀g,K True (.pointer (X4 ⟨g,0,X5⟩)) h (bI g z T::is))
 /\ (∀P l is T x y k h K,stV P l is X3 (.store T x y) (k::h) K=Cg (tT P T) λz=>vnX z.2 (vvP (ev l x) λa=>atM is k λg=>K (a=⟨g.1,a.off,X5⟩/\Hp ((g.2.1.drop a.off).take z.2) z.2/\Hp (ev l y).cells.toList z.2/\aaM (ev l y).cells.toList) undef h (is.set k (bI g.1 (over g.2.1 a.off (ev l y).cells.toList) g.2.2))))
 /\ (∀P w0 l is os C T x y h K,Ch P w0 l is os C (.indexAddr T x y) h K=Cg (Mp P T) λz=>vvX z.1 (ev l x) λa n=>tS (ev l y) λ_ m=>K (0<=m/\m<n) (.pointer (X4 (a.add (m.toNat*z.2)))) h is)
 /\ (∀n v f,vvX (X4 n) v f=vvP v λa=>f a n)/\(∀v f,vvX X5 v f=vvS v λA n _=>Cg A λa=>f a n)
 /\ (∀bs i is,qG (Z::bs) (i::is)=i::qG bs is)/\(∀bs i is,qG (X3::bs) (i::is)=qG bs is)/\(∀is,qG [] is=[])
 /\ (∀i is os f,atB (i::is) os 0 f=Cg i.bk f)/\(∀i is os k f,atB (i::is) os (k+1) f=atB is os k f)/\(∀os k f,atB [] os k f=atO os k f)/\(∀x os f,atO (x::os) 0 f=f x)/\(∀x os k f,atO (x::os) (k+1) f=atO os k f)
 /\ (∀i is f,atM (i::is) 0 f=Cg i.bk f)/\(∀i is k f,atM (i::is) (k+1) f=atM is k f)/\(∀g cs t,(bI g cs t).bk=X4 (g,cs,t))
 /\ (∀x l n,Hp (x::l) (n+1)=Hp l n)/\(Hp [] 0=True)/\(∀v l,aaM (v::l)=(v.oneCell'=Z/\aaM l))/\(aaM []=True)
 /\ (∀g n,(⟨g,0,X5⟩:Addr).add n=⟨g,n,X5⟩)/\(∀g o n,(⟨g,o,X5⟩:Addr).add n=⟨g,o+n,X5⟩)
 /\ (∀cs o us,over cs o us=cs.take o++us++cs.drop (o+us.length))
 /\ (∀cs,(Value.agg (jo cs)).cells.toList=cs)/\(∀k n,(Value.int k n).cells.toList=[.int k n])/\(∀b,(bw b).cells.toList=[.bool b])/\(∀b,(Value.string b).cells.toList=[.string b])/\(∀a,(Value.pointer a).cells.toList=[.pointer a])/\(∀a n c,(Value.slice a n c).cells.toList=[.slice a n c])/\(∀a,(Value.map a).cells.toList=[.map a])/\(∀a b c,(Value.func a b c).cells.toList=[.func a b c])
 /\ (∀k n,(Value.int k n).oneCell'=Z)/\(∀b,(bw b).oneCell'=Z)/\(∀b,(Value.string b).oneCell'=Z)/\(∀a,(Value.pointer a).oneCell'=Z)/\(∀a n c,(Value.slice a n c).oneCell'=Z)/\(∀a,(Value.map a).oneCell'=Z)/\(∀a b c,(Value.func a b c).oneCell'=Z)
 /\ (∀{α:Type} (x:α) (xs:List α) (n:Nat),(x::xs).take (n+1)=x::xs.take n)/\(∀{α:Type} (xs:List α),xs.take 0=[])/\(∀{α:Type} (x:α) (xs:List α) (n:Nat),(x::xs).drop (n+1)=xs.drop n)/\(∀{α:Type} (xs:List α),xs.drop 0=xs)/\(∀{α:Type} (n:Nat),([]:List α).drop n=[])/\(∀{α:Type} (x:α) (xs ys:List α),(x::xs)++ys=x::(xs++ys))/\(∀{α:Type} (ys:List α),[]++ys=ys)/\(∀{α:Type} (ys:List α),ys++[]=ys)/\(∀{α:Type} (x:α) (xs:List α),(x::xs).length=xs.length+1)/\(∀{α:Type},([]:List α).length=0)
 /\ (∀p:H,(pt p).cells.toList=[X6 p.x,X6 p.y,X6 p.z])/\(∀p f,vvA (pt p) f=f [X6 p.x,X6 p.y,X6 p.z])
 /\ (∀t:T3,(tr t).cells.toList=[X6 t.a.x,X6 t.a.y,X6 t.a.z,X6 t.b.x,X6 t.b.y,X6 t.b.z,X6 t.c.x,X6 t.c.y,X6 t.c.z])/\(∀t f,vvA (tr t) f=f [X6 t.a.x,X6 t.a.y,X6 t.a.z,X6 t.b.x,X6 t.b.y,X6 t.b.z,X6 t.c.x,X6 t.c.y,X6 t.c.z])
 /\ (∀v:H,(wv v).cells.toList=[.bool (dH v.x),.string (eC v.x),.bool (dH v.y),.string (eC v.y),.bool (dH v.z),.string (eC v.z)])/\(∀v f,vvA (wv v) f=f [.bool (dH v.x),.string (eC v.x),.bool (dH v.y),.string (eC v.y),.bool (dH v.z),.string (eC v.z)])
 /\ (∀v:H,(nv v).cells.toList=[X6 v.x,X6 v.y,X6 v.z])/\(∀v f,vvA (nv v) f=f [X6 v.x,X6 v.y,X6 v.z])
 /\ (∀v:H,(sg v).cells.toList=[X6 (bA v.x),X6 (bA v.y),X6 (bA v.z)])/\(∀v f,vvA (sg v) f=f [X6 (bA v.x),X6 (bA v.y),X6 (bA v.z)])
 /\ (∀e:E3,(ed e).cells.toList=[X6 e.1.x,X6 e.1.y,X6 e.1.z,X6 e.2.x,X6 e.2.y,X6 e.2.z])/\(∀e f,vvA (ed e) f=f [X6 e.1.x,X6 e.1.y,X6 e.1.z,X6 e.2.x,X6 e.2.y,X6 e.2.z])
 /\ (∀p,iD p=[X6 p.x,X6 p.y,X6 p.z])/\(∀p,bH p=[X6 p.x,X6 p.y,X6 p.z])/\(∀e,cJ e=[X6 e.1.x,X6 e.1.y,X6 e.1.z,X6 e.2.x,X6 e.2.y,X6 e.2.z])/\(∀n,wC n=[.bool (dH n),.string (eC n)])
 /\ (∀n,(W n).cells.toList=[.bool (dH n),.string (eC n)])/\(∀n f,vvA (W n) f=f [.bool (dH n),.string (eC n)])
 /\ (∀q:Rat,(Q q).cells.toList=[.bool (dH q.num),.string (eC q.num),.bool (dH (q.den:Int)),.string (eC (q.den:Int))])/\(∀q f,vvA (Q q) f=f [.bool (dH q.num),.string (eC q.num),.bool (dH (q.den:Int)),.string (eC (q.den:Int))]):=by
 repeat' apply And.intro
 all_goals intros
 all_goals first | rfl | exact Y6 decide_eq_true_iff | exact Y6 Y1 | exact Y6 (by simp) | (rename_i op _ _ _ _ _ _ _ _;cases op <;> rfl) | exact auo | exact auq | exact X2 _ | exact Y2 _ | exact kp0 | exact kp1 | exact List.drop_nil | exact fb _ | exact (cS ..).trans (by rw[ai]) | exact cS ..
def Gf:List Oper->Nat->(Oper->Prop)->Prop
 | o::_,0,f=>f o
 | _::r,n+1,f=>Gf r n f
 | [],_,_=>False
def Dv:List (List Nat)->Nat->(List Nat->Prop)->Prop
 | s::_,0,f=>f s
 | _::r,n+1,f=>Dv r n f
 | [],_,f=>f []
def wT:∀{ss:List (List Nat)} {i:Nat} {f:List Nat->Prop},Dv ss i f->∃s,f s
 | s::_,0,_,h=>⟨s,h⟩
 | _::r,n+1,_,h=>wT (ss:=r) h
 | [],_,_,h=>⟨[],h⟩
def Yq(op:Op)(bs:List Bool):List Bool:=match op with
 | .box _ _ | .alloc _=>X3::bs
 | _=>bs
def Tg:List Bool->Nat->Prop->Prop
 | false::_,0,p=>p
 | _::bs,n+1,p=>Tg bs n p
 | _,_,_=>False
def tkV(P:bt)(w0:ak)(ops:Array Oper)(l:List aj)(hs:List It)(o:Oper)(a:List Nat)(q:Prop)(K:List Nat->Prop->List aj->Prop):Prop:=match o with
 | ⟨X4 d,op,_,_,_,g⟩=>opG ops l g a (λa=>Ch P w0 l hs [] Z op a λb v a _=>K a (b/\q) (l.set d v)) (λa=>K a q (l.set d undef)) λ_ _ _ _=>False
 | _=>False
def onV(P:bt)(w0:ak)(ops:Array Oper)(l:List aj)(is:List It)(bs:List Bool)(o:Oper)(a:List Nat)(q:Prop)(K:List Nat->Prop->List aj->List It->List Bool->Prop):Prop:=match o with
 | ⟨X4 d,op,_,_,_,g⟩=>opG ops l g a (λa=>Ch P w0 l is [] X3 op a λb v a c=>K a (b/\q) (l.set d v) c (Yq op bs)) (λa=>K a q (l.set d undef) is bs) λ_ _ _ _=>False
 | ⟨X5,op,_,_,_,g⟩=>opG ops l g a (λa=>Tg bs (a.headD 0) (stV P l is X3 op a λb _ a c=>K a (b/\q) l c bs)) (λa=>K a q l is bs) λ_ _ _ _=>False
def VT(P:bt)(w0:ak)(ops:Array Oper)(hs:List It)(ss:List (List Nat))(K:List aj->List It->Prop):rB->Prop->List aj->List It->List Bool->Prop
 | .nil,q,l,is,_=>q/\K l is
 | .take i t,q,l,is,bs=>Gf ops.toList i λo=>Dv ss i λa=>tkV P w0 ops l hs o a q λ_ q l=>VT P w0 ops hs ss K t q l is bs
 | .one i t,q,l,is,bs=>Gf ops.toList i λo=>Dv ss i λa=>onV P w0 ops l is bs o a q λ_ q l is bs=>VT P w0 ops hs ss K t q l is bs
 | .two i t j u,q,l,is,bs=>(Gf ops.toList i λo=>Dv ss i λa=>onV P w0 ops l is bs o a q λ_ q l is bs=>VT P w0 ops hs ss K t q l is bs)/\Gf ops.toList j λo=>Dv ss j λa=>onV P w0 ops l is bs o a q λ_ q l is bs=>VT P w0 ops hs ss K u q l is bs
 | .three i t j u k v,q,l,is,bs=>(Gf ops.toList i λo=>Dv ss i λa=>onV P w0 ops l is bs o a q λ_ q l is bs=>VT P w0 ops hs ss K t q l is bs)/\(Gf ops.toList j λo=>Dv ss j λa=>onV P w0 ops l is bs o a q λ_ q l is bs=>VT P w0 ops hs ss K u q l is bs)/\Gf ops.toList k λo=>Dv ss k λa=>onV P w0 ops l is bs o a q λ_ q l is bs=>VT P w0 ops hs ss K v q l is bs
def wU:∀{ops:List Oper} {i:Nat} {f:Oper->Prop},Gf ops i f->∃o,ops[i]? = X4 o/\f o
 | o::_,0,_,h=>⟨o,rfl,h⟩
 | _::r,n+1,_,h=>by rw[iq];exact wU (ops:=r) h
def aaV:∀{bs:List Bool} {k:Nat} {p:Prop},Tg bs k p->bs[k]? = X4 X3/\p
 | false::_,0,_,h=>⟨rfl,h⟩
 | true::_,0,_,h=>h.elim
 | false::bs,n+1,_,h=>by rw[iq];exact aaV (bs:=bs) h
 | true::bs,n+1,_,h=>by rw[iq];exact aaV (bs:=bs) h
 | [],0,_,h=>h.elim
 | [],_+1,_,h=>h.elim
def Th:∀{bs:List Bool} {is:List It} {k:Nat} {i:It},bs[k]? = X4 X3->qG bs (is.set k i)=qG bs is
 | false::bs,_::is,0,_,_=>rfl
 | true::bs,_::is,0,_,h=>by cases h
 | true::bs,j::is,k+1,i,h=>by
  rw[gn];show j::qG bs (is.set k i)=j::qG bs is
  rw[Th (by simpa using h)]
 | false::bs,j::is,k+1,i,h=>by
  rw[gn];show qG bs (is.set k i)=qG bs is
  exact Th (by simpa using h)
 | _,[],k,i,_=>by rw[List.set_nil]
 | [],_::_,_,_,h=>by cases h
section
variable {P:bt} {w0:ak} {ds:List ej} {ops:Array Oper} {hs:List It} {K:List aj->List It->Prop} {Q:Exit->Act->ak->Prop}
def arI{m:Nat}{p:Prop}(h:n=m+1)(hp:p):vnX n p:=by subst h;exact hp
def arJ{l:List aj}{is:List It}{b:List Nat}{K:KV}(h:stV P l is X3 op b K):∃r,stV P l is X3 op b (λs v t d=>d=is.set (b.headD 0) r/\K s v t d):=by
 unfold stV at h ⊢;split at h
 . rename_i T x y k b
   obtain⟨z,q,h⟩:=pC (show Cg _ _ from h);obtain⟨n,o,h⟩:=aaQ h;obtain⟨a,p,h⟩:=Hr h;obtain⟨i,g,m,e,h⟩:=aeL h;refine⟨bI g.1 (over g.2.1 a.off (ev l y).cells.toList) g.2.2,?_⟩;refine (show Cg (tT P T) _ from ?_);rw[q];refine (show vnX z.2 _ from arI o ?_);rw[p];refine (show atM is k _ from ?_);have key:∀{is:List It} {k:Nat} {f:Ob->Prop},is[k]? = X4 i->f g->atM is k f:=by
    intro is
    induction is with
    | nil=>intro k f h;cases h
    | cons j is ih =>
     intro k f h c;cases k with
     | zero=>cases h;show Cg i.bk f;rw[e];exact c
     | succ k=>exact ih (by simpa using h) c
   exact key m ⟨O,h⟩
 exact h.elim
def arK{l:List aj}{is:List It}{os:List Ob}{f:List Nat}{K:KV}(h:Ch P w0 l is os X3 op f K):(∃cs T,(∀g,K True (.pointer (X4 ⟨g,0,X5⟩)) f (bI g cs T::is))/\Bx P l is w0 ds op cs T/\∀bs,Yq op bs=X3::bs)\/(Ch P w0 l is os Z op f K/\∀bs,Yq op bs=bs):=by
 cases op
 case box T x=>exact .inl ⟨_,_,h,λd ty pos i ops Q rest w m c=>aiN (by simp) λu g e b a=>c g u e (m.newB e b a),λ_=>rfl⟩
 case alloc T =>
  obtain⟨cs,j,h⟩:=pC (show Cg _ _ from h);obtain⟨z,h1,h2⟩:=aaN j;exact .inl ⟨_,_,h,λd ty pos i ops Q rest w m c=>Er h1 h2 λu g e b a=>c g u e (m.newB e b a),λ_=>rfl⟩
 case unOp u T x=>cases u <;> exact .inr ⟨h,λ_=>rfl⟩
 all_goals exact .inr ⟨h,λ_=>rfl⟩
def Ms{l:List aj}{is:List It}{bs:List Bool}{o:Oper}{i:Nat}{t:rB}{j:List Nat}{q:Prop}{G:List Nat->Prop->List aj->List It->List Bool->Prop}(c:qG bs is=hs)(z:ops.toList[i]? = X4 o)(h:onV P w0 ops l is bs o j q G)
 (ih:∀j q l is bs,qG bs is=hs->G j q l is bs->q/\∀w,Mem w0 w is->cP P ops (λu=>Mem w0 u hs) Q t (Fr l ds) w) :
 q/\∀w,Mem w0 w is->az P ops (Exit.then (λa w=>Mem w0 w hs/\cP P ops (λu=>Mem w0 u hs) Q t a w) Q) [(ops[i]?).getD default] (Fr l ds) w:=by
 have D:(ops[i]?).getD default=o:=by
  rw[<-gm,z];rfl
 rw[D];have stay:∀{C:List Bool} {x:List It} {w:ak},qG C x=hs->Mem w0 w x->Mem w0 w hs:=λe m=>e▸m.sel _;obtain⟨d,op,ty,pos,y,g⟩:=o;cases d with
 | some d =>
  simp only[onV] at h;rcases Mq h with ⟨j,h,b⟩ | ⟨j,h,b⟩ | ⟨_,_,_,_,_,h⟩
  . rcases arK (w0:=w0) (ds:=ds) h with ⟨cs,T,h,n,p⟩ | ⟨h,p⟩
    . rw[p] at h
      have e:∀g,qG (X3::bs) (bI g cs T::is)=hs:=λ_=>c;exact⟨(ih _ _ _ _ _ (e 0) (h 0)).1.2,λw m=>nD (b _ _ _ _ _) (n d ty pos y ops _ [] w m λg u _ k=>aI ⟨stay (e g) k,(ih _ _ _ _ _ (e g) (h g)).2 u k⟩)⟩
    rcases Te (ds:=ds) Yo h with ⟨B,v,E,h,s⟩ | ⟨e,_⟩
    . rw[p] at h
      obtain⟨⟨r,hq⟩,f⟩:=ih _ _ _ _ _ c h;exact⟨hq,λw m=>nD (b _ _ _ _ _) (fI (s r w m ty) (aI ⟨stay c m,f w m⟩))⟩
    cases e
  . obtain⟨hq,f⟩:=ih _ _ _ _ _ c h
    exact⟨hq,λw m=>sO (b _ _ _ _ _) (by rw[gI];exact aI ⟨stay c m,f w m⟩)⟩
  exact h.elim
 | none =>
  simp only[onV] at h;rcases Mq h with ⟨j,h,b⟩ | ⟨j,h,b⟩ | ⟨_,_,_,_,_,h⟩
  . obtain⟨n,h⟩:=aaV h
    obtain⟨A,h⟩:=arJ h;obtain⟨_,B,E,x,⟨rfl,h⟩,s⟩:=akw (w0:=w0) (ds:=ds) h;have e:=(Th (i:=A) (is:=is) n).trans c;obtain⟨⟨r,hq⟩,f⟩:=ih _ _ _ _ _ e h;exact⟨hq,λw m=>nD (b _ _ _ _ _) (s r ty pos y ops _ [] w m λu k=>aI ⟨stay e k,f u k⟩)⟩
  . obtain⟨hq,f⟩:=ih _ _ _ _ _ c h
    exact⟨hq,λw m=>sO (b _ _ _ _ _) (aI ⟨stay c m,f w m⟩)⟩
  exact h.elim
def Ke{ss:List (List Nat)}(b:∀l is,K l is->∀w,Mem w0 w is->Q .normal (Fr l ds) w):∀(t:rB) (q:Prop) (l:List aj) (is:List It) (bs:List Bool),qG bs is=hs->VT P w0 ops hs ss K t q l is bs->q/\∀w,Mem w0 w is->cP P ops (λu=>Mem w0 u hs) Q t (Fr l ds) w
 | .nil,q,l,is,bs,_,h=>⟨h.1,λw m=>b _ _ h.2 w m⟩
 | .take i t,q,l,is,bs,a,h=>by
  obtain⟨⟨d,op,ty,pos,A,g⟩,f,h⟩:=wU h;obtain⟨c,h⟩:=wT h;have z:(ops[i]?).getD default=⟨d,op,ty,pos,A,g⟩:=by
   rw[<-gm,f];rfl
  cases d with
  | none=>exact h.elim
  | some d =>
   simp only[tkV] at h;rcases Mq h with ⟨c,h,s⟩ | ⟨c,h,s⟩ | ⟨_,_,_,_,_,h⟩
   . rcases Te (w0:=w0) (ds:=ds) Yo h with ⟨I,v,J,h,C⟩ | ⟨e,_⟩
     . obtain⟨⟨B,hq⟩,r⟩:=Ke b t _ _ _ _ a h
       refine⟨hq,λw m=>eT z ?_⟩;refine⟨v,.inl ⟨s _ _ _ _ _,λu D=>C B u D ty _ O O⟩,?_⟩;show cP P ops _ Q t ((Fr l ds).put (X4 d) v) w
       rw[gI];exact r w m
     cases e
   . obtain⟨hq,r⟩:=Ke b t _ _ _ _ a h
     refine⟨hq,λw m=>eT z ?_⟩;refine⟨undef,.inr ⟨s _ _ _ _ _,O⟩,?_⟩;show cP P ops _ Q t ((Fr l ds).put (X4 d) undef) w
     rw[gI];exact r w m
   exact h.elim
 | .one i t,q,l,is,bs,a,h=>by
  obtain⟨o,f,h⟩:=wU h;obtain⟨c,h⟩:=wT h;exact Ms a f h λc q l is bs e h=>Ke b t q l is bs e h
 | .two i t j u,q,l,is,bs,a,h=>by
  obtain⟨h1,h2⟩:=h;obtain⟨o,f,h1⟩:=wU h1;obtain⟨_,h1⟩:=wT h1;obtain⟨E,y,h2⟩:=wU h2;obtain⟨_,h2⟩:=wT h2;have p:=Ms (Q:=Q) (t:=t) a f h1 λc q l is bs e h=>Ke b t q l is bs e h;have x:=Ms (Q:=Q) (t:=u) a y h2 λc q l is bs e h=>Ke b u q l is bs e h;exact⟨p.1,λw m=>⟨p.2 w m,x.2 w m⟩⟩
 | .three i t j u k v,q,l,is,bs,a,h=>by
  obtain⟨h1,h2,n⟩:=h;obtain⟨o,f,h1⟩:=wU h1;obtain⟨_,h1⟩:=wT h1;obtain⟨E,y,h2⟩:=wU h2;obtain⟨_,h2⟩:=wT h2;obtain⟨H,G,n⟩:=wU n;obtain⟨_,n⟩:=wT n;have p:=Ms (Q:=Q) (t:=t) a f h1 λc q l is bs e h=>Ke b t q l is bs e h;have x:=Ms (Q:=Q) (t:=u) a y h2 λc q l is bs e h=>Ke b u q l is bs e h;have F:=Ms (Q:=Q) (t:=v) a G n λc q l is bs e h=>Ke b v q l is bs e h;exact⟨p.1,λw m=>⟨p.2 w m,x.2 w m,F.2 w m⟩⟩
end
def zvt{P:bt}{w0 w:ak}{ds:List ej}{s:List Ko}{R:Exit->Act->ak->Prop}{is:List It}{id:Nat}{l0:List aj}{l:List Oper}(bs:List Bool)(ss:List (List Nat))(t:rB)(m:Mem w0 w is)(f:P.follows .mixedOrders=Z)(b:(Region.noSelect l.toArray&&t.ok .any l.toArray l.toArray.size (Array.replicate l.toArray.size X3))=Z)
 (e:∀c d v a w,Ct P R s (.panic c) (Act.put a d v) w->Ct P R s (.panic c) a w)
 (h:VT P w0 l.toArray (qG bs is) ss (λl is=>∀w,Mem w0 w is->Ct P R s .normal (Fz l ds) w) t True l0 is bs):(Code.region id l.toArray Z).wp P (Ct P R s) (Fr l0 ds) w :=
 Xg m bs t f b e λ_ g=>(Ke (λ_ _ h=>h) t True l0 is bs rfl h).2 _ g
def aok{ops i a f}(h:i=a):Gf ops i f=Gf ops a f:=by rw[h]
def aol{ss i a f}(h:i=a):Dv ss i f=Dv ss a f:=by rw[h]
def aom{bs a k p}(h:bs=a):Tg bs k p=Tg a k p:=by rw[h]
def arL{P w0 ops l a hs o b q K}(h:l=a):tkV P w0 ops l hs o b q K=tkV P w0 ops a hs o b q K:=by rw[h]
def arM{P w0 ops l a is bs o b q K}(h:l=a):onV P w0 ops l is bs o b q K=onV P w0 ops a is bs o b q K:=by rw[h]
def aur{P w0 ops hs ss K t q l a is bs}(h:l=a):VT P w0 ops hs ss K t q l is bs=VT P w0 ops hs ss K t q a is bs:=by rw[h]
def arN{b:Bool}{bs:List Bool}{p:Prop}:Tg (b::bs) (n+1) p=Tg bs n p:=by cases b <;> rfl
def zzu:(∀o r f,Gf (o::r) 0 f=f o)/\(∀o r n f,Gf (o::r) (n+1) f=Gf r n f)
 /\ (∀s r f,Dv (s::r) 0 f=f s)/\(∀s r n f,Dv (s::r) (n+1) f=Dv r n f)/\(∀n f,Dv [] n f=f [])
 /\ (∀T x bs,Yq (.box T x) bs=X3::bs)/\(∀T bs,Yq (.alloc T) bs=X3::bs)/\(∀x bs,Yq (.move x) bs=bs)/\(∀x bs,Yq (.assign x) bs=bs)/\(∀x bs,Yq (.nilCheck x) bs=bs)/\(∀a b c bs,Yq (.pick a b c) bs=bs)/\(∀a b c d e bs,Yq (.binOp a b c d e) bs=bs)/\(∀a b c bs,Yq (.unOp a b c) bs=bs)/\(∀a b c bs,Yq (.convert a b c) bs=bs)/\(∀a b c bs,Yq (.fieldAddr a b c) bs=bs)/\(∀a b c bs,Yq (.field a b c) bs=bs)/\(∀a b c bs,Yq (.indexAddr a b c) bs=bs)/\(∀a b bs,Yq (.build a b) bs=bs)/\(∀a b bs,Yq (.extract a b) bs=bs)/\(∀a b bs,Yq (.load a b) bs=bs)/\(∀a bs,Yq (.call a) bs=bs)
 /\ (∀bs p,Tg (X3::bs) 0 p=p)/\(∀b bs n p,Tg (b::bs) (n+1) p=Tg bs n p)/\(∀(k:Nat) m,List.headD (k::m) 0=k)
 /\ (∀P w0 ops l hs d op ty pos w g m q K,tkV P w0 ops l hs ⟨X4 d,op,ty,pos,w,g⟩ m q K=opG ops l g m (λm=>Ch P w0 l hs [] Z op m λy v m _=>K m (y/\q) (l.set d v)) (λm=>K m q (l.set d undef)) λ_ _ _ _=>False)
 /\ (∀P w0 ops l is bs d op ty pos w g m q K,onV P w0 ops l is bs ⟨X4 d,op,ty,pos,w,g⟩ m q K=opG ops l g m (λm=>Ch P w0 l is [] X3 op m λy v m z=>K m (y/\q) (l.set d v) z (Yq op bs)) (λm=>K m q (l.set d undef) is bs) λ_ _ _ _=>False)
 /\ (∀P w0 ops l is bs op ty pos w g k m q K,onV P w0 ops l is bs ⟨X5,op,ty,pos,w,g⟩ (k::m) q K=opG ops l g (k::m) (λm=>Tg bs (m.headD 0) (stV P l is X3 op m λy _ m z=>K m (y/\q) l z bs)) (λm=>K m q l is bs) λ_ _ _ _=>False)
 /\ (∀P w0 ops hs ss K q l is bs,VT P w0 ops hs ss K .nil q l is bs=(q/\K l is))
 /\ (∀P w0 ol hs ss K i t q l is bs,VT P w0 (jo ol) hs ss K (.take i t) q l is bs=Gf ol i λo=>Dv ss i λm=>tkV P w0 ol.toArray l hs o m q λ_ q l=>VT P w0 ol.toArray hs ss K t q l is bs)
 /\ (∀P w0 ol hs ss K i t q l is bs,VT P w0 (jo ol) hs ss K (.one i t) q l is bs=Gf ol i λo=>Dv ss i λm=>onV P w0 ol.toArray l is bs o m q λ_ q l is bs=>VT P w0 ol.toArray hs ss K t q l is bs)
 /\ (∀P w0 ol hs ss K i t j u q l is bs,VT P w0 (jo ol) hs ss K (.two i t j u) q l is bs=(VT P w0 ol.toArray hs ss K (.one i t) q l is bs/\VT P w0 ol.toArray hs ss K (.one j u) q l is bs))
 /\ (∀P w0 ol hs ss K i t j u k v q l is bs,VT P w0 (jo ol) hs ss K (.three i t j u k v) q l is bs=(VT P w0 ol.toArray hs ss K (.one i t) q l is bs/\VT P w0 ol.toArray hs ss K (.one j u) q l is bs/\VT P w0 ol.toArray hs ss K (.one k v) q l is bs))
 /\ (∀p:Prop,(p/\p)=p)/\(∀p q r:Prop,((p/\r)/\(q/\r))=((p/\q)/\r)):=by
 repeat' apply And.intro
 all_goals intros
 all_goals first | rfl | exact arN | exact X1 _ | exact Y6 ⟨λh=>⟨⟨h.1.1,h.2.1⟩,h.1.2⟩,λh=>⟨⟨h.1.1,h.2⟩,h.1.2,h.2⟩⟩
attribute [congr] avF arh ari arj ark arl aul arq ars art aru arv arw arx ary arz arA arB aof aog arC arD arF arG arH aun arE aum aok aol aom arL arM aur arm auk arn aro arp
end Go.Lith
namespace Go.Proofs.YtfekpcimgncioaaGreatDoor
open Go.Proofs.Tryz
open Go.RowKit Go.Lith
set_option maxRecDepth 100000
section
variable{x0 y0 x1 y1 x2 y2 x3 y3 x4 y4 x5 y5 x6 y6 x7 y7 x8 y8:Int}
def dC:tT prog 3=X4 (X3,1):=by kernel_rfl
def avG:Kd prog 3=X4 [X6 0]:=by kernel_rfl
def Kf:ikP prog 3=X4 .i64:=by kernel_rfl
def Kg:tT prog 4=X4 (X3,1):=by kernel_rfl
def xJ:ikP prog 5=X4 .u8:=by kernel_rfl
def aeO:tT prog 9=X4 (X3,1):=by kernel_rfl
def kO:Ge prog 22=X4 3:=by kernel_rfl
def Ou:Mp prog 22=X4 (X5,1):=by kernel_rfl
def ap1:tT prog 23=X4 (X3,1):=by kernel_rfl
def aus:ikP prog 23=X4 .u16:=by kernel_rfl
def ap2:Mp prog 24=X4 (X4 2,1):=by kernel_rfl
def Yr:tT prog 26=X4 (X3,1):=by kernel_rfl
def gM:Ge prog 27=X4 39:=by kernel_rfl
def fR:Mp prog 27=X4 (X5,9):=by kernel_rfl
def aP:tT prog 30=X4 (Z,3):=by kernel_rfl
def fB:Kd prog 30=X4 [X6 0,X6 0,X6 0]:=by kernel_rfl
def gN:lX prog 30 0=X4 (0,X3,1):=by kernel_rfl
def gQ:lX prog 30 1=X4 (1,X3,1):=by kernel_rfl
def iG:lX prog 30 2=X4 (2,X3,1):=by kernel_rfl
def yH:yG prog 30=X4 ([(0,1),(1,1),(2,1)],[X6 0,X6 0,X6 0]):=by kernel_rfl
def vV:tT prog 36=X4 (Z,3):=by kernel_rfl
def yI:Kd prog 36=X4 [X6 0,X6 0,X6 0]:=by kernel_rfl
def fD:Mp prog 36=X4 (X4 3,1):=by kernel_rfl
def tU:yG prog 36=X4 ([(0,1),(1,1),(2,1)],[X6 0,X6 0,X6 0]):=by kernel_rfl
def ap3:tT prog 38=X4 (Z,9):=by kernel_rfl
def aut:Kd prog 38=X4 [X6 0,X6 0,X6 0,X6 0,X6 0,X6 0,X6 0,X6 0,X6 0]:=by kernel_rfl
def dM:tT prog 39=X4 (Z,9):=by kernel_rfl
def lL:Kd prog 39=X4 [X6 0,X6 0,X6 0,X6 0,X6 0,X6 0,X6 0,X6 0,X6 0]:=by kernel_rfl
def bQ:Mp prog 39=X4 (X4 3,3):=by kernel_rfl
def qQ:yG prog 39=X4 ([(0,3),(3,3),(6,3)],[X6 0,X6 0,X6 0,X6 0,X6 0,X6 0,X6 0,X6 0,X6 0]):=by kernel_rfl
def ap4:Ge prog 46=X4 55:=by kernel_rfl
def ap5:Mp prog 46=X4 (X5,6):=by kernel_rfl
def Ys:Ge prog 52=X4 56:=by kernel_rfl
def Ti:Mp prog 52=X4 (X5,6):=by kernel_rfl
def akz:yG prog 55=X4 ([(0,3),(3,3)],[X6 0,X6 0,X6 0,X6 0,X6 0,X6 0]):=by kernel_rfl
def Bz:tT prog 56=X4 (Z,6):=by kernel_rfl
def Yt:Kd prog 56=X4 [X6 0,X6 0,X6 0,X6 0,X6 0,X6 0]:=by kernel_rfl
def Ca:Mp prog 56=X4 (X4 2,3):=by kernel_rfl
def Gs:yG prog 56=X4 ([(0,3),(3,3)],[X6 0,X6 0,X6 0,X6 0,X6 0,X6 0]):=by kernel_rfl
def Ov:tT prog 62=X4 (X3,1):=by kernel_rfl
def ap6:Ge prog 62=X4 4:=by kernel_rfl
def Yu:Mp prog 62=X4 (X5,1):=by kernel_rfl
def gV:Ge prog 65=X4 30:=by kernel_rfl
def gG:Mp prog 65=X4 (X5,3):=by kernel_rfl
def agi:tT prog 88=X4 (X3,1):=by kernel_rfl
def auu:Kd prog 88=X4 [.pointer X5]:=by kernel_rfl
def agj:tT prog 93=X4 (X3,1):=by kernel_rfl
def auv:Kd prog 93=X4 [.map X5]:=by kernel_rfl
def dG:tT prog 95=X4 (Z,2):=by kernel_rfl
def jS:Kd prog 95=X4 [.bool X3,.string ⟨#[]⟩]:=by kernel_rfl
def mQ:lX prog 95 0=X4 (0,X3,1):=by kernel_rfl
def Ax:lX prog 95 1=X4 (1,X3,1):=by kernel_rfl
def ap7:yG prog 95=X4 ([(0,1),(1,1)],[.bool X3,.string ⟨#[]⟩]):=by kernel_rfl
def Tj:Kd prog 97=X4 [.bool X3,.string ⟨#[]⟩,.bool X3,.string ⟨#[]⟩,.bool X3,.string ⟨#[]⟩,.bool X3,.string ⟨#[]⟩,.bool X3,.string ⟨#[]⟩,.bool X3,.string ⟨#[]⟩,.bool X3,.string ⟨#[]⟩,.bool X3,.string ⟨#[]⟩,.bool X3,.string ⟨#[]⟩,.bool X3,.string ⟨#[]⟩]:=by kernel_rfl
def yJ:Mp prog 97=X4 (X4 10,2):=by kernel_rfl
def aaW:tT prog 100=X4 (X3,1):=by kernel_rfl
def arO:Kd prog 100=X4 [.map X5]:=by kernel_rfl
def arP:Ge prog 105=X4 112:=by kernel_rfl
def akA:Mp prog 105=X4 (X5,8):=by kernel_rfl
def arQ:tT prog 106=X4 (X3,1):=by kernel_rfl
def arR:tT prog 107=X4 (X3,1):=by kernel_rfl
def akB:lX prog 109 0=X4 (0,X3,1):=by kernel_rfl
def Tk:lX prog 109 1=X4 (1,X3,1):=by kernel_rfl
def Tl:lX prog 109 2=X4 (2,X3,1):=by kernel_rfl
def arS:yG prog 109=X4 ([(0,1),(1,1),(2,1)],[.slice X5 0 0,.map X5,.map X5]):=by kernel_rfl
def aeP:tT prog 112=X4 (Z,8):=by kernel_rfl
def aeQ:Kd prog 112=X4 [X6 0,X6 0,X6 0,X6 0,X6 0,X6 0,.bool X3,.string ⟨#[]⟩]:=by kernel_rfl
def Dw:lX prog 112 0=X4 (0,Z,3):=by kernel_rfl
def vW:lX prog 112 1=X4 (3,Z,3):=by kernel_rfl
def arT:Ge prog 124=X4 126:=by kernel_rfl
def akC:Mp prog 124=X4 (X5,23):=by kernel_rfl
def akD:lX prog 126 0=X4 (0,Z,3):=by kernel_rfl
def akE:lX prog 126 1=X4 (3,Z,20):=by kernel_rfl
def akF:Ge prog 127=X4 130:=by kernel_rfl
def Tm:Mp prog 127=X4 (X5,8):=by kernel_rfl
def akG:tT prog 130=X4 (Z,8):=by kernel_rfl
def arU:Kd prog 130=X4 [X6 0,X6 0,X6 0,X6 0,X6 0,X6 0,.bool X3,.string ⟨#[]⟩]:=by kernel_rfl
def Tn:lX prog 130 0=X4 (0,Z,3):=by kernel_rfl
def acy:lX prog 130 1=X4 (3,Z,3):=by kernel_rfl
def akH:lX prog 130 2=X4 (6,Z,2):=by kernel_rfl
def aeR:tT prog 139=X4 (Z,2):=by kernel_rfl
def arV:Kd prog 139=X4 [X6 0,.slice X5 0 0]:=by kernel_rfl
def Dx:lX prog 139 0=X4 (0,X3,1):=by kernel_rfl
def sP:lX prog 139 1=X4 (1,X3,1):=by kernel_rfl
def arW:Ge prog 157=X4 26:=by kernel_rfl
def Mt:Mp prog 157=X4 (X5,1):=by kernel_rfl
def arX:tT prog 168=X4 (Z,8):=by kernel_rfl
def akI:Kd prog 168=X4 [.bool X3,.string ⟨#[]⟩,.bool X3,.string ⟨#[]⟩,.bool X3,.string ⟨#[]⟩,.bool X3,.string ⟨#[]⟩]:=by kernel_rfl
def tH:Mp prog 168=X4 (X4 4,2):=by kernel_rfl
def arY:Ge prog 212=X4 215:=by kernel_rfl
def arZ:Mp prog 212=X4 (X5,6):=by kernel_rfl
def vX:tT prog 215=X4 (Z,6):=by kernel_rfl
def Dy:Kd prog 215=X4 [X6 0,X6 0,X6 0,X6 0,X6 0,X6 0]:=by kernel_rfl
def To:lX prog 215 0=X4 (0,Z,3):=by kernel_rfl
def Dz:lX prog 215 1=X4 (3,Z,3):=by kernel_rfl
def Mu:yG prog 215=X4 ([(0,3),(3,3)],[X6 0,X6 0,X6 0,X6 0,X6 0,X6 0]):=by kernel_rfl
def akJ:lX prog 218 0=X4 (0,X3,1):=by kernel_rfl
def Tp:lX prog 218 2=X4 (4,Z,3):=by kernel_rfl
def Tq:lX prog 218 3=X4 (7,X3,1):=by kernel_rfl
def akK:lX prog 218 4=X4 (8,X3,1):=by kernel_rfl
def Kh:lX prog 218 5=X4 (9,X3,1):=by kernel_rfl
def Tr:lX prog 218 7=X4 (11,X3,1):=by kernel_rfl
def aeS:tT prog 222=X4 (Z,6):=by kernel_rfl
def aeT:Kd prog 222=X4 [X6 0,X6 0,X6 0,X6 0,X6 0,X6 0]:=by kernel_rfl
def jT:lX prog 222 0=X4 (0,Z,3):=by kernel_rfl
def jU:lX prog 222 1=X4 (3,Z,3):=by kernel_rfl
def ar0:yG prog 222=X4 ([(0,3),(3,3)],[X6 0,X6 0,X6 0,X6 0,X6 0,X6 0]):=by kernel_rfl
def akL:tT prog 229=X4 (Z,8):=by kernel_rfl
def aeU:Kd prog 229=X4 [.bool X3,.string ⟨#[]⟩,.bool X3,.string ⟨#[]⟩,.bool X3,.string ⟨#[]⟩,.bool X3,.string ⟨#[]⟩]:=by kernel_rfl
def Ea:Mp prog 229=X4 (X4 4,2):=by kernel_rfl
def akM:yG prog 229=X4 ([(0,2),(2,2),(4,2),(6,2)],[.bool X3,.string ⟨#[]⟩,.bool X3,.string ⟨#[]⟩,.bool X3,.string ⟨#[]⟩,.bool X3,.string ⟨#[]⟩]):=by kernel_rfl
def Eb:ikP prog 231=X4 .u64:=by kernel_rfl
def jV:Ge prog 233=X4 231:=by kernel_rfl
def nZ:Mp prog 233=X4 (X5,1):=by kernel_rfl
def ar1:tT prog 243=X4 (Z,3):=by kernel_rfl
def ar2:Kd prog 243=X4 [.nilFunc,.nilFunc,.nilFunc]:=by kernel_rfl
def ar3:yG prog 243=X4 ([(0,1),(1,1),(2,1)],[.nilFunc,.nilFunc,.nilFunc]):=by kernel_rfl
def akN:lX prog 245 0=X4 (0,X3,1):=by kernel_rfl
def akO:lX prog 245 1=X4 (1,X3,1):=by kernel_rfl
def akP:lX prog 245 2=X4 (2,X3,1):=by kernel_rfl
def aeV:tT prog 257=X4 (Z,6):=by kernel_rfl
def Mw:Kd prog 257=X4 [.bool X3,.string ⟨#[]⟩,.bool X3,.string ⟨#[]⟩,.bool X3,.string ⟨#[]⟩]:=by kernel_rfl
def tI:Mp prog 257=X4 (X4 3,2):=by kernel_rfl
def ar4:yG prog 257=X4 ([(0,2),(2,2),(4,2)],[.bool X3,.string ⟨#[]⟩,.bool X3,.string ⟨#[]⟩,.bool X3,.string ⟨#[]⟩]):=by kernel_rfl
def Mx:Mp prog 261=X4 (X4 8,1):=by kernel_rfl
def qR:lX prog 264 0=X4 (0,Z,8):=by kernel_rfl
def vY:lX prog 264 1=X4 (8,Z,24):=by kernel_rfl
def ar5:yG prog 264=X4 ([(0,8),(8,24)],[.bool X3,.bool X3,.bool X3,.bool X3,.bool X3,.bool X3,.bool X3,.bool X3,X6 0,X6 0,X6 0,X6 0,X6 0,X6 0,X6 0,X6 0,X6 0,X6 0,X6 0,X6 0,X6 0,X6 0,X6 0,X6 0,X6 0,X6 0,X6 0,X6 0,X6 0,X6 0,X6 0,X6 0]):=by kernel_rfl
def ar6:tT prog 266=X4 (Z,24):=by kernel_rfl
def ar7:Kd prog 266=X4 [.bool X3,.bool X3,.bool X3,.bool X3,.bool X3,.bool X3,.bool X3,.bool X3,.bool X3,.bool X3,.bool X3,.bool X3,.bool X3,.bool X3,.bool X3,.bool X3,.bool X3,.bool X3,.bool X3,.bool X3,.bool X3,.bool X3,.bool X3,.bool X3]:=by kernel_rfl
def akQ:Mp prog 266=X4 (X4 24,1):=by kernel_rfl
def ar8:yG prog 266=X4 ([(0,1),(1,1),(2,1),(3,1),(4,1),(5,1),(6,1),(7,1),(8,1),(9,1),(10,1),(11,1),(12,1),(13,1),(14,1),(15,1),(16,1),(17,1),(18,1),(19,1),(20,1),(21,1),(22,1),(23,1)],[.bool X3,.bool X3,.bool X3,.bool X3,.bool X3,.bool X3,.bool X3,.bool X3,.bool X3,.bool X3,.bool X3,.bool X3,.bool X3,.bool X3,.bool X3,.bool X3,.bool X3,.bool X3,.bool X3,.bool X3,.bool X3,.bool X3,.bool X3,.bool X3]):=by kernel_rfl
def akR:tT prog 273=X4 (Z,6):=by kernel_rfl
def akS:Kd prog 273=X4 [.bool X3,.string ⟨#[]⟩,.bool X3,.string ⟨#[]⟩,.bool X3,.string ⟨#[]⟩]:=by kernel_rfl
def pD:Mp prog 273=X4 (X4 3,2):=by kernel_rfl
def ar9:tT prog 280=X4 (Z,18):=by kernel_rfl
def asa:Kd prog 280=X4 [X6 0,X6 0,X6 0,X6 0,X6 0,X6 0,X6 0,X6 0,X6 0,X6 0,X6 0,X6 0,X6 0,X6 0,X6 0,X6 0,X6 0,X6 0]:=by kernel_rfl
def asb:yG prog 280=X4 ([(0,6),(6,6),(12,6)],[X6 0,X6 0,X6 0,X6 0,X6 0,X6 0,X6 0,X6 0,X6 0,X6 0,X6 0,X6 0,X6 0,X6 0,X6 0,X6 0,X6 0,X6 0]):=by kernel_rfl
def akT:tT prog 333=X4 (Z,3):=by kernel_rfl
def akU:Kd prog 333=X4 [X6 0,X6 0,X6 0]:=by kernel_rfl
def tJ:Mp prog 333=X4 (X4 3,1):=by kernel_rfl
def asc:yG prog 333=X4 ([(0,1),(1,1),(2,1)],[X6 0,X6 0,X6 0]):=by kernel_rfl
def eQ    : EqB prog 30 [X6 x0,X6 x1,X6 x2] [X6 y0,X6 y1,X6 y2] (decide (x0=y0/\x1=y1/\x2=y2)):=⟨by kernel_rfl,(nC 9998).iff aky⟩
def lQ    : NeB prog 30 [X6 x0,X6 x1,X6 x2] [X6 y0,X6 y1,X6 y2] (decide (¬(x0=y0/\x1=y1/\x2=y2))):=⟨by kernel_rfl,(nC 9998).iff aup⟩
def akV    : EqB prog 36 [X6 x0,X6 x1,X6 x2] [X6 y0,X6 y1,X6 y2] (decide (x0=y0/\x1=y1/\x2=y2)):=⟨by kernel_rfl,(akg 9998).iff aky⟩
def akW          : EqB prog 39 [X6 x0,X6 x1,X6 x2,X6 x3,X6 x4,X6 x5,X6 x6,X6 x7,X6 x8] [X6 y0,X6 y1,X6 y2,X6 y3,X6 y4,X6 y5,X6 y6,X6 y7,X6 y8] (decide (x0=y0/\x1=y1/\x2=y2/\x3=y3/\x4=y4/\x5=y5/\x6=y6/\x7=y7/\x8=y8)):=⟨by kernel_rfl,(akh 9997).iff aky⟩
def asd          : NeB prog 39 [X6 x0,X6 x1,X6 x2,X6 x3,X6 x4,X6 x5,X6 x6,X6 x7,X6 x8] [X6 y0,X6 y1,X6 y2,X6 y3,X6 y4,X6 y5,X6 y6,X6 y7,X6 y8] (decide (¬(x0=y0/\x1=y1/\x2=y2/\x3=y3/\x4=y4/\x5=y5/\x6=y6/\x7=y7/\x8=y8))):=⟨by kernel_rfl,(akh 9997).iff aup⟩
def ase       : EqB prog 56 [X6 x0,X6 x1,X6 x2,X6 x3,X6 x4,X6 x5] [X6 y0,X6 y1,X6 y2,X6 y3,X6 y4,X6 y5] (decide (x0=y0/\x1=y1/\x2=y2/\x3=y3/\x4=y4/\x5=y5)):=⟨by kernel_rfl,(aki 9997).iff aky⟩
def aoo{x0 y0:Bool}{x1 y1:ByteArray}{x2 y2:Bool}{x3 y3:ByteArray}{x4 y4:Bool}{x5 y5:ByteArray}{x6 y6:Bool}{x7 y7:ByteArray}:EqB prog 229 [.bool x0,.string x1,.bool x2,.string x3,.bool x4,.string x5,.bool x6,.string x7] [.bool y0,.string y1,.bool y2,.string y3,.bool y4,.string y5,.bool y6,.string y7] (decide (x0=y0/\x1=y1/\x2=y2/\x3=y3/\x4=y4/\x5=y5/\x6=y6/\x7=y7)):=⟨by kernel_rfl,(an5 9997).iff aky⟩
end
section
attribute [local irreducible] az cw fW bX cP Code.wp
attribute [local congr] dK dL cR dJ
variable{c N cap:Nat}{q:H}{ts:List T3}{A:Option Addr}
def gD:tA prog 30 pt:=by
 refine tA.agg (cs:=λp=>#[X6 p.x,X6 p.y,X6 p.z]) (λ_=>rfl) fY (λe p=>?_) (λp q=>?_) (λp=>?_)
 .refine xP.struct (d:=9999) fY λf a=>?_;simp only[ap,cd,Z9] at a;rcases a with rfl | rfl | rfl <;> exact⟨_,cZ bK rfl,xP.int (d:=9998) iT⟩
 .exact (nC 9998).iff ⟨λh=>H.eq h.1 h.2.1 h.2.2,λh=>by subst h;exact⟨O,O,O⟩⟩
 simp[pt,Instr.sameBits]
def aeW{w0 w:ak}{is:List It}{g:Nat}{es:Array cu}{D:List (H × Bool)}{p:H}(m:Mem w0 w is)(k:Nat)(f:is[k]? = X4 (mI g es c))(d:bY pt bw D es c):Calls prog 114 [.map (X4 g),pt p].toArray w λe w'=>∃v i,e=.returned v/\Mem w0 w' (is.set k i)/\(v=.bool (!(cG D p).getD X3)/\∃j h,i=mI g j h/\bY pt bw (fP D p Z) j h):=by
 go_enter func114,ntmps114
 apply gH 10 [1,0] m;simp only[↓U,aP];intro l u m;refine fI (eN (ek:=pt) (en:=bw) (k:=p) (v0:=X3) underlying163 pB gD O O (m.p (k+1) f) d) ?_;simp only[G];apply aH 1 [0] m;simp only[↓U];refine cL O ?_ ?_<;>intro b
 .apply L 5 [] m;simp only[↓U];exact aS O O ⟨_,mI g es c,O,by rw[Rx f];exact m.tl,by rw[b];rfl,es,c,rfl,by rw[Ma (by cases hq:cG D p with | none=>rw[hq] at b;cases b | some x=>rw[hq] at b;exact C X4 b)];exact d⟩
 apply L 5 [1,0] m;simp only[↓U,aP];refine nM (ek:=pt) (en:=bw) (a:=p) (v:=Z) m (k+1) f underlying163 gD O O O d ?_;intro n c1 u m d;simp only[zF,zG] at m;apply aH 6 [] m;simp only[↓U];exact aS O O ⟨_,_,O,m.tl,by rw[b];rfl,_,_,rfl,d⟩
def aop{w0 w:ak}{is:List It}{A:Option Addr}{n cap:Nat}{xs:List H}(m:Mem w0 w is)(k:Nat)(c:is[k]? = X4 (oI 30 3 A n cap (xs.flatMap bH)))(d:n<4611686018427387904) :
 Calls prog 128 [.slice A n cap,.func (.func 116) #[] #[]].toArray w λe w'=>∃v i,e=.returned v/\Mem w0 w' (is.set k i)/\(v=.tuple #[]/\∃ys:List H,i=oI 30 3 A n cap (ys.flatMap bH)/\ys.Perm xs/\ys.Pairwise λa b=>ltOf rC b a=X3) :=
 Dd (enc:=bH) Tryz.sort128 (λw=>pU aG w) (λw=>dY aA w) (λ_=>rfl) (by decide) Om rC abY (λx y=>Fo) m k c d
def ahL{g:Nat}{es:Array cu}{D:List (H × Bool)}(w:ak)(l:iR w g es c)(k:bY pt bw D es c)(V:D.length<=1000000):cY prog 115 [.map (X4 g),.func (.func 116) #[] #[]] w (OR 30 3 (λxs=>∃ps:List H,xs=ps.flatMap bH/\ps.Perm (D.map (·.1))/\ps.Pairwise λa b=>¬b.Lt a) w):=by
 refine⟨bJ func115 (by kernel_rfl),?_⟩;have m:=Mem.refl w
 go_enter func115,ntmps115
 apply fF 6 [0] m;simp only[↓U];refine aD aM ?_;replace m:=m.nilO 30 3;apply aH 5 [0] m;simp only[↓U];refine xC m underlying163 O (l.ext m.ext) ?_;intro I u m;apply aH 2 [0] m;simp only[↓U];refine bT [5] [6,9,10,11,12,13,14,15,16] (λn vs J=>∃(d rs:List (H × Bool)) (e:Option Addr) (n1 j:Nat) (f:Array Nat),vs=[.slice e n1 j]/\Mem w J [iI I g c f,oI 30 3 e n1 j ((d.map (·.1)).flatMap bH)]/\(oJ pt bw D es f d rs)/\(n1=d.length)/\(n=rs.length)) ?_ ?_
 .exact⟨_,[],D,X5,0,0,#[],O,m,oJ.start k,O,O⟩
 intro n vs wr z u Q K;obtain⟨d,rs,e,n1,j,f,rfl,m,p,M,B⟩:=z;have Y:=p.len;simp only[zu,zF,zG];apply L 2 [0] m;simp only[↓U];refine Ol m 0 O O (l.ext m.ext) k p ?_;intro R W X f u m q;simp only[zF,zG] at m;refine aD (qJ O) ?_;apply aH 2 [0] m;simp only[↓U];refine cL O ?_ ?_<;>intro t
 .obtain⟨F,E,x,hp,s⟩:=Jj t q;apply L 4 [0] m;simp only[↓U];refine fI (uE O (m.r 0 O) (l.ext m.ext) k s) ?_;simp only[G];apply lK 7 [0,1,0] m;simp only[↓U,fB,aP,aa];intro S u m;refine kH O ?_;intro u T y A C;replace m:=m.newB y A C;simp only[G];refine bN m 3 O O eR mK O (by decide) O O O (m.b 0 O).rowsO (fN O) (by omega) (by omega) ?_;intro e j u m;simp only[zF,zG] at m;apply aH 3 [0] m;simp only[↓U];exact K x.length _ _ (by rw[B,hp.length_eq];exact fx _) (by kernel_rfl) ⟨d++[(F,E)],x,_,_,_,_,O,((m.reO 3 O ((m.o 3 O).as (by simp[bH]))).sel [X3,X3,Z,Z]),s,by simp[M],O⟩
 obtain rfl:=Ji t q;apply L 5 [0] m;simp only[↓U];refine mJ m 1 aew O O (λm=>aop m 1 O (by omega)) ?_;rintro v i u m ⟨rfl,ys,rfl,P,N⟩;simp only[zF,zG] at m;apply aH 7 [] m;simp only[↓U];exact aS O O ⟨_,O,m.ext,_,_,_,_,O,(m.o 1 O),_,O,P.trans (p.done.map _),N.imp λh=>by simpa[ltOf,lV] using h⟩
def Ec:tA prog 215 ed:=by
 refine tA.agg (cs:=λp=>#[X6 p.1.x,X6 p.1.y,X6 p.1.z,X6 p.2.x,X6 p.2.y,X6 p.2.z]) (λ_=>rfl) vS (λe p=>?_) (λp q=>?_) (λp=>?_)
 .refine xP.struct (d:=9999) vS λf a=>?_;simp only[ap,cd,Z9] at a;rcases a with rfl | rfl
  .refine⟨_,cU aG aA O,?_⟩;refine xP.struct (d:=9998) fY λf a=>?_;simp only[ap,cd,Z9] at a;rcases a with rfl | rfl | rfl
   .exact⟨_,cZ bK O,xP.int (d:=9997) iT⟩
   .exact⟨_,cZ bK O,xP.int (d:=9997) iT⟩
   exact⟨_,cZ bK O,xP.int (d:=9997) iT⟩
  refine⟨_,cU aG aA O,?_⟩;refine xP.struct (d:=9998) fY λf a=>?_;simp only[ap,cd,Z9] at a;rcases a with rfl | rfl | rfl
  .exact⟨_,cZ bK O,xP.int (d:=9997) iT⟩
  .exact⟨_,cZ bK O,xP.int (d:=9997) iT⟩
  exact⟨_,cZ bK O,xP.int (d:=9997) iT⟩
 .exact (an4 _).iff ⟨λh=>pq (H.eq h.1 h.2.1 h.2.2.1) (H.eq h.2.2.2.1 h.2.2.2.2.1 h.2.2.2.2.2),λh=>by subst h;simp only[X1]⟩
 simp[ed,Instr.sameBits]
def auw{x y:Int}{a:Nat}(w:ak)(c:fQ w a [X6 x,X6 y] 3):akj prog 125 [.slice (X4 ⟨a,0,X5⟩) 2 2] w (X6 (if x=0 then y else x)):=by
 refine⟨ajW,?_⟩;have m:=iC.refl w
 go_enter func125,ntmps125
 refine bM λD f=>av (aD aM (aI (f _ _ ?_)));refine bM λE g=>av (aD aM (aI (g _ _ ?_)));refine bM λF h=>bM λH i=>av (aD aJ (aD (Lp O eK O) ?_));simp only[G];refine aD aJ (aI (i _ _ ?_));refine ki (qj 3 (Cr (bM λI j=>av (aD (rI (m:=0) (n:=2) O O (by decide)) (aI (j _ _ ?_))))));refine bM λK k=>Ck O (km (k _ _ ?_));refine bM λL l=>ki (bM λM o=>av ?_);simp only[G];refine aD (aR eK aY O O (by decide) (by omega) O) ?_;simp only[G];refine bE O ((c.ext m.ext.ext).lies1 bK O) ?_;simp only[G];refine aD aM (aI (o _ _ ?_));refine bM λN p=>av (aD aJ (aD aJ (aD (rD O O) ?_)));simp only[G];refine aI (p _ _ ?_);refine bC O ?_ ?_<;>intro d
 .refine bM λP q=>av (aD aJ (aD aM (aI (q _ _ ?_))));refine jv ?_;simp only[G];try simp only[dq,Exit.then,K0]
  refine aS O O ?_;try simp only[zD,zE]
  exact⟨_,O,m.ext,by rw[X d]⟩
 have b:x=0:=by omega
 refine km (l _ _ ?_);refine av (aD (fU (m:=0) (n:=1) (r:=1) O O (by decide)) (aD aJ (aI (lI (bM λQ s=>av (aD (rI (m:=1) (n:=2) O O (by decide)) (aI (s _ _ ?_))))))));refine bM λR t=>Ck O (km (t _ _ ?_));refine bM λS u=>ki (bM λT v=>av ?_);simp only[G];refine aD (aR eK aY O O (by decide) (by omega) O) ?_;simp only[G];refine bE O ((c.ext m.ext.ext).lies1 bK O) ?_;simp only[G];refine aD aM (aI (v _ _ ?_));refine bM λU z=>av (aD aJ (aD aJ (aD (rD O O) ?_)));simp only[G];refine aI (z _ _ ?_);refine bC O ?_ ?_<;>intro d
 .refine bM λV A=>av (aD aJ (aD aM (aI (A _ _ ?_))));refine jv ?_;simp only[G];try simp only[dq,Exit.then,K0]
  refine aS O O ?_;try simp only[zD,zE]
  exact⟨_,O,m.ext,by rw[J b]⟩
 have e:y=0:=by omega
 refine km (u _ _ ?_);refine av (aD (fU (m:=1) (n:=1) (r:=2) O O (by decide)) (aD aJ (aI (lI (bM λW B=>av (aD (Gy (m:=2) (n:=2) O O (by decide)) (aI (B _ _ ?_))))))));refine bM λY aa=>agY O (wp_exit (h _ _ ?_));refine bM λZ C=>av (aD aJ ?_);simp only[G];refine aD aM (aI (C _ _ ?_));refine jv ?_;simp only[G];try simp only[dq,Exit.then,K0]
 refine aS O O ?_;try simp only[zD,zE]
 exact⟨_,O,m.ext,by rw[J b,e]⟩
def ahM(a b:E3):Int:=if rC a.1 b.1=0 then rC a.2 b.2 else rC a.1 b.1
def nP{p:H}:rC p q=0↔p=q:=by
 unfold rC;rcases H.lt_tri p q with h | h | h
 .rw[J h];exact⟨λe=>(by cases e),λe=>Z8 (e▸h) (H.lt_irrefl _)⟩
 .subst h;rw[X (H.lt_irrefl _),X (H.lt_irrefl _)];exact⟨λ_=>rfl,λ_=>rfl⟩
 rw[X (λk=>H.lt_irrefl _ (H.lt_trans h k)),J h];exact⟨λe=>(by cases e),λe=>Z8 (e▸h) (H.lt_irrefl _)⟩
def Ki(a b:E3):(ahM a b<0)↔Lm a b:=by
 unfold ahM Lm;split
 .rename_i h;have c:=nP.1 h;rw[lV];exact⟨λk=>.inr ⟨c,k⟩,λk=>k.elim (λk=>Z8 (c▸k) (H.lt_irrefl _)) λk=>k.2⟩
 rename_i h;rw[lV];exact⟨.inl,λk=>k.elim id λk=>Z8 (nP.2 k.1) h⟩
instance:Inhabited E3:=⟨(⟨0,0,0⟩,⟨0,0,0⟩)⟩
def akX:Go.Sort.SWO (Go.Proofs.ltOf ahM) where
 irrefl a:=by simp only[Go.Proofs.ltOf,Y1,Ki];exact Lm.irrefl a
 trans x y z h1 h2:=by
  simp only[Go.Proofs.ltOf,R,Ki] at *
  exact h1.trans h2
 ntrans x y z h1 h2:=by
  simp only[Go.Proofs.ltOf,Y1,Ki] at *
  intro h;rcases Lm.tri y x with k | k | k
  .exact Z8 (k.trans h) (by first | exact h2 | exact h1)
  .subst k;first | exact h2 h | exact h1 h
  first | exact h1 k | exact h2 k
def aoq{p q:E3}:tN prog 168 [ed p,ed q] (X6 (ahM p q)):=by
 intro w;refine⟨bJ func168 (by kernel_rfl),?_⟩;have m:=iC.refl w
 go_enter func168,ntmps168
 refine bM λe a=>av (oX m O ?_);intro g u m;simp only[G];refine oX m O ?_;intro h u m;refine aD aM (aI (a _ _ ?_));refine bM λf d=>?_;simp only[G];refine Rp m 10 aB (by kernel_rfl) ?_;simp only[zy];refine aK (aU (c:=2) vS O aA O O) ?_;simp only[G];refine Vo O (λu m=>((m.b 1 O).lies aG aA O O)) ?_;simp only[G,zy,ai,aa,ag,ad];refine aK (aU (c:=2) vS O aA O O) ?_;simp only[G];refine Vo O (λu m=>((m.b 0 O).lies aG aA O O)) ?_;simp only[G,zy,ai,aa,ag,ad];refine Jc O O (Fo (p:=p.1) (q:=q.1)) (aK (aU (c:=2) vS O aA O O) ?_);simp only[G];refine Vo O (λu m=>((m.b 1 O).lies aG aA O O)) ?_;simp only[G,zy,ai,aa,ag,ad];refine aK (aU (c:=2) vS O aA O O) ?_;simp only[G];refine Vo O (λu m=>((m.b 0 O).lies aG aA O O)) ?_;simp only[G,zy,ai,aa,ag,ad];refine Jc O O (Fo (p:=p.2) (q:=q.2)) (aZ ?_);intro u m;simp only[G];refine akk m eK (z:=X6 0) (by kernel_rfl) O O O O O ?_;intro i u m;simp only[G];refine aaJ m O O (auw _ (m.b 0 O)) ?_;intro u m;refine aD aM (aI (d _ _ ?_));refine jv ?_;simp only[G];try simp only[dq,Exit.then,K0]
 refine aS O O ?_;try simp only[zD,zE]
 exact⟨_,O,m.ext,O⟩
def aaX{w0 w:ak}{is:List It}{g:Nat}{es:Array cu}{D:List (E3 × Bool)}{p:E3}(m:Mem w0 w is)(k:Nat)(f:is[k]? = X4 (mI g es c))(d:bY ed bw D es c):Calls prog 235 [.map (X4 g),ed p].toArray w λe w'=>∃v i,e=.returned v/\Mem w0 w' (is.set k i)/\(v=.bool (!(cG D p).getD X3)/\∃j h,i=mI g j h/\bY ed bw (fP D p Z) j h):=by
 go_enter func235,ntmps235
 apply gH 10 [1,0] m;simp only[↓U,vX];intro l u m;refine fI (eN (ek:=ed) (en:=bw) (k:=p) (v0:=X3) underlying208 pB Ec O O (m.p (k+1) f) d) ?_;simp only[G];apply aH 1 [0] m;simp only[↓U];refine cL O ?_ ?_<;>intro b
 .apply L 5 [] m;simp only[↓U];exact aS O O ⟨_,mI g es c,O,by rw[Rx f];exact m.tl,by rw[b];rfl,es,c,rfl,by rw[Ma (by cases hq:cG D p with | none=>rw[hq] at b;cases b | some x=>rw[hq] at b;exact C X4 b)];exact d⟩
 apply L 5 [1,0] m;simp only[↓U,vX];refine nM (ek:=ed) (en:=bw) (a:=p) (v:=Z) m (k+1) f underlying208 Ec O O O d ?_;intro n c1 u m d;simp only[zF,zG] at m;apply aH 6 [] m;simp only[↓U];exact aS O O ⟨_,_,O,m.tl,by rw[b];rfl,_,_,rfl,d⟩
def acz(p:E3):∀v∈cJ p,v.oneCell'=Z:=λv h=>by
 simp only[cJ,ap,cd,Z9] at h;rcases h with rfl | rfl | rfl | rfl | rfl | rfl <;> rfl
def aor{w0 w:ak}{is:List It}{A:Option Addr}{n cap:Nat}{xs:List E3}(m:Mem w0 w is)(k:Nat)(c:is[k]? = X4 (oI 215 6 A n cap (xs.flatMap cJ)))(d:n<4611686018427387904) :
 Calls prog 237 [.slice A n cap,.func (.func 168) #[] #[]].toArray w λe w'=>∃v i,e=.returned v/\Mem w0 w' (is.set k i)/\(v=.tuple #[]/\∃ys:List E3,i=oI 215 6 A n cap (ys.flatMap cJ)/\ys.Perm xs/\ys.Pairwise λa b=>ltOf ahM b a=X3) :=
 Dd (enc:=cJ) Tryz.sort237 (λw=>pU Fj w) (λw=>dY uS w) (λ_=>rfl) (by decide) acz ahM akX (λx y=>aoq) m k c d
def ahN{g:Nat}{es:Array cu}{D:List (E3 × Bool)}(w:ak)(l:iR w g es c)(k:bY ed bw D es c)(T:D.length<=100000000):cY prog 167 [.map (X4 g),.func (.func 168) #[] #[]] w (OR 215 6 (λxs=>∃ps:List E3,xs=ps.flatMap cJ/\ps.Perm (D.map (·.1))/\ps.Pairwise λa b=>¬Lm b a) w):=by
 refine⟨bJ func167 (by kernel_rfl),?_⟩;have m:=Mem.refl w
 go_enter func167,ntmps167
 apply fF 6 [0] m;simp only[↓U];refine aD aM ?_;replace m:=m.nilO 215 6;apply aH 5 [0] m;simp only[↓U];refine xC m underlying208 O (l.ext m.ext) ?_;intro H u m;apply aH 2 [0] m;simp only[↓U];refine bT [5] [6,9,10,11,12,13,14,15,16] (λn vs I=>∃(d rs:List (E3 × Bool)) (e:Option Addr) (n1 j:Nat) (f:Array Nat),vs=[.slice e n1 j]/\Mem w I [iI H g c f,oI 215 6 e n1 j ((d.map (·.1)).flatMap cJ)]/\(oJ ed bw D es f d rs)/\(n1=d.length)/\(n=rs.length)) ?_ ?_
 .exact⟨_,[],D,X5,0,0,#[],O,m,oJ.start k,O,O⟩
 intro n vs wr z u P J;obtain⟨d,rs,e,n1,j,f,rfl,m,p,K,B⟩:=z;have X:=p.len;simp only[zu,zF,zG];apply L 2 [0] m;simp only[↓U];refine Ol m 0 O O (l.ext m.ext) k p ?_;intro Q V W f u m q;simp only[zF,zG] at m;refine aD (qJ O) ?_;apply aH 2 [0] m;simp only[↓U];refine cL O ?_ ?_<;>intro t
 .obtain⟨F,E,x,hp,s⟩:=Jj t q;apply L 4 [0] m;simp only[↓U];refine fI (uE O (m.r 0 O) (l.ext m.ext) k s) ?_;simp only[G];apply lK 7 [0,1,0] m;simp only[↓U,Dy,vX,aa];intro R u m;refine aeJ O ?_;intro u S y A C;replace m:=m.newB y A C;simp only[G];refine bN m 3 O O underlying212 an1 O (by decide) O O O (m.b 0 O).rowsO (fN O) (by omega) (by omega) ?_;intro e j u m;simp only[zF,zG] at m;apply aH 3 [0] m;simp only[↓U];exact J x.length _ _ (by rw[B,hp.length_eq];exact fx _) (by kernel_rfl) ⟨d++[(F,E)],x,_,_,_,_,O,((m.reO 3 O ((m.o 3 O).as (by simp[cJ]))).sel [X3,X3,Z,Z]),s,by simp[K],O⟩
 obtain rfl:=Ji t q;apply L 5 [0] m;simp only[↓U];refine mJ m 1 (bJ func237 (by kernel_rfl)) O O (λm=>aor m 1 O (by omega)) ?_;rintro v i u m ⟨rfl,ys,rfl,N,M⟩;simp only[zF,zG] at m;apply aH 7 [] m;simp only[↓U];exact aS O O ⟨_,O,m.ext,_,_,_,_,O,(m.o 1 O),_,O,N.trans (p.done.map _),M.imp λh=>by simpa[ltOf,Ki] using h⟩
def lR{p:H}:dF prog 38 [pt p,pt q] (.bool (decide (p.Lt q))):=by
 intro w;refine⟨bJ func38 (by kernel_rfl),?_⟩;have m:=Mem.refl w
 go_enter func38,ntmps38
 apply gH 15 [2,1,0,0] m;simp only[↓U,gN,dC,aa];intro c d u m;refine bC O ?_ ?_<;>intro a
 .apply L 10 [2,1,0] m;simp only[↓U,gN,dC,aa];refine aS O O ?_;try simp only[zD,zE]
  exact⟨_,O,m.ext,by simp only[H.lt_x a]⟩
 have ex:p.x=q.x:=by omega
 apply L 10 [2,1,0,0] m;simp only[↓U,gQ,dC,aa];refine bC O ?_ ?_<;>intro b
 .apply L 10 [2,1,0] m;simp only[↓U,gQ,dC,aa];refine aS O O ?_;try simp only[zD,zE]
  exact⟨_,O,m.ext,by simp only[H.lt_y ex b]⟩
 have ey:p.y=q.y:=by omega
 apply L 11 [2,1,0] m;simp only[↓U,iG,dC,aa];refine aS O O ?_;try simp only[zD,zE]
 exact⟨_,O,m.ext,by simp only[H.lt_z ex ey]⟩
def akY{a b:E3}:dF prog 78 [ed a,ed b] (.bool (ltE a b)):=by
 intro w;refine⟨bJ func78 (by kernel_rfl),?_⟩;have m:=Mem.refl w
 go_enter func78,ntmps78
 apply gH 15 [2,1,0] m;simp only[↓U,Ca,aP,ad,ag,aa];refine λd=>λe=>⟨_,lQ,by omega,?_⟩
 intro u m;refine bC O ?_ ?_<;>intro c
 .apply L 6 [2,1,0] m;simp only[↓U,Ca,aP,ad,ag,aa];apply I0;omega;refine lD m O O (lR (p:=a.1) (q:=b.1)) 3 [] ?_;simp only[↓U];intro u m;refine aS O O ?_;try simp only[zD,zE]
  exact⟨_,O,m.ext,by rw[ltE,J (λh=>c (by rw[h];exact⟨O,O,O⟩))]⟩
 apply L 7 [2,1,0] m;simp only[↓U,Ca,aP,ad,ag,aa];apply I0;omega;refine lD m O O (lR (p:=a.2) (q:=b.2)) 3 [] ?_;simp only[↓U];intro u m;refine aS O O ?_;try simp only[zD,zE]
 exact⟨_,O,m.ext,by rw[ltE,X (λh=>h (H.eq (Classical.not_not.1 c).1 (Classical.not_not.1 c).2.1 (Classical.not_not.1 c).2.2))]⟩
def agk(w:ak)(f:bW w A N ts)(z:N<=1000000000):cY prog 76 [.slice A N cap] w (SL 56 6 ((aX ts).flatMap cJ) (aX ts).length w):=by
 refine⟨bJ func76 (by kernel_rfl),?_⟩;have m:=Mem.refl w
 go_enter func76,ntmps76
 apply fF 6 [0] m;simp only[↓U];refine aD aM ?_;replace m:=m.nilO 56 6;apply aH 7 [0] m;simp only[↓U];refine bT [3,4] [5,6,7,8,9,10,11,12,13,14,15,16,17,18,19,20,21,22,23,24,25,26,27,28,29,30,31,32,33] (λn vs p=>∃(k:Nat) (c:Option Addr) (d:Nat),vs=[.slice c (aX (ts.take k)).length d,X6 (k:Int)]/\Mem w p [oI 56 6 c (aX (ts.take k)).length d ((aX (ts.take k)).flatMap cJ)]/\(k<=N)/\(n=N-k)) ?_ ?_
 .exact⟨_,0,_,_,O,m,bn _,O⟩
 intro n vs wr h u v q;obtain⟨k,c,d,rfl,m,B,C⟩:=h;simp only[zu,zF,zG];apply L 8 [0,0] m;simp only[↓U,gM];refine bC O ?_ ?_<;>intro D
 .obtain⟨t,e,_,a,rfl,s⟩:=f.get (i:=k) (by omega);apply xI 24 [0,1,0,1,1,1,1] m;simp only[↓U,fR,lL,dM,bQ,aP,Gs,ah,ai,aa,ad,ag];refine⟨_,λu m=>((s.ext m.ext).lies cD aW),λx=>⟨by omega,?_⟩⟩;intro u m;apply aT 5 [1,1,0] m;simp only[↓U,bQ,aP,Gs,ad,ag,aa];apply I0;omega;refine ahG O O O ?_;intro u y g j l;replace m:=m.newB g j l;simp only[G];refine bN m 2 O O wS Ds O (by decide) O O O (m.b 0 O).rowsO (fN O) (by have:=pG (ts.take k);rw[bj] at this;omega) (by have:=pG (ts.take k);rw[bj] at this;omega) ?_;intro c d u m;simp only[zF,zG] at m;rw[show (aX (ts.take k)).flatMap cJ++_=(aX (ts.take (k+1))).flatMap cJ by rw[vE e,aw];rfl,show (aX (ts.take k)).length+3=(aX (ts.take (k+1))).length by rw[vE e,aq];rfl] at m;rw[show (aX (ts.take k)).length+3=(aX (ts.take (k+1))).length by rw[vE e,aq];rfl];apply aH 8 [0] m;simp only[↓U];apply I0;omega;exact q (N-(k+1)) _ _ (by omega) (by kernel_rfl) ⟨k+1,_,_,O,(m.sel [X3,X3,Z]),by omega,O⟩
 have r:k=N:=by omega
 rw[r,show ts.take N=ts from au (by rw[f.len];exact ar _)] at m ⊢;apply L 7 [] m;simp only[↓U];exact aS O O ⟨_,O,m.ext,⟨_,_,_,O,O,(m.o 0 O)⟩⟩
def Qg{es:List E3}{e:E3}(w:ak)(c:uD cJ 6 w A N es)(t:N<=1000000000):cY prog 77 [.slice A N cap,ed e] w (λv _=>v=X6 ((jO es e:Nat):Int)):=by
 refine⟨bJ func77 (by kernel_rfl),?_⟩;have m:=Mem.refl w
 go_enter func77,ntmps77
 apply gH 15 [0] m;simp only[↓U];intro g u m;refine bT [5,6] [7,8,9,10,11,12,13,14,15,16,17,18,19,20] (λn vs l=>∃(k q:Nat),vs=[X6 (q:Int),X6 (k:Int)]/\Mem w l [bI g (cJ e) 56]/\(q=jO (es.take k) e)/\(k<=N)/\(n=N-k)) ?_ ?_
 .exact⟨_,0,0,O,m,O,bn _,O⟩
 intro n vs wr j u s f;obtain⟨k,q,rfl,m,hq,y,z⟩:=j;subst hq;simp only[zu,zF,zG];apply L 8 [0,0] m;simp only[↓U,Ys];refine bC O ?_ ?_<;>intro B
 .obtain⟨x,d,a,rfl,r⟩:=c.get (i:=k) (by omega);apply L 4 [0] m;simp only[↓U];refine mq m aB (by kernel_rfl) (cX 6 [0,4,1] ?_);simp only[↓U,Ti,Bz,ah,ai];refine⟨_,λu m=>((r.ext m.ext).lies Sz qN),_,ase,by omega,?_⟩;refine aZ ?_;intro u m;refine gc (bC O (λb=>?_) (λb=>?_))
  .have p:x=e:=pq (H.eq b.1 b.2.1 b.2.2.1) (H.eq b.2.2.2.1 b.2.2.2.2.1 b.2.2.2.2.2);have C:jO (es.take k) e<=N:=Nat.le_trans aqL (by rw[bj];omega);have hs:=abS (e:=e) d;rw[J p] at hs;apply L 11 [0] m;simp only[↓U];apply I0;omega;rw[show ((jO (es.take k) e:Nat):Int)+1=((jO (es.take (k+1)) e:Nat):Int) by rw[hs];rfl];exact f (N-(k+1)) _ _ (by omega) (by kernel_rfl) ⟨k+1,jO (es.take (k+1)) e,O,m,O,by omega,O⟩
  have hs:jO (es.take (k+1)) e=jO (es.take k) e:=(abS (e:=e) d).trans (by rw[X (λh=>b (by rw[h];exact⟨O,O,O,O,O,O⟩))];rfl);apply L 7 [0] m;simp only[↓U];apply I0;omega;rw[<-hs];exact f (N-(k+1)) _ _ (by omega) (by kernel_rfl) ⟨k+1,jO (es.take (k+1)) e,O,m,O,by omega,O⟩
 have o:k=N:=by omega
 rw[o,show es.take N=es from au (by rw[c.len];exact ar _)];apply L 7 [] m;simp only[↓U];exact aS O O ⟨_,O,m.ext,O⟩
def aos{ps:List H}{p:H}(w:ak)(c:uD iD 3 w A N ps)(Q:N<=1000000000)(z:N<=cap):cY prog 82 [.slice A N cap,pt p] w (λv w'=>(v=.slice A N cap/\gT ps p=ps)\/SL 30 3 ((gT ps p).flatMap iD) (gT ps p).length w v w'):=by
 refine⟨af3,?_⟩;have m:=Mem.refl w;obtain rfl:ps.length=N:=c.len
 go_enter func82,ntmps82
 apply gH 11 [0] m;simp only[↓U];intro C u m;refine bT [5] [6,8,9,10,11,12,13,14,15,16,17,18,19,20,21] (λn vs F=>∃(k:Nat),vs=[X6 (k:Int)]/\Mem w F [bI C (iD p) 30]/\(Pre (λx=>decide (x.Lt p)) ps k)/\(k<=ps.length)/\(n=ps.length-k)) ?_ ?_
 .exact⟨_,0,O,m,Pre.zero,bn _,O⟩
 intro n vs wr E u P I;obtain⟨k,rfl,m,t,R,S⟩:=E;simp only[zu,zF,zG];apply L 8 [0,0] m;simp only[↓U,gV];refine bC O ?_ ?_<;>intro T
 .obtain⟨x,j,a,rfl,B⟩:=c.get (i:=k) (by omega);apply L 3 [0] m;simp only[↓U];refine mq m aB (by kernel_rfl) (cX 5 [0,0,1] ?_);simp only[↓U,gG,aP,ah,ai];refine⟨_,λu m=>((B.ext m.ext).lies aG aA),by omega,?_⟩;refine eH O O lR (aK aM (aZ ?_));intro u m;apply aT 6 [0] m;simp only[↓U];refine gF O ?_ ?_<;>intro y
  .have l:abT ps p=k:=apL t j (by simpa using y);apply L 3 [0] m;simp only[↓U];refine mq m aB (by kernel_rfl) (cX 12 [1,0,0,0,0,0,0,0,1,0] ?_);simp only[↓U,gV,gG,aP,ah,ai];refine⟨_,λu m=>((B.ext m.ext).lies aG aA),_,eQ,by omega,?_⟩;refine aZ ?_;intro u m;refine gc (bC O (λf=>?_) (λf=>?_))
   .have K:x=p:=H.eq f.1 f.2.1 f.2.2;apply L 6 [] m;simp only[↓U];exact aS O O ⟨_,O,m.ext,.inl ⟨O,by rw[gT,l,j,J (by rw[K])]⟩⟩
   have e:gT ps p=ps.take k++[p]++ps.drop k:=by unfold gT;rw[l,X (by rw[j];exact λh=>f (by cases h;exact⟨O,O,O⟩))]
   apply L 3 [0] m;simp only[↓U];refine aD aM ?_;replace m:=m.nilO 30 3;apply aH 6 [0] m;simp only[↓U];refine aD (nK eR aA O O (ah _) (by omega) (by omega)) ?_;simp only[G];refine bN m 0 O O eR mK O (by decide) O O (by rw[iX Ag,bj,ij (by omega)]) (((c.take (by omega)).ext m.ext).cells Ag (by decide)) (Rs _) (by omega) (by omega) ?_;intro d g u m;simp only[zF,zG] at m;rw[bz,ai] at m;rw[ai];apply aH 6 [2,0] m;simp only[↓U,aP];refine kH O ?_;intro u D q r s;replace m:=m.newB q r s;simp only[G];refine bN m 1 O O eR mK O (by decide) O O O (m.b 0 O).rowsO (fN O) (by omega) (by omega) ?_;intro d g u m;simp only[zF,zG] at m;apply aH 7 [0] m;simp only[↓U];refine aD (uO eR aA O O (ah _) (by omega) (by omega) O) ?_;simp only[G];refine bN m 1 O O eR mK O (by decide) O O (by rw[iX Ag,gg]) ((c.ext m.ext).cellsD Ag (by decide) z) (Rs _) (by omega) (by omega) ?_;intro d g u m;simp only[zF,zG] at m;apply aH 3 [] m;simp only[↓U];exact aS O O ⟨_,O,m.ext,.inr ⟨_,_,_,by rw[e];simp;omega,rfl,(m.o 1 rfl).as (by rw[e,aw,aw];rfl)⟩⟩
  have M:=t.step j (by simpa using y);apply L 7 [0] m;simp only[↓U];apply I0;omega;exact I (ps.length-(k+1)) _ _ (by omega) (by kernel_rfl) ⟨k+1,O,m,M,by omega,O⟩
 obtain rfl:k=ps.length:=by omega
 have l:abT ps p=ps.length:=aje t;have e:gT ps p=ps.take ps.length++[p]++ps.drop ps.length:=by unfold gT;rw[l,X (by rw[List.getElem?_eq_none (ar _)];simp)]
 apply L 3 [0] m;simp only[↓U];refine mq m aB (by kernel_rfl) (cX 12 [2,0,0,0,0,0,0] ?_);simp only[↓U,gV];apply I0;omega;refine aZ ?_;intro u m;apply aT 4 [0] m;simp only[↓U];refine aD aM ?_;replace m:=m.nilO 30 3;apply aH 6 [0] m;simp only[↓U];refine aD (nK eR aA O O (ah _) (by omega) (by omega)) ?_;simp only[G];refine bN m 0 O O eR mK O (by decide) O O (by rw[iX Ag,bj,ij (by omega)]) (((c.take (by omega)).ext m.ext).cells Ag (by decide)) (Rs _) (by omega) (by omega) ?_;intro d g u m;simp only[zF,zG] at m;rw[bz,ai] at m;rw[ai];apply aH 6 [2,0] m;simp only[↓U,aP];refine kH O ?_;intro u D q r s;replace m:=m.newB q r s;simp only[G];refine bN m 1 O O eR mK O (by decide) O O O (m.b 0 O).rowsO (fN O) (by omega) (by omega) ?_;intro d g u m;simp only[zF,zG] at m;apply aH 7 [0] m;simp only[↓U];refine aD (uO eR aA O O (ah _) (by omega) (by omega) O) ?_;simp only[G];refine bN m 1 O O eR mK O (by decide) O O (by rw[iX Ag,gg]) ((c.ext m.ext).cellsD Ag (by decide) z) (Rs _) (by omega) (by omega) ?_;intro d g u m;simp only[zF,zG] at m;apply aH 3 [] m;simp only[↓U];exact aS O O ⟨_,O,m.ext,.inr ⟨_,_,_,by rw[e];simp,rfl,(m.o 1 rfl).as (by rw[e,aw,aw];rfl)⟩⟩
def aeX{w0 w:ak}{is:List It}{A:Option Addr}{n cap:Nat}{ps:List H}{p:H}(m:Mem w0 w is)(k:Nat)(c:is[k]? = X4 (oI 30 3 A n cap (ps.flatMap iD)))(g:n<=1000000000) :
 Calls prog 82 [.slice A n cap,pt p].toArray w λe w'=>∃v i,e=.returned v/\Mem w0 w' (is.set k i)/\∃a d n',n'=(gT ps p).length/\v=.slice a n' d/\i=oI 30 3 a n' d ((gT ps p).flatMap iD):=by
 have b:=m.o k c;refine (aos (p:=p) w (b.lat Ag (by decide)) g b.le).2.mono ?_;rintro e w' ⟨v,rfl,f,h⟩;rcases h with ⟨rfl,h⟩ | ⟨a,d,n',rfl,rfl,j⟩
 .exact⟨_,oI 30 3 A n cap (ps.flatMap iD),O,by rw[aqM c];exact m.ext' f,A,cap,n,by rw[h];exact (b.num Ag (by decide)).symm,O,by rw[h]⟩
 exact⟨_,_,O,(m.newO f j).mv k c,_,_,_,O,O,O⟩
def My(w:ak)(h:bW w A N ts)(z:N<=100000000):cY prog 36 [.slice A N cap] w (SL 30 3 ((aQ ts).flatMap iD) (aQ ts).length w):=by
 refine⟨bJ func36 (by kernel_rfl),?_⟩;have m:=Mem.refl w
 go_enter func36,ntmps36
 apply fF 6 [0] m;simp only[↓U];refine aD aM ?_;replace m:=m.nilO 30 3;apply aH 7 [0] m;simp only[↓U];refine bT [3,4] [5,6,7,8,9,10,11,12,13,14,15,16,17,18,19,20,21,22,23] (λn vs q=>∃(k n3:Nat) (d:Option Addr) (f:Nat),vs=[.slice d n3 f,X6 (k:Int)]/\Mem w q [oI 30 3 d n3 f ((aQ (ts.take k)).flatMap iD)]/\(n3=(aQ (ts.take k)).length)/\(k<=N)/\(n=N-k)) ?_ ?_
 .exact⟨_,0,0,_,_,O,m,O,bn _,O⟩
 intro n vs wr l u y r;obtain⟨k,n3,d,f,rfl,m,e,B,C⟩:=l;simp only[zu,zF,zG];apply L 8 [0,0] m;simp only[↓U,gM];refine bC O ?_ ?_<;>intro F
 .obtain⟨t,j,_,a,rfl,g⟩:=h.get (i:=k) (by omega);have s:=wK (ts.take k);have D:=xX (aQ (ts.take k)) t.a;have E:=xX (gT (aQ (ts.take k)) t.a) t.b;rw[bj] at s;apply L 28 [4,1,0,0,0] m;simp only[↓U,fR,bQ,ah,ai,ad,ag,aa];refine⟨_,λu m=>((kV.cor (g.ext m.ext) (c:=0) (by decide)).lies aG aA),by omega,?_⟩;refine mJ m 0 af3 O O (λm=>aeX (p:=t.a) m 0 O (by omega)) ?_;rintro v i u m ⟨d,f,n3,e,rfl,rfl⟩;simp only[zF,zG] at m;apply aH 27 [1,0,0,0] m;simp only[↓U,fR,bQ,an,ah,ai,ad,ag,aa];refine⟨_,λu m=>((kV.cor (g.ext m.ext) (c:=1) (by decide)).lies aG aA),by omega,?_⟩;refine mJ m 0 af3 O O (λm=>aeX (p:=t.b) m 0 O (by omega)) ?_;rintro v i u m ⟨d,f,n3,e,rfl,rfl⟩;simp only[zF,zG] at m;apply aH 27 [1,0,0,0] m;simp only[↓U,fR,bQ,an,ah,ai,ad,ag,aa];refine⟨_,λu m=>((kV.cor (g.ext m.ext) (c:=2) (by decide)).lies aG aA),by omega,?_⟩;refine mJ m 0 af3 O O (λm=>aeX (p:=t.c) m 0 O (by omega)) ?_;rintro v i u m ⟨d,f,n3,e,rfl,rfl⟩;simp only[zF,zG] at m;apply aH 23 [2,0] m;simp only[↓U,an];apply I0;omega;exact r (N-(k+1)) _ _ (by omega) (by kernel_rfl) ⟨k+1,_,_,_,O,(m.reO 0 O ((m.o 0 O).as (by rw[Je j]))),by rw[Je j];exact e,by omega,O⟩
 have x:k=N:=by omega
 rw[x,show ts.take N=ts from au (by rw[h.len];exact ar _)] at m e;apply L 7 [] m;simp only[↓U];exact aS O O ⟨_,O,m.ext,⟨_,_,_,e,O,(m.o 0 O)⟩⟩
def akZ{p:H}(w:ak)(o:uD aL 9 w A N ts)(J:N<=1000000000):cY prog 201 [.slice A N cap,pt p,pt q] w (λv _=>v=.tuple #[pt ((cC ts p q).getD p),.bool (cC ts p q).isSome]):=by
 refine⟨bJ func201 (by kernel_rfl),?_⟩;have m:=Mem.refl w
 go_enter func201,ntmps201
 apply gH 13 [0] m;simp only[↓U,fB];intro x y z u m;refine bT [8] [7,9,10,11,12,13,14,15,16,17,18,19,20,21,22,23,24,25,26,27,28,29,30,31,32,33,34,35,36,37,38,39,40,41,42,43,44,45,46,47] (λn vs C=>∃(k:Nat),vs=[X6 (k:Int)]/\Mem w C [bI z [X6 0,X6 0,X6 0] 30,bI y (iD q) 30,bI x (iD p) 30]/\(cC (ts.take k) p q=X5)/\(k<=N)/\(n=N-k)) ?_ ?_
 .exact⟨_,0,O,m,O,bn _,O⟩
 intro n vs wr B u I D;obtain⟨k,rfl,m,g,K,M⟩:=B;simp only[zu,zF,zG];apply L 8 [0,0] m;simp only[↓U,gM];refine bC O ?_ ?_<;>intro P
 .obtain⟨t,j,a,rfl,e⟩:=o.get (i:=k) (by omega);apply L 21 [4,1,0] m;simp only[↓U];apply I0;omega;refine mq m aB (by kernel_rfl) (cX 9 [0,0,3] ?_);simp only[↓U,fR,bQ,aP,ah,ai,ad,ag,aa];refine⟨_,λu m=>((kV.cor (e.ext m.ext) (c:=0) (by omega)).lies aG aA),_,eQ,by omega,?_⟩;refine cQ O (λd=>aJ) (cQ O (λd=>aJ) (cQ O (λd=>aJ) (cQ O (λd=>fU (m:=0) (n:=1) (r:=1) (bL d O) O (by decide)) ?_)));simp only[G];refine cQ O (λd=>cT (m:=1) (n:=3) (r:=1) (bL d O) O (by decide) (by decide)) ?_;simp only[G];refine cQ O (λd=>aR fC aW (bL d O) (bL d O) (by omega) (by omega) (tM (ah _))) (cQ O (λd=>aN eB aA (bL d O) (bL d O) (by decide) (by decide) O) ?_);simp only[G];refine eM O (λd u m=>bD (bL d O) ((kV.cor (e.ext m.ext) (c:=1) (by omega)).lies aG aA)) (eM O (λd u m=>bD O ((m.b 1 O).full aG aA)) (cQ O (λd=>uT (bL d O) (bL d O)) (aK (eE O O O) (aZ ?_))));intro u m;refine gc ?_;simp only[G];refine gF O ?_ ?_<;>intro f
  .have h:=Cz ((wL j g).trans (avy  (Px.1 f)));apply L 6 [0] m;simp only[↓U,an];apply I0;omega;refine aD (cT (m:=2) (n:=3) (r:=2) O O (by decide) (by decide)) ?_;apply lK 7 [0,0,0] m;simp only[↓U,fR,bQ,aP,ah,ai,ad,ag,aa];refine⟨_,λu m=>((kV.cor (e.ext m.ext) (c:=2) (by omega)).lies aG aA),by omega,?_⟩;intro u m;refine wE O ⟨_,O,((m.b 0 O).full aG aA)⟩ O ?_;try simp only[zD,zE]
   exact⟨_,O,m.ext,by rw[h];rfl⟩
  have l:=ad1 f;apply L 19 [1,0] m;simp only[↓U,an];apply I0;omega;refine mq m aB (by kernel_rfl) (cX 9 [0,0,3] ?_);simp only[↓U,fR,bQ,aP,ah,ai,ad,ag,aa];refine⟨_,λu m=>((kV.cor (e.ext m.ext) (c:=1) (by omega)).lies aG aA),_,eQ,by omega,?_⟩;refine cQ O (λd=>aJ) (cQ O (λd=>aJ) (cQ O (λd=>aJ) (cQ O (λd=>fU (m:=1) (n:=1) (r:=2) (bL d O) O (by decide)) ?_)));simp only[G];refine cQ O (λd=>cT (m:=2) (n:=3) (r:=2) (bL d O) O (by decide) (by decide)) ?_;simp only[G];refine cQ O (λd=>aR fC aW (bL d O) (bL d O) (by omega) (by omega) (tM (ah _))) (cQ O (λd=>aN eB aA (bL d O) (bL d O) (by decide) (by decide) O) ?_);simp only[G];refine eM O (λd u m=>bD (bL d O) ((kV.cor (e.ext m.ext) (c:=2) (by omega)).lies aG aA)) (eM O (λd u m=>bD O ((m.b 1 O).full aG aA)) (cQ O (λd=>uT (bL d O) (bL d O)) (aK (eE O O O) (aZ ?_))));intro u m;refine gc ?_;simp only[G];refine gF O ?_ ?_<;>intro f
  .have h:=Cz ((wL j g).trans (avz l (Px.1 f)));apply L 6 [0] m;simp only[↓U,an];apply I0;omega;refine aD (cT (m:=3) (n:=3) (r:=0) O O (by decide) (by decide)) ?_;apply lK 7 [0,0,0] m;simp only[↓U,fR,bQ,aP,ah,ai,ad,ag,aa];refine⟨_,λu m=>((kV.cor (e.ext m.ext) (c:=0) (by omega)).lies aG aA),by omega,?_⟩;intro u m;refine wE O ⟨_,O,((m.b 0 O).full aG aA)⟩ O ?_;try simp only[zD,zE]
   exact⟨_,O,m.ext,by rw[h];rfl⟩
  have s:=ad1 f;apply L 19 [1,0] m;simp only[↓U,an];apply I0;omega;refine mq m aB (by kernel_rfl) (cX 9 [0,0,3] ?_);simp only[↓U,fR,bQ,aP,ah,ai,ad,ag,aa];refine⟨_,λu m=>((kV.cor (e.ext m.ext) (c:=2) (by omega)).lies aG aA),_,eQ,by omega,?_⟩;refine cQ O (λd=>aJ) (cQ O (λd=>aJ) (cQ O (λd=>aJ) (cQ O (λd=>fU (m:=2) (n:=1) (r:=3) (bL d O) O (by decide)) ?_)));simp only[G];refine cQ O (λd=>cT (m:=3) (n:=3) (r:=0) (bL d O) O (by decide) (by decide)) ?_;simp only[G];refine cQ O (λd=>aR fC aW (bL d O) (bL d O) (by omega) (by omega) (tM (ah _))) (cQ O (λd=>aN eB aA (bL d O) (bL d O) (by decide) (by decide) O) ?_);simp only[G];refine eM O (λd u m=>bD (bL d O) ((kV.cor (e.ext m.ext) (c:=0) (by omega)).lies aG aA)) (eM O (λd u m=>bD O ((m.b 1 O).full aG aA)) (cQ O (λd=>uT (bL d O) (bL d O)) (aK (eE O O O) (aZ ?_))));intro u m;refine gc ?_;simp only[G];refine gF O ?_ ?_<;>intro f
  .have h:=Cz ((wL j g).trans (avA l s (Px.1 f)));apply L 6 [0] m;simp only[↓U,an];apply I0;omega;refine aD (cT (m:=4) (n:=3) (r:=1) O O (by decide) (by decide)) ?_;apply lK 7 [0,0,0] m;simp only[↓U,fR,bQ,aP,ah,ai,ad,ag,aa];refine⟨_,λu m=>((kV.cor (e.ext m.ext) (c:=1) (by omega)).lies aG aA),by omega,?_⟩;intro u m;refine wE O ⟨_,O,((m.b 0 O).full aG aA)⟩ O ?_;try simp only[zD,zE]
   exact⟨_,O,m.ext,by rw[h];rfl⟩
  have F:=ad1 f;apply L 22 [2,0] m;simp only[↓U,an];apply I0;omega;exact D (N-(k+1)) _ _ (by omega) (by kernel_rfl) ⟨k+1,O,m,(wL j g).trans (avB l s F),by omega,O⟩
 have E:k=N:=by omega
 rw[E,show ts.take N=ts from au (by rw[o.len];exact ar _)] at g;apply xI 8 [3,0] m;simp only[↓U,aP,aa];intro u m;refine wE O ⟨_,O,((m.b 0 O).full aG aA)⟩ O ?_;try simp only[zD,zE]
 exact⟨_,O,m.ext,by rw[g];rfl⟩
def ahO{p:H}(w:ak)(hT:bW w A N ts)(hN:N<=100000000):cY prog 135 [.slice A N cap,pt p] w (λv _=>v=.bool (Jg ts p)):=by
 refine⟨bJ func135 (by kernel_rfl),?_⟩;have m:=Mem.refl w
 go_enter func135,ntmps135
 apply gH 7 [0] m;simp only[↓U];intro R u m;refine aD aM ?_;replace m:=m.nilO 39 9;apply aH 3 [0] m;simp only[↓U];refine aD aM ?_;replace m:=m.nilO 30 3;apply aH 7 [0] m;simp only[↓U];refine bT [5,6,7] [8,14,15,16,17,18,19,20,21,22,23,24,25,26,27,28,29,30,31,32,33,34,35,36,37,38,39,40,41,42,43,44,45,46,47,48,49] (λn vs E=>∃(k e d z B:Nat) (r C:Option Addr),vs=[.slice r e z,.slice C d B,X6 (k:Int)]/\Mem w E [oI 30 3 C d B ((vF (ts.take k) p).flatMap iD),oI 39 9 r e z ((oG (ts.take k) p).flatMap aL),bI R (iD p) 30]/\(e<=k*3)/\(d<=k*3)/\(k<=N)/\(n=N-k)) ?_ ?_
 .exact⟨_,0,_,_,_,_,_,_,O,m,ar _,ar _,bn _,O⟩
 intro n vs wr D u K1 ao;obtain⟨k,e,d,z,B,r,C,rfl,m,al,an,hk,hn⟩:=D;simp only[zu,zF,zG];apply L 8 [0,0] m;simp only[↓U,gM];refine bC O ?_ ?_<;>intro ax
 .obtain⟨t,ht,_,a,rfl,ae⟩:=hT.get (i:=k) (by omega);apply L 8 [0] m;simp only[↓U];refine bT [5,6,8] [20,21,22,23,24,25,26,27,28,29,30,31,32,33,34,35,36,37,38,39,40,41,42,43,44,45,46,47,48,49] (λn vs E=>∃(c e d z B:Nat) (r C:Option Addr),vs=[.slice r e z,.slice C d B,X6 (c:Int)]/\Mem w E [oI 30 3 C d B ((xA ts p k t c).flatMap iD),oI 39 9 r e z ((Gm ts p k t c).flatMap aL),bI R (iD p) 30]/\(e<=k*3+c)/\(d<=k*3+c)/\(c<=3)/\(n=3-c)) ?_ ?_
  .rw[<-anC (t:=t),<-ajg (t:=t)] at m;exact⟨_,0,_,_,_,_,_,_,O,m,al,an,bn _,O⟩
  intro n vs wr D u K2 af;obtain⟨c,e,d,z,B,r,C,rfl,m,al,an,hc,aJ⟩:=D;simp only[zu,zF,zG];apply L 6 [0,0] m;simp only[↓U];refine bC O ?_ ?_<;>intro ay
  .have F:c<3:=by omega
   apply L 4 [0] m;simp only[↓U];refine mq m aB (by kernel_rfl) (cX 8 [0,0,3] ?_);simp only[↓U,fR,bQ,aP,ah,ai];refine⟨_,λu m=>((kV.cor (ae.ext m.ext) (c:=c) (by omega)).lies aG aA),_,eQ,by omega,?_⟩;refine aZ ?_;intro u m;refine gc (bC O (λF=>?_) (λF=>?_))
   .have K:t.cor c=p:=H.eq F.1 F.2.1 F.2.2;apply L 7 [0,1,0] m;simp only[↓U,fR,ah,ai];refine⟨_,λu m=>((ae.ext m.ext).lies cD aW),by omega,?_⟩;refine fE O ?_;intro u g2 W h_ k_;replace m:=m.newB W h_ k_;simp only[G];refine bN m 2 O O fC iO O (by decide) O O O (m.b 0 O).rowsO (fN O) (by omega) (by omega) ?_;intro r z u m;simp only[zF,zG] at m;apply aH 8 [0] m;simp only[↓U];apply I0;omega;refine aD (cT O O (by omega) (apJ (k:=c+1))) ?_;apply aH 3 [0,0,0] m;simp only[↓U,fR,bQ,ah,ai];refine⟨_,λu m=>((kV.cor (ae.ext m.ext) (c:=(c+1)%3) (by omega)).lies aG aA),by omega,?_⟩;refine kH O ?_;intro u g3 W h_ k_;replace m:=m.newB W h_ k_;simp only[G];refine bN m 2 O O eR mK O (by decide) O O O (m.b 0 O).rowsO (fN O) (by omega) (by omega) ?_;intro C B u m;simp only[zF,zG] at m;apply aH 8 [0] m;simp only[↓U];apply I0;omega;exact af (3-(c+1)) _ _ (by omega) (by kernel_rfl) ⟨c+1,_,_,_,_,_,_,O,(((m.reO 3 O ((m.o 3 O).as (by rw[ahf K,aw];rfl))).reO 2 rfl ((m.o 2 rfl).as (by rw[ad0 K,aw];rfl))).sel [X3,X3,Z,Z,Z]),by omega,by omega,by omega,rfl⟩
   have K:¬t.cor c=p:=λh=>F (by rw[h];exact⟨O,O,O⟩);apply L 7 [0] m;simp only[↓U];apply I0;omega;exact af (3-(c+1)) _ _ (by omega) (by kernel_rfl) ⟨c+1,_,_,_,_,_,_,O,((m.reO 1 O ((m.o 1 O).as (by rw[ajf K]))).reO 0 O ((m.o 0 O).as (by rw[ahg K]))),by omega,by omega,by omega,O⟩
  obtain rfl:c=3:=by omega
  rw[anD ht,ajh ht] at m;apply L 7 [0] m;simp only[↓U];apply I0;omega;exact ao (N-(k+1)) _ _ (by omega) (by kernel_rfl) ⟨k+1,_,_,_,_,_,_,O,m,by omega,by omega,by omega,O⟩
 have av:k=N:=by omega
 rw[av,show ts.take N=ts from au (by rw[hT.len];exact ar _)] at m;obtain⟨M,X⟩:∃M,M=oG ts p:=⟨_,rfl⟩
 obtain⟨S,Y⟩:∃S,S=vF ts p:=⟨_,rfl⟩
 rw[<-X,<-Y] at m;have h5:M.length=e:=(m.o 1 rfl).num anA (by decide);have h6:S.length=d:=(m.o 0 rfl).num Ag (by decide);have aO:=(m.o 0 rfl).le;have hP:Jg ts p=S.any (λs=>oH M p s (M.length-1) s):=by rw[X,Y];rfl
 clear X Y;apply L 7 [0] m;simp only[↓U];refine bT [9] [4,10,11,12,13,50,51,52,53,54,55,56,57,58,59,60,61,62,63,64,65,66,67,68,69,70,71,72,73,74,75,76,77,78,79,80,81] (λn vs E=>∃(l:Nat),vs=[X6 (l:Int)]/\Mem w E [oI 30 3 C d B ((S).flatMap iD),oI 39 9 r e z ((M).flatMap aL),bI R (iD p) 30]/\((S.take l).any (λs=>oH M p s (M.length-1) s)=X3)/\(l<=d)/\(n=d-l)) ?_ ?_
 .exact⟨_,0,O,m,O,bn _,O⟩
 intro n vs wr D u K3 ag;obtain⟨l,rfl,m,V,aj,aK⟩:=D;simp only[zu,zF,zG];apply L 8 [0,0] m;simp only[↓U,gV];refine bC O ?_ ?_<;>intro az
 .obtain⟨g,Q⟩:∃g,S[l]? = X4 g:=⟨_,am (by omega)⟩
  obtain⟨gO,rfl⟩:=(m.o 0 rfl).some (by omega);apply xI 17 [0,0,0,0] m;simp only[↓U,gG,fB,aP,ah,ai,aa];refine⟨_,λu m=>(lA (((m.o 0 O).at Ag Q).lies aG aA)),λg2=>⟨by omega,?_⟩⟩;intro u m;refine bT [11] [4,12,13,60,61,62,63,64,65,66,67,68,69,70,71,72,73,74,75,76,77,78,79,80,81] (λn vs E=>∃(j:Nat) (x:H),vs=[X6 (j:Int)]/\Mem w E [bI g2 (iD x) 30,oI 30 3 (X4 ⟨gO,0,X5⟩) d B (S.flatMap iD),oI 39 9 r e z ((M).flatMap aL),bI R (iD p) 30]/\(oH M p g (M.length-1) g=oH M p g (M.length-j) x)/\(1<=j)/\(j<=e+1)/\(n=e+1-j)) ?_ ?_
  .exact⟨_,1,g,O,m,O,ar _,by omega,O⟩
  intro n vs wr D u K4 ap;obtain⟨j,x,rfl,m,P,hj,aI,aN⟩:=D;simp only[zu,zF,zG];apply L 8 [0,0] m;simp only[↓U,gM];refine bC O ?_ ?_<;>intro aE
  .obtain⟨f,hf⟩:∃f,M.length-j=f+1:=⟨M.length-j-1,by omega⟩
   rw[hf] at P;apply L 8 [4,1,0] m;simp only[↓U,aP];refine cK m O O (akZ (p:=p) (q:=x) _ ((m.o 2 O).lat anA (by decide)) (by omega)) ?_;rintro v u m rfl;apply lK 13 [0,0] m;simp only[↓U,fB,aP,aa];intro g3 u m;refine gF O ?_ ?_<;>intro T
   .have aq:cC M p x=X5:=by cases hb:cC M p x with | none=>rfl | some y=>rw[hb] at T;cases T
    have I:oH M p g (M.length-1) g=X3:=by rw[P,Xi aq]
    have ad:(S.take (l+1)).any (λs=>oH M p s (M.length-1) s)=X3:=by rw[xZ Q,V,I];rfl
    apply L 7 [0] m;simp only[↓U];apply I0;omega;exact ag (d-(l+1)) _ _ (by omega) (by kernel_rfl) ⟨l+1,O,(m.sel [X3,X3,Z,Z,Z]),ad,by omega,O⟩
   obtain⟨y,hy⟩:∃y,cC M p x=X4 y:=by cases hb:cC M p x with | none=>rw[hb] at T;cases T | some y=>exact⟨y,rfl⟩
   rw[hy] at m;simp only[dx] at m;apply xI 7 [1,1,0] m;simp only[↓U,aP,aa];intro u m;refine mq m aB (by kernel_rfl) (cX 6 [2,0,0] ?_);simp only[↓U,aP,gG,ah,ai];refine⟨_,λu m=>(lA (((m.o 2 O).at Ag Q).lies aG aA)),_,eQ,by omega,?_⟩;refine aZ ?_;intro u m;refine gc (bC O (λJ=>?_) (λJ=>?_))
   .have ab:y=g:=H.eq J.1 J.2.1 J.2.2;have I:S.any (λs=>oH M p s (M.length-1) s)=Z:=Jh Q (by show oH M p g (M.length-1) g=Z;rw[P];exact abU (by rw[hy,ab]));apply L 5 [] m;simp only[↓U];refine aS O O ?_;try simp only[zD,zE]
    exact⟨_,O,m.ext,by rw[hP,I]⟩
   have ab:¬y=g:=λh=>J (by rw[h];exact⟨O,O,O⟩);apply L 7 [0] m;simp only[↓U];apply I0;omega;exact ap (e+1-(j+1)) _ _ (by omega) (by kernel_rfl) ⟨j+1,y,O,(m.sel [X3,Z,Z,Z,Z]),by rw[P,Xj hy ab,show M.length-(j+1)=f by omega],by omega,by omega,O⟩
  have I:oH M p g (M.length-1) g=X3:=by rw[P,show M.length-j=0 by omega];rfl
  have ad:(S.take (l+1)).any (λs=>oH M p s (M.length-1) s)=X3:=by rw[xZ Q,V,I];rfl
  apply L 7 [0] m;simp only[↓U];apply I0;omega;exact ag (d-(l+1)) _ _ (by omega) (by kernel_rfl) ⟨l+1,O,(m.sel [X3,Z,Z,Z]),ad,by omega,O⟩
 have aj:l=S.length:=by omega
 rw[aj,List.take_length] at V;apply L 6 [] m;simp only[↓U];refine aS O O ?_;try simp only[zD,zE]
 exact⟨_,O,m.ext,by rw[hP,V]⟩
end
end Go.Proofs.YtfekpcimgncioaaGreatDoor
