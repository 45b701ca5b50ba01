/-
 Texts of one claim, laid together: Wc, Wd, Dig, Dig2, Dig3, Cst, We, Wf, Wg, Wh, Wi, Ca, Near, Cb, Cc, Wk, Wl, Wm, Wn, Cd, Ce, Cf, Cg, Qd, Vt, Vu, Fa3, Rchk, K30, Bag, Pack, Pack2, K31, Wo, Ch, Ci, Ck, Cl, Wp, Cm, Cn, Co, Cp, K32, K33, Cr, K53, K54, K55, K56.
-/
import Derived.Test.YtfekpcimgncioaaGreatDoorCS2
open Nat renaming reduceAdd→aa,reduceMul→ad,le_refl→ap,zero_add→aq,zero_le→cd,min_eq_left→gl,mod_lt→ku
open Int renaming reduceToNat→ab,toNat_natCast→ag,reduceAdd→ai,fdiv_eq_ediv_of_nonneg→fx,toNat→ja
open Go renaming Value→ac,World→ah,TypeId→aj,wpList→ao,Program→bc,Deferred→cg
open List renaming mem_cons→ak,getElem?_eq_getElem→an,getElem?_eq_some_iff→ar,length_cons→au,flatMap_append→av,length_append→aw,mem_singleton→ay,mem_of_getElem?→ba,take_of_length_le→be,mem_append→bg,pairwise_cons→bj,mem_cons_of_mem→bm,mem_cons_self→bp,length_take→br,length_nil→bt,nil_append→bv,not_mem_nil→bw,getElem?_append_left→cn,append_assoc→cq,length_map→ct,getElem?_drop→cu,getElem?_append_right→dh,mem_filter→di,mem_map→dj,mem_iff_getElem?→dm,getElem?_map→dw,any_eq_true→dx,mem_flatMap→dz,length_drop→ej,set_cons_succ→eu,append_nil→e_,pairwise_append→fg,mem_append_right→fj,drop_eq_getElem_cons→fk,drop_of_length_le→fq,getD_eq_getElem?_getD→fz,mem_append_left→f_,nodup_cons→gm,filter_cons→gn,getElem?_cons_succ→gt,getElem_mem→ic,toArray→ii,pairwise_singleton→iy,set_eq_take_append_cons_drop→je,mem_singleton_self→jx,filter_nil→li
open Go.Value renaming bool→bf,int→la
open Bool renaming and_eq_true→bh,not_false→ei,not_true→el,not_eq_true'→fm,or_eq_true→fu,false_ne_true→iq
open BitVec renaming ofInt→db
open Array renaming getElem?_toList→et
open List.Pairwise renaming nil→ji
set_option maxHeartbeats 8000000
set_option linter.unusedSimpArgs false
set_option linter.unusedVariables false
set_option linter.unusedSectionVars false
namespace Go.Lith
open Go.RowKit
/-! ### The ends of fans -/
def an0(ts:List T3):Prop:=∀t∈ts,vN t=false
theorem ape{t:T3}(h:vN t=false):t.a≠t.b∧t.b≠t.c∧t.c≠t.a:=by
 unfold vN at h;simp only[Bool.or_eq_false_iff,decide_eq_false_iff_not] at h;exact⟨h.1.1,h.1.2,h.2⟩
/-! ### As the reference says it -/
abbrev Mv:=P3 × P3
def T3.has(t:T3)(p:P3):Bool:=decide (t.a=p)||decide (t.b=p)||decide (t.c=p)
def aei(ts:List T3)(p q:P3):Bool:=ts.any fun t=>t.has p&&t.has q
def Xb(rim:List E3)(p:P3):Bool:=rim.any fun e=>decide (e.1=p)||decide (e.2=p)
def mW(t:T3):T3:=if t.c.Lt t.a∧(t.c.Lt t.b∨¬t.b.Lt t.a) then ⟨t.c,t.a,t.b⟩ else if t.b.Lt t.a then ⟨t.b,t.c,t.a⟩ else t
theorem Rm{t u:T3}(h1:t.a=u.a)(h2:t.b=u.b)(h3:t.c=u.c):t=u:=by
 cases t;cases u;simp only at h1 h2 h3;subst h1;subst h2;subst h3;rfl
instance:DecidableEq T3:=fun t u=>decidable_of_iff (t.a=u.a∧t.b=u.b∧t.c=u.c) ⟨fun h=>Rm h.1 h.2.1 h.2.2,fun h=>by rw[h];exact⟨rfl,rfl,rfl⟩⟩
def T3.nd(t:T3):Bool:=decide (t.a≠t.b)&&decide (t.b≠t.c)&&decide (t.c≠t.a)
/-! ### Corners and edges -/
theorem nP{t:T3}{p:P3}:t.has p=true↔p=t.a∨p=t.b∨p=t.c:=by
 unfold T3.has;simp only[fu,decide_eq_true_eq,or_assoc];exact or_congr ⟨Eq.symm,Eq.symm⟩ (or_congr ⟨Eq.symm,Eq.symm⟩ ⟨Eq.symm,Eq.symm⟩)
theorem Da{ts:List T3}{p q:P3}:aei ts p q=true↔∃t∈ts,t.has p=true∧t.has q=true:=by
 unfold aei;rw[dx];exact exists_congr fun t=>and_congr Iff.rfl (by rw[bh])
/-! ### The border -/
/-! ### The ends of fans -/
/-! ### Moves -/
/-! ### Covers -/
abbrev Ys(x:Nat):ac:=.int .i64 (x:Int)
section
variable {w w':ah} {b:Nat} {A:Option Addr} {n cap:Nat} {xs:List Nat}
end
section
variable {P:bc} {ds:List cg} {l:List ac} {T ty:aj}
variable {ops:Array Oper} {Q:Exit→Act→ah→Prop} {rest:List Oper} {d:Nat} {pos:String} {after:Array Edge} {w:ah}
end
instance (a:Int):Decidable (oV a):=inferInstanceAs (Decidable (_∧_))
/-! ### What CheckOpen says -/
theorem aej{ts:List T3}(h:iH true ts=0):an0 ts∧(bA ts).Nodup:=by
 unfold iH at h;split at h
 · cases h
 · rename_i h1
   split at h
   · cases h
   · rename_i h2
     refine⟨fun t ht=>?_,?_⟩
     · cases hd:vN t with
       | false=>rfl
       | true=>exact absurd (dx.2 ⟨t,ht,hd⟩) h1
     · rw[Rj] at h2
       exact Decidable.not_not.1 fun k=>h2 (decide_eq_true k)
theorem nd_of{t:T3}(h:vN t=false):t.nd=true:=by
 obtain⟨h1,h2,h3⟩:=ape h;simp[T3.nd,h1,h2,h3]
/-! ### One far move -/
theorem Rn{t:T3}:(⟨t.b,t.c,t.a⟩:T3).nd=t.nd:=by
 unfold T3.nd;simp only;cases decide (t.a≠t.b) <;> cases decide (t.b≠t.c) <;> cases decide (t.c≠t.a) <;> rfl
def an1(t u:T3):Prop:=u=t∨u=⟨t.b,t.c,t.a⟩∨u=⟨t.c,t.a,t.b⟩
theorem ahm{t u:T3}(h:an1 t u):u.nd=t.nd:=by
 rcases h with rfl | rfl | rfl
 · rfl
 · exact Rn
 · exact (Rn (t:=⟨t.b,t.c,t.a⟩)).trans Rn
/-! ### Edges of a list in which triangles are changed -/
section
variable {p:P3} {X:E3→Prop} {old new R fine fine':List T3}
end
/-! ### The two kinds of division -/
/-! ### Images -/
section
variable {l fine fine' R:List T3} {ms:List Mv} {B B':Int} {p:P3}
end
theorem aek{ts:List T3}{x:P3}:x∈dL ts↔∃t∈ts,x=t.cor 0∨x=t.cor 1∨x=t.cor 2:=by
 unfold dL;rw[dz];exact exists_congr fun t=>and_congr Iff.rfl (by simp[T3.cor])
def pR(a b c:P3):P3:=(b.sub a).cross (c.sub a)
def Ca(a b c d:P3):Int:=(pR a b c).dot (d.sub a)
def mH(v:P3)(k:Nat):Int:=if k=0 then v.x else if k=1 then v.y else v.z
def Hu(v:P3):Nat:=if v.x≠0 then 0 else if v.y≠0 then 1 else if v.z≠0 then 2 else 3
/-! ### Points in a plane -/
def Z3(u:P3):Prop:=u.x=0∧u.y=0∧u.z=0
instance (u:P3):Decidable (Z3 u):=inferInstanceAs (Decidable (_∧_∧_))
def sF(p q:P3):P3:=if q.Lt p then q else p
def vS(p q:P3):P3:=if q.Lt p then p else q
def ael(a b c:P3):Bool:=decide (Hu (pR a b c)=3)
def an2(p q r s:P3):Bool:=(if sF p q=vS p q then ael (sF r s) (vS r s) (sF p q) else ael (sF p q) (vS p q) (sF r s)) && !decide ((vS p q).Lt (sF r s)) && !decide ((vS r s).Lt (sF p q))
def Bf(p q r s:P3):P3:=(q.sub p).cross (s.sub r)
def jS(p q r s:P3):Bool :=
 if Hu (Bf p q r s)<3 then
  decide (Ca p q r s=0)&&decide (mH (pR p q r) (Hu (Bf p q r s))*mH (pR p q s) (Hu (Bf p q r s))≤0)&&decide (mH (pR r s p) (Hu (Bf p q r s))*mH (pR r s q) (Hu (Bf p q r s))≤0)
 else an2 p q r s
theorem lt_tri(p q:P3):p.Lt q∨p=q∨q.Lt p:=by
 by_cases h:p=q
 · exact .inr (.inl h)
 · have:¬(p.x=q.x∧p.y=q.y∧p.z=q.z):=fun k=>h (P3.eq k.1 k.2.1 k.2.2)
   unfold P3.Lt;omega
/-! ### In the plane of a triangle -/
def wth(a b c x:P3)(k:Nat):Prop:=(0≤mH (pR a b x) k∧0≤mH (pR b c x) k∧0≤mH (pR c a x) k)∨(mH (pR a b x) k≤0∧mH (pR b c x) k≤0∧mH (pR c a x) k≤0)
instance (a b c x:P3)(k:Nat):Decidable (wth a b c x k):=by unfold wth;infer_instance
def an3(x y z:Int):Bool:=(decide (0≤x)&&decide (0≤y)&&decide (0≤z))||(decide (x≤0)&&decide (y≤0)&&decide (z≤0))
def iN(p q:P3)(t:T3):Bool :=
 if Hu (pR t.a t.b t.c)<3 then
  if 0<Ca t.a t.b t.c p*Ca t.a t.b t.c q then false
  else if Ca t.a t.b t.c p=0∧Ca t.a t.b t.c q=0 then jS p q t.a t.b||jS p q t.b t.c||jS p q t.c t.a||decide (wth t.a t.b t.c p (Hu (pR t.a t.b t.c)))
  else an3 (Ca p q t.a t.b) (Ca p q t.b t.c) (Ca p q t.c t.a)
 else jS p q (sF (sF t.a t.b) t.c) (vS (vS t.a t.b) t.c)
/-! ### Two places of a list -/
/-! ### A step -/
/-! ### The surfaces -/
def T3.mapP(f:P3→P3)(t:T3):T3:=⟨f t.a,f t.b,f t.c⟩
section
variable {f:P3→P3} {S:P3→Prop} {ts:List T3}
end
/-! ### An edge is divided -/
section
variable {f:P3→P3} {S:P3→Prop}
end
section
variable {N N':P3→P3→Prop} {a b c p q x0 y0:P3}
/-! ### A corner between two -/
/-! ### A corner in another's place -/
end
/-! ### The corners behind each other round a corner -/
/-! ### Images -/
theorem Kf{t:T3}:t.nd=true↔t.a≠t.b∧t.b≠t.c∧t.c≠t.a:=by
 unfold T3.nd;simp only[bh,decide_eq_true_eq,and_assoc]
theorem an4{t:T3}:t.nd=false↔t.a=t.b∨t.b=t.c∨t.c=t.a:=by
 cases h:t.nd with
 | true =>
  obtain⟨h1,h2,h3⟩:=Kf.1 h;exact⟨fun k=>(by cases k),fun k=>k.elim (fun k=>absurd k h1) fun k=>k.elim (fun k=>absurd k h2) fun k=>absurd k h3⟩
 | false =>
  refine⟨fun _=>?_,fun _=>rfl⟩;by_cases h1:t.a=t.b
  · exact .inl h1
  · by_cases h2:t.b=t.c
    · exact .inr (.inl h2)
    · refine .inr (.inr (Decidable.byContradiction fun h3=>?_))
      rw[Kf.2 ⟨h1,h2,h3⟩] at h;cases h
theorem ab8(t:T3):an1 t (mW t):=by
 unfold mW;split
 · exact .inr (.inr rfl)
 · split
   · exact .inr (.inl rfl)
   · exact .inl rfl
/-! ### What holds of both -/
theorem tP{ts:List T3}{t:T3}{x:P3}(ht:t∈ts)(h:t.has x=true):x∈dL ts:=aek.2 ⟨t,ht,nP.1 h⟩
/-! ### One step -/
def Bg(p a x:P3):P3:=if x=p then a else x
theorem an5{p a:P3}:Bg p a p=a:=if_pos rfl
theorem an6{p a x:P3}(h:x≠p):Bg p a x=x:=if_neg h
section
variable {p a:P3} {X:E3→Prop} {old new R us us':List T3}
end
/-! ### The corners round a corner,in a step -/
def lL(t:T3):Bool:=decide (¬Hu (pR t.a t.b t.c)<3)
def rQ(s t:T3):List P3:=[s.a,s.b,s.c].filter fun p=>t.has p
def uQ(s t:T3):List P3:=[s.a,s.b,s.c].filter fun p=>!t.has p
def Ro(s t:T3):Bool:=iN s.a s.b t||iN s.b s.c t||iN s.c s.a t
def sgE(u v:P3):Bool:=decide (bG u.x=bG v.x∧bG u.y=bG v.y∧bG u.z=bG v.z)
def aaU(s t:T3):List P3→List P3→List P3→Bool
 | [_],[u,x],[v,y]=>iN u x t||iN v y s
 | [a,b],[u],[v]=>decide (Ca a b u v=0)&&sgE (pR a b u) (pR a b v)
 | _,_,_=>true
def Oq(s t:T3):Bool :=
 if (rQ s t).length=0∨lL s=true∨lL t=true then Ro s t||Ro t s else aaU s t (rQ s t) (uQ s t) (uQ t s)
theorem ak5(s t:T3):rQ s t=(if t.has s.a then [s.a] else [])++((if t.has s.b then [s.b] else [])++if t.has s.c then [s.c] else []):=by
 unfold rQ;simp only[gn,li];cases t.has s.a <;> cases t.has s.b <;> cases t.has s.c <;> rfl
theorem ak6(s t:T3):uQ s t=(if t.has s.a then [] else [s.a])++((if t.has s.b then [] else [s.b])++if t.has s.c then [] else [s.c]):=by
 unfold uQ;simp only[gn,li];cases t.has s.a <;> cases t.has s.b <;> cases t.has s.c <;> rfl
theorem Ot{t:T3}(h:t.nd=true):[t.a,t.b,t.c].Nodup:=by
 obtain⟨h1,h2,h3⟩:=Kf.1 h;simp only[gm,ak,bw,or_false,not_or,not_false_eq_true,List.nodup_nil,and_true];exact⟨⟨h1,h3.symm⟩,h2⟩
theorem aem{s t:T3}(hs:s.nd=true)(ht:t.nd=true):(rQ s t).Perm (rQ t s):=by
 refine (List.perm_ext_iff_of_nodup ((Ot hs).filter _) ((Ot ht).filter _)).2 fun p=>?_;rw[di,di,nP,nP];simp only[ak,bw,or_false];exact and_comm
def T3.Lt(s t:T3):Prop:=s.a.Lt t.a∨s.a=t.a∧(s.b.Lt t.b∨s.b=t.b∧s.c.Lt t.c)
instance (s t:T3):Decidable (s.Lt t):=by unfold T3.Lt;infer_instance
theorem T3.lt_irrefl(s:T3):¬s.Lt s:=fun h=>by
 rcases h with h | ⟨_,h | ⟨_,h⟩⟩ <;> exact P3.lt_irrefl _ h
theorem T3.lt_trans{s t u:T3}(h:s.Lt t)(k:t.Lt u):s.Lt u:=by
 rcases h with h | ⟨e,h | ⟨f,h⟩⟩ <;> rcases k with k | ⟨e2,k | ⟨f2,k⟩⟩
 · exact .inl (P3.lt_trans h k)
 · exact .inl (e2▸h)
 · exact .inl (e2▸h)
 · exact .inl (e▸k)
 · exact .inr ⟨e.trans e2,.inl (P3.lt_trans h k)⟩
 · exact .inr ⟨e.trans e2,.inl (f2▸h)⟩
 · exact .inl (e▸k)
 · exact .inr ⟨e.trans e2,.inl (f▸k)⟩
 · exact .inr ⟨e.trans e2,.inr ⟨f.trans f2,P3.lt_trans h k⟩⟩
theorem T3.lt_tri(s t:T3):s.Lt t∨s=t∨t.Lt s:=by
 rcases Go.Lith.lt_tri s.a t.a with h | h | h
 · exact .inl (.inl h)
 · rcases Go.Lith.lt_tri s.b t.b with k | k | k
   · exact .inl (.inr ⟨h,.inl k⟩)
   · rcases Go.Lith.lt_tri s.c t.c with l | l | l
     · exact .inl (.inr ⟨h,.inr ⟨k,l⟩⟩)
     · exact .inr (.inl (Rm h k l))
     · exact .inr (.inr (.inr ⟨h.symm,.inr ⟨k.symm,l⟩⟩))
   · exact .inr (.inr (.inr ⟨h.symm,.inl k⟩))
 · exact .inr (.inr (.inl h))
def rR(s t:T3):Prop:=¬t.Lt s
theorem Gp{s t u:T3}(h:rR s t)(k:rR t u):rR s u:=fun l=>by
 rcases T3.lt_tri s t with e | e | e
 · exact k (T3.lt_trans l e)
 · exact k (e▸l)
 · exact h e
theorem Yt{s t:T3}(h:rR s t)(k:rR t s):s=t:=by
 rcases T3.lt_tri s t with e | e | e
 · exact absurd e k
 · exact e
 · exact absurd e h
def ab9(t:T3):List T3→List T3
 | []=>[t]
 | u::l=>if u.Lt t then u::ab9 t l else t::u::l
def sG:List T3→List T3
 | []=>[]
 | t::l=>ab9 t (sG l)
def dA(l:List T3):List T3:=sG (l.map mW)
theorem Kg(t:T3):∀l:List T3,(ab9 t l).Perm (t::l)
 | []=>.refl _
 | u::l=>by
  rw[ab9];split
  · exact ((Kg t l).cons u).trans (.swap ..)
  · exact .refl _
theorem qT:∀l:List T3,(sG l).Perm l
 | []=>.refl _
 | t::l=>(Kg t _).trans ((qT l).cons t)
theorem Kh(t:T3):∀l:List T3,l.Pairwise rR→(ab9 t l).Pairwise rR
 | [],_=>iy _ _
 | u::l,h=>by
  rw[ab9];obtain⟨h1,h2⟩:=bj.1 h;split
  · rename_i k
    refine bj.2 ⟨fun x hx=>?_,Kh t l h2⟩;rcases ak.1 ((Kg t l).subset hx) with rfl | hx
    · exact fun k2=>T3.lt_irrefl _ (T3.lt_trans k k2)
    · exact h1 x hx
  · rename_i k
    refine bj.2 ⟨fun x hx=>?_,h⟩;rcases ak.1 hx with rfl | hx
    · exact k
    · exact Gp k (h1 x hx)
theorem pB:∀l:List T3,(sG l).Pairwise rR
 | []=>ji
 | t::l=>Kh t _ (pB l)
theorem wX:∀{l m:List T3},l.Perm m→l.Pairwise rR→m.Pairwise rR→l=m
 | [],m,h,_,_=>h.symm.eq_nil.symm
 | s::l,[],h,_,_=>by have:=h.length_eq;simp at this
 | s::l,t::m,h,h1,h2=>by
  obtain⟨a1,a2⟩:=bj.1 h1;obtain⟨b1,b2⟩:=bj.1 h2;have e:s=t:=by
   have hs:s∈t::m:=h.subset (bp ..);have ht:t∈s::l:=h.symm.subset (bp ..);rcases ak.1 hs with e | hs
   · exact e
   · rcases ak.1 ht with e | ht
     · exact e.symm
     · exact Yt (a1 t ht) (b1 s hs)
  subst e;rw[wX ((List.perm_cons s).1 h) a2 b2]
theorem uR(l:List T3):(dA l).Perm (l.map mW):=qT _
theorem Rp(l:List T3):(dA l).Pairwise rR:=pB _
theorem aen{l m:List T3}(h:m.Perm (l.map mW))(hs:m.Pairwise rR):m=dA l:=wX (h.trans (uR l).symm) hs (Rp l)
def rS(u v:P3)(t:T3):T3:=t.mapP (Bg u v)
def wY(u v:P3)(l:List T3):List T3:=(l.map (rS u v)).filter T3.nd
def yU(l:List T3)(u v:P3):List T3:=dA (wY u v l)
def kQ(u v:P3)(l:List T3):List T3:=l.filter fun t=>!decide (rS u v t=t)&&(rS u v t).nd
def kR(u v:P3)(l:List T3):List T3:=(kQ u v l).map (rS u v)
def nY(u v:P3)(l:List T3):List T3:=l.filter fun t=>decide (rS u v t=t)
def Rq(l:List T3)(p q:P3):Bool:=decide (q≠p)&&aei l p q
def nbL(l:List T3)(p:P3):List P3:=(dJ l).filter (Rq l p)
def aca(p:P3):List P3→List P3
 | []=>[p]
 | q::l=>if q.Lt p then q::aca p l else p::q::l
def vK:List P3→List P3
 | []=>[]
 | p::l=>aca p (vK l)
def Ki(t:T3):List P3:=vK [t.a,t.b,t.c]
def Bh(t:T3)(k:Nat):Int:=min (min (mH t.a k) (mH t.b k)) (mH t.c k)
def Bi(t:T3)(k:Nat):Int:=max (max (mH t.a k) (mH t.b k)) (mH t.c k)
def acb(s t:T3)(k:Nat):Bool:=decide (Bi s k<Bh t k)||decide (Bi t k<Bh s k)
def Gq(s t:T3):Bool:=!acb s t 0 && !acb s t 1 && !acb s t 2
def sH(t s:T3):Bool:=Gq t s&&Oq s t
def aeo(s t:T3):Int:=bG ((pR s.a s.b s.c).dot (pR t.a t.b t.c))
def sJ(l:List T3)(u v:P3):Bool:=Rq l u v && !Xb (bY l) u
def Db(l:List T3)(u v:P3):Bool:=decide (((nbL l u).filter (Rq l v)).length=2)
def Hv(l:List T3)(u v:P3):Bool:=decide (((kR u v l++nY u v l).map Ki).Nodup)
def Kj(l:List T3)(u v:P3):Bool:=!Xb (bY l) v||(nbL l u).all fun p=>decide (p=v) || !Xb (bY l) p||Rq l v p
def wZ(l:List T3)(u v:P3):Bool:=(kQ u v l).all fun t=>!lL (rS u v t)&&decide (aeo t (rS u v t)=1)
def Rr(l:List T3)(u v:P3):Bool:=(kR u v l).zipIdx.all fun x=>!(nY u v l).any (sH x.1) && !((kR u v l).take x.2).any (sH x.1)
def cE(l:List T3)(u v:P3):Bool:=sJ l u v&&Db l u v&&Hv l u v&&Kj l u v&&wZ l u v&&Rr l u v
theorem Rs{l:List T3}{p q:P3}:Rq l p q=true↔q≠p∧aei l p q=true:=by
 unfold Rq;rw[bh,decide_eq_true_eq]
theorem Dd{l:List T3}{p q:P3}:q∈nbL l p↔Rq l p q=true:=by
 unfold nbL;rw[di,wW];refine⟨fun h=>h.2,fun h=>⟨?_,h⟩⟩;obtain⟨t,ht,_,hq⟩:=Da.1 (Rs.1 h).2;exact tP ht hq
theorem ahn{u v:P3}(l:List T3):∀t∈wY u v l,t.nd=true:=fun t h=>(di.1 h).2
theorem ak7(t:T3):(mW t).nd=t.nd:=(ahm (ab8 t))
theorem aep{l:List T3}(h:∀t∈l,t.nd=true):∀t∈dA l,t.nd=true:=fun t ht=>by
 obtain⟨s,hs,rfl⟩:=dj.1 ((uR l).mem_iff.1 ht);rw[ak7];exact h s hs
theorem ak8(l:List T3)(u v:P3):∀t∈yU l u v,t.nd=true:=aep (ahn l)
theorem lG(l:List T3):(dA l).length=l.length:=by rw[(uR l).length_eq,ct]
theorem aeq{l:List T3}{u v:P3}(h:sJ l u v=true):(yU l u v).length<l.length:=by
 have hj:=(Bool.and_eq_true_iff.1 h).1;obtain⟨hne,he⟩:=Rs.1 hj;obtain⟨t,ht,h1,h2⟩:=Da.1 he;unfold yU;rw[lG];unfold wY;have hn:(rS u v t).nd=false:=by
  rw[an4];rw[nP] at h1 h2;unfold rS T3.mapP Bg;simp only
  grind
 have hm:rS u v t∈l.map (rS u v):=List.mem_map_of_mem ht;have:=List.length_filter_lt_length_iff_exists (p:=T3.nd) (l:=l.map (rS u v)) |>.2 ⟨_,hm,by rw[hn];exact iq⟩
 rwa [ct] at this
theorem aaV(u v:P3)(l:List T3):(wY u v l).length≤l.length:=by
 have:=List.length_filter_le T3.nd (l.map (rS u v));rwa [ct] at this
def yV(a b:List Int):List Int:=List.zipWith (· + ·) a b
def q0:List Int:=[0,0,0,0,0,0,0,0,0,0]
def qPr(a b c d:Int):List Int:=[a*a,2*(a*b),2*(a*c),2*(a*d),b*b,2*(b*c),2*(b*d),c*c,2*(c*d),d*d]
def qOf(t:T3):List Int:=qPr (pR t.a t.b t.c).x (pR t.a t.b t.c).y (pR t.a t.b t.c).z (-((pR t.a t.b t.c).dot t.a))
def an7(q:List Int)(x y z:Int):Int:=match q with
 | [a,b,c,d,e,f,g,h,i,j]=>a*(x*x)+b*(x*y)+c*(x*z)+d*x+e*(y*y)+f*(y*z)+g*y+h*(z*z)+i*z+j
 | _=>0
def qAt(q:List Int)(p:P3):Int:=an7 q p.x p.y p.z
def rY(l:List T3)(p:P3):List Int:=(l.filter fun t=>t.has p).foldl (fun s t=>yV s (qOf t)) q0
structure jW where
 u:P3
 v:P3
 c:Int
def jW.Lt(a b:jW):Prop:=a.c<b.c∨a.c=b.c∧(a.u.Lt b.u∨a.u=b.u∧a.v.Lt b.v)
instance (a b:jW):Decidable (a.Lt b):=by unfold jW.Lt;infer_instance
theorem jW.ext' {a b:jW}(h1:a.u=b.u)(h2:a.v=b.v)(h3:a.c=b.c):a=b:=by
 obtain⟨u,v,c⟩:=a;obtain⟨u',v',c'⟩:=b;simp only at h1 h2 h3;rw[h1,h2,h3]
theorem jW.lt_irrefl(a:jW):¬a.Lt a:=fun h=>by
 rcases h with h | ⟨_,h | ⟨_,h⟩⟩
 · omega
 · exact P3.lt_irrefl _ h
 · exact P3.lt_irrefl _ h
theorem jW.lt_trans{a b c:jW}(h:a.Lt b)(k:b.Lt c):a.Lt c:=by
 rcases h with h | ⟨e,h | ⟨f,h⟩⟩ <;> rcases k with k | ⟨e2,k | ⟨f2,k⟩⟩
 · exact .inl (by omega)
 · exact .inl (by omega)
 · exact .inl (by omega)
 · exact .inl (by omega)
 · exact .inr ⟨e.trans e2,.inl (P3.lt_trans h k)⟩
 · exact .inr ⟨e.trans e2,.inl (f2▸h)⟩
 · exact .inl (by omega)
 · exact .inr ⟨e.trans e2,.inl (f▸k)⟩
 · exact .inr ⟨e.trans e2,.inr ⟨f.trans f2,P3.lt_trans h k⟩⟩
theorem jW.lt_tri(a b:jW):a.Lt b∨a=b∨b.Lt a:=by
 rcases Int.lt_trichotomy a.c b.c with h | h | h
 · exact .inl (.inl h)
 · rcases Go.Lith.lt_tri a.u b.u with k | k | k
   · exact .inl (.inr ⟨h,.inl k⟩)
   · rcases Go.Lith.lt_tri a.v b.v with l | l | l
     · exact .inl (.inr ⟨h,.inr ⟨k,l⟩⟩)
     · exact .inr (.inl (jW.ext' k l h))
     · exact .inr (.inr (.inr ⟨h.symm,.inr ⟨k.symm,l⟩⟩))
   · exact .inr (.inr (.inr ⟨h.symm,.inl k⟩))
 · exact .inr (.inr (.inl h))
def Nc:List jW→Option jW
 | []=>none
 | c::cs=>match Nc cs with
  | none=>some c
  | some d=>if d.Lt c then some d else some c
theorem yI:∀{cs:List jW},Nc cs=none↔cs=[]
 | []=>⟨fun _=>rfl,fun _=>rfl⟩
 | c::cs=>by
  unfold Nc;constructor
  · intro h
    cases hm:Nc cs with
    | none=>rw[hm] at h;cases h
    | some d=>rw[hm] at h;simp only at h;split at h <;> cases h
  · intro h;cases h
theorem Ez:∀{cs:List jW} {c:jW},Nc cs=some c→c∈cs∧∀d∈cs,¬d.Lt c
 | [],c,h=>by cases h
 | a::cs,c,h=>by
  unfold Nc at h;cases hm:Nc cs with
  | none =>
   rw[hm] at h;cases h;rw[yI.1 hm];exact⟨jx _,fun d hd=>by rw[ay.1 hd];exact jW.lt_irrefl _⟩
  | some d =>
   rw[hm] at h;simp only at h;obtain⟨h1,h2⟩:=Ez hm;split at h
   · rename_i k
     cases h;refine⟨bm _ h1,fun e he=>?_⟩;rcases ak.1 he with rfl | he
     · exact fun k2=>jW.lt_irrefl _ (jW.lt_trans k k2)
     · exact h2 e he
   · rename_i k
     cases h;refine⟨bp ..,fun e he k2=>?_⟩;rcases ak.1 he with rfl | he
     · exact jW.lt_irrefl _ k2
     · rcases jW.lt_tri d e with k3 | k3 | k3
       · exact k (jW.lt_trans k3 k2)
       · exact k (k3▸k2)
       · exact h2 e he k3
theorem ahp{cs:List jW}{c:jW}(hc:c∈cs)(h:∀d∈cs,¬d.Lt c):Nc cs=some c:=by
 cases hm:Nc cs with
 | none=>rw[yI.1 hm] at hc;cases hc
 | some d =>
  obtain⟨h1,h2⟩:=Ez hm;rcases jW.lt_tri c d with k | k | k
  · exact absurd k (h2 c hc)
  · rw[k]
  · exact absurd k (h d h1)
def pC(q:P3→List Int)(u v:P3):Int:=qAt (yV (q u) (q v)) v
def ak9(l:List T3)(q:P3→List Int)(u:P3):List jW:=if Xb (bY l) u then [] else (nbL l u).map fun v=>⟨u,v,pC q u v⟩
def Vb(l:List T3)(q:P3→List Int):List jW:=(dJ l).flatMap (ak9 l q)
def sK(l:List T3)(q:P3→List Int):Option jW:=Nc ((Vb l q).filter fun c=>cE l c.u c.v)
def Rt(q:P3→List Int)(u v:P3)(p:P3):List Int:=if p=v then yV (q u) (q v) else q p
def toF(D:List Mv)(u v:P3):List Mv:=eP (D.map fun e=>(e.1,Bg u v e.2)) u v
def kJ:Nat→Int→List T3→(P3→List Int)→List Mv→List T3 × List Mv
 | 0,_,l,_,D=>(l,D)
 | n+1,want,l,q,D=>if (l.length:Int)≤want then (l,D) else match sK l q with
  | none=>(l,D)
  | some c=>kJ n want (yU l c.u c.v) (Rt q c.u c.v) (toF D c.u c.v)
def kW(D:List Mv):List Mv:=(vK (D.map (·.1))).map fun k=>(k,(bU D k).getD k)
def mT(l:List T3)(want:Int):List T3 × List Mv :=
 if iH true (dA l)≠0 then (dA l,[]) else
 ((kJ (dA l).length want (dA l) (rY (dA l)) []).1,kW (kJ (dA l).length want (dA l) (rY (dA l)) []).2)
theorem Ru{l:List T3}{q:P3→List Int}{c:jW}:c∈Vb l q↔Xb (bY l) c.u=false∧Rq l c.u c.v=true∧c.c=pC q c.u c.v:=by
 unfold Vb;rw[dz];constructor
 · rintro⟨u,hu,hc⟩
   unfold ak9 at hc;split at hc
   · cases hc
   · rename_i hb
     obtain⟨v,hv,rfl⟩:=dj.1 hc;exact⟨by simpa using hb,Dd.1 hv,rfl⟩
 · rintro⟨h1,h2,h3⟩
   obtain⟨t,ht,hu,_⟩:=Da.1 (Rs.1 h2).2;refine⟨c.u,wW.2 (tP ht hu),?_⟩;unfold ak9;rw[if_neg (by rw[h1];exact iq)];exact dj.2 ⟨c.v,Dd.2 h2,jW.ext' rfl rfl h3.symm⟩
theorem xA{l:List T3}{u v:P3}(h:cE l u v=true):sJ l u v=true:=by
 unfold cE at h;simp only[bh] at h;exact h.1.1.1.1.1
theorem acc{l:List T3}{q:P3→List Int}(h:sK l q=none)(u v:P3):cE l u v=false:=by
 cases k:cE l u v with
 | false=>rfl
 | true =>
  have hj:=xA k;unfold sJ at hj;obtain⟨h1,h2⟩:=Bool.and_eq_true_iff.1 hj;have:=yI.1 h;have hm:(⟨u,v,pC q u v⟩:jW)∈(Vb l q).filter fun c=>cE l c.u c.v:=di.2 ⟨Ru.2 ⟨by simpa using h2,h1,rfl⟩,k⟩;rw[this] at hm;cases hm
theorem Ou{l:List T3}{q:P3→List Int}{c:jW}(h:sK l q=some c):c∈Vb l q∧cE l c.u c.v=true:=by
 have:=(Ez h).1;exact di.1 this
theorem oH{l:List T3}{q:P3→List Int}{c:jW}(h:sK l q=some c):(yU l c.u c.v).length<l.length:=aeq (xA (Ou h).2)
theorem Kk:∀(n:Nat) (want:Int) (l:List T3) (q:P3→List Int) (D:List Mv),l.length≤n→0≤want →
 ((kJ n want l q D).1.length:Int)≤want∨∀u v,cE (kJ n want l q D).1 u v=false
 | 0,want,l,q,D,h,hw=>.inl (by
  have:l.length=0:=by omega
  show (l.length:Int)≤want
  omega)
 | n+1,want,l,q,D,h,hw=>by
  unfold kJ;split
  · rename_i k;exact .inl k
  · cases hb:sK l q with
    | none=>exact .inr fun u v=>acc hb u v
    | some c =>
     simp only;have:=oH hb;exact Kk n want _ _ _ (by omega) hw
theorem Ov:∀(n m:Nat) (want:Int) (l:List T3) (q:P3→List Int) (D:List Mv),l.length≤n→l.length≤m→0≤want→kJ n want l q D=kJ m want l q D
 | 0,0,_,_,_,_,_,_,_=>rfl
 | 0,m+1,want,l,q,D,h1,h2,hw=>by
  have:l.length=0:=by omega
  unfold kJ;rw[if_pos (by omega)]
 | n+1,0,want,l,q,D,h1,h2,hw=>by
  have:l.length=0:=by omega
  unfold kJ;rw[if_pos (by omega)]
 | n+1,m+1,want,l,q,D,h1,h2,hw=>by
  unfold kJ;split
  · rfl
  · cases hb:sK l q with
    | none=>rfl
    | some c =>
     have:=oH hb;exact Ov n m want _ _ _ (by omega) (by omega) hw
theorem aer{n:Nat}{want:Int}{l:List T3}{q:P3→List Int}{D:List Mv}(h:(l.length:Int)≤want):kJ n want l q D=(l,D):=by
 cases n with
 | zero=>rfl
 | succ n=>unfold kJ;rw[if_pos h]
def wC(n:Int):List ac:=[.bool (fC n),.string (jL n)]
def qC(L:List Int):List ac:=L.flatMap wC
def qV(L:List Int):ac:=.agg (qC L).toArray
theorem wC2(n:Int):(wC n).length=2:=rfl
theorem xB(L:List Int):(qC L).length=L.length*2:=iQ wC2 ..
theorem xC{w:ah}{g:Nat}{L:List Int}{T:aj}{k:Nat}{x:Int}(h:fA w g (qC L) T)(hx:L[k]? = some x):nV w ⟨g,k*2,none⟩ (wC x):=by
 have h2:=h.row (k*2);rw[qC,Ji wC2 hx] at h2;exact fun j u hj=>h2 j u (by rw[cn (ar.1 hj).1];exact hj)
theorem Rv{L:List Int}{k:Nat}{x:Int}(h:k<L.length):over (qC L) (k*2) (wC x)=qC (L.set k x):=by
 unfold over qC;rw[show k*2+(wC x).length=(k+1)*2 by rw[wC2];omega,←Jh wC2,←uI wC2,je,if_pos h,av,List.flatMap_cons,cq]
theorem ala(L:List Int):∀u∈qC L,u.oneCell'=true:=fun u hu=>by
 obtain⟨x,_,h⟩:=dz.1 hu;simp only[wC,ak,bw,or_false] at h;rcases h with rfl | rfl <;> rfl
def Bj(k:Nat)(L:List Int):Prop:=∀x∈L,Bd k x
theorem Bj.mono{k m:Nat}{L:List Int}(h:Bj k L)(hk:k≤m):Bj m L:=fun x hx=>(h x hx).mono hk
theorem Bj.at{k i:Nat}{L:List Int}{x:Int}(h:Bj k L)(hx:L[i]? = some x):Bd k x:=h x (ba hx)
theorem jT{a b:List Int}(ha:a.length=10)(hb:b.length=10):(yV a b).length=10:=by unfold yV;rw[List.length_zipWith,ha,hb];rfl
theorem Hw{k:Nat}{a b:List Int}(ha:Bj k a)(hb:Bj k b):Bj (k+1) (yV a b):=fun x hx=>by
 unfold yV at hx;obtain⟨i,hi⟩:=dm.1 hx;rw[List.getElem?_zipWith] at hi;cases h1:a[i]? with
 | none=>simp[h1] at hi
 | some y =>
  cases h2:b[i]? with
  | none=>simp[h1,h2] at hi
  | some z =>
   simp[h1,h2] at hi;subst hi;exact ((ha.at h1).add (hb.at h2)).mono (by omega)
section
variable {P:bc} {ds:List cg} {l:List ac} {x y:Operand} {T ty:aj} {ops:Array Oper} {Q:Exit→Act→ah→Prop} {rest:List Oper} {pos:String} {after:Array Edge} {w w0:ah} {is:List It}
theorem Vc{cs us:List ac}(h:us.length=cs.length):over cs 0 us=us:=by unfold over;rw[List.take_zero,bv,aq,fq (by omega),e_]
theorem yJ{g n:Nat}{cs:List ac}{L:List Int}{t:aj}(m:Mem w0 w is)(k:Nat)(hk:is[k]? = some (bI g cs t))(hx:ev l x=.pointer (some ⟨g,0,none⟩))(hv:ev l y=qV L)(hl:L.length*2=n)(hcs:cs.length=n)(hc:cS P T n)
 (h:∀u,Mem w0 u (is.set k (bI g (qC L) t))→ao P ops Q rest (Fr l ds) u):ao P ops Q (Oper.mk none (.store T x y) ty pos after none::rest) (Fr l ds) w :=
 cD (us:=qC L) m k hk hx hv (by rw[xB,hl];exact hc) (by rw[xB,hl,hcs,aq];exact ap _) (List.all_eq_true.2 (ala L)) fun u hu=>h u (by rw[Vc (by rw[xB,hl,hcs])] at hu;exact hu)
theorem sW{g n:Nat}{L:List Int}{t:aj}(h:fA w g (qC L) t)(hA:dV P T true)(hc:cS P T n)(hl:L.length*2=n):gM P w T ⟨g,0,none⟩ (qV L):=h.full hA (by rw[xB,hl];exact hc)
theorem ahq{a:Addr}(h:gM P w T a (.agg #[.bool false,.string ⟨#[]⟩])):gM P w T a (W 0):=by rw[Qk];exact h
end
def qP(a b:List Int)(k:Nat):List Int:=(yV a b).take k++a.drop k
theorem alb{a b:List Int}(ha:a.length=10)(hb:b.length=10):qP a b 10=yV a b:=by
 unfold qP;rw[be (by rw[jT ha hb];exact ap _),fq (by omega),e_]
theorem aes{a b:List Int}(ha:a.length=10)(hb:b.length=10){k:Nat}(hk:k≤10):(qP a b k).length=10:=by
 unfold qP;rw[aw,br,ej,jT ha hb,ha];omega
theorem an9{a b:List Int}(ha:a.length=10)(hb:b.length=10){k:Nat}{x:Int}(hk:k<10)(hx:a[k]? = some x):(qP a b k)[k]? = some x:=by
 unfold qP;rw[dh (by rw[br];omega),br,jT ha hb,gl (by omega),Nat.sub_self,cu,Nat.add_zero];exact hx
theorem alc{a b:List Int}(ha:a.length=10)(hb:b.length=10){k:Nat}{x y:Int}(hk:k<10)(hx:a[k]? = some x)(hy:b[k]? = some y):(qP a b k).set k (x+y)=qP a b (k+1):=by
 have h1:(yV a b)[k]? = some (x+y):=by unfold yV;rw[List.getElem?_zipWith,hx,hy]
 have h2:((yV a b).take k).length=k:=by rw[br,jT ha hb];omega
 unfold qP;rw[List.take_add_one,h1,List.set_append_right _ _ (by rw[h2];exact ap _),h2,Nat.sub_self,Option.toList,cq]
 congr 1
 rw[fk (by omega:k<a.length)];rfl
/-! ### The pairs,in order -/
def eI(n:Nat):Nat:=[0,0,0,0,1,1,1,2,2,3].getD n 0
def eJ(n:Nat):Nat:=[0,1,2,3,1,2,3,2,3,3].getD n 0
theorem Rw{Q:Nat→Prop}{n:Nat}(hn:n<10)(h0:Q 0)(h1:Q 1)(h2:Q 2)(h3:Q 3)(h4:Q 4)(h5:Q 5)(h6:Q 6)(h7:Q 7)(h8:Q 8)(h9:Q 9):Q n:=by
 rcases n with _ | _ | _ | _ | _ | _ | _ | _ | _ | _ | n
 all_goals first | assumption | omega
theorem aet{n:Nat}(hn:n<10):eI n<4:=Rw (Q:=fun n=>eI n<4) hn (by decide) (by decide) (by decide) (by decide) (by decide) (by decide) (by decide) (by decide) (by decide) (by decide)
theorem aeu{n:Nat}(hn:n<10):eJ n<4:=Rw (Q:=fun n=>eJ n<4) hn (by decide) (by decide) (by decide) (by decide) (by decide) (by decide) (by decide) (by decide) (by decide) (by decide)
def Ox(p:List Int)(n:Nat):Int:=p.getD (eI n) 0*p.getD (eJ n) 0
def qF(a b c d:Int)(n:Nat):List Int:=(qPr a b c d).take n++List.replicate (10-n) 0
theorem ald(a b c d:Int){n:Nat}(hn:n≤10):(qF a b c d n).length=10:=by
 unfold qF;rw[aw,br,List.length_replicate,show (qPr a b c d).length=10 from rfl];omega
theorem aev{a b c d:Int}{n:Nat}(hn:n<10):((qF a b c d n).set n (Ox [a,b,c,d] n)).set n (if eI n=eJ n then Ox [a,b,c,d] n else Ox [a,b,c,d] n*2)=qF a b c d (n+1):=by
 rw[List.set_set];refine Rw (Q:=fun n=>(qF a b c d n).set n (if eI n=eJ n then Ox [a,b,c,d] n else Ox [a,b,c,d] n*2)=qF a b c d (n+1)) hn ?_ ?_ ?_ ?_ ?_ ?_ ?_ ?_ ?_ ?_
 all_goals simp[qF,qPr,Ox,eI,eJ,Int.mul_comm]
theorem aoa(a b c d:Int):qF a b c d 10=qPr a b c d:=by unfold qF qPr;rfl
theorem aix(a b c d:Int){i:Nat}(hi:i<4):[a,b,c,d][i]? = some ([a,b,c,d].getD i 0):=by
 rcases i with _ | _ | _ | _ | i
 all_goals first | rfl | omega
theorem aob{k:Nat}{a b c d:Int}(h:Bj k [a,b,c,d]):Bj (k+k+2) (qPr a b c d):=fun x hx=>by
 have ha:=h a (by simp);have hb:=h b (by simp);have hc:=h c (by simp);have hd:=h d (by simp);have two:∀{x:Int},Bd (k+k) x→Bd (k+k+2) (2*x):=fun {x} hx=>by
  have h2:Bd 2 (2:Int):=by unfold Bd;decide
  rw[Nat.add_comm];exact h2.mul hx
 simp only[qPr,ak,bw,or_false] at hx;rcases hx with rfl | rfl | rfl | rfl | rfl | rfl | rfl | rfl | rfl | rfl
 · exact (ha.mul ha).mono (by omega)
 · exact two (ha.mul hb)
 · exact two (ha.mul hc)
 · exact two (ha.mul hd)
 · exact (hb.mul hb).mono (by omega)
 · exact two (hb.mul hc)
 · exact two (hb.mul hd)
 · exact (hc.mul hc).mono (by omega)
 · exact two (hc.mul hd)
 · exact (hd.mul hd).mono (by omega)
/-! ### A quadric's value -/
def atS(q x:List Int):Nat→Int
 | 0=>0
 | n+1=>atS q x n+q.getD n 0*Ox x n
theorem Rx{q:List Int}(hq:q.length=10){n:Nat}(hn:n<10):q[n]? = some (q.getD n 0):=by
 rw[fz,an (by omega)];rfl
theorem aew{q:List Int}(hq:q.length=10)(p:P3):atS q [p.x,p.y,p.z,1] 10=qAt q p:=by
 rcases q with _ | ⟨a,_ | ⟨b,_ | ⟨c,_ | ⟨d,_ | ⟨e,_ | ⟨f,_ | ⟨g,_ | ⟨h,_ | ⟨i,_ | ⟨j,_ | ⟨k,q⟩⟩⟩⟩⟩⟩⟩⟩⟩⟩⟩ <;> simp only[au,bt] at hq <;> try omega
 simp only[atS,Ox,eI,eJ,qAt,an7,List.getD_cons_zero,List.getD_cons_succ,List.getD_nil]
 grind
theorem Yu{k:Nat}{p:List Int}(h:Bj k p)(hl:p.length=4){n:Nat}(hn:n<10):Bd (k+k) (Ox p n):=by
 have key:∀i,i<4→Bd k (p.getD i 0):=fun i hi=>by
  rw[fz,an (by omega:i<p.length)];exact h _ (ic _)
 exact (key _ (aet hn)).mul (key _ (aeu hn))
theorem Yv{k m:Nat}{q p:List Int}(hq:Bj k q)(hl:q.length=10)(hp:Bj m p)(hpl:p.length=4):∀n,n≤10→Bd (k+m+m+n) (atS q p n)
 | 0,_=>Hp _
 | n+1,hn=>by
  have h1:=Yv hq hl hp hpl n (by omega);have h2:=(hq.at (Rx hl (by omega:n<10))).mul (Yu hp hpl (by omega:n<10));exact (h1.add (h2.mono (by omega:k+(m+m)≤k+m+m+n))).mono (by omega)
theorem bd4{p:P3}(h:I3 p):Bj 64 [p.x,p.y,p.z,1]:=fun x hx=>by
 simp only[ak,bw,or_false] at hx;rcases hx with rfl | rfl | rfl | rfl
 · exact h.x.bd
 · exact h.y.bd
 · exact h.z.bd
 · unfold Bd;decide
theorem aD:(∀P R w0 ds q s l is,V P R w0 ds none 0 [] q s l is=(q∧∀w,Mem w0 w is→Ct P R s .normal (Fz l ds) w))
 ∧ (∀P R w0 ds b w1 q s l is,V P R w0 ds (some (b,w1)) 0 [] q s l is=(q∧∀w,Mem w0 w is→kr b w1 w→Ct P R s .normal (Fz l ds) w))
 ∧ (∀P R w0 ds k sc q l is,V P R w0 ds none 0 (k::sc) q [] l is=(q∧∀w,Mem w0 w is→R .normal (Fz l ds) w))
 ∧ (∀P R w0 ds b w1 k sc q l is,V P R w0 ds (some (b,w1)) 0 (k::sc) q [] l is=(q∧∀w,Mem w0 w is→kr b w1 w→R .normal (Fz l ds) w))
 ∧ (∀P R w0 ds k sc q c s l is,V P R w0 ds none 0 (k::sc) q (.c c::s) l is=(q∧∀w,Mem w0 w is→c.wp P (Ct P R s) (Fz l ds) w))
 ∧ (∀P R w0 ds b w1 k sc q c s l is,V P R w0 ds (some (b,w1)) 0 (k::sc) q (.c c::s) l is=(q∧∀w,Mem w0 w is→kr b w1 w→c.wp P (Ct P R s) (Fz l ds) w))
 ∧ (∀P R w0 ds k sc q ops rest s l is,V P R w0 ds none 0 (k::sc) q (.o ops rest::s) l is=(q∧∀w,Mem w0 w is→ao P ops (Ct P R s) rest (Fz l ds) w))
 ∧ (∀P R w0 ds b w1 k sc q ops rest s l is,V P R w0 ds (some (b,w1)) 0 (k::sc) q (.o ops rest::s) l is=(q∧∀w,Mem w0 w is→kr b w1 w→ao P ops (Ct P R s) rest (Fz l ds) w))
 ∧ (∀P R w0 ds k sc q K s l is,V P R w0 ds none 0 (k::sc) q (.k K::s) l is=(q∧∀w,Mem w0 w is→K (Fz l ds) w))
 ∧ (∀P R w0 ds b w1 k sc q K s l is,V P R w0 ds (some (b,w1)) 0 (k::sc) q (.k K::s) l is=(q∧∀w,Mem w0 w is→kr b w1 w→K (Fz l ds) w))
 ∧ (∀P R w0 ds os n sc q i s l is,V P R w0 ds os (n+1) sc q (.b i::s) l is=V P R w0 ds os n sc q s l is)
 ∧ (∀P R w0 ds os n sc q ops s l is,V P R w0 ds os (n+1) sc q (.o ops []::s) l is=V P R w0 ds os n sc q s l is)
 ∧ (∀P R w0 ds os n sc q ops d op ty pos af g rest s l is,V P R w0 ds os (n+1) sc q (.o ops (⟨some d,op,ty,pos,af,g⟩::rest)::s) l is=Jw ops l g (Ak P l is [] (kpb os) op sc fun vc v sc is=>V P R w0 ds os n sc (vc∧q) (.o ops rest::s) (l.set d v) is) (V P R w0 ds os n sc q (.o ops rest::s) (l.set d undef) is))
 ∧ (∀P R w0 ds os n sc q ops op ty pos af g rest s l is,V P R w0 ds os (n+1) sc q (.o ops (⟨none,op,ty,pos,af,g⟩::rest)::s) l is=Jw ops l g (stV P l is os.isSome op sc fun vc _ sc is=>V P R w0 ds os n sc (vc∧q) (.o ops rest::s) l is) (V P R w0 ds os n sc q (.o ops rest::s) l is))
 ∧ (∀P R w0 ds os n sc q a b s l is,V P R w0 ds os (n+1) sc q (.c (.seq a b)::s) l is=V P R w0 ds os n sc q (.c a :: .c b::s) l is)
 ∧ (∀P R w0 ds os n sc q s l is,V P R w0 ds os (n+1) sc q (.c .skip::s) l is=V P R w0 ds os n sc q s l is)
 ∧ (∀P R w0 ds os n sc q i c s l is,V P R w0 ds os (n+1) sc q (.c (.block i c)::s) l is=V P R w0 ds os n sc q (.c c :: .b i::s) l is)
 ∧ (∀P R w0 ds os n sc q i s l is,V P R w0 ds os (n+1) sc q (.c (.exit i)::s) l is=Mg i s fun s=>V P R w0 ds os n sc q s l is)
 ∧ (∀P R w0 ds n sc q s l is,V P R w0 ds none (n+1) sc q (.c .ret::s) l is=(q∧∀w,Mem w0 w is→R .ret (Fz l ds) w))∧(∀P R w0 ds b w1 n sc q s l is,V P R w0 ds (some (b,w1)) (n+1) sc q (.c .ret::s) l is=(q∧∀w,Mem w0 w is→kr b w1 w→R .ret (Fz l ds) w))
 ∧ (∀P R w0 ds os n sc q x a b s l is,V P R w0 ds os (n+1) sc q (.c (.cond x a b)::s) l is=vvB (ev l x) fun t=>Xa t (V P R w0 ds os n sc q (.c a::s) l is) (V P R w0 ds os n sc q (.c b::s) l is))
 ∧ (∀P R w0 ds os n sc q i ops s l is,V P R w0 ds os (n+1) sc q (.c (.region i (ii ops) false)::s) l is=V P R w0 ds os n sc q (.o ops.toArray ops::s) l is)
 ∧ (∀ops l p q,Jw ops l none p q=p)∧(∀ops l j b p q,Jw (ii ops) l (some (j,b)) p q=vvG (vyv ops l j) b p q)
 ∧ (∀o ops l j,vyv (o::ops) l (j+1)=vyv ops l j)∧(∀d op ty pos af g ops l,vyv (⟨some d,op,ty,pos,af,g⟩::ops) l 0=l.getD d undef)
 ∧ (∀p q,vvG (.bool true) true p q=p)∧(∀p q,vvG (.bool false) true p q=q)∧(∀p q,vvG (.bool true) false p q=q)∧(∀p q,vvG (.bool false) false p q=p)∧(∀b p q,vvG undef b p q=q)
 ∧ (∀i s f,Mg i (.b i::s) f=f s)∧(∀i j s f,Mg i (.b j::s) f=vnE i j (f s) (Mg i s f))∧(∀i c s f,Mg i (.c c::s) f=Mg i s f)∧(∀i ops rest s f,Mg i (.o ops rest::s) f=Mg i s f)∧(∀i K s f,Mg i (.k K::s) f=Mg i s f)∧(∀i c n s f,Mg i (.r c n::s) f=Mg i s f)
 ∧ (∀P R w0 ds os n sc q c k s l is,V P R w0 ds os (n+1) (k::sc) q (.c (.loop c)::s) l is=V P R w0 ds os n sc q (.r c k::s) l is)∧(∀P R w0 ds os n sc q c k s l is,V P R w0 ds os (n+1) sc q (.r c (k+1)::s) l is=V P R w0 ds os n sc q (.c c :: .r c k::s) l is)
 ∧ (∀p q,vnE 0 0 p q=p)∧(∀n m p q,vnE (n+1) (m+1) p q=vnE n m p q)∧(∀n p q,vnE (n+1) 0 p q=q)∧(∀n p q,vnE 0 (n+1) p q=q)
 ∧ (∀k m f,oO (.int k m) f=f k m)∧(∀b f,vvB (.bool b) f=f b)∧(∀a f,Yh (.pointer (some a)) f=f a)∧(∀a n c f,vvS (.slice a n c) f=f a n c)∧(∀cs f,Yi (.agg (ii cs)) f=f cs)∧(∀cs f,vvT (.tuple (ii cs)) f=f cs)
 ∧ (∀p q,Xa true p q=p)∧(∀p q,Xa false p q=q)∧(∀n p,vnX (n+1) p=p)
 ∧ (∀x l f,Es (x::l) 0 f=f x)∧(∀x l n f,Es (x::l) (n+1) f=Es l n f)
 ∧ (∀P l is os pr x sc K,Ak P l is os pr (.move x) sc K=K True (ev l x) sc is)
 ∧ (∀P l is os pr x sc K,Ak P l is os pr (.assign x) sc K=K True (ev l x) sc is)
 ∧ (∀P l is os pr x sc K,Ak P l is os pr (.nilCheck x) sc K=Yh (ev l x) fun a=>K True (.pointer (some a)) sc is)
 ∧ (∀P l is os pr c x y sc K,Ak P l is os pr (.pick c x y) sc K=vvB (ev l c) fun b=>Xa b (K True (ev l x) sc is) (K True (ev l y) sc is))
 ∧ (∀P l is os pr b T x y T' sc K,Ak P l is os pr (.binOp b T x y T') sc K=biV b (ev l x) (ev l y) sc is K)
 ∧ (∀P l is os pr T x sc K,Ak P l is os pr (.unOp .not T x) sc K=vvB (ev l x) fun b=>K True (.bool (!b)) sc is)
 ∧ (∀P l is os pr T x sc K,Ak P l is os pr (.unOp .neg T x) sc K=oO (ev l x) fun k m=>K (Um k (0-m)) (.int k (0-m)) sc is)
 ∧ (∀P l is os pr T T' x sc K,Ak P l is os pr (.convert T T' x) sc K=vR (ikP P T) fun _=>vR (ikP P T') fun k=>oO (ev l x) fun _ m=>K (Um k m) (.int k m) sc is)
 ∧ (∀P l is os pr x i sc K,Ak P l is os pr (.extract x i) sc K=vvT (ev l x) fun cs=>Es cs i fun v=>K True v sc is)
 ∧ (∀P l is os pr b xs ts sc K,Ak P l is os pr (.call ⟨.builtin b,ii xs,ii ts⟩) sc K=caV P l is b xs ts sc K)
 ∧ (∀P l is x T sc K,caV P l is .len [x] [T] sc K=vR (Cv P T) fun _=>vvS (ev l x) fun _ n _=>K True (.int .i64 n) sc is)
 ∧ (∀P l is x y ts sc K,caV P l is .min [x,y] ts sc K=oO (ev l x) fun k m=>oO (ev l y) fun k' n=>K (k'=k) (.int k (if n<m then n else m)) sc is)
 ∧ (∀P l is x y ts sc K,caV P l is .max [x,y] ts sc K=oO (ev l x) fun k m=>oO (ev l y) fun k' n=>K (k'=k) (.int k (if m<n then n else m)) sc is)
 ∧ (∀x y sc is K,biV .add x y sc is K=oO x fun k m=>oO y fun k' n=>K (k'=k∧Um k (m+n)) (.int k (m+n)) sc is)
 ∧ (∀x y sc is K,biV .sub x y sc is K=oO x fun k m=>oO y fun k' n=>K (k'=k∧Um k (m-n)) (.int k (m-n)) sc is)
 ∧ (∀x y sc is K,biV .mul x y sc is K=oO x fun k m=>oO y fun k' n=>K (k'=k∧Um k (m*n)) (.int k (m*n)) sc is)
 ∧ (∀x y sc is K,biV .lss x y sc is K=oO x fun k m=>oO y fun k' n=>cV sc (m<n) (fun p=>K (k'=k∧p)) is)
 ∧ (∀x y sc is K,biV .leq x y sc is K=oO x fun k m=>oO y fun k' n=>cV sc (m≤n) (fun p=>K (k'=k∧p)) is)
 ∧ (∀x y sc is K,biV .gtr x y sc is K=oO x fun k m=>oO y fun k' n=>cV sc (n<m) (fun p=>K (k'=k∧p)) is)
 ∧ (∀x y sc is K,biV .geq x y sc is K=oO x fun k m=>oO y fun k' n=>cV sc (n≤m) (fun p=>K (k'=k∧p)) is)
 ∧ (∀x y sc is K,biV .eql x y sc is K=oO x fun k m=>oO y fun k' n=>cV sc (m=n) (fun p=>K (k'=k∧p)) is)
 ∧ (∀x y sc is K,biV .neq x y sc is K=oO x fun k m=>oO y fun k' n=>cV sc (m≠n) (fun p=>K (k'=k∧p)) is)
 ∧ (∀sc p K is [Decidable p],cV (0::sc) p K is=K True (.bool (decide p)) sc is)∧(∀sc p K is [Decidable p],cV (1::sc) p K is=K p (.bool true) sc is)∧(∀sc p K is [Decidable p],cV (2::sc) p K is=K (¬p) (.bool false) sc is)
 ∧ (∀n,Um .i64 n=(-9223372036854775808≤n∧n<9223372036854775808))∧(∀n,Um .i32 n=(-2147483648≤n∧n<2147483648))∧(∀n,Um .u64 n=(0≤n∧n<18446744073709551616))∧(∀n,Um .u32 n=(0≤n∧n<4294967296))∧(∀n,Um .u8 n=(0≤n∧n<256))
 ∧ (∀{α:Type} (hd:α→Option Oper) P is os ops K q rest l,VQ hd P is os ops K 0 [] q rest l=(q∧K rest l))∧(∀P is os ops K n sc q d op ty pos af g rest l,VQ some P is os ops K (n+1) sc q (⟨some d,op,ty,pos,af,g⟩::rest) l=Jw ops l g (Ak P l is os true op sc fun vc v sc _=>VQ some P is os ops K n sc (vc∧q) rest (l.set d v)) (VQ some P is os ops K n sc q rest (l.set d undef)))
 ∧ (∀P is os ops K n sc q d op ty pos af g rest l,VQ hdH P is os ops K (n+1) sc q ((⟨some d,op,ty,pos,af,g⟩,true)::rest) l=Jw ops l g (Ak P l is os true op sc fun vc v sc _=>VQ hdH P is os ops K n sc (vc∧q) rest (l.set d v)) (VQ hdH P is os ops K n sc q rest (l.set d undef)))
 ∧ (∀(w:Bool × ah),(some w).isSome=true)∧((none:Kw).isSome=false)∧(∀b w,kpb (some (b,w))=b)∧(kpb none=false)
 ∧ (∀{α:Type} (x:α) f,vR (some x) f=f x)∧(∀l ds,Fz l ds=Fr l ds)
 ∧ (∀p:Prop,(True∧p)=p)∧(∀p:Prop,(p∧True)=p)
 ∧ (∀(l:List Go.Value) (t:Nat),ev l (.tmp t)=l.getD t undef)∧(∀(l:List Go.Value) (v:Go.Value),ev l (.const v)=v)∧(∀(l:List Go.Value) (f:Nat),ev l (.func f)=.func (.func f) #[] #[])∧(∀{α:Type} (x:α) (xs:List α) (n:Nat) (d:α),(x::xs).getD (n+1) d=xs.getD n d)∧(∀{α:Type} (x:α) (xs:List α) (d:α),(x::xs).getD 0 d=x)∧(∀{α:Type} (x:α) (xs:List α) (n:Nat) (a:α),(x::xs).set (n+1) a=x::xs.set n a)∧(∀{α:Type} (x:α) (xs:List α) (a:α),(x::xs).set 0 a=a::xs)
 ∧ (∀P l is os pr T x i sc K,Ak P l is os pr (.fieldAddr T x i) sc K=vR (lQ P T i) fun f=>Yh (ev l x) fun a=>vnX f.2.2 (K True (.pointer (some (a.add f.1))) sc is))
 ∧ (∀P l is os pr T x i sc K,Ak P l is os pr (.field T x i) sc K=vR (lQ P T i) fun f=>Yi (ev l x) fun cs=>Xa f.2.1 (K True (.agg ((cs.drop f.1).take f.2.2).toArray) sc is) (Es cs f.1 fun v=>K True v sc is))
 ∧ (∀P l is os pr T x k sc K,Ak P l is os pr (.load T x) (k::sc) K=vR (qK P T) fun z=>Yh (ev l x) fun a=>atB is os k fun g=>Xa z.1 (K (a=⟨g.1,a.off,none⟩∧Bb ((g.2.1.drop a.off).take z.2) z.2) (.agg ((g.2.1.drop a.off).take z.2).toArray) sc is) (Es g.2.1 a.off fun v=>K (a=⟨g.1,a.off,none⟩) v sc is))
 ∧ (∀P l is os pr T ps sc K,Ak P l is os pr (.build T (ii ps)) sc K=vR (vP P T) fun z=>blV l z.1 ps z.2 True fun q cs=>K q (.agg cs.toArray) sc is)
 ∧ (∀l pl cs q f,blV l pl [] cs q f=f q cs)∧(∀l pl i x ps cs q f,blV l pl ((i,x)::ps) cs q f=Rb pl i fun z=>vnX z.2 (blV l pl ps (over cs z.1 (ev l x).cells.toList) (Bb (ev l x).cells.toList z.2∧Bb ((cs.drop z.1).take z.2) z.2∧q) f))
 ∧ (∀x l f,Rb (x::l) 0 f=f x)∧(∀x l n f,Rb (x::l) (n+1) f=Rb l n f)
 ∧ (∀P l is os T x sc K,Ak P l is os false (.box T x) sc K=∀g,K True (.pointer (some ⟨g,0,none⟩)) sc (bI g (ev l x).cells.toList T::is))
 ∧ (∀P l is os T sc K,Ak P l is os false (.alloc T) sc K=vR (Et P T) fun z=>∀g,K True (.pointer (some ⟨g,0,none⟩)) sc (bI g z T::is))
 ∧ (∀P l is T x y k sc K,stV P l is false (.store T x y) (k::sc) K=vR (qK P T) fun z=>vnX z.2 (Yh (ev l x) fun a=>atM is k fun g=>K (a=⟨g.1,a.off,none⟩∧Bb ((g.2.1.drop a.off).take z.2) z.2∧Bb (ev l y).cells.toList z.2∧Qz (ev l y).cells.toList) undef sc (is.set k (bI g.1 (over g.2.1 a.off (ev l y).cells.toList) g.2.2))))
 ∧ (∀P l is os pr T x y sc K,Ak P l is os pr (.indexAddr T x y) sc K=vR (ixP P T) fun z=>vvX z.1 (ev l x) fun a n=>oO (ev l y) fun _ m=>K (0≤m∧m<n) (.pointer (some (a.add (m.toNat*z.2)))) sc is)
 ∧ (∀n v f,vvX (some n) v f=Yh v fun a=>f a n)∧(∀v f,vvX none v f=vvS v fun A n _=>vR A fun a=>f a n)
 ∧ (∀bs i is,nI (true::bs) (i::is)=i::nI bs is)∧(∀bs i is,nI (false::bs) (i::is)=nI bs is)∧(∀is,nI [] is=[])
 ∧ (∀i is os f,atB (i::is) os 0 f=vR i.bk f)∧(∀i is os k f,atB (i::is) os (k+1) f=atB is os k f)∧(∀os k f,atB [] os k f=atO os k f)∧(∀x os f,atO (x::os) 0 f=f x)∧(∀x os k f,atO (x::os) (k+1) f=atO os k f)
 ∧ (∀i is f,atM (i::is) 0 f=vR i.bk f)∧(∀i is k f,atM (i::is) (k+1) f=atM is k f)∧(∀g cs t,(bI g cs t).bk=some (g,cs,t))
 ∧ (∀x l n,Bb (x::l) (n+1)=Bb l n)∧(Bb [] 0=True)∧(∀v l,Qz (v::l)=(v.oneCell'=true∧Qz l))∧(Qz []=True)
 ∧ (∀g n,(⟨g,0,none⟩:Addr).add n=⟨g,n,none⟩)∧(∀g o n,(⟨g,o,none⟩:Addr).add n=⟨g,o+n,none⟩)
 ∧ (∀cs o us,over cs o us=cs.take o++us++cs.drop (o+us.length))
 ∧ (∀cs,(Value.agg (ii cs)).cells.toList=cs)∧(∀k n,(la k n).cells.toList=[.int k n])∧(∀b,(bf b).cells.toList=[.bool b])∧(∀b,(Value.string b).cells.toList=[.string b])∧(∀a,(Value.pointer a).cells.toList=[.pointer a])∧(∀a n c,(Value.slice a n c).cells.toList=[.slice a n c])∧(∀a,(Value.map a).cells.toList=[.map a])∧(∀a b c,(Value.func a b c).cells.toList=[.func a b c])
 ∧ (∀k n,(la k n).oneCell'=true)∧(∀b,(bf b).oneCell'=true)∧(∀b,(Value.string b).oneCell'=true)∧(∀a,(Value.pointer a).oneCell'=true)∧(∀a n c,(Value.slice a n c).oneCell'=true)∧(∀a,(Value.map a).oneCell'=true)∧(∀a b c,(Value.func a b c).oneCell'=true)
 ∧ (∀{α:Type} (x:α) (xs:List α) (n:Nat),(x::xs).take (n+1)=x::xs.take n)∧(∀{α:Type} (xs:List α),xs.take 0=[])∧(∀{α:Type} (x:α) (xs:List α) (n:Nat),(x::xs).drop (n+1)=xs.drop n)∧(∀{α:Type} (xs:List α),xs.drop 0=xs)∧(∀{α:Type} (n:Nat),([]:List α).drop n=[])∧(∀{α:Type} (x:α) (xs ys:List α),(x::xs)++ys=x::(xs++ys))∧(∀{α:Type} (ys:List α),[]++ys=ys)∧(∀{α:Type} (ys:List α),ys++[]=ys)∧(∀{α:Type} (x:α) (xs:List α),(x::xs).length=xs.length+1)∧(∀{α:Type},([]:List α).length=0)
 ∧ (∀p:P3,(pt p).cells.toList=[.int .i64 p.x,.int .i64 p.y,.int .i64 p.z])∧(∀p f,Yi (pt p) f=f [.int .i64 p.x,.int .i64 p.y,.int .i64 p.z])
 ∧ (∀t:T3,(tr t).cells.toList=[.int .i64 t.a.x,.int .i64 t.a.y,.int .i64 t.a.z,.int .i64 t.b.x,.int .i64 t.b.y,.int .i64 t.b.z,.int .i64 t.c.x,.int .i64 t.c.y,.int .i64 t.c.z])∧(∀t f,Yi (tr t) f=f [.int .i64 t.a.x,.int .i64 t.a.y,.int .i64 t.a.z,.int .i64 t.b.x,.int .i64 t.b.y,.int .i64 t.b.z,.int .i64 t.c.x,.int .i64 t.c.y,.int .i64 t.c.z])
 ∧ (∀v:P3,(wv v).cells.toList=[.bool (fC v.x),.string (jL v.x),.bool (fC v.y),.string (jL v.y),.bool (fC v.z),.string (jL v.z)])∧(∀v f,Yi (wv v) f=f [.bool (fC v.x),.string (jL v.x),.bool (fC v.y),.string (jL v.y),.bool (fC v.z),.string (jL v.z)])
 ∧ (∀v:P3,(nv v).cells.toList=[.int .i64 v.x,.int .i64 v.y,.int .i64 v.z])∧(∀v f,Yi (nv v) f=f [.int .i64 v.x,.int .i64 v.y,.int .i64 v.z])
 ∧ (∀v:P3,(sg v).cells.toList=[.int .i64 (bG v.x),.int .i64 (bG v.y),.int .i64 (bG v.z)])∧(∀v f,Yi (sg v) f=f [.int .i64 (bG v.x),.int .i64 (bG v.y),.int .i64 (bG v.z)])
 ∧ (∀e:E3,(ed e).cells.toList=[.int .i64 e.1.x,.int .i64 e.1.y,.int .i64 e.1.z,.int .i64 e.2.x,.int .i64 e.2.y,.int .i64 e.2.z])∧(∀e f,Yi (ed e) f=f [.int .i64 e.1.x,.int .i64 e.1.y,.int .i64 e.1.z,.int .i64 e.2.x,.int .i64 e.2.y,.int .i64 e.2.z])
 ∧ (∀p,oN p=[.int .i64 p.x,.int .i64 p.y,.int .i64 p.z])∧(∀p,dN p=[.int .i64 p.x,.int .i64 p.y,.int .i64 p.z])∧(∀e,cM e=[.int .i64 e.1.x,.int .i64 e.1.y,.int .i64 e.1.z,.int .i64 e.2.x,.int .i64 e.2.y,.int .i64 e.2.z])∧(∀n,wC n=[.bool (fC n),.string (jL n)])
 ∧ (∀n,(W n).cells.toList=[.bool (fC n),.string (jL n)])∧(∀n f,Yi (W n) f=f [.bool (fC n),.string (jL n)])
 ∧ (∀q:Rat,(Q q).cells.toList=[.bool (fC q.num),.string (jL q.num),.bool (fC (q.den:Int)),.string (jL (q.den:Int))])∧(∀q f,Yi (Q q) f=f [.bool (fC q.num),.string (jL q.num),.bool (fC (q.den:Int)),.string (jL (q.den:Int))]):=by
 repeat' apply And.intro
 all_goals intros
 all_goals first | rfl | exact anY | exact true_and _ | exact and_true _ | exact kp0 | exact kp1 | exact List.drop_nil | exact e_ _ | exact (dT ..).trans (by rw[aq]) | exact dT ..
def yW:List Oper→Nat→(Oper→Prop)→Prop
 | o::_,0,f=>f o
 | _::r,n+1,f=>yW r n f
 | [],_,_=>False
def xD:List (List Nat)→Nat→(List Nat→Prop)→Prop
 | s::_,0,f=>f s
 | _::r,n+1,f=>xD r n f
 | [],_,f=>f []
theorem sL:∀{ss:List (List Nat)} {i:Nat} {f:List Nat→Prop},xD ss i f→∃s,f s
 | s::_,0,_,h=>⟨s,h⟩
 | _::r,n+1,_,h=>sL (ss:=r) h
 | [],_,_,h=>⟨[],h⟩
def Oy(op:Op)(bs:List Bool):List Bool:=match op with
 | .box _ _ | .alloc _=>false::bs
 | _=>bs
def Kl:List Bool→Nat→Prop→Prop
 | false::_,0,p=>p
 | _::bs,n+1,p=>Kl bs n p
 | _,_,_=>False
def tkV(P:bc)(ops:Array Oper)(l:List ac)(hs:List It)(o:Oper)(sc:List Nat)(q:Prop)(K:List Nat→Prop→List ac→Prop):Prop:=match o with
 | ⟨some d,op,_,_,_,g⟩=>Jw ops l g (Ak P l hs [] true op sc fun vc v sc _=>K sc (vc∧q) (l.set d v)) (K sc q (l.set d undef))
 | _=>False
def onV(P:bc)(ops:Array Oper)(l:List ac)(is:List It)(bs:List Bool)(o:Oper)(sc:List Nat)(q:Prop)(K:List Nat→Prop→List ac→List It→List Bool→Prop):Prop:=match o with
 | ⟨some d,op,_,_,_,g⟩=>Jw ops l g (Ak P l is [] false op sc fun vc v sc is'=>K sc (vc∧q) (l.set d v) is' (Oy op bs)) (K sc q (l.set d undef) is bs)
 | ⟨none,op,_,_,_,g⟩=>Jw ops l g (Kl bs (sc.headD 0) (stV P l is false op sc fun vc _ sc is'=>K sc (vc∧q) l is' bs)) (K sc q l is bs)
def VT(P:bc)(ops:Array Oper)(hs:List It)(ss:List (List Nat))(K:List ac→List It→Prop):nW→Prop→List ac→List It→List Bool→Prop
 | .nil,q,l,is,_=>q∧K l is
 | .take i t,q,l,is,bs=>yW ops.toList i fun o=>xD ss i fun sc=>tkV P ops l hs o sc q fun _ q l=>VT P ops hs ss K t q l is bs
 | .one i t,q,l,is,bs=>yW ops.toList i fun o=>xD ss i fun sc=>onV P ops l is bs o sc q fun _ q l is bs=>VT P ops hs ss K t q l is bs
 | .two i t j u,q,l,is,bs=>(yW ops.toList i fun o=>xD ss i fun sc=>onV P ops l is bs o sc q fun _ q l is bs=>VT P ops hs ss K t q l is bs)∧yW ops.toList j fun o=>xD ss j fun sc=>onV P ops l is bs o sc q fun _ q l is bs=>VT P ops hs ss K u q l is bs
 | .three i t j u k v,q,l,is,bs=>(yW ops.toList i fun o=>xD ss i fun sc=>onV P ops l is bs o sc q fun _ q l is bs=>VT P ops hs ss K t q l is bs)∧(yW ops.toList j fun o=>xD ss j fun sc=>onV P ops l is bs o sc q fun _ q l is bs=>VT P ops hs ss K u q l is bs)∧yW ops.toList k fun o=>xD ss k fun sc=>onV P ops l is bs o sc q fun _ q l is bs=>VT P ops hs ss K v q l is bs
theorem sM:∀{ops:List Oper} {i:Nat} {f:Oper→Prop},yW ops i f→∃o,ops[i]? = some o∧f o
 | o::_,0,_,h=>⟨o,rfl,h⟩
 | _::r,n+1,_,h=>by rw[gt];exact sM (ops:=r) h
theorem Ry:∀{bs:List Bool} {k:Nat} {p:Prop},Kl bs k p→bs[k]? = some false∧p
 | false::_,0,_,h=>⟨rfl,h⟩
 | true::_,0,_,h=>h.elim
 | false::bs,n+1,_,h=>by rw[gt];exact Ry (bs:=bs) h
 | true::bs,n+1,_,h=>by rw[gt];exact Ry (bs:=bs) h
 | [],0,_,h=>h.elim
 | [],_+1,_,h=>h.elim
theorem Km:∀{bs:List Bool} {is:List It} {k:Nat} {i:It},bs[k]? = some false→nI bs (is.set k i)=nI bs is
 | false::bs,_::is,0,_,_=>rfl
 | true::bs,_::is,0,_,h=>by cases h
 | true::bs,j::is,k+1,i,h=>by
  rw[eu];show j::nI bs (is.set k i)=j::nI bs is
  rw[Km (by simpa using h)]
 | false::bs,j::is,k+1,i,h=>by
  rw[eu];show nI bs (is.set k i)=nI bs is
  exact Km (by simpa using h)
 | _,[],k,i,_=>by rw[List.set_nil]
 | [],_::_,_,_,h=>by cases h
section
variable {P:bc} {w0:ah} {ds:List cg} {ops:Array Oper} {hs:List It} {K:List ac→List It→Prop} {Q:Exit→Act→ah→Prop}
theorem ale{n m:Nat}{p:Prop}(h:n=m+1)(hp:p):vnX n p:=by subst h;exact hp
theorem alf{l:List ac}{is:List It}{op:Op}{sc:List Nat}{K:KV}(h:stV P l is false op sc K):∃i',stV P l is false op sc (fun vc v sc' is'=>is'=is.set (sc.headD 0) i'∧K vc v sc' is'):=by
 unfold stV at h ⊢;split at h
 · rename_i T x y k sc
   obtain⟨z,hz,h⟩:=mG (show vR _ _ from h);obtain⟨n,hn,h⟩:=Rc h;obtain⟨a,hx,h⟩:=Eu h;obtain⟨i,g,hi,hb,h⟩:=Yj h;refine⟨bI g.1 (over g.2.1 a.off (ev l y).cells.toList) g.2.2,?_⟩;refine (show vR (qK P T) _ from ?_);rw[hz];refine (show vnX z.2 _ from ale hn ?_);rw[hx];refine (show atM is k _ from ?_);have key:∀{is:List It} {k:Nat} {f:Ob→Prop},is[k]? = some i→f g→atM is k f:=by
    intro is
    induction is with
    | nil=>intro k f h;cases h
    | cons j is ih =>
     intro k f h hf;cases k with
     | zero=>cases h;show vR i.bk f;rw[hb];exact hf
     | succ k=>exact ih (by simpa using h) hf
   exact key hi ⟨rfl,h⟩
 · exact h.elim
theorem alg{l:List ac}{is:List It}{os:List Ob}{op:Op}{sc:List Nat}{K:KV}(h:Ak P l is os false op sc K):(∃cs T,(∀g,K True (.pointer (some ⟨g,0,none⟩)) sc (bI g cs T::is))∧Bx P l is w0 ds op cs T∧∀bs,Oy op bs=false::bs)∨(Ak P l is os true op sc K∧∀bs,Oy op bs=bs):=by
 cases op
 case box T x=>exact .inl ⟨_,_,h,fun d ty pos af ops Q rest w m hk=>ac7 (by simp) fun u g e hg hB=>hk g u e (m.newB e hg hB),fun _=>rfl⟩
 case alloc T =>
  obtain⟨cs,hz,h⟩:=mG (show vR _ _ from h);obtain⟨z,h1,h2⟩:=Ra hz;exact .inl ⟨_,_,h,fun d ty pos af ops Q rest w m hk=>xW h1 h2 fun u g e hg hB=>hk g u e (m.newB e hg hB),fun _=>rfl⟩
 case unOp u T x=>cases u <;> exact .inr ⟨h,fun _=>rfl⟩
 all_goals exact .inr ⟨h,fun _=>rfl⟩
theorem Fa{l:List ac}{is:List It}{bs:List Bool}{o:Oper}{i:Nat}{t:nW}{sc:List Nat}{q:Prop}{G:List Nat→Prop→List ac→List It→List Bool→Prop}(hsel:nI bs is=hs)(ho:ops.toList[i]? = some o)(h:onV P ops l is bs o sc q G)
 (ih:∀sc q l is bs,nI bs is=hs→G sc q l is bs→q∧∀w,Mem w0 w is→bX P ops (fun u=>Mem w0 u hs) Q t (Fr l ds) w) :
 q∧∀w,Mem w0 w is→ao P ops (Exit.then (fun a w=>Mem w0 w hs∧bX P ops (fun u=>Mem w0 u hs) Q t a w) Q) [(ops[i]?).getD default] (Fr l ds) w:=by
 have ho':(ops[i]?).getD default=o:=by
  rw[←et,ho];rfl
 rw[ho'];have stay:∀{bs':List Bool} {is':List It} {w:ah},nI bs' is'=hs→Mem w0 w is'→Mem w0 w hs:=fun e m=>e▸m.sel _;obtain⟨d,op,ty,pos,af,g⟩:=o;cases d with
 | some d =>
  rcases Ev (show Jw _ _ _ _ _ from h) with ⟨h,hw⟩ | ⟨h,hw⟩
  · rcases alg (w0:=w0) (ds:=ds) h with ⟨cs,T,h,hb,hn⟩ | ⟨h,hn⟩
    · rw[hn] at h
      have e:∀g,nI (false::bs) (bI g cs T::is)=hs:=fun _=>hsel;exact⟨(ih _ _ _ _ _ (e 0) (h 0)).1.2,fun w m=>mR (hw _ _ _ _ _) (hb d ty pos af ops _ [] w m fun g u _ mu=>aL ⟨stay (e g) mu,(ih _ _ _ _ _ (e g) (h g)).2 u mu⟩)⟩
    · rcases Rf (ds:=ds) Un h with ⟨vc,v,sc',h,hy⟩ | ⟨e,_⟩
      · rw[hn] at h
        obtain⟨⟨hv,hq⟩,hk⟩:=ih _ _ _ _ _ hsel h;exact⟨hq,fun w m=>mR (hw _ _ _ _ _) (eQ (hy hv w m ty) (aL ⟨stay hsel m,hk w m⟩))⟩
      · cases e
  · obtain⟨hq,hk⟩:=ih _ _ _ _ _ hsel h
    exact⟨hq,fun w m=>sD (hw _ _ _ _ _) (by rw[gE];exact aL ⟨stay hsel m,hk w m⟩)⟩
 | none =>
  rcases Ev (show Jw _ _ _ _ _ from h) with ⟨h,hw⟩ | ⟨h,hw⟩
  · obtain⟨hb,h⟩:=Ry h
    obtain⟨i',h⟩:=alf h;obtain⟨_,vc,sc',is',⟨rfl,h⟩,hy⟩:=ad8 (w0:=w0) (ds:=ds) h;have e:=(Km (i:=i') (is:=is) hb).trans hsel;obtain⟨⟨hv,hq⟩,hk⟩:=ih _ _ _ _ _ e h;exact⟨hq,fun w m=>mR (hw _ _ _ _ _) (hy hv ty pos af ops _ [] w m fun u mu=>aL ⟨stay e mu,hk u mu⟩)⟩
  · obtain⟨hq,hk⟩:=ih _ _ _ _ _ hsel h
    exact⟨hq,fun w m=>sD (hw _ _ _ _ _) (aL ⟨stay hsel m,hk w m⟩)⟩
theorem De{ss:List (List Nat)}(hK:∀l is,K l is→∀w,Mem w0 w is→Q .normal (Fr l ds) w):∀(t:nW) (q:Prop) (l:List ac) (is:List It) (bs:List Bool),nI bs is=hs→VT P ops hs ss K t q l is bs→q∧∀w,Mem w0 w is→bX P ops (fun u=>Mem w0 u hs) Q t (Fr l ds) w
 | .nil,q,l,is,bs,_,h=>⟨h.1,fun w m=>hK _ _ h.2 w m⟩
 | .take i t,q,l,is,bs,hsel,h=>by
  obtain⟨⟨d,op,ty,pos,af,g⟩,ho,h⟩:=sM h;obtain⟨sc,h⟩:=sL h;have ho':(ops[i]?).getD default=⟨d,op,ty,pos,af,g⟩:=by
   rw[←et,ho];rfl
  cases d with
  | none=>exact h.elim
  | some d =>
   rcases Ev (show Jw _ _ _ _ _ from h) with ⟨h,hw⟩ | ⟨h,hw⟩
   · rcases Rf (w0:=w0) (ds:=ds) Un h with ⟨vc,v,sc',h,hy⟩ | ⟨e,_⟩
     · obtain⟨⟨hv,hq⟩,hk⟩:=De hK t _ _ _ _ hsel h
       refine⟨hq,fun w m=>dO ho' ?_⟩;refine⟨v,.inl ⟨hw _ _ _ _ _,fun u mu=>hy hv u mu ty _ rfl rfl⟩,?_⟩;show bX P ops _ Q t ((Fr l ds).put (some d) v) w
       rw[gE];exact hk w m
     · cases e
   · obtain⟨hq,hk⟩:=De hK t _ _ _ _ hsel h
     refine⟨hq,fun w m=>dO ho' ?_⟩;refine⟨undef,.inr ⟨hw _ _ _ _ _,rfl⟩,?_⟩;show bX P ops _ Q t ((Fr l ds).put (some d) undef) w
     rw[gE];exact hk w m
 | .one i t,q,l,is,bs,hsel,h=>by
  obtain⟨o,ho,h⟩:=sM h;obtain⟨sc,h⟩:=sL h;exact Fa hsel ho h fun sc q l is bs e h=>De hK t q l is bs e h
 | .two i t j u,q,l,is,bs,hsel,h=>by
  obtain⟨h1,h2⟩:=h;obtain⟨o,ho,h1⟩:=sM h1;obtain⟨_,h1⟩:=sL h1;obtain⟨o2,ho2,h2⟩:=sM h2;obtain⟨_,h2⟩:=sL h2;have r1:=Fa (Q:=Q) (t:=t) hsel ho h1 fun sc q l is bs e h=>De hK t q l is bs e h;have r2:=Fa (Q:=Q) (t:=u) hsel ho2 h2 fun sc q l is bs e h=>De hK u q l is bs e h;exact⟨r1.1,fun w m=>⟨r1.2 w m,r2.2 w m⟩⟩
 | .three i t j u k v,q,l,is,bs,hsel,h=>by
  obtain⟨h1,h2,h3⟩:=h;obtain⟨o,ho,h1⟩:=sM h1;obtain⟨_,h1⟩:=sL h1;obtain⟨o2,ho2,h2⟩:=sM h2;obtain⟨_,h2⟩:=sL h2;obtain⟨o3,ho3,h3⟩:=sM h3;obtain⟨_,h3⟩:=sL h3;have r1:=Fa (Q:=Q) (t:=t) hsel ho h1 fun sc q l is bs e h=>De hK t q l is bs e h;have r2:=Fa (Q:=Q) (t:=u) hsel ho2 h2 fun sc q l is bs e h=>De hK u q l is bs e h;have r3:=Fa (Q:=Q) (t:=v) hsel ho3 h3 fun sc q l is bs e h=>De hK v q l is bs e h;exact⟨r1.1,fun w m=>⟨r1.2 w m,r2.2 w m,r3.2 w m⟩⟩
end
theorem zvt{P:bc}{w0 w:ah}{ds:List cg}{s:List Ko}{R:Exit→Act→ah→Prop}{is:List It}{id:Nat}{l0:List ac}{l:List Oper}(bs:List Bool)(ss:List (List Nat))(t:nW)(m:Mem w0 w is)(hm:P.follows .mixedOrders=true)(hB:(Region.noSelect l.toArray&&t.ok .any l.toArray l.toArray.size (Array.replicate l.toArray.size false))=true)
 (hQ:∀c d v a w,Ct P R s (.panic c) (Act.put a d v) w→Ct P R s (.panic c) a w)
 (h:VT P l.toArray (nI bs is) ss (fun l is=>∀w,Mem w0 w is→Ct P R s .normal (Fz l ds) w) t True l0 is bs):(Code.region id l.toArray true).wp P (Ct P R s) (Fr l0 ds) w :=
 Nv m bs t hm hB hQ fun _ mu=>(De (fun _ _ h=>h) t True l0 is bs rfl h).2 _ mu
theorem dZ{ops i i' f}(h:i=i'):yW ops i f=yW ops i' f:=by rw[h]
theorem eA{ss i i' f}(h:i=i'):xD ss i f=xD ss i' f:=by rw[h]
theorem eB{bs bs' k p}(h:bs=bs'):Kl bs k p=Kl bs' k p:=by rw[h]
theorem gB{P ops l l' hs o sc q K}(h:l=l'):tkV P ops l hs o sc q K=tkV P ops l' hs o sc q K:=by rw[h]
theorem gC{P ops l l' is bs o sc q K}(h:l=l'):onV P ops l is bs o sc q K=onV P ops l' is bs o sc q K:=by rw[h]
theorem jK{P ops hs ss K t q l l' is bs}(h:l=l'):VT P ops hs ss K t q l is bs=VT P ops hs ss K t q l' is bs:=by rw[h]
theorem alh{b:Bool}{bs:List Bool}{n:Nat}{p:Prop}:Kl (b::bs) (n+1) p=Kl bs n p:=by cases b <;> rfl
theorem zzu:(∀o r f,yW (o::r) 0 f=f o)∧(∀o r n f,yW (o::r) (n+1) f=yW r n f)
 ∧ (∀s r f,xD (s::r) 0 f=f s)∧(∀s r n f,xD (s::r) (n+1) f=xD r n f)∧(∀n f,xD [] n f=f [])
 ∧ (∀T x bs,Oy (.box T x) bs=false::bs)∧(∀T bs,Oy (.alloc T) bs=false::bs)∧(∀x bs,Oy (.move x) bs=bs)∧(∀x bs,Oy (.assign x) bs=bs)∧(∀x bs,Oy (.nilCheck x) bs=bs)∧(∀a b c bs,Oy (.pick a b c) bs=bs)∧(∀a b c d e bs,Oy (.binOp a b c d e) bs=bs)∧(∀a b c bs,Oy (.unOp a b c) bs=bs)∧(∀a b c bs,Oy (.convert a b c) bs=bs)∧(∀a b c bs,Oy (.fieldAddr a b c) bs=bs)∧(∀a b c bs,Oy (.field a b c) bs=bs)∧(∀a b c bs,Oy (.indexAddr a b c) bs=bs)∧(∀a b bs,Oy (.build a b) bs=bs)∧(∀a b bs,Oy (.extract a b) bs=bs)∧(∀a b bs,Oy (.load a b) bs=bs)∧(∀a bs,Oy (.call a) bs=bs)
 ∧ (∀bs p,Kl (false::bs) 0 p=p)∧(∀b bs n p,Kl (b::bs) (n+1) p=Kl bs n p)∧(∀(k:Nat) sc,List.headD (k::sc) 0=k)
 ∧ (∀P ops l hs d op ty pos af g sc q K,tkV P ops l hs ⟨some d,op,ty,pos,af,g⟩ sc q K=Jw ops l g (Ak P l hs [] true op sc fun vc v sc _=>K sc (vc∧q) (l.set d v)) (K sc q (l.set d undef)))
 ∧ (∀P ops l is bs d op ty pos af g sc q K,onV P ops l is bs ⟨some d,op,ty,pos,af,g⟩ sc q K=Jw ops l g (Ak P l is [] false op sc fun vc v sc is'=>K sc (vc∧q) (l.set d v) is' (Oy op bs)) (K sc q (l.set d undef) is bs))
 ∧ (∀P ops l is bs op ty pos af g k sc q K,onV P ops l is bs ⟨none,op,ty,pos,af,g⟩ (k::sc) q K=Jw ops l g (Kl bs k (stV P l is false op (k::sc) fun vc _ sc is'=>K sc (vc∧q) l is' bs)) (K (k::sc) q l is bs))
 ∧ (∀P ops hs ss K q l is bs,VT P ops hs ss K .nil q l is bs=(q∧K l is))
 ∧ (∀P ol hs ss K i t q l is bs,VT P (ii ol) hs ss K (.take i t) q l is bs=yW ol i fun o=>xD ss i fun sc=>tkV P ol.toArray l hs o sc q fun _ q l=>VT P ol.toArray hs ss K t q l is bs)
 ∧ (∀P ol hs ss K i t q l is bs,VT P (ii ol) hs ss K (.one i t) q l is bs=yW ol i fun o=>xD ss i fun sc=>onV P ol.toArray l is bs o sc q fun _ q l is bs=>VT P ol.toArray hs ss K t q l is bs)
 ∧ (∀P ol hs ss K i t j u q l is bs,VT P (ii ol) hs ss K (.two i t j u) q l is bs=(VT P ol.toArray hs ss K (.one i t) q l is bs∧VT P ol.toArray hs ss K (.one j u) q l is bs))
 ∧ (∀P ol hs ss K i t j u k v q l is bs,VT P (ii ol) hs ss K (.three i t j u k v) q l is bs=(VT P ol.toArray hs ss K (.one i t) q l is bs∧VT P ol.toArray hs ss K (.one j u) q l is bs∧VT P ol.toArray hs ss K (.one k v) q l is bs))
 ∧ (∀p:Prop,(p∧p)=p)∧(∀p q r:Prop,((p∧r)∧(q∧r))=((p∧q)∧r)):=by
 repeat' apply And.intro
 all_goals intros
 all_goals first | rfl | exact alh | exact and_self _ | exact propext ⟨fun h=>⟨⟨h.1.1,h.2.1⟩,h.1.2⟩,fun h=>⟨⟨h.1.1,h.2⟩,h.1.2,h.2⟩⟩
end Go.Lith
namespace Go.Proofs.YtfekpcimgncioaaGreatDoor
open Go.Proofs.Tryz
open Go.RowKit Go.Lith
set_option maxRecDepth 100000
theorem dR:qK prog 3=some (false,1):=by kernel_rfl
theorem apg:Et prog 3=some [.int .i64 0]:=by kernel_rfl
theorem Hk:ikP prog 3=some .i64:=by kernel_rfl
theorem Yw:qK prog 4=some (false,1):=by kernel_rfl
theorem uS:ikP prog 5=some .u8:=by kernel_rfl
theorem ahr:qK prog 9=some (false,1):=by kernel_rfl
theorem Vd:Cv prog 22=some 3:=by kernel_rfl
theorem aiB:qK prog 23=some (false,1):=by kernel_rfl
theorem aod:ikP prog 23=some .u16:=by kernel_rfl
theorem aoe:qK prog 24=some (true,2):=by kernel_rfl
theorem aiC:ixP prog 24=some (some 2,1):=by kernel_rfl
theorem Oz:qK prog 26=some (false,1):=by kernel_rfl
theorem iS:Cv prog 27=some 39:=by kernel_rfl
theorem aR:qK prog 30=some (true,3):=by kernel_rfl
theorem eU:Et prog 30=some [.int .i64 0,.int .i64 0,.int .i64 0]:=by kernel_rfl
theorem iZ:lQ prog 30 0=some (0,false,1):=by kernel_rfl
theorem jA:lQ prog 30 1=some (1,false,1):=by kernel_rfl
theorem jP:lQ prog 30 2=some (2,false,1):=by kernel_rfl
theorem tQ:vP prog 30=some ([(0,1),(1,1),(2,1)],[.int .i64 0,.int .i64 0,.int .i64 0]):=by kernel_rfl
theorem xE:qK prog 36=some (true,3):=by kernel_rfl
theorem Gr:Et prog 36=some [.int .i64 0,.int .i64 0,.int .i64 0]:=by kernel_rfl
theorem gY:ixP prog 36=some (some 3,1):=by kernel_rfl
theorem tR:vP prog 36=some ([(0,1),(1,1),(2,1)],[.int .i64 0,.int .i64 0,.int .i64 0]):=by kernel_rfl
theorem aiD:qK prog 38=some (true,9):=by kernel_rfl
theorem aof:Et prog 38=some [.int .i64 0,.int .i64 0,.int .i64 0,.int .i64 0,.int .i64 0,.int .i64 0,.int .i64 0,.int .i64 0,.int .i64 0]:=by kernel_rfl
theorem gZ:qK prog 39=some (true,9):=by kernel_rfl
theorem mU:Et prog 39=some [.int .i64 0,.int .i64 0,.int .i64 0,.int .i64 0,.int .i64 0,.int .i64 0,.int .i64 0,.int .i64 0,.int .i64 0]:=by kernel_rfl
theorem dB:ixP prog 39=some (some 3,3):=by kernel_rfl
theorem pS:vP prog 39=some ([(0,3),(3,3),(6,3)],[.int .i64 0,.int .i64 0,.int .i64 0,.int .i64 0,.int .i64 0,.int .i64 0,.int .i64 0,.int .i64 0,.int .i64 0]):=by kernel_rfl
theorem aiE:Cv prog 46=some 55:=by kernel_rfl
theorem Ve:Cv prog 52=some 56:=by kernel_rfl
theorem aog:vP prog 55=some ([(0,3),(3,3)],[.int .i64 0,.int .i64 0,.int .i64 0,.int .i64 0,.int .i64 0,.int .i64 0]):=by kernel_rfl
theorem An:qK prog 56=some (true,6):=by kernel_rfl
theorem Pa:Et prog 56=some [.int .i64 0,.int .i64 0,.int .i64 0,.int .i64 0,.int .i64 0,.int .i64 0]:=by kernel_rfl
theorem Kn:ixP prog 56=some (some 2,3):=by kernel_rfl
theorem Aq:vP prog 56=some ([(0,3),(3,3)],[.int .i64 0,.int .i64 0,.int .i64 0,.int .i64 0,.int .i64 0,.int .i64 0]):=by kernel_rfl
theorem Gs:qK prog 62=some (false,1):=by kernel_rfl
theorem aiF:Cv prog 62=some 4:=by kernel_rfl
theorem kX:Cv prog 65=some 30:=by kernel_rfl
theorem aiG:ixP prog 65=some (none,3):=by kernel_rfl
theorem aaW:qK prog 88=some (false,1):=by kernel_rfl
theorem aoh:Et prog 88=some [.pointer none]:=by kernel_rfl
theorem aaX:qK prog 93=some (false,1):=by kernel_rfl
theorem aoi:Et prog 93=some [.map none]:=by kernel_rfl
theorem iT:qK prog 95=some (true,2):=by kernel_rfl
theorem rT:Et prog 95=some [.bool false,.string ⟨#[]⟩]:=by kernel_rfl
theorem uT:lQ prog 95 0=some (0,false,1):=by kernel_rfl
theorem Hx:lQ prog 95 1=some (1,false,1):=by kernel_rfl
theorem aex:Et prog 97=some [.bool false,.string ⟨#[]⟩,.bool false,.string ⟨#[]⟩,.bool false,.string ⟨#[]⟩,.bool false,.string ⟨#[]⟩,.bool false,.string ⟨#[]⟩,.bool false,.string ⟨#[]⟩,.bool false,.string ⟨#[]⟩,.bool false,.string ⟨#[]⟩,.bool false,.string ⟨#[]⟩,.bool false,.string ⟨#[]⟩]:=by kernel_rfl
theorem Rz:qK prog 100=some (false,1):=by kernel_rfl
theorem ali:Et prog 100=some [.map none]:=by kernel_rfl
theorem alj:Cv prog 105=some 112:=by kernel_rfl
theorem alk:qK prog 106=some (false,1):=by kernel_rfl
theorem alm:qK prog 107=some (false,1):=by kernel_rfl
theorem aey:lQ prog 109 0=some (0,false,1):=by kernel_rfl
theorem Kq:lQ prog 109 1=some (1,false,1):=by kernel_rfl
theorem Kr:lQ prog 109 2=some (2,false,1):=by kernel_rfl
theorem aln:vP prog 109=some ([(0,1),(1,1),(2,1)],[.slice none 0 0,.map none,.map none]):=by kernel_rfl
theorem Yx:qK prog 112=some (true,8):=by kernel_rfl
theorem Yy:Et prog 112=some [.int .i64 0,.int .i64 0,.int .i64 0,.int .i64 0,.int .i64 0,.int .i64 0,.bool false,.string ⟨#[]⟩]:=by kernel_rfl
theorem xF:lQ prog 112 0=some (0,true,3):=by kernel_rfl
theorem rU:lQ prog 112 1=some (3,true,3):=by kernel_rfl
theorem Yz:qK prog 139=some (true,2):=by kernel_rfl
theorem alo:Et prog 139=some [.int .i64 0,.slice none 0 0]:=by kernel_rfl
theorem xG:lQ prog 139 0=some (0,false,1):=by kernel_rfl
theorem pD:lQ prog 139 1=some (1,false,1):=by kernel_rfl
theorem alp:Cv prog 157=some 26:=by kernel_rfl
theorem Fb:ixP prog 157=some (none,1):=by kernel_rfl
theorem alq:Cv prog 212=some 215:=by kernel_rfl
theorem rV:qK prog 215=some (true,6):=by kernel_rfl
theorem xH:Et prog 215=some [.int .i64 0,.int .i64 0,.int .i64 0,.int .i64 0,.int .i64 0,.int .i64 0]:=by kernel_rfl
theorem Ks:lQ prog 215 0=some (0,true,3):=by kernel_rfl
theorem xI:lQ prog 215 1=some (3,true,3):=by kernel_rfl
theorem Fc:vP prog 215=some ([(0,3),(3,3)],[.int .i64 0,.int .i64 0,.int .i64 0,.int .i64 0,.int .i64 0,.int .i64 0]):=by kernel_rfl
theorem aez:lQ prog 218 0=some (0,false,1):=by kernel_rfl
theorem Kt:lQ prog 218 2=some (4,true,3):=by kernel_rfl
theorem Ku:lQ prog 218 3=some (7,false,1):=by kernel_rfl
theorem aeA:lQ prog 218 4=some (8,false,1):=by kernel_rfl
theorem Df:lQ prog 218 5=some (9,false,1):=by kernel_rfl
theorem Kv:lQ prog 218 7=some (11,false,1):=by kernel_rfl
theorem Za:qK prog 222=some (true,6):=by kernel_rfl
theorem Zb:Et prog 222=some [.int .i64 0,.int .i64 0,.int .i64 0,.int .i64 0,.int .i64 0,.int .i64 0]:=by kernel_rfl
theorem iU:lQ prog 222 0=some (0,true,3):=by kernel_rfl
theorem iV:lQ prog 222 1=some (3,true,3):=by kernel_rfl
theorem alr:vP prog 222=some ([(0,3),(3,3)],[.int .i64 0,.int .i64 0,.int .i64 0,.int .i64 0,.int .i64 0,.int .i64 0]):=by kernel_rfl
theorem aeB:qK prog 229=some (true,8):=by kernel_rfl
theorem Zc:Et prog 229=some [.bool false,.string ⟨#[]⟩,.bool false,.string ⟨#[]⟩,.bool false,.string ⟨#[]⟩,.bool false,.string ⟨#[]⟩]:=by kernel_rfl
theorem Fe:ixP prog 229=some (some 4,2):=by kernel_rfl
theorem aeC:vP prog 229=some ([(0,2),(2,2),(4,2),(6,2)],[.bool false,.string ⟨#[]⟩,.bool false,.string ⟨#[]⟩,.bool false,.string ⟨#[]⟩,.bool false,.string ⟨#[]⟩]):=by kernel_rfl
theorem xJ:ikP prog 231=some .u64:=by kernel_rfl
theorem iW:Cv prog 233=some 231:=by kernel_rfl
theorem als:qK prog 243=some (true,3):=by kernel_rfl
theorem alt:Et prog 243=some [.nilFunc,.nilFunc,.nilFunc]:=by kernel_rfl
theorem alu:vP prog 243=some ([(0,1),(1,1),(2,1)],[.nilFunc,.nilFunc,.nilFunc]):=by kernel_rfl
theorem aeD:lQ prog 245 0=some (0,false,1):=by kernel_rfl
theorem aeE:lQ prog 245 1=some (1,false,1):=by kernel_rfl
theorem aeF:lQ prog 245 2=some (2,false,1):=by kernel_rfl
theorem alv:qK prog 257=some (true,6):=by kernel_rfl
theorem aeG:Et prog 257=some [.bool false,.string ⟨#[]⟩,.bool false,.string ⟨#[]⟩,.bool false,.string ⟨#[]⟩]:=by kernel_rfl
theorem Sa:ixP prog 257=some (some 3,2):=by kernel_rfl
theorem nQ:lQ prog 264 0=some (0,true,8):=by kernel_rfl
theorem rW:lQ prog 264 1=some (8,true,24):=by kernel_rfl
theorem alw:vP prog 264=some ([(0,8),(8,24)],[.bool false,.bool false,.bool false,.bool false,.bool false,.bool false,.bool false,.bool false,.int .i64 0,.int .i64 0,.int .i64 0,.int .i64 0,.int .i64 0,.int .i64 0,.int .i64 0,.int .i64 0,.int .i64 0,.int .i64 0,.int .i64 0,.int .i64 0,.int .i64 0,.int .i64 0,.int .i64 0,.int .i64 0,.int .i64 0,.int .i64 0,.int .i64 0,.int .i64 0,.int .i64 0,.int .i64 0,.int .i64 0,.int .i64 0]):=by kernel_rfl
theorem alx:qK prog 266=some (true,24):=by kernel_rfl
theorem aly:Et prog 266=some [.bool false,.bool false,.bool false,.bool false,.bool false,.bool false,.bool false,.bool false,.bool false,.bool false,.bool false,.bool false,.bool false,.bool false,.bool false,.bool false,.bool false,.bool false,.bool false,.bool false,.bool false,.bool false,.bool false,.bool false]:=by kernel_rfl
theorem alz:vP prog 266=some ([(0,1),(1,1),(2,1),(3,1),(4,1),(5,1),(6,1),(7,1),(8,1),(9,1),(10,1),(11,1),(12,1),(13,1),(14,1),(15,1),(16,1),(17,1),(18,1),(19,1),(20,1),(21,1),(22,1),(23,1)],[.bool false,.bool false,.bool false,.bool false,.bool false,.bool false,.bool false,.bool false,.bool false,.bool false,.bool false,.bool false,.bool false,.bool false,.bool false,.bool false,.bool false,.bool false,.bool false,.bool false,.bool false,.bool false,.bool false,.bool false]):=by kernel_rfl
theorem aeH:qK prog 273=some (true,6):=by kernel_rfl
theorem aeI:Et prog 273=some [.bool false,.string ⟨#[]⟩,.bool false,.string ⟨#[]⟩,.bool false,.string ⟨#[]⟩]:=by kernel_rfl
theorem mJ:ixP prog 273=some (some 3,2):=by kernel_rfl
theorem alA:qK prog 280=some (true,18):=by kernel_rfl
theorem alB:Et prog 280=some [.int .i64 0,.int .i64 0,.int .i64 0,.int .i64 0,.int .i64 0,.int .i64 0,.int .i64 0,.int .i64 0,.int .i64 0,.int .i64 0,.int .i64 0,.int .i64 0,.int .i64 0,.int .i64 0,.int .i64 0,.int .i64 0,.int .i64 0,.int .i64 0]:=by kernel_rfl
theorem alC:vP prog 280=some ([(0,6),(6,6),(12,6)],[.int .i64 0,.int .i64 0,.int .i64 0,.int .i64 0,.int .i64 0,.int .i64 0,.int .i64 0,.int .i64 0,.int .i64 0,.int .i64 0,.int .i64 0,.int .i64 0,.int .i64 0,.int .i64 0,.int .i64 0,.int .i64 0,.int .i64 0,.int .i64 0]):=by kernel_rfl
theorem aeJ:qK prog 333=some (true,3):=by kernel_rfl
theorem aeK:Et prog 333=some [.int .i64 0,.int .i64 0,.int .i64 0]:=by kernel_rfl
theorem pL:ixP prog 333=some (some 3,1):=by kernel_rfl
theorem alD:vP prog 333=some ([(0,1),(1,1),(2,1)],[.int .i64 0,.int .i64 0,.int .i64 0]):=by kernel_rfl
end Go.Proofs.YtfekpcimgncioaaGreatDoor
namespace Go.Proofs.YtfekpcimgncioaaGreatDoor
open Go.Proofs.Tryz
open Go.RowKit Go.Lith
set_option maxRecDepth 100000
attribute [local irreducible] ao wpQuiet eZ bE bX Code.wp
attribute [local congr] nO fF fG fH fI fJ jH fK fL fM fN fO fP fQ fR fS fT fU dX dY fV fW fY fZ gA jJ cO cP cA cN fX jI dZ eA eB gB gC jK
theorem qM{p q:P3}:eM prog 38 [pt p,pt q] (.bool (decide (p.Lt q))):=by
 intro w;refine⟨ani,?_⟩;have m:=Mem.refl w
 go_enter func38,ntmps38
 refine eS 15 [1,0,0,0] m ?_;simp only[↓aD,iZ,dR,aa];intro g1 g2;intro u m;refine bC rfl (fun hc1=>?_) (fun hc1=>?_)
 ·
  refine aS 10 [1,0,0] m ?_;simp only[↓aD,iZ,dR,aa];intro u m;refine aQ rfl rfl ?_;try simp only[zD,zE]
  exact⟨_,rfl,m.ext,by simp only[P3.lt_x hc1]⟩
 ·
  have ex:p.x=q.x:=by omega
  refine aS 10 [1,0,0,0] m ?_;simp only[↓aD,jA,dR,aa];intro u m;refine bC rfl (fun hc2=>?_) (fun hc2=>?_)
  ·
   refine aS 10 [1,0,0] m ?_;simp only[↓aD,jA,dR,aa];intro u m;refine aQ rfl rfl ?_;try simp only[zD,zE]
   exact⟨_,rfl,m.ext,by simp only[P3.lt_y ex hc2]⟩
  ·
   have ey:p.y=q.y:=by omega
   refine aS 11 [1,0,0] m ?_;simp only[↓aD,jP,dR,aa];intro u m;refine aQ rfl rfl ?_;try simp only[zD,zE]
   exact⟨_,rfl,m.ext,by simp only[P3.lt_z ex ey]⟩
theorem aeL{a b:E3}:eM prog 78 [ed a,ed b] (.bool (ltE a b)):=by
 intro w;refine⟨anK,?_⟩;have m:=Mem.refl w
 go_enter func78,ntmps78
 refine eS 13 [1,0,0] m ?_;simp only[↓aD,Kn,aR,ab,ad,aa];intro g1 g2;refine⟨by omega,?_⟩;intro u m;refine aB (gL rfl rfl) (aP 1 [0] m ?_);simp only[↓aD];intro u m;refine bC rfl (fun hc1=>?_) (fun hc1=>?_)
 ·
  refine aS 6 [1,0,0] m ?_;simp only[↓aD,Kn,aR,ab,ad,aa];refine⟨by omega,?_⟩;intro u m;refine vJ m rfl rfl (qM (p:=a.1) (q:=b.1)) 3 [] ?_;simp only[↓aD];intro u m;refine aQ rfl rfl ?_;try simp only[zD,zE]
  exact⟨_,rfl,m.ext,by rw[ltE,if_pos (fun h=>hc1 (by rw[h];exact⟨rfl,rfl,rfl⟩))]⟩
 ·
  refine aS 7 [1,0,0] m ?_;simp only[↓aD,Kn,aR,ab,ad,aa];refine⟨by omega,?_⟩;intro u m;refine vJ m rfl rfl (qM (p:=a.2) (q:=b.2)) 3 [] ?_;simp only[↓aD];intro u m;refine aQ rfl rfl ?_;try simp only[zD,zE]
  exact⟨_,rfl,m.ext,by rw[ltE,if_neg (fun h=>h (P3.eq (Classical.not_not.1 hc1).1 (Classical.not_not.1 hc1).2.1 (Classical.not_not.1 hc1).2.2))]⟩
theorem aaY{ts:List T3}{N cap:Nat}{A:Option Addr}(w:ah)(hT:bK w A N ts)(hN:N≤1000000000):dF prog 76 [.slice A N cap] w (SL 56 6 ((bA ts).flatMap cM) (bA ts).length w):=by
 refine⟨anI,?_⟩;have m:=Mem.refl w
 go_enter func76,ntmps76
 refine eS 6 [0] m ?_;simp only[↓aD];intro u m;refine aB aM ?_;replace m:=m.nilO 56 6;refine aP 7 [0] m ?_;simp only[↓aD];intro u m;refine bW [3,4] [5,6,7,8,9,10,11,12,13,14,15,16,17,18,19,20,21,22,23,24,25,26,27,28,29,30,31,32,33] (fun n vs wl=>∃(k:Nat) (A3:Option Addr) (cap3:Nat),vs=[.slice A3 (bA (ts.take k)).length cap3,.int .i64 (k:Int)]∧Mem w wl [oI 56 6 A3 (bA (ts.take k)).length cap3 ((bA (ts.take k)).flatMap cM)]∧(k≤N)∧(n=N-k)) ?_ ?_
 ·
  apply Exists.intro;simp only[zQ,zR,zD,zE];exact⟨0,_,_,rfl,m,cd _,rfl⟩
 ·
  intro n vs wr hI u K1 hK1;clear m;obtain⟨k,A3,cap3,rfl,m,hk,hn⟩:=hI;simp only[zu,zF,zG];refine aS 8 [0,0] m ?_;simp only[↓aD,iS];intro u m;refine bC rfl (fun hc1=>?_) (fun hc1=>?_)
  ·
   obtain⟨t,ht,_,a,rfl,hrow⟩:=hT.get (i:=k) (by omega);refine aS 7 [0] m ?_;simp only[↓aD];intro u m;refine aB (aF bT aN rfl rfl (by omega) (by omega) (cI (ag _))) ?_;simp only[zz];refine aO rfl ((hrow.ext m.ext).lies cF aN) ?_;simp only[zz];refine aP 17 [0,0,0,0,0,0] m ?_;simp only[↓aD,mU,gZ,dB,aR,Aq,aa,ab,ad];intro g1;refine⟨by omega,?_⟩;intro u m;refine cR 3 [0,0] m ?_;simp only[↓aD,dB,aR,Aq,ab,ad,aa];refine⟨by omega,?_⟩;intro u m;refine abX rfl rfl rfl ?_;intro u g2 e hg hB;replace m:=m.newB e hg hB;clear e hg hB;simp only[zz];refine bR m 2 rfl rfl nL wO rfl (by decide) rfl rfl rfl (m.b 0 rfl).rowsO (jM rfl) (by have:=qS (ts.take k);rw[br] at this;omega) (by have:=qS (ts.take k);rw[br] at this;omega) ?_;clear m;intro A3 cap3 u m;simp only[zF,zG] at m;rw[show (bA (ts.take k)).flatMap cM++_=(bA (ts.take (k+1))).flatMap cM by rw[rH ht,av];rfl,show (bA (ts.take k)).length+3=(bA (ts.take (k+1))).length by rw[rH ht,aw];rfl] at m;rw[show (bA (ts.take k)).length+3=(bA (ts.take (k+1))).length by rw[rH ht,aw];rfl];refine aP 8 [0] m ?_;simp only[↓aD];refine⟨by omega,?_⟩;intro u m;refine hK1 (N-(k+1)) _ _ ?_ ?_ ?_
   · omega
   · simp only[zz,zv]
   ·
    simp only[zQ,zR,zD,zE];exact⟨k+1,_,_,rfl,(m.sel [false,false,true]),by omega,rfl⟩
  ·
   have hkN:k=N:=by omega
   rw[hkN,show ts.take N=ts from be (by rw[hT.len];exact ap _)] at m ⊢;refine aS 7 [] m ?_;simp only[↓aD];intro u m;exact aQ rfl rfl (⟨_,rfl,m.ext,⟨_,_,_,rfl,rfl,(m.o 0 rfl)⟩⟩)
theorem Hy{es:List E3}{N cap:Nat}{A:Option Addr}{e:E3}(w:ah)(hL:vH cM 6 w A N es)(hN:N≤1000000000):dF prog 77 [.slice A N cap,ed e] w (fun v _=>v=.int .i64 ((kC es e:Nat):Int)):=by
 refine⟨anJ,?_⟩;have m:=Mem.refl w
 go_enter func77,ntmps77
 refine eS 15 [0] m ?_;simp only[↓aD];intro g1;intro u m;refine bW [5,6] [7,8,9,10,11,12,13,14,15,16,17,18,19,20] (fun n vs wl=>∃(k q:Nat),vs=[.int .i64 (q:Int),.int .i64 (k:Int)]∧Mem w wl [bI g1 (cM e) 56]∧(q=kC (es.take k) e)∧(k≤N)∧(n=N-k)) ?_ ?_
 ·
  apply Exists.intro;simp only[zQ,zR,zD,zE];exact⟨0,0,rfl,m,rfl,cd _,rfl⟩
 ·
  intro n vs wr hI u K1 hK1;clear m;obtain⟨k,q,rfl,m,hq,hk,hn⟩:=hI;subst hq;simp only[zu,zF,zG];refine aS 8 [0,0] m ?_;simp only[↓aD,Ve];intro u m;refine bC rfl (fun hc1=>?_) (fun hc1=>?_)
  ·
   obtain⟨x,hx,a,rfl,hrow⟩:=hL.get (i:=k) (by omega);refine aS 4 [0] m ?_;simp only[↓aD];intro u m;refine mq m aC (by kernel_rfl) (aH aI (aH aI ?_));simp only[zz];refine aH (aF nL iC rfl rfl (by omega) (by omega) (cI (ag _))) ?_;simp only[zz];refine ql rfl (fun u m=>((hrow.ext m.ext).lies Ba iC)) ?_;simp only[zz];refine ql rfl (fun u m=>((m.b 0 rfl).full Ba iC)) ?_;simp only[zz];refine aH (abV rfl rfl) (aY ?_);clear m;intro u m;refine gc ?_;simp only[zz];refine bC rfl (fun hc2=>?_) (fun hc2=>?_)
   ·
    have hxe:x=e:=Prod.ext (P3.eq hc2.1 hc2.2.1 hc2.2.2.1) (P3.eq hc2.2.2.2.1 hc2.2.2.2.2.1 hc2.2.2.2.2.2);have hcl:kC (es.take k) e≤N:=Nat.le_trans ajl (by rw[br];omega);have hs:=Ub (e:=e) hx;rw[if_pos hxe] at hs;refine aS 11 [0] m ?_;simp only[↓aD];refine⟨by omega,?_⟩;intro u m;rw[show ((kC (es.take k) e:Nat):Int)+1=((kC (es.take (k+1)) e:Nat):Int) by rw[hs];rfl];refine hK1 (N-(k+1)) _ _ ?_ ?_ ?_
    · omega
    · simp only[zz,zv]
    ·
     simp only[zQ,zR,zD,zE];exact⟨k+1,kC (es.take (k+1)) e,rfl,m,rfl,by omega,rfl⟩
   ·
    have hs:kC (es.take (k+1)) e=kC (es.take k) e:=(Ub (e:=e) hx).trans (by rw[if_neg (fun h=>hc2 (by rw[h];exact⟨rfl,rfl,rfl,rfl,rfl,rfl⟩))];rfl);refine aS 7 [0] m ?_;simp only[↓aD];refine⟨by omega,?_⟩;intro u m;rw[←hs];refine hK1 (N-(k+1)) _ _ ?_ ?_ ?_
    · omega
    · simp only[zz,zv]
    ·
     simp only[zQ,zR,zD,zE];exact⟨k+1,kC (es.take (k+1)) e,rfl,m,rfl,by omega,rfl⟩
  ·
   have hkN:k=N:=by omega
   rw[hkN,show es.take N=es from be (by rw[hL.len];exact ap _)];refine aS 7 [] m ?_;simp only[↓aD];intro u m;exact aQ rfl rfl (⟨_,rfl,m.ext,rfl⟩)
theorem ahs{ps:List P3}{N cap:Nat}{A:Option Addr}{p:P3}(w:ah)(hL:vH oN 3 w A N ps)(hN:N≤1000000000)(hcap:N≤cap):dF prog 82 [.slice A N cap,pt p] w (fun v w'=>(v=.slice A N cap∧gD ps p=ps)∨SL 30 3 ((gD ps p).flatMap oN) (gD ps p).length w v w'):=by
 refine⟨aaD,?_⟩;have m:=Mem.refl w;obtain rfl:ps.length=N:=hL.len
 go_enter func82,ntmps82
 refine eS 11 [0] m ?_;simp only[↓aD];intro g1;intro u m;refine bW [5] [6,8,9,10,11,12,13,14,15,16,17,18,19,20,21] (fun n vs wl=>∃(k:Nat),vs=[.int .i64 (k:Int)]∧Mem w wl [bI g1 (oN p) 30]∧(Pre (fun x=>decide (x.Lt p)) ps k)∧(k≤ps.length)∧(n=ps.length-k)) ?_ ?_
 ·
  apply Exists.intro;simp only[zQ,zR,zD,zE];exact⟨0,rfl,m,Pre.zero,cd _,rfl⟩
 ·
  intro n vs wr hI u K1 hK1;clear m;obtain⟨k,rfl,m,hpre,hk,hn⟩:=hI;simp only[zu,zF,zG];refine aS 8 [0,0] m ?_;simp only[↓aD,kX];intro u m;refine bC rfl (fun hc1=>?_) (fun hc1=>?_)
  ·
   obtain⟨x,hx,a,rfl,hrow⟩:=hL.get (i:=k) (by omega);refine aS 3 [0] m ?_;simp only[↓aD];intro u m;refine mq m aC (by kernel_rfl) (aH aI (aH aI ?_));simp only[zz];refine aH (aF dS aA rfl rfl (by omega) (by omega) (cI (ag _))) ?_;simp only[zz];refine ql rfl (fun u m=>((hrow.ext m.ext).lies aG aA)) ?_;simp only[zz];refine ql rfl (fun u m=>((m.b 0 rfl).full aG aA)) ?_;simp only[zz];refine iF rfl rfl qM (aH aM (aY ?_));clear m;intro u m;refine cR 6 [0] m ?_;simp only[↓aD];intro u m;refine gR rfl (fun hc2=>?_) (fun hc2=>?_)
   ·
    have hpos:Uc ps p=k:=ais hpre hx (by simpa using hc2);refine aS 3 [0] m ?_;simp only[↓aD];intro u m;refine mq m aC (by kernel_rfl) (eC 7 [1] ?_);simp only[↓aD,kX];refine⟨by omega,?_⟩;refine cH rfl (aH (aF dS aA rfl rfl (by omega) (by omega) (cI (ag _))) (cH rfl ?_));simp only[zz];refine ql rfl (fun u m=>((hrow.ext m.ext).lies aG aA)) ?_;simp only[zz];refine cH rfl (ql rfl (fun u m=>((m.b 0 rfl).full aG aA)) ?_);simp only[zz];refine cH rfl (aH (cG rfl rfl) (aH (pY rfl) (aY ?_)));clear m;intro u m;refine gc ?_;simp only[zz];refine bC rfl (fun hc3=>?_) (fun hc3=>?_)
    ·
     have hxp:x=p:=P3.eq hc3.1 hc3.2.1 hc3.2.2;refine aS 6 [] m ?_;simp only[↓aD];intro u m;refine aQ rfl rfl ?_;try simp only[zD,zE]
     exact⟨_,rfl,m.ext,.inl ⟨rfl,by rw[gD,hpos,hx,if_pos (by rw[hxp])]⟩⟩
    ·
     have hw:gD ps p=ps.take k++[p]++ps.drop k:=by unfold gD;rw[hpos,if_neg (by rw[hx];exact fun h=>hc3 (by cases h;exact⟨rfl,rfl,rfl⟩))]
     refine aS 3 [0] m ?_;simp only[↓aD];intro u m;refine aB aM ?_;replace m:=m.nilO 30 3;refine aP 6 [0] m ?_;simp only[↓aD];intro u m;refine aB (lB dS aA rfl rfl (ag _) (by omega) (by omega)) ?_;simp only[zz];refine bR m 0 rfl rfl dS oD rfl (by decide) rfl rfl (by rw[iQ Hg,br,gl (by omega)]) (((hL.take (by omega)).ext m.ext).cells Hg (by decide)) (Jj _) (by omega) (by omega) ?_;clear m;intro A7 cap7 u m;simp only[zF,zG] at m;rw[bv,aq] at m;rw[aq];refine aP 6 [1,0] m ?_;simp only[↓aD,aR];intro u m;refine mO rfl ?_;intro u g2 e hg hB;replace m:=m.newB e hg hB;clear e hg hB;simp only[zz];refine bR m 1 rfl rfl dS oD rfl (by decide) rfl rfl rfl (m.b 0 rfl).rowsO (jM rfl) (by omega) (by omega) ?_;clear m;intro A7 cap7 u m;simp only[zF,zG] at m;refine aP 7 [0] m ?_;simp only[↓aD];intro u m;refine aB (qO dS aA rfl rfl (ag _) (by omega) (by omega) rfl) ?_;simp only[zz];refine bR m 1 rfl rfl dS oD rfl (by decide) rfl rfl (by rw[iQ Hg,ej]) ((hL.ext m.ext).cellsD Hg (by decide) hcap) (Jj _) (by omega) (by omega) ?_;clear m;intro A7 cap7 u m;simp only[zF,zG] at m;refine aP 3 [] m ?_;simp only[↓aD];intro u m;refine aQ rfl rfl ?_;try simp only[zD,zE]
     exact⟨_,rfl,m.ext,.inr ⟨_,_,_,by rw[hw];simp;omega,rfl,(m.o 1 rfl).as (by rw[hw,av,av];rfl)⟩⟩
   ·
    have hpre2:=hpre.step hx (by simpa using hc2);refine aS 7 [0] m ?_;simp only[↓aD];refine⟨by omega,?_⟩;intro u m;refine hK1 (ps.length-(k+1)) _ _ ?_ ?_ ?_
    · omega
    · simp only[zz,zv]
    ·
     simp only[zQ,zR,zD,zE];exact⟨k+1,rfl,m,hpre2,by omega,rfl⟩
  ·
   obtain rfl:k=ps.length:=by omega
   have hpos:Uc ps p=ps.length:=ady hpre;have hw:gD ps p=ps.take ps.length++[p]++ps.drop ps.length:=by unfold gD;rw[hpos,if_neg (by rw[List.getElem?_eq_none (ap _)];simp)]
   refine aS 3 [0] m ?_;simp only[↓aD];intro u m;refine mq m aC (by kernel_rfl) (eC 12 [2] ?_);simp only[↓aD,kX];refine⟨by omega,?_⟩;refine aY ?_;clear m;intro u m;refine cR 4 [0] m ?_;simp only[↓aD];intro u m;refine aB aM ?_;replace m:=m.nilO 30 3;refine aP 6 [0] m ?_;simp only[↓aD];intro u m;refine aB (lB dS aA rfl rfl (ag _) (by omega) (by omega)) ?_;simp only[zz];refine bR m 0 rfl rfl dS oD rfl (by decide) rfl rfl (by rw[iQ Hg,br,gl (by omega)]) (((hL.take (by omega)).ext m.ext).cells Hg (by decide)) (Jj _) (by omega) (by omega) ?_;clear m;intro A7 cap7 u m;simp only[zF,zG] at m;rw[bv,aq] at m;rw[aq];refine aP 6 [1,0] m ?_;simp only[↓aD,aR];intro u m;refine mO rfl ?_;intro u g2 e hg hB;replace m:=m.newB e hg hB;clear e hg hB;simp only[zz];refine bR m 1 rfl rfl dS oD rfl (by decide) rfl rfl rfl (m.b 0 rfl).rowsO (jM rfl) (by omega) (by omega) ?_;clear m;intro A7 cap7 u m;simp only[zF,zG] at m;refine aP 7 [0] m ?_;simp only[↓aD];intro u m;refine aB (qO dS aA rfl rfl (ag _) (by omega) (by omega) rfl) ?_;simp only[zz];refine bR m 1 rfl rfl dS oD rfl (by decide) rfl rfl (by rw[iQ Hg,ej]) ((hL.ext m.ext).cellsD Hg (by decide) hcap) (Jj _) (by omega) (by omega) ?_;clear m;intro A7 cap7 u m;simp only[zF,zG] at m;refine aP 3 [] m ?_;simp only[↓aD];intro u m;refine aQ rfl rfl ?_;try simp only[zD,zE]
   exact⟨_,rfl,m.ext,.inr ⟨_,_,_,by rw[hw];simp,rfl,(m.o 1 rfl).as (by rw[hw,av,av];rfl)⟩⟩
theorem Zd{w0 w:ah}{is:List It}{A:Option Addr}{n cap:Nat}{ps:List P3}{p:P3}(m:Mem w0 w is)(k:Nat)(hi:is[k]? = some (oI 30 3 A n cap (ps.flatMap oN)))(hN:n≤1000000000) :
 Calls prog 82 [.slice A n cap,pt p].toArray w fun e w'=>∃v i,e=.returned v∧Mem w0 w' (is.set k i)∧∃A' cap' n',n'=(gD ps p).length∧v=.slice A' n' cap'∧i=oI 30 3 A' n' cap' ((gD ps p).flatMap oN):=by
 have hO:=m.o k hi;refine (ahs (p:=p) w (hO.lat Hg (by decide)) hN hO.le).2.mono ?_;rintro e w' ⟨v,rfl,hE,h⟩;rcases h with ⟨rfl,h⟩ | ⟨A',cap',n',rfl,rfl,hN'⟩
 · exact⟨_,oI 30 3 A n cap (ps.flatMap oN),rfl,by rw[ajm hi];exact m.ext' hE,A,cap,n,by rw[h];exact (hO.num Hg (by decide)).symm,rfl,by rw[h]⟩
 · exact⟨_,_,rfl,(m.newO hE hN').mv k hi,_,_,_,rfl,rfl,rfl⟩
theorem acd{ts:List T3}{N cap:Nat}{A:Option Addr}(w:ah)(hT:bK w A N ts)(hN:N≤100000000):dF prog 36 [.slice A N cap] w (SL 30 3 ((dJ ts).flatMap oN) (dJ ts).length w):=by
 refine⟨anh,?_⟩;have m:=Mem.refl w
 go_enter func36,ntmps36
 refine eS 6 [0] m ?_;simp only[↓aD];intro u m;refine aB aM ?_;replace m:=m.nilO 30 3;refine aP 7 [0] m ?_;simp only[↓aD];intro u m;refine bW [3,4] [5,6,7,8,9,10,11,12,13,14,15,16,17,18,19,20,21,22,23] (fun n vs wl=>∃(k n3:Nat) (A3:Option Addr) (cap3:Nat),vs=[.slice A3 n3 cap3,.int .i64 (k:Int)]∧Mem w wl [oI 30 3 A3 n3 cap3 ((dJ (ts.take k)).flatMap oN)]∧(n3=(dJ (ts.take k)).length)∧(k≤N)∧(n=N-k)) ?_ ?_
 ·
  apply Exists.intro;simp only[zQ,zR,zD,zE];exact⟨0,0,_,_,rfl,m,rfl,cd _,rfl⟩
 ·
  intro n vs wr hI u K1 hK1;clear m;obtain⟨k,n3,A3,cap3,rfl,m,hn3,hk,hn⟩:=hI;simp only[zu,zF,zG];refine aS 8 [0,0] m ?_;simp only[↓aD,iS];intro u m;refine bC rfl (fun hc1=>?_) (fun hc1=>?_)
  ·
   obtain⟨t,ht,_,a,rfl,hrow⟩:=hT.get (i:=k) (by omega);have hb0:=Gc (ts.take k);have hb1:=tJ (dJ (ts.take k)) t.a;have hb2:=tJ (gD (dJ (ts.take k)) t.a) t.b;rw[br] at hb0;refine aS 25 [4,1,0] m ?_;simp only[↓aD];refine⟨by omega,?_⟩;intro u m;refine aB (aF bT aN rfl rfl (by omega) (by omega) (cI (ag _))) (aP 1 [0] m ?_);simp only[↓aD,dB,ab,ad,aa];refine⟨by omega,?_⟩;intro u m;refine aO rfl ((nV.cor (hrow.ext m.ext) (c:=0) (by decide)).lies aG aA) ?_;simp only[zz];refine kP m 0 aaD rfl rfl (fun m=>Zd (p:=t.a) m 0 rfl (by omega)) ?_;clear m;rintro v i u m ⟨A3,cap3,n3,hn3,rfl,rfl⟩;simp only[zF,zG] at m;refine aP 24 [1,0] m ?_;simp only[↓aD,ai];refine⟨by omega,?_⟩;intro u m;refine aB (aF bT aN rfl rfl (by omega) (by omega) (cI (ag _))) (aP 1 [0] m ?_);simp only[↓aD,dB,ab,ad,aa];refine⟨by omega,?_⟩;intro u m;refine aO rfl ((nV.cor (hrow.ext m.ext) (c:=1) (by decide)).lies aG aA) ?_;simp only[zz];refine kP m 0 aaD rfl rfl (fun m=>Zd (p:=t.b) m 0 rfl (by omega)) ?_;clear m;rintro v i u m ⟨A3,cap3,n3,hn3,rfl,rfl⟩;simp only[zF,zG] at m;refine aP 24 [1,0] m ?_;simp only[↓aD,ai];refine⟨by omega,?_⟩;intro u m;refine aB (aF bT aN rfl rfl (by omega) (by omega) (cI (ag _))) (aP 1 [0] m ?_);simp only[↓aD,dB,ab,ad,aa];refine⟨by omega,?_⟩;intro u m;refine aO rfl ((nV.cor (hrow.ext m.ext) (c:=2) (by decide)).lies aG aA) ?_;simp only[zz];refine kP m 0 aaD rfl rfl (fun m=>Zd (p:=t.c) m 0 rfl (by omega)) ?_;clear m;rintro v i u m ⟨A3,cap3,n3,hn3,rfl,rfl⟩;simp only[zF,zG] at m;refine aP 23 [2,0] m ?_;simp only[↓aD,ai];refine⟨by omega,?_⟩;intro u m;refine hK1 (N-(k+1)) _ _ ?_ ?_ ?_
   · omega
   · simp only[zz,zv]
   ·
    simp only[zQ,zR,zD,zE];exact⟨k+1,_,_,_,rfl,(m.reO 0 rfl ((m.o 0 rfl).as (by rw[Cm ht]))),by rw[Cm ht];exact hn3,by omega,rfl⟩
  ·
   have hkN:k=N:=by omega
   rw[hkN,show ts.take N=ts from be (by rw[hT.len];exact ap _)] at m hn3;refine aS 7 [] m ?_;simp only[↓aD];intro u m;exact aQ rfl rfl (⟨_,rfl,m.ext,⟨_,_,_,hn3,rfl,(m.o 0 rfl)⟩⟩)
theorem aeM{ts:List T3}{N cap:Nat}{A:Option Addr}{p q:P3}(w:ah)(hT:vH aK 9 w A N ts)(hN:N≤1000000000):dF prog 201 [.slice A N cap,pt p,pt q] w (fun v _=>v=.tuple #[pt ((bP ts p q).getD p),.bool (bP ts p q).isSome]):=by
 refine⟨akd,?_⟩;have m:=Mem.refl w
 go_enter func201,ntmps201
 refine eS 13 [0] m ?_;simp only[↓aD,eU];intro g1 g2 g3;intro u m;refine bW [8] [7,9,10,11,12,13,14,15,16,17,18,19,20,21,22,23,24,25,26,27,28,29,30,31,32,33,34,35,36,37,38,39,40,41,42,43,44,45,46,47] (fun n vs wl=>∃(k:Nat),vs=[.int .i64 (k:Int)]∧Mem w wl [bI g3 [.int .i64 0,.int .i64 0,.int .i64 0] 30,bI g2 (oN q) 30,bI g1 (oN p) 30]∧(bP (ts.take k) p q=none)∧(k≤N)∧(n=N-k)) ?_ ?_
 ·
  apply Exists.intro;simp only[zQ,zR,zD,zE];exact⟨0,rfl,m,rfl,cd _,rfl⟩
 ·
  intro n vs wr hI u K1 hK1;clear m;obtain⟨k,rfl,m,hb0,hk,hn⟩:=hI;simp only[zu,zF,zG];refine aS 8 [0,0] m ?_;simp only[↓aD,iS];intro u m;refine bC rfl (fun hc1=>?_) (fun hc1=>?_)
  ·
   obtain⟨t,ht,a,rfl,hrow⟩:=hT.get (i:=k) (by omega);refine aS 21 [4,1,0] m ?_;simp only[↓aD];refine⟨by omega,?_⟩;intro u m;refine mq m aC (by kernel_rfl) (eC 3 [] ?_);simp only[↓aD];refine aH (aF bT aN rfl rfl (by omega) (by omega) (cI (ag _))) (eC 1 [] ?_);simp only[↓aD,dB,ab,ad,aa];refine⟨by omega,?_⟩;refine ql rfl (fun u m=>((nV.cor (hrow.ext m.ext) (c:=0) (by omega)).lies aG aA)) ?_;simp only[zz];refine ql rfl (fun u m=>((m.b 2 rfl).full aG aA)) ?_;simp only[zz];refine aH (cG rfl rfl) (aH aI (cX rfl (fun hb=>aI) (cX rfl (fun hb=>aI) ?_)));simp only[zz];refine cX rfl (fun hb=>aI) (cX rfl (fun hb=>eL (m:=0) (n:=1) (r:=1) (bD hb rfl) rfl (by decide)) (cX rfl (fun hb=>cU (m:=1) (n:=3) (r:=1) (bD hb rfl) rfl (by decide) (by decide)) ?_));simp only[zz];refine cX rfl (fun hb=>aF bT aN (bD hb rfl) (bD hb rfl) (by omega) (by omega) (cI (ag _))) (cX rfl (fun hb=>aJ dC aA (bD hb rfl) (bD hb rfl) (by decide) (by decide) rfl) ?_);simp only[zz];refine eH rfl (fun hb u m=>aW (bD hb rfl) ((nV.cor (hrow.ext m.ext) (c:=1) (by omega)).lies aG aA)) (eH rfl (fun hb u m=>aW rfl ((m.b 1 rfl).full aG aA)) (cX rfl (fun hb=>cG (bD hb rfl) (bD hb rfl)) (aH (eO rfl rfl rfl) (aY ?_))));clear m;intro u m;refine gc ?_;simp only[zz];refine gR rfl (fun hc3=>?_) (fun hc3=>?_)
   ·
    have hf:=wM ((sC ht hb0).trans (ao7  (Hs.1 hc3)));refine aS 6 [0] m ?_;simp only[↓aD,ai];refine⟨by omega,?_⟩;intro u m;refine aB (cU (m:=2) (n:=3) (r:=2) rfl rfl (by decide) (by decide)) ?_;simp only[zz];refine aB (aF bT aN rfl rfl (by omega) (by omega) (cI (ag _))) (aP 1 [0] m ?_);simp only[↓aD,dB,ab,ad,aa];refine⟨by omega,?_⟩;intro u m;refine aO rfl ((nV.cor (hrow.ext m.ext) (c:=2) (by omega)).lies aG aA) ?_;simp only[zz];refine aP 4 [0] m ?_;simp only[↓aD,aR,aa];intro u m;refine vW rfl ⟨_,rfl,((m.b 0 rfl).full aG aA)⟩ rfl ?_;try simp only[zD,zE]
    exact⟨_,rfl,m.ext,by rw[hf];rfl⟩
   ·
    have hq0:=Xr hc3;refine aS 19 [1,0] m ?_;simp only[↓aD,ai];refine⟨by omega,?_⟩;intro u m;refine mq m aC (by kernel_rfl) (eC 3 [] ?_);simp only[↓aD];refine aH (aF bT aN rfl rfl (by omega) (by omega) (cI (ag _))) (eC 1 [] ?_);simp only[↓aD,dB,ab,ad,aa];refine⟨by omega,?_⟩;refine ql rfl (fun u m=>((nV.cor (hrow.ext m.ext) (c:=1) (by omega)).lies aG aA)) ?_;simp only[zz];refine ql rfl (fun u m=>((m.b 2 rfl).full aG aA)) ?_;simp only[zz];refine aH (cG rfl rfl) (aH aI (cX rfl (fun hb=>aI) (cX rfl (fun hb=>aI) ?_)));simp only[zz];refine cX rfl (fun hb=>aI) (cX rfl (fun hb=>eL (m:=1) (n:=1) (r:=2) (bD hb rfl) rfl (by decide)) (cX rfl (fun hb=>cU (m:=2) (n:=3) (r:=2) (bD hb rfl) rfl (by decide) (by decide)) ?_));simp only[zz];refine cX rfl (fun hb=>aF bT aN (bD hb rfl) (bD hb rfl) (by omega) (by omega) (cI (ag _))) (cX rfl (fun hb=>aJ dC aA (bD hb rfl) (bD hb rfl) (by decide) (by decide) rfl) ?_);simp only[zz];refine eH rfl (fun hb u m=>aW (bD hb rfl) ((nV.cor (hrow.ext m.ext) (c:=2) (by omega)).lies aG aA)) (eH rfl (fun hb u m=>aW rfl ((m.b 1 rfl).full aG aA)) (cX rfl (fun hb=>cG (bD hb rfl) (bD hb rfl)) (aH (eO rfl rfl rfl) (aY ?_))));clear m;intro u m;refine gc ?_;simp only[zz];refine gR rfl (fun hc3=>?_) (fun hc3=>?_)
    ·
     have hf:=wM ((sC ht hb0).trans (ao8 hq0 (Hs.1 hc3)));refine aS 6 [0] m ?_;simp only[↓aD,ai];refine⟨by omega,?_⟩;intro u m;refine aB (cU (m:=3) (n:=3) (r:=0) rfl rfl (by decide) (by decide)) ?_;simp only[zz];refine aB (aF bT aN rfl rfl (by omega) (by omega) (cI (ag _))) (aP 1 [0] m ?_);simp only[↓aD,dB,ab,ad,aa];refine⟨by omega,?_⟩;intro u m;refine aO rfl ((nV.cor (hrow.ext m.ext) (c:=0) (by omega)).lies aG aA) ?_;simp only[zz];refine aP 4 [0] m ?_;simp only[↓aD,aR,aa];intro u m;refine vW rfl ⟨_,rfl,((m.b 0 rfl).full aG aA)⟩ rfl ?_;try simp only[zD,zE]
     exact⟨_,rfl,m.ext,by rw[hf];rfl⟩
    ·
     have hq1:=Xr hc3;refine aS 19 [1,0] m ?_;simp only[↓aD,ai];refine⟨by omega,?_⟩;intro u m;refine mq m aC (by kernel_rfl) (eC 3 [] ?_);simp only[↓aD];refine aH (aF bT aN rfl rfl (by omega) (by omega) (cI (ag _))) (eC 1 [] ?_);simp only[↓aD,dB,ab,ad,aa];refine⟨by omega,?_⟩;refine ql rfl (fun u m=>((nV.cor (hrow.ext m.ext) (c:=2) (by omega)).lies aG aA)) ?_;simp only[zz];refine ql rfl (fun u m=>((m.b 2 rfl).full aG aA)) ?_;simp only[zz];refine aH (cG rfl rfl) (aH aI (cX rfl (fun hb=>aI) (cX rfl (fun hb=>aI) ?_)));simp only[zz];refine cX rfl (fun hb=>aI) (cX rfl (fun hb=>eL (m:=2) (n:=1) (r:=3) (bD hb rfl) rfl (by decide)) (cX rfl (fun hb=>cU (m:=3) (n:=3) (r:=0) (bD hb rfl) rfl (by decide) (by decide)) ?_));simp only[zz];refine cX rfl (fun hb=>aF bT aN (bD hb rfl) (bD hb rfl) (by omega) (by omega) (cI (ag _))) (cX rfl (fun hb=>aJ dC aA (bD hb rfl) (bD hb rfl) (by decide) (by decide) rfl) ?_);simp only[zz];refine eH rfl (fun hb u m=>aW (bD hb rfl) ((nV.cor (hrow.ext m.ext) (c:=0) (by omega)).lies aG aA)) (eH rfl (fun hb u m=>aW rfl ((m.b 1 rfl).full aG aA)) (cX rfl (fun hb=>cG (bD hb rfl) (bD hb rfl)) (aH (eO rfl rfl rfl) (aY ?_))));clear m;intro u m;refine gc ?_;simp only[zz];refine gR rfl (fun hc3=>?_) (fun hc3=>?_)
     ·
      have hf:=wM ((sC ht hb0).trans (ao9 hq0 hq1 (Hs.1 hc3)));refine aS 6 [0] m ?_;simp only[↓aD,ai];refine⟨by omega,?_⟩;intro u m;refine aB (cU (m:=4) (n:=3) (r:=1) rfl rfl (by decide) (by decide)) ?_;simp only[zz];refine aB (aF bT aN rfl rfl (by omega) (by omega) (cI (ag _))) (aP 1 [0] m ?_);simp only[↓aD,dB,ab,ad,aa];refine⟨by omega,?_⟩;intro u m;refine aO rfl ((nV.cor (hrow.ext m.ext) (c:=1) (by omega)).lies aG aA) ?_;simp only[zz];refine aP 4 [0] m ?_;simp only[↓aD,aR,aa];intro u m;refine vW rfl ⟨_,rfl,((m.b 0 rfl).full aG aA)⟩ rfl ?_;try simp only[zD,zE]
      exact⟨_,rfl,m.ext,by rw[hf];rfl⟩
     ·
      have hq2:=Xr hc3;refine aS 22 [2,0] m ?_;simp only[↓aD,ai];refine⟨by omega,?_⟩;intro u m;refine hK1 (N-(k+1)) _ _ ?_ ?_ ?_
      · omega
      · simp only[zz,zv]
      ·
       simp only[zQ,zR,zD,zE];exact⟨k+1,rfl,m,(sC ht hb0).trans (apa hq0 hq1 hq2),by omega,rfl⟩
  ·
   have hkN:k=N:=by omega
   rw[hkN,show ts.take N=ts from be (by rw[hT.len];exact ap _)] at hb0;refine aS 8 [2,0] m ?_;simp only[↓aD,aR,aa];intro u m;refine vW rfl ⟨_,rfl,((m.b 0 rfl).full aG aA)⟩ rfl ?_;try simp only[zD,zE]
   exact⟨_,rfl,m.ext,by rw[hb0];rfl⟩
theorem ace{ts:List T3}{N cap:Nat}{A:Option Addr}{p:P3}(w:ah)(hT:bK w A N ts)(hN:N≤100000000):dF prog 135 [.slice A N cap,pt p] w (fun v _=>v=.bool (Jo ts p)):=by
 refine⟨ajJ,?_⟩;have m:=Mem.refl w
 go_enter func135,ntmps135
 refine eS 7 [0] m ?_;simp only[↓aD];intro g1;intro u m;refine aB aM ?_;replace m:=m.nilO 39 9;refine aP 3 [0] m ?_;simp only[↓aD];intro u m;refine aB aM ?_;replace m:=m.nilO 30 3;refine aP 7 [0] m ?_;simp only[↓aD];intro u m;refine bW [5,6,7] [8,14,15,16,17,18,19,20,21,22,23,24,25,26,27,28,29,30,31,32,33,34,35,36,37,38,39,40,41,42,43,44,45,46,47,48,49] (fun n vs wl=>∃(k n5 n6 cap5 cap6:Nat) (A5 A6:Option Addr),vs=[.slice A5 n5 cap5,.slice A6 n6 cap6,.int .i64 (k:Int)]∧Mem w wl [oI 30 3 A6 n6 cap6 ((rI (ts.take k) p).flatMap oN),oI 39 9 A5 n5 cap5 ((lW (ts.take k) p).flatMap aK),bI g1 (oN p) 30]∧(n5≤k*3)∧(n6≤k*3)∧(k≤N)∧(n=N-k)) ?_ ?_
 ·
  apply Exists.intro;simp only[zQ,zR,zD,zE];exact⟨0,_,_,_,_,_,_,rfl,m,ap _,ap _,cd _,rfl⟩
 ·
  intro n vs wr hI u K1 hK1;clear m;obtain⟨k,n5,n6,cap5,cap6,A5,A6,rfl,m,hl5,hl6,hk,hn⟩:=hI;simp only[zu,zF,zG];refine aS 8 [0,0] m ?_;simp only[↓aD,iS];intro u m;refine bC rfl (fun hc1=>?_) (fun hc1=>?_)
  ·
   obtain⟨t,ht,_,a,rfl,hrow⟩:=hT.get (i:=k) (by omega);refine aS 8 [0] m ?_;simp only[↓aD];intro u m;refine bW [5,6,8] [20,21,22,23,24,25,26,27,28,29,30,31,32,33,34,35,36,37,38,39,40,41,42,43,44,45,46,47,48,49] (fun n vs wl=>∃(c n5 n6 cap5 cap6:Nat) (A5 A6:Option Addr),vs=[.slice A5 n5 cap5,.slice A6 n6 cap6,.int .i64 (c:Int)]∧Mem w wl [oI 30 3 A6 n6 cap6 ((sT ts p k t c).flatMap oN),oI 39 9 A5 n5 cap5 ((Ae ts p k t c).flatMap aK),bI g1 (oN p) 30]∧(n5≤k*3+c)∧(n6≤k*3+c)∧(c≤3)∧(n=3-c)) ?_ ?_
   ·
    rw[←agU (t:=t),←adA (t:=t)] at m;apply Exists.intro;simp only[zQ,zR,zD,zE];exact⟨0,_,_,_,_,_,_,rfl,m,hl5,hl6,cd _,rfl⟩
   ·
    intro n vs wr hI u K2 hK2;clear m;obtain⟨c,n5,n6,cap5,cap6,A5,A6,rfl,m,hl5,hl6,hc,hn2⟩:=hI;simp only[zu,zF,zG];refine aS 6 [0,0] m ?_;simp only[↓aD];intro u m;refine bC rfl (fun hc2=>?_) (fun hc2=>?_)
    ·
     have hc3:c<3:=by omega
     refine aS 4 [0] m ?_;simp only[↓aD];intro u m;refine mq m aC (by kernel_rfl) (eC 3 [] ?_);simp only[↓aD];refine aH (aF bT aN rfl rfl (by omega) (by omega) (cI (ag _))) ?_;simp only[zz];refine aH (aJ dC aA rfl rfl (by omega) (by omega) (cI (ag _))) ?_;simp only[zz];refine ql rfl (fun u m=>((nV.cor (hrow.ext m.ext) (c:=c) (by omega)).lies aG aA)) ?_;simp only[zz];refine ql rfl (fun u m=>((m.b 2 rfl).full aG aA)) ?_;simp only[zz];refine aH (cG rfl rfl) (aY ?_);clear m;intro u m;refine gc ?_;simp only[zz];refine bC rfl (fun hc3=>?_) (fun hc3=>?_)
     ·
      have hcp:t.cor c=p:=P3.eq hc3.1 hc3.2.1 hc3.2.2;refine aS 5 [0] m ?_;simp only[↓aD];intro u m;refine aB (aF bT aN rfl rfl (by omega) (by omega) (cI (ag _))) ?_;simp only[zz];refine aO rfl ((hrow.ext m.ext).lies cF aN) ?_;simp only[zz];refine eF rfl ?_;intro u g2 e hg hB;replace m:=m.newB e hg hB;clear e hg hB;simp only[zz];refine bR m 2 rfl rfl bT iA rfl (by decide) rfl rfl rfl (m.b 0 rfl).rowsO (jM rfl) (by omega) (by omega) ?_;clear m;intro A5 cap5 u m;simp only[zF,zG] at m;refine aP 8 [0] m ?_;simp only[↓aD];refine⟨by omega,?_⟩;intro u m;refine aB (cU rfl rfl (by omega) (aiq (k:=c+1))) ?_;simp only[zz];refine aB (aF bT aN rfl rfl (by omega) (by omega) (cI (ag _))) ?_;simp only[zz];refine aB (aJ dC aA rfl rfl (by omega) (by omega) (cI (ag _))) ?_;simp only[zz];refine aO rfl ((nV.cor (hrow.ext m.ext) (c:=(c+1)%3) (by omega)).lies aG aA) ?_;simp only[zz];refine mO rfl ?_;intro u g3 e hg hB;replace m:=m.newB e hg hB;clear e hg hB;simp only[zz];refine bR m 2 rfl rfl dS oD rfl (by decide) rfl rfl rfl (m.b 0 rfl).rowsO (jM rfl) (by omega) (by omega) ?_;clear m;intro A6 cap6 u m;simp only[zF,zG] at m;refine aP 8 [0] m ?_;simp only[↓aD];refine⟨by omega,?_⟩;intro u m;refine hK2 (3-(c+1)) _ _ ?_ ?_ ?_
      · omega
      · simp only[zz,zv]
      ·
       simp only[zQ,zR,zD,zE];exact⟨c+1,_,_,_,_,_,_,rfl,(((m.reO 3 rfl ((m.o 3 rfl).as (by rw[abK hcp,av];rfl))).reO 2 rfl ((m.o 2 rfl).as (by rw[Xq hcp,av];rfl))).sel [false,false,true,true,true]),by omega,by omega,by omega,rfl⟩
     ·
      have hcp:¬t.cor c=p:=fun h=>hc3 (by rw[h];exact⟨rfl,rfl,rfl⟩);refine aS 7 [0] m ?_;simp only[↓aD];refine⟨by omega,?_⟩;intro u m;refine hK2 (3-(c+1)) _ _ ?_ ?_ ?_
      · omega
      · simp only[zz,zv]
      ·
       simp only[zQ,zR,zD,zE];exact⟨c+1,_,_,_,_,_,_,rfl,((m.reO 1 rfl ((m.o 1 rfl).as (by rw[adz hcp]))).reO 0 rfl ((m.o 0 rfl).as (by rw[abL hcp]))),by omega,by omega,by omega,rfl⟩
    ·
     obtain rfl:c=3:=by omega
     rw[agV ht,adB ht] at m;refine aS 7 [0] m ?_;simp only[↓aD];refine⟨by omega,?_⟩;intro u m;refine hK1 (N-(k+1)) _ _ ?_ ?_ ?_
     · omega
     · simp only[zz,zv]
     ·
      simp only[zQ,zR,zD,zE];exact⟨k+1,_,_,_,_,_,_,rfl,m,by omega,by omega,by omega,rfl⟩
  ·
   have hkN:k=N:=by omega
   rw[hkN,show ts.take N=ts from be (by rw[hT.len];exact ap _)] at m;obtain⟨M,hM⟩:∃M,M=lW ts p:=⟨_,rfl⟩
   obtain⟨S,hS⟩:∃S,S=rI ts p:=⟨_,rfl⟩
   rw[←hM,←hS] at m;have h5:M.length=n5:=(m.o 1 rfl).num adx (by decide);have h6:S.length=n6:=(m.o 0 rfl).num Hg (by decide);have hle6:=(m.o 0 rfl).le;have hP:Jo ts p=S.any (fun s=>lX M p s (M.length-1) s):=by rw[hM,hS];rfl
   clear hM hS;refine lF 7 [0] m ?_;simp only[↓aD];rintro u m rfl;refine bW [9] [4,10,11,12,13,50,51,52,53,54,55,56,57,58,59,60,61,62,63,64,65,66,67,68,69,70,71,72,73,74,75,76,77,78,79,80,81] (fun n vs wl=>∃(k2:Nat),vs=[.int .i64 (k2:Int)]∧Mem w wl [oI 30 3 A6 n6 cap6 ((S).flatMap oN),oI 39 9 A5 n5 cap5 ((M).flatMap aK),bI g1 (oN p) 30]∧((S.take k2).any (fun s=>lX M p s (M.length-1) s)=false)∧(k2≤n6)∧(n=n6-k2)) ?_ ?_
   ·
    apply Exists.intro;simp only[zQ,zR,zD,zE];exact⟨0,rfl,m,rfl,cd _,rfl⟩
   ·
    intro n vs wr hI u K3 hK3;clear m;obtain⟨k2,rfl,m,hno,hk2,hn3⟩:=hI;simp only[zu,zF,zG];refine aS 8 [0,0] m ?_;simp only[↓aD,kX];intro u m;refine bC rfl (fun hc4=>?_) (fun hc4=>?_)
    ·
     obtain⟨sx,hsx⟩:∃sx,S[k2]? = some sx:=⟨_,an (by omega)⟩
     obtain⟨gO,rfl⟩:=(m.o 0 rfl).some (by omega);refine lF 7 [0] m ?_;simp only[↓aD];rintro u m rfl;refine aB (aF dS aA rfl rfl (by omega) (by omega) (cI (ag _))) ?_;simp only[zz];refine aO rfl (((m.o 0 rfl).at Hg hsx).lies aG aA) ?_;simp only[zz];refine aP 8 [0,0] m ?_;simp only[↓aD,eU,aR,aa];intro g2;intro u m;refine bW [11] [4,12,13,60,61,62,63,64,65,66,67,68,69,70,71,72,73,74,75,76,77,78,79,80,81] (fun n vs wl=>∃(j:Nat) (x:P3),vs=[.int .i64 (j:Int)]∧Mem w wl [bI g2 (oN x) 30,oI 30 3 (some ⟨gO,0,none⟩) n6 cap6 (S.flatMap oN),oI 39 9 A5 n5 cap5 ((M).flatMap aK),bI g1 (oN p) 30]∧(lX M p sx (M.length-1) sx=lX M p sx (M.length-j) x)∧(1≤j)∧(j≤n5+1)∧(n=n5+1-j)) ?_ ?_
     ·
      apply Exists.intro;simp only[zQ,zR,zD,zE];exact⟨1,sx,rfl,m,rfl,ap _,by omega,rfl⟩
     ·
      intro n vs wr hI u K4 hK4;clear m;obtain⟨j,x,rfl,m,hrg,hj,hj2,hn4⟩:=hI;simp only[zu,zF,zG];refine aS 8 [0,0] m ?_;simp only[↓aD,iS];intro u m;refine bC rfl (fun hc5=>?_) (fun hc5=>?_)
      ·
       obtain⟨f,hf⟩:∃f,M.length-j=f+1:=⟨M.length-j-1,by omega⟩
       rw[hf] at hrg;refine aS 8 [3,0,0] m ?_;simp only[↓aD,aR];intro u m;refine cW m rfl rfl (aeM (p:=p) (q:=x) _ ((m.o 2 rfl).lat adx (by decide)) (by omega)) ?_;clear m;rintro v u m rfl;refine aP 13 [0,0] m ?_;simp only[↓aD,eU,aR,aa];intro g3;intro u m;refine gR rfl (fun hc6=>?_) (fun hc6=>?_)
       ·
        have hbn:bP M p x=none:=by cases hb:bP M p x with | none=>rfl | some y=>rw[hb] at hc6;cases hc6
        have hz:lX M p sx (M.length-1) sx=false:=by rw[hrg,Nx hbn]
        have hno2:(S.take (k2+1)).any (fun s=>lX M p s (M.length-1) s)=false:=by rw[tL hsx,hno,hz];rfl
        refine aS 7 [0] m ?_;simp only[↓aD];refine⟨by omega,?_⟩;intro u m;refine hK3 (n6-(k2+1)) _ _ ?_ ?_ ?_
        · omega
        · simp only[zz,zv]
        ·
         simp only[zQ,zR,zD,zE];exact⟨k2+1,rfl,(m.sel [false,false,true,true,true]),hno2,by omega,rfl⟩
       ·
        obtain⟨y,hy⟩:∃y,bP M p x=some y:=by cases hb:bP M p x with | none=>rw[hb] at hc6;cases hc6 | some y=>exact⟨y,rfl⟩
        rw[hy] at m;simp only[Option.getD_some] at m;refine aS 7 [0,1,0] m ?_;simp only[↓aD,aR,aa];intro u m;refine mq m aC (by kernel_rfl) (eC 3 [1] ?_);simp only[↓aD,aR];refine aH (aF dS aA rfl rfl (by omega) (by omega) (cI (ag _))) ?_;simp only[zz];refine ql rfl (fun u m=>(((m.o 2 rfl).at Hg hsx).lies aG aA)) ?_;simp only[zz];refine aH (cG rfl rfl) (aY ?_);clear m;intro u m;refine gc ?_;simp only[zz];refine bC rfl (fun hc7=>?_) (fun hc7=>?_)
        ·
         have hys:y=sx:=P3.eq hc7.1 hc7.2.1 hc7.2.2;have hz:S.any (fun s=>lX M p s (M.length-1) s)=true:=Cn hsx (by show lX M p sx (M.length-1) sx=true;rw[hrg];exact Ud (by rw[hy,hys]));refine aS 5 [] m ?_;simp only[↓aD];intro u m;refine aQ rfl rfl ?_;try simp only[zD,zE]
         exact⟨_,rfl,m.ext,by rw[hP,hz]⟩
        ·
         have hys:¬y=sx:=fun h=>hc7 (by rw[h];exact⟨rfl,rfl,rfl⟩);refine aS 7 [0] m ?_;simp only[↓aD];refine⟨by omega,?_⟩;intro u m;refine hK4 (n5+1-(j+1)) _ _ ?_ ?_ ?_
         · omega
         · simp only[zz,zv]
         ·
          simp only[zQ,zR,zD,zE];exact⟨j+1,y,rfl,(m.sel [false,true,true,true,true]),by rw[hrg,Ny hy hys,show M.length-(j+1)=f by omega],by omega,by omega,rfl⟩
      ·
       have hz:lX M p sx (M.length-1) sx=false:=by rw[hrg,show M.length-j=0 by omega];rfl
       have hno2:(S.take (k2+1)).any (fun s=>lX M p s (M.length-1) s)=false:=by rw[tL hsx,hno,hz];rfl
       refine aS 7 [0] m ?_;simp only[↓aD];refine⟨by omega,?_⟩;intro u m;refine hK3 (n6-(k2+1)) _ _ ?_ ?_ ?_
       · omega
       · simp only[zz,zv]
       ·
        simp only[zQ,zR,zD,zE];exact⟨k2+1,rfl,(m.sel [false,true,true,true]),hno2,by omega,rfl⟩
    ·
     have hk2:k2=S.length:=by omega
     rw[hk2,List.take_length] at hno;refine aS 6 [] m ?_;simp only[↓aD];intro u m;refine aQ rfl rfl ?_;try simp only[zD,zE]
     exact⟨_,rfl,m.ext,by rw[hP,hno]⟩
theorem aph{t:T3}{x y z:Bool}(hx:x=decide (t.b.Lt t.a))(hy:y=decide (t.c.Lt t.a))(hz:z=decide (t.c.Lt t.b))(h:(y&&(z || !x))=true):mW t=⟨t.c,t.a,t.b⟩:=by
 subst hx;subst hy;subst hz;simp only[bh,decide_eq_true_eq,fu,fm,decide_eq_false_iff_not] at h;exact if_pos h
theorem aoj{t:T3}{x y z:Bool}(hx:x=decide (t.b.Lt t.a))(hy:y=decide (t.c.Lt t.a))(hz:z=decide (t.c.Lt t.b))(h:(y&&(z || !x))=false)(h1:x=true):mW t=⟨t.b,t.c,t.a⟩:=by
 subst hx;subst hy;subst hz;have h2:¬(t.c.Lt t.a∧(t.c.Lt t.b∨¬t.b.Lt t.a)):=fun k=>by
  rw[decide_eq_true k.1,Bool.true_and] at h;rcases k.2 with k2 | k2
  · rw[decide_eq_true k2] at h;cases h
  · exact k2 (of_decide_eq_true h1)
 rw[mW,if_neg h2,if_pos (of_decide_eq_true h1)]
theorem aok{t:T3}{x y z:Bool}(hx:x=decide (t.b.Lt t.a))(hy:y=decide (t.c.Lt t.a))(hz:z=decide (t.c.Lt t.b))(h:(y&&(z || !x))=false)(h1:x=false):mW t=t:=by
 subst hx;subst hy;subst hz;have h3:=of_decide_eq_false h1;have h2:¬(t.c.Lt t.a∧(t.c.Lt t.b∨¬t.b.Lt t.a)):=fun k=>by
  rw[decide_eq_true k.1,h1] at h;simp at h
 rw[mW,if_neg h2,if_neg h3]
/-! ### How often a triangle is hit -/
theorem acf{t:T3}:eM prog 35 [tr t] (tr (mW t)):=by
 intro w;refine⟨ang,?_⟩;have m:=Mem.refl w
 go_enter func35,ntmps35
 refine eS 11 [1,1,0] m ?_;simp only[↓aD,mU,dB,aR,ab,ad,aa];intro g1 g2;refine⟨by omega,?_⟩;intro u m;refine vJ m rfl rfl (qM (p:=t.b) (q:=t.a)) 8 [1,1,0] ?_;simp only[↓aD,dB,aR,ab,ad,aa];refine⟨by omega,?_⟩;intro u m;refine vJ m rfl rfl (qM (p:=t.c) (q:=t.a)) 8 [1,1,0] ?_;simp only[↓aD,dB,aR,ab,ad,aa];refine⟨by omega,?_⟩;intro u m;refine vJ m rfl rfl (qM (p:=t.c) (q:=t.b)) 4 [] ?_;simp only[↓aD];intro u m;cases hy:decide (t.c.Lt t.a)
 · skip
   refine cR 17 [0] m ?_;simp only[↓aD];intro u m;refine dQ rfl (fun hc2=>?_) (fun hc2=>?_)
   · skip
     have hr:=aoj (t:=t) rfl rfl rfl (by rw[hy];rfl) hc2;refine aS 12 [1,1,1,0] m ?_;simp only[↓aD,dB,aR,pS,gZ,ab,ad,aa];refine⟨by omega,?_⟩;intro u m;refine aQ rfl ⟨_,rfl,((m.b 0 rfl).full cF aN)⟩ ?_;try simp only[zD,zE]
     exact⟨_,rfl,m.ext,by rw[hr];rfl⟩
   · skip
     have hr:=aok (t:=t) rfl rfl rfl (by rw[hy];rfl) hc2;refine aS 7 [1,0] m ?_;simp only[↓aD,gZ,aa];intro u m;refine aQ rfl ⟨_,rfl,((m.b 0 rfl).full cF aN)⟩ ?_;try simp only[zD,zE]
     exact⟨_,rfl,m.ext,by rw[hr];rfl⟩
 · skip
   refine cR 5 [0] m ?_;simp only[↓aD];intro u m;refine dG rfl (fun hb=>aI) (dG rfl (fun hb=>qY (bD hb rfl)) (eD rfl (aB (dW rfl rfl rfl) ?_)));refine aP 2 [0] m ?_;simp only[↓aD];intro u m;refine dQ rfl (fun hc1=>?_) (fun hc1=>?_)
   · skip
     have hr:=aph (t:=t) rfl rfl rfl (by rw[hy];exact hc1);refine aS 12 [1,1,1,0] m ?_;simp only[↓aD,dB,aR,pS,gZ,ab,ad,aa];refine⟨by omega,?_⟩;intro u m;refine aQ rfl ⟨_,rfl,((m.b 0 rfl).full cF aN)⟩ ?_;try simp only[zD,zE]
     exact⟨_,rfl,m.ext,by rw[hr];rfl⟩
   · skip
     refine aS 6 [0] m ?_;simp only[↓aD];intro u m;refine dQ rfl (fun hc2=>?_) (fun hc2=>?_)
     · skip
       have hr:=aoj (t:=t) rfl rfl rfl (by rw[hy];exact hc1) hc2;refine aS 12 [1,1,1,0] m ?_;simp only[↓aD,dB,aR,pS,gZ,ab,ad,aa];refine⟨by omega,?_⟩;intro u m;refine aQ rfl ⟨_,rfl,((m.b 0 rfl).full cF aN)⟩ ?_;try simp only[zD,zE]
       exact⟨_,rfl,m.ext,by rw[hr];rfl⟩
     · skip
       have hr:=aok (t:=t) rfl rfl rfl (by rw[hy];exact hc1) hc2;refine aS 7 [1,0] m ?_;simp only[↓aD,gZ,aa];intro u m;refine aQ rfl ⟨_,rfl,((m.b 0 rfl).full cF aN)⟩ ?_;try simp only[zD,zE]
       exact⟨_,rfl,m.ext,by rw[hr];rfl⟩
theorem alE{p q:P3}(h:¬(p.x=q.x∧p.y=q.y∧p.z=q.z)):p≠q:=fun k=>h (by rw[k];exact⟨rfl,rfl,rfl⟩)
theorem alF{p q:P3}(h:¬¬(p.x=q.x∧p.y=q.y∧p.z=q.z)):p=q:=by
 obtain⟨h1,h2,h3⟩:=Classical.not_not.1 h;exact P3.eq h1 h2 h3
theorem aol{s t:T3}(h:s.a≠t.a):decide (s.Lt t)=decide (s.a.Lt t.a):=by unfold T3.Lt;simp[h]
theorem aom{s t:T3}(e:s.a=t.a)(h:s.b≠t.b):decide (s.Lt t)=decide (s.b.Lt t.b):=by unfold T3.Lt;simp[h,e,P3.lt_irrefl]
theorem aiH{s t:T3}(e:s.a=t.a)(f:s.b=t.b):decide (s.Lt t)=decide (s.c.Lt t.c):=by unfold T3.Lt;simp[e,f,P3.lt_irrefl]
theorem aon{s t:T3}(e:s.a=t.a)(f:s.b=t.b)(h:s.c=t.c):decide (s.Lt t)=false:=by rw[aiH e f,h];simp[P3.lt_irrefl]
def iX(ls bs:List T3):List T3:=ls.merge bs fun x y=>!decide (y.Lt x)
theorem aeN(bs:List T3):iX [] bs=bs:=by simp[iX]
theorem Vf(ls:List T3):iX ls []=ls:=by simp[iX]
theorem aeO{ls bs:List T3}{x y:T3}(h:y.Lt x):iX (x::ls) (y::bs)=y::iX (x::ls) bs:=by simp[iX,List.cons_merge_cons,h]
theorem aeP{ls bs:List T3}{x y:T3}(h:¬y.Lt x):iX (x::ls) (y::bs)=x::iX ls (y::bs):=by simp[iX,List.cons_merge_cons,h]
theorem Dg{α:Type}{l:List α}{i:Nat}{x:α}(h:l[i]? = some x):l.drop i=x::l.drop (i+1):=by
 obtain⟨h1,h2⟩:=ar.1 h;rw[fk h1,h2]
theorem Vg(ts:List T3)(k:Nat):iX (sG (ts.take k)) (sG (ts.drop k))=sG ts:=by
 refine wX ?_ ?_ (pB ts)
 · refine (List.merge_perm_append ..).trans (((qT _).append (qT _)).trans ?_)
   rw[List.take_append_drop];exact (qT ts).symm
 · have:=List.pairwise_merge (le:=fun x y:T3=>!decide (y.Lt x)) ?_ ?_ (sG (ts.take k)) (sG (ts.drop k)) ((pB _).imp fun {a b} h=>by simpa[rR] using h) ((pB _).imp fun {a b} h=>by simpa[rR] using h)
   · exact this.imp fun {a b} h=>by simpa[rR] using h
   · intro a b c h1 h2
     simp only[fm,decide_eq_false_iff_not] at *
     exact Gp (s:=a) (t:=b) (u:=c) h1 h2
   · intro a b
     simp only[fu,fm,decide_eq_false_iff_not];by_cases h:b.Lt a
     · exact .inr fun k=>T3.lt_irrefl a (T3.lt_trans k h)
     · exact .inl h
theorem Gu{ts:List T3}(h:ts.length<2):sG ts=ts:=by
 rcases ts with _ | ⟨t,_ | ⟨u,ts⟩⟩
 · rfl
 · rfl
 · simp at h;omega
theorem aeQ{s t:T3}:eM prog 218 [tr s,tr t] (.bool (decide (s.Lt t))):=by
 intro w;refine⟨akh,?_⟩;have m:=Mem.refl w
 go_enter func218,ntmps218
 refine eS 25 [4,1,0] m ?_;simp only[↓aD];intro g1 g2;refine⟨by omega,?_⟩;intro u m;refine mq m aC (by kernel_rfl) (eC 6 [1,0] ?_);simp only[↓aD,dB,aR,ab,ad,aa];refine⟨by omega,?_⟩;refine aH (gL rfl rfl) (aY ?_);clear m;intro u m;refine gc ?_;simp only[zz];refine bC rfl (fun hc2=>?_) (fun hc2=>?_)
 · skip
   have ha:=alE hc2;refine aS 1 [0] m ?_;simp only[↓aD];intro u m;refine mq m aC (by kernel_rfl) (eC 6 [1,0] ?_);simp only[↓aD,dB,aR,ab,ad,aa];refine⟨by omega,?_⟩;refine iF rfl rfl (qM (p:=s.a) (q:=t.a)) (aH aM (aY ?_));clear m;intro u m;refine cR 1 [] m ?_;simp only[↓aD];intro u m;refine aQ rfl rfl ?_;try simp only[zD,zE]
   exact⟨_,rfl,m.ext,by rw[aol ha]⟩
 · skip
   have ea:=alF hc2;refine aS 19 [1,0] m ?_;simp only[↓aD,ai];refine⟨by omega,?_⟩;intro u m;refine mq m aC (by kernel_rfl) (eC 6 [1,0] ?_);simp only[↓aD,dB,aR,ab,ad,aa];refine⟨by omega,?_⟩;refine aH (gL rfl rfl) (aY ?_);clear m;intro u m;refine gc ?_;simp only[zz];refine bC rfl (fun hc2=>?_) (fun hc2=>?_)
   · skip
     have hb:=alE hc2;refine aS 1 [0] m ?_;simp only[↓aD];intro u m;refine mq m aC (by kernel_rfl) (eC 6 [1,0] ?_);simp only[↓aD,dB,aR,ab,ad,aa];refine⟨by omega,?_⟩;refine iF rfl rfl (qM (p:=s.b) (q:=t.b)) (aH aM (aY ?_));clear m;intro u m;refine cR 1 [] m ?_;simp only[↓aD];intro u m;refine aQ rfl rfl ?_;try simp only[zD,zE]
     exact⟨_,rfl,m.ext,by rw[aom ea hb]⟩
   · skip
     have eb:=alF hc2;refine aS 19 [1,0] m ?_;simp only[↓aD,ai];refine⟨by omega,?_⟩;intro u m;refine mq m aC (by kernel_rfl) (eC 6 [1,0] ?_);simp only[↓aD,dB,aR,ab,ad,aa];refine⟨by omega,?_⟩;refine aH (gL rfl rfl) (aY ?_);clear m;intro u m;refine gc ?_;simp only[zz];refine bC rfl (fun hc2=>?_) (fun hc2=>?_)
     · skip
       have hc:=alE hc2;refine aS 1 [0] m ?_;simp only[↓aD];intro u m;refine mq m aC (by kernel_rfl) (eC 6 [1,0] ?_);simp only[↓aD,dB,aR,ab,ad,aa];refine⟨by omega,?_⟩;refine iF rfl rfl (qM (p:=s.c) (q:=t.c)) (aH aM (aY ?_));clear m;intro u m;refine cR 1 [] m ?_;simp only[↓aD];intro u m;refine aQ rfl rfl ?_;try simp only[zD,zE]
       exact⟨_,rfl,m.ext,by rw[aiH ea eb]⟩
     · skip
       have ec:=alF hc2;refine aS 21 [2] m ?_;simp only[↓aD,ai];refine⟨by omega,?_⟩;intro u m;refine aQ rfl rfl ?_;try simp only[zD,zE]
       exact⟨_,rfl,m.ext,by rw[aon ea eb ec]⟩
theorem aeR{ls ms:List T3}{N M cap cap2:Nat}{A A2:Option Addr}(w:ah)(hT:bK w A N ls)(hU:bK w A2 M ms)(hcap:M≤cap2)(hN:N+M≤10000000):dF prog 145 [.slice A N cap,.slice A2 M cap2] w (SL 39 9 ((iX ls ms).flatMap aK) (N+M) w):=by
 refine⟨ajN,?_⟩;have m:=Mem.refl w;have htl:=hT.len;have hul:=hU.len
 go_enter func145,ntmps145
 refine eS 6 [0] m ?_;simp only[↓aD];intro u m;refine aB aM ?_;replace m:=m.nilO 39 9;refine aP 11 [0] m ?_;simp only[↓aD];intro u m;refine bW [5,6,7] [8,9,10,11,12,13,14,15,16,17,18,19,20,21,22,23,24,25,26,27,28,29,30,31,32,33,34,35,36,37,38,39,40,41,42,43,44,45] (fun n vs wl=>∃(i j:Nat) (xs:List T3) (A5:Option Addr) (cap5:Nat),vs=[.slice A5 (i+j) cap5,.int .i64 (j:Int),.int .i64 (i:Int)]∧Mem w wl [oI 39 9 A5 (i+j) cap5 (xs.flatMap aK)]∧(xs++iX (ls.drop i) (ms.drop j)=iX ls ms)∧(i≤N)∧(j≤M)∧(n=N-i)) ?_ ?_
 · skip
   apply Exists.intro;simp only[zQ,zR,zD,zE];exact⟨0,0,[],_,_,rfl,m,rfl,cd _,cd _,rfl⟩
 · intro n vs wr hI u K1 hK1
   clear m;obtain⟨i,j,xs,A5,cap5,rfl,m,hI,hi,hj,hn⟩:=hI;simp only[zu,zF,zG];refine aS 8 [0,0] m ?_;simp only[↓aD,iS];intro u m;refine bC rfl (fun hc1=>?_) (fun hc1=>?_)
   · skip
     obtain⟨x,hx,_,a,hA,hrow⟩:=hT.get (i:=i) (by omega);subst hA;refine aS 5 [0] m ?_;simp only[↓aD];intro u m;refine bW [5,6] [8,15,16,17,18,19,20,21,22,23,24,25,26,27,28,29,30,31,32,33,34,35,36,37,38] (fun n vs wl=>∃(j:Nat) (xs:List T3) (A5:Option Addr) (cap5:Nat),vs=[.slice A5 (i+j) cap5,.int .i64 (j:Int)]∧Mem w wl [oI 39 9 A5 (i+j) cap5 (xs.flatMap aK)]∧(xs++iX (ls.drop i) (ms.drop j)=iX ls ms)∧(j≤M)∧(n=M-j)) ?_ ?_
     · skip
       apply Exists.intro;simp only[zQ,zR,zD,zE];exact⟨j,xs,_,_,rfl,m,hI,hj,rfl⟩
     · intro n vs wr hI u K2 hK2
       clear m;obtain⟨j,xs,A5,cap5,rfl,m,hI2,hj,hn2⟩:=hI;simp only[zu,zF,zG];refine aS 8 [0,0] m ?_;simp only[↓aD,iS];intro u m;refine bC rfl (fun hc2=>?_) (fun hc2=>?_)
       · skip
         obtain⟨y,hy,_,a2,hA2,hrow2⟩:=hU.get (i:=j) (by omega);subst hA2;refine aS 3 [0] m ?_;simp only[↓aD];intro u m;refine mh m [true] [(0,true),(1,true),(2,true),(4,true),(5,true),(6,true),(3,true),(7,true),(8,false),(9,true)] aC (by kernel_rfl) (bQ (fun _ _ _ _ _ h=>h)) (ol:=?_) ?hol ?_
         case hol=>simp only[zw,zQ,zR];try rfl
         clear m;intro u m;refine aU aI (aU aI ?_);simp only[zz];refine aU (aF bT aN rfl rfl (by omega) (by omega) (cI (ag _))) (aU aI (aU aI ?_));simp only[zz];refine aU (aF bT aN rfl rfl (by omega) (by omega) (cI (ag _))) ?_;simp only[zz];refine eN rfl (fun u m=>((hrow2.ext m.ext).lies cF aN)) ?_;simp only[zz];refine eN rfl (fun u m=>((hrow.ext m.ext).lies cF aN)) ?_;simp only[zz];refine bV (kA m rfl rfl (aeQ (s:=y) (t:=x)) ?_);clear m;intro u m;refine aL (⟨m,?_⟩);refine aU aM (bM ?_);refine cR 6 [0] m ?_;simp only[↓aD];intro u m;refine dQ rfl (fun hc3=>?_) (fun hc3=>?_)
         · skip
           have hI3:(xs++[x])++iX (ls.drop (i+1)) (ms.drop j)=iX ls ms:=by rw[←hI2,Dg hx,Dg hy,aeP (by simpa using hc3),cq];rfl
           refine aS 5 [0] m ?_;simp only[↓aD];intro u m;refine aB (aF bT aN rfl rfl (by omega) (by omega) (cI (ag _))) ?_;simp only[zz];refine aO rfl ((hrow.ext m.ext).lies cF aN) ?_;simp only[zz];refine eF rfl ?_;intro u g1 e hg hB;replace m:=m.newB e hg hB;clear e hg hB;simp only[zz];refine bR m 1 rfl rfl bT iA rfl (by decide) rfl rfl rfl (m.b 0 rfl).rowsO (jM rfl) (by omega) (by omega) ?_;clear m;intro A5 cap5 u m;simp only[zF,zG] at m;rw[show xs.flatMap aK++_=(xs++[x]).flatMap aK by rw[av];rfl] at m;refine aP 8 [0] m ?_;simp only[↓aD];refine⟨by omega,?_⟩;intro u m;rw[show i+j+1=i+1+j by omega] at m ⊢;refine hK1 (N-(i+1)) _ _ ?_ ?_ ?_
           · omega
           · simp only[zz,zv]
           · simp only[zQ,zR,zD,zE]
             exact⟨i+1,j,xs++[x],_,_,rfl,(m.sel [false,true]),hI3,by omega,hj,rfl⟩
         · skip
           have hI4:(xs++[y])++iX (ls.drop i) (ms.drop (j+1))=iX ls ms:=by rw[←hI2,Dg hx,Dg hy,aeO (by simpa using hc3),cq];rfl
           refine aS 6 [0] m ?_;simp only[↓aD];intro u m;refine aB (aF bT aN rfl rfl (by omega) (by omega) (cI (ag _))) ?_;simp only[zz];refine aO rfl ((hrow2.ext m.ext).lies cF aN) ?_;simp only[zz];refine eF rfl ?_;intro u g1 e hg hB;replace m:=m.newB e hg hB;clear e hg hB;simp only[zz];refine bR m 1 rfl rfl bT iA rfl (by decide) rfl rfl rfl (m.b 0 rfl).rowsO (jM rfl) (by omega) (by omega) ?_;clear m;intro A5 cap5 u m;simp only[zF,zG] at m;rw[show xs.flatMap aK++_=(xs++[y]).flatMap aK by rw[av];rfl] at m;refine aP 8 [0] m ?_;simp only[↓aD];refine⟨by omega,?_⟩;intro u m;rw[show i+j+1=i+(j+1) by omega] at m ⊢;refine hK2 (M-(j+1)) _ _ ?_ ?_ ?_
           · omega
           · simp only[zz,zv]
           · simp only[zQ,zR,zD,zE]
             exact⟨j+1,xs++[y],_,_,rfl,(m.sel [false,true]),hI4,by omega,rfl⟩
       · skip
         obtain rfl:j=M:=by omega
         have hI3:(xs++[x])++iX (ls.drop (i+1)) (ms.drop j)=iX ls ms:=by rw[←hI2,Dg hx,show ms.drop j=[] from fq (by omega),Vf,Vf,cq];rfl
         refine aS 5 [0] m ?_;simp only[↓aD];intro u m;refine aB (aF bT aN rfl rfl (by omega) (by omega) (cI (ag _))) ?_;simp only[zz];refine aO rfl ((hrow.ext m.ext).lies cF aN) ?_;simp only[zz];refine eF rfl ?_;intro u g1 e hg hB;replace m:=m.newB e hg hB;clear e hg hB;simp only[zz];refine bR m 1 rfl rfl bT iA rfl (by decide) rfl rfl rfl (m.b 0 rfl).rowsO (jM rfl) (by omega) (by omega) ?_;clear m;intro A5 cap5 u m;simp only[zF,zG] at m;rw[show xs.flatMap aK++_=(xs++[x]).flatMap aK by rw[av];rfl] at m;refine aP 8 [0] m ?_;simp only[↓aD];refine⟨by omega,?_⟩;intro u m;rw[show i+j+1=i+1+j by omega] at m ⊢;refine hK1 (N-(i+1)) _ _ ?_ ?_ ?_
         · omega
         · simp only[zz,zv]
         · simp only[zQ,zR,zD,zE]
           exact⟨i+1,j,xs++[x],_,_,rfl,(m.sel [false,true]),hI3,by omega,hj,rfl⟩
   · skip
     obtain rfl:i=N:=by omega
     have hend:xs++ms.drop j=iX ls ms:=by rw[←hI,show ls.drop i=[] from fq (by omega),aeN]
     refine aS 6 [0] m ?_;simp only[↓aD];intro u m;refine aB (qO bT aN rfl rfl (ag _) (by omega) (by omega) rfl) ?_;simp only[zz];refine bR m 0 rfl rfl bT iA rfl (by decide) rfl rfl (by rw[yC,ej,hul]) ((hU.lat.ext m.ext).cellsD adx (by decide) hcap) (tI _) (by omega) (by omega) ?_;clear m;intro A5 cap5 u m;simp only[zF,zG] at m;rw[←av,hend] at m;refine aP 3 [] m ?_;simp only[↓aD];intro u m;refine aQ rfl rfl ?_;try simp only[zD,zE]
     exact⟨_,rfl,m.ext,⟨_,_,_,by omega,rfl,(m.o 0 rfl)⟩⟩
end Go.Proofs.YtfekpcimgncioaaGreatDoor
namespace Go.Lith
open Go.RowKit
section
variable {w0 w w':ah} {is:List It}
theorem Mem.plus{js:List It}(m:Mem w0 w is)(h:Mem w w' js):Mem w0 w' (js++is):=by
 have m':=m.ext' h.ext;refine⟨m'.ext,fun i hi=>?_,fun i hi b hb=>?_,fg.2 ⟨h.nd,m.nd,fun i hi j hj b h1 h2=>?_⟩⟩
 · exact (bg.1 hi).elim (h.all i) (m'.all i)
 · rcases bg.1 hi with hi | hi
   · exact Nat.le_trans m.ext.size (h.ge i hi b hb)
   · exact m'.ge i hi b hb
 · have k1:=h.ge i hi b h1
   have k2:=j.lt w b (m.all j hj) h2;omega
end
structure Hd where
 A:Option Addr
 n:Nat
 cap:Nat
def Hd.v(h:Hd):ac:=.slice h.A h.n h.cap
theorem bK.takeL{w:ah}{A:Option Addr}{N k:Nat}{ts:List T3}(h:bK w A N ts)(hk:k≤N):bK w A k (ts.take k) :=
 ⟨by rw[br,h.len];exact gl hk,fun t ht=>h.it t (List.mem_of_mem_take ht),fun i t hi=>by
  rw[List.getElem?_take] at hi;split at hi
  · exact h.row i t hi
  · cases hi⟩
theorem bK.dropL{w:ah}{A:Option Addr}{N k cap:Nat}{ts:List T3}(h:bK w A N ts)(hk:k≤N)(hc:N≤cap):bK w (if cap=k then A else A.map (·.add (k*9))) (N-k) (ts.drop k) :=
 ⟨by rw[ej,h.len],fun t ht=>h.it t (List.mem_of_mem_drop ht),fun i t hi=>by
  rw[cu] at hi;obtain⟨a,e,hr⟩:=h.row _ t hi;have hl:=(ar.1 hi).1;rw[h.len] at hl;rw[if_neg (by omega),e];refine⟨_,rfl,?_⟩;rw[iD,←Nat.add_mul];exact hr⟩
end Go.Lith
namespace Go.Lith
open Go.RowKit Go.ChangeMaps Go.MapKept
def xK(is:List It):It where
 own b:=∃i∈is,i.own b
 P w:=(∀i∈is,i.P w)∧is.Pairwise Ap
 lt w b h e:=by obtain⟨i,hi,ho⟩:=e;exact i.lt w b (h.1 i hi) ho
 st w w' h s k:=⟨fun i hi=>i.st w w' (h.1 i hi) s fun b hb=>k b ⟨i,hi,hb⟩,h.2⟩
section
variable {w0 w:ah} {a is:List It}
theorem Mem.pack(a:List It)(m:Mem w0 w (a++is)):Mem w0 w (a++[xK is]):=by
 have h:=fg.1 m.nd;refine⟨m.ext,fun i hi=>?_,fun i hi b hb=>?_,fg.2 ⟨h.1,iy _ _,fun x hx y hy b h1 h2=>?_⟩⟩
 · rcases bg.1 hi with hi | hi
   · exact m.all i (f_ _ hi)
   · obtain rfl:=ay.1 hi
     exact⟨fun i hi=>m.all i (fj _ hi),h.2.1⟩
 · rcases bg.1 hi with hi | hi
   · exact m.ge i (f_ _ hi) b hb
   · obtain rfl:=ay.1 hi
     obtain⟨j,hj,hb⟩:=hb;exact m.ge j (fj _ hj) b hb
 · obtain rfl:=ay.1 hy
   obtain⟨j,hj,hb⟩:=h2;exact h.2.2 x hx j hj b h1 hb
theorem Mem.unpack(a:List It)(m:Mem w0 w (a++[xK is])):Mem w0 w (a++is):=by
 have h:=fg.1 m.nd;have hP:(∀i∈is,i.P w)∧is.Pairwise Ap:=m.all _ (fj _ (jx _));refine⟨m.ext,fun i hi=>?_,fun i hi b hb=>?_,fg.2 ⟨h.1,hP.2,fun x hx y hy b h1 h2=>?_⟩⟩
 · rcases bg.1 hi with hi | hi
   · exact m.all i (f_ _ hi)
   · exact hP.1 i hi
 · rcases bg.1 hi with hi | hi
   · exact m.ge i (f_ _ hi) b hb
   · exact m.ge _ (fj _ (jx _)) b ⟨i,hi,hb⟩
 · exact h.2.2 x hx _ (jx _) b h1 ⟨y,hy,h2⟩
end
def sN(P:bc)(f:FuncId)(args:List ac)(w:ah)(R:ac→ah→Prop):Prop :=
 Entr P f∧Calls P f args.toArray w fun e w'=>∃v,e=.returned v∧R v w'
theorem sN.mono{P:bc}{f:FuncId}{args:List ac}{w:ah}{R R':ac→ah→Prop}(h:sN P f args w R)(hr:∀v w',R v w'→R' v w'):sN P f args w R' :=
 ⟨h.1,h.2.mono fun _ _ ⟨v,he,hR⟩=>⟨v,he,hr _ _ hR⟩⟩
section
variable {P:bc} {ds:List cg} {l:List ac} {ty:aj} {w:ah}
variable {ops:Array Oper} {Q:Exit→Act→ah→Prop} {rest:List Oper} {d:Nat} {pos:String} {after:Array Edge}
theorem jB{f:FuncId}{fo:Operand}{xs:Array Operand}{args:List ac}{first cap:Array ac}{a0:Array aj}{R:ac→ah→Prop}(hf:ev l fo=.func (.func f) first cap)(hxs:first.toList++xs.toList.map (ev l)++cap.toList=args)(hc:sN P f args w R)
 (h:∀v u,R v u→ao P ops Q rest (Fr (l.set d v) ds) u):ao P ops Q (Oper.mk (some d) (.call { callee:=.value fo,args:=xs,argTypes:=a0 }) ty pos after none::rest) (Fr l ds) w:=by
 refine wpList_plain rfl fun K hK=>?_;unfold Oper.wp;rw[iY,nA hc.1 hf hxs _ rfl];refine hc.2.mono ?_;rintro e w' ⟨v,rfl,hR⟩;show K ((Fr l ds).put (some d) v) w'
 rw[gE];exact hK _ _ (h v w' hR)
end
end Go.Lith
namespace Go.Lith
section
variable {w0 w:ah} {x y z:It} {is:List It}
theorem Mem.pack1(m:Mem w0 w (x::is)):Mem w0 w [x,xK is]:=Mem.pack [x] m
theorem Mem.unpack2(m:Mem w0 w [x,y,xK is]):Mem w0 w (x::y::is):=Mem.unpack [x,y] m
theorem Mem.pack3(m:Mem w0 w (x::y::z::is)):Mem w0 w [x,y,z,xK is]:=Mem.pack [x,y,z] m
theorem Mem.pack2(m:Mem w0 w (x::y::is)):Mem w0 w [x,y,xK is]:=Mem.pack [x,y] m
theorem Mem.pack4{z2:It}(m:Mem w0 w (x::y::z::z2::is)):Mem w0 w [x,y,z,z2,xK is]:=Mem.pack [x,y,z,z2] m
theorem Mem.unpack4{z2:It}(m:Mem w0 w [x,y,z,z2,xK is]):Mem w0 w (x::y::z::z2::is):=Mem.unpack [x,y,z,z2] m
theorem Mem.unpack3(m:Mem w0 w [x,y,z,xK is]):Mem w0 w (x::y::z::is):=Mem.unpack [x,y,z] m
end
end Go.Lith
namespace Go.Proofs.YtfekpcimgncioaaGreatDoor
open Go.Proofs.Tryz
open Go.RowKit Go.Lith
set_option maxRecDepth 100000
attribute [local irreducible] ao wpQuiet eZ bE bX Code.wp
attribute [local congr] nO fF fG fH fI fJ jH fK fL fM fN fO fP fQ fR fS fT fU dX dY fV fW fY fZ gA jJ cO cP cA cN fX jI dZ eA eB gB gC jK
def Vh(A:Option Addr)(N cap:Nat)(ts:List T3)(w:ah)(v:ac)(w':ah):Prop:=(v=.slice A N cap∧N<2)∨SL 39 9 ((sG ts).flatMap aK) N w v w'
theorem alG{t:T3}(h:IT t):IT (mW t):=by
 unfold mW;split
 · exact⟨h.c,h.a,h.b⟩
 · split
   · exact⟨h.b,h.c,h.a⟩
   · exact h
theorem aht{ts:List T3}(h:∀t∈ts,IT t):∀t∈sG ts,IT t:=fun t ht=>h t ((qT ts).mem_iff.1 ht)
theorem Vh.view{A:Option Addr}{N cap:Nat}{ts:List T3}{w w':ah}{v:ac}(h:Vh A N cap ts w v w')(hT:bK w' A N ts)(hc:N≤cap):∃B c,v=.slice B N c∧bK w' B N (sG ts)∧N≤c:=by
 rcases h with ⟨rfl,h⟩ | ⟨B,c,n,rfl,rfl,hO⟩
 · exact⟨_,_,rfl,by rw[Gu (by rw[hT.len];exact h)];exact hT,hc⟩
 · exact⟨B,c,rfl,hO.tris (aht hT.it),hO.le⟩
theorem aeS{ts:List T3}{N cap:Nat}{A:Option Addr}(w:ah)(ih:∀{us:List T3} {M c:Nat} {B:Option Addr} (u:ah),bK u B M us→M≤c→M<N→dF prog 85 [.slice B M c] u (Vh B M c us u))(hT:bK w A N ts)(hcap:N≤cap)(hN:N≤10000000):dF prog 85 [.slice A N cap] w (Vh A N cap ts w):=by
 refine⟨anO,?_⟩;have m:=Mem.refl w;have htl:=hT.len
 go_enter func85,ntmps85
 refine eS 11 [0,0] m ?_;simp only[↓aD,iS];intro u m;refine bC rfl (fun hc1=>?_) (fun hc1=>?_)
 · skip
   refine aS 6 [] m ?_;simp only[↓aD];intro u m;refine aQ rfl rfl ?_;try simp only[zD,zE]
   exact⟨_,rfl,m.ext,.inl ⟨rfl,by omega⟩⟩
 · skip
   refine aS 5 [0] m ?_;simp only[↓aD,iS];intro u m;refine aB (kF rfl rfl (by omega) (show IntKind.i64.wrap ((N:Int).tdiv 2)=((N / 2:Nat):Int) from (show IntKind.i64.wrap ((N / 2:Nat):Int)=((N / 2:Nat):Int) from bF (by omega) (by omega)))) (aP 3 [0] m ?_);simp only[↓aD];intro u m;refine mh m [] [(0,true),(1,true),(2,true),(4,true),(5,true),(6,true),(3,false),(7,false),(8,false),(9,true)] aC (by kernel_rfl) (bQ (fun _ _ _ _ _ h=>h)) (ol:=?_) ?hol ?_
   case hol=>simp only[zw,zQ,zR];try rfl
   clear m;intro u m;refine aU aI (aU aI ?_);simp only[zz];refine aU (lB bT aN rfl rfl (show _=N / 2 by omega) (by omega) (by omega)) (aU aI (aU aI ?_));simp only[zz];refine aU (qO bT aN rfl rfl (show _=N / 2 by omega) (by omega) (by omega) rfl) (bV ?_);simp only[zz];refine bJ rfl rfl (ih _ ((hT.ext m.ext).takeL (k:=N / 2) (by omega)) (by omega) (by omega)) ?_;rintro v u e hR;replace m:=m.ext' e;obtain⟨A5,c5,rfl,hT5,hc5⟩:=hR.view ((hT.ext m.ext).takeL (k:=N / 2) (by omega)) (by omega);clear e;refine aL (⟨m,?_⟩);refine bV ?_;simp only[zz];refine bJ rfl rfl (ih _ ((hT.ext m.ext).dropL (k:=N / 2) (cap:=cap) (by omega) hcap) (by omega) (by omega)) ?_;rintro v u e hR6;replace m:=m.ext' e;replace hT5:=hT5.ext e;obtain⟨A6,c6,rfl,hT6,hc6⟩:=hR6.view ((hT.ext m.ext).dropL (k:=N / 2) (cap:=cap) (by omega) hcap) (by omega);clear e;refine aL (⟨m,?_⟩);refine bV ?_;simp only[zz];refine bJ rfl rfl (aeR _ hT5 hT6 hc6 (by omega)) ?_;rintro v u e ⟨A7,cap7,n7,hn7,rfl,hN⟩;replace m:=m.newO e hN;clear e hN;refine aL (⟨m.sel [false],?_⟩);refine aU aM (bM ?_);refine tO 1 [] m ?_;simp only[↓aD];rintro u m rfl;refine aQ rfl rfl ?_;try simp only[zD,zE]
   exact⟨_,rfl,m.ext,.inr ⟨A7,cap7,n7,by omega,rfl,by rw[←Vg ts (N / 2)];exact (m.o 0 rfl)⟩⟩
theorem aaZ:∀(n:Nat) {ts:List T3} {N cap:Nat} {A:Option Addr} (w:ah),bK w A N ts→N≤cap→N≤10000000→N<n→dF prog 85 [.slice A N cap] w (Vh A N cap ts w)
 | 0,_,_,_,_,_,_,_,_,h=>absurd h (Nat.not_lt_zero _)
 | n+1,_,N,_,_,w,hT,hc,hN,h=>aeS w (fun u hU hcu hM=>aaZ n u hU hcu (by omega) (by omega)) hT hc hN
theorem alH{w0 w:ah}{A:Option Addr}{N cap:Nat}{xs:List T3}(m:Mem w0 w [oI 39 9 A N cap (xs.flatMap aK)])(hi:∀t∈xs,IT t)(hN:N≤10000000) :
 sN prog 85 [.slice A N cap] w fun v w'=>∃B c,v=.slice B N c∧Mem w0 w' [oI 39 9 B N c ((sG xs).flatMap aK)]:=by
 have hO:=m.o 0 rfl;have hD:=aaZ (N+1) w (hO.tris hi) hO.le hN (Nat.lt_succ_self N);refine⟨hD.1,hD.2.mono ?_⟩;rintro e w' ⟨v,rfl,hE,⟨rfl,h⟩ | ⟨B,c,n,rfl,rfl,hN2⟩⟩
 · exact⟨_,rfl,A,cap,rfl,by rw[Gu (by rw[(hO.tris hi).len];exact h)];exact m.ext' hE⟩
 · exact⟨_,rfl,B,c,rfl,(m.newO hE hN2).sel [true,false]⟩
theorem Kx{ts:List T3}{N cap:Nat}{A:Option Addr}(w:ah)(hT:bK w A N ts)(hN:N≤10000000):dF prog 40 [.slice A N cap] w (SL 39 9 ((dA ts).flatMap aK) ts.length w):=by
 refine⟨ank,?_⟩;have m:=Mem.refl w;have htl:=hT.len
 go_enter func40,ntmps40
 refine eS 6 [0] m ?_;simp only[↓aD];intro u m;refine aB aM ?_;replace m:=m.nilO 39 9;refine aP 7 [0] m ?_;simp only[↓aD];intro u m;refine bW [3,4] [5,6,7,8,9,10,11,12,13,14,15,16,17,18] (fun n vs wl=>∃(k:Nat) (A1:Option Addr) (cap1:Nat),vs=[.slice A1 k cap1,.int .i64 (k:Int)]∧Mem w wl [oI 39 9 A1 k cap1 (((ts.take k).map mW).flatMap aK)]∧(k≤N)∧(n=N-k)) ?_ ?_
 · skip
   apply Exists.intro;simp only[zQ,zR,zD,zE];exact⟨0,_,_,rfl,m,cd _,rfl⟩
 · intro n vs wr hI u K1 hK1
   clear m;obtain⟨k,A1,cap1,rfl,m,hk,hn⟩:=hI;simp only[zu,zF,zG];refine aS 8 [0,0] m ?_;simp only[↓aD,iS];intro u m;refine bC rfl (fun hc1=>?_) (fun hc1=>?_)
   · skip
     obtain⟨t,ht,_,a,hA,hrow⟩:=hT.get (i:=k) (by omega);subst hA;refine aS 7 [0] m ?_;simp only[↓aD];intro u m;refine aB (aF bT aN rfl rfl (by omega) (by omega) (cI (ag _))) ?_;simp only[zz];refine aO rfl ((hrow.ext m.ext).lies cF aN) ?_;simp only[zz];refine kA m rfl rfl (acf (t:=t)) ?_;clear m;intro u m;simp only[zz];refine eF rfl ?_;intro u g1 e hg hB;replace m:=m.newB e hg hB;clear e hg hB;simp only[zz];refine bR m 1 rfl rfl bT iA rfl (by decide) rfl rfl rfl (m.b 0 rfl).rowsO (jM rfl) (by omega) (by omega) ?_;clear m;intro A1 cap1 u m;simp only[zF,zG] at m;rw[show ((ts.take k).map mW).flatMap aK++_=((ts.take (k+1)).map mW).flatMap aK by rw[cC ht,List.map_append,av];rfl] at m;refine aP 8 [0] m ?_;simp only[↓aD];refine⟨by omega,?_⟩;intro u m;refine hK1 (N-(k+1)) _ _ ?_ ?_ ?_
     · omega
     · simp only[zz,zv]
     · simp only[zQ,zR,zD,zE]
       exact⟨k+1,_,_,rfl,(m.sel [false,true]),by omega,rfl⟩
   · skip
     obtain rfl:k=N:=by omega
     rw[show ts.take k=ts from be (by omega)] at m;refine aS 4 [0] m ?_;simp only[↓aD];intro u m;refine jB rfl rfl (alH m (fun t ht=>by obtain⟨s,hs,rfl⟩:=dj.1 ht;exact alG (hT.it s hs)) (by omega)) ?_;clear m;rintro v u ⟨A4,cap4,rfl,m⟩;refine aP 3 [] m ?_;simp only[↓aD];intro u m;exact aQ rfl rfl (⟨_,rfl,m.ext,⟨_,_,_,htl.symm,rfl,(m.o 0 rfl)⟩⟩)
end Go.Proofs.YtfekpcimgncioaaGreatDoor
namespace Go.Lith
open Go.RowKit
/-! ### Corners in order -/
theorem aa0{p:P3}:∀{ps:List P3},rN ps→(ps.dropWhile fun x=>decide (x.Lt p)).head? ≠ some p→∀x∈ps.dropWhile fun x=>decide (x.Lt p),p.Lt x
 | [],_,_,x,h=>by cases h
 | y::ys,hs,hp,x,h=>by
  obtain⟨h1,h2⟩:=bj.1 hs;rw[List.dropWhile_cons] at h hp;split at h
  · rename_i hy
    rw[if_pos hy] at hp;exact aa0 h2 hp x h
  · rename_i hy
    rw[if_neg hy] at hp;have hy':p.Lt y:=by
     rcases lt_tri y p with k | k | k
     · exact absurd (decide_eq_true k) hy
     · rw[k] at hp;exact absurd rfl hp
     · exact k
    rcases ak.1 h with rfl | h
    · exact hy'
    · exact P3.lt_trans hy' (h1 x h)
theorem uU{ps:List P3}{p:P3}(hs:rN ps):rN (gD ps p):=by
 unfold gD;split
 · exact hs
 · rename_i hp
   have hd:(ps.drop (Uc ps p))=ps.dropWhile fun x=>decide (x.Lt p):=Ri ps;have ht:(ps.take (Uc ps p))=ps.takeWhile fun x=>decide (x.Lt p):=Rh ps;have h0:=hs;rw[rN,←List.takeWhile_append_dropWhile (p:=fun x=>decide (x.Lt p)) (l:=ps)] at h0;obtain⟨h1,h2,h3⟩:=fg.1 h0;have hg:=aa0 (p:=p) hs (by rw[←hd,List.head?_drop];exact hp);have hl:∀x∈ps.takeWhile fun x=>decide (x.Lt p),x.Lt p:=fun x hx=>of_decide_eq_true (Ym (p:=fun x:P3=>decide (x.Lt p)) hx);rw[hd,ht];refine fg.2 ⟨fg.2 ⟨h1,iy _ _,fun x hx y hy=>?_⟩,h2,fun x hx y hy=>?_⟩
   · rw[ay.1 hy];exact hl x hx
   · rcases bg.1 hx with hx | hx
     · exact h3 x hx y hy
     · rw[ay.1 hx];exact hg y hy
theorem Ky(ts:List T3):rN (dJ ts):=by
 have:∀(ts:List T3) (ps:List P3),rN ps→rN (ts.foldl (fun ps t=>gD (gD (gD ps t.a) t.b) t.c) ps):=by
  intro ts
  induction ts with
  | nil=>exact fun ps h=>h
  | cons t ts ih=>exact fun ps h=>ih _ (uU (uU (uU h)))
 exact this ts [] ji
/-! ### Lists turned,mapped,chosen from -/
/-! ### Closed sets in place of rings -/
/-! ### A path in a corner's place -/
section
variable {u c1 c2:P3} {A P N N':P3→P3→Prop}
end
section
variable {us:List T3} {u v c1 c2:P3}
/-! ### The corners behind each other,afterwards -/
/-! ### Edges -/
/-! ### No edge twice -/
end
section
variable {us:List T3} {u v c1 c2:P3}
/-! ### Round each corner -/
end
/-! ### From the conditions -/
/-! ### Edges,each once -/
/-! ### Triangles -/
section
variable {us:List T3} {u v c1 c2:P3}
theorem Nd(ts:List T3):(dJ ts).Nodup:=by
 have h:=Ky ts;unfold rN at h;refine List.Pairwise.imp (S:=fun a b:P3=>a≠b) (fun {a b} k e=>?_) h;rw[e] at k;exact P3.lt_irrefl b k
end
/-! ### All along -/
/-! ### The ends of fans -/
/-! ### Accepted -/
theorem acg{l:List T3}{t:T3}:t∈dA l↔∃s∈l,mW s=t:=by
 rw[(uR l).mem_iff,dj]
/-! ### The moves in order -/
theorem Ff(p:P3):∀l:List P3,(aca p l).Perm (p::l)
 | []=>.refl _
 | q::l=>by
  rw[aca];split
  · exact ((Ff p l).cons q).trans (.swap ..)
  · exact .refl _
theorem oJ:∀l:List P3,(vK l).Perm l
 | []=>.refl _
 | p::l=>(Ff p _).trans ((oJ l).cons p)
theorem Gv{p:P3}:∀{l:List P3},l.Pairwise P3.Lt→p∉l→(aca p l).Pairwise P3.Lt
 | [],_,_=>iy _ _
 | q::l,h,hn=>by
  rw[aca];obtain⟨h1,h2⟩:=bj.1 h;split
  · rename_i k
    refine bj.2 ⟨fun x hx=>?_,Gv h2 fun k=>hn (bm _ k)⟩;rcases ak.1 ((Ff p l).subset hx) with rfl | hx
    · exact k
    · exact h1 x hx
  · rename_i k
    have hq:p.Lt q:=by
     rcases lt_tri q p with e | e | e
     · exact absurd e k
     · exact absurd (e▸bp ..) hn
     · exact e
    refine bj.2 ⟨fun x hx=>?_,h⟩;rcases ak.1 hx with rfl | hx
    · exact hq
    · exact P3.lt_trans hq (h1 x hx)
theorem Dh:∀{l:List P3},l.Nodup→(vK l).Pairwise P3.Lt
 | [],_=>ji
 | p::l,h=>by
  obtain⟨h1,h2⟩:=gm.1 h;exact Gv (Dh h2) fun k=>h1 ((oJ l).mem_iff.1 k)
theorem Ze(D:List Mv):(kW D).map (·.1)=vK (D.map (·.1)):=by
 unfold kW;rw[List.map_map];exact List.map_id _
theorem yK(D:List Mv):(kW D).length=D.length:=by
 have:=congrArg List.length (Ze D);rw[ct,(oJ _).length_eq,ct] at this;exact this
/-! ### Boxes -/
/-! ### What clear says -/
/-! ### The corners of a triangle,in order -/
/-! ### The same conditions -/
theorem Zf{l:List T3}{q:P3→List Int}{cs:List jW}{c:jW}{k:Nat}(hm:∀d,d∈cs↔d∈Vb l q)(hs:cs.Pairwise fun a b=>¬b.Lt a)(hk:cs[k]? = some c)(ha:cE l c.u c.v=true)(hb:∀j d,j<k→cs[j]? = some d→cE l d.u d.v=false):sK l q=some c:=by
 refine ahp (di.2 ⟨(hm c).1 (ba hk),ha⟩) fun d hd hlt=>?_;obtain⟨h1,h2⟩:=di.1 hd;obtain⟨j,hj⟩:=dm.1 ((hm d).2 h1);rcases Nat.lt_trichotomy j k with h | h | h
 · rw[hb j d h hj] at h2;cases h2
 · rw[h,hk] at hj;cases hj;exact jW.lt_irrefl _ hlt
 · obtain⟨kl,rfl⟩:=ar.1 hk
   obtain⟨jl,rfl⟩:=ar.1 hj;exact List.pairwise_iff_getElem.1 hs k j kl jl h hlt
theorem Zg{l:List T3}{q:P3→List Int}{cs:List jW}(hm:∀d,d∈cs↔d∈Vb l q)(hb:∀d∈cs,cE l d.u d.v=false):sK l q=none:=by
 refine yI.2 (List.filter_eq_nil_iff.2 fun d hd=>?_);rw[hb d ((hm d).2 hd)];exact iq
/-! ### The example: the octahedron -/
def oct(n:Int):List T3 :=
 let x0:P3:=⟨-n,0,0⟩;let x1:P3:=⟨n,0,0⟩;let y0:P3:=⟨0,-n,0⟩;let y1:P3:=⟨0,n,0⟩;let z0:P3:=⟨0,0,-n⟩;let z1:P3:=⟨0,0,n⟩
 [⟨y0,x0,z0⟩,⟨x1,y0,z0⟩,⟨x0,y1,z0⟩,⟨y1,x1,z0⟩,⟨x0,y0,z1⟩,⟨y0,x1,z1⟩,⟨y1,x0,z1⟩,⟨x1,y1,z1⟩]
def yX:List T3:=dA (oct 10)
theorem ach:iH true yX=0:=by kernel_rfl
theorem ahu:cE yX ⟨10,0,0⟩ ⟨0,10,0⟩=true:=by kernel_rfl
theorem ahv:cE yX ⟨10,0,0⟩ ⟨-10,0,0⟩=false:=by kernel_rfl
theorem ahw:(yU yX ⟨10,0,0⟩ ⟨0,10,0⟩).length=6:=by kernel_rfl
theorem Vi:((mT yX 7).1.length,(mT yX 7).2)=(6,[(⟨-10,0,0⟩,⟨0,-10,0⟩)]):=by kernel_rfl
end Go.Lith
namespace Go.Proofs.YtfekpcimgncioaaGreatDoor
open Go.Proofs.Tryz
open Go.RowKit Go.Lith
set_option maxRecDepth 100000
attribute [local irreducible] ao wpQuiet eZ bE bX Code.wp
attribute [local congr] nO fF fG fH fI fJ jH fK fL fM fN fO fP fQ fR fS fT fU dX dY fV fW fY fZ gA jJ cO cP cA cN fX jI dZ eA eB gB gC jK
theorem ahx{s t:E3}(h:¬¬(s.1.x=t.1.x∧s.1.y=t.1.y∧s.1.z=t.1.z∧s.2.x=t.2.x∧s.2.y=t.2.y∧s.2.z=t.2.z)):s=t:=by
 obtain⟨h1,h2,h3,h4,h5,h6⟩:=Classical.not_not.1 h;exact Prod.ext (P3.eq h1 h2 h3) (P3.eq h4 h5 h6)
theorem ahy{s t:E3}(h:¬(s.1.x=t.1.x∧s.1.y=t.1.y∧s.1.z=t.1.z∧s.2.x=t.2.x∧s.2.y=t.2.y∧s.2.z=t.2.z)):s≠t:=fun k=>h (by rw[k];simp only[and_self])
theorem aeU{α:Type}{xs ys:List α}{k:Nat}(h:xs.take k=ys.take k)(hx:xs.length≤k)(hy:ys.length≤k):xs=ys:=by rwa [be hx,be hy] at h
theorem aoZ{n k:Int}(hi:oV n)(h0:0<k)(h1:k<4611686018427387904):eM prog 53 [.int .i64 n,.int .i64 k] (.int .i64 (n%k)):=by
 intro w;refine⟨anq,?_⟩;have m:=Mem.refl w;haveI:Iw n:=⟨hi⟩
 have hb:=aip (n:=n) h0
 go_enter func53,ntmps53
 refine eS 8 [0] m ?_;simp only[↓aD];intro u m;refine aB (cU rfl rfl (by omega) rfl) (aP 3 [0] m ?_);simp only[↓aD];refine⟨by omega,?_⟩;intro u m;refine aB (cU rfl rfl (by omega) (agR h0)) (aP 3 [] m ?_);simp only[↓aD];intro u m;exact aQ rfl rfl (⟨_,rfl,m.ext,rfl⟩)
theorem aeV{xs ys:List E3}{N M cap cap2:Nat}{A A2:Option Addr}(w:ah)(hT:vH cM 6 w A N xs)(hU:vH cM 6 w A2 M ys)(hN:N≤100000000):dF prog 26 [.slice A N cap,.slice A2 M cap2] w (fun v _=>v=.bool (decide (xs=ys))):=by
 refine⟨anb,?_⟩;have m:=Mem.refl w;have hxl:=hT.len;have hyl:=hU.len
 go_enter func26,ntmps26
 refine eS 13 [0,0] m ?_;simp only[↓aD,aiE];intro u m;refine bC rfl (fun hc1=>?_) (fun hc1=>?_)
 · skip
   refine aS 5 [] m ?_;simp only[↓aD];intro u m;refine aQ rfl rfl ?_;try simp only[zD,zE]
   exact⟨_,rfl,m.ext,by rw[decide_eq_false (fun h=>hc1 (by subst h;omega))]⟩
 · skip
   refine aS 7 [0] m ?_;simp only[↓aD];intro u m;refine bW [5] [4,11,12,13,14,15,16,17,18,19,20,21,22,23,24,25] (fun n vs wl=>∃(k:Nat),vs=[.int .i64 (k:Int)]∧Mem w wl []∧(xs.take k=ys.take k)∧(k≤N)∧(n=N-k)) ?_ ?_
   · skip
     apply Exists.intro;simp only[zQ,zR,zD,zE];exact⟨0,rfl,m,(by simp),cd _,rfl⟩
   · intro n vs wr hI u K1 hK1
     clear m;obtain⟨k,rfl,m,hq,hk,hn⟩:=hI;simp only[zu,zF,zG];refine aS 8 [0,0] m ?_;simp only[↓aD,aiE];intro u m;refine bC rfl (fun hc2=>?_) (fun hc2=>?_)
     · skip
       obtain⟨x,hx,a,hA1,hrow1⟩:=hT.get (i:=k) (by omega);subst hA1;obtain⟨y,hy,a2,hA2,hrow2⟩:=hU.get (i:=k) (by omega);subst hA2;refine aS 4 [0] m ?_;simp only[↓aD];intro u m;refine mq m aC (by kernel_rfl) (aH aI (aH aI ?_));simp only[zz];refine aH (aF underlying46 Cp rfl rfl (by omega) (by omega) (cI (ag _))) ?_;simp only[zz];refine ql rfl (fun u m=>(show gM _ _ _ _ (ed x) from (hrow1.ext m.ext).lies adM Cp)) ?_;simp only[zz];refine aH aI (aH aI ?_);simp only[zz];refine aH (aF underlying46 Cp rfl rfl (by omega) (by omega) (cI (ag _))) ?_;simp only[zz];refine ql rfl (fun u m=>(show gM _ _ _ _ (ed y) from (hrow2.ext m.ext).lies adM Cp)) ?_;simp only[zz];refine aH (abU rfl rfl) (aY ?_);clear m;intro u m;refine gc ?_;simp only[zz];refine bC rfl (fun hc3=>?_) (fun hc3=>?_)
       · skip
         refine aS 5 [] m ?_;simp only[↓aD];intro u m;refine aQ rfl rfl ?_;try simp only[zD,zE]
         exact⟨_,rfl,m.ext,by rw[decide_eq_false (fun h=>ahy hc3 (by subst h;exact Option.some.inj (hx.symm.trans hy)))]⟩
       · skip
         have hxy:x=y:=ahx hc3;subst hxy;refine aS 7 [0] m ?_;simp only[↓aD];refine⟨by omega,?_⟩;intro u m;refine hK1 (N-(k+1)) _ _ ?_ ?_ ?_
         · omega
         · simp only[zz,zv]
         · simp only[zQ,zR,zD,zE]
           exact⟨k+1,rfl,m,(by rw[cC hx,cC hy,hq]),by omega,rfl⟩
     · skip
       refine aS 6 [] m ?_;simp only[↓aD];intro u m;refine aQ rfl rfl ?_;try simp only[zD,zE]
       exact⟨_,rfl,m.ext,by rw[decide_eq_true (aeU hq (by omega) (by omega))]⟩
theorem Kz{k:Nat}(h:k<8):IntKind.i64.wrap (db IntKind.i64.bits (k:Int) &&& db IntKind.i64.bits 1).toNat=((k%2:Nat):Int):=by
 rcases k with _ | _ | _ | _ | _ | _ | _ | _ | k <;> first | rfl | omega
theorem Zh{k:Nat}:Int.fdiv (k:Int) (2^min (ja 1) IntKind.i64.bits)=((k / 2:Nat):Int):=by
 rw[show (2:Int)^min (ja 1) IntKind.i64.bits=2 from rfl,fx _ (by decide)];rfl
theorem Sb{k:Nat}:Int.fdiv (k:Int) (2^min (ja 2) IntKind.i64.bits)=((k / 4:Nat):Int):=by
 rw[show (2:Int)^min (ja 2) IntKind.i64.bits=4 from rfl,fx _ (by decide)];rfl
theorem aeW{w:ah}{g i:Nat}{x y z u v t:Int}{T:aj}(hB:fA w g [.int .i64 x,.int .i64 y,.int .i64 z,.int .i64 u,.int .i64 v,.int .i64 t] T)(hi:i<2):gM prog w 30 ⟨g,i*3,none⟩ (pt (if i=0 then ⟨x,y,z⟩ else ⟨u,v,t⟩)):=by
 rcases i with _ | _ | i
 · exact hB.lies aG aA rfl rfl
 · exact hB.lies aG aA rfl rfl
 · omega
def alI(k:Nat):P3:=if k%2=0 then ⟨-10,0,0⟩ else ⟨10,0,0⟩
def alJ(k:Nat):P3:=if k / 2%2=0 then ⟨0,-10,0⟩ else ⟨0,10,0⟩
def alK(k:Nat):P3:=if k / 4=0 then ⟨0,0,-10⟩ else ⟨0,0,10⟩
theorem o_y{k:Nat}(h:k<8)(hp:Int.tmod (((k%2:Nat):Int)+((k / 2%2:Nat):Int)+((k / 4:Nat):Int)) 2=1):(oct 10)[k]? = some ⟨alI k,alJ k,alK k⟩:=by
 rcases k with _ | _ | _ | _ | _ | _ | _ | _ | k <;> first | rfl | (revert hp;decide) | omega
theorem o_n{k:Nat}(h:k<8)(hp:¬Int.tmod (((k%2:Nat):Int)+((k / 2%2:Nat):Int)+((k / 4:Nat):Int)) 2=1):(oct 10)[k]? = some ⟨alJ k,alI k,alK k⟩:=by
 rcases k with _ | _ | _ | _ | _ | _ | _ | _ | k <;> first | rfl | (revert hp;decide) | omega
theorem aeX:∀t∈oct 10,IT t:=fun t ht=>by
 simp only[oct,ak,bw,or_false] at ht;rcases ht with rfl | rfl | rfl | rfl | rfl | rfl | rfl | rfl <;> exact⟨⟨by decide,by decide,by decide⟩,⟨by decide,by decide,by decide⟩,⟨by decide,by decide,by decide⟩⟩
theorem alL(w:ah):dF prog 47 [.int .i64 10] w (SL 39 9 (yX.flatMap aK) 8 w):=by
 refine⟨anl,?_⟩;have m:=Mem.refl w
 go_enter func47,ntmps47
 refine eS 12 [] m ?_;simp only[↓aD,tQ,Aq,aa];refine⟨by omega,?_⟩;intro u m;refine cR 10 [0] m ?_;simp only[↓aD,Pa,An,tQ,aa];intro g1;refine⟨by omega,?_⟩;intro u m;refine cR 9 [0] m ?_;simp only[↓aD,Aq,Pa,An,tQ,aa];intro g2;refine⟨by omega,?_⟩;intro u m;refine cR 5 [0] m ?_;simp only[↓aD,tQ,Aq,Pa,An,aa];intro g3;intro u m;refine cR 3 [0] m ?_;simp only[↓aD];intro u m;refine aB aM ?_;replace m:=m.nilO 39 9;refine aP 7 [0] m ?_;simp only[↓aD];intro u m;refine bW [6,7] [8,9,10,29,30,31,32,33,34,35,36,37,38,39,40,41,42,43,44,45,46,47,48,49,50,51,52,53,54,55,56,57,58,59,60,61,62,63,64,65,66,67,68,69,70] (fun n vs wl=>∃(k:Nat) (A6:Option Addr) (cap6:Nat),vs=[.slice A6 k cap6,.int .i64 (k:Int)]∧Mem w wl [oI 39 9 A6 k cap6 (((oct 10).take k).flatMap aK),bI g3 [.int .i64 0,.int .i64 0,.int .i64 (-10),.int .i64 0,.int .i64 0,.int .i64 10] 56,bI g2 [.int .i64 0,.int .i64 (-10),.int .i64 0,.int .i64 0,.int .i64 10,.int .i64 0] 56,bI g1 [.int .i64 (-10),.int .i64 0,.int .i64 0,.int .i64 10,.int .i64 0,.int .i64 0] 56]∧(k≤8)∧(n=8-k)) ?_ ?_
 · skip
   apply Exists.intro;simp only[zQ,zR,zD,zE];exact⟨0,_,_,rfl,m,cd _,rfl⟩
 · intro n vs wr hI u K1 hK1
   clear m;obtain⟨k,A6,cap6,rfl,m,hk,hn⟩:=hI;simp only[zu,zF,zG];refine aS 6 [0,0] m ?_;simp only[↓aD];intro u m;refine bC rfl (fun hc1=>?_) (fun hc1=>?_)
   · skip
     have hk8:k<8:=by omega
     refine aS 6 [0] m ?_;simp only[↓aD];intro u m;refine aB (jY rfl rfl (Kz hk8)) ?_;simp only[zz];refine aB (aJ Ge aA rfl rfl (by omega) (by omega) (nG (ag _))) ?_;simp only[zz];refine aO rfl (show gM _ _ _ _ (pt (alI k)) from aeW (m.b 3 rfl) (ku _ (by decide))) ?_;simp only[zz];refine aP 6 [0,0] m ?_;simp only[↓aD,eU,aR,aa];intro g4;intro u m;refine aB (jQ rfl rfl (by omega) Zh) (aB (jY rfl rfl (Kz (k:=k / 2) (by omega))) ?_);simp only[zz];refine aB (aJ Ge aA rfl rfl (by omega) (by omega) (nG (ag _))) ?_;simp only[zz];refine aO rfl (show gM _ _ _ _ (pt (alJ k)) from aeW (m.b 3 rfl) (ku _ (by decide))) ?_;simp only[zz];refine aP 6 [0,0] m ?_;simp only[↓aD,eU,aR,aa];intro g5;intro u m;refine aB (jQ rfl rfl (by omega) Sb) ?_;simp only[zz];refine aB (aJ Ge aA rfl rfl (by omega) (by omega) (nG (ag _))) ?_;simp only[zz];refine aO rfl (show gM _ _ _ _ (pt (alK k)) from aeW (m.b 3 rfl) (by omega)) ?_;simp only[zz];refine aP 6 [0,0] m ?_;simp only[↓aD,eU,aR,aa];intro g6;intro u m;refine aB (jY rfl rfl (Kz hk8)) (aP 1 [0] m ?_);simp only[↓aD];intro u m;refine aB (jQ rfl rfl (by omega) Zh) (aB (jY rfl rfl (Kz (k:=k / 2) (by omega))) ?_);refine aP 2 [0] m ?_;simp only[↓aD];refine⟨by omega,?_⟩;intro u m;refine aB (jQ rfl rfl (by omega) Sb) (aP 1 [0] m ?_);simp only[↓aD];refine⟨by omega,?_⟩;intro u m;refine aB (cU rfl rfl (by omega) rfl) (aP 2 [0,0] m ?_);simp only[↓aD];intro u m;refine bC rfl (fun hc2=>?_) (fun hc2=>?_)
     · skip
       have hx:=o_y hk8 hc2;refine aS 6 [2,1,0,0] m ?_;simp only[↓aD,aR,pS,aa];intro u m;refine eF rfl ?_;intro u g7 e hg hB;replace m:=m.newB e hg hB;clear e hg hB;simp only[zz];refine bR m 4 rfl rfl bT iA rfl (by decide) rfl rfl rfl (m.b 0 rfl).rowsO (jM rfl) (by omega) (by omega) ?_;clear m;intro A6 cap6 u m;simp only[zF,zG] at m;rw[show ((oct 10).take k).flatMap aK++_=((oct 10).take (k+1)).flatMap aK by rw[cC hx,av];rfl] at m;refine aP 8 [0] m ?_;simp only[↓aD];refine⟨by omega,?_⟩;intro u m;refine hK1 (8-(k+1)) _ _ ?_ ?_ ?_
       · omega
       · simp only[zz,zv]
       · simp only[zQ,zR,zD,zE]
         exact⟨k+1,_,_,rfl,(m.sel [false,false,false,false,true,true,true,true]),by omega,rfl⟩
     · skip
       have hx:=o_n hk8 hc2;refine aS 6 [1,2,0,0] m ?_;simp only[↓aD,aR,pS,aa];intro u m;refine eF rfl ?_;intro u g7 e hg hB;replace m:=m.newB e hg hB;clear e hg hB;simp only[zz];refine bR m 4 rfl rfl bT iA rfl (by decide) rfl rfl rfl (m.b 0 rfl).rowsO (jM rfl) (by omega) (by omega) ?_;clear m;intro A6 cap6 u m;simp only[zF,zG] at m;rw[show ((oct 10).take k).flatMap aK++_=((oct 10).take (k+1)).flatMap aK by rw[cC hx,av];rfl] at m;refine aP 8 [0] m ?_;simp only[↓aD];refine⟨by omega,?_⟩;intro u m;refine hK1 (8-(k+1)) _ _ ?_ ?_ ?_
       · omega
       · simp only[zz,zv]
       · simp only[zQ,zR,zD,zE]
         exact⟨k+1,_,_,rfl,(m.sel [false,false,false,false,true,true,true,true]),by omega,rfl⟩
   · skip
     obtain rfl:k=8:=by omega
     refine aS 4 [0] m ?_;simp only[↓aD];intro u m;refine bJ rfl rfl (Kx (ts:=oct 10) _ ((m.o 0 rfl).tris aeX) (by decide)) ?_;rintro v u e ⟨A8,cap8,n8,hn8,rfl,hN⟩;replace m:=m.newO e hN;clear e hN;refine aP 3 [] m ?_;simp only[↓aD];intro u m;exact aQ rfl rfl (⟨_,rfl,m.ext,⟨_,_,_,hn8,rfl,(m.o 0 rfl)⟩⟩)
end Go.Proofs.YtfekpcimgncioaaGreatDoor
namespace Go.Lith
open Go.RowKit
def Hl(e:Nat):List Nat :=
 let v:=e%8
 let p:=[2*(v%2),v / 2%2*2,v / 4*2]
 p.set (e / 8) ((p.getD (e / 8) 0)+1)
def ahz(v axis:Nat):Nat:=(if v / 2^axis%2=1 then v-2^axis else v)+8*axis
end Go.Lith
namespace Go.Proofs.YtfekpcimgncioaaGreatDoor
open Go.Proofs.Tryz
open Go.RowKit Go.Lith
set_option maxRecDepth 100000
attribute [local irreducible] ao wpQuiet eZ bE bX Code.wp
attribute [local congr] nO fF fG fH fI fJ jH fK fL fM fN fO fP fQ fR fS fT fU dX dY fV fW fY fZ gA jJ cO cP cA cN fX jI dZ eA eB gB gC jK
theorem La:IntKind.i64.wrap (1*2^min (ja 2) IntKind.i64.bits)=4:=by decide
section
variable {P:bc} {l:List ac} {x y:Operand} {T T' ty:aj} {k:IntKind} {m n r:Int}
theorem aeY(hx:ev l x=.int k m)(hy:ev l y=.int k n)(hr:k.wrap ((db k.bits m &&& ~~~ db k.bits n).toNat:Int)=r):gI P l (.binOp .andNot T x y T') ty (.int k r):=fun w o ho _=>by
 subst hr;simp[execOp,ho,bS,hx,hy,eqGuard,binOp,Op.intBits]
end
theorem aiI{a:Nat}(h:a<3):IntKind.i64.wrap (1*2^min (ja (a:Int)) IntKind.i64.bits)=((2^a:Nat):Int):=by
 rcases a with _ | _ | _ | a <;> first | rfl | omega
def evN(v a:Nat):Nat:=if v / 2^a%2=1 then v-2^a else v
theorem aeZ(v a:Nat):evN v a≤v:=by unfold evN;split;exact Nat.sub_le ..;exact ap _
theorem aop{v a:Nat}(hv:v<8)(h:a<3):IntKind.i64.wrap ((db IntKind.i64.bits (v:Int) &&& ~~~ db IntKind.i64.bits ((2^a:Nat):Int)).toNat:Int)=((evN v a:Nat):Int):=by
 rcases a with _ | _ | _ | a <;> rcases v with _ | _ | _ | _ | _ | _ | _ | _ | v <;> first | rfl | omega
theorem aoq(v a:Nat):((evN v a:Nat):Int)+8*(a:Int)=((ahz v a:Nat):Int):=by rw[show ahz v a=evN v a+8*a from rfl];omega
theorem tS{x y z:Nat}(hx:x≤100)(hy:y≤100)(hz:z≤100):eM prog 144 [.int .i64 2,.int .i64 (x:Int),.int .i64 (y:Int),.int .i64 (z:Int)] (.int .i64 (((z*5+y)*5+x:Nat):Int)):=by
 intro w;refine⟨ajM,?_⟩;have m:=Mem.refl w
 go_enter func144,ntmps144
 refine eS 7 [0] m ?_;simp only[↓aD];intro u m;refine aB (nZ rfl rfl (by omega) La) (aP 17 [] m ?_);simp only[↓aD];refine⟨by omega,?_⟩;intro u m;refine aQ rfl rfl ?_;try simp only[zD,zE]
 exact⟨_,rfl,m.ext,by simp⟩
theorem xL{v a:Nat}(hv:v<8)(ha:a<3):eM prog 287 [.int .i64 (v:Int),.int .i64 (a:Int)] (.int .i64 ((ahz v a:Nat):Int)):=by
 intro w;refine⟨akz,?_⟩;have m:=Mem.refl w;have he:=aeZ v a
 go_enter func287,ntmps287
 refine eS 8 [0] m ?_;simp only[↓aD];intro u m;refine aB (nZ rfl rfl (by omega) (aiI ha)) ?_;simp only[zz];refine aB (aeY rfl rfl (aop hv ha)) ?_;simp only[zz];refine aP 6 [] m ?_;simp only[↓aD];refine⟨by omega,?_⟩;intro u m;refine aQ rfl rfl ?_;try simp only[zD,zE]
 exact⟨_,rfl,m.ext,by rw[←aoq]⟩
theorem alM{k:Nat}(h:k<8):IntKind.i64.wrap (db IntKind.i64.bits (k:Int) &&& db IntKind.i64.bits 2).toNat=((k / 2%2*2:Nat):Int):=by
 rcases k with _ | _ | _ | _ | _ | _ | _ | _ | k <;> first | rfl | omega
def plV(e:Nat):ac:=.agg #[.int .i64 (((Hl e).getD 0 0:Nat):Int),.int .i64 (((Hl e).getD 1 0:Nat):Int),.int .i64 (((Hl e).getD 2 0:Nat):Int)]
theorem aor{e:Nat}(h:e<24):(Hl e).getD 0 0≤3∧(Hl e).getD 1 0≤3∧(Hl e).getD 2 0≤3:=by
 have:∀e,e<24→(Hl e).getD 0 0≤3∧(Hl e).getD 1 0≤3∧(Hl e).getD 2 0≤3:=by decide
 exact this e h
theorem aos{e:Nat}(h:e<24):0≤([2*((e%8%2:Nat):Int),((e%8 / 2%2*2:Nat):Int),((e%8 / 4:Nat):Int)*2]:List Int).getD (e / 8) 0∧([2*((e%8%2:Nat):Int),((e%8 / 2%2*2:Nat):Int),((e%8 / 4:Nat):Int)*2]:List Int).getD (e / 8) 0≤3:=by
 have:∀e:Nat,e<24→0≤([2*((e%8%2:Nat):Int),((e%8 / 2%2*2:Nat):Int),((e%8 / 4:Nat):Int)*2]:List Int).getD (e / 8) 0∧([2*((e%8%2:Nat):Int),((e%8 / 2%2*2:Nat):Int),((e%8 / 4:Nat):Int)*2]:List Int).getD (e / 8) 0≤3:=by decide
 exact this e h
theorem ahA{e:Nat}(h:e<24):over [la .i64 (2*((e%8%2:Nat):Int)),.int .i64 ((e%8 / 2%2*2:Nat):Int),.int .i64 (((e%8 / 4:Nat):Int)*2)] (e / 8) [la .i64 (([2*((e%8%2:Nat):Int),((e%8 / 2%2*2:Nat):Int),((e%8 / 4:Nat):Int)*2]:List Int).getD (e / 8) 0+1)]=[.int .i64 (((Hl e).getD 0 0:Nat):Int),.int .i64 (((Hl e).getD 1 0:Nat):Int),.int .i64 (((Hl e).getD 2 0:Nat):Int)]:=by
 rcases e with _ | _ | _ | _ | _ | _ | _ | _ | _ | _ | _ | _ | _ | _ | _ | _ | _ | _ | _ | _ | _ | _ | _ | _ | e <;> first | rfl | omega
theorem aiJ{w:ah}{g i:Nat}{a c d:Int}{T:aj}(hB:fA w g [.int .i64 a,.int .i64 c,.int .i64 d] T)(hi:i<3):gM prog w 3 ⟨g,i,none⟩ (.int .i64 (([a,c,d]:List Int).getD i 0)):=by
 rcases i with _ | _ | _ | i
 · exact hB.lies1 bN rfl
 · exact hB.lies1 bN rfl
 · exact hB.lies1 bN rfl
 · omega
theorem aci{e:Nat}(he:e<24):eM prog 289 [.int .i64 (e:Int)] (plV e):=by
 intro w;refine⟨akB,?_⟩;have m:=Mem.refl w;have hb:=aos he
 go_enter func289,ntmps289
 refine eS 7 [0] m ?_;simp only[↓aD,Gr];intro g1;intro u m;refine aB (cU rfl rfl (by omega) (aiq (k:=e))) (aP 5 [0] m ?_);simp only[↓aD];intro u m;refine aB (jY rfl rfl (Kz (k:=e%8) (by omega))) (aP 2 [0] m ?_);simp only[↓aD];refine⟨by omega,?_⟩;intro u m;refine aB (jY rfl rfl (alM (k:=e%8) (by omega))) (aP 1 [0] m ?_);simp only[↓aD];intro u m;refine aB (jQ rfl rfl (by omega) (Sb (k:=e%8))) (aP 8 [0,0] m ?_);simp only[↓aD,tR,Gr,xE,aa];intro g2;refine⟨by omega,?_⟩;intro u m;refine aB (kF rfl rfl (by omega) (show IntKind.i64.wrap ((e:Int).tdiv 8)=((e / 8:Nat):Int) from (show IntKind.i64.wrap ((e / 8:Nat):Int)=_ from bF (by omega) (by omega)))) ?_;simp only[zz];refine aB (aJ oW aX rfl rfl (by omega) (by omega) (eT (ag _))) ?_;simp only[zz];refine aO rfl (aiJ (m.b 0 rfl) (by omega)) ?_;simp only[zz];refine aP 1 [0] m ?_;simp only[↓aD];refine⟨by omega,?_⟩;intro u m;refine aB (aJ oW aX rfl rfl (by omega) (by omega) (eT (ag _))) ?_;simp only[zz];refine cK m 0 rfl rfl rfl aX (by simp only[au,bt];omega) ⟨rfl,rfl⟩ ?_;clear m;intro u m;simp only[zz] at m;rw[ahA he] at m;refine aP 7 [0,1] m ?_;simp only[↓aD,xE,aa];intro u m;exact aQ rfl ⟨_,rfl,((m.b 1 rfl).full Qu Co)⟩ (⟨_,rfl,m.ext,rfl⟩)
def Sm(p:P3):Prop:=(0≤p.x∧p.x≤3000000)∧(0≤p.y∧p.y≤3000000)∧0≤p.z∧p.z≤3000000
def SmT(t:T3):Prop:=Sm t.a∧Sm t.b∧Sm t.c
theorem aiL{ts:List T3}(h:∀t∈ts,SmT t):∀t∈ts,IT t:=fun t ht=>by
 obtain⟨⟨a1,a2,a3⟩,⟨b1,b2,b3⟩,c1,c2,c3⟩:=h t ht;refine⟨⟨?_,?_,?_⟩,⟨?_,?_,?_⟩,⟨?_,?_,?_⟩⟩ <;> (unfold oV;omega)
theorem Sc{e:Nat}(he:e<24)(w:ah):dF prog 289 [.int .i64 (e:Int)] w (fun v _=>∃x y z:Int,v=.agg #[.int .i64 x,.int .i64 y,.int .i64 z]∧(0≤x∧x≤3)∧(0≤y∧y≤3)∧0≤z∧z≤3) :=
 (aci he w).mono fun v w' _ h=>by
  have hl:=aor he;exact⟨_,_,_,h,⟨by omega,by omega⟩,⟨by omega,by omega⟩,by omega,by omega⟩
theorem acj{cx cy cz:Int}{e:Nat}(w:ah)(hx:0≤cx∧cx≤3)(hy:0≤cy∧cy≤3)(hz:0≤cz∧cz≤3)(he:e<24):dF prog 216 [.agg #[.int .i64 cx,.int .i64 cy,.int .i64 cz],.int .i64 524288,.int .i64 (e:Int)] w (fun v _=>∃p,v=pt p∧Sm p):=by
 refine⟨akf,?_⟩;have m:=Mem.refl w
 go_enter func216,ntmps216
 refine eS 8 [0] m ?_;simp only[↓aD,eU];intro g1 g2;intro u m;refine cW m rfl rfl (Sc he _) ?_;clear m;rintro v u m ⟨px,py,pz,rfl,hpx,hpy,hpz⟩;refine aP 12 [0,2,0,0] m ?_;simp only[↓aD,Gr,xE,gY,dR,aa,ab,ad];intro g3;refine⟨by omega,?_⟩;intro u m;refine aB (kF rfl rfl (by omega) (show IntKind.i64.wrap ((524288:Int).tdiv 2)=262144 from rfl)) (aP 9 [2,0,0] m ?_);simp only[↓aD,gY,dR,ab,ad,aa];refine⟨by omega,?_⟩;intro u m;refine aB (kF rfl rfl (by omega) (show IntKind.i64.wrap ((524288:Int).tdiv 2)=262144 from rfl)) (aP 9 [2,0,0] m ?_);simp only[↓aD,gY,dR,ab,ad,aa];refine⟨by omega,?_⟩;intro u m;refine aB (kF rfl rfl (by omega) (show IntKind.i64.wrap ((524288:Int).tdiv 2)=262144 from rfl)) (aP 6 [1] m ?_);simp only[↓aD,tQ,aR,aa];refine⟨by omega,?_⟩;intro u m;refine aQ rfl ⟨_,rfl,((m.b 1 rfl).full aG aA)⟩ ?_;try simp only[zD,zE]
 exact⟨_,rfl,m.ext,⟨cx*524288+px*262144,cy*524288+py*262144,cz*524288+pz*262144⟩,rfl,by simp only[Sm];omega⟩
theorem Zi{x:Int}{N:Nat}(h0:0≤x)(h:x≤N*3000000)(hN:0<N):∃q,IntKind.i64.wrap (x.tdiv (N:Int))=q∧0≤q∧q≤3000000:=by
 have h1:x / (N:Int)≤3000000:=Int.ediv_le_of_le_mul (by omega) (by rw[Int.mul_comm];exact h);have h2:0≤x / (N:Int):=Int.ediv_nonneg h0 (by omega);exact⟨x / N,by rw[Int.tdiv_eq_ediv_of_nonneg h0];exact bF (by omega) (by omega),h2,h1⟩
theorem alN{i N:Nat}:((i:Int)+1).tmod (N:Int)=(((i+1)%N:Nat):Int):=rfl
theorem aa1{ps:List P3}{N cap:Nat}{A:Option Addr}(w:ah)(hT:vH dN 3 w A N ps)(h0:0<N)(hN:N≤24)(hs:∀p∈ps,Sm p):dF prog 217 [.slice A N cap] w (fun v w'=>∃ts:List T3,(ts.length≤N∧∀t∈ts,SmT t)∧SL 39 9 (ts.flatMap aK) ts.length w v w'):=by
 refine⟨akg,?_⟩;have m:=Mem.refl w;have htl:=hT.len
 go_enter func217,ntmps217
 refine eS 11 [0,0] m ?_;simp only[↓aD,kX];intro u m;refine bC rfl (fun hc1=>?_) (fun hc1=>?_)
 · skip
   obtain⟨p0,hp0,a,hA,hrow0⟩:=hT.get (i:=0) (by omega);subst hA;obtain⟨p1,hp1,a1,e1,hrow1⟩:=hT.get (i:=1) (by omega);cases e1;obtain⟨p2,hp2,a2,e2,hrow2⟩:=hT.get (i:=2) (by omega);cases e2;refine aS 1 [0] m ?_;simp only[↓aD];intro u m;refine mh m [] [(0,true),(1,true),(3,true),(4,true),(6,true),(7,true),(2,true),(5,true),(8,true),(9,true),(10,false),(11,true)] aC (by kernel_rfl) (bQ (fun _ _ _ _ _ h=>h)) (ol:=?_) ?hol ?_
   case hol=>simp only[zw,zQ,zR];try rfl
   clear m;intro u m;refine aU aI ?_;simp only[zz];refine aU (aF dS aA rfl rfl (by decide) (by omega) rfl) (aU aI ?_);simp only[zz];refine aU (aF dS aA rfl rfl (by decide) (by omega) rfl) (aU aI ?_);simp only[zz];refine aU (aF dS aA rfl rfl (by decide) (by omega) rfl) ?_;simp only[zz];refine eN rfl (fun u m=>(show gM _ _ _ _ (pt p0) from (hrow0.ext m.ext).lies aG aA)) ?_;simp only[zz];refine eN rfl (fun u m=>(show gM _ _ _ _ (pt p1) from (hrow1.ext m.ext).lies aG aA)) ?_;simp only[zz];refine eN rfl (fun u m=>(show gM _ _ _ _ (pt p2) from (hrow2.ext m.ext).lies aG aA)) ?_;simp only[zz];refine aU (En rfl rfl rfl) (bV ?_);simp only[zz];refine eF rfl ?_;intro u g1 e hg hB;replace m:=m.newB e hg hB;clear e hg hB;simp only[zz];replace m:=m.own 0 rfl (n:=1) (c:=9) rfl (jE rfl);simp only[zG] at m;refine aL (⟨m.sel [false],?_⟩);refine aU aM (bM ?_);refine cR 1 [] m ?_;simp only[↓aD];intro u m;refine aQ rfl rfl ?_;try simp only[zD,zE]
   exact⟨_,rfl,m.ext,[⟨p0,p1,p2⟩],⟨by simp;omega,fun t ht=>by
    cases ay.1 ht;exact⟨hs _ (ba hp0),hs _ (ba hp1),hs _ (ba hp2)⟩⟩,_,_,_,rfl,rfl,(m.o 0 rfl)⟩
 · skip
   refine aS 13 [0,0] m ?_;simp only[↓aD,tQ,eU,aR,aa];intro g1;intro u m;refine bW [4] [22,23,24,25,26,27,28,29,30,31,32,33,34,35,36,37,38,39,40,41,42,43,44,45,46,47,48,49,50,51,52,53,54] (fun n vs wl=>∃(i:Nat) (x y z:Int),vs=[.int .i64 (i:Int)]∧Mem w wl [bI g1 [.int .i64 x,.int .i64 y,.int .i64 z] 30]∧(0≤x)∧(0≤y)∧(0≤z)∧(x≤i*3000000)∧(y≤i*3000000)∧(z≤i*3000000)∧(i≤N)∧(n=N-i)) ?_ ?_
   · skip
     apply Exists.intro;simp only[zQ,zR,zD,zE];exact⟨0,0,0,0,rfl,m,by omega,by omega,by omega,by omega,by omega,by omega,by omega,rfl⟩
   · intro n vs wr hI u K1 hK1
     clear m;obtain⟨i,x,y,z,rfl,m,hx0,hy0,hz0,hx3,hy3,hz3,hi,hn⟩:=hI;simp only[zu,zF,zG];refine aS 8 [0,0] m ?_;simp only[↓aD,kX];intro u m;refine bC rfl (fun hc2=>?_) (fun hc2=>?_)
     · skip
       obtain⟨p,hp,a,hA,hrow⟩:=hT.get (i:=i) (by omega);subst hA;obtain⟨⟨hx1,hx2⟩,⟨hy1,hy2⟩,hz1,hz2⟩:=hs p (ba hp);refine aS 4 [0] m ?_;simp only[↓aD];intro u m;refine cL m 9 aC (by kernel_rfl) ?_;simp only[zy];refine eC 4 [0] ?_;simp only[↓aD,iZ,dR,aa];refine aH (aF dS aA rfl rfl (by omega) (by omega) (cI (ag _))) (eC 1 [] ?_);simp only[↓aD,iZ,aa];refine ql rfl (fun u m=>(lies1 ((hrow.ext m.ext) 0 _ rfl) bN)) ?_;simp only[zz];refine aH (eL rfl rfl (bF (by omega) (by omega))) (eC 1 [] ?_);simp only[↓aD,iZ,aa];refine aY ?_;clear m;intro u m;refine cK m 0 rfl rfl rfl aX (jE rfl) ⟨rfl,rfl⟩ ?_;clear m;intro u m;simp only[zz,zy,zx,over,aa] at m;refine aL (cR 1 [0] m ?_);simp only[↓aD];intro u m;refine cL m 9 aC (by kernel_rfl) ?_;simp only[zy];refine eC 4 [0] ?_;simp only[↓aD,jA,dR,aa];refine aH (aF dS aA rfl rfl (by omega) (by omega) (cI (ag _))) (eC 1 [] ?_);simp only[↓aD,jA,aa];refine ql rfl (fun u m=>(lies1 ((hrow.ext m.ext) 1 _ rfl) bN)) ?_;simp only[zz];refine aH (eL rfl rfl (bF (by omega) (by omega))) (eC 1 [] ?_);simp only[↓aD,jA,aa];refine aY ?_;clear m;intro u m;refine cK (off:=1) m 0 rfl rfl rfl aX (jE rfl) ⟨rfl,rfl⟩ ?_;clear m;intro u m;simp only[zz,zy,zx,over,aa] at m;refine aL (gc ?_);refine cL m 9 aC (by kernel_rfl) ?_;simp only[zy];refine eC 4 [0] ?_;simp only[↓aD,jP,dR,aa];refine aH (aF dS aA rfl rfl (by omega) (by omega) (cI (ag _))) (eC 1 [] ?_);simp only[↓aD,jP,aa];refine ql rfl (fun u m=>(lies1 ((hrow.ext m.ext) 2 _ rfl) bN)) ?_;simp only[zz];refine aH (eL rfl rfl (bF (by omega) (by omega))) (eC 1 [] ?_);simp only[↓aD,jP,aa];refine aY ?_;clear m;intro u m;refine cK (off:=2) m 0 rfl rfl rfl aX (jE rfl) ⟨rfl,rfl⟩ ?_;clear m;intro u m;simp only[zz,zy,zx,over,aa] at m;refine aL (cR 6 [0] m ?_);simp only[↓aD];refine⟨by omega,?_⟩;intro u m;refine hK1 (N-(i+1)) _ _ ?_ ?_ ?_
       · omega
       · simp only[zz,zv]
       · simp only[zQ,zR,zD,zE]
         exact⟨i+1,_,_,_,rfl,m,by omega,by omega,by omega,by omega,by omega,by omega,by omega,rfl⟩
     · skip
       obtain rfl:N=i:=by omega
       obtain⟨qx,hqx,hqx1,hqx2⟩:=Zi hx0 (by omega) h0;obtain⟨qy,hqy,hqy1,hqy2⟩:=Zi hy0 (by omega) h0;obtain⟨qz,hqz,hqz1,hqz2⟩:=Zi hz0 (by omega) h0;refine aS 2 [0] m ?_;simp only[↓aD];intro u m;refine cL m 16 aC (by kernel_rfl) ?_;simp only[zy];refine eC 4 [0] ?_;simp only[↓aD,iZ,dR,kX,aa];refine aH (kF rfl rfl (by omega) hqx) (eC 4 [0] ?_);simp only[↓aD,jA,dR,kX,aa];refine aH (kF rfl rfl (by omega) hqy) (eC 4 [0] ?_);simp only[↓aD,jP,dR,kX,aa];refine aH (kF rfl rfl (by omega) hqz) (aH (tM rfl rfl rfl) (aY ?_));clear m;intro u m;simp only[zz];refine cD m 0 rfl rfl rfl aA (jE rfl) rfl ?_;clear m;intro u m;simp only[zy,zx,over,zF,zG,aa] at m;refine aL (cR 2 [0] m ?_);simp only[↓aD];intro u m;refine aB aM ?_;replace m:=m.nilO 39 9;refine aP 7 [0] m ?_;simp only[↓aD];intro u m;refine bW [5,6] [71,72,73,74,75,76,77,78,79,80,81,82,83,84,85,86,87,88,89,90,91,92,93] (fun n vs wl=>∃(i:Nat) (ts:List T3) (A5:Option Addr) (cap5:Nat),vs=[.slice A5 i cap5,.int .i64 (i:Int)]∧Mem w wl [oI 39 9 A5 i cap5 (ts.flatMap aK),bI g1 [.int .i64 qx,.int .i64 qy,.int .i64 qz] 30]∧(ts.length=i)∧(∀t∈ts,SmT t)∧(i≤N)∧(n=N-i)) ?_ ?_
       · skip
         apply Exists.intro;simp only[zQ,zR,zD,zE];exact⟨0,[],none,0,rfl,m,rfl,by simp,by omega,rfl⟩
       · intro n vs wr hI u K2 hK2
         clear m;obtain⟨i,ts,A5,cap5,rfl,m,htn,hts,hi,hn⟩:=hI;simp only[zu,zF,zG];refine aS 8 [0,0] m ?_;simp only[↓aD,kX];intro u m;refine bC rfl (fun hc3=>?_) (fun hc3=>?_)
         · skip
           obtain⟨p,hp,a,hA,hrowp⟩:=hT.get (i:=i) (by omega);subst hA;have hml:=ku (i+1) h0;obtain⟨q,hq,a2,e2,hrowq⟩:=hT.get (i:=(i+1)%N) hml;cases e2;refine aS 3 [0] m ?_;simp only[↓aD];intro u m;refine mh m [false,true] [(0,true),(1,true),(2,true),(3,true),(5,true),(6,true),(7,true),(8,true),(9,true),(10,true),(11,true),(4,true),(12,true),(13,true),(14,true),(15,false),(16,false),(17,true)] aC (by kernel_rfl) (bQ (fun _ _ _ _ _ h=>h)) (ol:=?_) ?hol ?_
           case hol=>simp only[zw,zQ,zR];try rfl
           clear m;intro u m;refine Mz 3 [] ?_;simp only[↓aD];refine aU (aF dS aA rfl rfl (by omega) (by omega) (cI (ag _))) (Mz 5 [] ?_);simp only[↓aD,kX];refine⟨by omega,?_⟩;refine aU (cU rfl rfl (by omega) alN) ?_;simp only[zz];refine aU (aF dS aA rfl rfl (by omega) (by omega) (cI (ag _))) ?_;simp only[zz];refine eN rfl (fun u m=>(show gM _ _ _ _ (pt p) from (hrowp.ext m.ext).lies aG aA)) ?_;simp only[zz];refine eN rfl (fun u m=>(show gM _ _ _ _ (pt q) from (hrowq.ext m.ext).lies aG aA)) ?_;simp only[zz];refine Mz 2 [0] ?_;simp only[↓aD,aR,pS,aa];refine bV (eF rfl ?_);intro u g2 e hg hB;replace m:=m.newB e hg hB;clear e hg hB;refine aL (⟨m.sel [false,false,true],?_⟩);refine bV ?_;simp only[zz];refine bR m 1 rfl rfl bT iA rfl (by decide) rfl rfl rfl (m.b 0 rfl).rowsO (jM rfl) (by omega) (by omega) ?_;clear m;intro A5 cap5 u m;simp only[zF,zG] at m;rw[show ts.flatMap aK++_=(ts++[(⟨p,q,⟨qx,qy,qz⟩⟩:T3)]).flatMap aK by rw[av];rfl] at m;refine aL (⟨m.sel [false,false,true],?_⟩);refine aU aM (bM ?_);refine cR 6 [0] m ?_;simp only[↓aD];refine⟨by omega,?_⟩;intro u m;refine hK2 (N-(i+1)) _ _ ?_ ?_ ?_
           · omega
           · simp only[zz,zv]
           · simp only[zQ,zR,zD,zE]
             exact⟨i+1,_,_,_,rfl,(m.sel [false,true,true]),by simp;omega,fun t ht=>(bg.1 ht).elim (hts t) fun h=>by
              cases ay.1 h;exact⟨hs _ (ba hp),hs _ (ba hq),⟨hqx1,hqx2⟩,⟨hqy1,hqy2⟩,hqz1,hqz2⟩,by omega,rfl⟩
         · skip
           refine aS 7 [] m ?_;simp only[↓aD];intro u m;refine aQ rfl rfl ?_;try simp only[zD,zE]
           exact⟨_,rfl,m.ext,ts,⟨by omega,hts⟩,_,_,_,htn.symm,rfl,(m.o 0 rfl)⟩
theorem r_v{v:Int}(h : -1≤v∧v<8):∃r1 r2 r3:Int,IntKind.i64.wrap ((db IntKind.i64.bits v &&& db IntKind.i64.bits 1).toNat:Int)=r1∧IntKind.i64.wrap ((db IntKind.i64.bits v &&& db IntKind.i64.bits 2).toNat:Int)=r2∧Int.fdiv v (2^min (ja 2) IntKind.i64.bits)=r3∧(0≤r1∧r1≤1)∧(0≤r2∧r2≤2)∧-1≤r3∧r3≤1:=by
 have:v = -1∨v=0∨v=1∨v=2∨v=3∨v=4∨v=5∨v=6∨v=7:=by omega
 rcases this with rfl | rfl | rfl | rfl | rfl | rfl | rfl | rfl | rfl <;> exact⟨_,_,_,rfl,rfl,rfl,by decide,by decide,by decide⟩
theorem Fg{u v:Int}(hu : -9≤u∧u≤9)(hv : -9≤v∧v≤9) : -81≤u*v∧u*v≤81:=by
 have h:(u*v).natAbs≤9*9:=by rw[Int.natAbs_mul];exact Nat.mul_le_mul (by omega) (by omega)
 omega
theorem yL{cs:List ac}{i:Nat}{u:ac}(h:i<cs.length):over cs i [u]=cs.set i u:=by
 rw[je,if_pos h,over];simp
theorem Lb{g p:Nat}:(⟨g,8,none⟩:Addr).add ((p:Int).toNat*1)=⟨g,8+p,none⟩:=by rw[ag,Nat.mul_one];exact dT ..
def jU(bs:List Bool)(ns:List Int):List ac:=bs.map bf++ns.map (la .i64)
structure gU(bs:List Bool)(ns:List Int):Prop where
 b:bs.length=8
 n:ns.length=24
 r:∀x∈ns,-1≤x∧x<24
theorem gU.len{bs ns}(h:gU bs ns):(jU bs ns).length=32:=by simp[jU,h.b,h.n]
theorem gU.put{bs ns}(h:gU bs ns){p:Nat}{q:Int}(hq : -1≤q∧q<24):gU bs (ns.set p q):=⟨h.b,by rw[List.length_set];exact h.n,fun x hx=>(List.mem_or_eq_of_mem_set hx).elim (h.r x) fun e=>e▸hq⟩
theorem gU.over{bs ns}(h:gU bs ns){p:Nat}{q:Int}(hp:p<24):over (jU bs ns) (8+p) [.int .i64 q]=jU bs (ns.set p q):=by
 rw[yL (by rw[h.len];omega),jU,List.set_append_right _ _ (by rw[ct,h.b];omega),ct,h.b,Nat.add_sub_cancel_left,jU,List.map_set]
theorem gU.in{bs ns}(h:gU bs ns){v:Nat}(hv:v<8):(jU bs ns)[v]? = some (.bool (bs.getD v false)):=by
 rw[jU,cn (by rw[ct,h.b];exact hv),dw,an (by rw[h.b];exact hv),fz,an (by rw[h.b];exact hv)];rfl
theorem gU.nx{bs ns}(h:gU bs ns){p:Nat}(hp:p<24):∃q,(jU bs ns)[8+p]? = some (.int .i64 q)∧-1≤q∧q<24:=by
 refine⟨ns[p]'(by rw[h.n];exact hp),?_,h.r _ (ic _)⟩;rw[jU,dh (by rw[ct,h.b];omega),ct,h.b,Nat.add_sub_cancel_left,dw,an (by rw[h.n];exact hp)];rfl
theorem ack{p q:Nat}{v a:Int}{b:Bool}(w:ah)(hp:p<24)(hq:q<24)(hv : -1≤v∧v<8)(ha:a=0∨a=1∨a=2):dF prog 326 [.int .i64 (p:Int),.int .i64 (q:Int),.int .i64 v,.int .i64 a,.bool b] w (fun v _=>∃c,v=.bool c):=by
 refine⟨akO,?_⟩;have m:=Mem.refl w;obtain⟨r1,r2,r3,e1,e2,e3,h1,h2,h3⟩:=r_v hv
 go_enter func326,ntmps326
 refine eS 7 [0] m ?_;simp only[↓aD];intro u m;refine cW m rfl rfl (Sc hp _) ?_;clear m;rintro v u m ⟨px,py,pz,rfl,hpx,hpy,hpz⟩;refine aP 6 [0,0] m ?_;simp only[↓aD,Gr,xE,aa];intro g1;intro u m;refine cW m rfl rfl (Sc hq _) ?_;clear m;rintro v u m ⟨qx,qy,qz,rfl,hqx,hqy,hqz⟩;refine aP 6 [0,0] m ?_;simp only[↓aD,Gr,xE,aa];intro g2;intro u m;refine aB (jY rfl rfl e1) (aP 2 [0] m ?_);simp only[↓aD];refine⟨by omega,?_⟩;intro u m;refine aB (jY rfl rfl e2) (aP 1 [0] m ?_);simp only[↓aD];intro u m;refine aB (jQ rfl rfl (by omega) e3) (aP 6 [0] m ?_);simp only[↓aD,tR,Gr,xE,aa];intro g3;refine⟨by omega,?_⟩;intro u m;rcases ha with rfl | rfl | rfl
 · skip
   have hm1:=Fg (u:=qy-py) (v:=r3*2-pz) (by omega) (by omega);have hm2:=Fg (u:=qz-pz) (v:=r2-py) (by omega) (by omega);refine cR 3 [0] m ?_;simp only[↓aD,ai];refine⟨by omega,?_⟩;intro u m;refine aB (cU (m:=1) (n:=3) (r:=1) rfl rfl (by decide) (by decide)) (aP 6 [0] m ?_);simp only[↓aD,ai];refine⟨by omega,?_⟩;intro u m;refine aB (cU (m:=2) (n:=3) (r:=2) rfl rfl (by decide) (by decide)) (aP 3 [0] m ?_);simp only[↓aD];intro u m;refine mq m aC (by kernel_rfl) (eC 18 [1,2,0,2,1] ?_);simp only[↓aD,gY,dR,ab,ad,aa];refine⟨by omega,?_⟩;refine eC 14 [2,0,2] ?_;simp only[↓aD,gY,dR,ab,ad,aa];refine⟨by omega,?_⟩;refine aY ?_;clear m;intro u m;generalize (qy-py)*(r3*2-pz)-(qz-pz)*(r2-py)=d;refine cR 1 [] m ?_;simp only[↓aD];intro u m;rcases (show b=false∨(b=true∧d<0)∨(b=true∧¬d<0) by cases b <;> simp <;> omega) with rfl | ⟨rfl,hd⟩ | ⟨rfl,hd⟩
   · skip
     refine cR 17 [0] m ?_;simp only[↓aD,el,ei];intro u m;exact aQ rfl rfl (⟨_,rfl,m.ext,_,rfl⟩)
   · skip
     refine cR 17 [1] m ?_;simp only[↓aD];refine⟨by omega,?_⟩;intro u m;exact aQ rfl rfl (⟨_,rfl,m.ext,_,rfl⟩)
   · skip
     refine cR 17 [2] m ?_;simp only[↓aD,el,ei];refine⟨by omega,?_⟩;intro u m;exact aQ rfl rfl (⟨_,rfl,m.ext,_,rfl⟩)
 · skip
   have hm1:=Fg (u:=qz-pz) (v:=2*r1-px) (by omega) (by omega);have hm2:=Fg (u:=qx-px) (v:=r3*2-pz) (by omega) (by omega);refine cR 3 [0] m ?_;simp only[↓aD,ai];refine⟨by omega,?_⟩;intro u m;refine aB (cU (m:=2) (n:=3) (r:=2) rfl rfl (by decide) (by decide)) (aP 6 [0] m ?_);simp only[↓aD,ai];refine⟨by omega,?_⟩;intro u m;refine aB (cU (m:=3) (n:=3) (r:=0) rfl rfl (by decide) (by decide)) (aP 3 [0] m ?_);simp only[↓aD];intro u m;refine mq m aC (by kernel_rfl) (eC 18 [1,2,0,2,1] ?_);simp only[↓aD,gY,dR,ab,ad,aa];refine⟨by omega,?_⟩;refine eC 14 [2,0,2] ?_;simp only[↓aD,gY,dR,ab,ad,aa];refine⟨by omega,?_⟩;refine aY ?_;clear m;intro u m;generalize (qz-pz)*(2*r1-px)-(qx-px)*(r3*2-pz)=d;refine cR 1 [] m ?_;simp only[↓aD];intro u m;rcases (show b=false∨(b=true∧d<0)∨(b=true∧¬d<0) by cases b <;> simp <;> omega) with rfl | ⟨rfl,hd⟩ | ⟨rfl,hd⟩
   · skip
     refine cR 17 [0] m ?_;simp only[↓aD,el,ei];intro u m;exact aQ rfl rfl (⟨_,rfl,m.ext,_,rfl⟩)
   · skip
     refine cR 17 [1] m ?_;simp only[↓aD];refine⟨by omega,?_⟩;intro u m;exact aQ rfl rfl (⟨_,rfl,m.ext,_,rfl⟩)
   · skip
     refine cR 17 [2] m ?_;simp only[↓aD,el,ei];refine⟨by omega,?_⟩;intro u m;exact aQ rfl rfl (⟨_,rfl,m.ext,_,rfl⟩)
 · skip
   have hm1:=Fg (u:=qx-px) (v:=r2-py) (by omega) (by omega);have hm2:=Fg (u:=qy-py) (v:=2*r1-px) (by omega) (by omega);refine cR 3 [0] m ?_;simp only[↓aD,ai];refine⟨by omega,?_⟩;intro u m;refine aB (cU (m:=3) (n:=3) (r:=0) rfl rfl (by decide) (by decide)) (aP 6 [0] m ?_);simp only[↓aD,ai];refine⟨by omega,?_⟩;intro u m;refine aB (cU (m:=4) (n:=3) (r:=1) rfl rfl (by decide) (by decide)) (aP 3 [0] m ?_);simp only[↓aD];intro u m;refine mq m aC (by kernel_rfl) (eC 18 [1,2,0,2,1] ?_);simp only[↓aD,gY,dR,ab,ad,aa];refine⟨by omega,?_⟩;refine eC 14 [2,0,2] ?_;simp only[↓aD,gY,dR,ab,ad,aa];refine⟨by omega,?_⟩;refine aY ?_;clear m;intro u m;generalize (qx-px)*(r2-py)-(qy-py)*(2*r1-px)=d;refine cR 1 [] m ?_;simp only[↓aD];intro u m;rcases (show b=false∨(b=true∧d<0)∨(b=true∧¬d<0) by cases b <;> simp <;> omega) with rfl | ⟨rfl,hd⟩ | ⟨rfl,hd⟩
   · skip
     refine cR 17 [0] m ?_;simp only[↓aD,el,ei];intro u m;exact aQ rfl rfl (⟨_,rfl,m.ext,_,rfl⟩)
   · skip
     refine cR 17 [1] m ?_;simp only[↓aD];refine⟨by omega,?_⟩;intro u m;exact aQ rfl rfl (⟨_,rfl,m.ext,_,rfl⟩)
   · skip
     refine cR 17 [2] m ?_;simp only[↓aD,el,ei];refine⟨by omega,?_⟩;intro u m;exact aQ rfl rfl (⟨_,rfl,m.ext,_,rfl⟩)
end Go.Proofs.YtfekpcimgncioaaGreatDoor
