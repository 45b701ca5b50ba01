/-
 Texts of one claim, laid together: Wa, Wb, Wc, Wd, Dig, Dig2, Dig3, Cst, We, Wf, Wg, Wh, Wi, Ca, Near, Cb, Cc, Wk, Wl, Wm, Wn, Cd, Ce, Cf, K30, Bag, Pack, Pack2, K31, Cg, Wo, Ch, Ci, Ck, Cl, Wp, Cm, Cn, Co, Cp, K32, K33, Cmp, Grow2, SortPt, Maps1, W1, Cj.
-/
import Derived.Shelf.SlLaysF0
import Derived.Test.YtfekpcimgncioaaGreatDoorProg
import Derived.Test.YtfekpcimgncioaaGreatDoorCW2
set_option maxHeartbeats 8000000
set_option linter.unusedSimpArgs false
set_option linter.unusedVariables false
set_option linter.unusedSectionVars false
namespace Go.Lith
open Go.RowKit
theorem xS {α : Type} {R : α → α → Prop} (irr : ∀ a,¬ R a a) (tr : ∀ a b c,R a b → R b c → R a c) : ∀ {l m : List α},l.Pairwise R → m.Pairwise R → (∀ a,a ∈ l ↔ a ∈ m) → l = m
 | [],[],_,_,_=>rfl
 | [],y :: m,_,_,h=>absurd ((h y).2 (List.mem_cons_self ..)) (by simp)
 | x :: l,[],_,_,h=>absurd ((h x).1 (List.mem_cons_self ..)) (by simp)
 | x :: l,y :: m,hl,hm,h=>by
  obtain ⟨h1,h2⟩:=List.pairwise_cons.1 hl;obtain ⟨k1,k2⟩:=List.pairwise_cons.1 hm;have e : x = y:=by
   rcases List.mem_cons.1 ((h x).1 (List.mem_cons_self ..)) with e | hx
   · exact e
   · rcases List.mem_cons.1 ((h y).2 (List.mem_cons_self ..)) with e | hy
     · exact e.symm
     · exact absurd (tr _ _ _ (h1 y hy) (k1 x hx)) (irr x)
  subst e;rw [xS irr tr h2 k2 fun a=>⟨fun ha=>?_,fun ha=>?_⟩]
  · rcases List.mem_cons.1 ((h a).1 (List.mem_cons_of_mem _ ha)) with rfl | k
    · exact absurd (h1 a ha) (irr a)
    · exact k
  · rcases List.mem_cons.1 ((h a).2 (List.mem_cons_of_mem _ ha)) with rfl | k
    · exact absurd (k1 a ha) (irr a)
    · exact k
/-! ### Edges in order -/
def Dw (a b : E3) : Prop:=a.1.Lt b.1 ∨ a.1 = b.1 ∧ a.2.Lt b.2
theorem Wh {a b : E3} : ltE a b = true ↔ Dw a b:=by
 unfold ltE Dw;by_cases h : a.1 = b.1
 · rw [if_neg (not_not_intro h),decide_eq_true_eq]
   exact ⟨fun k=>.inr ⟨h,k⟩,fun k=>k.elim (fun k=>absurd (h ▸ k) (P3.lt_irrefl _)) (·.2)⟩
 · rw [if_pos h,decide_eq_true_eq]
   exact ⟨.inl,fun k=>k.elim id (fun k=>absurd k.1 h)⟩
theorem Dw.irrefl (a : E3) : ¬ Dw a a:=fun h=>h.elim (P3.lt_irrefl _) fun h=>P3.lt_irrefl _ h.2
theorem Dw.trans {a b c : E3} (h : Dw a b) (k : Dw b c) : Dw a c:=by
 rcases h with h | ⟨h,h'⟩
 · rcases k with k | ⟨k,_⟩
   · exact .inl (P3.lt_trans h k)
   · exact .inl (k ▸ h)
 · rcases k with k | ⟨k,k'⟩
   · exact .inl (h ▸ k)
   · exact .inr ⟨h.trans k,P3.lt_trans h' k'⟩
theorem Dw.tri (a b : E3) : Dw a b ∨ a = b ∨ Dw b a:=by
 rcases P3.lt_tri a.1 b.1 with h | h | h
 · exact .inl (.inl h)
 · rcases P3.lt_tri a.2 b.2 with k | k | k
   · exact .inl (.inr ⟨h,k⟩)
   · exact .inr (.inl (Prod.ext h k))
   · exact .inr (.inr (.inr ⟨h.symm,k⟩))
 · exact .inr (.inr (.inl h))
def mR (es : List E3) : Prop:=es.Pairwise Dw
theorem Px {es fs : List E3} (h : mR es) (k : mR fs) (e : ∀ a,a ∈ es ↔ a ∈ fs) : es = fs:=xS Dw.irrefl (fun _ _ _=>Dw.trans) h k e
theorem Mn {α : Type} {p : α → Bool} : ∀ (l : List α),l.take (l.takeWhile p).length = l.takeWhile p
 | []=>rfl
 | x :: l=>by
  rw [List.takeWhile_cons];split
  · rw [List.length_cons,List.take_succ_cons,Mn l]
  · rfl
theorem Mo {α : Type} {p : α → Bool} : ∀ (l : List α),l.drop (l.takeWhile p).length = l.dropWhile p
 | []=>rfl
 | x :: l=>by
  rw [List.takeWhile_cons,List.dropWhile_cons];split
  · rw [List.length_cons,List.drop_succ_cons,Mo l]
  · rfl
theorem Wi (es : List E3) (e : E3) : Yh es e = es.takeWhile (fun x=>ltE x e) ++ [e] ++ es.dropWhile (fun x=>ltE x e):=by
 unfold Yh afT;rw [Mn,Mo]
theorem abr {es : List E3} {e x : E3} : x ∈ Yh es e ↔ x = e ∨ x ∈ es:=by
 rw [Wi]
 conv=>rhs;rw [← List.takeWhile_append_dropWhile (p:=fun x=>ltE x e) (l:=es)]
 simp only[List.mem_append,List.mem_singleton];exact ⟨fun h=>h.elim (fun h=>h.elim (fun h=>.inr (.inl h)) .inl) (fun h=>.inr (.inr h)),fun h=>h.elim (fun h=>.inl (.inr h)) (fun h=>h.elim (fun h=>.inl (.inl h)) .inr)⟩
theorem ae3 {e : E3} : ∀ {es : List E3},mR es → e ∉ es → ∀ x ∈ es.dropWhile (fun x=>ltE x e),Dw e x
 | [],_,_,x,h=>by cases h
 | y :: ys,hs,he,x,h=>by
  obtain ⟨h1,h2⟩:=List.pairwise_cons.1 hs;rw [List.dropWhile_cons] at h;split at h
  · exact ae3 h2 (fun k=>he (List.mem_cons_of_mem _ k)) x h
  · rename_i hy
    have hy' : Dw e y:=by
     rcases Dw.tri y e with k | k | k
     · exact absurd (Wh.2 k) hy
     · exact absurd (k ▸ List.mem_cons_self ..) he
     · exact k
    rcases List.mem_cons.1 h with rfl | h
    · exact hy'
    · exact hy'.trans (h1 x h)
theorem Tv {α : Type} {p : α → Bool} {x : α} : ∀ {l : List α},x ∈ l.takeWhile p → p x = true
 | [],h=>by cases h
 | y :: l,h=>by
  rw [List.takeWhile_cons] at h;split at h
  · rename_i hy
    rcases List.mem_cons.1 h with rfl | h
    · exact hy
    · exact Tv h
  · cases h
theorem ajA {e : E3} {es : List E3} : ∀ x ∈ es.takeWhile (fun x=>ltE x e),Dw x e:=fun x h=>Wh.1 (Tv (p:=fun x=>ltE x e) h)
theorem Py {es : List E3} {e : E3} (hs : mR es) (he : e ∉ es) : mR (Yh es e):=by
 rw [Wi];have h0:=hs;rw [mR,← List.takeWhile_append_dropWhile (p:=fun x=>ltE x e) (l:=es)] at h0;obtain ⟨h1,h2,h3⟩:=List.pairwise_append.1 h0;refine List.pairwise_append.2 ⟨List.pairwise_append.2 ⟨h1,List.pairwise_singleton _ _,fun x hx y hy=>?_⟩,h2,fun x hx y hy=>?_⟩
 · rw [List.mem_singleton.1 hy];exact ajA x hx
 · rcases List.mem_append.1 hx with hx | hx
   · exact h3 x hx y hy
   · rw [List.mem_singleton.1 hx];exact ae3 hs he y hy
theorem pP {es : List E3} {e : E3} : 0 < kH es e ↔ e ∈ es:=by
 unfold kH;rw [List.length_pos_iff_exists_mem];simp
theorem Co {all : List E3} : ∀ (es out : List E3),mR out → mR (es.foldl (uM all) out) ∧ ∀ x,x ∈ es.foldl (uM all) out ↔ x ∈ out ∨ x ∈ es ∧ (x.2,x.1) ∉ all
 | [],out,h=>⟨h,fun x=>by simp⟩
 | e :: es,out,h=>by
  have key : mR (uM all out e) ∧ ∀ x,x ∈ uM all out e ↔ x ∈ out ∨ x = e ∧ (x.2,x.1) ∉ all:=by
   unfold uM;split
   · rename_i hc
     refine ⟨h,fun x=>⟨.inl,fun k=>k.elim id fun q=>?_⟩⟩;obtain ⟨rfl,q⟩:=q;exact hc.elim (fun hc=>absurd (pP.1 hc) q) (fun hc=>pP.1 hc)
   · rename_i hc
     have h1 : e ∉ out:=fun k=>hc (.inr (pP.2 k));have h2 : (e.2,e.1) ∉ all:=fun k=>hc (.inl (pP.2 k));refine ⟨Py h h1,fun x=>abr.trans ⟨fun k=>k.elim (fun k=>.inr ⟨k,k ▸ h2⟩) .inl,fun k=>k.elim .inr fun k=>.inl k.1⟩⟩
  obtain ⟨i1,i2⟩:=Co es (uM all out e) key.1;refine ⟨i1,fun x=>?_⟩;rw [List.foldl_cons,i2,key.2,List.mem_cons,or_assoc];refine or_congr Iff.rfl ⟨fun k=>k.elim (fun k=>⟨.inl k.1,k.2⟩) (fun k=>⟨.inr k.1,k.2⟩),fun k=>k.1.elim (fun h=>.inl ⟨h,k.2⟩) (fun h=>.inr ⟨h,k.2⟩)⟩
theorem Jj (ts : List T3) : mR (cS ts):=(Co (all:=bG ts) (bG ts) [] List.Pairwise.nil).1
theorem Tw {ts : List T3} {e : E3} : e ∈ cS ts ↔ e ∈ bG ts ∧ (e.2,e.1) ∉ bG ts:=by
 have:=(Co (all:=bG ts) (bG ts) [] List.Pairwise.nil).2 e;unfold cS;rw [this];simp
/-! ### Keys put into a set -/
section
variable {K : Type} [DecidableEq K]
def fB (D : List (K × Bool)) (ks : List K) : List (K × Bool):=ks.foldl (fun D k=>eO D k true) D
theorem pQ : ∀ (ks : List K) (D : List (K × Bool)) (a : K),a ∈ (fB D ks).map (·.1) ↔ a ∈ D.map (·.1) ∨ a ∈ ks
 | [],D,a=>by simp [fB]
 | k :: ks,D,a=>by
  have:=pQ ks (eO D k true) a;unfold fB at this ⊢;rw [List.foldl_cons,this,Pw,List.mem_cons,or_assoc]
theorem xT : ∀ (ks : List K) (D : List (K × Bool)),(D.map (·.1)).Nodup → ((fB D ks).map (·.1)).Nodup
 | [],_,h=>h
 | k :: ks,D,h=>xT ks (eO D k true) (pM h k true)
theorem lJ : ∀ (ks : List K) (D : List (K × Bool)),(fB D ks).length ≤ D.length + ks.length
 | [],_=>Nat.le_refl _
 | k :: ks,D=>by
  have h1:=lJ ks (eO D k true);have h2:=qI D k true;show (fB (eO D k true) ks).length ≤ _
  rw [List.length_cons];omega
theorem Gv : ∀ (ks : List K) (D : List (K × Bool)) (a : K),cK (fB D ks) a = if a ∈ ks then some true else cK D a
 | [],D,a=>by simp [fB]
 | k :: ks,D,a=>by
  have h:=Gv ks (eO D k true) a;show cK (fB (eO D k true) ks) a = _
  rw [h,jD];by_cases h1 : a ∈ ks
  · rw [if_pos h1,if_pos (List.mem_cons_of_mem _ h1)]
  · rw [if_neg h1]
    by_cases h2 : k = a
    · rw [if_pos h2,if_pos (h2 ▸ List.mem_cons_self ..)]
    · rw [if_neg h2,if_neg (fun k'=>(List.mem_cons.1 k').elim (fun e=>h2 e.symm) h1)]
theorem abt (D : List (K × Bool)) (ks ls : List K) : fB D (ks ++ ls) = fB (fB D ks) ls:=List.foldl_append ..
theorem nA (ks : List K) (a : K) : (cK (fB [] ks) a).getD false = decide (a ∈ ks):=by
 rw [Gv];by_cases h : a ∈ ks
 · rw [if_pos h,decide_eq_true h];rfl
 · rw [if_neg h,decide_eq_false h];rfl
theorem Pz {ks : List K} {a : K} : (cK (fB [] ks) a).getD false = true ↔ a ∈ ks:=by
 rw [Gv];by_cases h : a ∈ ks
 · rw [if_pos h];exact ⟨fun _=>h,fun _=>rfl⟩
 · rw [if_neg h];exact ⟨fun k=>(by cases k),fun k=>absurd k h⟩
end
/-! ### No edge twice -/
theorem Cp {x e : E3} {es : List E3} : kH (x :: es) e = (if x = e then 1 else 0) + kH es e:=by
 unfold kH;by_cases h : x = e
 · rw [List.filter_cons_of_pos (by simpa using h),List.length_cons,if_pos h];omega
 · rw [List.filter_cons_of_neg (by simpa using h),if_neg h];omega
theorem Kq : ∀ {es : List E3},es.Nodup ↔ ∀ e,kH es e ≤ 1
 | []=>by simp [kH]
 | x :: es=>by
  rw [List.nodup_cons,Kq (es:=es)];constructor
  · rintro ⟨h1,h2⟩ e
    rw [Cp];by_cases h : x = e
    · have : ¬ 0 < kH es e:=fun k=>h1 (h ▸ pP.1 k)
      rw [if_pos h];omega
    · rw [if_neg h];have:=h2 e;omega
  · intro h
    refine ⟨fun k=>?_,fun e=>?_⟩
    · have h1:=h x
      rw [Cp,if_pos rfl] at h1;have:=pP.2 k;omega
    · have:=h e
      rw [Cp] at this;omega
theorem Au {es : List E3} : (es.any fun e=>decide (1 < kH es e)) = decide (¬ es.Nodup):=by
 rw [Bool.eq_iff_iff,List.any_eq_true,decide_eq_true_eq,Kq];constructor
 · rintro ⟨e,_,h⟩ k
   have:=k e;simp only[decide_eq_true_eq] at h;omega
 · intro h
   obtain ⟨e,he⟩:=Classical.not_forall.1 h;exact ⟨e,pP.1 (by omega),by simpa using Nat.not_le.1 he⟩
theorem Gw {α : Type} {es : List α} {e : α} : (es ++ [e]).Nodup ↔ es.Nodup ∧ e ∉ es:=by
 rw [List.nodup_append];constructor
 · rintro ⟨h1,_,h3⟩
   exact ⟨h1,fun k=>h3 e k e (by simp) rfl⟩
 · rintro ⟨h1,h2⟩
   exact ⟨h1,by simp,fun a ha b hb e'=>h2 (by rw [← List.mem_singleton.1 hb,← e'];exact ha)⟩
end Go.Lith
namespace Go.Lith
open Go.RowKit
section
variable {K V : Type} [DecidableEq K]
def wL (D : List (K × V)) (xs : List (K × V)) : List (K × V):=xs.foldl (fun D x=>eO D x.1 x.2) D
theorem Qc : ∀ (xs D : List (K × V)) (k : K),(xs.map (·.1)).Nodup → cK (wL D xs) k = match cK xs k with | some v=>some v | none=>cK D k
 | [],D,k,_=>rfl
 | (a,v) :: xs,D,k,h=>by
  rw [List.map_cons,List.nodup_cons] at h;have ih:=Qc xs (eO D a v) k h.2;show cK (wL (eO D a v) xs) k = _
  rw [ih,jD,cK];by_cases e : a = k
  · rw [if_pos e,if_pos e]
    have : cK xs k = none:=lI.2 (e ▸ h.1);rw [this]
  · rw [if_neg e,if_neg e]
theorem abu (D xs ys : List (K × V)) : wL D (xs ++ ys) = wL (wL D xs) ys:=List.foldl_append ..
def qZ (D : List (K × Nat)) (ks : List K) : List (K × Nat):=ks.foldl (fun D k=>eO D k ((cK D k).getD 0 + 1)) D
def pX (ks : List K) (a : K) : Nat:=(ks.filter fun x=>decide (x = a)).length
theorem wB {x a : K} {ks : List K} : pX (x :: ks) a = (if x = a then 1 else 0) + pX ks a:=by
 unfold pX;by_cases h : x = a
 · rw [List.filter_cons_of_pos (by simpa using h),List.length_cons,if_pos h];omega
 · rw [List.filter_cons_of_neg (by simpa using h),if_neg h];omega
theorem abv {a : K} {ks ls : List K} : pX (ks ++ ls) a = pX ks a + pX ls a:=by simp [pX]
theorem Qd : ∀ (ks : List K) (D : List (K × Nat)) (a : K),(cK (qZ D ks) a).getD 0 = (cK D a).getD 0 + pX ks a
 | [],D,a=>rfl
 | k :: ks,D,a=>by
  have h:=Qd ks (eO D k ((cK D k).getD 0 + 1)) a;show (cK (qZ (eO D k ((cK D k).getD 0 + 1)) ks) a).getD 0 = _
  rw [h,jD,wB];by_cases e : k = a
  · subst e
    rw [if_pos rfl,if_pos rfl,Option.getD_some];omega
  · rw [if_neg e,if_neg e];omega
theorem abw (D : List (K × Nat)) (ks ls : List K) : qZ D (ks ++ ls) = qZ (qZ D ks) ls:=List.foldl_append ..
theorem xU : ∀ {l m : List K},l.Nodup → (∀ a ∈ l,a ∈ m) → l.length ≤ m.length
 | [],_,_,_=>Nat.zero_le _
 | x :: l,m,h,k=>by
  rw [List.nodup_cons] at h;have hx:=k x (List.mem_cons_self ..);have h1:=xU (m:=m.erase x) h.2 fun a ha=>(List.mem_erase_of_ne (fun (e : a = x)=>h.1 (e ▸ ha))).2 (k a (List.mem_cons_of_mem _ ha));rw [List.length_erase_of_mem hx] at h1;have:=List.length_pos_of_mem hx;rw [List.length_cons];omega
end
/-! ### What lies behind an edge -/
def iF (ts : List T3) : List (E3 × P3):=ts.flatMap fun t=>[((t.a,t.b),t.c),((t.b,t.c),t.a),((t.c,t.a),t.b)]
theorem mL : ∀ ts : List T3,(iF ts).map (·.1) = bG ts
 | []=>rfl
 | t :: ts=>by
  have:=mL ts;unfold iF bG at this ⊢;rw [List.flatMap_cons,List.map_append,this];rfl
theorem Tx {ts : List T3} {k : Nat} {t : T3} (h : ts[k]? = some t) : iF (ts.take (k + 1)) = iF (ts.take k) ++ [((t.a,t.b),t.c),((t.b,t.c),t.a),((t.c,t.a),t.b)]:=by
 unfold iF;rw [cQ h,List.flatMap_append];simp
theorem sT (p q : P3) : ∀ ts : List T3,bX ts p q = cK (iF ts) (p,q)
 | []=>rfl
 | t :: ts=>by
  have ih:=sT p q ts;have e : iF (t :: ts) = ((t.a,t.b),t.c) :: ((t.b,t.c),t.a) :: ((t.c,t.a),t.b) :: iF ts:=rfl;rw [e,bX,cK,cK,cK,← ih,T3.fnd];by_cases h1 : t.a = p ∧ t.b = q
  · rw [if_pos h1,if_pos (Prod.ext h1.1 h1.2)]
  · rw [if_neg h1,if_neg (fun e=>h1 ⟨congrArg Prod.fst e,congrArg Prod.snd e⟩)]
    by_cases h2 : t.b = p ∧ t.c = q
    · rw [if_pos h2,if_pos (Prod.ext h2.1 h2.2)]
    · rw [if_neg h2,if_neg (fun e=>h2 ⟨congrArg Prod.fst e,congrArg Prod.snd e⟩)]
      by_cases h3 : t.c = p ∧ t.a = q
      · rw [if_pos h3,if_pos (Prod.ext h3.1 h3.2)]
      · rw [if_neg h3,if_neg (fun e=>h3 ⟨congrArg Prod.fst e,congrArg Prod.snd e⟩)]
theorem Av {ts : List T3} (h : (bG ts).Nodup) (p q : P3) : cK (wL [] (iF ts)) (p,q) = bX ts p q:=by
 rw [Qc _ _ _ (by rw [mL];exact h),sT];cases cK (iF ts) (p,q) <;> rfl
theorem sU {ts : List T3} {x y z : P3} (h : ((x,y),z) ∈ iF ts) : ((y,z),x) ∈ iF ts:=by
 obtain ⟨t,ht,hx⟩:=List.mem_flatMap.1 h;refine List.mem_flatMap.2 ⟨t,ht,?_⟩;simp only[List.mem_cons,List.not_mem_nil,or_false,Prod.mk.injEq] at hx ⊢;rcases hx with ⟨⟨rfl,rfl⟩,rfl⟩ | ⟨⟨rfl,rfl⟩,rfl⟩ | ⟨⟨rfl,rfl⟩,rfl⟩
 · exact .inr (.inl ⟨⟨rfl,rfl⟩,rfl⟩)
 · exact .inr (.inr ⟨⟨rfl,rfl⟩,rfl⟩)
 · exact .inl ⟨⟨rfl,rfl⟩,rfl⟩
theorem Gx {ts : List T3} (h : (bG ts).Nodup) {e : E3} {x y : P3} (h1 : (e,x) ∈ iF ts) (h2 : (e,y) ∈ iF ts) : x = y:=by
 have k : ((iF ts).map (·.1)).Nodup:=by rw [mL];exact h
 have a:=qH k h1;rw [qH k h2] at a;exact (Option.some.inj a).symm
theorem pR {ts : List T3} {p q x : P3} (h : bX ts p q = some x) : ((p,q),x) ∈ iF ts:=uU (by rw [← sT];exact h)
theorem qJ {ts : List T3} {p q x : P3} (h : bX ts p q = some x) : (p,q) ∈ bG ts:=by
 rw [← mL];exact List.mem_map.2 ⟨_,pR h,rfl⟩
theorem uX {ts : List T3} {p q : P3} (h : (p,q) ∈ bG ts) : ∃ x,bX ts p q = some x:=by
 rw [sT];cases e : cK (iF ts) (p,q) with
 | some x=>exact ⟨x,rfl⟩
 | none =>
  have:=lI.1 e;rw [mL] at this;exact absurd h this
theorem Ty {ts : List T3} (h : (bG ts).Nodup) {p x y z : P3} (h1 : bX ts p x = some z) (h2 : bX ts p y = some z) : x = y :=
 Gx h (sU (sU (pR h1))) (sU (sU (pR h2)))
def mM (ts : List T3) (p : P3) : Nat → P3 → Option P3
 | 0,x=>some x
 | n + 1,x=>(bX ts p x).bind (mM ts p n)
theorem uY {ts : List T3} {p : P3} : ∀ (n : Nat) (x : P3),mM ts p (n + 1) x = (mM ts p n x).bind (bX ts p)
 | 0,x=>by simp [mM]
 | n + 1,x=>by
  rw [mM];cases h : bX ts p x with
  | none=>simp [mM,h]
  | some y =>
   rw [Option.bind_some,uY n y,mM,h];rfl
theorem Gy {ms : List T3} {p s : P3} : ∀ (n : Nat) (x : P3),kS ms p s n x = true ↔ ∃ j,1 ≤ j ∧ j ≤ n ∧ mM ms p j x = some s
 | 0,x=>⟨fun h=>(by cases h),fun ⟨j,h1,h2,_⟩=>by omega⟩
 | n + 1,x=>by
  cases h : bX ms p x with
  | none =>
   rw [Kf h];refine ⟨fun k=>(by cases k),fun ⟨j,h1,_,h3⟩=>?_⟩;obtain ⟨i,rfl⟩ : ∃ i,j = i + 1:=⟨j - 1,by omega⟩
   rw [mM,h] at h3;cases h3
  | some y =>
   by_cases e : y = s
   · subst e
     rw [Pd h];exact ⟨fun _=>⟨1,Nat.le_refl _,by omega,by simp [mM,h]⟩,fun _=>rfl⟩
   · rw [Kg h e,Gy n y]
     constructor
     · rintro ⟨j,h1,h2,h3⟩
       exact ⟨j + 1,by omega,by omega,by rw [mM,h];exact h3⟩
     · rintro ⟨j,h1,h2,h3⟩
       obtain ⟨i,rfl⟩ : ∃ i,j = i + 1:=⟨j - 1,by omega⟩
       rw [mM,h,Option.bind_some] at h3;cases i with
       | zero=>exact absurd (Option.some.inj h3) e
       | succ i=>exact ⟨i + 1,by omega,by omega,h3⟩
def uZ (nx : P3 → Option P3) (s : P3) : Nat → P3 → Nat → P3 × Nat
 | 0,a,z=>(a,z)
 | n + 1,a,z=>if a = s then (a,z) else match nx a with | none=>(a,z) | some b=>uZ nx s n b (z + 1)
theorem abx {nx : P3 → Option P3} {s : P3} {n z : Nat} : uZ nx s n s z = (s,z):=by
 cases n with
 | zero=>rfl
 | succ n=>rw [uZ,if_pos rfl]
theorem Mp {ts : List T3} {p s : P3} {M : Nat} : ∀ (n : Nat) (a : P3) (z : Nat),n = M + 1 - z → ((uZ (bX ts p) s n a z).1 = s ∧ (uZ (bX ts p) s n a z).2 < M ↔ ∃ j,z ≤ j ∧ j < M ∧ mM ts p (j - z) a = some s)
 | 0,a,z,h=>by
  rw [uZ];refine ⟨fun k=>?_,fun ⟨j,h1,h2,_⟩=>?_⟩
  · have:=k.2;simp only at this;omega
  · omega
 | n + 1,a,z,h=>by
  rw [uZ];by_cases e : a = s
  · rw [if_pos e]
    refine ⟨fun k=>⟨z,Nat.le_refl _,k.2,by rw [Nat.sub_self,mM,e]⟩,fun ⟨j,h1,h2,_⟩=>⟨e,by simp only;omega⟩⟩
  · rw [if_neg e]
    cases hb : bX ts p a with
    | none =>
     refine ⟨fun k=>absurd k.1 e,fun ⟨j,h1,h2,h3⟩=>?_⟩;cases hj : j - z with
     | zero=>rw [hj,mM] at h3;exact absurd (Option.some.inj h3) e
     | succ i=>rw [hj,mM,hb] at h3;cases h3
    | some b =>
     rw [Mp n b (z + 1) (by omega)];constructor
     · rintro ⟨j,h1,h2,h3⟩
       refine ⟨j,by omega,h2,?_⟩;rw [show j - z = (j - (z + 1)) + 1 by omega,mM,hb];exact h3
     · rintro ⟨j,h1,h2,h3⟩
       rcases Nat.lt_or_ge z j with hz | hz
       · refine ⟨j,by omega,h2,?_⟩
         rw [show j - z = (j - (z + 1)) + 1 by omega,mM,hb] at h3;exact h3
       · rw [show j - z = 0 by omega,mM] at h3
         exact absurd (Option.some.inj h3) e
/-! ### The triangles of a corner -/
theorem ad2 {t : T3} {p q x : P3} (h : t.fnd p q = some x) : ∃ c,c < 3 ∧ t.cor c = p:=by
 unfold T3.fnd at h;split at h
 · rename_i h';exact ⟨0,by decide,h'.1⟩
 · split at h
   · rename_i h';exact ⟨1,by decide,h'.1⟩
   · split at h
     · rename_i h';exact ⟨2,by decide,h'.1⟩
     · cases h
theorem Tz {ts us : List T3} {p q : P3} : bX (ts ++ us) p q = match bX ts p q with | some x=>some x | none=>bX us p q:=by
 induction ts with
 | nil=>rfl
 | cons t ts ih =>
  rw [List.cons_append,bX,bX];cases t.fnd p q with
  | some x=>rfl
  | none=>exact ih
theorem Zg {t u : T3} {p : P3} (h : u ∈ rQ p t 3) : u = t ∧ ∃ c,c < 3 ∧ t.cor c = p:=by
 obtain ⟨c,hc,h⟩:=List.mem_flatMap.1 h;unfold Gk at h;split at h
 · rename_i e
   exact ⟨List.mem_singleton.1 h,c,List.mem_range.1 hc,e⟩
 · cases h
theorem Ua {t : T3} {p : P3} {c : Nat} (hc : c < 3) (h : t.cor c = p) : t ∈ rQ p t 3 :=
 List.mem_flatMap.2 ⟨c,List.mem_range.2 hc,by rw [Gk,if_pos h];exact List.mem_singleton.2 rfl⟩
theorem Gz {t : T3} {p q : P3} : ∀ us : List T3,(∀ u ∈ us,u = t) → bX us p q = if us = [] then none else t.fnd p q
 | [],_=>rfl
 | u :: us,h=>by
  have e:=h u (List.mem_cons_self ..);have ih:=Gz (p:=p) (q:=q) us fun v hv=>h v (List.mem_cons_of_mem _ hv);rw [bX,e,if_neg (by simp)];cases hf : t.fnd p q with
  | some x=>rfl
  | none =>
   simp only;rw [ih];split
   · rfl
   · exact hf
theorem Dx (p q : P3) : ∀ ts : List T3,bX (kR ts p) p q = bX ts p q
 | []=>rfl
 | t :: ts=>by
  have e : kR (t :: ts) p = rQ p t 3 ++ kR ts p:=by simp [kR]
  rw [e,Tz,Dx p q ts,bX,Gz (t:=t) _ (fun u hu=>(Zg hu).1)];by_cases h : rQ p t 3 = []
  · rw [if_pos h]
    cases hf : t.fnd p q with
    | none=>rfl
    | some x =>
     obtain ⟨c,hc,k⟩:=ad2 hf;have:=Ua hc k;rw [h] at this;cases this
  · rw [if_neg h]
    rfl
theorem Aw (ts : List T3) (p : P3) : ∀ (n : Nat) (x : P3),mM (kR ts p) p n x = mM ts p n x
 | 0,_=>rfl
 | n + 1,x=>by
  rw [mM,mM,Dx];cases bX ts p x with
  | none=>rfl
  | some y=>exact Aw ts p n y
theorem Ha (p : P3) : ∀ ts : List T3,(kR ts p).length = pX (dF ts) p
 | []=>rfl
 | t :: ts=>by
  have ih:=Ha p ts;have e : kR (t :: ts) p = rQ p t 3 ++ kR ts p:=by simp [kR]
  have e2 : dF (t :: ts) = [t.a,t.b,t.c] ++ dF ts:=rfl;rw [e,e2,List.length_append,abv,ih]
  congr 1
  have r3 : List.range 3 = [0,1,2]:=rfl;unfold rQ;rw [r3];simp only[List.flatMap_cons,List.flatMap_nil,List.append_nil,List.length_append,Gk];rw [wB,wB,wB];have k : ∀ (c : Nat) (x : P3),t.cor c = x → (if t.cor c = p then [t] else []).length = if x = p then 1 else 0:=fun c x hx=>by
   subst hx;split <;> rfl
  rw [k 0 t.a rfl,k 1 t.b rfl,k 2 t.c rfl];rfl
theorem Kr {p s : P3} {ts : List T3} : s ∈ pJ ts p ↔ (p,s) ∈ bG ts:=by
 unfold pJ bG;rw [List.mem_flatMap,List.mem_flatMap];refine exists_congr fun t=>and_congr Iff.rfl ?_;unfold uO;rw [show List.range 3 = [0,1,2] from rfl];simp only[List.flatMap_cons,List.flatMap_nil,List.append_nil,List.mem_append,Gl,List.mem_cons,List.not_mem_nil,or_false,Prod.mk.injEq];have k : ∀ (c : Nat) (x y : P3),t.cor c = x → t.cor ((c + 1) % 3) = y → (s ∈ (if t.cor c = p then [t.cor ((c + 1) % 3)] else []) ↔ p = x ∧ s = y):=fun c x y hx hy=>by
  subst hx;subst hy;split
  · rename_i h;rw [List.mem_singleton];exact ⟨fun e=>⟨h.symm,e⟩,fun e=>e.2⟩
  · rename_i h;exact ⟨fun e=>(by cases e),fun e=>absurd e.1.symm h⟩
 rw [k 0 t.a t.b rfl rfl,k 1 t.b t.c rfl rfl,k 2 t.c t.a rfl rfl]
theorem Cq {ps : List P3} {p x : P3} : x ∈ fJ ps p ↔ x = p ∨ x ∈ ps:=by
 unfold fJ;split
 · rename_i h
   exact ⟨.inr,fun k=>k.elim (fun e=>e ▸ List.mem_of_getElem? h) id⟩
 · conv=>rhs;rw [← List.take_append_drop (Pc ps p) ps]
   simp only[List.mem_append,List.mem_singleton];exact ⟨fun h=>h.elim (fun h=>h.elim (fun h=>.inr (.inl h)) .inl) (fun h=>.inr (.inr h)),fun h=>h.elim (fun h=>.inl (.inr h)) (fun h=>h.elim (fun h=>.inl (.inl h)) .inr)⟩
theorem vA {x : P3} {ts : List T3} : x ∈ dK ts ↔ x ∈ dF ts:=by
 have : ∀ (ts : List T3) (ps : List P3),x ∈ ts.foldl (fun ps t=>fJ (fJ (fJ ps t.a) t.b) t.c) ps ↔ x ∈ ps ∨ x ∈ dF ts:=by
  intro ts
  induction ts with
  | nil=>intro ps;simp [dF]
  | cons t ts ih =>
   intro ps;rw [List.foldl_cons,ih,Cq,Cq,Cq];have e : dF (t :: ts) = [t.a,t.b,t.c] ++ dF ts:=rfl;rw [e];simp only[List.mem_append,List.mem_cons,List.not_mem_nil,or_false];constructor
   · rintro ((h | h | h | h) | h)
     · exact .inr (.inl (.inr (.inr h)))
     · exact .inr (.inl (.inr (.inl h)))
     · exact .inr (.inl (.inl h))
     · exact .inl h
     · exact .inr (.inr h)
   · rintro (h | (h | h | h) | h)
     · exact .inl (.inr (.inr (.inr h)))
     · exact .inl (.inr (.inr (.inl h)))
     · exact .inl (.inr (.inl h))
     · exact .inl (.inl h)
     · exact .inr h
 have:=this ts [];simpa [dK] using this
theorem Zh {ts : List T3} {e : E3} (h : e ∈ bG ts) : e.1 ∈ dF ts ∧ e.2 ∈ dF ts:=by
 obtain ⟨t,ht,hx⟩:=List.mem_flatMap.1 h;have key : ∀ x,x = t.a ∨ x = t.b ∨ x = t.c → x ∈ dF ts:=fun x hx=>List.mem_flatMap.2 ⟨t,ht,by simpa using hx⟩;simp only[List.mem_cons,List.not_mem_nil,or_false] at hx;rcases hx with rfl | rfl | rfl
 · exact ⟨key _ (.inl rfl),key _ (.inr (.inl rfl))⟩
 · exact ⟨key _ (.inr (.inl rfl)),key _ (.inr (.inr rfl))⟩
 · exact ⟨key _ (.inr (.inr rfl)),key _ (.inl rfl)⟩
def Mq (ts : List T3) (e : E3) : Prop:=∃ x,bX ts e.1 e.2 = some x ∧ (uZ (bX ts e.1) e.2 (pX (dF ts) e.1 + 1 - 1) x 1).1 = e.2 ∧ (uZ (bX ts e.1) e.2 (pX (dF ts) e.1 + 1 - 1) x 1).2 < pX (dF ts) e.1
theorem Hb {ts : List T3} {e : E3} : Mq ts e ↔ e ∈ bG ts ∧ kS (kR ts e.1) e.1 e.2 ((kR ts e.1).length - 1) e.2 = true:=by
 rw [Gy,Ha];constructor
 · rintro ⟨x,hx,h⟩
   obtain ⟨j,h1,h2,h3⟩:=(Mp (M:=pX (dF ts) e.1) _ x 1 (by omega)).1 h;refine ⟨qJ hx,j,h1,by omega,?_⟩;rw [Aw,show j = (j - 1) + 1 by omega,mM,hx];exact h3
 · rintro ⟨he,j,h1,h2,h3⟩
   obtain ⟨x,hx⟩:=uX he;refine ⟨x,hx,(Mp (M:=pX (dF ts) e.1) _ x 1 (by omega)).2 ⟨j,h1,by omega,?_⟩⟩;rw [Aw,show j = (j - 1) + 1 by omega,mM,hx] at h3;exact h3
theorem pinned {ts : List T3} : (dK ts).any (yZ ts) = true ↔ ∃ e,Mq ts e:=by
 rw [List.any_eq_true];constructor
 · rintro ⟨p,_,h⟩
   obtain ⟨s,hs,hr⟩:=List.any_eq_true.1 h;exact ⟨(p,s),Hb.2 ⟨Kr.1 hs,hr⟩⟩
 · rintro ⟨e,h⟩
   obtain ⟨he,hr⟩:=Hb.1 h;exact ⟨e.1,vA.2 (Zh he).1,List.any_eq_true.2 ⟨e.2,Kr.2 he,hr⟩⟩
end Go.Lith
namespace Go.Lith
open Go.RowKit
/-! ### The ends of fans -/
def Qe (ts : List T3) : Prop:=∀ t ∈ ts,nG t = false
theorem akz {t : T3} (h : nG t = false) : t.a ≠ t.b ∧ t.b ≠ t.c ∧ t.c ≠ t.a:=by
 unfold nG at h;simp only[Bool.or_eq_false_iff,decide_eq_false_iff_not] at h;exact ⟨h.1.1,h.1.2,h.2⟩
theorem Mr {ts : List T3} {p : P3} : ∀ (i j : Nat) (a : P3),mM ts p (i + j) a = (mM ts p i a).bind (mM ts p j)
 | 0,j,a=>by simp [mM]
 | i + 1,j,a=>by
  rw [show i + 1 + j = (i + j) + 1 by omega,mM,mM];cases bX ts p a with
  | none=>rfl
  | some y=>rw [Option.bind_some,Option.bind_some];exact Mr i j y
/-! ### As the reference says it -/
abbrev Mv:=P3 × P3
def T3.has (t : T3) (p : P3) : Bool:=decide (t.a = p) || decide (t.b = p) || decide (t.c = p)
def aby (ts : List T3) (p q : P3) : Bool:=ts.any fun t=>t.has p && t.has q
def Sj (rim : List E3) (p : P3) : Bool:=rim.any fun e=>decide (e.1 = p) || decide (e.2 = p)
def kJ (t : T3) : T3:=if t.c.Lt t.a ∧ (t.c.Lt t.b ∨ ¬ t.b.Lt t.a) then ⟨t.c,t.a,t.b⟩ else if t.b.Lt t.a then ⟨t.b,t.c,t.a⟩ else t
theorem Hc {t u : T3} (h1 : t.a = u.a) (h2 : t.b = u.b) (h3 : t.c = u.c) : t = u:=by
 cases t;cases u;simp only at h1 h2 h3;subst h1;subst h2;subst h3;rfl
instance : DecidableEq T3:=fun t u=>decidable_of_iff (t.a = u.a ∧ t.b = u.b ∧ t.c = u.c) ⟨fun h=>Hc h.1 h.2.1 h.2.2,fun h=>by rw [h];exact ⟨rfl,rfl,rfl⟩⟩
def T3.nd (t : T3) : Bool:=decide (t.a ≠ t.b) && decide (t.b ≠ t.c) && decide (t.c ≠ t.a)
end Go.Lith
namespace Go.Lith
open Go.RowKit
/-! ### Corners and edges -/
theorem lX {t : T3} {p : P3} : t.has p = true ↔ p = t.a ∨ p = t.b ∨ p = t.c:=by
 unfold T3.has;simp only[Bool.or_eq_true,decide_eq_true_eq,or_assoc];exact or_congr ⟨Eq.symm,Eq.symm⟩ (or_congr ⟨Eq.symm,Eq.symm⟩ ⟨Eq.symm,Eq.symm⟩)
theorem Ax {ts : List T3} {p q : P3} : aby ts p q = true ↔ ∃ t ∈ ts,t.has p = true ∧ t.has q = true:=by
 unfold aby;rw [List.any_eq_true];exact exists_congr fun t=>and_congr Iff.rfl (by rw [Bool.and_eq_true])
/-! ### The border -/
/-! ### The ends of fans -/
/-! ### Moves -/
/-! ### Covers -/
end Go.Lith
namespace Go.Lith
open Go.RowKit
section
variable {w w' : World} {b : Nat} {A : Option Addr} {n cap : Nat} {xs : List Nat}
end
section
variable {P : Program} {ds : List Deferred} {l : List Value} {T ty : TypeId}
variable {ops : Array Oper} {Q : Exit → Act → World → Prop} {rest : List Oper} {d : Nat} {pos : String} {after : Array Edge} {w : World}
end
end Go.Lith
namespace Go.Lith
open Go.RowKit
end Go.Lith
namespace Go.Lith
open Go.RowKit
end Go.Lith
namespace Go.Lith
open Go.RowKit
instance (a : Int) : Decidable (tU a):=inferInstanceAs (Decidable (_ ∧ _))
end Go.Lith
namespace Go.Lith
open Go.RowKit
/-! ### What CheckOpen says -/
theorem Qf {ts : List T3} (h : eV true ts = 0) : Qe ts ∧ (bG ts).Nodup:=by
 unfold eV at h;split at h
 · cases h
 · rename_i h1
   split at h
   · cases h
   · rename_i h2
     refine ⟨fun t ht=>?_,?_⟩
     · cases hd : nG t with
       | false=>rfl
       | true=>exact absurd (List.any_eq_true.2 ⟨t,ht,hd⟩) h1
     · rw [Au] at h2
       exact Decidable.not_not.1 fun k=>h2 (decide_eq_true k)
def ajB (t : T3) : List E3:=[(t.a,t.b),(t.b,t.c),(t.c,t.a)]
theorem nd_of {t : T3} (h : nG t = false) : t.nd = true:=by
 obtain ⟨h1,h2,h3⟩:=akz h;simp [T3.nd,h1,h2,h3]
/-! ### One far move -/
end Go.Lith
namespace Go.Lith
open Go.RowKit
theorem Ms {t : T3} : (⟨t.b,t.c,t.a⟩ : T3).nd = t.nd:=by
 unfold T3.nd;simp only;cases decide (t.a ≠ t.b) <;> cases decide (t.b ≠ t.c) <;> cases decide (t.c ≠ t.a) <;> rfl
def ad3 (t u : T3) : Prop:=u = t ∨ u = ⟨t.b,t.c,t.a⟩ ∨ u = ⟨t.c,t.a,t.b⟩
theorem Wj {t u : T3} (h : ad3 t u) : u.nd = t.nd:=by
 rcases h with rfl | rfl | rfl
 · rfl
 · exact Ms
 · exact (Ms (t:=⟨t.b,t.c,t.a⟩)).trans Ms
/-! ### Edges of a list in which triangles are changed -/
section
variable {p : P3} {X : E3 → Prop} {old new R fine fine' : List T3}
end
/-! ### The two kinds of division -/
end Go.Lith
namespace Go.Lith
open Go.RowKit
def abz (t : T3) : List (E3 × P3):=[((t.a,t.b),t.c),((t.b,t.c),t.a),((t.c,t.a),t.b)]
theorem oR {ts : List T3} {x : E3 × P3} : x ∈ iF ts ↔ ∃ t ∈ ts,x ∈ abz t:=List.mem_flatMap
theorem Ub {ts us : List T3} (h : ts.Perm us) {x : E3 × P3} : x ∈ iF ts ↔ x ∈ iF us:=by
 rw [oR,oR];exact exists_congr fun t=>and_congr h.mem_iff Iff.rfl
/-! ### Images -/
section
variable {l fine fine' R : List T3} {ms : List Mv} {B B' : Int} {p : P3}
end
end Go.Lith
namespace Go.Lith
open Go.RowKit
end Go.Lith
namespace Go.Lith
open Go.RowKit
theorem abA {ts : List T3} {x : P3} : x ∈ dF ts ↔ ∃ t ∈ ts,x = t.cor 0 ∨ x = t.cor 1 ∨ x = t.cor 2:=by
 unfold dF;rw [List.mem_flatMap];exact exists_congr fun t=>and_congr Iff.rfl (by simp [T3.cor])
end Go.Lith
namespace Go.Lith
open Go.RowKit
def nR (a b c : P3) : P3:=(b.sub a).cross (c.sub a)
def yN (a b c d : P3) : Int:=(nR a b c).dot (d.sub a)
def lA (v : P3) (k : Nat) : Int:=if k = 0 then v.x else if k = 1 then v.y else v.z
def Ex (v : P3) : Nat:=if v.x ≠ 0 then 0 else if v.y ≠ 0 then 1 else if v.z ≠ 0 then 2 else 3
/-! ### Points in a plane -/
end Go.Lith
namespace Go.Lith
open Go.RowKit
def Z3 (u : P3) : Prop:=u.x = 0 ∧ u.y = 0 ∧ u.z = 0
instance (u : P3) : Decidable (Z3 u):=inferInstanceAs (Decidable (_ ∧ _ ∧ _))
def qK (p q : P3) : P3:=if q.Lt p then q else p
def tV (p q : P3) : P3:=if q.Lt p then p else q
end Go.Lith
namespace Go.Lith
open Go.RowKit
def abB (a b c : P3) : Bool:=decide (Ex (nR a b c) = 3)
def ajC (p q r s : P3) : Bool:=(if qK p q = tV p q then abB (qK r s) (tV r s) (qK p q) else abB (qK p q) (tV p q) (qK r s)) && !decide ((tV p q).Lt (qK r s)) && !decide ((tV r s).Lt (qK p q))
def xV (p q r s : P3) : P3:=(q.sub p).cross (s.sub r)
def iR (p q r s : P3) : Bool :=
 if Ex (xV p q r s) < 3 then
  decide (yN p q r s = 0) && decide (lA (nR p q r) (Ex (xV p q r s)) * lA (nR p q s) (Ex (xV p q r s)) ≤ 0) && decide (lA (nR r s p) (Ex (xV p q r s)) * lA (nR r s q) (Ex (xV p q r s)) ≤ 0)
 else ajC p q r s
theorem lt_tri (p q : P3) : p.Lt q ∨ p = q ∨ q.Lt p:=by
 by_cases h : p = q
 · exact .inr (.inl h)
 · have : ¬ (p.x = q.x ∧ p.y = q.y ∧ p.z = q.z):=fun k=>h (P3.eq k.1 k.2.1 k.2.2)
   unfold P3.Lt;omega
/-! ### In the plane of a triangle -/
def wth (a b c x : P3) (k : Nat) : Prop:=(0 ≤ lA (nR a b x) k ∧ 0 ≤ lA (nR b c x) k ∧ 0 ≤ lA (nR c a x) k) ∨ (lA (nR a b x) k ≤ 0 ∧ lA (nR b c x) k ≤ 0 ∧ lA (nR c a x) k ≤ 0)
instance (a b c x : P3) (k : Nat) : Decidable (wth a b c x k):=by unfold wth;infer_instance
end Go.Lith
namespace Go.Lith
open Go.RowKit
def ajD (x y z : Int) : Bool:=(decide (0 ≤ x) && decide (0 ≤ y) && decide (0 ≤ z)) || (decide (x ≤ 0) && decide (y ≤ 0) && decide (z ≤ 0))
def gR (p q : P3) (t : T3) : Bool :=
 if Ex (nR t.a t.b t.c) < 3 then
  if 0 < yN t.a t.b t.c p * yN t.a t.b t.c q then false
  else if yN t.a t.b t.c p = 0 ∧ yN t.a t.b t.c q = 0 then iR p q t.a t.b || iR p q t.b t.c || iR p q t.c t.a || decide (wth t.a t.b t.c p (Ex (nR t.a t.b t.c)))
  else ajD (yN p q t.a t.b) (yN p q t.b t.c) (yN p q t.c t.a)
 else iR p q (qK (qK t.a t.b) t.c) (tV (tV t.a t.b) t.c)
end Go.Lith
namespace Go.Lith
open Go.RowKit
/-! ### Two places of a list -/
/-! ### A step -/
/-! ### The surfaces -/
end Go.Lith
namespace Go.Lith
open Go.RowKit
def T3.mapP (f : P3 → P3) (t : T3) : T3:=⟨f t.a,f t.b,f t.c⟩
section
variable {f : P3 → P3} {S : P3 → Prop} {ts : List T3}
end
theorem Ks {ts : List T3} : (dK ts).any (yZ ts) = true ↔ ∃ e ∈ bG ts,∃ j,1 ≤ j ∧ j < pX (dF ts) e.1 ∧ mM ts e.1 j e.2 = some e.2:=by
 rw [pinned];refine exists_congr fun e=>?_;rw [Hb,Gy,Ha];refine and_congr Iff.rfl (exists_congr fun j=>?_);rw [Aw];constructor
 · rintro ⟨h1,h2,h3⟩;exact ⟨h1,by omega,h3⟩
 · rintro ⟨h1,h2,h3⟩;exact ⟨h1,by omega,h3⟩
theorem Zi {ts : List T3} : eV true ts = 0 ↔ Qe ts ∧ (bG ts).Nodup ∧ ¬ ∃ e ∈ bG ts,∃ j,1 ≤ j ∧ j < pX (dF ts) e.1 ∧ mM ts e.1 j e.2 = some e.2:=by
 constructor
 · intro h
   obtain ⟨h1,h2⟩:=Qf h;refine ⟨h1,h2,fun k=>?_⟩;have hp:=Ks.2 k;have hd : ts.any nG = false:=List.any_eq_false.2 fun t ht=>by rw [h1 t ht];exact Bool.false_ne_true
   have hn:=Au (es:=bG ts);rw [decide_eq_false (fun k=>k h2)] at hn;unfold eV at h;rw [hd,hn,hp] at h;simp at h
 · rintro ⟨h1,h2,h3⟩
   have hp : (dK ts).any (yZ ts) = false:=by
    cases hh : (dK ts).any (yZ ts) with
    | false=>rfl
    | true=>exact absurd (Ks.1 hh) h3
   have hd : ts.any nG = false:=List.any_eq_false.2 fun t ht=>by rw [h1 t ht];exact Bool.false_ne_true
   have hn:=Au (es:=bG ts);rw [decide_eq_false (fun k=>k h2)] at hn;unfold eV;rw [hd,hn,hp];rfl
/-! ### An edge is divided -/
section
variable {f : P3 → P3} {S : P3 → Prop}
end
end Go.Lith
namespace Go.Lith
open Go.RowKit
inductive Rch (N : P3 → P3 → Prop) : P3 → P3 → Prop
 | refl (a : P3) : Rch N a a
 | tail {a b c : P3} (h : Rch N a b) (s : N b c) : Rch N a c
section
variable {N N' : P3 → P3 → Prop} {a b c p q x0 y0 : P3}
def Cyc (N : P3 → P3 → Prop) (s : P3) : Prop:=∃ y,N s y ∧ Rch N y s
def abC (N : P3 → P3 → Prop) : Prop:=∀ s,Cyc N s → ∀ x y,N x y → Rch N s x
/-! ### A corner between two -/
/-! ### A corner in another's place -/
end
/-! ### The corners behind each other round a corner -/
def Nx (ts : List T3) (v x y : P3) : Prop:=((v,x),y) ∈ iF ts
theorem xW {ts : List T3} (hn : (bG ts).Nodup) {v x y : P3} : Nx ts v x y ↔ bX ts v x = some y:=by
 constructor
 · intro h
   obtain ⟨z,hz⟩:=uX (show (v,x) ∈ bG ts by rw [← mL];exact List.mem_map.2 ⟨_,h,rfl⟩);rw [hz,Gx hn h (pR hz)]
 · exact pR
theorem Uc {ts : List T3} (hn : (bG ts).Nodup) {v a b : P3} : Rch (Nx ts v) a b ↔ ∃ n,mM ts v n a = some b:=by
 constructor
 · intro h
   induction h with
   | refl=>exact ⟨0,rfl⟩
   | tail _ s ih =>
    obtain ⟨n,h⟩:=ih;exact ⟨n + 1,by rw [uY,h,Option.bind_some];exact (xW hn).1 s⟩
 · rintro ⟨n,h⟩
   induction n generalizing b with
   | zero=>cases h;exact .refl _
   | succ n ih =>
    rw [uY] at h;obtain ⟨c,hc,h⟩:=Option.bind_eq_some_iff.1 h;exact .tail (ih hc) ((xW hn).2 h)
theorem ae4 {P : Nat → Prop} : ∀ n,P n → ∃ m,P m ∧ ∀ k,k < m → ¬ P k:=by
 intro n
 induction n using Nat.strongRecOn with
 | _ n ih =>
  intro h;by_cases k : ∃ m,m < n ∧ P m
  · obtain ⟨m,hm,hp⟩:=k
    exact ih m hm hp
  · exact ⟨n,h,fun m hm hp=>k ⟨m,hm,hp⟩⟩
def Qg (ts : List T3) (v : P3) : List P3:=((bG ts).filter fun e=>decide (e.1 = v)).map (·.2)
theorem He {ts : List T3} {v x : P3} : x ∈ Qg ts v ↔ (v,x) ∈ bG ts:=by
 unfold Qg;rw [List.mem_map];constructor
 · rintro ⟨e,he,rfl⟩
   obtain ⟨h1,h2⟩:=List.mem_filter.1 he;rw [← of_decide_eq_true h2];exact h1
 · exact fun h=>⟨(v,x),List.mem_filter.2 ⟨h,decide_eq_true rfl⟩,rfl⟩
theorem Ud {ts : List T3} {v : P3} (hn : (bG ts).Nodup) : (Qg ts v).Nodup:=by
 unfold Qg;rw [List.Nodup,List.pairwise_map];refine (hn.sublist List.filter_sublist).imp_of_mem fun {a b} ha hb hne e=>hne ?_;have h1:=of_decide_eq_true (List.mem_filter.1 ha).2;have h2:=of_decide_eq_true (List.mem_filter.1 hb).2;exact Prod.ext (h1.trans h2.symm) e
theorem abD : ∀ ts : List T3,(bG ts).map (·.1) = dF ts:=by
 intro ts;unfold bG dF;rw [List.map_flatMap];rfl
theorem Qh (ts : List T3) (v : P3) : (Qg ts v).length = pX (dF ts) v:=by
 rw [← abD];unfold Qg pX;rw [List.length_map,List.filter_map,List.length_map];rfl
theorem full {S E : List P3} (hS : S.Nodup) (hs : ∀ x ∈ S,x ∈ E) (hl : E.length ≤ S.length) : ∀ x ∈ E,x ∈ S:=fun x hx=>by
 refine Decidable.byContradiction fun hn=>?_;have h1 : S.length ≤ (E.erase x).length:=xU hS fun y hy=>by
  have hne : y ≠ x:=fun e=>hn (e ▸ hy);exact (List.mem_erase_of_ne hne).2 (hs y hy)
 rw [List.length_erase_of_mem hx] at h1;have : 0 < E.length:=List.length_pos_of_mem hx;omega
theorem Ue {ts : List T3} {v a b : P3} {i j : Nat} (h : mM ts v i a = some b) : mM ts v (i + j) a = mM ts v j b:=by rw [Mr,h,Option.bind_some]
theorem ahn {ts : List T3} {v s : P3} {j : Nat} (h1 : 1 ≤ j) (h : mM ts v j s = some s) : ∀ n,mM ts v n s = mM ts v (n % j) s:=fun n=>by
 induction n using Nat.strongRecOn with
 | _ n ih =>
  rcases Nat.lt_or_ge n j with hl | hl
  · rw [Nat.mod_eq_of_lt hl]
  · have e : n = j + (n - j):=by omega
    rw [e,Ue h,ih (n - j) (by omega),Nat.add_mod_left]
theorem Qi {ts : List T3} (hn : (bG ts).Nodup) {v s : P3} {j : Nat} (hm : ∀ k,1 ≤ k → k < j → mM ts v k s ≠ some s) : ∀ (i k : Nat) (x : P3),i < k → k < j → mM ts v i s = some x → mM ts v k s ≠ some x
 | 0,k,x,hik,hk,h,h2=>by cases h;exact hm k (by omega) hk h2
 | i + 1,k,x,hik,hk,h,h2=>by
  obtain ⟨m,rfl⟩ : ∃ m,k = m + 1:=⟨k - 1,by omega⟩
  rw [uY] at h h2;obtain ⟨y,hy,hy'⟩:=Option.bind_eq_some_iff.1 h;obtain ⟨z,hz,hz'⟩:=Option.bind_eq_some_iff.1 h2;obtain rfl:=Ty hn hy' hz';exact Qi hn hm i m y (by omega) (by omega) hy hz
theorem Wk {ts : List T3} {v a b : P3} {i j : Nat} (hij : i ≤ j) (h : mM ts v j a = some b) : ∃ y,mM ts v i a = some y:=by
 have e : j = i + (j - i):=by omega
 rw [e,Mr] at h;obtain ⟨y,hy,_⟩:=Option.bind_eq_some_iff.1 h;exact ⟨y,hy⟩
theorem Kt {ts : List T3} (hn : (bG ts).Nodup) {v s : P3} {j : Nat} (h1 : 1 ≤ j) (h : mM ts v j s = some s) (hm : ∀ k,1 ≤ k → k < j → mM ts v k s ≠ some s) :
 ∃ L : List P3,L.Nodup ∧ L.length = j ∧ (∀ x ∈ L,x ∈ Qg ts v) ∧ ∀ x,x ∈ L ↔ Rch (Nx ts v) s x:=by
 have get : ∀ i,i ≤ j → ∃ y,mM ts v i s = some y:=fun i hi=>Wk hi h;refine ⟨(List.range j).map fun i=>(mM ts v i s).getD s,?_,by rw [List.length_map,List.length_range],fun x hx=>?_,fun x=>?_⟩
 · rw [List.Nodup,List.pairwise_map]
   refine (List.pairwise_lt_range (n:=j)).imp_of_mem fun {a b} ha hb hab e=>?_;have hb':=List.mem_range.1 hb;obtain ⟨y,hy⟩:=get a (by omega);obtain ⟨z,hz⟩:=get b (by omega);rw [hy,hz] at e;obtain rfl : y = z:=e;exact Qi hn hm a b y hab hb' hy hz
 · obtain ⟨i,hi,rfl⟩:=List.mem_map.1 hx
   have hi':=List.mem_range.1 hi;obtain ⟨y,hy⟩:=get i (by omega);obtain ⟨z,hz⟩:=get (i + 1) (by omega);rw [uY,hy,Option.bind_some] at hz;rw [hy];exact He.2 (qJ hz)
 · rw [Uc hn,List.mem_map]
   constructor
   · rintro ⟨i,hi,rfl⟩
     obtain ⟨y,hy⟩:=get i (by have:=List.mem_range.1 hi;omega);exact ⟨i,by rw [hy];rfl⟩
   · rintro ⟨n,hx⟩
     rw [ahn h1 h] at hx;exact ⟨n % j,List.mem_range.2 (Nat.mod_lt _ (by omega)),by rw [hx];rfl⟩
theorem Ku {ts : List T3} (hn : (bG ts).Nodup) : (¬ ∃ e ∈ bG ts,∃ j,1 ≤ j ∧ j < pX (dF ts) e.1 ∧ mM ts e.1 j e.2 = some e.2) ↔ ∀ v,abC (Nx ts v):=by
 constructor
 · rintro hno v s ⟨y,hy,hr⟩ x z hx
   obtain ⟨n,hr⟩:=(Uc hn).1 hr;have h0 : mM ts v (1 + n) s = some s:=by rw [Ue (b:=y) (by rw [mM,(xW hn).1 hy];rfl)];exact hr
   obtain ⟨j,⟨hj1,hj⟩,hm⟩:=ae4 (P:=fun k=>1 ≤ k ∧ mM ts v k s = some s) (1 + n) ⟨by omega,h0⟩;obtain ⟨L,hL1,hL2,hL3,hL4⟩:=Kt hn hj1 hj (fun k h1 h2 h3=>hm k h2 ⟨h1,h3⟩);have hge : pX (dF ts) v ≤ j:=by
    refine Nat.le_of_not_lt fun hlt=>hno ⟨(v,s),qJ ((xW hn).1 hy),j,hj1,hlt,hj⟩
   exact (hL4 x).1 (full hL1 hL3 (by rw [hL2,Qh];exact hge) x (He.2 (qJ ((xW hn).1 hx))))
 · rintro hall ⟨⟨v,s⟩,he,j0,h1,h2,h3⟩
   simp only at h2 h3;obtain ⟨j,⟨hj1,hj⟩,hm⟩:=ae4 (P:=fun k=>1 ≤ k ∧ mM ts v k s = some s) j0 ⟨h1,h3⟩;have hjj : j ≤ j0:=Nat.le_of_not_lt fun hlt=>hm j0 hlt ⟨h1,h3⟩;obtain ⟨L,hL1,hL2,hL3,hL4⟩:=Kt hn hj1 hj (fun k h1 h2 h3=>hm k h2 ⟨h1,h3⟩);have hcyc : Cyc (Nx ts v) s:=by
    obtain ⟨y,hy⟩:=Wk (i:=1) hj1 hj;have hy' : bX ts v s = some y:=by
     rw [mM] at hy;cases hb : bX ts v s with
     | none=>rw [hb] at hy;cases hy
     | some w=>rw [hb] at hy;exact hy
    refine ⟨y,(xW hn).2 hy',(Uc hn).2 ⟨j - 1,?_⟩⟩;have e : j = 1 + (j - 1):=by omega
    rw [e,Ue hy] at hj;exact hj
   have hle : (Qg ts v).length ≤ L.length:=xU (Ud hn) fun x hx=>by
    obtain ⟨y,hy⟩:=uX (He.1 hx);exact (hL4 x).2 (hall v s hcyc x y ((xW hn).2 hy))
   rw [Qh,hL2] at hle;omega
theorem Dy {ts : List T3} : eV true ts = 0 ↔ Qe ts ∧ (bG ts).Nodup ∧ ∀ v,abC (Nx ts v):=by
 rw [Zi];constructor
 · rintro ⟨h1,h2,h3⟩;exact ⟨h1,h2,(Ku h2).1 h3⟩
 · rintro ⟨h1,h2,h3⟩;exact ⟨h1,h2,(Ku h2).2 h3⟩
end Go.Lith
namespace Go.Lith
open Go.RowKit
/-! ### Images -/
theorem Cr {t : T3} : t.nd = true ↔ t.a ≠ t.b ∧ t.b ≠ t.c ∧ t.c ≠ t.a:=by
 unfold T3.nd;simp only[Bool.and_eq_true,decide_eq_true_eq,and_assoc]
theorem ae5 {t : T3} : t.nd = false ↔ t.a = t.b ∨ t.b = t.c ∨ t.c = t.a:=by
 cases h : t.nd with
 | true =>
  obtain ⟨h1,h2,h3⟩:=Cr.1 h;exact ⟨fun k=>(by cases k),fun k=>k.elim (fun k=>absurd k h1) fun k=>k.elim (fun k=>absurd k h2) fun k=>absurd k h3⟩
 | false =>
  refine ⟨fun _=>?_,fun _=>rfl⟩;by_cases h1 : t.a = t.b
  · exact .inl h1
  · by_cases h2 : t.b = t.c
    · exact .inr (.inl h2)
    · refine .inr (.inr (Decidable.byContradiction fun h3=>?_))
      rw [Cr.2 ⟨h1,h2,h3⟩] at h;cases h
theorem oS (t : T3) : ad3 t (kJ t):=by
 unfold kJ;split
 · exact .inr (.inr rfl)
 · split
   · exact .inr (.inl rfl)
   · exact .inl rfl
/-! ### What holds of both -/
theorem rW {ts : List T3} {t : T3} {x : P3} (ht : t ∈ ts) (h : t.has x = true) : x ∈ dF ts:=abA.2 ⟨t,ht,lX.1 h⟩
/-! ### One step -/
def xX (p a x : P3) : P3:=if x = p then a else x
theorem ajE {p a : P3} : xX p a p = a:=if_pos rfl
theorem ajF {p a x : P3} (h : x ≠ p) : xX p a x = x:=if_neg h
section
variable {p a : P3} {X : E3 → Prop} {old new R us us' : List T3}
end
/-! ### The corners round a corner,in a step -/
theorem ajG {u : T3} {v x y : P3} : ((v,x),y) ∈ abz u ↔ (v = u.a ∧ x = u.b ∧ y = u.c) ∨ (v = u.b ∧ x = u.c ∧ y = u.a) ∨ (v = u.c ∧ x = u.a ∧ y = u.b):=by
 simp only[abz,List.mem_cons,List.not_mem_nil,or_false,Prod.mk.injEq,and_assoc]
theorem Qj {t u : T3} (h : ad3 t u) {x : E3 × P3} : x ∈ abz u ↔ x ∈ abz t:=by
 obtain ⟨⟨v,w⟩,y⟩:=x;rw [ajG,ajG];rcases h with rfl | rfl | rfl
 · exact Iff.rfl
 · exact ⟨fun h=>h.elim (fun h=>.inr (.inl h)) fun h=>h.elim (fun h=>.inr (.inr h)) .inl,fun h=>h.elim (fun h=>.inr (.inr h)) fun h=>h.elim .inl fun h=>.inr (.inl h)⟩
 · exact ⟨fun h=>h.elim (fun h=>.inr (.inr h)) fun h=>h.elim .inl fun h=>.inr (.inl h),fun h=>h.elim (fun h=>.inr (.inl h)) fun h=>h.elim (fun h=>.inr (.inr h)) .inl⟩
theorem ad4 {us vs : List T3} (h : us.Perm vs) {v x y : P3} : Nx us v x y ↔ Nx vs v x y:=Ub h
end Go.Lith
namespace Go.Lith
open Go.RowKit
def kG (t : T3) : Bool:=decide (¬ Ex (nR t.a t.b t.c) < 3)
def pS (s t : T3) : List P3:=[s.a,s.b,s.c].filter fun p=>t.has p
def sV (s t : T3) : List P3:=[s.a,s.b,s.c].filter fun p=>!t.has p
def Mt (s t : T3) : Bool:=gR s.a s.b t || gR s.b s.c t || gR s.c s.a t
def sgE (u v : P3) : Bool:=decide (cA u.x = cA v.x ∧ cA u.y = cA v.y ∧ cA u.z = cA v.z)
def Wl (s t : T3) : List P3 → List P3 → List P3 → Bool
 | [_],[u,x],[v,y]=>gR u x t || gR v y s
 | [a,b],[u],[v]=>decide (yN a b u v = 0) && sgE (nR a b u) (nR a b v)
 | _,_,_=>true
def Kv (s t : T3) : Bool :=
 if (pS s t).length = 0 ∨ kG s = true ∨ kG t = true then Mt s t || Mt t s else Wl s t (pS s t) (sV s t) (sV t s)
theorem aho (s t : T3) : pS s t = (if t.has s.a then [s.a] else []) ++ ((if t.has s.b then [s.b] else []) ++ if t.has s.c then [s.c] else []):=by
 unfold pS;simp only[List.filter_cons,List.filter_nil];cases t.has s.a <;> cases t.has s.b <;> cases t.has s.c <;> rfl
theorem ahp (s t : T3) : sV s t = (if t.has s.a then [] else [s.a]) ++ ((if t.has s.b then [] else [s.b]) ++ if t.has s.c then [] else [s.c]):=by
 unfold sV;simp only[List.filter_cons,List.filter_nil];cases t.has s.a <;> cases t.has s.b <;> cases t.has s.c <;> rfl
theorem Kw {t : T3} (h : t.nd = true) : [t.a,t.b,t.c].Nodup:=by
 obtain ⟨h1,h2,h3⟩:=Cr.1 h;simp only[List.nodup_cons,List.mem_cons,List.not_mem_nil,or_false,not_or,not_false_eq_true,List.nodup_nil,and_true];exact ⟨⟨h1,h3.symm⟩,h2⟩
theorem abE {s t : T3} (hs : s.nd = true) (ht : t.nd = true) : (pS s t).Perm (pS t s):=by
 refine (List.perm_ext_iff_of_nodup ((Kw hs).filter _) ((Kw ht).filter _)).2 fun p=>?_;rw [List.mem_filter,List.mem_filter,lX,lX];simp only[List.mem_cons,List.not_mem_nil,or_false];exact and_comm
end Go.Lith
namespace Go.Lith
open Go.RowKit
def T3.Lt (s t : T3) : Prop:=s.a.Lt t.a ∨ s.a = t.a ∧ (s.b.Lt t.b ∨ s.b = t.b ∧ s.c.Lt t.c)
instance (s t : T3) : Decidable (s.Lt t):=by unfold T3.Lt;infer_instance
theorem T3.lt_irrefl (s : T3) : ¬ s.Lt s:=fun h=>by
 rcases h with h | ⟨_,h | ⟨_,h⟩⟩ <;> exact P3.lt_irrefl _ h
theorem T3.lt_trans {s t u : T3} (h : s.Lt t) (k : t.Lt u) : s.Lt u:=by
 rcases h with h | ⟨e,h | ⟨f,h⟩⟩ <;> rcases k with k | ⟨e2,k | ⟨f2,k⟩⟩
 · exact .inl (P3.lt_trans h k)
 · exact .inl (e2 ▸ h)
 · exact .inl (e2 ▸ h)
 · exact .inl (e ▸ k)
 · exact .inr ⟨e.trans e2,.inl (P3.lt_trans h k)⟩
 · exact .inr ⟨e.trans e2,.inl (f2 ▸ h)⟩
 · exact .inl (e ▸ k)
 · exact .inr ⟨e.trans e2,.inl (f ▸ k)⟩
 · exact .inr ⟨e.trans e2,.inr ⟨f.trans f2,P3.lt_trans h k⟩⟩
theorem T3.lt_tri (s t : T3) : s.Lt t ∨ s = t ∨ t.Lt s:=by
 rcases Go.Lith.lt_tri s.a t.a with h | h | h
 · exact .inl (.inl h)
 · rcases Go.Lith.lt_tri s.b t.b with k | k | k
   · exact .inl (.inr ⟨h,.inl k⟩)
   · rcases Go.Lith.lt_tri s.c t.c with l | l | l
     · exact .inl (.inr ⟨h,.inr ⟨k,l⟩⟩)
     · exact .inr (.inl (Hc h k l))
     · exact .inr (.inr (.inr ⟨h.symm,.inr ⟨k.symm,l⟩⟩))
   · exact .inr (.inr (.inr ⟨h.symm,.inl k⟩))
 · exact .inr (.inr (.inl h))
def pT (s t : T3) : Prop:=¬ t.Lt s
theorem Dz {s t u : T3} (h : pT s t) (k : pT t u) : pT s u:=fun l=>by
 rcases T3.lt_tri s t with e | e | e
 · exact k (T3.lt_trans l e)
 · exact k (e ▸ l)
 · exact h e
theorem Uf {s t : T3} (h : pT s t) (k : pT t s) : s = t:=by
 rcases T3.lt_tri s t with e | e | e
 · exact absurd e k
 · exact e
 · exact absurd e h
def Zj (t : T3) : List T3 → List T3
 | []=>[t]
 | u :: l=>if u.Lt t then u :: Zj t l else t :: u :: l
def qL : List T3 → List T3
 | []=>[]
 | t :: l=>Zj t (qL l)
def cX (l : List T3) : List T3:=qL (l.map kJ)
theorem Hf (t : T3) : ∀ l : List T3,(Zj t l).Perm (t :: l)
 | []=>.refl _
 | u :: l=>by
  rw [Zj];split
  · exact ((Hf t l).cons u).trans (.swap ..)
  · exact .refl _
theorem oT : ∀ l : List T3,(qL l).Perm l
 | []=>.refl _
 | t :: l=>(Hf t _).trans ((oT l).cons t)
theorem Hg (t : T3) : ∀ l : List T3,l.Pairwise pT → (Zj t l).Pairwise pT
 | [],_=>List.pairwise_singleton _ _
 | u :: l,h=>by
  rw [Zj];obtain ⟨h1,h2⟩:=List.pairwise_cons.1 h;split
  · rename_i k
    refine List.pairwise_cons.2 ⟨fun x hx=>?_,Hg t l h2⟩;rcases List.mem_cons.1 ((Hf t l).subset hx) with rfl | hx
    · exact fun k2=>T3.lt_irrefl _ (T3.lt_trans k k2)
    · exact h1 x hx
  · rename_i k
    refine List.pairwise_cons.2 ⟨fun x hx=>?_,h⟩;rcases List.mem_cons.1 hx with rfl | hx
    · exact k
    · exact Dz k (h1 x hx)
theorem nB : ∀ l : List T3,(qL l).Pairwise pT
 | []=>List.Pairwise.nil
 | t :: l=>Hg t _ (nB l)
theorem vB : ∀ {l m : List T3},l.Perm m → l.Pairwise pT → m.Pairwise pT → l = m
 | [],m,h,_,_=>h.symm.eq_nil.symm
 | s :: l,[],h,_,_=>by have:=h.length_eq;simp at this
 | s :: l,t :: m,h,h1,h2=>by
  obtain ⟨a1,a2⟩:=List.pairwise_cons.1 h1;obtain ⟨b1,b2⟩:=List.pairwise_cons.1 h2;have e : s = t:=by
   have hs : s ∈ t :: m:=h.subset (List.mem_cons_self ..);have ht : t ∈ s :: l:=h.symm.subset (List.mem_cons_self ..);rcases List.mem_cons.1 hs with e | hs
   · exact e
   · rcases List.mem_cons.1 ht with e | ht
     · exact e.symm
     · exact Uf (a1 t ht) (b1 s hs)
  subst e;rw [vB ((List.perm_cons s).1 h) a2 b2]
theorem mN (l : List T3) : (cX l).Perm (l.map kJ):=oT _
theorem Mu (l : List T3) : (cX l).Pairwise pT:=nB _
theorem abF {l m : List T3} (h : m.Perm (l.map kJ)) (hs : m.Pairwise pT) : m = cX l:=vB (h.trans (mN l).symm) hs (Mu l)
end Go.Lith
namespace Go.Lith
open Go.RowKit
def pU (u v : P3) (t : T3) : T3:=t.mapP (xX u v)
def vC (u v : P3) (l : List T3) : List T3:=(l.map (pU u v)).filter T3.nd
def wM (l : List T3) (u v : P3) : List T3:=cX (vC u v l)
def jH (u v : P3) (l : List T3) : List T3:=l.filter fun t=>!decide (pU u v t = t) && (pU u v t).nd
def jI (u v : P3) (l : List T3) : List T3:=(jH u v l).map (pU u v)
def mD (u v : P3) (l : List T3) : List T3:=l.filter fun t=>decide (pU u v t = t)
def Mw (l : List T3) (p q : P3) : Bool:=decide (q ≠ p) && aby l p q
def nbL (l : List T3) (p : P3) : List P3:=(dK l).filter (Mw l p)
def Zk (p : P3) : List P3 → List P3
 | []=>[p]
 | q :: l=>if q.Lt p then q :: Zk p l else p :: q :: l
def tP : List P3 → List P3
 | []=>[]
 | p :: l=>Zk p (tP l)
def Hh (t : T3) : List P3:=tP [t.a,t.b,t.c]
def xY (t : T3) (k : Nat) : Int:=min (min (lA t.a k) (lA t.b k)) (lA t.c k)
def xZ (t : T3) (k : Nat) : Int:=max (max (lA t.a k) (lA t.b k)) (lA t.c k)
def Zl (s t : T3) (k : Nat) : Bool:=decide (xZ s k < xY t k) || decide (xZ t k < xY s k)
def Ea (s t : T3) : Bool:=!Zl s t 0 && !Zl s t 1 && !Zl s t 2
def qM (t s : T3) : Bool:=Ea t s && Kv s t
def abG (s t : T3) : Int:=cA ((nR s.a s.b s.c).dot (nR t.a t.b t.c))
def sW (l : List T3) (u v : P3) : Bool:=Mw l u v && !Sj (cS l) u
def Ay (l : List T3) (u v : P3) : Bool:=decide (((nbL l u).filter (Mw l v)).length = 2)
def Ey (l : List T3) (u v : P3) : Bool:=decide (((jI u v l ++ mD u v l).map Hh).Nodup)
def Hi (l : List T3) (u v : P3) : Bool:=!Sj (cS l) v || (nbL l u).all fun p=>decide (p = v) || !Sj (cS l) p || Mw l v p
def vD (l : List T3) (u v : P3) : Bool:=(jH u v l).all fun t=>!kG (pU u v t) && decide (abG t (pU u v t) = 1)
def Mx (l : List T3) (u v : P3) : Bool:=(jI u v l).zipIdx.all fun x=>!(mD u v l).any (qM x.1) && !((jI u v l).take x.2).any (qM x.1)
def dA (l : List T3) (u v : P3) : Bool:=sW l u v && Ay l u v && Ey l u v && Hi l u v && vD l u v && Mx l u v
theorem My {l : List T3} {p q : P3} : Mw l p q = true ↔ q ≠ p ∧ aby l p q = true:=by
 unfold Mw;rw [Bool.and_eq_true,decide_eq_true_eq]
theorem Az {l : List T3} {p q : P3} : q ∈ nbL l p ↔ Mw l p q = true:=by
 unfold nbL;rw [List.mem_filter,vA];refine ⟨fun h=>h.2,fun h=>⟨?_,h⟩⟩;obtain ⟨t,ht,_,hq⟩:=Ax.1 (My.1 h).2;exact rW ht hq
theorem ad5 {u v : P3} (l : List T3) : ∀ t ∈ vC u v l,t.nd = true:=fun t h=>(List.mem_filter.1 h).2
theorem ahq (t : T3) : (kJ t).nd = t.nd:=(Wj (oS t))
theorem abH {l : List T3} (h : ∀ t ∈ l,t.nd = true) : ∀ t ∈ cX l,t.nd = true:=fun t ht=>by
 obtain ⟨s,hs,rfl⟩:=List.mem_map.1 ((mN l).mem_iff.1 ht);rw [ahq];exact h s hs
theorem ahr (l : List T3) (u v : P3) : ∀ t ∈ wM l u v,t.nd = true:=abH (ad5 l)
theorem oU (l : List T3) : (cX l).length = l.length:=by rw [(mN l).length_eq,List.length_map]
theorem abI {l : List T3} {u v : P3} (h : sW l u v = true) : (wM l u v).length < l.length:=by
 have hj:=(Bool.and_eq_true_iff.1 h).1;obtain ⟨hne,he⟩:=My.1 hj;obtain ⟨t,ht,h1,h2⟩:=Ax.1 he;unfold wM;rw [oU];unfold vC;have hn : (pU u v t).nd = false:=by
  rw [ae5];rw [lX] at h1 h2;unfold pU T3.mapP xX;simp only
  grind
 have hm : pU u v t ∈ l.map (pU u v):=List.mem_map_of_mem ht;have:=List.length_filter_lt_length_iff_exists (p:=T3.nd) (l:=l.map (pU u v)) |>.2 ⟨_,hm,by rw [hn];exact Bool.false_ne_true⟩
 rwa [List.length_map] at this
theorem Wm (u v : P3) (l : List T3) : (vC u v l).length ≤ l.length:=by
 have:=List.length_filter_le T3.nd (l.map (pU u v));rwa [List.length_map] at this
end Go.Lith
namespace Go.Proofs.YtfekpcimgncioaaGreatDoor
open Go.Proofs.Tryz
open Go.RowKit Go.Lith
abbrev xH:=@underlying22
abbrev Cs:=@underlying245
abbrev rX:=@underlying5
set_option maxRecDepth 100000
attribute [local irreducible] wpList wpQuiet dB bL cE Code.wp
theorem akB {t : T3} {x y z : Bool} (hx : x = decide (t.b.Lt t.a)) (hy : y = decide (t.c.Lt t.a)) (hz : z = decide (t.c.Lt t.b)) (h : (y && (z || !x)) = true) : kJ t = ⟨t.c,t.a,t.b⟩:=by
 subst hx;subst hy;subst hz;simp only[Bool.and_eq_true,decide_eq_true_eq,Bool.or_eq_true,Bool.not_eq_true',decide_eq_false_iff_not] at h;exact if_pos h
theorem ajH {t : T3} {x y z : Bool} (hx : x = decide (t.b.Lt t.a)) (hy : y = decide (t.c.Lt t.a)) (hz : z = decide (t.c.Lt t.b)) (h : (y && (z || !x)) = false) (h1 : x = true) : kJ t = ⟨t.b,t.c,t.a⟩:=by
 subst hx;subst hy;subst hz;have h2 : ¬ (t.c.Lt t.a ∧ (t.c.Lt t.b ∨ ¬ t.b.Lt t.a)):=fun k=>by
  rw [decide_eq_true k.1,Bool.true_and] at h;rcases k.2 with k2 | k2
  · rw [decide_eq_true k2] at h;cases h
  · exact k2 (of_decide_eq_true h1)
 rw [kJ,if_neg h2,if_pos (of_decide_eq_true h1)]
theorem ajI {t : T3} {x y z : Bool} (hx : x = decide (t.b.Lt t.a)) (hy : y = decide (t.c.Lt t.a)) (hz : z = decide (t.c.Lt t.b)) (h : (y && (z || !x)) = false) (h1 : x = false) : kJ t = t:=by
 subst hx;subst hy;subst hz;have h3:=of_decide_eq_false h1;have h2 : ¬ (t.c.Lt t.a ∧ (t.c.Lt t.b ∨ ¬ t.b.Lt t.a)):=fun k=>by
  rw [decide_eq_true k.1,h1] at h;simp at h
 rw [kJ,if_neg h2,if_neg h3]
/-! ### How often a triangle is hit -/
theorem Zm {t : T3} : eQ prog 35 [tr t] (tr (kJ t)):=by
 intro w;refine ⟨ai0,?_⟩;have m:=Mem.refl w
 go_enter func35,ntmps35
 refine aD fun K1 k1=>wp_region_lit (cB m rfl ?_);clear m;intro g1 u m;simp only[zz];refine bA m fP rfl ?_;clear m;intro g2 u m;refine aF (k1 _ _ ?_);try clear k1 K1
 refine aD fun K2 k2=>wp_region_lit (aA (aH bD aC rfl rfl (by decide) (by decide) rfl) ?_);simp only[zz];refine aJ rfl ((m.b 1 rfl).lies aI aC rfl rfl) ?_;simp only[zz,zy,Nat.zero_add,Nat.reduceAdd,Nat.reduceMul,Int.reduceToNat];refine aA (aH bD aC rfl rfl (by decide) (by decide) rfl) ?_;simp only[zz];refine aJ rfl ((m.b 1 rfl).lies aI aC rfl rfl) ?_;simp only[zz,zy,Nat.zero_add,Nat.reduceAdd,Nat.reduceMul,Int.reduceToNat];refine dH m rfl rfl (sR (p:=t.b) (q:=t.a)) ?_;clear m;intro u m;refine aA (aG) (aF (k2 _ _ ?_));try clear k2 K2
 refine aD fun K3 k3=>wp_region_lit (aA (aH bD aC rfl rfl (by decide) (by decide) rfl) ?_);simp only[zz];refine aJ rfl ((m.b 1 rfl).lies aI aC rfl rfl) ?_;simp only[zz,zy,Nat.zero_add,Nat.reduceAdd,Nat.reduceMul,Int.reduceToNat];refine aA (aH bD aC rfl rfl (by decide) (by decide) rfl) ?_;simp only[zz];refine aJ rfl ((m.b 1 rfl).lies aI aC rfl rfl) ?_;simp only[zz,zy,Nat.zero_add,Nat.reduceAdd,Nat.reduceMul,Int.reduceToNat];refine dH m rfl rfl (sR (p:=t.c) (q:=t.a)) ?_;clear m;intro u m;refine aA (aG) (aF (k3 _ _ ?_));try clear k3 K3
 refine aD fun K4 k4=>wp_region_lit (aA (aH bD aC rfl rfl (by decide) (by decide) rfl) ?_);simp only[zz];refine aJ rfl ((m.b 1 rfl).lies aI aC rfl rfl) ?_;simp only[zz,zy,Nat.zero_add,Nat.reduceAdd,Nat.reduceMul,Int.reduceToNat];refine aA (aH bD aC rfl rfl (by decide) (by decide) rfl) ?_;simp only[zz];refine aJ rfl ((m.b 1 rfl).lies aI aC rfl rfl) ?_;simp only[zz,zy,Nat.zero_add,Nat.reduceAdd,Nat.reduceMul,Int.reduceToNat];refine dH m rfl rfl (sR (p:=t.c) (q:=t.b)) ?_;clear m;intro u m;refine aA (aG) (aF (k4 _ _ ?_));try clear k4 K4
 refine aD fun K5 k5=>aD fun K6 k6=>?_;simp only[zz];cases hy : decide (t.c.Lt t.a)
 · skip
   refine wp_region_lit (aA (aB) (aA (aB) (dY rfl (dY rfl ?_))));simp only[zz];refine Vt rfl (Vt rfl (dY rfl (aA (iB rfl) ?_)));simp only[zz];refine aF (k6 _ _ ?_);try clear k6 K6
   refine gA rfl (wp_skip (k5 _ _ ?_));try clear k5 K5
   refine aD fun K7 k7=>aD fun K8 k8=>wp_region_lit (aA (aB) (aF (k8 _ _ ?_)));try clear k8 K8
   simp only[zz];refine eD rfl (fun hc2=>?_) (fun hc2=>?_)
   · skip
     have hr:=ajH (t:=t) rfl rfl rfl (by rw [hy];rfl) hc2;refine aD fun K9 k9=>wp_region_lit (aA (aH bD aC rfl rfl (by decide) (by decide) rfl) ?_);simp only[zz];refine aJ rfl ((m.b 1 rfl).lies aI aC rfl rfl) ?_;simp only[zz,zy,Nat.zero_add,Nat.reduceAdd,Nat.reduceMul,Int.reduceToNat];refine aA (aH bD aC rfl rfl (by decide) (by decide) rfl) ?_;simp only[zz];refine aJ rfl ((m.b 1 rfl).lies aI aC rfl rfl) ?_;simp only[zz,zy,Nat.zero_add,Nat.reduceAdd,Nat.reduceMul,Int.reduceToNat];refine aA (aH bD aC rfl rfl (by decide) (by decide) rfl) ?_;simp only[zz];refine aJ rfl ((m.b 1 rfl).lies aI aC rfl rfl) ?_;simp only[zz,zy,Nat.zero_add,Nat.reduceAdd,Nat.reduceMul,Int.reduceToNat];refine aA (cO rfl rfl rfl) ?_;simp only[zz];refine aT m 0 rfl rfl rfl aR (cU rfl) rfl ?_;clear m;intro u m;simp only[zy,zx,bB,zF,zG,Nat.reduceAdd] at m;refine aF (k9 _ _ ?_);try clear k9 K9
     refine wp_ret ?_;try simp only[Exit.inBlock,Exit.then,if_true]
     refine bE rfl ⟨_,rfl,((m.b 0 rfl).full bR aR)⟩ ?_;try simp only[zD,zE]
     exact ⟨_,rfl,m.ext,by rw [hr];rfl⟩
   · skip
     have hr:=ajI (t:=t) rfl rfl rfl (by rw [hy];rfl) hc2;refine wp_skip (k7 _ _ ?_);try clear k7 K7
     refine aD fun K10 k10=>wp_region_lit (aJ rfl ((m.b 1 rfl).full bR aR) ?_);simp only[zz];refine aT m 0 rfl rfl rfl aR (cU rfl) rfl ?_;clear m;intro u m;simp only[zy,zx,bB,zF,zG,Nat.reduceAdd] at m;refine aF (k10 _ _ ?_);try clear k10 K10
     refine wp_ret ?_;try simp only[Exit.inBlock,Exit.then,if_true]
     refine bE rfl ⟨_,rfl,((m.b 0 rfl).full bR aR)⟩ ?_;try simp only[zD,zE]
     exact ⟨_,rfl,m.ext,by rw [hr];rfl⟩
 · skip
   refine wp_region_lit (aA (aB) (aA (aB) (bM rfl (aA (aB) (bM rfl (aA (aB) ?_))))));simp only[zz];refine fU rfl (fun hb=>aB) (fU rfl (fun hb=>fR (bW hb rfl)) (bM rfl (aA (fH rfl rfl rfl) (aA (eK rfl) ?_))));simp only[zz];refine aF (k6 _ _ ?_);try clear k6 K6
   refine eD rfl (fun hc1=>?_) (fun hc1=>?_)
   · skip
     have hr:=akB (t:=t) rfl rfl rfl (by rw [hy];exact hc1);refine aD fun K11 k11=>wp_region_lit (aA (aH bD aC rfl rfl (by decide) (by decide) rfl) ?_);simp only[zz];refine aJ rfl ((m.b 1 rfl).lies aI aC rfl rfl) ?_;simp only[zz,zy,Nat.zero_add,Nat.reduceAdd,Nat.reduceMul,Int.reduceToNat];refine aA (aH bD aC rfl rfl (by decide) (by decide) rfl) ?_;simp only[zz];refine aJ rfl ((m.b 1 rfl).lies aI aC rfl rfl) ?_;simp only[zz,zy,Nat.zero_add,Nat.reduceAdd,Nat.reduceMul,Int.reduceToNat];refine aA (aH bD aC rfl rfl (by decide) (by decide) rfl) ?_;simp only[zz];refine aJ rfl ((m.b 1 rfl).lies aI aC rfl rfl) ?_;simp only[zz,zy,Nat.zero_add,Nat.reduceAdd,Nat.reduceMul,Int.reduceToNat];refine aA (cO rfl rfl rfl) ?_;simp only[zz];refine aT m 0 rfl rfl rfl aR (cU rfl) rfl ?_;clear m;intro u m;simp only[zy,zx,bB,zF,zG,Nat.reduceAdd] at m;refine aF (k11 _ _ ?_);try clear k11 K11
     refine wp_ret ?_;try simp only[Exit.inBlock,Exit.then,if_true]
     refine bE rfl ⟨_,rfl,((m.b 0 rfl).full bR aR)⟩ ?_;try simp only[zD,zE]
     exact ⟨_,rfl,m.ext,by rw [hr];rfl⟩
   · skip
     refine wp_skip (k5 _ _ ?_);try clear k5 K5
     refine aD fun K12 k12=>aD fun K13 k13=>wp_region_lit (aA (aB) (aF (k13 _ _ ?_)));try clear k13 K13
     simp only[zz];refine eD rfl (fun hc2=>?_) (fun hc2=>?_)
     · skip
       have hr:=ajH (t:=t) rfl rfl rfl (by rw [hy];exact hc1) hc2;refine aD fun K14 k14=>wp_region_lit (aA (aH bD aC rfl rfl (by decide) (by decide) rfl) ?_);simp only[zz];refine aJ rfl ((m.b 1 rfl).lies aI aC rfl rfl) ?_;simp only[zz,zy,Nat.zero_add,Nat.reduceAdd,Nat.reduceMul,Int.reduceToNat];refine aA (aH bD aC rfl rfl (by decide) (by decide) rfl) ?_;simp only[zz];refine aJ rfl ((m.b 1 rfl).lies aI aC rfl rfl) ?_;simp only[zz,zy,Nat.zero_add,Nat.reduceAdd,Nat.reduceMul,Int.reduceToNat];refine aA (aH bD aC rfl rfl (by decide) (by decide) rfl) ?_;simp only[zz];refine aJ rfl ((m.b 1 rfl).lies aI aC rfl rfl) ?_;simp only[zz,zy,Nat.zero_add,Nat.reduceAdd,Nat.reduceMul,Int.reduceToNat];refine aA (cO rfl rfl rfl) ?_;simp only[zz];refine aT m 0 rfl rfl rfl aR (cU rfl) rfl ?_;clear m;intro u m;simp only[zy,zx,bB,zF,zG,Nat.reduceAdd] at m;refine aF (k14 _ _ ?_);try clear k14 K14
       refine wp_ret ?_;try simp only[Exit.inBlock,Exit.then,if_true]
       refine bE rfl ⟨_,rfl,((m.b 0 rfl).full bR aR)⟩ ?_;try simp only[zD,zE]
       exact ⟨_,rfl,m.ext,by rw [hr];rfl⟩
     · skip
       have hr:=ajI (t:=t) rfl rfl rfl (by rw [hy];exact hc1) hc2;refine wp_skip (k12 _ _ ?_);try clear k12 K12
       refine aD fun K15 k15=>wp_region_lit (aJ rfl ((m.b 1 rfl).full bR aR) ?_);simp only[zz];refine aT m 0 rfl rfl rfl aR (cU rfl) rfl ?_;clear m;intro u m;simp only[zy,zx,bB,zF,zG,Nat.reduceAdd] at m;refine aF (k15 _ _ ?_);try clear k15 K15
       refine wp_ret ?_;try simp only[Exit.inBlock,Exit.then,if_true]
       refine bE rfl ⟨_,rfl,((m.b 0 rfl).full bR aR)⟩ ?_;try simp only[zD,zE]
       exact ⟨_,rfl,m.ext,by rw [hr];rfl⟩
theorem ahs {p q : P3} (h : ¬ (p.x = q.x ∧ p.y = q.y ∧ p.z = q.z)) : p ≠ q:=fun k=>h (by rw [k];exact ⟨rfl,rfl,rfl⟩)
theorem aht {p q : P3} (h : ¬ ¬ (p.x = q.x ∧ p.y = q.y ∧ p.z = q.z)) : p = q:=by
 obtain ⟨h1,h2,h3⟩:=Classical.not_not.1 h;exact P3.eq h1 h2 h3
theorem ajJ {s t : T3} (h : s.a ≠ t.a) : decide (s.Lt t) = decide (s.a.Lt t.a):=by unfold T3.Lt;simp [h]
theorem ajK {s t : T3} (e : s.a = t.a) (h : s.b ≠ t.b) : decide (s.Lt t) = decide (s.b.Lt t.b):=by unfold T3.Lt;simp [h,e,P3.lt_irrefl]
theorem ae6 {s t : T3} (e : s.a = t.a) (f : s.b = t.b) : decide (s.Lt t) = decide (s.c.Lt t.c):=by unfold T3.Lt;simp [e,f,P3.lt_irrefl]
theorem ajL {s t : T3} (e : s.a = t.a) (f : s.b = t.b) (h : s.c = t.c) : decide (s.Lt t) = false:=by rw [ae6 e f,h];simp [P3.lt_irrefl]
def gX (ls bs : List T3) : List T3:=ls.merge bs fun x y=>!decide (y.Lt x)
theorem abJ (bs : List T3) : gX [] bs = bs:=by simp [gX]
theorem Qk (ls : List T3) : gX ls [] = ls:=by simp [gX]
theorem abK {ls bs : List T3} {x y : T3} (h : y.Lt x) : gX (x :: ls) (y :: bs) = y :: gX (x :: ls) bs:=by simp [gX,List.cons_merge_cons,h]
theorem abL {ls bs : List T3} {x y : T3} (h : ¬ y.Lt x) : gX (x :: ls) (y :: bs) = x :: gX ls (y :: bs):=by simp [gX,List.cons_merge_cons,h]
theorem Ba {α : Type} {l : List α} {i : Nat} {x : α} (h : l[i]? = some x) : l.drop i = x :: l.drop (i + 1):=by
 obtain ⟨h1,h2⟩:=List.getElem?_eq_some_iff.1 h;rw [List.drop_eq_getElem_cons h1,h2]
theorem Ql (ts : List T3) (k : Nat) : gX (qL (ts.take k)) (qL (ts.drop k)) = qL ts:=by
 refine vB ?_ ?_ (nB ts)
 · refine (List.merge_perm_append ..).trans (((oT _).append (oT _)).trans ?_)
   rw [List.take_append_drop];exact (oT ts).symm
 · have:=List.pairwise_merge (le:=fun x y : T3=>!decide (y.Lt x)) ?_ ?_ (qL (ts.take k)) (qL (ts.drop k)) ((nB _).imp fun {a b} h=>by simpa [pT] using h) ((nB _).imp fun {a b} h=>by simpa [pT] using h)
   · exact this.imp fun {a b} h=>by simpa [pT] using h
   · intro a b c h1 h2
     simp only[Bool.not_eq_true',decide_eq_false_iff_not] at *
     exact Dz (s:=a) (t:=b) (u:=c) h1 h2
   · intro a b
     simp only[Bool.or_eq_true,Bool.not_eq_true',decide_eq_false_iff_not];by_cases h : b.Lt a
     · exact .inr fun k=>T3.lt_irrefl a (T3.lt_trans k h)
     · exact .inl h
theorem Eb {ts : List T3} (h : ts.length < 2) : qL ts = ts:=by
 rcases ts with _ | ⟨t,_ | ⟨u,ts⟩⟩
 · rfl
 · rfl
 · simp at h;omega
theorem abM {s t : T3} : eQ prog 218 [tr s,tr t] (.bool (decide (s.Lt t))):=by
 intro w;refine ⟨agI,?_⟩;have m:=Mem.refl w
 go_enter func218,ntmps218
 refine aD fun K1 k1=>wp_region_lit (cB m rfl ?_);clear m;intro g1 u m;simp only[zz];refine cB m rfl ?_;clear m;intro g2 u m;refine aA (aG) (aF (k1 _ _ ?_));try clear k1 K1
 refine aD fun K2 k2=>aD fun K3 k3=>wp_region_lit (aA (aG) (aF (k3 _ _ ?_)));try clear k3 K3
 refine wp_block (wp_loop_rounds 4 (bU (aD fun K4 k4=>aD fun K5 k5=>wp_region_lit (aA (aB) ?_))));simp only[zz];refine aA (bF (m:=0) (n:=3) rfl rfl (by decide)) (aF (k5 _ _ ?_));try clear k5 K5
 refine bK rfl (wp_skip (k4 _ _ ?_));try clear k4 K4
 refine aD fun K6 k6=>wp_block (aD fun K7 k7=>?_);simp only[zz];refine mq m aM (by kernel_rfl) (aK (aB) (aK (aH bD aC rfl rfl (by decide) (by decide) rfl) ?_));simp only[zz];refine ql rfl (fun u m=>((m.b 1 rfl).lies aI aC rfl rfl)) ?_;simp only[zz,zy,Nat.zero_add,Nat.reduceAdd,Nat.reduceMul,Int.reduceToNat];refine aK (aB) (aK (aH bD aC rfl rfl (by decide) (by decide) rfl) ?_);simp only[zz];refine ql rfl (fun u m=>((m.b 0 rfl).lies aI aC rfl rfl)) ?_;simp only[zz,zy,Nat.zero_add,Nat.reduceAdd,Nat.reduceMul,Int.reduceToNat];refine aK (gE rfl rfl) (bZ ?_);clear m;intro u m;refine k7 _ _ ?_;try clear k7 K7
 simp only[zz];refine cG rfl (fun hc2=>?_) (fun hc2=>?_)
 · skip
   have ha:=ahs hc2;refine aD fun K8 k8=>mq m aM (by kernel_rfl) (aK (aB) (aK (aH bD aC rfl rfl (by decide) (by decide) rfl) ?_));simp only[zz];refine ql rfl (fun u m=>((m.b 1 rfl).lies aI aC rfl rfl)) ?_;simp only[zz,zy,Nat.zero_add,Nat.reduceAdd,Nat.reduceMul,Int.reduceToNat];refine aK (aB) (aK (aH bD aC rfl rfl (by decide) (by decide) rfl) ?_);simp only[zz];refine ql rfl (fun u m=>((m.b 0 rfl).lies aI aC rfl rfl)) ?_;simp only[zz,zy,Nat.zero_add,Nat.reduceAdd,Nat.reduceMul,Int.reduceToNat];refine gV rfl rfl (sR (p:=s.a) (q:=t.a)) (aK (aG) (bZ ?_));clear m;intro u m;refine k8 _ _ ?_;try clear k8 K8
   refine wp_ret ?_;simp only[zz];try simp only[Exit.inBlock,Exit.then,if_true]
   refine bE rfl rfl ?_;try simp only[zD,zE]
   exact ⟨_,rfl,m.ext,by rw [ajJ ha]⟩
 · skip
   have ea:=aht hc2;refine wp_skip (k6 _ _ ?_);try clear k6 K6
   refine wp_region_lit (aA (aB) (aA (aU (m:=0) (n:=1) (r:=1) rfl rfl (by decide)) (aA (aG) (aF (aQ (aD fun K9 k9=>aD fun K10 k10=>wp_region_lit (aA (aB) ?_)))))));simp only[zz];refine aA (bF (m:=1) (n:=3) rfl rfl (by decide)) (aF (k10 _ _ ?_));try clear k10 K10
   refine bK rfl (wp_skip (k9 _ _ ?_));try clear k9 K9
   refine aD fun K11 k11=>wp_block (aD fun K12 k12=>?_);simp only[zz];refine mq m aM (by kernel_rfl) (aK (aB) (aK (aH bD aC rfl rfl (by decide) (by decide) rfl) ?_));simp only[zz];refine ql rfl (fun u m=>((m.b 1 rfl).lies aI aC rfl rfl)) ?_;simp only[zz,zy,Nat.zero_add,Nat.reduceAdd,Nat.reduceMul,Int.reduceToNat];refine aK (aB) (aK (aH bD aC rfl rfl (by decide) (by decide) rfl) ?_);simp only[zz];refine ql rfl (fun u m=>((m.b 0 rfl).lies aI aC rfl rfl)) ?_;simp only[zz,zy,Nat.zero_add,Nat.reduceAdd,Nat.reduceMul,Int.reduceToNat];refine aK (gE rfl rfl) (bZ ?_);clear m;intro u m;refine k12 _ _ ?_;try clear k12 K12
   simp only[zz];refine cG rfl (fun hc2=>?_) (fun hc2=>?_)
   · skip
     have hb:=ahs hc2;refine aD fun K13 k13=>mq m aM (by kernel_rfl) (aK (aB) (aK (aH bD aC rfl rfl (by decide) (by decide) rfl) ?_));simp only[zz];refine ql rfl (fun u m=>((m.b 1 rfl).lies aI aC rfl rfl)) ?_;simp only[zz,zy,Nat.zero_add,Nat.reduceAdd,Nat.reduceMul,Int.reduceToNat];refine aK (aB) (aK (aH bD aC rfl rfl (by decide) (by decide) rfl) ?_);simp only[zz];refine ql rfl (fun u m=>((m.b 0 rfl).lies aI aC rfl rfl)) ?_;simp only[zz,zy,Nat.zero_add,Nat.reduceAdd,Nat.reduceMul,Int.reduceToNat];refine gV rfl rfl (sR (p:=s.b) (q:=t.b)) (aK (aG) (bZ ?_));clear m;intro u m;refine k13 _ _ ?_;try clear k13 K13
     refine wp_ret ?_;simp only[zz];try simp only[Exit.inBlock,Exit.then,if_true]
     refine bE rfl rfl ?_;try simp only[zD,zE]
     exact ⟨_,rfl,m.ext,by rw [ajK ea hb]⟩
   · skip
     have eb:=aht hc2;refine wp_skip (k11 _ _ ?_);try clear k11 K11
     refine wp_region_lit (aA (aB) (aA (aU (m:=1) (n:=1) (r:=2) rfl rfl (by decide)) (aA (aG) (aF (aQ (aD fun K14 k14=>aD fun K15 k15=>wp_region_lit (aA (aB) ?_)))))));simp only[zz];refine aA (bF (m:=2) (n:=3) rfl rfl (by decide)) (aF (k15 _ _ ?_));try clear k15 K15
     refine bK rfl (wp_skip (k14 _ _ ?_));try clear k14 K14
     refine aD fun K16 k16=>wp_block (aD fun K17 k17=>?_);simp only[zz];refine mq m aM (by kernel_rfl) (aK (aB) (aK (aH bD aC rfl rfl (by decide) (by decide) rfl) ?_));simp only[zz];refine ql rfl (fun u m=>((m.b 1 rfl).lies aI aC rfl rfl)) ?_;simp only[zz,zy,Nat.zero_add,Nat.reduceAdd,Nat.reduceMul,Int.reduceToNat];refine aK (aB) (aK (aH bD aC rfl rfl (by decide) (by decide) rfl) ?_);simp only[zz];refine ql rfl (fun u m=>((m.b 0 rfl).lies aI aC rfl rfl)) ?_;simp only[zz,zy,Nat.zero_add,Nat.reduceAdd,Nat.reduceMul,Int.reduceToNat];refine aK (gE rfl rfl) (bZ ?_);clear m;intro u m;refine k17 _ _ ?_;try clear k17 K17
     simp only[zz];refine cG rfl (fun hc2=>?_) (fun hc2=>?_)
     · skip
       have hc:=ahs hc2;refine aD fun K18 k18=>mq m aM (by kernel_rfl) (aK (aB) (aK (aH bD aC rfl rfl (by decide) (by decide) rfl) ?_));simp only[zz];refine ql rfl (fun u m=>((m.b 1 rfl).lies aI aC rfl rfl)) ?_;simp only[zz,zy,Nat.zero_add,Nat.reduceAdd,Nat.reduceMul,Int.reduceToNat];refine aK (aB) (aK (aH bD aC rfl rfl (by decide) (by decide) rfl) ?_);simp only[zz];refine ql rfl (fun u m=>((m.b 0 rfl).lies aI aC rfl rfl)) ?_;simp only[zz,zy,Nat.zero_add,Nat.reduceAdd,Nat.reduceMul,Int.reduceToNat];refine gV rfl rfl (sR (p:=s.c) (q:=t.c)) (aK (aG) (bZ ?_));clear m;intro u m;refine k18 _ _ ?_;try clear k18 K18
       refine wp_ret ?_;simp only[zz];try simp only[Exit.inBlock,Exit.then,if_true]
       refine bE rfl rfl ?_;try simp only[zD,zE]
       exact ⟨_,rfl,m.ext,by rw [ae6 ea eb]⟩
     · skip
       have ec:=aht hc2;refine wp_skip (k16 _ _ ?_);try clear k16 K16
       refine wp_region_lit (aA (aB) (aA (aU (m:=2) (n:=1) (r:=3) rfl rfl (by decide)) (aA (aG) (aF (aQ (aD fun K19 k19=>aD fun K20 k20=>wp_region_lit (aA (aB) ?_)))))));simp only[zz];refine aA (dM (m:=3) (n:=3) rfl rfl (by decide)) (aF (k20 _ _ ?_));try clear k20 K20
       refine gA rfl (wp_exit (k2 _ _ ?_));try clear k2 K2
       refine aD fun K21 k21=>wp_region_lit (aA (aG) (aF (k21 _ _ ?_)));try clear k21 K21
       refine wp_ret ?_;simp only[zz];try simp only[Exit.inBlock,Exit.then,if_true]
       refine bE rfl rfl ?_;try simp only[zD,zE]
       exact ⟨_,rfl,m.ext,by rw [ajL ea eb ec]⟩
theorem abN {ls ms : List T3} {N M cap cap2 : Nat} {A A2 : Option Addr} (w : World) (hT : bY w A N ls) (hU : bY w A2 M ms) (hcap : M ≤ cap2) (hN : N + M ≤ 10000000) : eG prog 145 [.slice A N cap,.slice A2 M cap2] w (SL 39 9 ((gX ls ms).flatMap aW) (N + M) w):=by
 refine ⟨agh,?_⟩;have m:=Mem.refl w;have htl:=hT.len;have hul:=hU.len
 go_enter func145,ntmps145
 refine aD fun K1 k1=>wp_region_lit (aA (aG) (aF (k1 _ _ ?_)));try clear k1 K1
 refine aD fun K2 k2=>wp_region_lit (aA (aG) ?_);replace m:=m.nilO 39 9;refine aF (k2 _ _ ?_);try clear k2 K2
 refine aD fun K3 k3=>wp_region_lit (aA (aG) (aF (k3 _ _ ?_)));try clear k3 K3
 refine aD fun K4 k4=>aD fun K5 k5=>wp_region_lit (aA (aG) ?_);simp only[zz];refine aF (k5 _ _ ?_);try clear k5 K5
 refine wp_block ?_;try simp only[Nat.zero_add,Nat.reduceAdd,Nat.reduceMul,Int.reduceToNat]
 refine bT [5,6,7] [8,9,10,11,12,13,14,15,16,17,18,19,20,21,22,23,24,25,26,27,28,29,30,31,32,33,34,35,36,37,38,39,40,41,42,43,44,45] (fun n vs wl=>∃ (i j : Nat) (xs : List T3) (A5 : Option Addr) (cap5 : Nat),vs = [.slice A5 (i + j) cap5,.int .i64 (j:Int),.int .i64 (i:Int)] ∧ Mem w wl [oI 39 9 A5 (i + j) cap5 (xs.flatMap aW)] ∧ (xs ++ gX (ls.drop i) (ms.drop j) = gX ls ms) ∧ (i ≤ N) ∧ (j ≤ M) ∧ (n = N - i)) ?_ ?_
 · skip
   apply Exists.intro;simp only[zQ,zR,zD,zE];exact ⟨0,0,[],_,_,rfl,m,rfl,Nat.zero_le _,Nat.zero_le _,rfl⟩
 · intro n vs wr hI u
   clear m;obtain ⟨i,j,xs,A5,cap5,rfl,m,hI,hi,hj,hn⟩:=hI;simp only[zu,zF,zG];refine aD fun K6 k6=>aD fun K7 k7=>wp_region_lit (aA (aB) (aA (aB) (aA (bH rfl bQ rfl) (aA (cW rfl rfl) ?_))));simp only[zz];refine aF (k7 _ _ ?_);try clear k7 K7
   refine cG rfl (fun hc1=>?_) (fun hc1=>?_)
   · skip
     obtain ⟨x,hx,_,a,hA,hrow⟩:=hT.get (i:=i) (by omega);subst hA;refine wp_skip (k6 _ _ ?_);try clear k6 K6
     refine aD fun K8 k8=>wp_block (aD fun K9 k9=>wp_block ?_);try simp only[Nat.zero_add,Nat.reduceAdd,Nat.reduceMul,Int.reduceToNat]
     refine bT [5,6] [8,15,16,17,18,19,20,21,22,23,24,25,26,27,28,29,30,31,32,33,34,35,36,37,38] (fun n vs wl=>∃ (j : Nat) (xs : List T3) (A5 : Option Addr) (cap5 : Nat),vs = [.slice A5 (i + j) cap5,.int .i64 (j:Int)] ∧ Mem w wl [oI 39 9 A5 (i + j) cap5 (xs.flatMap aW)] ∧ (xs ++ gX (ls.drop i) (ms.drop j) = gX ls ms) ∧ (j ≤ M) ∧ (n = M - j)) ?_ ?_
     · skip
       apply Exists.intro;simp only[zQ,zR,zD,zE];exact ⟨j,xs,_,_,rfl,m,hI,hj,rfl⟩
     · intro n vs wr hI u
       clear m;obtain ⟨j,xs,A5,cap5,rfl,m,hI2,hj,hn2⟩:=hI;simp only[zu,zF,zG];refine aD fun K10 k10=>aD fun K11 k11=>wp_region_lit (aA (aB) (aA (aB) (aA (bH rfl bQ rfl) (aA (cW rfl rfl) ?_))));simp only[zz];refine aF (k11 _ _ ?_);try clear k11 K11
       refine cG rfl (fun hc2=>?_) (fun hc2=>?_)
       · skip
         obtain ⟨y,hy,_,a2,hA2,hrow2⟩:=hU.get (i:=j) (by omega);subst hA2;refine wp_skip (k10 _ _ ?_);try clear k10 K10
         refine wp_block (aD fun K12 k12=>?_);refine mh m [true] [(0,true),(1,true),(2,true),(4,true),(5,true),(6,true),(3,true),(7,true),(8,false),(9,true)] aM (by kernel_rfl) (cN (fun _ _ _ _ _ h=>h)) (ol:=?_) ?hol ?_
         case hol=>simp only[zw,zQ,zR];try rfl
         clear m;intro u m;refine aS (aB) (aS (aB) ?_);simp only[zz];refine aS (aN bQ aR rfl rfl (by omega) (by omega) (dC (Int.toNat_natCast _))) (aS (aB) (aS (aB) ?_));simp only[zz];refine aS (aN bQ aR rfl rfl (by omega) (by omega) (dC (Int.toNat_natCast _))) ?_;simp only[zz];refine cI rfl (fun u m=>((hrow2.ext m.ext).lies bR aR)) ?_;simp only[zz];refine cI rfl (fun u m=>((hrow.ext m.ext).lies bR aR)) ?_;simp only[zz];refine cJ (dH m rfl rfl (abM (s:=y) (t:=x)) ?_);clear m;intro u m;refine aF (⟨m,?_⟩);refine aS (aG) (aY (k12 _ _ ?_));try clear k12 K12
         refine aD fun K13 k13=>aD fun K14 k14=>wp_region_lit (aA (aB) (aA (fR rfl) ?_));simp only[zz];refine aF (k14 _ _ ?_);try clear k14 K14
         refine eD rfl (fun hc3=>?_) (fun hc3=>?_)
         · skip
           have hI3 : (xs ++ [x]) ++ gX (ls.drop (i + 1)) (ms.drop j) = gX ls ms:=by rw [← hI2,Ba hx,Ba hy,abL (by simpa using hc3),List.append_assoc];rfl
           refine wp_exit (k9 _ _ ?_);try clear k9 K9
           refine wp_region_lit (aA (aB) (aA (aB) (aA (aB) ?_)));simp only[zz];refine aA (aN bQ aR rfl rfl (by omega) (by omega) (dC (Int.toNat_natCast _))) ?_;simp only[zz];refine aJ rfl ((hrow.ext m.ext).lies bR aR) ?_;simp only[zz];refine eT rfl ?_;intro u g1 e hg hB;replace m:=m.newB e hg hB;clear e hg hB;simp only[zz];refine dD m 1 rfl rfl bQ iK rfl (by decide) rfl rfl rfl (m.b 0 rfl).rowsO (jZ rfl) (by omega) (by omega) ?_;clear m;intro A5 cap5 u m;simp only[zF,zG] at m;rw [show xs.flatMap aW ++ _ = (xs ++ [x]).flatMap aW by rw [List.flatMap_append];rfl] at m;refine aA (aG) (aF (k8 _ _ ?_));try clear k8 K8
           refine wp_region_lit (aA (aB) ?_);simp only[zz];refine aA (aU rfl rfl (aV (by omega) (by omega))) (aA (aG) (aF ?_));simp only[zz];rw [show i + j + 1 = i + 1 + j by omega] at m ⊢;simp only[Exit.inBlock,Exit.then];refine ⟨N - (i + 1),_,?_,rfl,?_,?_⟩
           · omega
           · simp only[zz,zv]
           · simp only[zQ,zR,zD,zE]
             exact ⟨i + 1,j,xs ++ [x],_,_,rfl,(m.sel [false,true]),hI3,by omega,hj,rfl⟩
         · skip
           have hI4 : (xs ++ [y]) ++ gX (ls.drop i) (ms.drop (j + 1)) = gX ls ms:=by rw [← hI2,Ba hx,Ba hy,abK (by simpa using hc3),List.append_assoc];rfl
           refine wp_skip (k13 _ _ ?_);try clear k13 K13
           refine aD fun K15 k15=>wp_region_lit (aA (aB) (aA (aB) (aA (aB) ?_)));simp only[zz];refine aA (aN bQ aR rfl rfl (by omega) (by omega) (dC (Int.toNat_natCast _))) ?_;simp only[zz];refine aJ rfl ((hrow2.ext m.ext).lies bR aR) ?_;simp only[zz];refine eT rfl ?_;intro u g1 e hg hB;replace m:=m.newB e hg hB;clear e hg hB;simp only[zz];refine dD m 1 rfl rfl bQ iK rfl (by decide) rfl rfl rfl (m.b 0 rfl).rowsO (jZ rfl) (by omega) (by omega) ?_;clear m;intro A5 cap5 u m;simp only[zF,zG] at m;rw [show xs.flatMap aW ++ _ = (xs ++ [y]).flatMap aW by rw [List.flatMap_append];rfl] at m;refine aA (aG) (aF (k15 _ _ ?_));try clear k15 K15
           refine wp_region_lit (aA (aB) ?_);simp only[zz];refine aA (aU rfl rfl (aV (by omega) (by omega))) (aA (aG) (aF ?_));simp only[zz];rw [show i + j + 1 = i + (j + 1) by omega] at m ⊢;simp only[Exit.inBlock,Exit.then];refine ⟨M - (j + 1),_,?_,rfl,?_,?_⟩
           · omega
           · simp only[zz,zv]
           · simp only[zQ,zR,zD,zE]
             exact ⟨j + 1,xs ++ [y],_,_,rfl,(m.sel [false,true]),hI4,by omega,rfl⟩
       · skip
         obtain rfl : j = M:=by omega
         have hI3 : (xs ++ [x]) ++ gX (ls.drop (i + 1)) (ms.drop j) = gX ls ms:=by rw [← hI2,Ba hx,show ms.drop j = [] from List.drop_of_length_le (by omega),Qk,Qk,List.append_assoc];rfl
         refine wp_exit (k9 _ _ ?_);try clear k9 K9
         refine wp_region_lit (aA (aB) (aA (aB) (aA (aB) ?_)));simp only[zz];refine aA (aN bQ aR rfl rfl (by omega) (by omega) (dC (Int.toNat_natCast _))) ?_;simp only[zz];refine aJ rfl ((hrow.ext m.ext).lies bR aR) ?_;simp only[zz];refine eT rfl ?_;intro u g1 e hg hB;replace m:=m.newB e hg hB;clear e hg hB;simp only[zz];refine dD m 1 rfl rfl bQ iK rfl (by decide) rfl rfl rfl (m.b 0 rfl).rowsO (jZ rfl) (by omega) (by omega) ?_;clear m;intro A5 cap5 u m;simp only[zF,zG] at m;rw [show xs.flatMap aW ++ _ = (xs ++ [x]).flatMap aW by rw [List.flatMap_append];rfl] at m;refine aA (aG) (aF (k8 _ _ ?_));try clear k8 K8
         refine wp_region_lit (aA (aB) ?_);simp only[zz];refine aA (aU rfl rfl (aV (by omega) (by omega))) (aA (aG) (aF ?_));simp only[zz];rw [show i + j + 1 = i + 1 + j by omega] at m ⊢;simp only[Exit.inBlock,Exit.then];refine ⟨N - (i + 1),_,?_,rfl,?_,?_⟩
         · omega
         · simp only[zz,zv]
         · simp only[zQ,zR,zD,zE]
           exact ⟨i + 1,j,xs ++ [x],_,_,rfl,(m.sel [false,true]),hI3,by omega,hj,rfl⟩
   · skip
     obtain rfl : i = N:=by omega
     have hend : xs ++ ms.drop j = gX ls ms:=by rw [← hI,show ls.drop i = [] from List.drop_of_length_le (by omega),abJ]
     refine wp_exit (k4 _ _ ?_);try clear k4 K4
     refine aD fun K16 k16=>wp_region_lit (aA (aB) (aA (aB) (aA (aB) ?_)));simp only[zz];refine aA (vQ bQ aR rfl rfl (Int.toNat_natCast _) (by omega) (by omega) rfl) ?_;simp only[zz];refine dD m 0 rfl rfl bQ iK rfl (by decide) rfl rfl (by rw [yV,List.length_drop,hul]) ((hU.lat.ext m.ext).cellsD afN (by decide) hcap) (Ge _) (by omega) (by omega) ?_;clear m;intro A5 cap5 u m;simp only[zF,zG] at m;rw [← List.flatMap_append,hend] at m;refine aA (aG) (aF (k16 _ _ ?_));try clear k16 K16
     refine wp_ret ?_;simp only[zz];try simp only[Exit.inBlock,Exit.then,if_true]
     refine bE rfl rfl ?_;try simp only[zD,zE]
     exact ⟨_,rfl,m.ext,⟨_,_,_,by omega,rfl,(m.o 0 rfl)⟩⟩
end Go.Proofs.YtfekpcimgncioaaGreatDoor
namespace Go.Lith
open Go.RowKit
section
variable {w0 w w' : World} {is : List It}
theorem Mem.plus {js : List It} (m : Mem w0 w is) (h : Mem w w' js) : Mem w0 w' (js ++ is):=by
 have m':=m.ext' h.ext;refine ⟨m'.ext,fun i hi=>?_,fun i hi b hb=>?_,List.pairwise_append.2 ⟨h.nd,m.nd,fun i hi j hj b h1 h2=>?_⟩⟩
 · exact (List.mem_append.1 hi).elim (h.all i) (m'.all i)
 · rcases List.mem_append.1 hi with hi | hi
   · exact Nat.le_trans m.ext.size (h.ge i hi b hb)
   · exact m'.ge i hi b hb
 · have k1:=h.ge i hi b h1
   have k2:=j.lt w b (m.all j hj) h2;omega
end
structure Hd where
 A : Option Addr
 n : Nat
 cap : Nat
def Hd.v (h : Hd) : Value:=.slice h.A h.n h.cap
theorem bY.takeL {w : World} {A : Option Addr} {N k : Nat} {ts : List T3} (h : bY w A N ts) (hk : k ≤ N) : bY w A k (ts.take k) :=
 ⟨by rw [List.length_take,h.len];exact Nat.min_eq_left hk,fun t ht=>h.it t (List.mem_of_mem_take ht),fun i t hi=>by
  rw [List.getElem?_take] at hi;split at hi
  · exact h.row i t hi
  · cases hi⟩
theorem bY.dropL {w : World} {A : Option Addr} {N k cap : Nat} {ts : List T3} (h : bY w A N ts) (hk : k ≤ N) (hc : N ≤ cap) : bY w (if cap = k then A else A.map (·.add (k * 9))) (N - k) (ts.drop k) :=
 ⟨by rw [List.length_drop,h.len],fun t ht=>h.it t (List.mem_of_mem_drop ht),fun i t hi=>by
  rw [List.getElem?_drop] at hi;obtain ⟨a,e,hr⟩:=h.row _ t hi;have hl:=(List.getElem?_eq_some_iff.1 hi).1;rw [h.len] at hl;rw [if_neg (by omega),e];refine ⟨_,rfl,?_⟩;rw [iW,← Nat.add_mul];exact hr⟩
end Go.Lith
namespace Go.Lith
open Go.RowKit Go.ChangeMaps Go.MapKept
def xI (is : List It) : It where
 own b:=∃ i ∈ is,i.own b
 P w:=(∀ i ∈ is,i.P w) ∧ is.Pairwise Ap
 lt w b h e:=by obtain ⟨i,hi,ho⟩:=e;exact i.lt w b (h.1 i hi) ho
 st w w' h s k:=⟨fun i hi=>i.st w w' (h.1 i hi) s fun b hb=>k b ⟨i,hi,hb⟩,h.2⟩
section
variable {w0 w : World} {a is : List It}
theorem Mem.pack (a : List It) (m : Mem w0 w (a ++ is)) : Mem w0 w (a ++ [xI is]):=by
 have h:=List.pairwise_append.1 m.nd;refine ⟨m.ext,fun i hi=>?_,fun i hi b hb=>?_,List.pairwise_append.2 ⟨h.1,List.pairwise_singleton _ _,fun x hx y hy b h1 h2=>?_⟩⟩
 · rcases List.mem_append.1 hi with hi | hi
   · exact m.all i (List.mem_append_left _ hi)
   · obtain rfl:=List.mem_singleton.1 hi
     exact ⟨fun i hi=>m.all i (List.mem_append_right _ hi),h.2.1⟩
 · rcases List.mem_append.1 hi with hi | hi
   · exact m.ge i (List.mem_append_left _ hi) b hb
   · obtain rfl:=List.mem_singleton.1 hi
     obtain ⟨j,hj,hb⟩:=hb;exact m.ge j (List.mem_append_right _ hj) b hb
 · obtain rfl:=List.mem_singleton.1 hy
   obtain ⟨j,hj,hb⟩:=h2;exact h.2.2 x hx j hj b h1 hb
theorem Mem.unpack (a : List It) (m : Mem w0 w (a ++ [xI is])) : Mem w0 w (a ++ is):=by
 have h:=List.pairwise_append.1 m.nd;have hP : (∀ i ∈ is,i.P w) ∧ is.Pairwise Ap:=m.all _ (List.mem_append_right _ (List.mem_singleton_self _));refine ⟨m.ext,fun i hi=>?_,fun i hi b hb=>?_,List.pairwise_append.2 ⟨h.1,hP.2,fun x hx y hy b h1 h2=>?_⟩⟩
 · rcases List.mem_append.1 hi with hi | hi
   · exact m.all i (List.mem_append_left _ hi)
   · exact hP.1 i hi
 · rcases List.mem_append.1 hi with hi | hi
   · exact m.ge i (List.mem_append_left _ hi) b hb
   · exact m.ge _ (List.mem_append_right _ (List.mem_singleton_self _)) b ⟨i,hi,hb⟩
 · exact h.2.2 x hx _ (List.mem_singleton_self _) b h1 ⟨y,hy,h2⟩
end
def tQ (P : Program) (f : FuncId) (args : List Value) (w : World) (R : Value → World → Prop) : Prop :=
 Enters P f ∧ Calls P f args.toArray w fun e w'=>∃ v,e = .returned v ∧ R v w'
theorem tQ.mono {P : Program} {f : FuncId} {args : List Value} {w : World} {R R' : Value → World → Prop} (h : tQ P f args w R) (hr : ∀ v w',R v w' → R' v w') : tQ P f args w R' :=
 ⟨h.1,h.2.mono fun _ _ ⟨v,he,hR⟩=>⟨v,he,hr _ _ hR⟩⟩
section
variable {P : Program} {ds : List Deferred} {l : List Value} {ty : TypeId} {w : World}
variable {ops : Array Oper} {Q : Exit → Act → World → Prop} {rest : List Oper} {d : Nat} {pos : String} {after : Array Edge}
theorem jL {f : FuncId} {fo : Operand} {xs : Array Operand} {args : List Value} {first cap : Array Value} {a0 : Array TypeId} {R : Value → World → Prop} (hf : ev l fo = .func (.func f) first cap) (hxs : first.toList ++ xs.toList.map (ev l) ++ cap.toList = args) (hc : tQ P f args w R)
 (h : ∀ v u,R v u → wpList P ops Q rest (Fr (l.set d v) ds) u) : wpList P ops Q (Oper.mk (some d) (.call { callee:=.value fo,args:=xs,argTypes:=a0 }) ty pos after none :: rest) (Fr l ds) w:=by
 refine wpList_plain rfl fun K hK=>?_;unfold Oper.wp;rw [gH,kM hc.1 hf hxs _ rfl];refine hc.2.mono ?_;rintro e w' ⟨v,rfl,hR⟩;show K ((Fr l ds).put (some d) v) w'
 rw [gI];exact hK _ _ (h v w' hR)
end
end Go.Lith
namespace Go.Lith
section
variable {w0 w : World} {x y z : It} {is : List It}
theorem Mem.unpack2 (m : Mem w0 w [x,y,xI is]) : Mem w0 w (x :: y :: is):=Mem.unpack [x,y] m
theorem Mem.pack3 (m : Mem w0 w (x :: y :: z :: is)) : Mem w0 w [x,y,z,xI is]:=Mem.pack [x,y,z] m
theorem Mem.pack2 (m : Mem w0 w (x :: y :: is)) : Mem w0 w [x,y,xI is]:=Mem.pack [x,y] m
theorem Mem.pack4 {z2 : It} (m : Mem w0 w (x :: y :: z :: z2 :: is)) : Mem w0 w [x,y,z,z2,xI is]:=Mem.pack [x,y,z,z2] m
theorem Mem.unpack4 {z2 : It} (m : Mem w0 w [x,y,z,z2,xI is]) : Mem w0 w (x :: y :: z :: z2 :: is):=Mem.unpack [x,y,z,z2] m
theorem Mem.unpack3 (m : Mem w0 w [x,y,z,xI is]) : Mem w0 w (x :: y :: z :: is):=Mem.unpack [x,y,z] m
end
end Go.Lith
namespace Go.Proofs.YtfekpcimgncioaaGreatDoor
open Go.Proofs.Tryz
open Go.RowKit Go.Lith
set_option maxRecDepth 100000
attribute [local irreducible] wpList wpQuiet dB bL cE Code.wp
def Qm (A : Option Addr) (N cap : Nat) (ts : List T3) (w : World) (v : Value) (w' : World) : Prop:=(v = .slice A N cap ∧ N < 2) ∨ SL 39 9 ((qL ts).flatMap aW) N w v w'
theorem ahu {t : T3} (h : IT t) : IT (kJ t):=by
 unfold kJ;split
 · exact ⟨h.c,h.a,h.b⟩
 · split
   · exact ⟨h.b,h.c,h.a⟩
   · exact h
theorem ad6 {ts : List T3} (h : ∀ t ∈ ts,IT t) : ∀ t ∈ qL ts,IT t:=fun t ht=>h t ((oT ts).mem_iff.1 ht)
theorem Qm.view {A : Option Addr} {N cap : Nat} {ts : List T3} {w w' : World} {v : Value} (h : Qm A N cap ts w v w') (hT : bY w' A N ts) (hc : N ≤ cap) : ∃ B c,v = .slice B N c ∧ bY w' B N (qL ts) ∧ N ≤ c:=by
 rcases h with ⟨rfl,h⟩ | ⟨B,c,n,rfl,rfl,hO⟩
 · exact ⟨_,_,rfl,by rw [Eb (by rw [hT.len];exact h)];exact hT,hc⟩
 · exact ⟨B,c,rfl,hO.tris (ad6 hT.it),hO.le⟩
theorem abO {ts : List T3} {N cap : Nat} {A : Option Addr} (w : World) (ih : ∀ {us : List T3} {M c : Nat} {B : Option Addr} (u : World),bY u B M us → M ≤ c → M < N → eG prog 85 [.slice B M c] u (Qm B M c us u)) (hT : bY w A N ts) (hcap : N ≤ cap) (hN : N ≤ 10000000) : eG prog 85 [.slice A N cap] w (Qm A N cap ts w):=by
 refine ⟨ajs,?_⟩;have m:=Mem.refl w;have htl:=hT.len
 go_enter func85,ntmps85
 refine aD fun K1 k1=>wp_region_lit (aA (aG) (aF (k1 _ _ ?_)));try clear k1 K1
 refine aD fun K2 k2=>aD fun K3 k3=>wp_region_lit (aA (aB) (aA (bH rfl bQ rfl) (aA (cW rfl rfl) ?_)));simp only[zz];refine aF (k3 _ _ ?_);try clear k3 K3
 refine cG rfl (fun hc1=>?_) (fun hc1=>?_)
 · skip
   refine aD fun K4 k4=>wp_region_lit (aA (aB) (aA (aG) (aF (k4 _ _ ?_))));try clear k4 K4
   refine wp_ret ?_;simp only[zz];try simp only[Exit.inBlock,Exit.then,if_true]
   refine bE rfl rfl ?_;try simp only[zD,zE]
   exact ⟨_,rfl,m.ext,.inl ⟨rfl,by omega⟩⟩
 · skip
   refine wp_skip (k2 _ _ ?_);try clear k2 K2
   refine aD fun K5 k5=>wp_region_lit (aA (aB) (aA (bH rfl bQ rfl) ?_));simp only[zz];refine aA (aaE rfl rfl (by omega) (show IntKind.i64.wrap ((N : Int).tdiv 2) = ((N / 2 : Nat) : Int) from (show IntKind.i64.wrap ((N / 2 : Nat) : Int) = ((N / 2 : Nat) : Int) from aV (by omega) (by omega)))) (aA (aG) (aF (k5 _ _ ?_)));try clear k5 K5
   refine aD fun K6 k6=>?_;simp only[zz];refine mh m [] [(0,true),(1,true),(2,true),(4,true),(5,true),(6,true),(3,false),(7,false),(8,false),(9,true)] aM (by kernel_rfl) (cN (fun _ _ _ _ _ h=>h)) (ol:=?_) ?hol ?_
   case hol=>simp only[zw,zQ,zR];try rfl
   clear m;intro u m;refine aS (aB) (aS (aB) ?_);simp only[zz];refine aS (rJ bQ aR rfl rfl (show _ = N / 2 by omega) (by omega) (by omega)) (aS (aB) (aS (aB) ?_));simp only[zz];refine aS (vQ bQ aR rfl rfl (show _ = N / 2 by omega) (by omega) (by omega) rfl) (cJ ?_);simp only[zz];refine cD rfl rfl (ih _ ((hT.ext m.ext).takeL (k:=N / 2) (by omega)) (by omega) (by omega)) ?_;rintro v u e hR;replace m:=m.ext' e;obtain ⟨A5,c5,rfl,hT5,hc5⟩:=hR.view ((hT.ext m.ext).takeL (k:=N / 2) (by omega)) (by omega);clear e;refine aF (⟨m,?_⟩);refine cJ ?_;simp only[zz];refine cD rfl rfl (ih _ ((hT.ext m.ext).dropL (k:=N / 2) (cap:=cap) (by omega) hcap) (by omega) (by omega)) ?_;rintro v u e hR6;replace m:=m.ext' e;replace hT5:=hT5.ext e;obtain ⟨A6,c6,rfl,hT6,hc6⟩:=hR6.view ((hT.ext m.ext).dropL (k:=N / 2) (cap:=cap) (by omega) hcap) (by omega);clear e;refine aF (⟨m,?_⟩);refine cJ ?_;simp only[zz];refine cD rfl rfl (abN _ hT5 hT6 hc6 (by omega)) ?_;rintro v u e ⟨A7,cap7,n7,hn7,rfl,hN⟩;replace m:=m.newO e hN;clear e hN;refine aF (⟨m.sel [false],?_⟩);refine aS (aG) (aY (k6 _ _ ?_));try clear k6 K6
   refine wp_ret ?_;simp only[zz];try simp only[Exit.inBlock,Exit.then,if_true]
   refine bE rfl rfl ?_;try simp only[zD,zE]
   exact ⟨_,rfl,m.ext,.inr ⟨A7,cap7,n7,by omega,rfl,by rw [← Ql ts (N / 2)];exact (m.o 0 rfl)⟩⟩
theorem Wn : ∀ (n : Nat) {ts : List T3} {N cap : Nat} {A : Option Addr} (w : World),bY w A N ts → N ≤ cap → N ≤ 10000000 → N < n → eG prog 85 [.slice A N cap] w (Qm A N cap ts w)
 | 0,_,_,_,_,_,_,_,_,h=>absurd h (Nat.not_lt_zero _)
 | n + 1,_,N,_,_,w,hT,hc,hN,h=>abO w (fun u hU hcu hM=>Wn n u hU hcu (by omega) (by omega)) hT hc hN
theorem ahv {w0 w : World} {A : Option Addr} {N cap : Nat} {xs : List T3} (m : Mem w0 w [oI 39 9 A N cap (xs.flatMap aW)]) (hi : ∀ t ∈ xs,IT t) (hN : N ≤ 10000000) :
 tQ prog 85 [.slice A N cap] w fun v w'=>∃ B c,v = .slice B N c ∧ Mem w0 w' [oI 39 9 B N c ((qL xs).flatMap aW)]:=by
 have hO:=m.o 0 rfl;have hD:=Wn (N + 1) w (hO.tris hi) hO.le hN (Nat.lt_succ_self N);refine ⟨hD.1,hD.2.mono ?_⟩;rintro e w' ⟨v,rfl,hE,⟨rfl,h⟩ | ⟨B,c,n,rfl,rfl,hN2⟩⟩
 · exact ⟨_,rfl,A,cap,rfl,by rw [Eb (by rw [(hO.tris hi).len];exact h)];exact m.ext' hE⟩
 · exact ⟨_,rfl,B,c,rfl,(m.newO hE hN2).sel [true,false]⟩
theorem Hj {ts : List T3} {N cap : Nat} {A : Option Addr} (w : World) (hT : bY w A N ts) (hN : N ≤ 10000000) : eG prog 40 [.slice A N cap] w (SL 39 9 ((cX ts).flatMap aW) ts.length w):=by
 refine ⟨ai3,?_⟩;have m:=Mem.refl w;have htl:=hT.len
 go_enter func40,ntmps40
 refine aD fun K1 k1=>wp_region_lit (aA (aG) (aF (k1 _ _ ?_)));try clear k1 K1
 refine aD fun K2 k2=>wp_region_lit (aA (aG) ?_);replace m:=m.nilO 39 9;refine aF (k2 _ _ ?_);try clear k2 K2
 refine aD fun K3 k3=>aD fun K4 k4=>wp_region_lit (aA (aG) (aF (k4 _ _ ?_)));try clear k4 K4
 refine wp_block ?_;simp only[zz];try simp only[Nat.zero_add,Nat.reduceAdd,Nat.reduceMul,Int.reduceToNat]
 refine bT [3,4] [5,6,7,8,9,10,11,12,13,14,15,16,17,18] (fun n vs wl=>∃ (k : Nat) (A1 : Option Addr) (cap1 : Nat),vs = [.slice A1 k cap1,.int .i64 (k:Int)] ∧ Mem w wl [oI 39 9 A1 k cap1 (((ts.take k).map kJ).flatMap aW)] ∧ (k ≤ N) ∧ (n = N - k)) ?_ ?_
 · skip
   apply Exists.intro;simp only[zQ,zR,zD,zE];exact ⟨0,_,_,rfl,m,Nat.zero_le _,rfl⟩
 · intro n vs wr hI u
   clear m;obtain ⟨k,A1,cap1,rfl,m,hk,hn⟩:=hI;simp only[zu,zF,zG];refine aD fun K5 k5=>aD fun K6 k6=>wp_region_lit (aA (aB) (aA (aB) (aA (bH rfl bQ rfl) (aA (cW rfl rfl) ?_))));simp only[zz];refine aF (k6 _ _ ?_);try clear k6 K6
   refine cG rfl (fun hc1=>?_) (fun hc1=>?_)
   · skip
     obtain ⟨t,ht,_,a,hA,hrow⟩:=hT.get (i:=k) (by omega);subst hA;refine wp_skip (k5 _ _ ?_);try clear k5 K5
     refine aD fun K7 k7=>wp_block (wp_region_lit (aA (aB) (aA (aB) (aA (aB) ?_))));simp only[zz];refine aA (aN bQ aR rfl rfl (by omega) (by omega) (dC (Int.toNat_natCast _))) ?_;simp only[zz];refine aJ rfl ((hrow.ext m.ext).lies bR aR) ?_;simp only[zz];refine dH m rfl rfl (Zm (t:=t)) ?_;clear m;intro u m;simp only[zz];refine eT rfl ?_;intro u g1 e hg hB;replace m:=m.newB e hg hB;clear e hg hB;simp only[zz];refine dD m 1 rfl rfl bQ iK rfl (by decide) rfl rfl rfl (m.b 0 rfl).rowsO (jZ rfl) (by omega) (by omega) ?_;clear m;intro A1 cap1 u m;simp only[zF,zG] at m;rw [show ((ts.take k).map kJ).flatMap aW ++ _ = ((ts.take (k + 1)).map kJ).flatMap aW by rw [cQ ht,List.map_append,List.flatMap_append];rfl] at m;refine aA (aG) (aF (k7 _ _ ?_));try clear k7 K7
     refine wp_region_lit (aA (aB) ?_);simp only[zz];refine aA (aU rfl rfl (aV (by omega) (by omega))) (aA (aG) (aF ?_));simp only[zz];simp only[Exit.inBlock,Exit.then];refine ⟨N - (k + 1),_,?_,rfl,?_,?_⟩
     · omega
     · simp only[zz,zv]
     · simp only[zQ,zR,zD,zE]
       exact ⟨k + 1,_,_,rfl,(m.sel [false,true]),by omega,rfl⟩
   · skip
     obtain rfl : k = N:=by omega
     rw [show ts.take k = ts from List.take_of_length_le (by omega)] at m;refine wp_exit (k3 _ _ ?_);try clear k3 K3
     refine aD fun K8 k8=>wp_region_lit (aA (aB) ?_);simp only[zz];refine jL rfl rfl (ahv m (fun t ht=>by obtain ⟨s,hs,rfl⟩:=List.mem_map.1 ht;exact ahu (hT.it s hs)) (by omega)) ?_;clear m;rintro v u ⟨A4,cap4,rfl,m⟩;refine aA (aG) (aF (k8 _ _ ?_));try clear k8 K8
     refine wp_ret ?_;simp only[zz];try simp only[Exit.inBlock,Exit.then,if_true]
     refine bE rfl rfl ?_;try simp only[zD,zE]
     exact ⟨_,rfl,m.ext,⟨_,_,_,htl.symm,rfl,(m.o 0 rfl)⟩⟩
end Go.Proofs.YtfekpcimgncioaaGreatDoor
namespace Go.Lith
open Go.RowKit
def wN (a b : List Int) : List Int:=List.zipWith (· + ·) a b
def q0 : List Int:=[0,0,0,0,0,0,0,0,0,0]
def qPr (a b c d : Int) : List Int:=[a * a,2 * (a * b),2 * (a * c),2 * (a * d),b * b,2 * (b * c),2 * (b * d),c * c,2 * (c * d),d * d]
def qOf (t : T3) : List Int:=qPr (nR t.a t.b t.c).x (nR t.a t.b t.c).y (nR t.a t.b t.c).z (-((nR t.a t.b t.c).dot t.a))
def ajM (q : List Int) (x y z : Int) : Int:=match q with
 | [a,b,c,d,e,f,g,h,i,j]=>a * (x * x) + b * (x * y) + c * (x * z) + d * x + e * (y * y) + f * (y * z) + g * y + h * (z * z) + i * z + j
 | _=>0
def qAt (q : List Int) (p : P3) : Int:=ajM q p.x p.y p.z
def rA (l : List T3) (p : P3) : List Int:=(l.filter fun t=>t.has p).foldl (fun s t=>wN s (qOf t)) q0
structure iV where
 u : P3
 v : P3
 c : Int
def iV.Lt (a b : iV) : Prop:=a.c < b.c ∨ a.c = b.c ∧ (a.u.Lt b.u ∨ a.u = b.u ∧ a.v.Lt b.v)
instance (a b : iV) : Decidable (a.Lt b):=by unfold iV.Lt;infer_instance
theorem iV.ext' {a b : iV} (h1 : a.u = b.u) (h2 : a.v = b.v) (h3 : a.c = b.c) : a = b:=by
 obtain ⟨u,v,c⟩:=a;obtain ⟨u',v',c'⟩:=b;simp only at h1 h2 h3;rw [h1,h2,h3]
theorem iV.lt_irrefl (a : iV) : ¬ a.Lt a:=fun h=>by
 rcases h with h | ⟨_,h | ⟨_,h⟩⟩
 · omega
 · exact P3.lt_irrefl _ h
 · exact P3.lt_irrefl _ h
theorem iV.lt_trans {a b c : iV} (h : a.Lt b) (k : b.Lt c) : a.Lt c:=by
 rcases h with h | ⟨e,h | ⟨f,h⟩⟩ <;> rcases k with k | ⟨e2,k | ⟨f2,k⟩⟩
 · exact .inl (by omega)
 · exact .inl (by omega)
 · exact .inl (by omega)
 · exact .inl (by omega)
 · exact .inr ⟨e.trans e2,.inl (P3.lt_trans h k)⟩
 · exact .inr ⟨e.trans e2,.inl (f2 ▸ h)⟩
 · exact .inl (by omega)
 · exact .inr ⟨e.trans e2,.inl (f ▸ k)⟩
 · exact .inr ⟨e.trans e2,.inr ⟨f.trans f2,P3.lt_trans h k⟩⟩
theorem iV.lt_tri (a b : iV) : a.Lt b ∨ a = b ∨ b.Lt a:=by
 rcases Int.lt_trichotomy a.c b.c with h | h | h
 · exact .inl (.inl h)
 · rcases Go.Lith.lt_tri a.u b.u with k | k | k
   · exact .inl (.inr ⟨h,.inl k⟩)
   · rcases Go.Lith.lt_tri a.v b.v with l | l | l
     · exact .inl (.inr ⟨h,.inr ⟨k,l⟩⟩)
     · exact .inr (.inl (iV.ext' k l h))
     · exact .inr (.inr (.inr ⟨h.symm,.inr ⟨k.symm,l⟩⟩))
   · exact .inr (.inr (.inr ⟨h.symm,.inl k⟩))
 · exact .inr (.inr (.inl h))
def Jk : List iV → Option iV
 | []=>none
 | c :: cs=>match Jk cs with
  | none=>some c
  | some d=>if d.Lt c then some d else some c
theorem Ct : ∀ {cs : List iV},Jk cs = none ↔ cs = []
 | []=>⟨fun _=>rfl,fun _=>rfl⟩
 | c :: cs=>by
  unfold Jk;constructor
  · intro h
    cases hm : Jk cs with
    | none=>rw [hm] at h;cases h
    | some d=>rw [hm] at h;simp only at h;split at h <;> cases h
  · intro h;cases h
theorem Cu : ∀ {cs : List iV} {c : iV},Jk cs = some c → c ∈ cs ∧ ∀ d ∈ cs,¬ d.Lt c
 | [],c,h=>by cases h
 | a :: cs,c,h=>by
  unfold Jk at h;cases hm : Jk cs with
  | none =>
   rw [hm] at h;cases h;rw [Ct.1 hm];exact ⟨List.mem_singleton_self _,fun d hd=>by rw [List.mem_singleton.1 hd];exact iV.lt_irrefl _⟩
  | some d =>
   rw [hm] at h;simp only at h;obtain ⟨h1,h2⟩:=Cu hm;split at h
   · rename_i k
     cases h;refine ⟨List.mem_cons_of_mem _ h1,fun e he=>?_⟩;rcases List.mem_cons.1 he with rfl | he
     · exact fun k2=>iV.lt_irrefl _ (iV.lt_trans k k2)
     · exact h2 e he
   · rename_i k
     cases h;refine ⟨List.mem_cons_self ..,fun e he k2=>?_⟩;rcases List.mem_cons.1 he with rfl | he
     · exact iV.lt_irrefl _ k2
     · rcases iV.lt_tri d e with k3 | k3 | k3
       · exact k (iV.lt_trans k3 k2)
       · exact k (k3 ▸ k2)
       · exact h2 e he k3
theorem ad8 {cs : List iV} {c : iV} (hc : c ∈ cs) (h : ∀ d ∈ cs,¬ d.Lt c) : Jk cs = some c:=by
 cases hm : Jk cs with
 | none=>rw [Ct.1 hm] at hc;cases hc
 | some d =>
  obtain ⟨h1,h2⟩:=Cu hm;rcases iV.lt_tri c d with k | k | k
  · exact absurd k (h2 c hc)
  · rw [k]
  · exact absurd k (h d h1)
def nS (q : P3 → List Int) (u v : P3) : Int:=qAt (wN (q u) (q v)) v
def ahw (l : List T3) (q : P3 → List Int) (u : P3) : List iV:=if Sj (cS l) u then [] else (nbL l u).map fun v=>⟨u,v,nS q u v⟩
def Ug (l : List T3) (q : P3 → List Int) : List iV:=(dK l).flatMap (ahw l q)
def xJ (l : List T3) (q : P3 → List Int) : Option iV:=Jk ((Ug l q).filter fun c=>dA l c.u c.v)
def Mz (q : P3 → List Int) (u v : P3) (p : P3) : List Int:=if p = v then wN (q u) (q v) else q p
def toF (D : List Mv) (u v : P3) : List Mv:=eO (D.map fun e=>(e.1,xX u v e.2)) u v
def mF : Nat → Int → List T3 → (P3 → List Int) → List Mv → List T3 × List Mv
 | 0,_,l,_,D=>(l,D)
 | n + 1,want,l,q,D=>if (l.length : Int) ≤ want then (l,D) else match xJ l q with
  | none=>(l,D)
  | some c=>mF n want (wM l c.u c.v) (Mz q c.u c.v) (toF D c.u c.v)
def jS (D : List Mv) : List Mv:=(tP (D.map (·.1))).map fun k=>(k,(cK D k).getD k)
def qN (l : List T3) (want : Int) : List T3 × List Mv :=
 if eV true (cX l) ≠ 0 then (cX l,[]) else
 ((mF (cX l).length want (cX l) (rA (cX l)) []).1,jS (mF (cX l).length want (cX l) (rA (cX l)) []).2)
theorem ad9 {l : List T3} {q : P3 → List Int} {c : iV} : c ∈ Ug l q ↔ Sj (cS l) c.u = false ∧ Mw l c.u c.v = true ∧ c.c = nS q c.u c.v:=by
 unfold Ug;rw [List.mem_flatMap];constructor
 · rintro ⟨u,hu,hc⟩
   unfold ahw at hc;split at hc
   · cases hc
   · rename_i hb
     obtain ⟨v,hv,rfl⟩:=List.mem_map.1 hc;exact ⟨by simpa using hb,Az.1 hv,rfl⟩
 · rintro ⟨h1,h2,h3⟩
   obtain ⟨t,ht,hu,_⟩:=Ax.1 (My.1 h2).2;refine ⟨c.u,vA.2 (rW ht hu),?_⟩;unfold ahw;rw [if_neg (by rw [h1];exact Bool.false_ne_true)];exact List.mem_map.2 ⟨c.v,Az.2 h2,iV.ext' rfl rfl h3.symm⟩
theorem Hk {l : List T3} {u v : P3} (h : dA l u v = true) : sW l u v = true:=by
 unfold dA at h;simp only[Bool.and_eq_true] at h;exact h.1.1.1.1.1
theorem Zn {l : List T3} {q : P3 → List Int} {c : iV} (h : xJ l q = some c) : c ∈ Ug l q ∧ dA l c.u c.v = true:=by
 have:=(Cu h).1;exact List.mem_filter.1 this
theorem rY {l : List T3} {q : P3 → List Int} {c : iV} (h : xJ l q = some c) : (wM l c.u c.v).length < l.length:=abI (Hk (Zn h).2)
theorem Kx : ∀ (n m : Nat) (want : Int) (l : List T3) (q : P3 → List Int) (D : List Mv),l.length ≤ n → l.length ≤ m → 0 ≤ want → mF n want l q D = mF m want l q D
 | 0,0,_,_,_,_,_,_,_=>rfl
 | 0,m + 1,want,l,q,D,h1,h2,hw=>by
  have : l.length = 0:=by omega
  unfold mF;rw [if_pos (by omega)]
 | n + 1,0,want,l,q,D,h1,h2,hw=>by
  have : l.length = 0:=by omega
  unfold mF;rw [if_pos (by omega)]
 | n + 1,m + 1,want,l,q,D,h1,h2,hw=>by
  unfold mF;split
  · rfl
  · cases hb : xJ l q with
    | none=>rfl
    | some c =>
     have:=rY hb;exact Kx n m want _ _ _ (by omega) (by omega) hw
theorem Qn {n : Nat} {want : Int} {l : List T3} {q : P3 → List Int} {D : List Mv} (h : (l.length : Int) ≤ want) : mF n want l q D = (l,D):=by
 cases n with
 | zero=>rfl
 | succ n=>unfold mF;rw [if_pos h]
end Go.Lith
namespace Go.Lith
open Go.RowKit
theorem Qo {t u : T3} (h : ad3 t u) : nG u = nG t:=by
 have k:=Wj h;have e : ∀ s : T3,nG s = !s.nd:=fun s=>by
  cases hd : s.nd with
  | true =>
   obtain ⟨h1,h2,h3⟩:=Cr.1 hd;simp [nG,h1,h2,h3]
  | false =>
   rcases ae5.1 hd with h | h | h <;> simp [nG,h]
 rw [e,e,k]
end Go.Lith
namespace Go.Lith
open Go.RowKit
/-! ### Corners in order -/
theorem Wo {p : P3} : ∀ {ps : List P3},pO ps → (ps.dropWhile fun x=>decide (x.Lt p)).head? ≠ some p → ∀ x ∈ ps.dropWhile fun x=>decide (x.Lt p),p.Lt x
 | [],_,_,x,h=>by cases h
 | y :: ys,hs,hp,x,h=>by
  obtain ⟨h1,h2⟩:=List.pairwise_cons.1 hs;rw [List.dropWhile_cons] at h hp;split at h
  · rename_i hy
    rw [if_pos hy] at hp;exact Wo h2 hp x h
  · rename_i hy
    rw [if_neg hy] at hp;have hy' : p.Lt y:=by
     rcases lt_tri y p with k | k | k
     · exact absurd (decide_eq_true k) hy
     · rw [k] at hp;exact absurd rfl hp
     · exact k
    rcases List.mem_cons.1 h with rfl | h
    · exact hy'
    · exact P3.lt_trans hy' (h1 x h)
theorem sX {ps : List P3} {p : P3} (hs : pO ps) : pO (fJ ps p):=by
 unfold fJ;split
 · exact hs
 · rename_i hp
   have hd : (ps.drop (Pc ps p)) = ps.dropWhile fun x=>decide (x.Lt p):=Mo ps;have ht : (ps.take (Pc ps p)) = ps.takeWhile fun x=>decide (x.Lt p):=Mn ps;have h0:=hs;rw [pO,← List.takeWhile_append_dropWhile (p:=fun x=>decide (x.Lt p)) (l:=ps)] at h0;obtain ⟨h1,h2,h3⟩:=List.pairwise_append.1 h0;have hg:=Wo (p:=p) hs (by rw [← hd,List.head?_drop];exact hp);have hl : ∀ x ∈ ps.takeWhile fun x=>decide (x.Lt p),x.Lt p:=fun x hx=>of_decide_eq_true (Tv (p:=fun x : P3=>decide (x.Lt p)) hx);rw [hd,ht];refine List.pairwise_append.2 ⟨List.pairwise_append.2 ⟨h1,List.pairwise_singleton _ _,fun x hx y hy=>?_⟩,h2,fun x hx y hy=>?_⟩
   · rw [List.mem_singleton.1 hy];exact hl x hx
   · rcases List.mem_append.1 hx with hx | hx
     · exact h3 x hx y hy
     · rw [List.mem_singleton.1 hx];exact hg y hy
theorem Hl (ts : List T3) : pO (dK ts):=by
 have : ∀ (ts : List T3) (ps : List P3),pO ps → pO (ts.foldl (fun ps t=>fJ (fJ (fJ ps t.a) t.b) t.c) ps):=by
  intro ts
  induction ts with
  | nil=>exact fun ps h=>h
  | cons t ts ih=>exact fun ps h=>ih _ (sX (sX (sX h)))
 exact this ts [] List.Pairwise.nil
/-! ### Lists turned,mapped,chosen from -/
theorem abP {l : List T3} {p x y : P3} : Nx (cX l) p x y ↔ Nx l p x y:=by
 rw [ad4 (mN l)];constructor
 · intro h
   obtain ⟨t,ht,hx⟩:=oR.1 h;obtain ⟨s,hs,rfl⟩:=List.mem_map.1 ht;exact oR.2 ⟨s,hs,(Qj (oS s)).1 hx⟩
 · intro h
   obtain ⟨s,hs,hx⟩:=oR.1 h;exact oR.2 ⟨kJ s,List.mem_map_of_mem hs,(Qj (oS s)).2 hx⟩
theorem Zo (t : T3) : (ajB (kJ t)).Perm (ajB t):=by
 rcases oS t with h | h | h
 · rw [h]
 · rw [h];exact List.perm_append_comm (l₁:=[(t.b,t.c),(t.c,t.a)]) (l₂:=[(t.a,t.b)])
 · rw [h];exact List.perm_append_comm (l₁:=[(t.c,t.a)]) (l₂:=[(t.a,t.b),(t.b,t.c)])
theorem Bb : ∀ l : List T3,(bG (l.map kJ)).Perm (bG l)
 | []=>.refl _
 | t :: l=>(Zo t).append (Bb l)
theorem Qp (l : List T3) : (bG (cX l)).Perm (bG l):=((mN l).flatMap_right _).trans (Bb l)
/-! ### Closed sets in place of rings -/
/-! ### A path in a corner's place -/
section
variable {u c1 c2 : P3} {A P N N' : P3 → P3 → Prop}
end
end Go.Lith
namespace Go.Lith
open Go.RowKit
section
variable {us : List T3} {u v c1 c2 : P3}
/-! ### The corners behind each other,afterwards -/
/-! ### Edges -/
/-! ### No edge twice -/
end
end Go.Lith
namespace Go.Lith
open Go.RowKit
section
variable {us : List T3} {u v c1 c2 : P3}
/-! ### Round each corner -/
end
/-! ### From the conditions -/
end Go.Lith
namespace Go.Lith
open Go.RowKit
/-! ### Edges,each once -/
/-! ### Triangles -/
section
variable {us : List T3} {u v c1 c2 : P3}
theorem Jl (ts : List T3) : (dK ts).Nodup:=by
 have h:=Hl ts;unfold pO at h;refine List.Pairwise.imp (S:=fun a b : P3=>a ≠ b) (fun {a b} k e=>?_) h;rw [e] at k;exact P3.lt_irrefl b k
end
/-! ### All along -/
end Go.Lith
namespace Go.Lith
open Go.RowKit
/-! ### The ends of fans -/
/-! ### Accepted -/
end Go.Lith
namespace Go.Lith
open Go.RowKit
theorem Cv {l : List T3} {t : T3} : t ∈ cX l ↔ ∃ s ∈ l,kJ s = t:=by
 rw [(mN l).mem_iff,List.mem_map]
theorem Zp {l : List T3} : Qe (cX l) ↔ Qe l:=by
 constructor
 · intro h t ht
   rw [← Qo (oS t)];exact h _ (Cv.2 ⟨t,ht,rfl⟩)
 · intro h t ht
   obtain ⟨s,hs,rfl⟩:=Cv.1 ht;rw [Qo (oS s)];exact h s hs
theorem Zq {l : List T3} (p : P3) : Nx (cX l) p = Nx l p:=funext fun _=>funext fun _=>propext abP
theorem Qr {l : List T3} : eV true (cX l) = 0 ↔ eV true l = 0:=by
 rw [Dy,Dy,Zp,(Qp l).nodup_iff];simp only[Zq]
/-! ### The moves in order -/
theorem Cw (p : P3) : ∀ l : List P3,(Zk p l).Perm (p :: l)
 | []=>.refl _
 | q :: l=>by
  rw [Zk];split
  · exact ((Cw p l).cons q).trans (.swap ..)
  · exact .refl _
theorem mO : ∀ l : List P3,(tP l).Perm l
 | []=>.refl _
 | p :: l=>(Cw p _).trans ((mO l).cons p)
theorem Ec {p : P3} : ∀ {l : List P3},l.Pairwise P3.Lt → p ∉ l → (Zk p l).Pairwise P3.Lt
 | [],_,_=>List.pairwise_singleton _ _
 | q :: l,h,hn=>by
  rw [Zk];obtain ⟨h1,h2⟩:=List.pairwise_cons.1 h;split
  · rename_i k
    refine List.pairwise_cons.2 ⟨fun x hx=>?_,Ec h2 fun k=>hn (List.mem_cons_of_mem _ k)⟩;rcases List.mem_cons.1 ((Cw p l).subset hx) with rfl | hx
    · exact k
    · exact h1 x hx
  · rename_i k
    have hq : p.Lt q:=by
     rcases lt_tri q p with e | e | e
     · exact absurd e k
     · exact absurd (e ▸ List.mem_cons_self ..) hn
     · exact e
    refine List.pairwise_cons.2 ⟨fun x hx=>?_,h⟩;rcases List.mem_cons.1 hx with rfl | hx
    · exact hq
    · exact P3.lt_trans hq (h1 x hx)
theorem Bc : ∀ {l : List P3},l.Nodup → (tP l).Pairwise P3.Lt
 | [],_=>List.Pairwise.nil
 | p :: l,h=>by
  obtain ⟨h1,h2⟩:=List.nodup_cons.1 h;exact Ec (Bc h2) fun k=>h1 ((mO l).mem_iff.1 k)
theorem Uh (D : List Mv) : (jS D).map (·.1) = tP (D.map (·.1)):=by
 unfold jS;rw [List.map_map];exact List.map_id _
theorem wD (D : List Mv) : (jS D).length = D.length:=by
 have:=congrArg List.length (Uh D);rw [List.length_map,(mO _).length_eq,List.length_map] at this;exact this
end Go.Lith
namespace Go.Lith
open Go.RowKit
/-! ### Boxes -/
/-! ### What clear says -/
end Go.Lith
namespace Go.Lith
open Go.RowKit
/-! ### The corners of a triangle,in order -/
/-! ### The same conditions -/
end Go.Lith
namespace Go.Lith
open Go.RowKit
theorem Ui {l : List T3} {q : P3 → List Int} {cs : List iV} {c : iV} {k : Nat} (hm : ∀ d,d ∈ cs ↔ d ∈ Ug l q) (hs : cs.Pairwise fun a b=>¬ b.Lt a) (hk : cs[k]? = some c) (ha : dA l c.u c.v = true) (hb : ∀ j d,j < k → cs[j]? = some d → dA l d.u d.v = false) : xJ l q = some c:=by
 refine ad8 (List.mem_filter.2 ⟨(hm c).1 (List.mem_of_getElem? hk),ha⟩) fun d hd hlt=>?_;obtain ⟨h1,h2⟩:=List.mem_filter.1 hd;obtain ⟨j,hj⟩:=List.mem_iff_getElem?.1 ((hm d).2 h1);rcases Nat.lt_trichotomy j k with h | h | h
 · rw [hb j d h hj] at h2;cases h2
 · rw [h,hk] at hj;cases hj;exact iV.lt_irrefl _ hlt
 · obtain ⟨kl,rfl⟩:=List.getElem?_eq_some_iff.1 hk
   obtain ⟨jl,rfl⟩:=List.getElem?_eq_some_iff.1 hj;exact List.pairwise_iff_getElem.1 hs k j kl jl h hlt
theorem Uj {l : List T3} {q : P3 → List Int} {cs : List iV} (hm : ∀ d,d ∈ cs ↔ d ∈ Ug l q) (hb : ∀ d ∈ cs,dA l d.u d.v = false) : xJ l q = none:=by
 refine Ct.2 (List.filter_eq_nil_iff.2 fun d hd=>?_);rw [hb d ((hm d).2 hd)];exact Bool.false_ne_true
/-! ### The example: the octahedron -/
def oct (n : Int) : List T3 :=
 let x0 : P3:=⟨-n,0,0⟩;let x1 : P3:=⟨n,0,0⟩;let y0 : P3:=⟨0,-n,0⟩;let y1 : P3:=⟨0,n,0⟩;let z0 : P3:=⟨0,0,-n⟩;let z1 : P3:=⟨0,0,n⟩
 [⟨y0,x0,z0⟩,⟨x1,y0,z0⟩,⟨x0,y1,z0⟩,⟨y1,x1,z0⟩,⟨x0,y0,z1⟩,⟨y0,x1,z1⟩,⟨y1,x0,z1⟩,⟨x1,y1,z1⟩]
def wO : List T3:=cX (oct 10)
theorem Zr : eV true wO = 0:=by kernel_rfl
theorem aea : dA wO ⟨10,0,0⟩ ⟨0,10,0⟩ = true:=by kernel_rfl
theorem aeb : dA wO ⟨10,0,0⟩ ⟨-10,0,0⟩ = false:=by kernel_rfl
theorem aec : (wM wO ⟨10,0,0⟩ ⟨0,10,0⟩).length = 6:=by kernel_rfl
theorem Qs : ((qN wO 7).1.length,(qN wO 7).2) = (6,[(⟨-10,0,0⟩,⟨0,-10,0⟩)]):=by kernel_rfl
end Go.Lith
namespace Go.Proofs.YtfekpcimgncioaaGreatDoor
open Go.Proofs.Tryz
open Go.RowKit Go.Lith
set_option maxRecDepth 100000
attribute [local irreducible] wpList wpQuiet dB bL cE Code.wp
def p3m (p : P3) : P3:=⟨p.x % 3,p.y % 3,p.z % 3⟩
def Qt (t : T3) : T3:=⟨p3m t.a,p3m t.b,p3m t.c⟩
theorem aed {s t : T3} (h : ¬ ¬ (s.a.x = t.a.x ∧ s.a.y = t.a.y ∧ s.a.z = t.a.z ∧ s.b.x = t.b.x ∧ s.b.y = t.b.y ∧ s.b.z = t.b.z ∧ s.c.x = t.c.x ∧ s.c.y = t.c.y ∧ s.c.z = t.c.z)) : s = t:=by
 obtain ⟨h1,h2,h3,h4,h5,h6,h7,h8,h9⟩:=Classical.not_not.1 h;exact Hc (P3.eq h1 h2 h3) (P3.eq h4 h5 h6) (P3.eq h7 h8 h9)
theorem aee {s t : T3} (h : ¬ (s.a.x = t.a.x ∧ s.a.y = t.a.y ∧ s.a.z = t.a.z ∧ s.b.x = t.b.x ∧ s.b.y = t.b.y ∧ s.b.z = t.b.z ∧ s.c.x = t.c.x ∧ s.c.y = t.c.y ∧ s.c.z = t.c.z)) : s ≠ t:=fun k=>h (by rw [k];simp only[and_self])
theorem aef {s t : E3} (h : ¬ ¬ (s.1.x = t.1.x ∧ s.1.y = t.1.y ∧ s.1.z = t.1.z ∧ s.2.x = t.2.x ∧ s.2.y = t.2.y ∧ s.2.z = t.2.z)) : s = t:=by
 obtain ⟨h1,h2,h3,h4,h5,h6⟩:=Classical.not_not.1 h;exact Prod.ext (P3.eq h1 h2 h3) (P3.eq h4 h5 h6)
theorem aeg {s t : E3} (h : ¬ (s.1.x = t.1.x ∧ s.1.y = t.1.y ∧ s.1.z = t.1.z ∧ s.2.x = t.2.x ∧ s.2.y = t.2.y ∧ s.2.z = t.2.z)) : s ≠ t:=fun k=>h (by rw [k];simp only[and_self])
theorem Qu {α : Type} {xs ys : List α} {k : Nat} (h : xs.take k = ys.take k) (hx : xs.length ≤ k) (hy : ys.length ≤ k) : xs = ys:=by rwa [List.take_of_length_le hx,List.take_of_length_le hy] at h
theorem Hm (n : Int) : tU (n % 3):=by unfold tU;omega
instance (p : P3) : I3 (p3m p):=⟨Hm _,Hm _,Hm _⟩
instance (t : T3) : IT (Qt t):=⟨inferInstanceAs (I3 (p3m t.a)),inferInstanceAs (I3 (p3m t.b)),inferInstanceAs (I3 (p3m t.c))⟩
theorem Na {n k : Int} (hi : tU n) (h0 : 0 < k) (h1 : k < 4611686018427387904) : eQ prog 53 [.int .i64 n,.int .i64 k] (.int .i64 (n % k)):=by
 intro w;refine ⟨ai8,?_⟩;have m:=Mem.refl w;haveI : Iw n:=⟨hi⟩
 have hb:=ae1 (n:=n) h0
 go_enter func53,ntmps53
 refine aD fun K1 k1=>wp_region_lit (aA (aG) (aF (k1 _ _ ?_)));try clear k1 K1
 refine aD fun K2 k2=>wp_region_lit (aA (aB) (aA (aB) ?_));simp only[zz];refine aA (gD rfl rfl (by omega) rfl) (aA (aB) ?_);simp only[zz];refine aA (aU rfl rfl (aV (by omega) (by omega))) (aA (aB) ?_);simp only[zz];refine aA (gD rfl rfl (by omega) (adL h0)) (aA (aG) (aF (k2 _ _ ?_)));try clear k2 K2
 refine wp_ret ?_;simp only[zz];try simp only[Exit.inBlock,Exit.then,if_true]
 refine bE rfl rfl ?_;try simp only[zD,zE]
 exact ⟨_,rfl,m.ext,rfl⟩
theorem Nb {p : P3} [hi : I3 p] : eQ prog 20 [pt p,.int .i64 3] (pt (p3m p)):=by
 intro w;refine ⟨aiU,?_⟩;have m:=Mem.refl w
 go_enter func20,ntmps20
 refine aD fun K1 k1=>wp_region_lit (cB m rfl ?_);clear m;intro g1 u m;simp only[zz];refine bA m bO rfl ?_;clear m;intro g2 u m;refine aF (k1 _ _ ?_);try clear k1 K1
 refine aD fun K2 k2=>?_;simp only[zz];refine eA m 13 aM (by kernel_rfl) ?_;simp only[zy];refine aK (aH cP aO rfl rfl (by decide) (by decide) rfl) ?_;simp only[zz];refine ql rfl (fun u m=>((m.b 1 rfl).lies1 aX rfl)) ?_;simp only[zz];refine aK (aB) ?_;simp only[zz];refine gV rfl rfl (Na (n:=p.x) (k:=3) hi.x (by decide) (by decide)) (aK (aH cP aO rfl rfl (by decide) (by decide) rfl) ?_);simp only[zz];refine ql rfl (fun u m=>((m.b 1 rfl).lies1 aX rfl)) ?_;simp only[zz];refine aK (aB) ?_;simp only[zz];refine gV rfl rfl (Na (n:=p.y) (k:=3) hi.y (by decide) (by decide)) (aK (aH cP aO rfl rfl (by decide) (by decide) rfl) ?_);simp only[zz];refine ql rfl (fun u m=>((m.b 1 rfl).lies1 aX rfl)) ?_;simp only[zz];refine aK (aB) ?_;simp only[zz];refine gV rfl rfl (Na (n:=p.z) (k:=3) hi.z (by decide) (by decide)) (aK (Cl rfl rfl rfl) (bZ ?_));clear m;intro u m;simp only[zz];refine aT m 0 rfl rfl rfl aC (cU rfl) rfl ?_;clear m;intro u m;simp only[zy,zx,bB,zF,zG,Nat.reduceAdd] at m;refine aF (k2 _ _ ?_);try clear k2 K2
 refine wp_ret ?_;try simp only[Exit.inBlock,Exit.then,if_true]
 refine bE rfl ⟨_,rfl,((m.b 0 rfl).full aI aC)⟩ ?_;try simp only[zD,zE]
 exact ⟨_,rfl,m.ext,rfl⟩
theorem ahx {t : T3} [hi : IT t] : eQ prog 19 [tr t,.int .i64 3] (tr (Qt t)):=by
 intro w;refine ⟨aiT,?_⟩;have m:=Mem.refl w
 go_enter func19,ntmps19
 refine aD fun K1 k1=>wp_region_lit (cB m rfl ?_);clear m;intro g1 u m;simp only[zz];refine bA m fP rfl ?_;clear m;intro g2 u m;refine aF (k1 _ _ ?_);try clear k1 K1
 refine aD fun K2 k2=>?_;simp only[zz];refine eA m 28 aM (by kernel_rfl) ?_;simp only[zy];refine aK (aH xA aO rfl rfl (by decide) (by decide) rfl) ?_;simp only[zz];refine ql rfl (fun u m=>((m.b 1 rfl).lies1 aX rfl)) ?_;simp only[zz];refine aK (aH xA aO rfl rfl (by decide) (by decide) rfl) ?_;simp only[zz];refine ql rfl (fun u m=>((m.b 1 rfl).lies1 aX rfl)) ?_;simp only[zz];refine aK (aH xA aO rfl rfl (by decide) (by decide) rfl) ?_;simp only[zz];refine ql rfl (fun u m=>((m.b 1 rfl).lies1 aX rfl)) ?_;simp only[zz];refine aK (dP rfl rfl rfl) (aK (aB) ?_);simp only[zz];refine gV rfl rfl (Nb (p:=t.a) (hi:=hi.a)) (aK (aH xA aO rfl rfl (by decide) (by decide) rfl) ?_);simp only[zz];refine ql rfl (fun u m=>((m.b 1 rfl).lies1 aX rfl)) ?_;simp only[zz];refine aK (aH xA aO rfl rfl (by decide) (by decide) rfl) ?_;simp only[zz];refine ql rfl (fun u m=>((m.b 1 rfl).lies1 aX rfl)) ?_;simp only[zz];refine aK (aH xA aO rfl rfl (by decide) (by decide) rfl) ?_;simp only[zz];refine ql rfl (fun u m=>((m.b 1 rfl).lies1 aX rfl)) ?_;simp only[zz];refine aK (dP rfl rfl rfl) (aK (aB) ?_);simp only[zz];refine gV rfl rfl (Nb (p:=t.b) (hi:=hi.b)) (aK (aH xA aO rfl rfl (by decide) (by decide) rfl) ?_);simp only[zz];refine ql rfl (fun u m=>((m.b 1 rfl).lies1 aX rfl)) ?_;simp only[zz];refine aK (aH xA aO rfl rfl (by decide) (by decide) rfl) ?_;simp only[zz];refine ql rfl (fun u m=>((m.b 1 rfl).lies1 aX rfl)) ?_;simp only[zz];refine aK (aH xA aO rfl rfl (by decide) (by decide) rfl) ?_;simp only[zz];refine ql rfl (fun u m=>((m.b 1 rfl).lies1 aX rfl)) ?_;simp only[zz];refine aK (dP rfl rfl rfl) (aK (aB) ?_);simp only[zz];refine gV rfl rfl (Nb (p:=t.c) (hi:=hi.c)) (aK (cO rfl rfl rfl) (bZ ?_));clear m;intro u m;simp only[zz];refine aT m 0 rfl rfl rfl aR (cU rfl) rfl ?_;clear m;intro u m;simp only[zy,zx,bB,zF,zG,Nat.reduceAdd] at m;refine aF (k2 _ _ ?_);try clear k2 K2
 refine wp_ret ?_;try simp only[Exit.inBlock,Exit.then,if_true]
 refine bE rfl ⟨_,rfl,((m.b 0 rfl).full bR aR)⟩ ?_;try simp only[zD,zE]
 exact ⟨_,rfl,m.ext,rfl⟩
theorem Wp {xs ys : List T3} {N M cap cap2 : Nat} {A A2 : Option Addr} (w : World) (hT : bY w A N xs) (hU : bY w A2 M ys) (hN : N ≤ 100000000) : eG prog 21 [.slice A N cap,.slice A2 M cap2] w (fun v _=>v = .bool (decide (xs = ys))):=by
 refine ⟨aiV,?_⟩;have m:=Mem.refl w;have hxl:=hT.len;have hyl:=hU.len
 go_enter func21,ntmps21
 refine aD fun K1 k1=>wp_region_lit (aA (aG) (aF (k1 _ _ ?_)));try clear k1 K1
 refine aD fun K2 k2=>aD fun K3 k3=>wp_region_lit (aA (aB) (aA (bH rfl bQ rfl) (aA (aB) ?_)));simp only[zz];refine aA (bH rfl bQ rfl) (aA (jJ rfl rfl) (aF (k3 _ _ ?_)));try clear k3 K3
 simp only[zz];refine cG rfl (fun hc1=>?_) (fun hc1=>?_)
 · skip
   refine aD fun K4 k4=>wp_region_lit (aA (aG) (aF (k4 _ _ ?_)));try clear k4 K4
   refine wp_ret ?_;simp only[zz];try simp only[Exit.inBlock,Exit.then,if_true]
   refine bE rfl rfl ?_;try simp only[zD,zE]
   exact ⟨_,rfl,m.ext,by rw [decide_eq_false (fun h=>hc1 (by subst h;omega))]⟩
 · skip
   refine wp_skip (k2 _ _ ?_);try clear k2 K2
   refine aD fun K5 k5=>aD fun K6 k6=>wp_region_lit (aA (aG) (aF (k6 _ _ ?_)));try clear k6 K6
   refine wp_block ?_;simp only[zz];try simp only[Nat.zero_add,Nat.reduceAdd,Nat.reduceMul,Int.reduceToNat]
   refine bT [5] [4,11,12,13,14,15,16,17,18,19,20,21,22,23,24,25] (fun n vs wl=>∃ (k : Nat),vs = [.int .i64 (k:Int)] ∧ Mem w wl [] ∧ (xs.take k = ys.take k) ∧ (k ≤ N) ∧ (n = N - k)) ?_ ?_
   · skip
     apply Exists.intro;simp only[zQ,zR,zD,zE];exact ⟨0,rfl,m,(by simp),Nat.zero_le _,rfl⟩
   · intro n vs wr hI u
     clear m;obtain ⟨k,rfl,m,hq,hk,hn⟩:=hI;simp only[zu,zF,zG];refine aD fun K7 k7=>aD fun K8 k8=>wp_region_lit (aA (aB) (aA (aB) (aA (bH rfl bQ rfl) (aA (cW rfl rfl) ?_))));simp only[zz];refine aF (k8 _ _ ?_);try clear k8 K8
     refine cG rfl (fun hc2=>?_) (fun hc2=>?_)
     · skip
       obtain ⟨x,hx,_,a,hA1,hrow1⟩:=hT.get (i:=k) (by omega);subst hA1;obtain ⟨y,hy,_,a2,hA2,hrow2⟩:=hU.get (i:=k) (by omega);subst hA2;refine wp_skip (k7 _ _ ?_);try clear k7 K7
       refine aD fun K9 k9=>wp_block (aD fun K10 k10=>mq m aM (by kernel_rfl) (aK (aB) (aK (aB) ?_)));simp only[zz];refine aK (aN bQ aR rfl rfl (by omega) (by omega) (dC (Int.toNat_natCast _))) ?_;simp only[zz];refine ql rfl (fun u m=>((hrow1.ext m.ext).lies bR aR)) ?_;simp only[zz];refine aK (aB) (aK (aB) ?_);simp only[zz];refine aK (aN bQ aR rfl rfl (by omega) (by omega) (dC (Int.toNat_natCast _))) ?_;simp only[zz];refine ql rfl (fun u m=>((hrow2.ext m.ext).lies bR aR)) ?_;simp only[zz];refine aK (Yt rfl rfl) (bZ ?_);clear m;intro u m;refine k10 _ _ ?_;try clear k10 K10
       simp only[zz];refine cG rfl (fun hc3=>?_) (fun hc3=>?_)
       · skip
         refine aD fun K11 k11=>wp_region_lit (aA (aG) (aF (k11 _ _ ?_)));try clear k11 K11
         refine wp_ret ?_;simp only[zz];try simp only[Exit.inBlock,Exit.then,if_true]
         refine bE rfl rfl ?_;try simp only[zD,zE]
         exact ⟨_,rfl,m.ext,by rw [decide_eq_false (fun h=>aee hc3 (by subst h;exact Option.some.inj (hx.symm.trans hy)))]⟩
       · skip
         have hxy : x = y:=aed hc3;subst hxy;refine wp_skip (k9 _ _ ?_);try clear k9 K9
         refine wp_region_lit (aA (aB) ?_);simp only[zz];refine aA (aU rfl rfl (aV (by omega) (by omega))) (aA (aG) (aF ?_));simp only[zz];simp only[Exit.inBlock,Exit.then];refine ⟨N - (k + 1),_,?_,rfl,?_,?_⟩
         · omega
         · simp only[zz,zv]
         · simp only[zQ,zR,zD,zE]
           exact ⟨k + 1,rfl,m,(by rw [cQ hx,cQ hy,hq]),by omega,rfl⟩
     · skip
       refine wp_exit (k5 _ _ ?_);try clear k5 K5
       refine aD fun K12 k12=>wp_region_lit (aA (aG) (aF (k12 _ _ ?_)));try clear k12 K12
       refine wp_ret ?_;simp only[zz];try simp only[Exit.inBlock,Exit.then,if_true]
       refine bE rfl rfl ?_;try simp only[zD,zE]
       exact ⟨_,rfl,m.ext,by rw [decide_eq_true (Qu hq (by omega) (by omega))]⟩
theorem abR {xs ys : List E3} {N M cap cap2 : Nat} {A A2 : Option Addr} (w : World) (hT : Ek dT 6 w A N xs) (hU : Ek dT 6 w A2 M ys) (hN : N ≤ 100000000) : eG prog 26 [.slice A N cap,.slice A2 M cap2] w (fun v _=>v = .bool (decide (xs = ys))):=by
 refine ⟨aiY,?_⟩;have m:=Mem.refl w;have hxl:=hT.len;have hyl:=hU.len
 go_enter func26,ntmps26
 refine aD fun K1 k1=>wp_region_lit (aA (aG) (aF (k1 _ _ ?_)));try clear k1 K1
 refine aD fun K2 k2=>aD fun K3 k3=>wp_region_lit (aA (aB) (aA (bH rfl xB rfl) (aA (aB) ?_)));simp only[zz];refine aA (bH rfl xB rfl) (aA (jJ rfl rfl) (aF (k3 _ _ ?_)));try clear k3 K3
 simp only[zz];refine cG rfl (fun hc1=>?_) (fun hc1=>?_)
 · skip
   refine aD fun K4 k4=>wp_region_lit (aA (aG) (aF (k4 _ _ ?_)));try clear k4 K4
   refine wp_ret ?_;simp only[zz];try simp only[Exit.inBlock,Exit.then,if_true]
   refine bE rfl rfl ?_;try simp only[zD,zE]
   exact ⟨_,rfl,m.ext,by rw [decide_eq_false (fun h=>hc1 (by subst h;omega))]⟩
 · skip
   refine wp_skip (k2 _ _ ?_);try clear k2 K2
   refine aD fun K5 k5=>aD fun K6 k6=>wp_region_lit (aA (aG) (aF (k6 _ _ ?_)));try clear k6 K6
   refine wp_block ?_;simp only[zz];try simp only[Nat.zero_add,Nat.reduceAdd,Nat.reduceMul,Int.reduceToNat]
   refine bT [5] [4,11,12,13,14,15,16,17,18,19,20,21,22,23,24,25] (fun n vs wl=>∃ (k : Nat),vs = [.int .i64 (k:Int)] ∧ Mem w wl [] ∧ (xs.take k = ys.take k) ∧ (k ≤ N) ∧ (n = N - k)) ?_ ?_
   · skip
     apply Exists.intro;simp only[zQ,zR,zD,zE];exact ⟨0,rfl,m,(by simp),Nat.zero_le _,rfl⟩
   · intro n vs wr hI u
     clear m;obtain ⟨k,rfl,m,hq,hk,hn⟩:=hI;simp only[zu,zF,zG];refine aD fun K7 k7=>aD fun K8 k8=>wp_region_lit (aA (aB) (aA (aB) (aA (bH rfl xB rfl) (aA (cW rfl rfl) ?_))));simp only[zz];refine aF (k8 _ _ ?_);try clear k8 K8
     refine cG rfl (fun hc2=>?_) (fun hc2=>?_)
     · skip
       obtain ⟨x,hx,a,hA1,hrow1⟩:=hT.get (i:=k) (by omega);subst hA1;obtain ⟨y,hy,a2,hA2,hrow2⟩:=hU.get (i:=k) (by omega);subst hA2;refine wp_skip (k7 _ _ ?_);try clear k7 K7
       refine aD fun K9 k9=>wp_block (aD fun K10 k10=>mq m aM (by kernel_rfl) (aK (aB) (aK (aB) ?_)));simp only[zz];refine aK (aN xB Aa rfl rfl (by omega) (by omega) (dC (Int.toNat_natCast _))) ?_;simp only[zz];refine ql rfl (fun u m=>(show hG _ _ _ _ (ed x) from (hrow1.ext m.ext).lies aa9 Aa)) ?_;simp only[zz];refine aK (aB) (aK (aB) ?_);simp only[zz];refine aK (aN xB Aa rfl rfl (by omega) (by omega) (dC (Int.toNat_natCast _))) ?_;simp only[zz];refine ql rfl (fun u m=>(show hG _ _ _ _ (ed y) from (hrow2.ext m.ext).lies aa9 Aa)) ?_;simp only[zz];refine aK (Yu rfl rfl) (bZ ?_);clear m;intro u m;refine k10 _ _ ?_;try clear k10 K10
       simp only[zz];refine cG rfl (fun hc3=>?_) (fun hc3=>?_)
       · skip
         refine aD fun K11 k11=>wp_region_lit (aA (aG) (aF (k11 _ _ ?_)));try clear k11 K11
         refine wp_ret ?_;simp only[zz];try simp only[Exit.inBlock,Exit.then,if_true]
         refine bE rfl rfl ?_;try simp only[zD,zE]
         exact ⟨_,rfl,m.ext,by rw [decide_eq_false (fun h=>aeg hc3 (by subst h;exact Option.some.inj (hx.symm.trans hy)))]⟩
       · skip
         have hxy : x = y:=aef hc3;subst hxy;refine wp_skip (k9 _ _ ?_);try clear k9 K9
         refine wp_region_lit (aA (aB) ?_);simp only[zz];refine aA (aU rfl rfl (aV (by omega) (by omega))) (aA (aG) (aF ?_));simp only[zz];simp only[Exit.inBlock,Exit.then];refine ⟨N - (k + 1),_,?_,rfl,?_,?_⟩
         · omega
         · simp only[zz,zv]
         · simp only[zQ,zR,zD,zE]
           exact ⟨k + 1,rfl,m,(by rw [cQ hx,cQ hy,hq]),by omega,rfl⟩
     · skip
       refine wp_exit (k5 _ _ ?_);try clear k5 K5
       refine aD fun K12 k12=>wp_region_lit (aA (aG) (aF (k12 _ _ ?_)));try clear k12 K12
       refine wp_ret ?_;simp only[zz];try simp only[Exit.inBlock,Exit.then,if_true]
       refine bE rfl rfl ?_;try simp only[zD,zE]
       exact ⟨_,rfl,m.ext,by rw [decide_eq_true (Qu hq (by omega) (by omega))]⟩
end Go.Proofs.YtfekpcimgncioaaGreatDoor
namespace Go.Proofs.YtfekpcimgncioaaGreatDoor
open Go.Proofs.Tryz
open Go.RowKit Go.Lith
set_option maxRecDepth 100000
attribute [local irreducible] wpList wpQuiet dB bL cE Code.wp
theorem Wq {k : Nat} (h : k < 8) : IntKind.i64.wrap (BitVec.ofInt IntKind.i64.bits (k : Int) &&& BitVec.ofInt IntKind.i64.bits 1).toNat = ((k % 2 : Nat) : Int):=by
 rcases k with _ | _ | _ | _ | _ | _ | _ | _ | k <;> first | rfl | omega
theorem abS {k : Nat} : Int.fdiv (k : Int) (2 ^ min (Int.toNat 1) IntKind.i64.bits) = ((k / 2 : Nat) : Int):=by
 rw [show (2 : Int) ^ min (Int.toNat 1) IntKind.i64.bits = 2 from rfl,Int.fdiv_eq_ediv_of_nonneg _ (by decide)];rfl
theorem abT {k : Nat} : Int.fdiv (k : Int) (2 ^ min (Int.toNat 2) IntKind.i64.bits) = ((k / 4 : Nat) : Int):=by
 rw [show (2 : Int) ^ min (Int.toNat 2) IntKind.i64.bits = 4 from rfl,Int.fdiv_eq_ediv_of_nonneg _ (by decide)];rfl
theorem abU {w : World} {g i : Nat} {x y z u v t : Int} {T : TypeId} (hB : fF w g [.int .i64 x,.int .i64 y,.int .i64 z,.int .i64 u,.int .i64 v,.int .i64 t] T) (hi : i < 2) : hG prog w 30 ⟨g,i * 3,none⟩ (pt (if i = 0 then ⟨x,y,z⟩ else ⟨u,v,t⟩)):=by
 rcases i with _ | _ | i
 · exact hB.lies aI aC rfl rfl
 · exact hB.lies aI aC rfl rfl
 · omega
def ahy (k : Nat) : P3:=if k % 2 = 0 then ⟨-10,0,0⟩ else ⟨10,0,0⟩
def ahz (k : Nat) : P3:=if k / 2 % 2 = 0 then ⟨0,-10,0⟩ else ⟨0,10,0⟩
def ahA (k : Nat) : P3:=if k / 4 = 0 then ⟨0,0,-10⟩ else ⟨0,0,10⟩
theorem o_y {k : Nat} (h : k < 8) (hp : Int.tmod (((k % 2 : Nat) : Int) + ((k / 2 % 2 : Nat) : Int) + ((k / 4 : Nat) : Int)) 2 = 1) : (oct 10)[k]? = some ⟨ahy k,ahz k,ahA k⟩:=by
 rcases k with _ | _ | _ | _ | _ | _ | _ | _ | k <;> first | rfl | (revert hp;decide) | omega
theorem o_n {k : Nat} (h : k < 8) (hp : ¬ Int.tmod (((k % 2 : Nat) : Int) + ((k / 2 % 2 : Nat) : Int) + ((k / 4 : Nat) : Int)) 2 = 1) : (oct 10)[k]? = some ⟨ahz k,ahy k,ahA k⟩:=by
 rcases k with _ | _ | _ | _ | _ | _ | _ | _ | k <;> first | rfl | (revert hp;decide) | omega
theorem abV : ∀ t ∈ oct 10,IT t:=fun t ht=>by
 simp only[oct,List.mem_cons,List.not_mem_nil,or_false] at ht;rcases ht with rfl | rfl | rfl | rfl | rfl | rfl | rfl | rfl <;> exact ⟨⟨by decide,by decide,by decide⟩,⟨by decide,by decide,by decide⟩,⟨by decide,by decide,by decide⟩⟩
theorem ahB  (w : World) : eG prog 47 [.int .i64 10] w (SL 39 9 (wO.flatMap aW) 8 w):=by
 refine ⟨ai4,?_⟩;have m:=Mem.refl w
 go_enter func47,ntmps47
 refine aD fun K1 k1=>wp_region_lit (aA (aG) (aF (k1 _ _ ?_)));try clear k1 K1
 refine aD fun K2 k2=>wp_region_lit (aA (aB) (aA (nO rfl (aV (by omega) (by omega))) (aA (kB rfl) ?_)));simp only[zz];refine aA (aB) (aA (kB rfl) (aA (fI rfl rfl) ?_));simp only[zz];refine bA m vV rfl ?_;clear m;intro g1 u m;simp only[zz];refine aT m 0 rfl rfl rfl iD (cU rfl) rfl ?_;clear m;intro u m;simp only[zy,zx,bB,zF,zG,Nat.reduceAdd] at m;refine aF (k2 _ _ ?_);try clear k2 K2
 refine aD fun K3 k3=>wp_region_lit (aA (aB) (aA (nO rfl (aV (by omega) (by omega))) (aA (kC rfl) (aA (aB) ?_))));simp only[zz];refine aA (kC rfl) (aA (fI rfl rfl) ?_);simp only[zz];refine bA m vV rfl ?_;clear m;intro g2 u m;simp only[zz];refine aT m 0 rfl rfl rfl iD (cU rfl) rfl ?_;clear m;intro u m;simp only[zy,zx,bB,zF,zG,Nat.reduceAdd] at m;refine aF (k3 _ _ ?_);try clear k3 K3
 refine aD fun K4 k4=>wp_region_lit (aA (aB) (aA (nO rfl (aV (by omega) (by omega))) (aA (sQ rfl) (aA (aB) ?_))));simp only[zz];refine aA (sQ rfl) (aA (fI rfl rfl) ?_);simp only[zz];refine bA m vV rfl ?_;clear m;intro g3 u m;simp only[zz];refine aT m 0 rfl rfl rfl iD (cU rfl) rfl ?_;clear m;intro u m;simp only[zy,zx,bB,zF,zG,Nat.reduceAdd] at m;refine aF (k4 _ _ ?_);try clear k4 K4
 refine aD fun K5 k5=>wp_region_lit (aA (aG) ?_);replace m:=m.nilO 39 9;refine aF (k5 _ _ ?_);try clear k5 K5
 refine aD fun K6 k6=>aD fun K7 k7=>wp_region_lit (aA (aG) (aF (k7 _ _ ?_)));try clear k7 K7
 refine wp_block ?_;simp only[zz];try simp only[Nat.zero_add,Nat.reduceAdd,Nat.reduceMul,Int.reduceToNat]
 refine bT [6,7] [8,9,10,29,30,31,32,33,34,35,36,37,38,39,40,41,42,43,44,45,46,47,48,49,50,51,52,53,54,55,56,57,58,59,60,61,62,63,64,65,66,67,68,69,70] (fun n vs wl=>∃ (k : Nat) (A6 : Option Addr) (cap6 : Nat),vs = [.slice A6 k cap6,.int .i64 (k:Int)] ∧ Mem w wl [oI 39 9 A6 k cap6 (((oct 10).take k).flatMap aW),bI g3 [.int .i64 0,.int .i64 0,.int .i64 (-10),.int .i64 0,.int .i64 0,.int .i64 10] 56,bI g2 [.int .i64 0,.int .i64 (-10),.int .i64 0,.int .i64 0,.int .i64 10,.int .i64 0] 56,bI g1 [.int .i64 (-10),.int .i64 0,.int .i64 0,.int .i64 10,.int .i64 0,.int .i64 0] 56] ∧ (k ≤ 8) ∧ (n = 8 - k)) ?_ ?_
 · skip
   apply Exists.intro;simp only[zQ,zR,zD,zE];exact ⟨0,_,_,rfl,m,Nat.zero_le _,rfl⟩
 · intro n vs wr hI u
   clear m;obtain ⟨k,A6,cap6,rfl,m,hk,hn⟩:=hI;simp only[zu,zF,zG];refine aD fun K8 k8=>aD fun K9 k9=>wp_region_lit (aA (aB) (aA (cW rfl rfl) (aF (k9 _ _ ?_))));try clear k9 K9
   simp only[zz];refine cG rfl (fun hc1=>?_) (fun hc1=>?_)
   · skip
     have hk8 : k < 8:=by omega
     refine wp_skip (k8 _ _ ?_);try clear k8 K8
     refine aD fun K10 k10=>wp_block (aD fun K11 k11=>wp_region_lit (aA (aB) (aA (rH rfl rfl (Wq hk8)) ?_)));simp only[zz];refine aA (aH tO aC rfl rfl (by omega) (by omega) (lQ (Int.toNat_natCast _))) ?_;simp only[zz];refine aJ rfl (show hG _ _ _ _ (pt (ahy k)) from abU (m.b 3 rfl) (Nat.mod_lt _ (by decide))) ?_;simp only[zz];refine bA m bO rfl ?_;clear m;intro g4 u m;simp only[zz];refine aT m 0 rfl rfl rfl aC (cU rfl) rfl ?_;clear m;intro u m;simp only[zy,zx,bB,zF,zG,Nat.reduceAdd] at m;refine aF (k11 _ _ ?_);try clear k11 K11
     refine aD fun K12 k12=>wp_region_lit (aA (aB) ?_);simp only[zz];refine aA (lE rfl rfl (by omega) abS) (aA (rH rfl rfl (Wq (k:=k / 2) (by omega))) ?_);simp only[zz];refine aA (aH tO aC rfl rfl (by omega) (by omega) (lQ (Int.toNat_natCast _))) ?_;simp only[zz];refine aJ rfl (show hG _ _ _ _ (pt (ahz k)) from abU (m.b 3 rfl) (Nat.mod_lt _ (by decide))) ?_;simp only[zz];refine bA m bO rfl ?_;clear m;intro g5 u m;simp only[zz];refine aT m 0 rfl rfl rfl aC (cU rfl) rfl ?_;clear m;intro u m;simp only[zy,zx,bB,zF,zG,Nat.reduceAdd] at m;refine aF (k12 _ _ ?_);try clear k12 K12
     refine aD fun K13 k13=>wp_region_lit (aA (aB) ?_);simp only[zz];refine aA (lE rfl rfl (by omega) abT) ?_;simp only[zz];refine aA (aH tO aC rfl rfl (by omega) (by omega) (lQ (Int.toNat_natCast _))) ?_;simp only[zz];refine aJ rfl (show hG _ _ _ _ (pt (ahA k)) from abU (m.b 3 rfl) (by omega)) ?_;simp only[zz];refine bA m bO rfl ?_;clear m;intro g6 u m;simp only[zz];refine aT m 0 rfl rfl rfl aC (cU rfl) rfl ?_;clear m;intro u m;simp only[zy,zx,bB,zF,zG,Nat.reduceAdd] at m;refine aF (k13 _ _ ?_);try clear k13 K13
     refine aD fun K14 k14=>wp_region_lit (aA (aB) (aA (rH rfl rfl (Wq hk8)) (aA (aB) ?_)));simp only[zz];refine aA (lE rfl rfl (by omega) abS) (aA (rH rfl rfl (Wq (k:=k / 2) (by omega))) ?_);simp only[zz];refine aA (aU rfl rfl (aV (by omega) (by omega))) (aA (aB) ?_);simp only[zz];refine aA (lE rfl rfl (by omega) abT) ?_;simp only[zz];refine aA (aU rfl rfl (aV (by omega) (by omega))) ?_;simp only[zz];refine aA (gD rfl rfl (by omega) rfl) (aA (tY rfl rfl) (aF (k14 _ _ ?_)));try clear k14 K14
     simp only[zz];refine cG rfl (fun hc2=>?_) (fun hc2=>?_)
     · skip
       have hx:=o_y hk8 hc2;refine wp_region_lit (aA (aB) ?_);simp only[zz];refine aJ rfl ((m.b 2 rfl).full aI aC) ?_;simp only[zz];refine aJ rfl ((m.b 1 rfl).full aI aC) ?_;simp only[zz];refine aJ rfl ((m.b 0 rfl).full aI aC) ?_;simp only[zz];refine aA (cO rfl rfl rfl) ?_;simp only[zz];refine eT rfl ?_;intro u g7 e hg hB;replace m:=m.newB e hg hB;clear e hg hB;simp only[zz];refine dD m 4 rfl rfl bQ iK rfl (by decide) rfl rfl rfl (m.b 0 rfl).rowsO (jZ rfl) (by omega) (by omega) ?_;clear m;intro A6 cap6 u m;simp only[zF,zG] at m;rw [show ((oct 10).take k).flatMap aW ++ _ = ((oct 10).take (k + 1)).flatMap aW by rw [cQ hx,List.flatMap_append];rfl] at m;refine aA (aG) (aF (k10 _ _ ?_));try clear k10 K10
       refine wp_region_lit (aA (aB) ?_);simp only[zz];refine aA (aU rfl rfl (aV (by omega) (by omega))) (aA (aG) (aF ?_));simp only[zz];simp only[Exit.inBlock,Exit.then];refine ⟨8 - (k + 1),_,?_,rfl,?_,?_⟩
       · omega
       · simp only[zz,zv]
       · simp only[zQ,zR,zD,zE]
         exact ⟨k + 1,_,_,rfl,(m.sel [false,false,false,false,true,true,true,true]),by omega,rfl⟩
     · skip
       have hx:=o_n hk8 hc2;refine wp_region_lit (aA (aB) ?_);simp only[zz];refine aJ rfl ((m.b 1 rfl).full aI aC) ?_;simp only[zz];refine aJ rfl ((m.b 2 rfl).full aI aC) ?_;simp only[zz];refine aJ rfl ((m.b 0 rfl).full aI aC) ?_;simp only[zz];refine aA (cO rfl rfl rfl) ?_;simp only[zz];refine eT rfl ?_;intro u g7 e hg hB;replace m:=m.newB e hg hB;clear e hg hB;simp only[zz];refine dD m 4 rfl rfl bQ iK rfl (by decide) rfl rfl rfl (m.b 0 rfl).rowsO (jZ rfl) (by omega) (by omega) ?_;clear m;intro A6 cap6 u m;simp only[zF,zG] at m;rw [show ((oct 10).take k).flatMap aW ++ _ = ((oct 10).take (k + 1)).flatMap aW by rw [cQ hx,List.flatMap_append];rfl] at m;refine aA (aG) (aF (k10 _ _ ?_));try clear k10 K10
       refine wp_region_lit (aA (aB) ?_);simp only[zz];refine aA (aU rfl rfl (aV (by omega) (by omega))) (aA (aG) (aF ?_));simp only[zz];simp only[Exit.inBlock,Exit.then];refine ⟨8 - (k + 1),_,?_,rfl,?_,?_⟩
       · omega
       · simp only[zz,zv]
       · simp only[zQ,zR,zD,zE]
         exact ⟨k + 1,_,_,rfl,(m.sel [false,false,false,false,true,true,true,true]),by omega,rfl⟩
   · skip
     obtain rfl : k = 8:=by omega
     refine wp_exit (k6 _ _ ?_);try clear k6 K6
     refine aD fun K15 k15=>wp_region_lit (aA (aB) ?_);simp only[zz];refine cD rfl rfl (Hj (ts:=oct 10) _ ((m.o 0 rfl).tris abV) (by decide)) ?_;rintro v u e ⟨A8,cap8,n8,hn8,rfl,hN⟩;replace m:=m.newO e hN;clear e hN;refine aA (aG) (aF (k15 _ _ ?_));try clear k15 K15
     refine wp_ret ?_;simp only[zz];try simp only[Exit.inBlock,Exit.then,if_true]
     refine bE rfl rfl ?_;try simp only[zD,zE]
     exact ⟨_,rfl,m.ext,⟨_,_,_,hn8,rfl,(m.o 0 rfl)⟩⟩
end Go.Proofs.YtfekpcimgncioaaGreatDoor
namespace Go.Proofs.YtfekpcimgncioaaGreatDoor
open Go.Proofs.Tryz
open Go.RowKit Go.Lith
set_option maxRecDepth 100000
attribute [local irreducible] wpList wpQuiet dB bL cE Code.wp
theorem ae9 {p : P3} : nP prog 276 [pt p] (.int .i64 p.x):=by
 intro w;refine ⟨aa5,?_⟩;have m:=fS.refl w
 go_enter func276,ntmps276
 refine aD fun K1 k1=>wp_region_lit (kX m rfl ?_);clear m;intro g1 u m;refine aA (aG) (aF (k1 _ _ ?_));refine aD fun K2 k2=>wp_region_lit (aA (aL (c:=0) Cs rfl aO rfl rfl) ?_);simp only[zz];refine aJ rfl ((m.b 0 rfl).lies1 aX rfl) ?_;simp only[zz];refine aA (aG) (aF (k2 _ _ ?_));refine wp_ret ?_;simp only[zz];try simp only[Exit.inBlock,Exit.then,if_true]
 refine bE rfl rfl ?_;try simp only[zD,zE]
 exact ⟨_,rfl,m.ext,rfl⟩
theorem afa {p : P3} : nP prog 277 [pt p] (.int .i64 p.y):=by
 intro w;refine ⟨aa6,?_⟩;have m:=fS.refl w
 go_enter func277,ntmps277
 refine aD fun K1 k1=>wp_region_lit (kX m rfl ?_);clear m;intro g1 u m;refine aA (aG) (aF (k1 _ _ ?_));refine aD fun K2 k2=>wp_region_lit (aA (aL (c:=0) Cs rfl aO rfl rfl) ?_);simp only[zz];refine aJ rfl ((m.b 0 rfl).lies1 aX rfl) ?_;simp only[zz];refine aA (aG) (aF (k2 _ _ ?_));refine wp_ret ?_;simp only[zz];try simp only[Exit.inBlock,Exit.then,if_true]
 refine bE rfl rfl ?_;try simp only[zD,zE]
 exact ⟨_,rfl,m.ext,rfl⟩
theorem afb {p : P3} : nP prog 278 [pt p] (.int .i64 p.z):=by
 intro w;refine ⟨aa7,?_⟩;have m:=fS.refl w
 go_enter func278,ntmps278
 refine aD fun K1 k1=>wp_region_lit (kX m rfl ?_);clear m;intro g1 u m;refine aA (aG) (aF (k1 _ _ ?_));refine aD fun K2 k2=>wp_region_lit (aA (aL (c:=0) Cs rfl aO rfl rfl) ?_);simp only[zz];refine aJ rfl ((m.b 0 rfl).lies1 aX rfl) ?_;simp only[zz];refine aA (aG) (aF (k2 _ _ ?_));refine wp_ret ?_;simp only[zz];try simp only[Exit.inBlock,Exit.then,if_true]
 refine bE rfl rfl ?_;try simp only[zD,zE]
 exact ⟨_,rfl,m.ext,rfl⟩
theorem aeh  : nP prog 195 [] (.agg #[.func (.func 276) #[] #[],.func (.func 277) #[] #[],.func (.func 278) #[] #[]]):=by
 intro w;refine ⟨aa4,?_⟩;have m:=fS.refl w
 go_enter func195,ntmps195
 refine aD fun K1 k1=>wp_region_lit (adJ m Gr rfl ?_);clear m;intro g1 u m;refine aF (k1 _ _ ?_);refine aD fun K2 k2=>wp_region_lit (aA (qG rfl rfl rfl) ?_);simp only[zz];refine aaW m 0 rfl rfl rfl wA (cU rfl) rfl ?_;clear m;intro u m;simp only[zy,zx,bB,zF,zG,Nat.reduceAdd] at m;refine aF (k2 _ _ ?_);refine wp_ret ?_;try simp only[Exit.inBlock,Exit.then,if_true]
 refine bE rfl ⟨_,rfl,((m.b 0 rfl).full Wf wA)⟩ ?_;try simp only[zD,zE]
 exact ⟨_,rfl,m.ext,rfl⟩
theorem oK {p q : P3} : nP prog 130 [pt p,pt q] (.bool (decide (p.Lt q))):=by
 intro w;refine ⟨age,?_⟩;have m:=fS.refl w
 go_enter func130,ntmps130
 refine aD fun K1 k1=>wp_region_lit (kX m rfl ?_);clear m;intro g1 u m;simp only[zz];refine kX m rfl ?_;clear m;intro g2 u m;refine aA (aG) (aF (k1 _ _ ?_));refine aD fun K2 k2=>aD fun K3 k3=>wp_region_lit ?_;simp only[zz];refine Eu m rfl rfl (aeh) ?_;clear m;intro u m;refine aA (aB) (aF (k3 _ _ ?_));refine wp_block (wp_loop_rounds 4 (bU (aD fun K4 k4=>wp_region_lit (aA (bF (m:=0) (n:=3) rfl rfl (by decide)) (aF (k4 _ _ ?_))))));refine aD fun K5 k5=>bK rfl (wp_skip (k5 _ _ ?_));refine aD fun K6 k6=>wp_block (aD fun K7 k7=>wp_region_lit (aA (xD rfl rfl) ?_));simp only[zz];refine aA (aG) (aF (k7 _ _ ?_));refine aD fun K8 k8=>?_;simp only[zz];refine Gmq m aM (by kernel_rfl) (aK (aB) ?_);simp only[zz];refine Ik rfl (fun u m=>((m.b 1 rfl).full aI aC)) ?_;simp only[zz];refine yW rfl rfl (ae9) (aK (aB) ?_);simp only[zz];refine Ik rfl (fun u m=>((m.b 0 rfl).full aI aC)) ?_;simp only[zz];refine yW rfl rfl (ae9) (aK (aG) (aK (aG) (bZ ?_)));clear m;intro u m;refine k8 _ _ ?_;refine aD fun K9 k9=>wp_region_lit (aA (aB) ?_);simp only[zz];refine aA (aB) (aA (jJ rfl rfl) (aF (k9 _ _ ?_)));simp only[zz];refine cG rfl (fun hc2=>?_) (fun hc2=>?_)
 ·
  refine aD fun K10 k10=>wp_region_lit (aA (aB) (aA (aB) (aA (cW rfl rfl) (aA (aG) ?_))));simp only[zz];refine aF (k10 _ _ ?_);refine wp_ret ?_;try simp only[Exit.inBlock,Exit.then,if_true]
  refine bE rfl rfl ?_;try simp only[zD,zE]
  exact ⟨_,rfl,m.ext,by simp only[P3.lt_x hc2]⟩
 ·
  have ex : p.x = q.x:=by omega
  refine wp_skip (k6 _ _ ?_);refine wp_region_lit (aA (aU (m:=0) (n:=1) (r:=1) rfl rfl (by decide)) (aA (aB) (aF (aQ (aD fun K11 k11=>wp_region_lit (aA (bF (m:=1) (n:=3) rfl rfl (by decide)) (aF (k11 _ _ ?_))))))));refine aD fun K12 k12=>bK rfl (wp_skip (k12 _ _ ?_));refine aD fun K13 k13=>wp_block (aD fun K14 k14=>wp_region_lit (aA (xE rfl rfl) ?_));simp only[zz];refine aA (aG) (aF (k14 _ _ ?_));refine aD fun K15 k15=>?_;simp only[zz];refine Gmq m aM (by kernel_rfl) (aK (aB) ?_);simp only[zz];refine Ik rfl (fun u m=>((m.b 1 rfl).full aI aC)) ?_;simp only[zz];refine yW rfl rfl (afa) (aK (aB) ?_);simp only[zz];refine Ik rfl (fun u m=>((m.b 0 rfl).full aI aC)) ?_;simp only[zz];refine yW rfl rfl (afa) (aK (aG) (aK (aG) (bZ ?_)));clear m;intro u m;refine k15 _ _ ?_;refine aD fun K16 k16=>wp_region_lit (aA (aB) ?_);simp only[zz];refine aA (aB) (aA (jJ rfl rfl) (aF (k16 _ _ ?_)));simp only[zz];refine cG rfl (fun hc2=>?_) (fun hc2=>?_)
  ·
   refine aD fun K17 k17=>wp_region_lit (aA (aB) (aA (aB) (aA (cW rfl rfl) (aA (aG) ?_))));simp only[zz];refine aF (k17 _ _ ?_);refine wp_ret ?_;try simp only[Exit.inBlock,Exit.then,if_true]
   refine bE rfl rfl ?_;try simp only[zD,zE]
   exact ⟨_,rfl,m.ext,by simp only[P3.lt_y ex hc2]⟩
  ·
   have ey : p.y = q.y:=by omega
   refine wp_skip (k13 _ _ ?_);refine wp_region_lit (aA (aU (m:=1) (n:=1) (r:=2) rfl rfl (by decide)) (aA (aB) (aF (aQ (aD fun K18 k18=>wp_region_lit (aA (bF (m:=2) (n:=3) rfl rfl (by decide)) (aF (k18 _ _ ?_))))))));refine aD fun K19 k19=>bK rfl (wp_skip (k19 _ _ ?_));refine aD fun K20 k20=>wp_block (aD fun K21 k21=>wp_region_lit (aA (xF rfl rfl) ?_));simp only[zz];refine aA (aG) (aF (k21 _ _ ?_));refine aD fun K22 k22=>?_;simp only[zz];refine Gmq m aM (by kernel_rfl) (aK (aB) ?_);simp only[zz];refine Ik rfl (fun u m=>((m.b 1 rfl).full aI aC)) ?_;simp only[zz];refine yW rfl rfl (afb) (aK (aB) ?_);simp only[zz];refine Ik rfl (fun u m=>((m.b 0 rfl).full aI aC)) ?_;simp only[zz];refine yW rfl rfl (afb) (aK (aG) (aK (aG) (bZ ?_)));clear m;intro u m;refine k22 _ _ ?_;refine aD fun K23 k23=>wp_region_lit (aA (aB) ?_);simp only[zz];refine aA (aB) (aA (jJ rfl rfl) (aF (k23 _ _ ?_)));simp only[zz];refine cG rfl (fun hc2=>?_) (fun hc2=>?_)
   ·
    refine aD fun K24 k24=>wp_region_lit (aA (aB) (aA (aB) (aA (cW rfl rfl) (aA (aG) ?_))));simp only[zz];refine aF (k24 _ _ ?_);refine wp_ret ?_;try simp only[Exit.inBlock,Exit.then,if_true]
    refine bE rfl rfl ?_;try simp only[zD,zE]
    exact ⟨_,rfl,m.ext,by simp only[P3.lt_z ex ey]⟩
   ·
    have ez : p.z = q.z:=by omega
    refine wp_skip (k20 _ _ ?_);refine wp_region_lit (aA (aU (m:=2) (n:=1) (r:=3) rfl rfl (by decide)) (aA (aB) (aF (aQ (aD fun K25 k25=>wp_region_lit (aA (dM (m:=3) (n:=3) rfl rfl (by decide)) (aF (k25 _ _ ?_))))))));refine aD fun K26 k26=>gA rfl (wp_exit (k2 _ _ ?_));refine aD fun K27 k27=>wp_region_lit (aA (aG) ?_);simp only[zz];refine aF (k27 _ _ ?_);refine wp_ret ?_;try simp only[Exit.inBlock,Exit.then,if_true]
    refine bE rfl rfl ?_;try simp only[zD,zE]
    exact ⟨_,rfl,m.ext,by rw [decide_eq_false (fun h=>by unfold P3.Lt at h;omega)]⟩
theorem wE {p q : P3} : nP prog 116 [pt p,pt q] (.int .i64 (mC p q)):=by
 intro w;refine ⟨af4,?_⟩;have m:=fS.refl w
 go_enter func116,ntmps116
 refine aD fun K1 k1=>wp_region_lit (kX m rfl ?_);clear m;intro g1 u m;simp only[zz];refine kX m rfl ?_;clear m;intro g2 u m;refine aA (aG) (aF (k1 _ _ ?_));refine aD fun K2 k2=>wp_block (aD fun K3 k3=>wp_region_lit ?_);simp only[zz];refine aJ rfl ((m.b 1 rfl).full aI aC) ?_;simp only[zz];refine aJ rfl ((m.b 0 rfl).full aI aC) ?_;simp only[zz];refine Eu m rfl rfl (oK) ?_;clear m;intro u m;refine aA (aG) (aF (k3 _ _ ?_));simp only[zz];refine cG rfl (fun hc1=>?_) (fun hc1=>?_)
 ·
  refine aD fun K4 k4=>wp_region_lit (aA (aG) (aF (k4 _ _ ?_)));refine wp_ret ?_;simp only[zz];try simp only[Exit.inBlock,Exit.then,if_true]
  refine bE rfl rfl ?_;try simp only[zD,zE]
  exact ⟨_,rfl,m.ext,by simp [mC,hc1]⟩
 ·
  refine aD fun K5 k5=>wp_region_lit (aJ rfl ((m.b 0 rfl).full aI aC) ?_);simp only[zz];refine aJ rfl ((m.b 1 rfl).full aI aC) ?_;simp only[zz];refine Eu m rfl rfl (oK) ?_;clear m;intro u m;refine aA (aG) (aF (k5 _ _ ?_));simp only[zz];refine cG rfl (fun hc2=>?_) (fun hc2=>?_)
  ·
   refine aD fun K6 k6=>wp_region_lit (aA (aG) (aF (k6 _ _ ?_)));refine wp_ret ?_;simp only[zz];try simp only[Exit.inBlock,Exit.then,if_true]
   refine bE rfl rfl ?_;try simp only[zD,zE]
   exact ⟨_,rfl,m.ext,by simp [mC,hc1,hc2]⟩
  ·
   refine wp_skip (k2 _ _ ?_);refine aD fun K7 k7=>wp_region_lit (aA (aG) (aF (k7 _ _ ?_)));refine wp_ret ?_;simp only[zz];try simp only[Exit.inBlock,Exit.then,if_true]
   refine bE rfl rfl ?_;try simp only[zD,zE]
   exact ⟨_,rfl,m.ext,by simp [mC,hc1,hc2]⟩
end Go.Proofs.YtfekpcimgncioaaGreatDoor
namespace Go.Lith
open Go.RowKit
def abW (P : Program) (f : FuncId) (args : List Value) (w : World) (v : Value) : Prop:=Enters P f ∧ Calls P f args.toArray w fun e w'=>∃ u,e = .returned u ∧ GX w w' ∧ u = v
section
variable {P : Program} {ds : List Deferred} {l : List Value} {x y : Operand} {T ty : TypeId}
variable {ops : Array Oper} {Q : Exit → Act → World → Prop} {rest : List Oper} {d : Nat} {pos : String} {after : Array Edge} {w w0 : World} {is : List It} {v : Value}
theorem abX {E : TypeId} {z : Value} (m : fS w0 w is) (hu : P.underlying T = some (.slice E)) (hi : (P.info? E).map (fun i=>(i.size,i.zero)) = some (1,some z)) (hz : z.cells = #[z]) {v v2 : Value} (hx : ev l x = v) (hv : v.cells = #[v]) (hy : ev l y = v2) (hv2 : v2.cells = #[v2])
 (h : ∀ g u,fS w0 u (bI g [v,v2] E :: is) → wpList P ops Q rest (Fr (l.set d (.slice (some ⟨g,0,none⟩) 2 2)) ds) u) :
 wpList P ops Q (Oper.mk (some d) (.buildSlice T 2 #[(0,x),(1,y)]) ty pos after none :: rest) (Fr l ds) w:=by
 cases hq : P.info? E with
 | none=>rw [hq] at hi;cases hi
 | some i =>
  rw [hq] at hi;simp only[Option.map_some,Option.some.injEq,Prod.mk.injEq] at hi;obtain ⟨e1,e2⟩:=hi;exact jN (w':=w.alloc (.cells #[v,v2] E)) (v:=.slice (some ⟨w.heap.size,0,none⟩) 2 2) (fun o ho _=>by simp [execOp,ho,Instr.buildSlice,run_underlying hu,sizeOf,typeInfo,zeroValue,hq,e1,e2,hz,cM,hx,hv,hy,hv2,Instr.fill,newRow,newObj,Sem.run,yU]) (h _ _ (m.go (m.mem.newB ((eB.refl w).alloc _) (Nat.le_refl _) (gU w [v,v2] E)) (Nat.le_refl _)))
theorem Nc (z v v2 v3 : Value) : (((Array.map (fun x=>[z][x % 1]?.getD default) (Array.range 3)).setIfInBounds 0 v).setIfInBounds 1 v2).setIfInBounds 2 v3 = #[v,v2,v3]:=by
 apply Array.ext (by simp);intro i h1 h2;have h3 : i < 3:=by simpa using h2
 rcases Nat.lt_trichotomy i 1 with h | h | h
 · obtain rfl : i = 0:=by omega
   simp
 · subst h
   simp
 · obtain rfl : i = 2:=by omega
   simp
theorem Qv {E : TypeId} {z : Value} {y3 : Operand} (m : fS w0 w is) (hu : P.underlying T = some (.slice E)) (hi : (P.info? E).map (fun i=>(i.size,i.zero)) = some (1,some z)) (hz : z.cells = #[z]) {v v2 v3 : Value} (hx : ev l x = v) (hv : v.cells = #[v]) (hy : ev l y = v2) (hv2 : v2.cells = #[v2]) (hy3 : ev l y3 = v3) (hv3 : v3.cells = #[v3])
 (h : ∀ g u,fS w0 u (bI g [v,v2,v3] E :: is) → wpList P ops Q rest (Fr (l.set d (.slice (some ⟨g,0,none⟩) 3 3)) ds) u) :
 wpList P ops Q (Oper.mk (some d) (.buildSlice T 3 #[(0,x),(1,y),(2,y3)]) ty pos after none :: rest) (Fr l ds) w:=by
 cases hq : P.info? E with
 | none=>rw [hq] at hi;cases hi
 | some i =>
  rw [hq] at hi;simp only[Option.map_some,Option.some.injEq,Prod.mk.injEq] at hi;obtain ⟨e1,e2⟩:=hi;exact jN (w':=w.alloc (.cells #[v,v2,v3] E)) (v:=.slice (some ⟨w.heap.size,0,none⟩) 3 3) (fun o ho _=>by simp [execOp,ho,Instr.buildSlice,run_underlying hu,sizeOf,typeInfo,zeroValue,hq,e1,e2,hz,cM,hx,hv,hy,hv2,hy3,hv3,Instr.fill,newRow,newObj,Sem.run,Nc]) (h _ _ (m.go (m.mem.newB ((eB.refl w).alloc _) (Nat.le_refl _) (gU w [v,v2,v3] E)) (Nat.le_refl _)))
theorem Nd {f : FuncId} {fo : Operand} {xs : Array Operand} {args : List Value} {first cap : Array Value} {a0 : Array TypeId} (m : fS w0 w is) (hf : ev l fo = .func (.func f) first cap) (hxs : first.toList ++ xs.toList.map (ev l) ++ cap.toList = args) (hc : abW P f args w v)
 (h : ∀ u,fS w0 u is → wpList P ops Q rest (Fr (l.set d v) ds) u) : wpList P ops Q (Oper.mk (some d) (.call { callee:=.value fo,args:=xs,argTypes:=a0 }) ty pos after none :: rest) (Fr l ds) w:=by
 refine wpList_plain rfl fun K hK=>?_;unfold Oper.wp;rw [gH,kM hc.1 hf hxs _ rfl];refine hc.2.mono ?_;rintro e w' ⟨u,rfl,hE,rfl⟩;show K ((Fr l ds).put (some d) u) w'
 rw [gI];exact hK _ _ (h w' (m.ext' hE))
end
end Go.Lith
namespace Go.Proofs
open Go.Shelf
def Tryz.sort112_ren : Go.Shelf.Ren:=⟨fun | 6=>112 | 15=>181 | 14=>180 | 28=>254 | 29=>255 | 20=>246 | 21=>247 | 22=>248 | 23=>249 | 24=>250 | 25=>251 | 26=>252 | 27=>253 | 46=>309 | 47=>310 | 48=>311 | 49=>312 | 50=>313 | 57=>339 | n=>n,fun | 22=>27 | 24=>39 | 25=>162 | 3=>3 | 39=>141 | 0=>0 | 53=>297 | 55=>231 | 4=>4 | 46=>291 | 45=>290 | 50=>202 | 5=>5 | 9=>9 | 66=>343 | 70=>347 | 76=>369 | 77=>367 | n=>n,fun | n=>n⟩
theorem Tryz.sort112 : Go.Proofs.SlLaysF0.n6 Tryz.prog Tryz.sort112_ren:={
 mixed:=by kernel_rfl
 f6:=⟨Tryz.f112.name,by decide,Tryz.func112.trans (congrArg some (by kernel_rfl))⟩
 f14:=⟨Tryz.f180.name,by decide,Tryz.func180.trans (congrArg some (by kernel_rfl))⟩
 f15:=Tryz.func181.trans (congrArg some (by kernel_rfl))
 f20:=⟨Tryz.f246.name,by decide,Tryz.func246.trans (congrArg some (by kernel_rfl))⟩
 f21:=⟨Tryz.f247.name,by decide,Tryz.func247.trans (congrArg some (by kernel_rfl))⟩
 f22:=⟨Tryz.f248.name,by decide,Tryz.func248.trans (congrArg some (by kernel_rfl))⟩
 f23:=⟨Tryz.f249.name,by decide,Tryz.func249.trans (congrArg some (by kernel_rfl))⟩
 f24:=⟨Tryz.f250.name,by decide,Tryz.func250.trans (congrArg some (by kernel_rfl))⟩
 f25:=⟨Tryz.f251.name,by decide,Tryz.func251.trans (congrArg some (by kernel_rfl))⟩
 f26:=⟨Tryz.f252.name,by decide,Tryz.func252.trans (congrArg some (by kernel_rfl))⟩
 f27:=⟨Tryz.f253.name,by decide,Tryz.func253.trans (congrArg some (by kernel_rfl))⟩
 f28:=Tryz.func254.trans (congrArg some (by kernel_rfl))
 f29:=Tryz.func255.trans (congrArg some (by kernel_rfl))
 f46:=⟨Tryz.f309.name,by decide,Tryz.func309.trans (congrArg some (by kernel_rfl))⟩
 f47:=Tryz.func310.trans (congrArg some (by kernel_rfl))
 f48:=Tryz.func311.trans (congrArg some (by kernel_rfl))
 f49:=⟨Tryz.f312.name,by decide,Tryz.func312.trans (congrArg some (by kernel_rfl))⟩
 f50:=⟨Tryz.f313.name,by decide,Tryz.func313.trans (congrArg some (by kernel_rfl))⟩
 f57:=⟨Tryz.f339.name,by decide,Tryz.func339.trans (congrArg some (by kernel_rfl))⟩
 t0:=Tryz.underlying0
 a0:=Tryz.isAgg0
 z0:=Tryz.sizeOf0
 v0:=Tryz.zeroValue0
 t3:=Tryz.underlying3
 a3:=Tryz.isAgg3
 z3:=Tryz.sizeOf3
 v3:=Tryz.zeroValue3
 t4:=Tryz.underlying4
 a4:=Tryz.isAgg4
 z4:=Tryz.sizeOf4
 v4:=Tryz.zeroValue4
 t5:=Tryz.underlying5
 a5:=Tryz.isAgg5
 z5:=Tryz.sizeOf5
 v5:=Tryz.zeroValue5
 t9:=Tryz.underlying9
 a9:=Tryz.isAgg9
 z9:=Tryz.sizeOf9
 v9:=Tryz.zeroValue9
 t22:=Tryz.underlying27
 a22:=Tryz.isAgg27
 z22:=Tryz.sizeOf27
 v22:=Tryz.zeroValue27
 t25:=Tryz.underlying162
 a25:=Tryz.isAgg162
 z25:=Tryz.sizeOf162
 v25:=Tryz.zeroValue162
 t39:=Tryz.underlying141
 a39:=Tryz.isAgg141
 z39:=Tryz.sizeOf141
 v39:=Tryz.zeroValue141
 t45:=Tryz.underlying290
 a45:=Tryz.isAgg290
 z45:=Tryz.sizeOf290
 v45:=Tryz.zeroValue290
 t46:=Tryz.underlying291
 a46:=Tryz.isAgg291
 z46:=Tryz.sizeOf291
 v46:=Tryz.zeroValue291
 t50:=Tryz.underlying202
 a50:=Tryz.isAgg202
 z50:=Tryz.sizeOf202
 v50:=Tryz.zeroValue202
 t53:=Tryz.underlying297
 a53:=Tryz.isAgg297
 z53:=Tryz.sizeOf297
 v53:=Tryz.zeroValue297
 t55:=Tryz.underlying231
 a55:=Tryz.isAgg231
 z55:=Tryz.sizeOf231
 v55:=Tryz.zeroValue231
 t66:=Tryz.underlying343
 a66:=Tryz.isAgg343
 z66:=Tryz.sizeOf343
 v66:=Tryz.zeroValue343
 t70:=Tryz.underlying347
 a70:=Tryz.isAgg347
 z70:=Tryz.sizeOf347
 v70:=Tryz.zeroValue347
 t76:=Tryz.underlying369
 a76:=Tryz.isAgg369
 z76:=Tryz.sizeOf369
 v76:=Tryz.zeroValue369
 t77:=Tryz.underlying367
 a77:=Tryz.isAgg367
 z77:=Tryz.sizeOf367
 v77:=Tryz.zeroValue367 }
def Tryz.sort123_ren : Go.Shelf.Ren:=⟨fun | 6=>123 | 15=>181 | 14=>190 | 28=>254 | 29=>255 | 20=>259 | 21=>260 | 22=>261 | 23=>262 | 24=>263 | 25=>264 | 26=>265 | 27=>266 | 46=>319 | 47=>310 | 48=>311 | 49=>320 | 50=>321 | 57=>343 | n=>n,fun | 22=>105 | 24=>112 | 25=>115 | 3=>3 | 39=>141 | 0=>0 | 53=>297 | 55=>231 | 4=>4 | 46=>291 | 45=>290 | 50=>202 | 5=>5 | 9=>9 | 66=>343 | 70=>347 | 76=>369 | 77=>367 | n=>n,fun | n=>n⟩
theorem Tryz.sort123 : Go.Proofs.SlLaysF0.n6 Tryz.prog Tryz.sort123_ren:={
 mixed:=by kernel_rfl
 f6:=⟨Tryz.f123.name,by decide,Tryz.func123.trans (congrArg some (by kernel_rfl))⟩
 f14:=⟨Tryz.f190.name,by decide,Tryz.func190.trans (congrArg some (by kernel_rfl))⟩
 f15:=Tryz.func181.trans (congrArg some (by kernel_rfl))
 f20:=⟨Tryz.f259.name,by decide,Tryz.func259.trans (congrArg some (by kernel_rfl))⟩
 f21:=⟨Tryz.f260.name,by decide,Tryz.func260.trans (congrArg some (by kernel_rfl))⟩
 f22:=⟨Tryz.f261.name,by decide,Tryz.func261.trans (congrArg some (by kernel_rfl))⟩
 f23:=⟨Tryz.f262.name,by decide,Tryz.func262.trans (congrArg some (by kernel_rfl))⟩
 f24:=⟨Tryz.f263.name,by decide,Tryz.func263.trans (congrArg some (by kernel_rfl))⟩
 f25:=⟨Tryz.f264.name,by decide,Tryz.func264.trans (congrArg some (by kernel_rfl))⟩
 f26:=⟨Tryz.f265.name,by decide,Tryz.func265.trans (congrArg some (by kernel_rfl))⟩
 f27:=⟨Tryz.f266.name,by decide,Tryz.func266.trans (congrArg some (by kernel_rfl))⟩
 f28:=Tryz.func254.trans (congrArg some (by kernel_rfl))
 f29:=Tryz.func255.trans (congrArg some (by kernel_rfl))
 f46:=⟨Tryz.f319.name,by decide,Tryz.func319.trans (congrArg some (by kernel_rfl))⟩
 f47:=Tryz.func310.trans (congrArg some (by kernel_rfl))
 f48:=Tryz.func311.trans (congrArg some (by kernel_rfl))
 f49:=⟨Tryz.f320.name,by decide,Tryz.func320.trans (congrArg some (by kernel_rfl))⟩
 f50:=⟨Tryz.f321.name,by decide,Tryz.func321.trans (congrArg some (by kernel_rfl))⟩
 f57:=⟨Tryz.f343.name,by decide,Tryz.func343.trans (congrArg some (by kernel_rfl))⟩
 t0:=Tryz.underlying0
 a0:=Tryz.isAgg0
 z0:=Tryz.sizeOf0
 v0:=Tryz.zeroValue0
 t3:=Tryz.underlying3
 a3:=Tryz.isAgg3
 z3:=Tryz.sizeOf3
 v3:=Tryz.zeroValue3
 t4:=Tryz.underlying4
 a4:=Tryz.isAgg4
 z4:=Tryz.sizeOf4
 v4:=Tryz.zeroValue4
 t5:=Tryz.underlying5
 a5:=Tryz.isAgg5
 z5:=Tryz.sizeOf5
 v5:=Tryz.zeroValue5
 t9:=Tryz.underlying9
 a9:=Tryz.isAgg9
 z9:=Tryz.sizeOf9
 v9:=Tryz.zeroValue9
 t22:=Tryz.underlying105
 a22:=Tryz.isAgg105
 z22:=Tryz.sizeOf105
 v22:=Tryz.zeroValue105
 t25:=Tryz.underlying115
 a25:=Tryz.isAgg115
 z25:=Tryz.sizeOf115
 v25:=Tryz.zeroValue115
 t39:=Tryz.underlying141
 a39:=Tryz.isAgg141
 z39:=Tryz.sizeOf141
 v39:=Tryz.zeroValue141
 t45:=Tryz.underlying290
 a45:=Tryz.isAgg290
 z45:=Tryz.sizeOf290
 v45:=Tryz.zeroValue290
 t46:=Tryz.underlying291
 a46:=Tryz.isAgg291
 z46:=Tryz.sizeOf291
 v46:=Tryz.zeroValue291
 t50:=Tryz.underlying202
 a50:=Tryz.isAgg202
 z50:=Tryz.sizeOf202
 v50:=Tryz.zeroValue202
 t53:=Tryz.underlying297
 a53:=Tryz.isAgg297
 z53:=Tryz.sizeOf297
 v53:=Tryz.zeroValue297
 t55:=Tryz.underlying231
 a55:=Tryz.isAgg231
 z55:=Tryz.sizeOf231
 v55:=Tryz.zeroValue231
 t66:=Tryz.underlying343
 a66:=Tryz.isAgg343
 z66:=Tryz.sizeOf343
 v66:=Tryz.zeroValue343
 t70:=Tryz.underlying347
 a70:=Tryz.isAgg347
 z70:=Tryz.sizeOf347
 v70:=Tryz.zeroValue347
 t76:=Tryz.underlying369
 a76:=Tryz.isAgg369
 z76:=Tryz.sizeOf369
 v76:=Tryz.zeroValue369
 t77:=Tryz.underlying367
 a77:=Tryz.isAgg367
 z77:=Tryz.sizeOf367
 v77:=Tryz.zeroValue367 }
def Tryz.sort128_ren : Go.Shelf.Ren:=⟨fun | 6=>128 | 15=>181 | 14=>194 | 28=>254 | 29=>255 | 20=>268 | 21=>269 | 22=>270 | 23=>271 | 24=>272 | 25=>273 | 26=>274 | 27=>275 | 46=>322 | 47=>310 | 48=>311 | 49=>323 | 50=>324 | 57=>344 | n=>n,fun | 22=>65 | 24=>30 | 25=>123 | 3=>3 | 39=>141 | 0=>0 | 53=>297 | 55=>231 | 4=>4 | 46=>291 | 45=>290 | 50=>202 | 5=>5 | 9=>9 | 66=>343 | 70=>347 | 76=>369 | 77=>367 | n=>n,fun | n=>n⟩
theorem Tryz.sort128 : Go.Proofs.SlLaysF0.n6 Tryz.prog Tryz.sort128_ren:={
 mixed:=by kernel_rfl
 f6:=⟨Tryz.f128.name,by decide,Tryz.func128.trans (congrArg some (by kernel_rfl))⟩
 f14:=⟨Tryz.f194.name,by decide,Tryz.func194.trans (congrArg some (by kernel_rfl))⟩
 f15:=Tryz.func181.trans (congrArg some (by kernel_rfl))
 f20:=⟨Tryz.f268.name,by decide,Tryz.func268.trans (congrArg some (by kernel_rfl))⟩
 f21:=⟨Tryz.f269.name,by decide,Tryz.func269.trans (congrArg some (by kernel_rfl))⟩
 f22:=⟨Tryz.f270.name,by decide,Tryz.func270.trans (congrArg some (by kernel_rfl))⟩
 f23:=⟨Tryz.f271.name,by decide,Tryz.func271.trans (congrArg some (by kernel_rfl))⟩
 f24:=⟨Tryz.f272.name,by decide,Tryz.func272.trans (congrArg some (by kernel_rfl))⟩
 f25:=⟨Tryz.f273.name,by decide,Tryz.func273.trans (congrArg some (by kernel_rfl))⟩
 f26:=⟨Tryz.f274.name,by decide,Tryz.func274.trans (congrArg some (by kernel_rfl))⟩
 f27:=⟨Tryz.f275.name,by decide,Tryz.func275.trans (congrArg some (by kernel_rfl))⟩
 f28:=Tryz.func254.trans (congrArg some (by kernel_rfl))
 f29:=Tryz.func255.trans (congrArg some (by kernel_rfl))
 f46:=⟨Tryz.f322.name,by decide,Tryz.func322.trans (congrArg some (by kernel_rfl))⟩
 f47:=Tryz.func310.trans (congrArg some (by kernel_rfl))
 f48:=Tryz.func311.trans (congrArg some (by kernel_rfl))
 f49:=⟨Tryz.f323.name,by decide,Tryz.func323.trans (congrArg some (by kernel_rfl))⟩
 f50:=⟨Tryz.f324.name,by decide,Tryz.func324.trans (congrArg some (by kernel_rfl))⟩
 f57:=⟨Tryz.f344.name,by decide,Tryz.func344.trans (congrArg some (by kernel_rfl))⟩
 t0:=Tryz.underlying0
 a0:=Tryz.isAgg0
 z0:=Tryz.sizeOf0
 v0:=Tryz.zeroValue0
 t3:=Tryz.underlying3
 a3:=Tryz.isAgg3
 z3:=Tryz.sizeOf3
 v3:=Tryz.zeroValue3
 t4:=Tryz.underlying4
 a4:=Tryz.isAgg4
 z4:=Tryz.sizeOf4
 v4:=Tryz.zeroValue4
 t5:=Tryz.underlying5
 a5:=Tryz.isAgg5
 z5:=Tryz.sizeOf5
 v5:=Tryz.zeroValue5
 t9:=Tryz.underlying9
 a9:=Tryz.isAgg9
 z9:=Tryz.sizeOf9
 v9:=Tryz.zeroValue9
 t22:=Tryz.underlying65
 a22:=Tryz.isAgg65
 z22:=Tryz.sizeOf65
 v22:=Tryz.zeroValue65
 t25:=Tryz.underlying123
 a25:=Tryz.isAgg123
 z25:=Tryz.sizeOf123
 v25:=Tryz.zeroValue123
 t39:=Tryz.underlying141
 a39:=Tryz.isAgg141
 z39:=Tryz.sizeOf141
 v39:=Tryz.zeroValue141
 t45:=Tryz.underlying290
 a45:=Tryz.isAgg290
 z45:=Tryz.sizeOf290
 v45:=Tryz.zeroValue290
 t46:=Tryz.underlying291
 a46:=Tryz.isAgg291
 z46:=Tryz.sizeOf291
 v46:=Tryz.zeroValue291
 t50:=Tryz.underlying202
 a50:=Tryz.isAgg202
 z50:=Tryz.sizeOf202
 v50:=Tryz.zeroValue202
 t53:=Tryz.underlying297
 a53:=Tryz.isAgg297
 z53:=Tryz.sizeOf297
 v53:=Tryz.zeroValue297
 t55:=Tryz.underlying231
 a55:=Tryz.isAgg231
 z55:=Tryz.sizeOf231
 v55:=Tryz.zeroValue231
 t66:=Tryz.underlying343
 a66:=Tryz.isAgg343
 z66:=Tryz.sizeOf343
 v66:=Tryz.zeroValue343
 t70:=Tryz.underlying347
 a70:=Tryz.isAgg347
 z70:=Tryz.sizeOf347
 v70:=Tryz.zeroValue347
 t76:=Tryz.underlying369
 a76:=Tryz.isAgg369
 z76:=Tryz.sizeOf369
 v76:=Tryz.zeroValue369
 t77:=Tryz.underlying367
 a77:=Tryz.isAgg367
 z77:=Tryz.sizeOf367
 v77:=Tryz.zeroValue367 }
def Tryz.sort237_ren : Go.Shelf.Ren:=⟨fun | 6=>237 | 15=>181 | 14=>297 | 28=>254 | 29=>255 | 20=>328 | 21=>329 | 22=>330 | 23=>331 | 24=>332 | 25=>333 | 26=>334 | 27=>335 | 46=>345 | 47=>310 | 48=>311 | 49=>346 | 50=>347 | 57=>350 | n=>n,fun | 22=>212 | 24=>215 | 25=>216 | 3=>3 | 39=>141 | 0=>0 | 53=>297 | 55=>231 | 4=>4 | 46=>291 | 45=>290 | 50=>202 | 5=>5 | 9=>9 | 66=>343 | 70=>347 | 76=>369 | 77=>367 | n=>n,fun | n=>n⟩
theorem Tryz.sort237 : Go.Proofs.SlLaysF0.n6 Tryz.prog Tryz.sort237_ren:={
 mixed:=by kernel_rfl
 f6:=⟨Tryz.f237.name,by decide,Tryz.func237.trans (congrArg some (by kernel_rfl))⟩
 f14:=⟨Tryz.f297.name,by decide,Tryz.func297.trans (congrArg some (by kernel_rfl))⟩
 f15:=Tryz.func181.trans (congrArg some (by kernel_rfl))
 f20:=⟨Tryz.f328.name,by decide,Tryz.func328.trans (congrArg some (by kernel_rfl))⟩
 f21:=⟨Tryz.f329.name,by decide,Tryz.func329.trans (congrArg some (by kernel_rfl))⟩
 f22:=⟨Tryz.f330.name,by decide,Tryz.func330.trans (congrArg some (by kernel_rfl))⟩
 f23:=⟨Tryz.f331.name,by decide,Tryz.func331.trans (congrArg some (by kernel_rfl))⟩
 f24:=⟨Tryz.f332.name,by decide,Tryz.func332.trans (congrArg some (by kernel_rfl))⟩
 f25:=⟨Tryz.f333.name,by decide,Tryz.func333.trans (congrArg some (by kernel_rfl))⟩
 f26:=⟨Tryz.f334.name,by decide,Tryz.func334.trans (congrArg some (by kernel_rfl))⟩
 f27:=⟨Tryz.f335.name,by decide,Tryz.func335.trans (congrArg some (by kernel_rfl))⟩
 f28:=Tryz.func254.trans (congrArg some (by kernel_rfl))
 f29:=Tryz.func255.trans (congrArg some (by kernel_rfl))
 f46:=⟨Tryz.f345.name,by decide,Tryz.func345.trans (congrArg some (by kernel_rfl))⟩
 f47:=Tryz.func310.trans (congrArg some (by kernel_rfl))
 f48:=Tryz.func311.trans (congrArg some (by kernel_rfl))
 f49:=⟨Tryz.f346.name,by decide,Tryz.func346.trans (congrArg some (by kernel_rfl))⟩
 f50:=⟨Tryz.f347.name,by decide,Tryz.func347.trans (congrArg some (by kernel_rfl))⟩
 f57:=⟨Tryz.f350.name,by decide,Tryz.func350.trans (congrArg some (by kernel_rfl))⟩
 t0:=Tryz.underlying0
 a0:=Tryz.isAgg0
 z0:=Tryz.sizeOf0
 v0:=Tryz.zeroValue0
 t3:=Tryz.underlying3
 a3:=Tryz.isAgg3
 z3:=Tryz.sizeOf3
 v3:=Tryz.zeroValue3
 t4:=Tryz.underlying4
 a4:=Tryz.isAgg4
 z4:=Tryz.sizeOf4
 v4:=Tryz.zeroValue4
 t5:=Tryz.underlying5
 a5:=Tryz.isAgg5
 z5:=Tryz.sizeOf5
 v5:=Tryz.zeroValue5
 t9:=Tryz.underlying9
 a9:=Tryz.isAgg9
 z9:=Tryz.sizeOf9
 v9:=Tryz.zeroValue9
 t22:=Tryz.underlying212
 a22:=Tryz.isAgg212
 z22:=Tryz.sizeOf212
 v22:=Tryz.zeroValue212
 t25:=Tryz.underlying216
 a25:=Tryz.isAgg216
 z25:=Tryz.sizeOf216
 v25:=Tryz.zeroValue216
 t39:=Tryz.underlying141
 a39:=Tryz.isAgg141
 z39:=Tryz.sizeOf141
 v39:=Tryz.zeroValue141
 t45:=Tryz.underlying290
 a45:=Tryz.isAgg290
 z45:=Tryz.sizeOf290
 v45:=Tryz.zeroValue290
 t46:=Tryz.underlying291
 a46:=Tryz.isAgg291
 z46:=Tryz.sizeOf291
 v46:=Tryz.zeroValue291
 t50:=Tryz.underlying202
 a50:=Tryz.isAgg202
 z50:=Tryz.sizeOf202
 v50:=Tryz.zeroValue202
 t53:=Tryz.underlying297
 a53:=Tryz.isAgg297
 z53:=Tryz.sizeOf297
 v53:=Tryz.zeroValue297
 t55:=Tryz.underlying231
 a55:=Tryz.isAgg231
 z55:=Tryz.sizeOf231
 v55:=Tryz.zeroValue231
 t66:=Tryz.underlying343
 a66:=Tryz.isAgg343
 z66:=Tryz.sizeOf343
 v66:=Tryz.zeroValue343
 t70:=Tryz.underlying347
 a70:=Tryz.isAgg347
 z70:=Tryz.sizeOf347
 v70:=Tryz.zeroValue347
 t76:=Tryz.underlying369
 a76:=Tryz.isAgg369
 z76:=Tryz.sizeOf369
 v76:=Tryz.zeroValue369
 t77:=Tryz.underlying367
 a77:=Tryz.isAgg367
 z77:=Tryz.sizeOf367
 v77:=Tryz.zeroValue367 }
end Go.Proofs
namespace Go.Proofs.YtfekpcimgncioaaGreatDoor
open Go.Proofs.Tryz
open Go.RowKit Go.Lith
set_option maxRecDepth 100000
attribute [local irreducible] wpList wpQuiet dB bL cE Code.wp
theorem fD : nK prog 30 pt:=by
 refine nK.agg (cs:=fun p=>#[.int .i64 p.x,.int .i64 p.y,.int .i64 p.z]) (fun _=>rfl) dL (fun e p=>?_) (fun p q=>?_) (fun p=>?_)
 ·
  refine rG.struct (d:=9999) dL fun f hf=>?_;simp only[List.mem_cons,List.not_mem_nil,or_false] at hf;rcases hf with rfl | rfl | rfl <;> exact ⟨_,cT aX rfl,rG.int (d:=9998) gB⟩
 · exact (kZ 9998).iff ⟨fun h=>P3.eq h.1 h.2.1 h.2.2,fun h=>by subst h;exact ⟨rfl,rfl,rfl⟩⟩
 · simp [pt,Instr.sameBits]
theorem Uk {w0 w : World} {is : List It} {g c : Nat} {es : Array MapEntry} {D : List (P3 × Bool)} {p : P3} (m : Mem w0 w is) (k : Nat) (hk : is[k]? = some (mI g es c)) (hD1 : bP pt Value.bool D es c) : Calls prog 114 [.map (some g),pt p].toArray w fun e w'=>∃ v i,e = .returned v ∧ Mem w0 w' (is.set k i) ∧ (v = .bool (!(cK D p).getD false) ∧ ∃ es' c',i = mI g es' c' ∧ bP pt Value.bool (eO D p true) es' c'):=by
 go_enter func114,ntmps114
 refine aD fun K1 k1=>wp_region_lit (cB m rfl ?_);clear m;intro g1 u m;refine aA (aG) (aF (k1 _ _ ?_));refine aD fun K2 k2=>aD fun K3 k3=>wp_region_lit (aA (aB) ?_);simp only[zz];refine aJ rfl ((m.b 0 rfl).full aI aC) ?_;simp only[zz];refine eY (dV (ek:=pt) (en:=Value.bool) (k:=p) (v0:=false) underlying163 kY fD rfl rfl (m.p (k + 1) hk) hD1) ?_;simp only[zz];refine aF (k3 _ _ ?_);refine eD rfl (fun hc1=>?_) (fun hc1=>?_)
 ·
  refine aD fun K4 k4=>wp_region_lit (aA (aG) (aF (k4 _ _ ?_)));refine wp_ret ?_;simp only[zz];try simp only[Exit.inBlock,Exit.then,if_true]
  refine bE rfl rfl ?_;try simp only[zD,zE]
  exact ⟨_,mI g es c,rfl,by rw [Gt hk];exact m.tl,by rw [hc1];rfl,es,c,rfl,by rw [Cn (by cases hq : cK D p with | none=>rw [hq] at hc1;cases hc1 | some x=>rw [hq] at hc1;exact congrArg some hc1)];exact hD1⟩
 ·
  refine wp_skip (k2 _ _ ?_);refine aD fun K5 k5=>wp_region_lit (aA (aB) ?_);simp only[zz];refine aJ rfl ((m.b 0 rfl).full aI aC) ?_;simp only[zz];refine kD (ek:=pt) (en:=Value.bool) (a:=p) (v:=true) m (k + 1) hk underlying163 fD rfl rfl rfl hD1 ?_;clear m;intro es1 c1 u m hD';clear hD1;have hD1:=hD';clear hD';simp only[zF,zG] at m;refine aF (k5 _ _ ?_);refine aD fun K6 k6=>wp_region_lit (aA (aG) (aF (k6 _ _ ?_)));refine wp_ret ?_;simp only[zz];try simp only[Exit.inBlock,Exit.then,if_true]
  refine bE rfl rfl ?_;try simp only[zD,zE]
  exact ⟨_,_,rfl,m.tl,by rw [hc1];rfl,_,_,rfl,hD1⟩
theorem aei {w0 w : World} {is : List It} {A : Option Addr} {n cap : Nat} {xs : List P3} (m : Mem w0 w is) (k : Nat) (hi : is[k]? = some (oI 30 3 A n cap (xs.flatMap eX))) (hsz : n < 4611686018427387904) :
 Calls prog 128 [.slice A n cap,.func (.func 116) #[] #[]].toArray w fun e w'=>∃ v i,e = .returned v ∧ Mem w0 w' (is.set k i) ∧ (v = .tuple #[] ∧ ∃ ys : List P3,i = oI 30 3 A n cap (ys.flatMap eX) ∧ ys.Perm xs ∧ ys.Pairwise fun a b=>ltOf mC b a = false) :=
 uV (enc:=eX) Tryz.sort128 (fun w=>nZ aI w) (fun w=>dQ aC w) (fun _=>rfl) (by decide) Du mC Pv (fun x y=>wE) m k hi hsz
theorem Zs {g c : Nat} {es : Array MapEntry} {D : List (P3 × Bool)} (w : World) (hM : gC w g es c) (hD : bP pt Value.bool D es c) (hl : D.length ≤ 1000000) : eG prog 115 [.map (some g),.func (.func 116) #[] #[]] w (OR 30 3 (fun xs=>∃ ps : List P3,xs = ps.flatMap eX ∧ ps.Perm (D.map (·.1)) ∧ ps.Pairwise fun a b=>¬ b.Lt a) w):=by
 refine ⟨af3,?_⟩;have m:=Mem.refl w
 go_enter func115,ntmps115
 refine aD fun K1 k1=>wp_region_lit (aA (aG) (aF (k1 _ _ ?_)));refine aD fun K2 k2=>wp_region_lit (aA (aG) ?_);replace m:=m.nilO 30 3;refine aF (k2 _ _ ?_);refine aD fun K3 k3=>aD fun K4 k4=>wp_region_lit (aA (aB) ?_);simp only[zz];refine qY m underlying163 rfl (hM.ext m.ext) ?_;clear m;intro r1 u m;refine aF (k4 _ _ ?_);refine wp_block ?_;simp only[zz];try simp only[Nat.zero_add,Nat.reduceAdd,Nat.reduceMul,Int.reduceToNat]
 refine bT [5] [6,9,10,11,12,13,14,15,16] (fun n vs wl=>∃ (dn rs : List (P3 × Bool)) (A1 : Option Addr) (n1 cap1 : Nat) (sn : Array Nat),vs = [.slice A1 n1 cap1] ∧ Mem w wl [iI r1 g c sn,oI 30 3 A1 n1 cap1 ((dn.map (·.1)).flatMap eX)] ∧ (kU pt Value.bool D es sn dn rs) ∧ (n1 = dn.length) ∧ (n = rs.length)) ?_ ?_
 ·
  apply Exists.intro;simp only[zQ,zR,zD,zE];exact ⟨[],D,none,0,0,#[],rfl,m,kU.start hD,rfl,rfl⟩
 ·
  intro n vs wr hI u;clear m;obtain ⟨dn,rs,A1,n1,cap1,sn,rfl,m,hT,hn1,hn⟩:=hI;have hlen:=hT.len;simp only[zu,zF,zG];refine aD fun K5 k5=>wp_region_lit (Dt m 0 rfl rfl (hM.ext m.ext) hD hT ?_);clear m;intro bb kk vv sn u m hN;simp only[zF,zG] at m;refine aA (lW rfl) (aF (k5 _ _ ?_));refine aD fun K6 k6=>?_;simp only[zz];refine eD rfl (fun hc1=>?_) (fun hc1=>?_)
  ·
   obtain ⟨kp,kb,rs2,hp,hT2⟩:=Aq hc1 hN;refine wp_skip (k6 _ _ ?_);refine wp_block (aD fun K7 k7=>wp_region_lit (eY (oH rfl (m.r 0 rfl) (hM.ext m.ext) hD hT2) ?_));simp only[zz];refine aA (bC rfl rfl) ?_;simp only[zz];refine bA m bO rfl ?_;clear m;intro g2 u m;simp only[zz];refine aT m 0 rfl rfl rfl aC (cU rfl) rfl ?_;clear m;intro u m;simp only[zy,zx,bB,zF,zG,Nat.reduceAdd] at m;refine aF (k7 _ _ ?_);refine wp_region_lit (aA (aB) ?_);simp only[zz];refine aJ rfl ((m.b 0 rfl).full aI aC) ?_;simp only[zz];refine mJ rfl ?_;intro u g3 e hg hB;replace m:=m.newB e hg hB;clear e hg hB;simp only[zz];refine dD m 3 rfl rfl dS nJ rfl (by decide) rfl rfl rfl (m.b 0 rfl).rowsO (jZ rfl) (by omega) (by omega) ?_;clear m;intro A1 cap1 u m;simp only[zF,zG] at m;refine aA (aG) (aF ?_);simp only[zz];simp only[Exit.inBlock,Exit.then];refine ⟨rs2.length,_,?_,rfl,?_,?_⟩
   · rw [hn,hp.length_eq];exact Nat.lt_succ_self _
   · simp only[zz,zv]
   ·
    simp only[zQ,zR,zD,zE];exact ⟨dn ++ [(kp,kb)],rs2,_,_,_,_,rfl,((m.reO 3 rfl ((m.o 3 rfl).as (by simp [eX]))).sel [false,false,true,true]),hT2,by simp [hn1],rfl⟩
  ·
   obtain rfl:=An hc1 hN;refine wp_exit (k3 _ _ ?_);refine aD fun K8 k8=>wp_region_lit (aA (aB) (aA (aB) ?_));simp only[zz];refine jG m 1 Tc rfl rfl (fun m=>aei m 1 rfl (by omega)) ?_;clear m;rintro v i u m ⟨rfl,ys,rfl,hys,hso⟩;simp only[zF,zG] at m;refine aF (k8 _ _ ?_);refine aD fun K9 k9=>wp_region_lit (aA (aB) (aA (aG) (aF (k9 _ _ ?_))));refine wp_ret ?_;simp only[zz];try simp only[Exit.inBlock,Exit.then,if_true]
   refine bE rfl rfl ?_;try simp only[zD,zE]
   exact ⟨_,rfl,m.ext,_,_,_,_,rfl,(m.o 1 rfl),_,rfl,hys.trans (hT.done.map _),hso.imp fun h=>by simpa [ltOf,jB] using h⟩
end Go.Proofs.YtfekpcimgncioaaGreatDoor
namespace Go.Proofs.YtfekpcimgncioaaGreatDoor
open Go.Proofs.Tryz
open Go.RowKit Go.Lith
set_option maxRecDepth 100000
attribute [local irreducible] wpList wpQuiet dB bL cE Code.wp
theorem vE : nK prog 215 ed:=by
 refine nK.agg (cs:=fun p=>#[.int .i64 p.1.x,.int .i64 p.1.y,.int .i64 p.1.z,.int .i64 p.2.x,.int .i64 p.2.y,.int .i64 p.2.z]) (fun _=>rfl) iO (fun e p=>?_) (fun p q=>?_) (fun p=>?_)
 ·
  refine rG.struct (d:=9999) iO fun f hf=>?_;simp only[List.mem_cons,List.not_mem_nil,or_false] at hf;rcases hf with rfl | rfl
  ·
   refine ⟨_,cR aI aC rfl,?_⟩;refine rG.struct (d:=9998) dL fun f hf=>?_;simp only[List.mem_cons,List.not_mem_nil,or_false] at hf;rcases hf with rfl | rfl | rfl
   · exact ⟨_,cT aX rfl,rG.int (d:=9997) gB⟩
   · exact ⟨_,cT aX rfl,rG.int (d:=9997) gB⟩
   · exact ⟨_,cT aX rfl,rG.int (d:=9997) gB⟩
  ·
   refine ⟨_,cR aI aC rfl,?_⟩;refine rG.struct (d:=9998) dL fun f hf=>?_;simp only[List.mem_cons,List.not_mem_nil,or_false] at hf;rcases hf with rfl | rfl | rfl
   · exact ⟨_,cT aX rfl,rG.int (d:=9997) gB⟩
   · exact ⟨_,cT aX rfl,rG.int (d:=9997) gB⟩
   · exact ⟨_,cT aX rfl,rG.int (d:=9997) gB⟩
 · exact (adX _).iff ⟨fun h=>Prod.ext (P3.eq (h.1) (h.2.1) (h.2.2.1)) (P3.eq (h.2.2.2.1) (h.2.2.2.2.1) (h.2.2.2.2.2)),fun h=>by subst h;simp only[and_self]⟩
 · simp [ed,Instr.sameBits]
theorem ajN {x y : Int} {g1 : Nat} (w : World) (hB1 : fF w g1 [.int .i64 x,.int .i64 y] 3) : abW prog 125 [.slice (some ⟨g1,0,none⟩) 2 2] w (.int .i64 (if x = 0 then y else x)):=by
 refine ⟨aa2,?_⟩;have m:=fS.refl w
 go_enter func125,ntmps125
 refine aD fun K1 k1=>wp_region_lit (aA (aG) (aF (k1 _ _ ?_)));refine aD fun K2 k2=>wp_region_lit (aA (aG) (aF (k2 _ _ ?_)));refine aD fun K3 k3=>aD fun K4 k4=>wp_region_lit (aA (aB) (aA (bH rfl xH rfl) ?_));simp only[zz];refine aA (aB) (aF (k4 _ _ ?_));refine wp_block (wp_loop_rounds 3 (bU (aD fun K5 k5=>wp_region_lit (aA (bF (m:=0) (n:=2) rfl rfl (by decide)) (aF (k5 _ _ ?_))))));refine aD fun K6 k6=>bK rfl (wp_skip (k6 _ _ ?_));refine aD fun K7 k7=>wp_block (aD fun K8 k8=>wp_region_lit ?_);simp only[zz];refine aA (aN xH aO rfl rfl (by decide) (by omega) rfl) ?_;simp only[zz];refine aJ rfl ((hB1.ext m.ext.ext).lies1 aX rfl) ?_;simp only[zz];refine aA (aG) (aF (k8 _ _ ?_));refine aD fun K9 k9=>wp_region_lit (aA (aB) (aA (aB) (aA (jJ rfl rfl) ?_)));simp only[zz];refine aF (k9 _ _ ?_);refine cG rfl (fun hc2=>?_) (fun hc2=>?_)
 ·
  refine aD fun K10 k10=>wp_region_lit (aA (aB) (aA (aG) (aF (k10 _ _ ?_))));refine wp_ret ?_;simp only[zz];try simp only[Exit.inBlock,Exit.then,if_true]
  refine bE rfl rfl ?_;try simp only[zD,zE]
  exact ⟨_,rfl,m.ext,by rw [if_neg hc2]⟩
 ·
  have hx : x = 0:=by omega
  refine wp_skip (k7 _ _ ?_);refine wp_region_lit (aA (aU (m:=0) (n:=1) (r:=1) rfl rfl (by decide)) (aA (aB) (aF (aQ (aD fun K11 k11=>wp_region_lit (aA (bF (m:=1) (n:=2) rfl rfl (by decide)) (aF (k11 _ _ ?_))))))));refine aD fun K12 k12=>bK rfl (wp_skip (k12 _ _ ?_));refine aD fun K13 k13=>wp_block (aD fun K14 k14=>wp_region_lit ?_);simp only[zz];refine aA (aN xH aO rfl rfl (by decide) (by omega) rfl) ?_;simp only[zz];refine aJ rfl ((hB1.ext m.ext.ext).lies1 aX rfl) ?_;simp only[zz];refine aA (aG) (aF (k14 _ _ ?_));refine aD fun K15 k15=>wp_region_lit (aA (aB) (aA (aB) (aA (jJ rfl rfl) ?_)));simp only[zz];refine aF (k15 _ _ ?_);refine cG rfl (fun hc2=>?_) (fun hc2=>?_)
  ·
   refine aD fun K16 k16=>wp_region_lit (aA (aB) (aA (aG) (aF (k16 _ _ ?_))));refine wp_ret ?_;simp only[zz];try simp only[Exit.inBlock,Exit.then,if_true]
   refine bE rfl rfl ?_;try simp only[zD,zE]
   exact ⟨_,rfl,m.ext,by rw [if_pos hx]⟩
  ·
   have hy : y = 0:=by omega
   refine wp_skip (k13 _ _ ?_);refine wp_region_lit (aA (aU (m:=1) (n:=1) (r:=2) rfl rfl (by decide)) (aA (aB) (aF (aQ (aD fun K17 k17=>wp_region_lit (aA (dM (m:=2) (n:=2) rfl rfl (by decide)) (aF (k17 _ _ ?_))))))));refine aD fun K18 k18=>gA rfl (wp_exit (k3 _ _ ?_));refine aD fun K19 k19=>wp_region_lit (aA (aB) ?_);simp only[zz];refine aA (aG) (aF (k19 _ _ ?_));refine wp_ret ?_;simp only[zz];try simp only[Exit.inBlock,Exit.then,if_true]
   refine bE rfl rfl ?_;try simp only[zD,zE]
   exact ⟨_,rfl,m.ext,by rw [if_pos hx,hy]⟩
def Zt (a b : E3) : Int:=if mC a.1 b.1 = 0 then mC a.2 b.2 else mC a.1 b.1
theorem kE {p q : P3} : mC p q = 0 ↔ p = q:=by
 unfold mC;rcases P3.lt_tri p q with h | h | h
 · rw [if_pos h];exact ⟨fun e=>(by cases e),fun e=>absurd (e ▸ h) (P3.lt_irrefl _)⟩
 · subst h;rw [if_neg (P3.lt_irrefl _),if_neg (P3.lt_irrefl _)];exact ⟨fun _=>rfl,fun _=>rfl⟩
 · rw [if_neg (fun k=>P3.lt_irrefl _ (P3.lt_trans h k)),if_pos h];exact ⟨fun e=>(by cases e),fun e=>absurd (e ▸ h) (P3.lt_irrefl _)⟩
theorem Be (a b : E3) : (Zt a b < 0) ↔ Dw a b:=by
 unfold Zt Dw;split
 ·
  rename_i h;have h':=kE.1 h;rw [jB];exact ⟨fun k=>.inr ⟨h',k⟩,fun k=>k.elim (fun k=>absurd (h' ▸ k) (P3.lt_irrefl _)) fun k=>k.2⟩
 ·
  rename_i h;rw [jB];exact ⟨.inl,fun k=>k.elim id fun k=>absurd (kE.2 k.1) h⟩
instance : Inhabited E3:=⟨(⟨0,0,0⟩,⟨0,0,0⟩)⟩
theorem abY : Go.Sort.SWO (Go.Proofs.ltOf Zt) where
 irrefl a:=by simp only[Go.Proofs.ltOf,decide_eq_false_iff_not,Be];exact Dw.irrefl a
 trans x y z h1 h2:=by
  simp only[Go.Proofs.ltOf,decide_eq_true_eq,Be] at *
  exact h1.trans h2
 ntrans x y z h1 h2:=by
  simp only[Go.Proofs.ltOf,decide_eq_false_iff_not,Be] at *
  intro h;rcases Dw.tri y x with k | k | k
  · exact absurd (k.trans h) (by first | exact h2 | exact h1)
  · subst k;first | exact h2 h | exact h1 h
  · first | exact h1 k | exact h2 k
theorem aej {p q : E3} : nP prog 168 [ed p,ed q] (.int .i64 (Zt p q)):=by
 intro w;refine ⟨agm,?_⟩;have m:=fS.refl w
 go_enter func168,ntmps168
 refine aD fun K1 k1=>wp_region_lit (kX m rfl ?_);clear m;intro g1 u m;simp only[zz];refine kX m rfl ?_;clear m;intro g2 u m;refine aA (aG) (aF (k1 _ _ ?_));refine aD fun K2 k2=>?_;simp only[zz];refine Gf m 10 aM (by kernel_rfl) ?_;simp only[zy];refine aK (aL (c:=2) iO rfl aC rfl rfl) ?_;simp only[zz];refine Ik rfl (fun u m=>((m.b 1 rfl).lies aI aC rfl rfl)) ?_;simp only[zz,zy,Nat.zero_add,Nat.reduceAdd,Nat.reduceMul,Int.reduceToNat];refine aK (aL (c:=2) iO rfl aC rfl rfl) ?_;simp only[zz];refine Ik rfl (fun u m=>((m.b 0 rfl).lies aI aC rfl rfl)) ?_;simp only[zz,zy,Nat.zero_add,Nat.reduceAdd,Nat.reduceMul,Int.reduceToNat];refine yW rfl rfl (wE (p:=p.1) (q:=q.1)) (aK (aL (c:=2) iO rfl aC rfl rfl) ?_);simp only[zz];refine Ik rfl (fun u m=>((m.b 1 rfl).lies aI aC rfl rfl)) ?_;simp only[zz,zy,Nat.zero_add,Nat.reduceAdd,Nat.reduceMul,Int.reduceToNat];refine aK (aL (c:=2) iO rfl aC rfl rfl) ?_;simp only[zz];refine Ik rfl (fun u m=>((m.b 0 rfl).lies aI aC rfl rfl)) ?_;simp only[zz,zy,Nat.zero_add,Nat.reduceAdd,Nat.reduceMul,Int.reduceToNat];refine yW rfl rfl (wE (p:=p.2) (q:=q.2)) (bZ ?_);clear m;intro u m;simp only[zz];refine abX m xH (z:=.int .i64 0) (by kernel_rfl) rfl rfl rfl rfl rfl ?_;clear m;intro g3 u m;simp only[zz];refine Nd m rfl rfl (ajN _ (m.b 0 rfl)) ?_;clear m;intro u m;refine aA (aG) (aF (k2 _ _ ?_));refine wp_ret ?_;simp only[zz];try simp only[Exit.inBlock,Exit.then,if_true]
 refine bE rfl rfl ?_;try simp only[zD,zE]
 exact ⟨_,rfl,m.ext,rfl⟩
theorem Nf {w0 w : World} {is : List It} {g c : Nat} {es : Array MapEntry} {D : List (E3 × Bool)} {p : E3} (m : Mem w0 w is) (k : Nat) (hk : is[k]? = some (mI g es c)) (hD1 : bP ed Value.bool D es c) : Calls prog 235 [.map (some g),ed p].toArray w fun e w'=>∃ v i,e = .returned v ∧ Mem w0 w' (is.set k i) ∧ (v = .bool (!(cK D p).getD false) ∧ ∃ es' c',i = mI g es' c' ∧ bP ed Value.bool (eO D p true) es' c'):=by
 go_enter func235,ntmps235
 refine aD fun K1 k1=>wp_region_lit (cB m rfl ?_);clear m;intro g1 u m;refine aA (aG) (aF (k1 _ _ ?_));refine aD fun K2 k2=>aD fun K3 k3=>wp_region_lit (aA (aB) ?_);simp only[zz];refine aJ rfl ((m.b 0 rfl).full iX dO) ?_;simp only[zz];refine eY (dV (ek:=ed) (en:=Value.bool) (k:=p) (v0:=false) underlying208 kY vE rfl rfl (m.p (k + 1) hk) hD1) ?_;simp only[zz];refine aF (k3 _ _ ?_);refine eD rfl (fun hc1=>?_) (fun hc1=>?_)
 ·
  refine aD fun K4 k4=>wp_region_lit (aA (aG) (aF (k4 _ _ ?_)));refine wp_ret ?_;simp only[zz];try simp only[Exit.inBlock,Exit.then,if_true]
  refine bE rfl rfl ?_;try simp only[zD,zE]
  exact ⟨_,mI g es c,rfl,by rw [Gt hk];exact m.tl,by rw [hc1];rfl,es,c,rfl,by rw [Cn (by cases hq : cK D p with | none=>rw [hq] at hc1;cases hc1 | some x=>rw [hq] at hc1;exact congrArg some hc1)];exact hD1⟩
 ·
  refine wp_skip (k2 _ _ ?_);refine aD fun K5 k5=>wp_region_lit (aA (aB) ?_);simp only[zz];refine aJ rfl ((m.b 0 rfl).full iX dO) ?_;simp only[zz];refine kD (ek:=ed) (en:=Value.bool) (a:=p) (v:=true) m (k + 1) hk underlying208 vE rfl rfl rfl hD1 ?_;clear m;intro es1 c1 u m hD';clear hD1;have hD1:=hD';clear hD';simp only[zF,zG] at m;refine aF (k5 _ _ ?_);refine aD fun K6 k6=>wp_region_lit (aA (aG) (aF (k6 _ _ ?_)));refine wp_ret ?_;simp only[zz];try simp only[Exit.inBlock,Exit.then,if_true]
  refine bE rfl rfl ?_;try simp only[zD,zE]
  exact ⟨_,_,rfl,m.tl,by rw [hc1];rfl,_,_,rfl,hD1⟩
theorem Qw (p : E3) : ∀ v ∈ dT p,v.oneCell' = true:=fun v h=>by
 simp only[dT,List.mem_cons,List.not_mem_nil,or_false] at h;rcases h with rfl | rfl | rfl | rfl | rfl | rfl <;> rfl
theorem aek {w0 w : World} {is : List It} {A : Option Addr} {n cap : Nat} {xs : List E3} (m : Mem w0 w is) (k : Nat) (hi : is[k]? = some (oI 215 6 A n cap (xs.flatMap dT))) (hsz : n < 4611686018427387904) :
 Calls prog 237 [.slice A n cap,.func (.func 168) #[] #[]].toArray w fun e w'=>∃ v i,e = .returned v ∧ Mem w0 w' (is.set k i) ∧ (v = .tuple #[] ∧ ∃ ys : List E3,i = oI 215 6 A n cap (ys.flatMap dT) ∧ ys.Perm xs ∧ ys.Pairwise fun a b=>ltOf Zt b a = false) :=
 uV (enc:=dT) Tryz.sort237 (fun w=>nZ iX w) (fun w=>dQ dO w) (fun _=>rfl) (by decide) Qw Zt abY (fun x y=>aej) m k hi hsz
theorem Zu {g c : Nat} {es : Array MapEntry} {D : List (E3 × Bool)} (w : World) (hM : gC w g es c) (hD : bP ed Value.bool D es c) (hl : D.length ≤ 100000000) : eG prog 167 [.map (some g),.func (.func 168) #[] #[]] w (OR 215 6 (fun xs=>∃ ps : List E3,xs = ps.flatMap dT ∧ ps.Perm (D.map (·.1)) ∧ ps.Pairwise fun a b=>¬ Dw b a) w):=by
 refine ⟨agl,?_⟩;have m:=Mem.refl w
 go_enter func167,ntmps167
 refine aD fun K1 k1=>wp_region_lit (aA (aG) (aF (k1 _ _ ?_)));refine aD fun K2 k2=>wp_region_lit (aA (aG) ?_);replace m:=m.nilO 215 6;refine aF (k2 _ _ ?_);refine aD fun K3 k3=>aD fun K4 k4=>wp_region_lit (aA (aB) ?_);simp only[zz];refine qY m underlying208 rfl (hM.ext m.ext) ?_;clear m;intro r1 u m;refine aF (k4 _ _ ?_);refine wp_block ?_;simp only[zz];try simp only[Nat.zero_add,Nat.reduceAdd,Nat.reduceMul,Int.reduceToNat]
 refine bT [5] [6,9,10,11,12,13,14,15,16] (fun n vs wl=>∃ (dn rs : List (E3 × Bool)) (A1 : Option Addr) (n1 cap1 : Nat) (sn : Array Nat),vs = [.slice A1 n1 cap1] ∧ Mem w wl [iI r1 g c sn,oI 215 6 A1 n1 cap1 ((dn.map (·.1)).flatMap dT)] ∧ (kU ed Value.bool D es sn dn rs) ∧ (n1 = dn.length) ∧ (n = rs.length)) ?_ ?_
 ·
  apply Exists.intro;simp only[zQ,zR,zD,zE];exact ⟨[],D,none,0,0,#[],rfl,m,kU.start hD,rfl,rfl⟩
 ·
  intro n vs wr hI u;clear m;obtain ⟨dn,rs,A1,n1,cap1,sn,rfl,m,hT,hn1,hn⟩:=hI;have hlen:=hT.len;simp only[zu,zF,zG];refine aD fun K5 k5=>wp_region_lit (Dt m 0 rfl rfl (hM.ext m.ext) hD hT ?_);clear m;intro bb kk vv sn u m hN;simp only[zF,zG] at m;refine aA (lW rfl) (aF (k5 _ _ ?_));refine aD fun K6 k6=>?_;simp only[zz];refine eD rfl (fun hc1=>?_) (fun hc1=>?_)
  ·
   obtain ⟨kp,kb,rs2,hp,hT2⟩:=Aq hc1 hN;refine wp_skip (k6 _ _ ?_);refine wp_block (aD fun K7 k7=>wp_region_lit (eY (oH rfl (m.r 0 rfl) (hM.ext m.ext) hD hT2) ?_));simp only[zz];refine aA (bC rfl rfl) ?_;simp only[zz];refine bA m lU rfl ?_;clear m;intro g2 u m;simp only[zz];refine aT m 0 rfl rfl rfl dO (cU rfl) rfl ?_;clear m;intro u m;simp only[zy,zx,bB,zF,zG,Nat.reduceAdd] at m;refine aF (k7 _ _ ?_);refine wp_region_lit (aA (aB) ?_);simp only[zz];refine aJ rfl ((m.b 0 rfl).full iX dO) ?_;simp only[zz];refine Tq rfl ?_;intro u g3 e hg hB;replace m:=m.newB e hg hB;clear e hg hB;simp only[zz];refine dD m 3 rfl rfl underlying212 adT rfl (by decide) rfl rfl rfl (m.b 0 rfl).rowsO (jZ rfl) (by omega) (by omega) ?_;clear m;intro A1 cap1 u m;simp only[zF,zG] at m;refine aA (aG) (aF ?_);simp only[zz];simp only[Exit.inBlock,Exit.then];refine ⟨rs2.length,_,?_,rfl,?_,?_⟩
   · rw [hn,hp.length_eq];exact Nat.lt_succ_self _
   · simp only[zz,zv]
   ·
    simp only[zQ,zR,zD,zE];exact ⟨dn ++ [(kp,kb)],rs2,_,_,_,_,rfl,((m.reO 3 rfl ((m.o 3 rfl).as (by simp [dT]))).sel [false,false,true,true]),hT2,by simp [hn1],rfl⟩
  ·
   obtain rfl:=An hc1 hN;refine wp_exit (k3 _ _ ?_);refine aD fun K8 k8=>wp_region_lit (aA (aB) (aA (aB) ?_));simp only[zz];refine jG m 1 agN rfl rfl (fun m=>aek m 1 rfl (by omega)) ?_;clear m;rintro v i u m ⟨rfl,ys,rfl,hys,hso⟩;simp only[zF,zG] at m;refine aF (k8 _ _ ?_);refine aD fun K9 k9=>wp_region_lit (aA (aB) (aA (aG) (aF (k9 _ _ ?_))));refine wp_ret ?_;simp only[zz];try simp only[Exit.inBlock,Exit.then,if_true]
   refine bE rfl rfl ?_;try simp only[zD,zE]
   exact ⟨_,rfl,m.ext,_,_,_,_,rfl,(m.o 1 rfl),_,rfl,hys.trans (hT.done.map _),hso.imp fun h=>by simpa [ltOf,Be] using h⟩
end Go.Proofs.YtfekpcimgncioaaGreatDoor
namespace Go.Lith
open Go.RowKit
section
variable {P : Program} {ds : List Deferred} {l : List Value}
theorem Ws {c : Code} {Q : Exit → Act → World → Prop} {w : World} (ts ss : List Nat) (J : List Value → World → Prop)
 (hc : c.wp P (Exit.then (fun a' w'=>∃ l',a' = Fr l' ds ∧ pB (fN l ts (ts.map (l'.getD · undef))) ss (l'.getD · undef) = l' ∧ J (ts.map (l'.getD · undef)) w') Q) (Fr l ds) w)
 (hn : ∀ vs u,J vs u → ∀ g : Nat → Value,Q .normal (Fr (pB (fN l ts vs) ss g) ds) u) : c.wp P Q (Fr l ds) w:=by
 refine Code.wp_mono ?_ hc;intro e a w' h;cases e with
 | normal =>
  obtain ⟨l',rfl,he,hJ⟩:=h;rw [← he];exact hn _ _ hJ _
 | exit id=>exact h
 | goto id=>exact h
 | ret=>exact h
 | panic ch=>exact h
 | outgrown=>exact h
theorem Ng {c : Code} {Q : Exit → Act → World → Prop} {w0 w : World} {is : List It} (m : Mem w0 w is) (ts ss : List Nat) (J : List Value → Prop)
 (hc : c.wp P (Exit.then (fun a' w'=>∃ l',a' = Fr l' ds ∧ pB (fN l ts (ts.map (l'.getD · undef))) ss (l'.getD · undef) = l' ∧ Mem w0 w' is ∧ J (ts.map (l'.getD · undef))) Q) (Fr l ds) w)
 (hn : ∀ vs u,Mem w0 u is → J vs → ∀ g : Nat → Value,Q .normal (Fr (pB (fN l ts vs) ss g) ds) u) : c.wp P Q (Fr l ds) w :=
 Ws ts ss (fun vs w'=>Mem w0 w' is ∧ J vs) hc fun vs u h g=>hn vs u h.1 h.2 g
theorem iM {c : Code} {Q : Exit → Act → World → Prop} {w0 w : World} {is : List It} (m : Mem w0 w is) (k : Nat) (ts ss : List Nat) (J : List Value → It → Prop)
 (hc : c.wp P (Exit.then (fun a' w'=>∃ l' i,a' = Fr l' ds ∧ pB (fN l ts (ts.map (l'.getD · undef))) ss (l'.getD · undef) = l' ∧ Mem w0 w' (is.set k i) ∧ J (ts.map (l'.getD · undef)) i) Q) (Fr l ds) w)
 (hn : ∀ vs i u,Mem w0 u (is.set k i) → J vs i → ∀ g : Nat → Value,Q .normal (Fr (pB (fN l ts vs) ss g) ds) u) : c.wp P Q (Fr l ds) w:=by
 refine Ws ts ss (fun vs w'=>∃ i,Mem w0 w' (is.set k i) ∧ J vs i) (Code.wp_mono ?_ hc) fun vs u h g=>?_
 · intro e a w' h
   cases e with
   | normal=>obtain ⟨l',i,h1,h2,h3,h4⟩:=h;exact ⟨l',h1,h2,i,h3,h4⟩
   | exit id=>exact h
   | goto id=>exact h
   | ret=>exact h
   | panic ch=>exact h
   | outgrown=>exact h
 · obtain ⟨i,h1,h2⟩:=h
   exact hn vs i u h1 h2 g
end
end Go.Lith
