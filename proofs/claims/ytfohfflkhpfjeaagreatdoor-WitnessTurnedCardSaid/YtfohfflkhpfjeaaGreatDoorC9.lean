/-
 Texts of one claim, laid together: V6, Wk, Open5.
-/
import Derived.Test.YtfohfflkhpfjeaaGreatDoorC8
set_option maxHeartbeats 8000000
set_option linter.unusedSimpArgs false
set_option linter.unusedVariables false
set_option linter.unusedSectionVars false
namespace Go.Proofs.YtfohfflkhpfjeaaGreatDoor
open Go.Proofs.Tryz
open Go.RowKit Go.Lith
set_option maxRecDepth 100000
attribute [local irreducible] wpList wpQuiet dY dQ dO Code.wp
theorem acU {e : P3} (w : World) : eK prog 23 [pt e] w (fun v w'=>∃ A1 c1 A2 c2,v = .tuple #[.slice A1 6 c1,.slice A2 4 c2] ∧ cA w w' [oI 53 9 A1 6 c1 ((Gt e).flatMap aX),oI 53 9 A2 4 c2 (Gu.flatMap aX)]):=by
 refine ⟨afo,?_⟩;have m:=cA.refl w
 go_enter func23,ntmps23
 refine aD fun K1 k1=>wp_region_lit (eP m rfl ?_);clear m;intro g1 u m;refine aA (aC) (aA (aC) (aG (k1 _ _ ?_)));refine aD fun K2 k2=>wp_region_lit (aA (Nj) ?_);simp only[zz];refine bF m bQ rfl ?_;clear m;intro g2 u m;simp only[zz];refine aS m 0 rfl rfl rfl aF (dZ rfl) rfl ?_;clear m;intro u m;simp only[zy,zx,bG,zF,zG,Nat.reduceAdd] at m;refine aG (k2 _ _ ?_);refine aD fun K3 k3=>wp_region_lit (aA (Ky rfl) ?_);simp only[zz];refine bF m bQ rfl ?_;clear m;intro g3 u m;simp only[zz];refine aS m 0 rfl rfl rfl aF (dZ rfl) rfl ?_;clear m;intro u m;simp only[zy,zx,bG,zF,zG,Nat.reduceAdd] at m;refine aG (k3 _ _ ?_);refine aD fun K4 k4=>wp_region_lit (aA (Kz rfl) ?_);simp only[zz];refine bF m bQ rfl ?_;clear m;intro g4 u m;simp only[zz];refine aS m 0 rfl rfl rfl aF (dZ rfl) rfl ?_;clear m;intro u m;simp only[zy,zx,bG,zF,zG,Nat.reduceAdd] at m;refine aG (k4 _ _ ?_);refine aD fun K5 k5=>wp_region_lit (aA (yR rfl) ?_);simp only[zz];refine bF m bQ rfl ?_;clear m;intro g5 u m;simp only[zz];refine aS m 0 rfl rfl rfl aF (dZ rfl) rfl ?_;clear m;intro u m;simp only[zy,zx,bG,zF,zG,Nat.reduceAdd] at m;refine aG (k5 _ _ ?_);refine aD fun K6 k6=>wp_region_lit (aK rfl ((m.b 3 rfl).full aJ aF) ?_);simp only[zz];refine aK rfl ((m.b 1 rfl).full aJ aF) ?_;simp only[zz];refine aK rfl ((m.b 2 rfl).full aJ aF) ?_;simp only[zz];refine aA (bM rfl rfl rfl) ?_;simp only[zz];refine aK rfl ((m.b 3 rfl).full aJ aF) ?_;simp only[zz];refine aK rfl ((m.b 2 rfl).full aJ aF) ?_;simp only[zz];refine aK rfl ((m.b 0 rfl).full aJ aF) ?_;simp only[zz];refine aA (bM rfl rfl rfl) ?_;simp only[zz];refine aK rfl ((m.b 2 rfl).full aJ aF) ?_;simp only[zz];refine aK rfl ((m.b 1 rfl).full aJ aF) ?_;simp only[zz];refine aK rfl ((m.b 0 rfl).full aJ aF) ?_;simp only[zz];refine aA (bM rfl rfl rfl) ?_;simp only[zz];refine aK rfl ((m.b 1 rfl).full aJ aF) ?_;simp only[zz];refine aK rfl ((m.b 3 rfl).full aJ aF) ?_;simp only[zz];refine aK rfl ((m.b 0 rfl).full aJ aF) ?_;simp only[zz];refine aA (bM rfl rfl rfl) ?_;simp only[zz];refine Wb rfl rfl rfl rfl ?_;intro u g6 e hg hB;replace m:=m.newB e hg hB;clear e hg hB;simp only[zz];replace m:=m.own 0 rfl (n:=4) (c:=9) rfl (dZ rfl);simp only[zG] at m;refine aA (aC) (aG (k6 _ _ ?_));refine aD fun K7 k7=>wp_region_lit ?_;simp only[zz];refine aK rfl ((m.b 4 rfl).full aJ aF) ?_;simp only[zz];refine aK rfl ((m.b 2 rfl).full aJ aF) ?_;simp only[zz];refine aK rfl ((m.b 5 rfl).full aJ aF) ?_;simp only[zz];refine aA (bM rfl rfl rfl) ?_;simp only[zz];refine aK rfl ((m.b 2 rfl).full aJ aF) ?_;simp only[zz];refine aK rfl ((m.b 3 rfl).full aJ aF) ?_;simp only[zz];refine aK rfl ((m.b 5 rfl).full aJ aF) ?_;simp only[zz];refine aA (bM rfl rfl rfl) ?_;simp only[zz];refine aK rfl ((m.b 3 rfl).full aJ aF) ?_;simp only[zz];refine aK rfl ((m.b 4 rfl).full aJ aF) ?_;simp only[zz];refine aK rfl ((m.b 5 rfl).full aJ aF) ?_;simp only[zz];refine aA (bM rfl rfl rfl) ?_;simp only[zz];refine aK rfl ((m.b 4 rfl).full aJ aF) ?_;simp only[zz];refine aK rfl ((m.b 3 rfl).full aJ aF) ?_;simp only[zz];refine aK rfl ((m.b 1 rfl).full aJ aF) ?_;simp only[zz];refine aA (bM rfl rfl rfl) ?_;simp only[zz];refine aK rfl ((m.b 3 rfl).full aJ aF) ?_;simp only[zz];refine aK rfl ((m.b 2 rfl).full aJ aF) ?_;simp only[zz];refine aK rfl ((m.b 1 rfl).full aJ aF) ?_;simp only[zz];refine aA (bM rfl rfl rfl) ?_;simp only[zz];refine aK rfl ((m.b 2 rfl).full aJ aF) ?_;simp only[zz];refine aK rfl ((m.b 4 rfl).full aJ aF) ?_;simp only[zz];refine aK rfl ((m.b 1 rfl).full aJ aF) ?_;simp only[zz];refine aA (bM rfl rfl rfl) ?_;simp only[zz];refine Wc rfl rfl rfl rfl rfl rfl ?_;intro u g7 e hg hB;replace m:=m.newB e hg hB;clear e hg hB;simp only[zz];replace m:=m.own 0 rfl (n:=6) (c:=9) rfl (dZ rfl);simp only[zG] at m;refine aA (aB) (aA (aC) (aA (aC) (aG (k7 _ _ ?_))));refine wp_ret ?_;simp only[zz];try simp only[Exit.inBlock,Exit.then,if_true]
 refine kE rfl rfl rfl ?_;try simp only[zD,zE]
 exact ⟨_,rfl,m.ext,_,_,_,_,rfl,m.sel [true,true,false,false,false,false,false]⟩
theorem aby  : jG prog 11 [] (.bool true):=by
 intro w;refine ⟨aff,?_⟩;have m:=cA.refl w
 go_enter func11,ntmps11
 refine aD fun K1 k1=>wp_region_lit (aA (aC) (aG (k1 _ _ ?_)));refine aD fun K2 k2=>wp_region_lit (aA (dP rfl rfl rfl) ?_);simp only[zz];refine bF m bQ rfl ?_;clear m;intro g1 u m;simp only[zz];refine aS m 0 rfl rfl rfl aF (dZ rfl) rfl ?_;clear m;intro u m;simp only[zy,zx,bG,zF,zG,Nat.reduceAdd] at m;refine aG (k2 _ _ ?_);refine aD fun K3 k3=>wp_region_lit (aK rfl ((m.b 0 rfl).full aJ aF) ?_);simp only[zz];refine bA rfl rfl (acU (e:=(⟨3,4,1⟩ : P3)) _) ?_;rintro v u e ⟨A2,c2,A1,c1,rfl,hM⟩;replace m:=m.plus hM;clear hM e;simp only[List.cons_append,List.nil_append] at m;refine aA (aB) (aA (bE rfl rfl) (aA (bE rfl rfl) ?_));simp only[zz];refine aA (aC) (aA (aC) (aG (k3 _ _ ?_)));refine aD fun K4 k4=>wp_region_lit (aA (yR rfl) ?_);simp only[zz];refine bF m bQ rfl ?_;clear m;intro g2 u m;simp only[zz];refine aS m 0 rfl rfl rfl aF (dZ rfl) rfl ?_;clear m;intro u m;simp only[zy,zx,bG,zF,zG,Nat.reduceAdd] at m;refine aG (k4 _ _ ?_);refine aD fun K5 k5=>wp_region_lit (aA (aB) (aA (aB) ?_));simp only[zz];refine aK rfl ((m.b 3 rfl).full aJ aF) ?_;simp only[zz];refine aA (yS rfl) ?_;simp only[zz];refine sI rfl ?_;intro u g3 e hg hB;replace m:=m.newB e hg hB;clear e hg hB;simp only[zz];replace m:=m.own 0 rfl (n:=1) (c:=6) rfl (dZ rfl);simp only[zG] at m;refine eH m rfl rfl (qP (fs:=Gt ⟨3,4,1⟩) (gs:=Gu) (ms:=[((⟨3,4,1⟩ : P3),(⟨0,0,0⟩ : P3))]) _ ((m.o 2 rfl).tris (haveI:=Xu;Do _)) ((m.o 3 rfl).tris Dp) (((m.o 0 rfl)).lat qT (by decide)) (by decide) (by decide) (by decide) (fun mv h=>by obtain rfl:=List.mem_singleton.1 h;exact ⟨Xu,Ug⟩)) ?_;clear m;rintro v u m rfl;simp only[zz];rw [ag4];dsimp only;refine aA (aB) (aA (bE rfl rfl) (aA (bE rfl rfl) (aA (aC) ?_)));simp only[zz];refine aA (aC) (aG (k5 _ _ ?_));refine aD fun K6 k6=>wp_region_lit (aA (aB) (aA (aB) ?_));simp only[zz];refine aK rfl ((m.b 4 rfl).full aJ aF) ?_;simp only[zz];refine aK rfl ((m.b 1 rfl).full aJ aF) ?_;simp only[zz];refine aA (qH rfl rfl) ?_;simp only[zz];refine sI rfl ?_;intro u g4 e hg hB;replace m:=m.newB e hg hB;clear e hg hB;simp only[zz];replace m:=m.own 0 rfl (n:=1) (c:=6) rfl (dZ rfl);simp only[zG] at m;refine eH m rfl rfl (qP (fs:=Gt ⟨3,4,1⟩) (gs:=Gu) (ms:=[((⟨3,4,1⟩ : P3),(⟨0,0,30⟩ : P3))]) _ ((m.o 3 rfl).tris (haveI:=Xu;Do _)) ((m.o 4 rfl).tris Dp) (((m.o 0 rfl)).lat qT (by decide)) (by decide) (by decide) (by decide) (fun mv h=>by obtain rfl:=List.mem_singleton.1 h;exact ⟨Xu,Uh⟩)) ?_;clear m;rintro v u m rfl;simp only[zz];rw [ag5];dsimp only;refine aA (aB) (aA (bE rfl rfl) (aA (bE rfl rfl) (aA (aC) ?_)));simp only[zz];refine aA (aC) (aG (k6 _ _ ?_));refine aD fun K7 k7=>wp_region_lit (aA (aB) (aA (aB) ?_));simp only[zz];refine eH m rfl rfl (qP (fs:=Gt ⟨3,4,1⟩) (gs:=Gu) (ms:=[]) _ ((m.o 3 rfl).tris (haveI:=Xu;Do _)) ((m.o 4 rfl).tris Dp) (nS.nil _ _) (by decide) (by decide) (by decide) (fun mv h=>by cases h)) ?_;clear m;rintro v u m rfl;simp only[zz];rw [ag6];dsimp only;refine aA (aB) (aA (bE rfl rfl) (aA (bE rfl rfl) (aA (aC) ?_)));simp only[zz];refine aA (aC) (aG (k7 _ _ ?_));refine aD fun K8 k8=>wp_region_lit (aA (aB) (aA (aB) ?_));simp only[zz];refine aK rfl ((m.b 2 rfl).full aJ aF) ?_;simp only[zz];refine aA (yS rfl) ?_;simp only[zz];refine sI rfl ?_;intro u g5 e hg hB;replace m:=m.newB e hg hB;clear e hg hB;simp only[zz];replace m:=m.own 0 rfl (n:=1) (c:=6) rfl (dZ rfl);simp only[zG] at m;refine eH m rfl rfl (qP (fs:=Gt ⟨3,4,1⟩) (gs:=Gu) (ms:=[((⟨0,0,30⟩ : P3),(⟨0,0,0⟩ : P3))]) _ ((m.o 4 rfl).tris (haveI:=Xu;Do _)) ((m.o 5 rfl).tris Dp) (((m.o 0 rfl)).lat qT (by decide)) (by decide) (by decide) (by decide) (fun mv h=>by obtain rfl:=List.mem_singleton.1 h;exact ⟨Uh,Ug⟩)) ?_;clear m;rintro v u m rfl;simp only[zz];rw [ag7];dsimp only;refine aA (aB) (aA (bE rfl rfl) (aA (bE rfl rfl) (aA (aC) ?_)));simp only[zz];refine aA (aC) (aG (k8 _ _ ?_));refine aD fun K9 k9=>wp_region_lit (aA (aB) (aA (sY (m:=6) (n:=6) rfl rfl (by decide)) (aA (aB) ?_)));simp only[zz];refine bN rfl (aA (aB) (bN rfl (aA (sY (m:=0) (n:=0) rfl rfl (by decide)) (aA (fA rfl) (aA (aB) ?_)))));simp only[zz];refine bN rfl (aA (aB) (bN rfl (aA (sY (m:=32) (n:=32) rfl rfl (by decide)) (aA (fA rfl) (aA (aB) ?_)))));simp only[zz];refine bN rfl (aA (aB) (bN rfl (aA (sY (m:=32) (n:=32) rfl rfl (by decide)) (aA (fA rfl) (aA (aB) ?_)))));simp only[zz];refine bN rfl (aA (aB) (bN rfl (aA (sY (m:=32) (n:=32) rfl rfl (by decide)) (aA (fA rfl) (aA (aC) ?_)))));simp only[zz];refine aG (k9 _ _ ?_);refine wp_ret ?_;try simp only[Exit.inBlock,Exit.then,if_true]
 refine bO rfl rfl ?_;try simp only[zD,zE]
 exact ⟨_,rfl,m.ext,rfl⟩
theorem aeQ {kind bits : Int} [Iw kind] [Iw bits] {HN Hc DN Dc : Nat} {HA DA : Option Addr} {zs : List Int} {qs : List Q4} (w : World) (hZ : pH w HA HN zs) (hQ : nS q4C 4 w DA DN qs) (hI : ∀ q ∈ qs,IQ q) : eK prog 12 [.agg #[.int .i64 kind,.int .i64 bits,.slice HA HN Hc,.slice DA DN Dc]] w (fun v w'=>∃ us ms A7 c7 A8 c8 A5 c5 i,v = .tuple #[.slice A7 us.length c7,.slice A5 (fN kind bits zs).length c5,.slice A8 ms.length c8] ∧ cA w w' [oI 50 6 A8 ms.length c8 (ms.flatMap bU),oI 53 9 A7 us.length c7 (us.flatMap aX),oI 53 9 A5 (fN kind bits zs).length c5 ((fN kind bits zs).flatMap aX)] ∧ i ≤ 12 ∧ wR (aQ (fN kind bits zs)) (fN kind bits zs) i us ms):=by
 refine ⟨afg,?_⟩;have m:=cA.refl w;have hl:=Nb (kind:=kind) (bits:=bits) (zs:=zs)
 go_enter func12,ntmps12
 refine aD fun K1 k1=>wp_region_lit (eP m rfl ?_);clear m;intro g1 u m;refine aA (aC) (aA (aC) (aA (aC) ?_));simp only[zz];refine aG (k1 _ _ ?_);refine aD fun K2 k2=>wp_region_lit (aA (aN (c:=0) Im rfl bD rfl rfl) ?_);simp only[zz];refine aK rfl ((m.b 0 rfl).lies1 bT rfl) ?_;simp only[zz];refine aA (aN (c:=0) Im rfl bD rfl rfl) ?_;simp only[zz];refine aK rfl ((m.b 0 rfl).lies1 bT rfl) ?_;simp only[zz];refine aA (aN (c:=0) Im rfl aaf rfl rfl) ?_;simp only[zz];refine aK rfl ((m.b 0 rfl).lies1 ad6 rfl) ?_;simp only[zz];refine bA rfl rfl (aeO (kind:=kind) (bits:=bits) _ (hZ.ext m.ext)) ?_;rintro v u e ⟨A5,cap5,_,rfl,rfl,hN⟩;replace m:=m.newO e hN;clear e hN;refine aA (aC) (aG (k2 _ _ ?_));refine aD fun K3 k3=>wp_region_lit (aA (aB) (aA (aN (c:=0) Im rfl aag rfl rfl) ?_));simp only[zz];refine aK rfl ((m.b 1 rfl).lies1 ad7 rfl) ?_;simp only[zz];refine bA rfl rfl (Xt _ ((m.o 0 rfl).tris (rT (abw Na))) (by omega) (hQ.ext m.ext) hI) ?_;rintro v u e ⟨us,ms,A7,c7,A8,c8,i,rfl,hM,hi,hdv⟩;replace m:=m.plus hM;clear hM e;simp only[List.cons_append,List.nil_append] at m;refine aA (aB) (aA (bE rfl rfl) (aA (bE rfl rfl) ?_));simp only[zz];refine aA (aC) (aA (aC) (aG (k3 _ _ ?_)));refine aD fun K4 k4=>wp_region_lit (aA (aB) (aA (aB) ?_));simp only[zz];refine aA (aB) (aA (aC) (aA (aC) (aA (aC) ?_)));simp only[zz];refine aG (k4 _ _ ?_);refine wp_ret ?_;try simp only[Exit.inBlock,Exit.then,if_true]
 refine ahc rfl rfl rfl rfl ?_;try simp only[zD,zE]
 exact ⟨_,rfl,m.ext,us,ms,_,_,_,_,_,_,i,rfl,m.sel [true,true,true,false],hi,hdv⟩
end Go.Proofs.YtfohfflkhpfjeaaGreatDoor
namespace Go.Lith
open Go.RowKit
/-! ### Two places of a list -/
theorem Js {α : Type} : ∀ (us : List α) (k j : Nat) (t o : α),k ≠ j → us[k]? = some t → us[j]? = some o → ∃ R,us.Perm (t :: o :: R) ∧ ∀ x y,((us.set k x).set j y).Perm (x :: y :: R)
 | [],_,_,_,_,_,h,_=>by cases h
 | v :: vs,0,0,_,_,h,_,_=>absurd rfl h
 | v :: vs,0,j + 1,t,o,_,ht,ho=>by
  cases ht;have ho' : vs[j]? = some o:=ho;exact ⟨vs.eraseIdx j,(Ai ho').cons _,fun x y=>by rw [List.set_cons_zero,List.set_cons_succ];exact (Aj ho').cons _⟩
 | v :: vs,k + 1,0,t,o,_,ht,ho=>by
  cases ho;have ht' : vs[k]? = some t:=ht;exact ⟨vs.eraseIdx k,((Ai ht').cons _).trans (List.Perm.swap ..),fun x y=>by rw [List.set_cons_succ,List.set_cons_zero];exact ((Aj ht').cons _).trans (List.Perm.swap ..)⟩
 | v :: vs,k + 1,j + 1,t,o,h,ht,ho=>by
  obtain ⟨R,h1,h2⟩:=Js vs k j t o (fun e=>h (by rw [e])) ht ho;refine ⟨v :: R,(h1.cons v).trans ?_,fun x y=>?_⟩
  · exact (List.Perm.swap ..).trans ((List.Perm.swap ..).cons _)
  · rw [List.set_cons_succ,List.set_cons_succ]
    exact ((h2 x y).cons v).trans ((List.Perm.swap ..).trans ((List.Perm.swap ..).cons _))
/-! ### A step -/
theorem Gv (t : T3) {c : Nat} (hc : c < 3) : uJ ⟨t.cor c,t.cor ((c + 1) % 3),t.cor ((c + 2) % 3)⟩ t:=by
 obtain rfl | rfl | rfl : c = 0 ∨ c = 1 ∨ c = 2:=by omega
 · exact .inl rfl
 · exact .inr (.inr rfl)
 · exact .inr (.inl rfl)
theorem abz {o : T3} {p q x : P3} (h : o.fnd p q = some x) : uJ ⟨p,q,x⟩ o:=by
 unfold T3.fnd at h;split at h
 · rename_i k;cases h;obtain ⟨rfl,rfl⟩:=k;exact .inl rfl
 · split at h
   · rename_i k;cases h;obtain ⟨rfl,rfl⟩:=k;exact .inr (.inr rfl)
   · split at h
     · rename_i k;cases h;obtain ⟨rfl,rfl⟩:=k;exact .inr (.inl rfl)
     · cases h
theorem aeR {o : T3} {a b x : P3} (ht : uJ ⟨b,a,x⟩ o) (hd : mM o = false) : uD o a b = x:=by
 obtain ⟨h1,h2,h3⟩:=Lf hd;rcases ht with rfl | rfl | rfl
 · simp only[uD,T3.cor] at h1 h2 h3 ⊢
   have e2 : gC (gC (gC b b a b) a a b) x a b = x:=if_pos ⟨fun e=>h2 e.symm,h3⟩;exact e2
 · have e2 : uD ⟨a,x,b⟩ a b = x:=by
    have e0 : gC a a a b = a:=by unfold gC;split <;> rfl
    have e1 : gC a x a b = x:=if_pos ⟨fun e=>h1 e.symm,h2⟩;have e3 : gC x b a b = x:=if_neg fun k=>k.2 rfl;show gC (gC (gC a a a b) x a b) b a b = x
    rw [e0,e1,e3]
   exact e2
 · have e2 : uD ⟨x,b,a⟩ a b = x:=by
    have e0 : gC x x a b = x:=by unfold gC;split <;> rfl
    have e1 : gC x b a b = x:=if_neg fun k=>k.2 rfl;have e3 : gC x a a b = x:=if_neg fun k=>k.1 rfl;show gC (gC (gC x x a b) b a b) a a b = x
    rw [e0,e1,e3]
   exact e2
theorem Xv {us : List T3} {t o : T3} {k j : Nat} {a b d x : P3} (hd : sO us) (ht : us[k]? = some t) (ho : us[j]? = some o) (h1 : uJ ⟨a,b,d⟩ t) (h2 : uJ ⟨b,a,x⟩ o) : k ≠ j:=fun e=>by
 subst e;obtain rfl:=Option.some.inj (ht.symm.trans ho);obtain ⟨g1,g2,g3⟩:=Lf (hd t (List.mem_of_getElem? ht));have e1:=(qQ h1).2 (show (a,b) ∈ rR ⟨a,b,d⟩ by simp [rR]);have e2:=(qQ h2).2 (show (b,a) ∈ rR ⟨b,a,x⟩ by simp [rR]);simp only[rR,List.mem_cons,List.not_mem_nil,or_false,Prod.mk.injEq] at e1 e2;rcases e1 with ⟨rfl,rfl⟩ | ⟨rfl,rfl⟩ | ⟨rfl,rfl⟩ <;> rcases e2 with ⟨k1,k2⟩ | ⟨k1,k2⟩ | ⟨k1,k2⟩ <;> first | exact g1 k1 | exact g1 k1.symm | exact g1 k2 | exact g1 k2.symm | exact g2 k1 | exact g2 k1.symm | exact g2 k2 | exact g2 k2.symm | exact g3 k1 | exact g3 k1.symm | exact g3 k2 | exact g3 k2.symm
theorem wR.divi {rim : List E3} {l us : List T3} {i : Nat} {ms : List Mv} (h : wR rim l i us ms) (hd : sO l) (hn : (aV l).Nodup) (hp : Ak l) (hx : ∀ x ∈ cL l,x.x < 100) : vU l us ms (100 + 50 * (i : Int)):=by
 induction h with
 | nil=>exact vU.zero hd hn hp (by simpa using hx)
 | @step i us us' ms ms' h s ih =>
  cases s with
  | tri k t c p ht hc hpt =>
   refine ih.tri (B':=100 + 50 * ((i + 1 : Nat) : Int)) hpt.1 (by have:=hpt.2.1;omega) (Gv t hc) (Ai ht) ?_;exact ((Aj ht).append_right _).trans ((List.perm_append_comm).trans (by
    show ([_,_] ++ _ :: _ : List T3).Perm _
    exact List.perm_middle (l₁:=[_,_])))
  | edge k j t o x c p ht hc ho hxx hb hpt =>
   have hod:=ih.dg o (List.mem_of_getElem? ho);have hto:=abz hxx;have hkj:=Xv ih.dg ht ho (Gv t hc) hto;obtain ⟨R,h1,h2⟩:=Js us k j t o hkj ht ho;rw [aeR hto hod];refine ih.edge (B':=100 + 50 * ((i + 1 : Nat) : Int)) (R:=R) hpt.1 (by have:=hpt.2.1;omega) (Gv t hc) hto h1 ?_;refine ((h2 _ _).append_right _).trans ?_;show (_ :: _ :: (R ++ [_,_]) : List T3).Perm _
   exact ((List.perm_append_comm).cons _).cons _
/-! ### The surfaces -/
theorem wO {α : Type} {f : α → List T3} {l : List α} (h : ∀ x ∈ l,Ho (f x)) : Ho (l.flatMap f):=fun t ht=>by
 obtain ⟨x,hx,ht⟩:=List.mem_flatMap.1 ht;obtain ⟨a,b,c,d,hbd,⟨e,hm⟩ | ⟨e,hm⟩⟩:=h x hx t ht
 · exact ⟨a,b,c,d,hbd,.inl ⟨e,List.mem_flatMap.2 ⟨x,hx,hm⟩⟩⟩
 · exact ⟨a,b,c,d,hbd,.inr ⟨e,List.mem_flatMap.2 ⟨x,hx,hm⟩⟩⟩
theorem Pt : Ho []:=fun t h=>by cases h
theorem Jt {a b c d : P3} (h : b ≠ d) : Ho (nL a b c d):=fun t ht=>by
 simp only[nL,List.mem_cons,List.not_mem_nil,or_false] at ht;rcases ht with rfl | rfl
 · exact ⟨a,b,c,d,h,.inl ⟨rfl,by simp [nL]⟩⟩
 · exact ⟨a,b,c,d,h,.inr ⟨rfl,by simp [nL]⟩⟩
theorem abA {p : P3} {m n : Nat} (h : m < 8) (k : n < 8) (hmn : m ≠ n) : cU p 8 m ≠ cU p 8 n:=fun e=>by
 have e1:=congrArg P3.x e;have e2:=congrArg P3.y e;have e3:=congrArg P3.z e;simp only[cU] at e1 e2 e3;omega
theorem Gw {n f : Nat} (h : f < 6) : ∃ i j k m,j < 8 ∧ m < 8 ∧ j ≠ m ∧ i < 8 ∧ k < 8 ∧ uG n f = nL (cU (vP n) 8 i) (cU (vP n) 8 j) (cU (vP n) 8 k) (cU (vP n) 8 m):=by
 rcases yK h with rfl | rfl | rfl | rfl | rfl | rfl
 · exact ⟨0,2,3,1,by decide,by decide,by decide,by decide,by decide,rfl⟩
 · exact ⟨4,5,7,6,by decide,by decide,by decide,by decide,by decide,rfl⟩
 · exact ⟨0,1,5,4,by decide,by decide,by decide,by decide,by decide,rfl⟩
 · exact ⟨2,6,7,3,by decide,by decide,by decide,by decide,by decide,rfl⟩
 · exact ⟨0,4,6,2,by decide,by decide,by decide,by decide,by decide,rfl⟩
 · exact ⟨1,3,7,5,by decide,by decide,by decide,by decide,by decide,rfl⟩
theorem abB (b : Nat) : Ho (Qs b):=wO fun n _=>by
 show Ho (if Aw b n = true then oB b n 6 else [])
 split
 · refine wO fun f hf=>?_
   show Ho (if wV b n f = true then uG n f else [])
   split
   · obtain ⟨i,j,k,m,hj,hm,hjm,_,_,e⟩:=Gw (n:=n) (List.mem_range.1 hf)
     rw [e];exact Jt (abA hj hm hjm)
   · exact Pt
 · exact Pt
theorem Sp (zs : List Int) (n : Nat) : Ho (xI 10 zs n):=wO fun y _=>wO fun x _=>Jt fun e=>by
 have e1:=congrArg P3.x e;simp only[lQ] at e1;omega
theorem Xw (kind bits : Int) (zs : List Int) : Ho (fN kind bits zs):=by
 unfold fN;split
 · exact abB _
 · exact Sp _ _
def adj (t : T3) : Prop:=t.a.x < 100 ∧ t.b.x < 100 ∧ t.c.x < 100
theorem Ui {a b c d : P3} (ha : a.x < 100) (hb : b.x < 100) (hc : c.x < 100) (hd : d.x < 100) : ∀ t ∈ nL a b c d,adj t:=fun t ht=>by
 simp only[nL,List.mem_cons,List.not_mem_nil,or_false] at ht;rcases ht with rfl | rfl
 · exact ⟨ha,hb,hc⟩
 · exact ⟨ha,hc,hd⟩
theorem An {n i : Nat} : (cU (vP n) 8 i).x < 100:=by
 simp only[cU,vP];omega
theorem acV (kind bits : Int) (zs : List Int) : ∀ t ∈ fN kind bits zs,adj t:=fun t ht=>by
 unfold fN at ht;split at ht
 · obtain ⟨n,_,h⟩:=List.mem_flatMap.1 ht
   split at h
   · obtain ⟨f,hf,h⟩:=List.mem_flatMap.1 h
     split at h
     · obtain ⟨i,j,k,m,_,_,_,_,_,e⟩:=Gw (n:=n) (List.mem_range.1 hf)
       rw [e] at h;exact Ui An An An An t h
     · cases h
   · cases h
 · obtain ⟨y,hy,h⟩:=List.mem_flatMap.1 ht
   obtain ⟨x,hx,h⟩:=List.mem_flatMap.1 h;have h1:=List.mem_range.1 hx;have h2:=nK (n:=kind.tdiv 3) (m:=6) (by decide);exact Ui (by simp only[lQ];omega) (by simp only[lQ];omega) (by simp only[lQ];omega) (by simp only[lQ];omega) t h
theorem aeS (kind bits : Int) (zs : List Int) : ∀ x ∈ cL (fN kind bits zs),x.x < 100:=fun x hx=>by
 obtain ⟨t,ht,hx⟩:=kU.1 hx;obtain ⟨h1,h2,h3⟩:=acV kind bits zs t ht;rcases hx with rfl | rfl | rfl
 · exact h1
 · exact h2
 · exact h3
theorem Sq {rim : List E3} {kind bits : Int} {zs : List Int} {us : List T3} {i : Nat} {ms : List Mv} (h : wR rim (fN kind bits zs) i us ms) (hc : dH true (fN kind bits zs) = 0) (hl : fN kind bits zs ≠ []) :
 (gB us ((fN kind bits zs).map uH) ms).2 ≠ 0 ∧ ∀ k t,(fN kind bits zs)[k]? = some t → (gB us ((fN kind bits zs).eraseIdx k) ms).2 ≠ 0:=by
 obtain ⟨hd,hn⟩:=qO hc;have hp:=So (Xw kind bits zs) hn;have hi:=h.divi hd hn hp (aeS kind bits zs);exact ⟨Xr hi hp hl,fun k t ht=>acQ hi hd hn ht⟩
end Go.Lith
namespace Go.Lith
open Go.RowKit Go.ChangeShapes
variable {H : Type} {enc : TypeId × Value → H} {P : Program} {w : World} {base : Nat} {spare : Nat → Bool} {held : Bool}
theorem ahq {zs : List Int} (h : zs.length = 4) : ∃ a b c d,zs = [a,b,c,d]:=by
 match zs,h with
 | [a,b,c,d],_=>exact ⟨a,b,c,d,rfl⟩
theorem Sr {n : Nat} {t e : TypeId} {fuel : Nat} {cs : List Value} {x : DataW H × List MemPlace} (hu : P.underlying t = some (.slice e)) (hi : nI P n e = true) (hc : P.cellsOf e = 4) (h : DataW.trod enc P w base spare held fuel t cs = some x) :
 ∃ (A : Option Addr) (len cap : Nat) (qs : List Q4),cs = [.slice A len cap] ∧ len ≤ cap ∧ cap ≤ maxLen ∧ nS q4C 4 w A len qs ∧ ∀ q ∈ qs,IQ q:=by
 obtain ⟨A,len,cap,rfl,h1,h2,h3,h4⟩:=If hu hi hc h;obtain ⟨qs,h5,h6⟩:=uX (p:=fun i (q : Q4)=>IQ q ∧ ∃ a,A = some a ∧ jK w (a.add (i * 4)) (q4C q)) len (fun i hi=>by
  obtain ⟨a,zs,rfl,_,hr,hl,hz⟩:=h4 i hi;obtain ⟨x,y,z,u,rfl⟩:=ahq hl;exact ⟨⟨x,y,z,u⟩,⟨hz _ (by simp),hz _ (by simp),hz _ (by simp),hz _ (by simp)⟩,a,rfl,hr⟩)
 refine ⟨A,len,cap,qs,rfl,h1,h2,⟨h5,fun i p hp=>(h6 i p hp).2⟩,fun q hq=>?_⟩;obtain ⟨i,hi,rfl⟩:=List.getElem_of_mem hq;exact (h6 i _ (List.getElem?_eq_getElem hi)).1
theorem Pu {r : Reach} {b0 n : Nat} {t tI tH tM tT : TypeId} {fs : Array Field} {v : Value} {d : DataW H} {p : List MemPlace} (hs : P.underlying t = some (.struct fs)) (hf : fs.map (fun f=>(f.type,f.offset)) = #[(tI,0),(tI,1),(tH,2),(tM,3)]) (ct : P.cellsOf t = 4)
 (hI : nI P n tI = true) (cI : P.cellsOf tI = 1) (hH : P.underlying tH = some (.slice tI)) (cH : P.cellsOf tH = 1) (hM : P.underlying tM = some (.slice tT)) (cM : P.cellsOf tM = 1) (hT : nI P n tT = true) (cT : P.cellsOf tT = 4)
 (hv : Value.okWide P w r b0 t v) (h : DataW.Trod enc P w base spare held t v d p) :
 ∃ (kind bits : Int) (HA DA : Option Addr) (HN Hc DN Dc : Nat) (zs : List Int) (qs : List Q4),v = .agg #[.int .i64 kind,.int .i64 bits,.slice HA HN Hc,.slice DA DN Dc] ∧
  Iw kind ∧ Iw bits ∧ pH w HA HN zs ∧ nS q4C 4 w DA DN qs ∧ ∀ q ∈ qs,IQ q:=by
 obtain ⟨fuel,hfu⟩:=h;unfold Value.okWide at hv;rw [hs] at hv;obtain ⟨cs,rfl,hz,_⟩:=hv;obtain ⟨xs,m,_,_,hl,hxl,hx⟩:=DataW.trod_struct hs hfu;have field : ∀ (i : Nat) (ty : TypeId) (off : Nat),(#[(tI,0),(tI,1),(tH,2),(tM,3)] : Array (TypeId × Nat))[i]? = some (ty,off) → ∃ y,DataW.trod enc P w base spare held m ty ((cs.toList.drop off).take (P.cellsOf ty)) = some y:=fun i ty off hi=>by
  rw [← hf,Array.getElem?_map] at hi;cases hq : fs[i]? with
  | none=>rw [hq] at hi;cases hi
  | some f =>
   rw [hq] at hi;simp only[Option.map_some,Option.some.injEq,Prod.mk.injEq] at hi;obtain ⟨rfl,rfl⟩:=hi;have hi' : i < fs.size:=(Array.getElem?_eq_some_iff.1 hq).1;exact ⟨xs[i]'(by omega),(hx i f hq).trans (List.getElem?_eq_getElem (by omega))⟩
 rw [ct] at hz;obtain ⟨l⟩:=cs
 match l,hz with
 | [c0,c1,c2,c3],_ =>
  obtain ⟨y0,h0⟩:=field 0 tI 0 rfl;obtain ⟨y1,h1⟩:=field 1 tI 1 rfl;obtain ⟨y2,h2⟩:=field 2 tH 2 rfl;obtain ⟨y3,h3⟩:=field 3 tM 3 rfl;simp only[cI,cH,cM] at h0 h1 h2 h3;have e0:=(nJ n tI m [c0] _ hI h0).2;have e1:=(nJ n tI m [c1] _ hI h1).2;obtain ⟨kind,rfl,k0⟩:=e0 c0 (by simp);obtain ⟨bits,rfl,k1⟩:=e1 c1 (by simp);obtain ⟨HA,HN,Hc,zs,hc2,_,_,_,hZ⟩:=Qr (n:=n) (cs:=[c2]) hH hI cI h2;obtain ⟨DA,DN,Dc,qs,hc3,_,_,hQ,hIQ⟩:=Sr (n:=n) (cs:=[c3]) hM hT cT h3;simp only[List.cons.injEq,and_true] at hc2 hc3;subst hc2;subst hc3;exact ⟨kind,bits,HA,DA,HN,Hc,DN,Dc,zs,qs,rfl,⟨k0⟩,⟨k1⟩,hZ,hQ,hIQ⟩
end Go.Lith
