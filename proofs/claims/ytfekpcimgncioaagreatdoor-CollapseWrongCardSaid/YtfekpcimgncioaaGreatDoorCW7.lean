/-
 Texts of one claim, laid together: K14, K15, K17, Tail, K18, Nest, Nest2, K19, K20, K21, Qd.
-/
import Derived.Test.YtfekpcimgncioaaGreatDoorCW6
set_option maxHeartbeats 8000000
set_option linter.unusedSimpArgs false
set_option linter.unusedVariables false
set_option linter.unusedSectionVars false
namespace Go.Proofs.YtfekpcimgncioaaGreatDoor
open Go.Proofs.Tryz
open Go.RowKit Go.Lith
set_option maxRecDepth 100000
attribute [local irreducible] wpList wpQuiet dB bL cE Code.wp
instance {t : T3} {k : Nat} [h : IT t] : I3 (t.cor k):=by
 unfold T3.cor;split
 · exact h.a
 · split
   · exact h.b
   · exact h.c
def acE : List Nat → Int
 | []=>0
 | [_]=>1
 | [_,_]=>2
 | _=>3
def l3 (f : Nat → Int) : List Nat → List Value
 | []=>[.int .i64 0,.int .i64 0,.int .i64 0]
 | [a]=>[.int .i64 (f a),.int .i64 0,.int .i64 0]
 | [a,b]=>[.int .i64 (f a),.int .i64 (f b),.int .i64 0]
 | a :: b :: c :: _=>[.int .i64 (f a),.int .i64 (f b),.int .i64 (f c)]
theorem Ns (u : P3) : yF u < 3:=by
 unfold yF
 repeat' split
 all_goals omega
def Hu (p q : P3) (t : T3) : Prop:=yN t.a t.b t.c p = 0 ∧ yN t.a t.b t.c q = 0
instance (p q : P3) (t : T3) : Decidable (Hu p q t):=inferInstanceAs (Decidable (_ ∧ _))
def vK (p : P3) (t : T3) (k : Nat) : P3:=nR (t.cor k) (t.cor ((k + 1) % 3)) p
def rC (p q : P3) (t : T3) (k : Nat) : Int:=if Hu p q t then cA (lA (vK p t k) (yF t.normal)) else cA (yN p q (t.cor k) (t.cor ((k + 1) % 3)))
theorem Bi {p q : P3} {t : T3} {k : Nat} (h : Hu p q t) : rC p q t k = cA (lA (vK p t k) (yF t.normal)):=if_pos h
theorem Bj {p q : P3} {t : T3} {k : Nat} (h : ¬ Hu p q t) : rC p q t k = cA (yN p q (t.cor k) (t.cor ((k + 1) % 3))):=if_neg h
theorem tG {p q : P3} {t : T3} (h : (decide (cA (yN t.a t.b t.c p) ≠ 0) || decide (cA (yN t.a t.b t.c q) ≠ 0)) = false) : Hu p q t:=by
 simp only[Bool.or_eq_false_iff,decide_eq_false_iff_not,ne_eq,Decidable.not_not,fG] at h;exact h
theorem Dd {p q : P3} {t : T3} (h : (decide (cA (yN t.a t.b t.c p) ≠ 0) || decide (cA (yN t.a t.b t.c q) ≠ 0)) = true) : ¬ Hu p q t:=by
 simp only[fG,Bool.or_eq_true,decide_eq_true_eq,ne_eq] at h;exact fun k=>h.elim (· k.1) (· k.2)
theorem Rn {a b c : Int} : Eg (cA a) (cA b) (cA c) ↔ Eg a b c:=by
 simp only[Eg,Pa,aaU]
theorem Hv {a b : Int} : 0 < cA a * cA b ↔ 0 < a * b:=by
 have:=acD (a:=a) (b:=b);omega
theorem aeE {p q : P3} {t : T3} (hf : t.flat) : iR p q (qK (qK t.a t.b) t.c) (tV (tV t.a t.b) t.c) = gR p q t:=by
 unfold gR;rw [show nR t.a t.b t.c = t.normal from rfl];rw [if_neg (afg hf)]
theorem ah4 {p q : P3} {t : T3} (hf : ¬ t.flat) (h : 0 < cA (yN t.a t.b t.c p) * cA (yN t.a t.b t.c q)) : false = gR p q t:=by
 unfold gR;rw [show nR t.a t.b t.c = t.normal from rfl];rw [if_pos (vJ hf).2,if_pos (Hv.1 h)]
theorem ajY {p q : P3} {t : T3} {k : Nat} (hf : ¬ t.flat) (h : Hu p q t) (hk : k < 3) (ho : iR p q (t.cor k) (t.cor ((k + 1) % 3)) = true) : true = gR p q t:=by
 unfold gR;rw [show nR t.a t.b t.c = t.normal from rfl];rw [if_pos (vJ hf).2,if_neg (by rw [h.1];simp),if_pos (show yN t.a t.b t.c p = 0 ∧ yN t.a t.b t.c q = 0 from h)];have e : k = 0 ∨ k = 1 ∨ k = 2:=by omega
 rcases e with rfl | rfl | rfl
 · rw [show iR p q t.a t.b = true from ho];rfl
 · rw [show iR p q t.b t.c = true from ho,Bool.or_true];rfl
 · rw [show iR p q t.c t.a = true from ho,Bool.or_true];rfl
theorem ah5 {p q : P3} {t : T3} (hf : ¬ t.flat) (hg : ¬ 0 < cA (yN t.a t.b t.c p) * cA (yN t.a t.b t.c q)) (h0 : Hu p q t → ∀ k ∈ [0,1,2],iR p q (t.cor k) (t.cor ((k + 1) % 3)) = false) : decide (Eg (rC p q t 0) (rC p q t 1) (rC p q t 2)) = gR p q t:=by
 unfold gR;rw [show nR t.a t.b t.c = t.normal from rfl];rw [if_pos (vJ hf).2,if_neg (fun h=>hg (Hv.2 h))];rw [Bool.eq_iff_iff,decide_eq_true_eq];by_cases h : Hu p q t
 · rw [if_pos (show yN t.a t.b t.c p = 0 ∧ yN t.a t.b t.c q = 0 from h),show iR p q t.a t.b = false from h0 h 0 (by decide),show iR p q t.b t.c = false from h0 h 1 (by decide),show iR p q t.c t.a = false from h0 h 2 (by decide),Bi h,Bi h,Bi h,Rn]
   simp only[Bool.false_or,Bool.or_false,decide_eq_true_eq];rw [(vJ hf).1];exact Iff.rfl
 · rw [if_neg (show ¬ (yN t.a t.b t.c p = 0 ∧ yN t.a t.b t.c q = 0) from h),Bj h,Bj h,Bj h,Rn]
   unfold ajD;simp only[Bool.or_eq_true,Bool.and_eq_true,decide_eq_true_eq,and_assoc];exact Iff.rfl
theorem Nt {p q : P3} {t : T3} [I3 p] [I3 q] [IT t] : eQ prog 242 [pt p,pt q,tr t] (.bool (gR p q t)):=by
 intro w;refine ⟨agS,?_⟩;have m:=Mem.refl w;refine (callsIn_wide (n:=4)).1 (callsIn_of_wp_marks func242 rfl trivial ?_ rfl);simp only[ntmps242,List.size_toArray,List.length_cons,List.length_nil,Nat.reduceAdd,Nat.reduceSub,Array.replicate_succ,Array.replicate_zero,List.push_toArray,List.append_toArray,List.nil_append,List.cons_append];refine wpIn_wide.2 ?_;refine aD fun K1 k1=>wp_region_lit (cB m rfl ?_);clear m;intro g1 u m;simp only[zz];refine cB m rfl ?_;clear m;intro g2 u m;simp only[zz];refine cB m rfl ?_;clear m;intro g3 u m;simp only[zz];refine bA m kY rfl ?_;clear m;intro g4 u m;refine aF (k1 _ _ ?_);try clear k1 K1
 refine aD fun K2 k2=>wp_region_lit (aA (aH bD aC rfl rfl (by decide) (by decide) rfl) ?_);simp only[zz];refine aJ rfl ((m.b 1 rfl).lies aI aC rfl rfl) ?_;simp only[zz,zy,Nat.zero_add,Nat.reduceAdd,Nat.reduceMul,Int.reduceToNat];refine aA (aH bD aC rfl rfl (by decide) (by decide) rfl) ?_;simp only[zz];refine aJ rfl ((m.b 1 rfl).lies aI aC rfl rfl) ?_;simp only[zz,zy,Nat.zero_add,Nat.reduceAdd,Nat.reduceMul,Int.reduceToNat];refine aA (aH bD aC rfl rfl (by decide) (by decide) rfl) ?_;simp only[zz];refine aJ rfl ((m.b 1 rfl).lies aI aC rfl rfl) ?_;simp only[zz,zy,Nat.zero_add,Nat.reduceAdd,Nat.reduceMul,Int.reduceToNat];refine aA (aH bD aC rfl rfl (by decide) (by decide) rfl) ?_;simp only[zz];refine aJ rfl ((m.b 1 rfl).lies aI aC rfl rfl) ?_;simp only[zz,zy,Nat.zero_add,Nat.reduceAdd,Nat.reduceMul,Int.reduceToNat];refine dH m rfl rfl (mS (a:=t.a) (b:=t.b) (c:=t.a) (d:=t.c)) ?_;clear m;intro u m;simp only[zz];refine dH m rfl rfl (Xd (u:=t.normal)) ?_;clear m;intro u m;simp only[zz];refine bA m iP rfl ?_;clear m;intro g5 u m;simp only[zz];refine cH m 0 rfl rfl rfl aO (cU rfl) ⟨rfl,rfl⟩ ?_;clear m;intro u m;simp only[zz,zy,zx,bB,Nat.reduceAdd] at m;refine aF (k2 _ _ ?_);try clear k2 K2
 refine aD fun K3 k3=>aD fun K4 k4=>?_;by_cases hf : t.flat
 · skip
   rw [acC hf] at m;refine wp_region_lit (aJ rfl ((m.b 0 rfl).lies1 aX rfl) ?_);simp only[zz];refine aA (bF rfl rfl (by omega)) (aF (k4 _ _ ?_));try clear k4 K4
   refine bK rfl (aD fun K5 k5=>wp_region_lit (aA (aH bD aC rfl rfl (by decide) (by decide) rfl) ?_));simp only[zz];refine aJ rfl ((m.b 2 rfl).lies aI aC rfl rfl) ?_;simp only[zz,zy,Nat.zero_add,Nat.reduceAdd,Nat.reduceMul,Int.reduceToNat];refine aA (aH bD aC rfl rfl (by decide) (by decide) rfl) ?_;simp only[zz];refine aJ rfl ((m.b 2 rfl).lies aI aC rfl rfl) ?_;simp only[zz,zy,Nat.zero_add,Nat.reduceAdd,Nat.reduceMul,Int.reduceToNat];refine dH m rfl rfl (sB (p:=t.a) (q:=t.b)) ?_;clear m;intro u m;refine aA (aB) (aA (bC rfl rfl) (aA (bC rfl rfl) ?_));simp only[zz];refine bA m bO rfl ?_;clear m;intro g6 u m;simp only[zz];refine bA m bO rfl ?_;clear m;intro g7 u m;simp only[zz];refine aT m 1 rfl rfl rfl aC (cU rfl) rfl ?_;clear m;intro u m;simp only[zy,zx,bB,zF,zG,Nat.reduceAdd] at m;refine aT m 0 rfl rfl rfl aC (cU rfl) rfl ?_;clear m;intro u m;simp only[zy,zx,bB,zF,zG,Nat.reduceAdd] at m;refine aF (k5 _ _ ?_);try clear k5 K5
   refine aD fun K6 k6=>wp_region_lit (aJ rfl ((m.b 1 rfl).full aI aC) ?_);simp only[zz];refine aA (aH bD aC rfl rfl (by decide) (by decide) rfl) ?_;simp only[zz];refine aJ rfl ((m.b 4 rfl).lies aI aC rfl rfl) ?_;simp only[zz,zy,Nat.zero_add,Nat.reduceAdd,Nat.reduceMul,Int.reduceToNat];refine dH m rfl rfl (sB (p:=qK t.a t.b) (q:=t.c)) ?_;clear m;intro u m;refine aA (aB) (aA (bC rfl rfl) (aA (bC rfl rfl) ?_));simp only[zz];refine bA m bO rfl ?_;clear m;intro g8 u m;simp only[zz];refine bA m bO rfl ?_;clear m;intro g9 u m;simp only[zz];refine aT m 1 rfl rfl rfl aC (cU rfl) rfl ?_;clear m;intro u m;simp only[zy,zx,bB,zF,zG,Nat.reduceAdd] at m;refine aT m 0 rfl rfl rfl aC (cU rfl) rfl ?_;clear m;intro u m;simp only[zy,zx,bB,zF,zG,Nat.reduceAdd] at m;refine aF (k6 _ _ ?_);try clear k6 K6
   refine aD fun K7 k7=>wp_region_lit (aJ rfl ((m.b 2 rfl).full aI aC) ?_);simp only[zz];refine aA (aH bD aC rfl rfl (by decide) (by decide) rfl) ?_;simp only[zz];refine aJ rfl ((m.b 6 rfl).lies aI aC rfl rfl) ?_;simp only[zz,zy,Nat.zero_add,Nat.reduceAdd,Nat.reduceMul,Int.reduceToNat];refine dH m rfl rfl (sB (p:=tV t.a t.b) (q:=t.c)) ?_;clear m;intro u m;refine aA (aB) (aA (bC rfl rfl) (aA (bC rfl rfl) ?_));simp only[zz];refine bA m bO rfl ?_;clear m;intro g10 u m;simp only[zz];refine bA m bO rfl ?_;clear m;intro g11 u m;simp only[zz];refine aT m 1 rfl rfl rfl aC (cU rfl) rfl ?_;clear m;intro u m;simp only[zy,zx,bB,zF,zG,Nat.reduceAdd] at m;refine aT m 0 rfl rfl rfl aC (cU rfl) rfl ?_;clear m;intro u m;simp only[zy,zx,bB,zF,zG,Nat.reduceAdd] at m;refine aF (k7 _ _ ?_);try clear k7 K7
   refine aD fun K8 k8=>wp_region_lit (aJ rfl ((m.b 10 rfl).full aI aC) ?_);simp only[zz];refine aJ rfl ((m.b 9 rfl).full aI aC) ?_;simp only[zz];refine aJ rfl ((m.b 3 rfl).full aI aC) ?_;simp only[zz];refine aJ rfl ((m.b 0 rfl).full aI aC) ?_;simp only[zz];refine dH m rfl rfl (Ff (p:=p) (q:=q) (r:=qK (qK t.a t.b) t.c) (s:=tV (tV t.a t.b) t.c)) ?_;clear m;intro u m;simp only[zz];refine cH m 7 rfl rfl rfl gY (cU rfl) ⟨rfl,rfl⟩ ?_;clear m;intro u m;simp only[zz,zy,zx,bB,Nat.reduceAdd] at m;refine aF (k8 _ _ ?_);try clear k8 K8
   refine wp_ret ?_;try simp only[Exit.inBlock,Exit.then,if_true]
   refine aff ?_;refine bE rfl ⟨_,rfl,((m.b 7 rfl).lies1 mY rfl)⟩ ?_;try simp only[zD,zE]
   exact ⟨_,rfl,m.ext,by rw [aeE hf]⟩
 · skip
   rw [acB hf] at m;refine wp_region_lit (aJ rfl ((m.b 0 rfl).lies1 aX rfl) ?_);simp only[zz];refine aA (dM rfl rfl (by omega)) (aF (k4 _ _ ?_));try clear k4 K4
   refine gA rfl (wp_skip (k3 _ _ ?_));try clear k3 K3
   refine aD fun K9 k9=>?_;simp only[zz];refine tM 18 [0,1,2,3,4,5,6,7,8,9,10,11,12,13,14,15] [⟨16,14,3,[.int .i64 0]⟩,⟨17,15,3,[.int .i64 0]⟩] aM (by kernel_rfl) (al2 ⟨_,_,_,rfl,by kernel_rfl,_,iP,rfl⟩ ⟨_,_,_,rfl,by kernel_rfl,_,iP,rfl⟩) (ol:=?_) ?hol ?_
   case hol=>simp only[zw,zQ,zR];try rfl
   intro u e;replace m:=m.ext' e;clear e;refine wW (aH bD aC rfl rfl (by decide) (by decide) rfl) ?_;simp only[zz];refine pG rfl (fun u e=>(((m.ext' e).b 2 rfl).lies aI aC rfl rfl)) ?_;simp only[zz,zy,Nat.zero_add,Nat.reduceAdd,Nat.reduceMul,Int.reduceToNat];refine wW (aH bD aC rfl rfl (by decide) (by decide) rfl) ?_;simp only[zz];refine pG rfl (fun u e=>(((m.ext' e).b 2 rfl).lies aI aC rfl rfl)) ?_;simp only[zz,zy,Nat.zero_add,Nat.reduceAdd,Nat.reduceMul,Int.reduceToNat];refine wW (aH bD aC rfl rfl (by decide) (by decide) rfl) ?_;simp only[zz];refine pG rfl (fun u e=>(((m.ext' e).b 2 rfl).lies aI aC rfl rfl)) ?_;simp only[zz,zy,Nat.zero_add,Nat.reduceAdd,Nat.reduceMul,Int.reduceToNat];refine pG rfl (fun u e=>(((m.ext' e).b 4 rfl).full aI aC)) ?_;simp only[zz];refine vU rfl rfl (pV (a:=t.a) (b:=t.b) (c:=t.c) (d:=p)) (wW (aH bD aC rfl rfl (by decide) (by decide) rfl) ?_);simp only[zz];refine pG rfl (fun u e=>(((m.ext' e).b 2 rfl).lies aI aC rfl rfl)) ?_;simp only[zz,zy,Nat.zero_add,Nat.reduceAdd,Nat.reduceMul,Int.reduceToNat];refine wW (aH bD aC rfl rfl (by decide) (by decide) rfl) ?_;simp only[zz];refine pG rfl (fun u e=>(((m.ext' e).b 2 rfl).lies aI aC rfl rfl)) ?_;simp only[zz,zy,Nat.zero_add,Nat.reduceAdd,Nat.reduceMul,Int.reduceToNat];refine wW (aH bD aC rfl rfl (by decide) (by decide) rfl) ?_;simp only[zz];refine pG rfl (fun u e=>(((m.ext' e).b 2 rfl).lies aI aC rfl rfl)) ?_;simp only[zz,zy,Nat.zero_add,Nat.reduceAdd,Nat.reduceMul,Int.reduceToNat];refine pG rfl (fun u e=>(((m.ext' e).b 3 rfl).full aI aC)) ?_;simp only[zz];refine vU rfl rfl (pV (a:=t.a) (b:=t.b) (c:=t.c) (d:=q)) (aeZ ?_);simp only[zz];refine mf2 m (by decide) ?_;clear m;intro g6 g7 u m;simp only[zJ,zK,zF,zG];refine cH m 1 rfl rfl rfl aO (cU rfl) ⟨rfl,rfl⟩ ?_;clear m;intro u m;simp only[zz,zy,zx,bB,Nat.reduceAdd] at m;refine cH m 0 rfl rfl rfl aO (cU rfl) ⟨rfl,rfl⟩ ?_;clear m;intro u m;simp only[zz,zy,zx,bB,Nat.reduceAdd] at m;refine aF (k9 _ _ ?_);try clear k9 K9
   refine aD fun K10 k10=>aD fun K11 k11=>wp_region_lit (aJ rfl ((m.b 1 rfl).lies1 aX rfl) ?_);simp only[zz];refine aJ rfl ((m.b 0 rfl).lies1 aX rfl) ?_;simp only[zz];refine aA (qA rfl rfl (Lc _ _)) (aA (lD rfl rfl) (aF (k11 _ _ ?_)));try clear k11 K11
   simp only[zz];refine cG rfl (fun hc2=>?_) (fun hc2=>?_)
   · skip
     refine aD fun K12 k12=>wp_region_lit (cH m 3 rfl rfl rfl gY (cU rfl) ⟨rfl,rfl⟩ ?_);clear m;intro u m;simp only[zz,zy,zx,bB,Nat.reduceAdd] at m;refine aF (k12 _ _ ?_);try clear k12 K12
     refine wp_ret ?_;try simp only[Exit.inBlock,Exit.then,if_true]
     refine aff ?_;refine bE rfl ⟨_,rfl,((m.b 3 rfl).lies1 mY rfl)⟩ ?_;try simp only[zD,zE]
     exact ⟨_,rfl,m.ext,by rw [← ah4 hf hc2]⟩
   · skip
     refine wp_skip (k10 _ _ ?_);try clear k10 K10
     refine aD fun K13 k13=>wp_region_lit (bA m zY rfl ?_);clear m;intro g8 u m;refine aF (k13 _ _ ?_);try clear k13 K13
     refine aD fun K14 k14=>wp_region_lit ?_;simp only[zz];refine bA m iP rfl ?_;clear m;intro g9 u m;simp only[zz];refine cH m 0 rfl rfl rfl aO (cU rfl) ⟨rfl,rfl⟩ ?_;clear m;intro u m;simp only[zz,zy,zx,bB,Nat.reduceAdd] at m;refine aF (k14 _ _ ?_);try clear k14 K14
     refine aD fun K15 k15=>aD fun K16 k16=>wp_region_lit (aJ rfl ((m.b 6 rfl).full bR aR) ?_);simp only[zz];refine cD rfl rfl (Xe (t:=t) _) ?_;rintro v u e ⟨g10,rfl,hg,hB⟩;replace m:=m.newB e hg hB;clear e hg hB;refine aF (k16 _ _ ?_);try clear k16 K16
     refine wp_block ?_;simp only[zz];refine Rg (v1:=fun x=>pt (t.cor x)) (v2:=fun x=>pt (t.cor ((x + 1) % 3))) (c1:=fun x=>[.int .i64 (t.cor x).x,.int .i64 (t.cor x).y,.int .i64 (t.cor x).z]) (c2:=fun x=>[.int .i64 (t.cor ((x + 1) % 3)).x,.int .i64 (t.cor ((x + 1) % 3)).y,.int .i64 (t.cor ((x + 1) % 3)).z]) (T1:=30) (T2:=30) (d1:=18) (d2:=19) (csB:=aW t) (tB:=39) rfl aa8 (Eh 3 (by omega) g10 0 t _ (m.b 0 rfl)) (fun pre=>[bI g10 (aW t) 39,bI g9 [.int .i64 (acE pre)] 3,bI g8 (l3 (rC p q t) pre) 36,bI g7 [.int .i64 (cA (yN t.a t.b t.c q))] 3,bI g6 [.int .i64 (cA (yN t.a t.b t.c p))] 3,bI g5 [.int .i64 (yF t.normal : Int)] 3,bI g4 [.bool false] 4,bI g3 [.int .i64 t.a.x,.int .i64 t.a.y,.int .i64 t.a.z,.int .i64 t.b.x,.int .i64 t.b.y,.int .i64 t.b.z,.int .i64 t.c.x,.int .i64 t.c.y,.int .i64 t.c.z] 39,bI g2 [.int .i64 (q).x,.int .i64 (q).y,.int .i64 (q).z] 30,bI g1 [.int .i64 (p).x,.int .i64 (p).y,.int .i64 (p).z] 30]) (fun _=>[bI g4 [.bool true] 4]) (fun pre=>Hu p q t → ∀ k ∈ pre,iR p q (t.cor k) (t.cor ((k + 1) % 3)) = false) (fun pre=>Hu p q t ∧ ∃ k ∈ pre,iR p q (t.cor k) (t.cor ((k + 1) % 3)) = true) (fun _ i hi=>by simp only[List.mem_cons,List.not_mem_nil,or_false] at hi;rcases hi with rfl | rfl | rfl | rfl | rfl | rfl | rfl | rfl | rfl | rfl <;> exact ⟨_,_,_,rfl⟩) (fun _ i hi=>by simp only[List.mem_cons,List.not_mem_nil,or_false] at hi;subst hi ;exact ⟨_,_,_,rfl⟩) (fun _=>rfl) (fun _=>List.mem_of_getElem? (i:=0) rfl) m (fun _ k hk=>by cases hk) ?_ ?_ ?_ ?_
     · skip
       intro r pre x W K m hK;simp only[zF,zG];refine kK fun K17 k17=>cC (Bg m bO rfl ?_);clear m;intro g11 u m;simp only[zz];refine vG m 0 rfl rfl rfl aC (cU rfl) rfl ?_;clear m;intro u m;simp only[zy,zx,bB,zF,zG,Nat.reduceAdd] at m;refine aF (k17 _ _ ?_);try clear k17 K17
       refine cC (Bg m bO rfl ?_);clear m;intro g12 u m;simp only[zz];refine vG m 0 rfl rfl rfl aC (cU rfl) rfl ?_;clear m;intro u m;simp only[zy,zx,bB,zF,zG,Nat.reduceAdd] at m;exact aF (hK _ _ _ m)
     · skip
       intro r pre x g11 g12 W Q' _ hJ hN m hn hr;rcases pre with _ | ⟨a,_ | ⟨b,_ | ⟨c,l⟩⟩⟩
       · skip
         simp only[acE,l3] at m;simp only[zF,zG];refine lK (kK fun K18 k18=>lK (kK fun K19 k19=>cC (aJ rfl ((m.b 6 rfl).lies1 aX rfl) ?_)));simp only[zz];refine aA (jJ rfl rfl) (aA (aB) ?_);simp only[zz];refine eW rfl (fun hb=>bJ rfl ((m.b 5 rfl).lies1 aX rfl)) (fU rfl (fun hb=>jJ (bW hb rfl) rfl) (aA (fH rfl rfl rfl) (aA (aG) (aF (k19 _ _ ?_)))));try clear k19 K19
         simp only[zz];refine tE rfl (fun hc3=>?_) (fun hc3=>?_)
         · skip
           refine rZ m 7 aM (by kernel_rfl) ?_;simp only[zy];refine wP rfl (fun u m=>((m.b 3 rfl).lies1 aX rfl)) ?_;simp only[zz];refine wP rfl (fun u m=>((m.b 11 rfl).full aI aC)) ?_;simp only[zz];refine wP rfl (fun u m=>((m.b 10 rfl).full aI aC)) ?_;simp only[zz];refine wP rfl (fun u m=>((m.b 1 rfl).full aI aC)) ?_;simp only[zz];refine wP rfl (fun u m=>((m.b 0 rfl).full aI aC)) ?_;simp only[zz];refine aak rfl rfl (pV (a:=p) (b:=q) (c:=t.cor x) (d:=t.cor ((x + 1) % 3))) (aK (aH cP aO rfl rfl (by decide) (by decide) rfl) (bZ ?_));clear m;intro u m;simp only[zz];refine fZ m 4 rfl rfl rfl aO (cU rfl) ⟨rfl,rfl⟩ ?_;clear m;intro u m;simp only[zz,zy,zx,bB,Nat.reduceAdd] at m;refine aF (k18 _ _ ?_);try clear k18 K18
           refine cC (aJ rfl ((m.b 3 rfl).lies1 aX rfl) ?_);simp only[zz];refine aA (aU (m:=0) (n:=1) (r:=1) rfl rfl (by decide)) ?_;simp only[zz];refine fZ m 3 rfl rfl rfl aO (cU rfl) ⟨rfl,rfl⟩ ?_;clear m;intro u m;simp only[zz,zy,zx,bB,Nat.reduceAdd] at m;refine aF ?_
           first
           | (have hI:=Dd hc3;rw [show cA (((q.sub p).cross ((t.cor x).sub p)).dot ((t.cor ((x + 1) % 3)).sub p)) = rC p q t x from (Bj hI).symm] at m;exact hn _ _ ⟨m.toMem.sel [false,false,true,true,true,true,true,true,true,true,true,true],m.rx⟩ (fun k=>absurd k hI))
           | (have hI:=tG hc3;rw [show cA (lA (vK p t x) (yF t.normal)) = rC p q t x from (Bi hI).symm] at m;exact hn _ _ ⟨m.toMem.sel [false,false,true,true,true,true,true,true,true,true,true,true],m.rx⟩ (fun hi k hk=>by
             rcases List.mem_append.1 hk with hk | hk
             · exact hJ hi k hk
             · rw [List.mem_singleton.1 hk];exact hc4))
         · skip
           refine kK fun K20 k20=>cC (aJ rfl ((m.b 11 rfl).full aI aC) ?_);simp only[zz];refine aJ rfl ((m.b 10 rfl).full aI aC) ?_;simp only[zz];refine aJ rfl ((m.b 1 rfl).full aI aC) ?_;simp only[zz];refine aJ rfl ((m.b 0 rfl).full aI aC) ?_;simp only[zz];refine Fb m rfl rfl (Ff (p:=p) (q:=q) (r:=t.cor x) (s:=t.cor ((x + 1) % 3))) ?_;clear m;intro u m;refine aA (aG) (aF (k20 _ _ ?_));try clear k20 K20
           simp only[zz];refine tE rfl (fun hc4=>?_) (fun hc4=>?_)
           · skip
             refine kK fun K21 k21=>cC (fZ m 8 rfl rfl rfl gY (cU rfl) ⟨rfl,rfl⟩ ?_);clear m;intro u m;simp only[zz,zy,zx,bB,Nat.reduceAdd] at m;refine aF (k21 _ _ ?_);try clear k21 K21
             refine Fa ?_;exact hr _ _ ⟨m.toMem.sel [false,false,false,false,false,false,false,false,true],m.rx⟩ ⟨tG hc3,x,by simp,hc4⟩
           · skip
             refine rZ m 9 aM (by kernel_rfl) ?_;simp only[zy];refine wP rfl (fun u m=>((m.b 3 rfl).lies1 aX rfl)) ?_;simp only[zz];refine wP rfl (fun u m=>((m.b 1 rfl).full aI aC)) ?_;simp only[zz];refine wP rfl (fun u m=>((m.b 0 rfl).full aI aC)) ?_;simp only[zz];refine wP rfl (fun u m=>((m.b 1 rfl).full aI aC)) ?_;simp only[zz];refine wP rfl (fun u m=>((m.b 11 rfl).full aI aC)) ?_;simp only[zz];refine aak rfl rfl (mS (a:=t.cor x) (b:=t.cor ((x + 1) % 3)) (c:=t.cor x) (d:=p)) ?_;simp only[zz];refine wP rfl (fun u m=>((m.b 7 rfl).lies1 aX rfl)) ?_;simp only[zz];refine aK ((vI (v:=vK p t x) (Ns _) rfl rfl)) (aK (aH cP aO rfl rfl (by decide) (by decide) rfl) (bZ ?_));clear m;intro u m;simp only[zz];refine fZ m 4 rfl rfl rfl aO (cU rfl) ⟨rfl,rfl⟩ ?_;clear m;intro u m;simp only[zz,zy,zx,bB,Nat.reduceAdd] at m;refine aF (k18 _ _ ?_);try clear k18 K18
             refine cC (aJ rfl ((m.b 3 rfl).lies1 aX rfl) ?_);simp only[zz];refine aA (aU (m:=0) (n:=1) (r:=1) rfl rfl (by decide)) ?_;simp only[zz];refine fZ m 3 rfl rfl rfl aO (cU rfl) ⟨rfl,rfl⟩ ?_;clear m;intro u m;simp only[zz,zy,zx,bB,Nat.reduceAdd] at m;refine aF ?_
             first
             | (have hI:=Dd hc3;rw [show cA (((q.sub p).cross ((t.cor x).sub p)).dot ((t.cor ((x + 1) % 3)).sub p)) = rC p q t x from (Bj hI).symm] at m;exact hn _ _ ⟨m.toMem.sel [false,false,true,true,true,true,true,true,true,true,true,true],m.rx⟩ (fun k=>absurd k hI))
             | (have hI:=tG hc3;rw [show cA (lA (vK p t x) (yF t.normal)) = rC p q t x from (Bi hI).symm] at m;exact hn _ _ ⟨m.toMem.sel [false,false,true,true,true,true,true,true,true,true,true,true],m.rx⟩ (fun hi k hk=>by
               rcases List.mem_append.1 hk with hk | hk
               · exact hJ hi k hk
               · rw [List.mem_singleton.1 hk];exact hc4))
       · skip
         simp only[acE,l3] at m;simp only[zF,zG];refine lK (kK fun K22 k22=>lK (kK fun K23 k23=>cC (aJ rfl ((m.b 6 rfl).lies1 aX rfl) ?_)));simp only[zz];refine aA (jJ rfl rfl) (aA (aB) ?_);simp only[zz];refine eW rfl (fun hb=>bJ rfl ((m.b 5 rfl).lies1 aX rfl)) (fU rfl (fun hb=>jJ (bW hb rfl) rfl) (aA (fH rfl rfl rfl) (aA (aG) (aF (k23 _ _ ?_)))));try clear k23 K23
         simp only[zz];refine tE rfl (fun hc3=>?_) (fun hc3=>?_)
         · skip
           refine rZ m 7 aM (by kernel_rfl) ?_;simp only[zy];refine wP rfl (fun u m=>((m.b 3 rfl).lies1 aX rfl)) ?_;simp only[zz];refine wP rfl (fun u m=>((m.b 11 rfl).full aI aC)) ?_;simp only[zz];refine wP rfl (fun u m=>((m.b 10 rfl).full aI aC)) ?_;simp only[zz];refine wP rfl (fun u m=>((m.b 1 rfl).full aI aC)) ?_;simp only[zz];refine wP rfl (fun u m=>((m.b 0 rfl).full aI aC)) ?_;simp only[zz];refine aak rfl rfl (pV (a:=p) (b:=q) (c:=t.cor x) (d:=t.cor ((x + 1) % 3))) (aK (aH cP aO rfl rfl (by decide) (by decide) rfl) (bZ ?_));clear m;intro u m;simp only[zz];refine fZ m 4 rfl rfl rfl aO (cU rfl) ⟨rfl,rfl⟩ ?_;clear m;intro u m;simp only[zz,zy,zx,bB,Nat.reduceAdd] at m;refine aF (k22 _ _ ?_);try clear k22 K22
           refine cC (aJ rfl ((m.b 3 rfl).lies1 aX rfl) ?_);simp only[zz];refine aA (aU (m:=1) (n:=1) (r:=2) rfl rfl (by decide)) ?_;simp only[zz];refine fZ m 3 rfl rfl rfl aO (cU rfl) ⟨rfl,rfl⟩ ?_;clear m;intro u m;simp only[zz,zy,zx,bB,Nat.reduceAdd] at m;refine aF ?_
           first
           | (have hI:=Dd hc3;rw [show cA (((q.sub p).cross ((t.cor x).sub p)).dot ((t.cor ((x + 1) % 3)).sub p)) = rC p q t x from (Bj hI).symm] at m;exact hn _ _ ⟨m.toMem.sel [false,false,true,true,true,true,true,true,true,true,true,true],m.rx⟩ (fun k=>absurd k hI))
           | (have hI:=tG hc3;rw [show cA (lA (vK p t x) (yF t.normal)) = rC p q t x from (Bi hI).symm] at m;exact hn _ _ ⟨m.toMem.sel [false,false,true,true,true,true,true,true,true,true,true,true],m.rx⟩ (fun hi k hk=>by
             rcases List.mem_append.1 hk with hk | hk
             · exact hJ hi k hk
             · rw [List.mem_singleton.1 hk];exact hc4))
         · skip
           refine kK fun K24 k24=>cC (aJ rfl ((m.b 11 rfl).full aI aC) ?_);simp only[zz];refine aJ rfl ((m.b 10 rfl).full aI aC) ?_;simp only[zz];refine aJ rfl ((m.b 1 rfl).full aI aC) ?_;simp only[zz];refine aJ rfl ((m.b 0 rfl).full aI aC) ?_;simp only[zz];refine Fb m rfl rfl (Ff (p:=p) (q:=q) (r:=t.cor x) (s:=t.cor ((x + 1) % 3))) ?_;clear m;intro u m;refine aA (aG) (aF (k24 _ _ ?_));try clear k24 K24
           simp only[zz];refine tE rfl (fun hc4=>?_) (fun hc4=>?_)
           · skip
             refine kK fun K25 k25=>cC (fZ m 8 rfl rfl rfl gY (cU rfl) ⟨rfl,rfl⟩ ?_);clear m;intro u m;simp only[zz,zy,zx,bB,Nat.reduceAdd] at m;refine aF (k25 _ _ ?_);try clear k25 K25
             refine Fa ?_;exact hr _ _ ⟨m.toMem.sel [false,false,false,false,false,false,false,false,true],m.rx⟩ ⟨tG hc3,x,by simp,hc4⟩
           · skip
             refine rZ m 9 aM (by kernel_rfl) ?_;simp only[zy];refine wP rfl (fun u m=>((m.b 3 rfl).lies1 aX rfl)) ?_;simp only[zz];refine wP rfl (fun u m=>((m.b 1 rfl).full aI aC)) ?_;simp only[zz];refine wP rfl (fun u m=>((m.b 0 rfl).full aI aC)) ?_;simp only[zz];refine wP rfl (fun u m=>((m.b 1 rfl).full aI aC)) ?_;simp only[zz];refine wP rfl (fun u m=>((m.b 11 rfl).full aI aC)) ?_;simp only[zz];refine aak rfl rfl (mS (a:=t.cor x) (b:=t.cor ((x + 1) % 3)) (c:=t.cor x) (d:=p)) ?_;simp only[zz];refine wP rfl (fun u m=>((m.b 7 rfl).lies1 aX rfl)) ?_;simp only[zz];refine aK ((vI (v:=vK p t x) (Ns _) rfl rfl)) (aK (aH cP aO rfl rfl (by decide) (by decide) rfl) (bZ ?_));clear m;intro u m;simp only[zz];refine fZ m 4 rfl rfl rfl aO (cU rfl) ⟨rfl,rfl⟩ ?_;clear m;intro u m;simp only[zz,zy,zx,bB,Nat.reduceAdd] at m;refine aF (k22 _ _ ?_);try clear k22 K22
             refine cC (aJ rfl ((m.b 3 rfl).lies1 aX rfl) ?_);simp only[zz];refine aA (aU (m:=1) (n:=1) (r:=2) rfl rfl (by decide)) ?_;simp only[zz];refine fZ m 3 rfl rfl rfl aO (cU rfl) ⟨rfl,rfl⟩ ?_;clear m;intro u m;simp only[zz,zy,zx,bB,Nat.reduceAdd] at m;refine aF ?_
             first
             | (have hI:=Dd hc3;rw [show cA (((q.sub p).cross ((t.cor x).sub p)).dot ((t.cor ((x + 1) % 3)).sub p)) = rC p q t x from (Bj hI).symm] at m;exact hn _ _ ⟨m.toMem.sel [false,false,true,true,true,true,true,true,true,true,true,true],m.rx⟩ (fun k=>absurd k hI))
             | (have hI:=tG hc3;rw [show cA (lA (vK p t x) (yF t.normal)) = rC p q t x from (Bi hI).symm] at m;exact hn _ _ ⟨m.toMem.sel [false,false,true,true,true,true,true,true,true,true,true,true],m.rx⟩ (fun hi k hk=>by
               rcases List.mem_append.1 hk with hk | hk
               · exact hJ hi k hk
               · rw [List.mem_singleton.1 hk];exact hc4))
       · skip
         simp only[acE,l3] at m;simp only[zF,zG];refine lK (kK fun K26 k26=>lK (kK fun K27 k27=>cC (aJ rfl ((m.b 6 rfl).lies1 aX rfl) ?_)));simp only[zz];refine aA (jJ rfl rfl) (aA (aB) ?_);simp only[zz];refine eW rfl (fun hb=>bJ rfl ((m.b 5 rfl).lies1 aX rfl)) (fU rfl (fun hb=>jJ (bW hb rfl) rfl) (aA (fH rfl rfl rfl) (aA (aG) (aF (k27 _ _ ?_)))));try clear k27 K27
         simp only[zz];refine tE rfl (fun hc3=>?_) (fun hc3=>?_)
         · skip
           refine rZ m 7 aM (by kernel_rfl) ?_;simp only[zy];refine wP rfl (fun u m=>((m.b 3 rfl).lies1 aX rfl)) ?_;simp only[zz];refine wP rfl (fun u m=>((m.b 11 rfl).full aI aC)) ?_;simp only[zz];refine wP rfl (fun u m=>((m.b 10 rfl).full aI aC)) ?_;simp only[zz];refine wP rfl (fun u m=>((m.b 1 rfl).full aI aC)) ?_;simp only[zz];refine wP rfl (fun u m=>((m.b 0 rfl).full aI aC)) ?_;simp only[zz];refine aak rfl rfl (pV (a:=p) (b:=q) (c:=t.cor x) (d:=t.cor ((x + 1) % 3))) (aK (aH cP aO rfl rfl (by decide) (by decide) rfl) (bZ ?_));clear m;intro u m;simp only[zz];refine fZ m 4 rfl rfl rfl aO (cU rfl) ⟨rfl,rfl⟩ ?_;clear m;intro u m;simp only[zz,zy,zx,bB,Nat.reduceAdd] at m;refine aF (k26 _ _ ?_);try clear k26 K26
           refine cC (aJ rfl ((m.b 3 rfl).lies1 aX rfl) ?_);simp only[zz];refine aA (aU (m:=2) (n:=1) (r:=3) rfl rfl (by decide)) ?_;simp only[zz];refine fZ m 3 rfl rfl rfl aO (cU rfl) ⟨rfl,rfl⟩ ?_;clear m;intro u m;simp only[zz,zy,zx,bB,Nat.reduceAdd] at m;refine aF ?_
           first
           | (have hI:=Dd hc3;rw [show cA (((q.sub p).cross ((t.cor x).sub p)).dot ((t.cor ((x + 1) % 3)).sub p)) = rC p q t x from (Bj hI).symm] at m;exact hn _ _ ⟨m.toMem.sel [false,false,true,true,true,true,true,true,true,true,true,true],m.rx⟩ (fun k=>absurd k hI))
           | (have hI:=tG hc3;rw [show cA (lA (vK p t x) (yF t.normal)) = rC p q t x from (Bi hI).symm] at m;exact hn _ _ ⟨m.toMem.sel [false,false,true,true,true,true,true,true,true,true,true,true],m.rx⟩ (fun hi k hk=>by
             rcases List.mem_append.1 hk with hk | hk
             · exact hJ hi k hk
             · rw [List.mem_singleton.1 hk];exact hc4))
         · skip
           refine kK fun K28 k28=>cC (aJ rfl ((m.b 11 rfl).full aI aC) ?_);simp only[zz];refine aJ rfl ((m.b 10 rfl).full aI aC) ?_;simp only[zz];refine aJ rfl ((m.b 1 rfl).full aI aC) ?_;simp only[zz];refine aJ rfl ((m.b 0 rfl).full aI aC) ?_;simp only[zz];refine Fb m rfl rfl (Ff (p:=p) (q:=q) (r:=t.cor x) (s:=t.cor ((x + 1) % 3))) ?_;clear m;intro u m;refine aA (aG) (aF (k28 _ _ ?_));try clear k28 K28
           simp only[zz];refine tE rfl (fun hc4=>?_) (fun hc4=>?_)
           · skip
             refine kK fun K29 k29=>cC (fZ m 8 rfl rfl rfl gY (cU rfl) ⟨rfl,rfl⟩ ?_);clear m;intro u m;simp only[zz,zy,zx,bB,Nat.reduceAdd] at m;refine aF (k29 _ _ ?_);try clear k29 K29
             refine Fa ?_;exact hr _ _ ⟨m.toMem.sel [false,false,false,false,false,false,false,false,true],m.rx⟩ ⟨tG hc3,x,by simp,hc4⟩
           · skip
             refine rZ m 9 aM (by kernel_rfl) ?_;simp only[zy];refine wP rfl (fun u m=>((m.b 3 rfl).lies1 aX rfl)) ?_;simp only[zz];refine wP rfl (fun u m=>((m.b 1 rfl).full aI aC)) ?_;simp only[zz];refine wP rfl (fun u m=>((m.b 0 rfl).full aI aC)) ?_;simp only[zz];refine wP rfl (fun u m=>((m.b 1 rfl).full aI aC)) ?_;simp only[zz];refine wP rfl (fun u m=>((m.b 11 rfl).full aI aC)) ?_;simp only[zz];refine aak rfl rfl (mS (a:=t.cor x) (b:=t.cor ((x + 1) % 3)) (c:=t.cor x) (d:=p)) ?_;simp only[zz];refine wP rfl (fun u m=>((m.b 7 rfl).lies1 aX rfl)) ?_;simp only[zz];refine aK ((vI (v:=vK p t x) (Ns _) rfl rfl)) (aK (aH cP aO rfl rfl (by decide) (by decide) rfl) (bZ ?_));clear m;intro u m;simp only[zz];refine fZ m 4 rfl rfl rfl aO (cU rfl) ⟨rfl,rfl⟩ ?_;clear m;intro u m;simp only[zz,zy,zx,bB,Nat.reduceAdd] at m;refine aF (k26 _ _ ?_);try clear k26 K26
             refine cC (aJ rfl ((m.b 3 rfl).lies1 aX rfl) ?_);simp only[zz];refine aA (aU (m:=2) (n:=1) (r:=3) rfl rfl (by decide)) ?_;simp only[zz];refine fZ m 3 rfl rfl rfl aO (cU rfl) ⟨rfl,rfl⟩ ?_;clear m;intro u m;simp only[zz,zy,zx,bB,Nat.reduceAdd] at m;refine aF ?_
             first
             | (have hI:=Dd hc3;rw [show cA (((q.sub p).cross ((t.cor x).sub p)).dot ((t.cor ((x + 1) % 3)).sub p)) = rC p q t x from (Bj hI).symm] at m;exact hn _ _ ⟨m.toMem.sel [false,false,true,true,true,true,true,true,true,true,true,true],m.rx⟩ (fun k=>absurd k hI))
             | (have hI:=tG hc3;rw [show cA (lA (vK p t x) (yF t.normal)) = rC p q t x from (Bi hI).symm] at m;exact hn _ _ ⟨m.toMem.sel [false,false,true,true,true,true,true,true,true,true,true,true],m.rx⟩ (fun hi k hk=>by
               rcases List.mem_append.1 hk with hk | hk
               · exact hJ hi k hk
               · rw [List.mem_singleton.1 hk];exact hc4))
       · exact absurd hN (by simp)
     rotate_left
     · rintro D pre u hS ⟨hI,k,hk,ho⟩ m
       try simp only[Exit.inBlock,Exit.then]
       refine Su (Sh.mk (m.get 0 rfl)) ?_;replace m:=m.putD (o':=.deferred none) 0 rfl;exact bE rfl ⟨_,rfl,(m.b 1 rfl).lies1 mY rfl⟩ (⟨_,rfl,m.ext,by rw [← ajY hf hI (hS k hk) ho]⟩)
     rintro D xs u rfl hj m;simp only[acE,l3] at m;refine k15 _ _ ?_;try clear k15 K15
     refine aD fun K30 k30=>wp_region_lit (aJ rfl ((m.b 3 rfl).full Ch bV) ?_);simp only[zz];refine dH m rfl rfl (aeC (a:=rC p q t 0) (b:=rC p q t 1) (c:=rC p q t 2)) ?_;clear m;intro u m;simp only[zz];refine cH m 7 rfl rfl rfl gY (cU rfl) ⟨rfl,rfl⟩ ?_;clear m;intro u m;simp only[zz,zy,zx,bB,Nat.reduceAdd] at m;refine aF (k30 _ _ ?_);try clear k30 K30
     refine wp_ret ?_;try simp only[Exit.inBlock,Exit.then,if_true]
     refine Su (Sh.mk (m.get 0 rfl)) ?_;replace m:=m.putD (o':=.deferred none) 0 rfl;simp only[zF,zG] at m;refine bE rfl ⟨_,rfl,((m.b 7 rfl).lies1 mY rfl)⟩ ?_;try simp only[zD,zE]
     exact ⟨_,rfl,m.ext,by rw [ah5 hf hc2 hj]⟩
end Go.Proofs.YtfekpcimgncioaaGreatDoor
namespace Go.Proofs.YtfekpcimgncioaaGreatDoor
open Go.Proofs.Tryz
open Go.RowKit Go.Lith
set_option maxRecDepth 100000
attribute [local irreducible] wpList wpQuiet dB bL cE Code.wp
theorem aeF {s t : T3} {k : Nat} (hk : k < 3) (h : gR (s.cor k) (s.cor ((k + 1) % 3)) t = true) : true = Mt s t:=by
 have e : k = 0 ∨ k = 1 ∨ k = 2:=by omega
 unfold Mt;rcases e with rfl | rfl | rfl
 · rw [show gR s.a s.b t = true from h];rfl
 · rw [show gR s.b s.c t = true from h,Bool.or_true];rfl
 · rw [show gR s.c s.a t = true from h,Bool.or_true]
theorem acF {s t : T3} (h : ∀ k ∈ [0,1,2],gR (s.cor k) (s.cor ((k + 1) % 3)) t = false) : false = Mt s t:=by
 unfold Mt;rw [show gR s.a s.b t = false from h 0 (by decide),show gR s.b s.c t = false from h 1 (by decide),show gR s.c s.a t = false from h 2 (by decide)];rfl
theorem Ro {l : List Value} {ty : TypeId} {x y : Operand} {t : T3} {k : Nat} (hk : k < 3) (hx : ev l x = tr t) (hy : ev l y = .int .i64 (k : Int)) : fC prog l (.index 39 x y) ty (pt (t.cor k)):=by
 have h : k = 0 ∨ k = 1 ∨ k = 2:=by omega
 rcases h with rfl | rfl | rfl
 · exact oE hx hy
 · exact oF hx hy
 · exact oG hx hy
def acG (t : T3) : List P3:=[t.a,t.b,t.c]
theorem acH {t : T3} {k : Nat} (hk : k < 3) : (acG t)[k]? = some (t.cor k):=by
 have h : k = 0 ∨ k = 1 ∨ k = 2:=by omega
 rcases h with rfl | rfl | rfl <;> rfl
def yG (s t : T3) (k : Nat) : List P3:=((acG s).take k).filter fun x=>t.has x
def yH (s t : T3) (k : Nat) : List P3:=((acG s).take k).filter fun x=>!t.has x
theorem Bk {s t : T3} {k : Nat} (hk : k < 3) : yG s t (k + 1) = yG s t k ++ if t.has (s.cor k) then [s.cor k] else []:=by
 unfold yG;rw [cQ (acH hk),List.filter_append,List.filter_cons,List.filter_nil]
theorem Bl {s t : T3} {k : Nat} (hk : k < 3) : yH s t (k + 1) = yH s t k ++ if t.has (s.cor k) then [] else [s.cor k]:=by
 unfold yH;rw [cQ (acH hk),List.filter_append,List.filter_cons,List.filter_nil];cases t.has (s.cor k) <;> rfl
theorem Xh (s t : T3) (k : Nat) : (yG s t k).length ≤ 3:=Nat.le_trans (List.length_filter_le _ _) (by rw [List.length_take];exact Nat.min_le_right ..)
theorem Xi (s t : T3) (k : Nat) : (yH s t k).length ≤ 3:=Nat.le_trans (List.length_filter_le _ _) (by rw [List.length_take];exact Nat.min_le_right ..)
theorem afi {t : T3} {x : P3} : ((decide (x.x = t.a.x ∧ x.y = t.a.y ∧ x.z = t.a.z) || decide (x.x = t.b.x ∧ x.y = t.b.y ∧ x.z = t.b.z)) || decide (x.x = t.c.x ∧ x.y = t.c.y ∧ x.z = t.c.z)) = t.has x:=by
 have e : ∀ p q : P3,(p.x = q.x ∧ p.y = q.y ∧ p.z = q.z) ↔ p = q:=fun p q=>⟨fun h=>P3.eq h.1 h.2.1 h.2.2,fun h=>by rw [h];exact ⟨rfl,rfl,rfl⟩⟩
 rw [Bool.eq_iff_iff,lX];simp only[Bool.or_eq_true,decide_eq_true_eq,e,or_assoc]
theorem Hw (s t : T3) : (pS s t).length + (sV s t).length = 3:=by
 rw [aho,ahp];cases t.has s.a <;> cases t.has s.b <;> cases t.has s.c <;> rfl
theorem nd_of {t : T3} (h : kG t = false) : t.nd = true:=by
 have hf : Ex (nR t.a t.b t.c) < 3:=by
  unfold kG at h;rw [decide_eq_false_iff_not,Decidable.not_not] at h;exact h
 have hz : ∀ p q r : P3,p = q ∨ q = r ∨ r = p → nR p q r = ⟨0,0,0⟩:=fun p q r hh=>by
  rcases hh with rfl | rfl | rfl <;> (refine P3.eq ?_ ?_ ?_ <;> (simp only[nR,P3.sub,P3.cross];grind))
 have hn : ¬ (t.a = t.b ∨ t.b = t.c ∨ t.c = t.a):=fun hh=>by
  rw [hz _ _ _ hh] at hf;exact absurd hf (by decide)
 rw [Cr];exact ⟨fun e=>hn (.inl e),fun e=>hn (.inr (.inl e)),fun e=>hn (.inr (.inr e))⟩
theorem Uz {s t : T3} (hs : kG s = false) (ht : kG t = false) (h0 : (pS s t).length ≠ 0) :
 (∃ x u v y z,pS s t = [x] ∧ sV s t = [u,v] ∧ sV t s = [y,z]) ∨ (∃ x y u v,pS s t = [x,y] ∧ sV s t = [u] ∧ sV t s = [v]) ∨ (pS s t).length = 3:=by
 have h1:=Hw s t;have h2:=Hw t s;have h3:=(abE (nd_of hs) (nd_of ht)).length_eq;generalize pS s t = L at *
 generalize sV s t = U at *
 generalize sV t s = V at *
 rw [← h3] at h2;rcases L with _ | ⟨x,_ | ⟨y,_ | ⟨z,_ | ⟨z',L⟩⟩⟩⟩
 · exact absurd rfl h0
 · rcases U with _ | ⟨u,_ | ⟨v,_ | ⟨_,_⟩⟩⟩ <;> simp only[List.length_cons,List.length_nil] at h1 <;> try omega
   rcases V with _ | ⟨y,_ | ⟨z,_ | ⟨_,_⟩⟩⟩ <;> simp only[List.length_cons,List.length_nil] at h2 <;> try omega
   exact .inl ⟨x,u,v,y,z,rfl,rfl,rfl⟩
 · rcases U with _ | ⟨u,_ | ⟨_,_⟩⟩ <;> simp only[List.length_cons,List.length_nil] at h1 <;> try omega
   rcases V with _ | ⟨v,_ | ⟨_,_⟩⟩ <;> simp only[List.length_cons,List.length_nil] at h2 <;> try omega
   exact .inr (.inl ⟨x,y,u,v,rfl,rfl,rfl⟩)
 · exact .inr (.inr rfl)
 · simp only[List.length_cons] at h1;omega
theorem ah6 {s t : T3} {n : Nat} (hn : n = (pS s t).length) (h : (decide ((n : Int) = 0) || kG s || kG t) = true) : (Mt s t || Mt t s) = Kv s t:=by
 unfold Kv;rw [if_pos];rw [Bool.or_eq_true,Bool.or_eq_true,decide_eq_true_eq] at h;rcases h with (h | h) | h
 · exact .inl (by omega)
 · exact .inr (.inl h)
 · exact .inr (.inr h)
theorem ah7 {s t : T3} {n : Nat} (hn : n = (pS s t).length) (h : (decide ((n : Int) = 0) || kG s || kG t) = false) : ((pS s t).length ≠ 0 ∧ kG s = false ∧ kG t = false) ∧ Kv s t = Wl s t (pS s t) (sV s t) (sV t s):=by
 rw [Bool.or_eq_false_iff,Bool.or_eq_false_iff,decide_eq_false_iff_not] at h;refine ⟨⟨fun e=>h.1.1 (by omega),h.1.2,h.2⟩,?_⟩;unfold Kv;rw [if_neg];rintro (k | k | k)
 · exact h.1.1 (by omega)
 · rw [h.1.2] at k;cases k
 · rw [h.2] at k;cases k
theorem acI {s : T3} [h : IT s] {x : P3} (hx : x ∈ acG s) : I3 x:=by
 simp only[acG,List.mem_cons,List.not_mem_nil,or_false] at hx;rcases hx with rfl | rfl | rfl
 · exact h.a
 · exact h.b
 · exact h.c
theorem acJ {s t : T3} [IT s] {L : List P3} {i : Nat} {x : P3} (h : pS s t = L) (hx : L[i]? = some x) : I3 x:=acI (List.mem_filter.1 (h ▸ List.mem_of_getElem? hx : x ∈ pS s t)).1
theorem De {s t : T3} [IT s] {L : List P3} {i : Nat} {x : P3} (h : sV s t = L) (hx : L[i]? = some x) : I3 x:=acI (List.mem_filter.1 (h ▸ List.mem_of_getElem? hx : x ∈ sV s t)).1
theorem ah8 {s t : T3} {xa xb ua va : P3} : (decide (cA (((xb.sub xa).cross (ua.sub xa)).dot (va.sub xa)) = 0) && decide (cA ((xb.sub xa).cross (ua.sub xa)).x = cA ((xb.sub xa).cross (va.sub xa)).x ∧ cA ((xb.sub xa).cross (ua.sub xa)).y = cA ((xb.sub xa).cross (va.sub xa)).y ∧ cA ((xb.sub xa).cross (ua.sub xa)).z = cA ((xb.sub xa).cross (va.sub xa)).z)) = Wl s t [xa,xb] [ua] [va]:=by
 rw [decide_eq_decide.2 (fG (n:=((xb.sub xa).cross (ua.sub xa)).dot (va.sub xa)))];rfl
theorem ah9 {s t : T3} (h : (pS s t).length = 3) : Wl s t (pS s t) (sV s t) (sV t s) = true:=by
 generalize pS s t = L at h;rcases L with _ | ⟨x,_ | ⟨y,_ | ⟨z,L⟩⟩⟩ <;> simp only[List.length_cons,List.length_nil] at h <;> try omega
 rfl
theorem Le {s t : T3} [IT s] [IT t] : eQ prog 241 [tr s,tr t] (.bool (Mt s t)):=by
 intro w;refine ⟨agR,?_⟩;have m:=Mem.refl w;refine (callsIn_wide (n:=4)).1 (callsIn_of_wp_marks func241 rfl trivial ?_ rfl);simp only[ntmps241,List.size_toArray,List.length_cons,List.length_nil,Nat.reduceAdd,Nat.reduceSub,Array.replicate_succ,Array.replicate_zero,List.push_toArray,List.append_toArray,List.nil_append,List.cons_append];refine wpIn_wide.2 ?_;refine aD fun K1 k1=>wp_region_lit (cB m rfl ?_);clear m;intro g1 u m;simp only[zz];refine cB m rfl ?_;clear m;intro g2 u m;simp only[zz];refine bA m kY rfl ?_;clear m;intro g3 u m;refine aF (k1 _ _ ?_);try clear k1 K1
 refine aD fun K2 k2=>aD fun K3 k3=>wp_region_lit ?_;simp only[zz];refine aJ rfl ((m.b 2 rfl).full bR aR) ?_;simp only[zz];refine cD rfl rfl (Xe (t:=s) _) ?_;rintro v u e ⟨g4,rfl,hg,hB⟩;replace m:=m.newB e hg hB;clear e hg hB;refine aF (k3 _ _ ?_);try clear k3 K3
 refine wp_block ?_;simp only[zz];refine Rg (v1:=fun x=>pt (s.cor x)) (v2:=fun x=>pt (s.cor ((x + 1) % 3))) (c1:=fun x=>[.int .i64 (s.cor x).x,.int .i64 (s.cor x).y,.int .i64 (s.cor x).z]) (c2:=fun x=>[.int .i64 (s.cor ((x + 1) % 3)).x,.int .i64 (s.cor ((x + 1) % 3)).y,.int .i64 (s.cor ((x + 1) % 3)).z]) (T1:=30) (T2:=30) (d1:=5) (d2:=6) (csB:=aW s) (tB:=39) rfl aa8 (Eh 3 (by omega) g4 0 s _ (m.b 0 rfl)) (fun _=>[bI g4 (aW s) 39,bI g3 [.bool false] 4,bI g2 [.int .i64 t.a.x,.int .i64 t.a.y,.int .i64 t.a.z,.int .i64 t.b.x,.int .i64 t.b.y,.int .i64 t.b.z,.int .i64 t.c.x,.int .i64 t.c.y,.int .i64 t.c.z] 39,bI g1 [.int .i64 s.a.x,.int .i64 s.a.y,.int .i64 s.a.z,.int .i64 s.b.x,.int .i64 s.b.y,.int .i64 s.b.z,.int .i64 s.c.x,.int .i64 s.c.y,.int .i64 s.c.z] 39]) (fun _=>[bI g3 [.bool true] 4]) (fun pre=>∀ k ∈ pre,gR (s.cor k) (s.cor ((k + 1) % 3)) t = false) (fun pre=>∃ k ∈ pre,gR (s.cor k) (s.cor ((k + 1) % 3)) t = true) (fun _ i hi=>by simp only[List.mem_cons,List.not_mem_nil,or_false] at hi;rcases hi with rfl | rfl | rfl | rfl <;> exact ⟨_,_,_,rfl⟩) (fun _ i hi=>by simp only[List.mem_cons,List.not_mem_nil,or_false] at hi;subst hi ;exact ⟨_,_,_,rfl⟩) (fun _=>rfl) (fun _=>List.mem_of_getElem? (i:=0) rfl) m (fun k hk=>by cases hk) ?_ ?_ ?_ ?_
 · skip
   intro r pre x W K m hK;simp only[zF,zG];refine kK fun K4 k4=>cC (Bg m bO rfl ?_);clear m;intro g5 u m;simp only[zz];refine vG m 0 rfl rfl rfl aC (cU rfl) rfl ?_;clear m;intro u m;simp only[zy,zx,bB,zF,zG,Nat.reduceAdd] at m;refine aF (k4 _ _ ?_);try clear k4 K4
   refine cC (Bg m bO rfl ?_);clear m;intro g6 u m;simp only[zz];refine vG m 0 rfl rfl rfl aC (cU rfl) rfl ?_;clear m;intro u m;simp only[zy,zx,bB,zF,zG,Nat.reduceAdd] at m;exact aF (hK _ _ _ m)
 · skip
   intro r pre x g5 g6 W Q' _ hJ hN m hn hr
   · skip
     simp only[zF,zG];refine lK (kK fun K5 k5=>cC (aJ rfl ((m.b 1 rfl).full aI aC) ?_));simp only[zz];refine aJ rfl ((m.b 0 rfl).full aI aC) ?_;simp only[zz];refine aJ rfl ((m.b 4 rfl).full bR aR) ?_;simp only[zz];refine Fb m rfl rfl (Nt (p:=s.cor x) (q:=s.cor ((x + 1) % 3)) (t:=t)) ?_;clear m;intro u m;refine aF (k5 _ _ ?_);try clear k5 K5
     simp only[zz];refine tE rfl (fun hc1=>?_) (fun hc1=>?_)
     · skip
       refine kK fun K6 k6=>cC (fZ m 3 rfl rfl rfl gY (cU rfl) ⟨rfl,rfl⟩ ?_);clear m;intro u m;simp only[zz,zy,zx,bB,Nat.reduceAdd] at m;refine aF (k6 _ _ ?_);try clear k6 K6
       refine Fa ?_;exact hr _ _ ⟨m.toMem.sel [false,false,false,true],m.rx⟩ ⟨x,by simp,hc1⟩
     · skip
       refine acs ?_;exact hn _ _ ⟨m.toMem.sel [false,false,true,true,true,true],m.rx⟩ (fun k hk=>by
        rcases List.mem_append.1 hk with hk | hk
        · exact hJ k hk
        · rw [List.mem_singleton.1 hk];exact hc1)
 rotate_left
 · rintro D pre u hS ⟨k,hk,ho⟩ m
   try simp only[Exit.inBlock,Exit.then]
   refine Su (Sh.mk (m.get 0 rfl)) ?_;replace m:=m.putD (o':=.deferred none) 0 rfl;exact bE rfl ⟨_,rfl,(m.b 1 rfl).lies1 mY rfl⟩ (⟨_,rfl,m.ext,by rw [← aeF (hS k hk) ho]⟩)
 rintro D xs u rfl hj m;refine k2 _ _ ?_;try clear k2 K2
 refine aD fun K7 k7=>wp_region_lit (cH m 2 rfl rfl rfl gY (cU rfl) ⟨rfl,rfl⟩ ?_);clear m;intro u m;simp only[zz,zy,zx,bB,Nat.reduceAdd] at m;refine aF (k7 _ _ ?_);try clear k7 K7
 refine wp_ret ?_;try simp only[Exit.inBlock,Exit.then,if_true]
 refine Su (Sh.mk (m.get 0 rfl)) ?_;replace m:=m.putD (o':=.deferred none) 0 rfl;simp only[zF,zG] at m;refine bE rfl ⟨_,rfl,((m.b 2 rfl).lies1 mY rfl)⟩ ?_;try simp only[zD,zE]
 exact ⟨_,rfl,m.ext,by rw [← acF hj]⟩
theorem Rp {s t : T3} (w : World) : eG prog 240 [tr s,tr t] w (fun v w'=>∃ A4 n4 c4 A5 n5 c5,v = .tuple #[.slice A4 n4 c4,.slice A5 n5 c5] ∧ n4 = (pS s t).length ∧ n5 = (sV s t).length ∧ Mem w w' [oI 30 3 A5 n5 c5 ((sV s t).flatMap mW),oI 30 3 A4 n4 c4 ((pS s t).flatMap mW)]):=by
 refine ⟨agQ,?_⟩;have m:=Mem.refl w
 go_enter func240,ntmps240
 refine aD fun K1 k1=>wp_region_lit (cB m rfl ?_);clear m;intro g1 u m;simp only[zz];refine cB m rfl ?_;clear m;intro g2 u m;refine aA (aG) ?_;replace m:=m.nilO 30 3;refine aA (aG) ?_;replace m:=m.nilO 30 3;refine aF (k1 _ _ ?_);try clear k1 K1
 refine aD fun K2 k2=>aD fun K3 k3=>wp_region_lit ?_;simp only[zz];refine aJ rfl ((m.b 3 rfl).full bR aR) ?_;simp only[zz];refine aA (aB) (aF (k3 _ _ ?_));try clear k3 K3
 refine wp_block ?_;simp only[zz];try simp only[Nat.zero_add,Nat.reduceAdd,Nat.reduceMul,Int.reduceToNat]
 refine bT [4,5,9] [7,10,11,12,13,14,15,16,17,18,19,20,21,22,23,24,25,26,27,28,29,30,31,32,33,34,35,36] (fun n vs wl=>∃ (k : Nat) (A4 A5 : Option Addr) (cap4 cap5 : Nat),vs = [.slice A4 (yG s t k).length cap4,.slice A5 (yH s t k).length cap5,.int .i64 (k:Int)] ∧ Mem w wl [oI 30 3 A5 (yH s t k).length cap5 ((yH s t k).flatMap mW),oI 30 3 A4 (yG s t k).length cap4 ((yG s t k).flatMap mW),bI g2 [.int .i64 t.a.x,.int .i64 t.a.y,.int .i64 t.a.z,.int .i64 t.b.x,.int .i64 t.b.y,.int .i64 t.b.z,.int .i64 t.c.x,.int .i64 t.c.y,.int .i64 t.c.z] 39] ∧ (k ≤ 3) ∧ (n = 3 - k)) ?_ ?_
 · skip
   apply Exists.intro;simp only[zQ,zR,zD,zE];exact ⟨0,_,_,_,_,rfl,(m.sel [true,true,true,false]),by omega,rfl⟩
 · intro n vs wr hI u
   clear m;obtain ⟨k,A4,A5,cap4,cap5,rfl,m,hk,hn⟩:=hI;simp only[zu,zF,zG];refine aD fun K4 k4=>wp_region_lit (aA (cW rfl rfl) (aF (k4 _ _ ?_)));try clear k4 K4
   refine aD fun K5 k5=>?_;simp only[zz];refine cG rfl (fun hc1=>?_) (fun hc1=>?_)
   · skip
     have hk3 : k < 3:=by omega
     refine wp_skip (k5 _ _ ?_);try clear k5 K5
     refine aD fun K6 k6=>wp_block (aD fun K7 k7=>wp_region_lit (aA ((Ro (t:=s) hk3 rfl rfl)) ?_));simp only[zz];refine bA m bO rfl ?_;clear m;intro g3 u m;simp only[zz];refine aT m 0 rfl rfl rfl aC (cU rfl) rfl ?_;clear m;intro u m;simp only[zy,zx,bB,zF,zG,Nat.reduceAdd] at m;refine aF (k7 _ _ ?_);try clear k7 K7
     refine aD fun K8 k8=>wp_region_lit (aJ rfl ((m.b 0 rfl).full aI aC) ?_);simp only[zz];refine aA (aH bD aC rfl rfl (by decide) (by decide) rfl) ?_;simp only[zz];refine aJ rfl ((m.b 3 rfl).lies aI aC rfl rfl) ?_;simp only[zz,zy,Nat.zero_add,Nat.reduceAdd,Nat.reduceMul,Int.reduceToNat];refine aA (cV rfl rfl) (aA (aB) ?_);simp only[zz];refine eW rfl (fun hb=>bJ rfl ((m.b 0 rfl).full aI aC)) (fU rfl (fun hb=>aH bD aC rfl rfl (by decide) (by decide) rfl) ?_);simp only[zz];refine eW rfl (fun hb=>bJ (bW hb rfl) ((m.b 3 rfl).lies aI aC rfl rfl)) ?_;simp only[zz,zy,Nat.zero_add,Nat.reduceAdd,Nat.reduceMul,Int.reduceToNat];refine fU rfl (fun hb=>cV (bW hb rfl) (bW hb rfl)) (aA (fH rfl rfl rfl) (aA (aB) ?_));simp only[zz];refine eW rfl (fun hb=>bJ rfl ((m.b 0 rfl).full aI aC)) (fU rfl (fun hb=>aH bD aC rfl rfl (by decide) (by decide) rfl) ?_);simp only[zz];refine eW rfl (fun hb=>bJ (bW hb rfl) ((m.b 3 rfl).lies aI aC rfl rfl)) ?_;simp only[zz,zy,Nat.zero_add,Nat.reduceAdd,Nat.reduceMul,Int.reduceToNat];refine fU rfl (fun hb=>cV (bW hb rfl) (bW hb rfl)) (aA (fH rfl rfl rfl) (aF (k8 _ _ ?_)));try clear k8 K8
     simp only[zz];refine jO rfl (fun hc2=>?_) (fun hc2=>?_)
     · skip
       rw [afi] at hc2;refine wp_region_lit (aA (aB) ?_);simp only[zz];refine aJ rfl ((m.b 0 rfl).full aI aC) ?_;simp only[zz];refine mJ rfl ?_;intro u g4 e hg hB;replace m:=m.newB e hg hB;clear e hg hB;simp only[zz];refine dD m 3 rfl rfl dS nJ rfl (by decide) rfl rfl rfl (m.b 0 rfl).rowsO (jZ rfl) (by have:=Xh s t k;omega) (by have:=Xh s t k;omega) ?_;clear m;intro A4 cap4 u m;simp only[zF,zG] at m;rw [show (yG s t k).flatMap mW ++ _ = (yG s t (k + 1)).flatMap mW by rw [Bk hk3,hc2,List.flatMap_append];rfl,show (yG s t k).length + 1 = (yG s t (k + 1)).length by rw [Bk hk3,hc2,List.length_append];rfl] at m;rw [show (yG s t k).length + 1 = (yG s t (k + 1)).length by rw [Bk hk3,hc2,List.length_append];rfl];refine aA (aG) (aF (k6 _ _ ?_));try clear k6 K6
       refine wp_region_lit ?_;simp only[zz];refine aA (aU rfl rfl (aV (by omega) (by omega))) (aA (aB) (aF ?_));simp only[zz];have he : yH s t (k + 1) = yH s t k:=by rw [Bl hk3,hc2,if_pos rfl,List.append_nil]
       rw [← he] at m ⊢;simp only[Exit.inBlock,Exit.then];refine ⟨3 - (k + 1),_,?_,rfl,?_,?_⟩
       · omega
       · simp only[zz,zv]
       · simp only[zQ,zR,zD,zE]
         exact ⟨k + 1,_,_,_,_,rfl,(m.sel [false,false,true,true,true]),by omega,rfl⟩
     · skip
       rw [afi] at hc2;refine wp_region_lit (aA (aB) ?_);simp only[zz];refine aJ rfl ((m.b 0 rfl).full aI aC) ?_;simp only[zz];refine mJ rfl ?_;intro u g4 e hg hB;replace m:=m.newB e hg hB;clear e hg hB;simp only[zz];refine dD m 2 rfl rfl dS nJ rfl (by decide) rfl rfl rfl (m.b 0 rfl).rowsO (jZ rfl) (by have:=Xi s t k;omega) (by have:=Xi s t k;omega) ?_;clear m;intro A5 cap5 u m;simp only[zF,zG] at m;rw [show (yH s t k).flatMap mW ++ _ = (yH s t (k + 1)).flatMap mW by rw [Bl hk3,hc2,List.flatMap_append];rfl,show (yH s t k).length + 1 = (yH s t (k + 1)).length by rw [Bl hk3,hc2,List.length_append];rfl] at m;rw [show (yH s t k).length + 1 = (yH s t (k + 1)).length by rw [Bl hk3,hc2,List.length_append];rfl];refine aA (aG) (aF (k6 _ _ ?_));try clear k6 K6
       refine wp_region_lit ?_;simp only[zz];refine aA (aU rfl rfl (aV (by omega) (by omega))) (aA (aB) (aF ?_));simp only[zz];have he : yG s t (k + 1) = yG s t k:=by rw [Bk hk3,hc2,if_neg Bool.false_ne_true,List.append_nil]
       rw [← he] at m ⊢;simp only[Exit.inBlock,Exit.then];refine ⟨3 - (k + 1),_,?_,rfl,?_,?_⟩
       · omega
       · simp only[zz,zv]
       · simp only[zQ,zR,zD,zE]
         exact ⟨k + 1,_,_,_,_,rfl,(m.sel [false,false,true,true,true]),by omega,rfl⟩
   · skip
     obtain rfl : k = 3:=by omega
     refine wp_exit (k2 _ _ ?_);try clear k2 K2
     refine aD fun K9 k9=>wp_region_lit (aA (aB) (aA (aB) (aA (aG) (aA (aG) ?_))));simp only[zz];refine aF (k9 _ _ ?_);try clear k9 K9
     refine wp_ret ?_;try simp only[Exit.inBlock,Exit.then,if_true]
     refine uA rfl rfl rfl ?_;try simp only[zD,zE]
     exact ⟨_,rfl,m.ext,_,_,_,_,_,_,rfl,rfl,rfl,m.sel [true,true,false]⟩
theorem aia {s t : T3} [IT s] [IT t] : eQ prog 176 [tr s,tr t] (.bool (Kv s t)):=by
 intro w;refine ⟨agu,?_⟩;have m:=Mem.refl w
 go_enter func176,ntmps176
 refine aD fun K1 k1=>wp_region_lit (cB m rfl ?_);clear m;intro g1 u m;simp only[zz];refine cB m rfl ?_;clear m;intro g2 u m;refine aA (aG) (aF (k1 _ _ ?_));try clear k1 K1
 refine aD fun K2 k2=>wp_region_lit ?_;simp only[zz];refine aJ rfl ((m.b 1 rfl).full bR aR) ?_;simp only[zz];refine aJ rfl ((m.b 0 rfl).full bR aR) ?_;simp only[zz];refine cD rfl rfl (Rp (s:=s) (t:=t) _) ?_;rintro v u e ⟨A5,n5,c5,A6,n6,c6,rfl,hn5,hn6,hM⟩;replace m:=m.plus hM;clear hM e;simp only[List.cons_append,List.nil_append] at m;refine aA (aB) (aA (bC rfl rfl) (aA (bC rfl rfl) ?_));simp only[zz];refine aA (aG) (aA (aG) (aF (k2 _ _ ?_)));try clear k2 K2
 refine aD fun K3 k3=>wp_region_lit ?_;simp only[zz];refine aJ rfl ((m.b 2 rfl).full bR aR) ?_;simp only[zz];refine aJ rfl ((m.b 3 rfl).full bR aR) ?_;simp only[zz];refine cD rfl rfl (Rp (s:=t) (t:=s) _) ?_;rintro v u e ⟨A7,n7,c7,A8,n8,c8,rfl,hn7,hn8,hM⟩;replace m:=m.plus hM;clear hM e;simp only[List.cons_append,List.nil_append] at m;refine aA (aB) (aA (bC rfl rfl) (aA (bC rfl rfl) ?_));simp only[zz];refine aA (aG) (aA (aG) (aF (k3 _ _ ?_)));try clear k3 K3
 refine aD fun K4 k4=>aD fun K5 k5=>wp_region_lit (aA (aB) (aA (bH rfl dS rfl) ?_));simp only[zz];refine aA (tY rfl rfl) (aA (aB) ?_);simp only[zz];refine eW rfl (fun hb=>bJ rfl ((m.b 5 rfl).full bR aR)) (Mb m rfl rfl (fun hb=>by simp only[List.toList_toArray,List.map_cons,List.map_nil,zA,zB,zC,zD,zE,hb,iZ];rfl) (fun hb=>Nm (t:=s)) ?_);clear m;intro u m;refine aA (fH rfl rfl rfl) (aA (aB) ?_);simp only[zz];refine eW rfl (fun hb=>bJ rfl ((m.b 4 rfl).full bR aR)) (Mb m rfl rfl (fun hb=>by simp only[List.toList_toArray,List.map_cons,List.map_nil,zA,zB,zC,zD,zE,hb,iZ];rfl) (fun hb=>Nm (t:=t)) ?_);clear m;intro u m;refine aA (fH rfl rfl rfl) (aF (k5 _ _ ?_));try clear k5 K5
 simp only[zz];refine jO rfl (fun hc1=>?_) (fun hc1=>?_)
 · skip
   rw [yD,yD] at hc1;refine aD fun K6 k6=>wp_region_lit (aJ rfl ((m.b 5 rfl).full bR aR) ?_);simp only[zz];refine aJ rfl ((m.b 4 rfl).full bR aR) ?_;simp only[zz];refine dH m rfl rfl (Le (s:=s) (t:=t)) ?_;clear m;intro u m;refine aA (aB) ?_;simp only[zz];refine eW rfl (fun hb=>bJ rfl ((m.b 4 rfl).full bR aR)) (eW rfl (fun hb=>bJ rfl ((m.b 5 rfl).full bR aR)) (Mb m rfl rfl (fun hb=>by simp only[List.toList_toArray,List.map_cons,List.map_nil,zA,zB,zC,zD,zE,hb,iZ];rfl) (fun hb=>Le (s:=t) (t:=s)) ?_));clear m;intro u m;refine aA (fH rfl rfl rfl) (aA (aG) (aF (k6 _ _ ?_)));try clear k6 K6
   refine wp_ret ?_;simp only[zz];try simp only[Exit.inBlock,Exit.then,if_true]
   refine bE rfl rfl ?_;try simp only[zD,zE]
   exact ⟨_,rfl,m.ext,by rw [ah6 hn5 hc1]⟩
 · skip
   rw [yD,yD] at hc1;obtain ⟨⟨hz,hf1,hf2⟩,hme⟩:=ah7 hn5 hc1;refine wp_skip (k4 _ _ ?_);try clear k4 K4
   refine aD fun K7 k7=>aD fun K8 k8=>?_;rcases Uz hf1 hf2 hz with ⟨xa,ua,ub,va,vb,h1,h2,h3⟩ | ⟨xa,xb,ua,va,h1,h2,h3⟩ | h1
   · skip
     rw [h1] at hn5;rw [h2] at hn6;rw [h3] at hn8;have i1 : I3 ua:=De (i:=0) h2 rfl;have i2 : I3 ub:=De (i:=1) h2 rfl;have i3 : I3 va:=De (i:=0) h3 rfl;have i4 : I3 vb:=De (i:=1) h3 rfl;simp only[List.length_cons,List.length_nil] at hn5 hn6 hn8;subst hn5;subst hn6;subst hn8;rw [h1,h2,h3] at m;obtain ⟨g5,rfl⟩:=(m.o 3 rfl).some (by decide);obtain ⟨g6,rfl⟩:=(m.o 2 rfl).some (by decide);obtain ⟨g8,rfl⟩:=(m.o 0 rfl).some (by decide);refine wp_region_lit (aA (aB) (aA (bH rfl dS rfl) (aF (k8 _ _ ?_))));try clear k8 K8
     refine wp_block (aD fun K9 k9=>wp_region_lit (aA (qQ (m:=1) (n:=1) rfl rfl (by decide)) (aA (aG) ?_)));simp only[zz];refine aF (k9 _ _ ?_);try clear k9 K9
     refine bK rfl (aD fun K10 k10=>mq m aM (by kernel_rfl) (aK (aB) ?_));simp only[zz];refine aK (aN dS aC rfl rfl (by decide) (by omega) rfl) ?_;simp only[zz];refine ql rfl (fun u m=>(((m.o 2 rfl).at (enc:=mW) (i:=0) El rfl).lies aI aC)) ?_;simp only[zz];refine aK (aB) ?_;simp only[zz];refine aK (aN dS aC rfl rfl (by decide) (by omega) rfl) ?_;simp only[zz];refine ql rfl (fun u m=>(((m.o 2 rfl).at (enc:=mW) (i:=1) El rfl).lies aI aC)) ?_;simp only[zz];refine ql rfl (fun u m=>((m.b 4 rfl).full bR aR)) ?_;simp only[zz];refine gV rfl rfl (Nt (p:=ua) (q:=ub) (t:=t)) (aK (aB) (fL rfl (fun hb=>aB) ?_));simp only[zz];refine fL rfl (fun hb=>aN dS aC (bW hb rfl) rfl (by decide) (by omega) rfl) ?_;simp only[zz];refine lS rfl (fun hb u m=>bJ (bW hb rfl) (((m.o 0 rfl).at (enc:=mW) (i:=0) El rfl).lies aI aC)) (fL rfl (fun hb=>aB) ?_);simp only[zz];refine fL rfl (fun hb=>aN dS aC (bW hb rfl) rfl (by decide) (by omega) rfl) ?_;simp only[zz];refine lS rfl (fun hb u m=>bJ (bW hb rfl) (((m.o 0 rfl).at (enc:=mW) (i:=1) El rfl).lies aI aC)) (lS rfl (fun hb u m=>bJ rfl ((m.b 5 rfl).full bR aR)) (Wc rfl rfl (fun hb=>by simp only[List.toList_toArray,List.map_cons,List.map_nil,zA,zB,zC,zD,zE,hb,iZ];rfl) (fun hb=>Nt (p:=va) (q:=vb) (t:=s)) (aK (fH rfl rfl rfl) (aK (aG) (bZ ?_)))));clear m;intro u m;refine k10 _ _ ?_;try clear k10 K10
     refine wp_ret ?_;simp only[zz];try simp only[Exit.inBlock,Exit.then,if_true]
     refine bE rfl rfl ?_;try simp only[zD,zE]
     exact ⟨_,rfl,m.ext,by rw [hme,h1,h2,h3];rfl⟩
   · skip
     rw [h1] at hn5;rw [h2] at hn6;rw [h3] at hn8;have i1 : I3 xa:=acJ (i:=0) h1 rfl;have i2 : I3 xb:=acJ (i:=1) h1 rfl;have i3 : I3 ua:=De (i:=0) h2 rfl;have i4 : I3 va:=De (i:=0) h3 rfl;simp only[List.length_cons,List.length_nil] at hn5 hn6 hn8;subst hn5;subst hn6;subst hn8;rw [h1,h2,h3] at m;obtain ⟨g5,rfl⟩:=(m.o 3 rfl).some (by decide);obtain ⟨g6,rfl⟩:=(m.o 2 rfl).some (by decide);obtain ⟨g8,rfl⟩:=(m.o 0 rfl).some (by decide);refine wp_region_lit (aA (aB) (aA (bH rfl dS rfl) (aF (k8 _ _ ?_))));try clear k8 K8
     refine wp_block (aD fun K11 k11=>wp_region_lit (aA (By (m:=2) (n:=1) rfl rfl (by decide)) (aA (aG) ?_)));simp only[zz];refine aF (k11 _ _ ?_);try clear k11 K11
     refine gA rfl (aD fun K12 k12=>wp_region_lit (aA (qQ (m:=2) (n:=2) rfl rfl (by decide)) (aA (aG) (aF (k12 _ _ ?_)))));try clear k12 K12
     refine bK rfl (aD fun K13 k13=>?_);simp only[zz];apply aiL m (T1:=30) (T2:=30)
     · skip
       refine wX m [true,true,true,true,true,true] (.take 0 (.take 1 (.take 2 (.take 3 (.take 4 (.take 5 (.two 6 (.one 7 (.one 8 (.one 9 .nil))) 7 (.one 6 (.one 8 (.one 9 .nil)))))))))) aM (by kernel_rfl) (fun _ _ _ _ _ h=>by cases h.1) ?_;intro u m;refine aZ (by simp only[zw];rfl) (aS (aB) (aY (aZ (by simp only[zw];rfl) ?_)));simp only[zz];refine aS (aN dS aC rfl rfl (by decide) (by omega) rfl) (aY (aZ (by simp only[zw];rfl) ?_));simp only[zz];refine cI rfl (fun u m=>(((m.o 3 rfl).at (enc:=mW) (i:=0) El rfl).lies aI aC)) ?_;simp only[zz];refine aY (aZ (by simp only[zw];rfl) (aS (aB) (aY (aZ (by simp only[zw];rfl) ?_))));simp only[zz];refine aS (aN dS aC rfl rfl (by decide) (by omega) rfl) (aY (aZ (by simp only[zw];rfl) ?_));simp only[zz];refine cI rfl (fun u m=>(((m.o 3 rfl).at (enc:=mW) (i:=1) El rfl).lies aI aC)) ?_;simp only[zz];refine aY ?_;refine wV (by simp only[zw];rfl) (by simp only[zw];rfl) ?_ ?_
       · skip
         refine bA m bO rfl ?_;clear m;intro g3 u m;refine aF (⟨m.sel [false,true,true,true,true,true,true],?_⟩);refine dZ (by simp only[zw];rfl) ?_;simp only[zz];refine bA m bO rfl ?_;clear m;intro g4 u m;refine aF (⟨m.sel [false,false,true,true,true,true,true,true],?_⟩);refine dZ (by simp only[zw];rfl) ?_;simp only[zz];refine aT m 1 rfl rfl rfl aC (cU rfl) rfl ?_;clear m;intro u m;simp only[zy,zx,bB,zF,zG,Nat.reduceAdd] at m;refine aF (⟨m.sel [false,false,true,true,true,true,true,true],?_⟩);refine dZ (by simp only[zw];rfl) ?_;refine aT m 0 rfl rfl rfl aC (cU rfl) rfl ?_;clear m;intro u m;simp only[zy,zx,bB,zF,zG,Nat.reduceAdd] at m;refine aF (⟨m.sel [false,false,true,true,true,true,true,true],?_⟩);exact lH (⟨rfl,g3,g4,rfl,m⟩)
       · skip
         refine bA m bO rfl ?_;clear m;intro g3 u m;refine aF (⟨m.sel [false,true,true,true,true,true,true],?_⟩);refine dZ (by simp only[zw];rfl) ?_;simp only[zz];refine bA m bO rfl ?_;clear m;intro g4 u m;refine aF (⟨m.sel [false,false,true,true,true,true,true,true],?_⟩);refine dZ (by simp only[zw];rfl) ?_;simp only[zz];refine aT m 0 rfl rfl rfl aC (cU rfl) rfl ?_;clear m;intro u m;simp only[zy,zx,bB,zF,zG,Nat.reduceAdd] at m;refine aF (⟨m.sel [false,false,true,true,true,true,true,true],?_⟩);refine dZ (by simp only[zw];rfl) ?_;refine aT m 1 rfl rfl rfl aC (cU rfl) rfl ?_;clear m;intro u m;simp only[zy,zx,bB,zF,zG,Nat.reduceAdd] at m;refine aF (⟨m.sel [false,false,true,true,true,true,true,true],?_⟩);exact lH (⟨rfl,g4,g3,rfl,m.s01⟩)
     intro g3 g4 u m;try dsimp only
     refine k13 _ _ ?_;try clear k13 K13
     refine aD fun K14 k14=>mq m aM (by kernel_rfl) (ql rfl (fun u m=>((m.b 1 rfl).full aI aC)) ?_);simp only[zz];refine ql rfl (fun u m=>((m.b 0 rfl).full aI aC)) ?_;simp only[zz];refine aK (aB) ?_;simp only[zz];refine aK (aN dS aC rfl rfl (by decide) (by omega) rfl) ?_;simp only[zz];refine ql rfl (fun u m=>(((m.o 4 rfl).at (enc:=mW) (i:=0) El rfl).lies aI aC)) ?_;simp only[zz];refine aK (aB) ?_;simp only[zz];refine aK (aN dS aC rfl rfl (by decide) (by omega) rfl) ?_;simp only[zz];refine ql rfl (fun u m=>(((m.o 2 rfl).at (enc:=mW) (i:=0) El rfl).lies aI aC)) ?_;simp only[zz];refine gV rfl rfl (pV (a:=xa) (b:=xb) (c:=ua) (d:=va)) (aK (tY rfl rfl) (aK (aB) ?_));simp only[zz];refine eL rfl (fun hb u m=>bJ rfl ((m.b 1 rfl).full aI aC)) (eL rfl (fun hb u m=>bJ rfl ((m.b 0 rfl).full aI aC)) (eL rfl (fun hb u m=>bJ rfl ((m.b 1 rfl).full aI aC)) (dJ rfl (fun hb=>aB) ?_)));simp only[zz];refine dJ rfl (fun hb=>aN dS aC (bW hb rfl) rfl (by decide) (by omega) rfl) ?_;simp only[zz];refine eL rfl (fun hb u m=>bJ (bW hb rfl) (((m.o 4 rfl).at (enc:=mW) (i:=0) El rfl).lies aI aC)) (Mc rfl rfl (fun hb=>by simp only[List.toList_toArray,List.map_cons,List.map_nil,zA,zB,zC,zD,zE,hb,iZ];rfl) (fun hb=>mS (a:=xa) (b:=xb) (c:=xa) (d:=ua)) ?_);simp only[zz];refine eL rfl (fun hb u m=>bJ rfl ((m.b 1 rfl).full aI aC)) (eL rfl (fun hb u m=>bJ rfl ((m.b 0 rfl).full aI aC)) (eL rfl (fun hb u m=>bJ rfl ((m.b 1 rfl).full aI aC)) (dJ rfl (fun hb=>aB) ?_)));simp only[zz];refine dJ rfl (fun hb=>aN dS aC (bW hb rfl) rfl (by decide) (by omega) rfl) ?_;simp only[zz];refine eL rfl (fun hb u m=>bJ (bW hb rfl) (((m.o 2 rfl).at (enc:=mW) (i:=0) El rfl).lies aI aC)) (Mc rfl rfl (fun hb=>by simp only[List.toList_toArray,List.map_cons,List.map_nil,zA,zB,zC,zD,zE,hb,iZ];rfl) (fun hb=>mS (a:=xa) (b:=xb) (c:=xa) (d:=va)) (dJ rfl (fun hb=>Kj (bW hb rfl) (bW hb rfl)) (aK (eS rfl rfl rfl) (aK (aG) ?_))));simp only[zz];refine bZ ?_;clear m;intro u m;refine k14 _ _ ?_;try clear k14 K14
     refine wp_ret ?_;try simp only[Exit.inBlock,Exit.then,if_true]
     refine bE rfl rfl ?_;try simp only[zD,zE]
     exact ⟨_,rfl,m.ext,by rw [hme,h1,h2,h3];exact congrArg Value.bool ah8⟩
   · skip
     rw [h1] at hn5;subst hn5;refine wp_region_lit (aA (aB) (aA (bH rfl dS rfl) (aF (k8 _ _ ?_))));try clear k8 K8
     refine wp_block (aD fun K15 k15=>wp_region_lit (aA (By (m:=3) (n:=1) rfl rfl (by decide)) (aA (aG) ?_)));simp only[zz];refine aF (k15 _ _ ?_);try clear k15 K15
     refine gA rfl (aD fun K16 k16=>wp_region_lit (aA (By (m:=3) (n:=2) rfl rfl (by decide)) (aA (aG) (aF (k16 _ _ ?_)))));try clear k16 K16
     refine gA rfl (wp_skip (k7 _ _ ?_));try clear k7 K7
     refine aD fun K17 k17=>wp_region_lit (aA (aG) (aF (k17 _ _ ?_)));try clear k17 K17
     refine wp_ret ?_;simp only[zz];try simp only[Exit.inBlock,Exit.then,if_true]
     refine bE rfl rfl ?_;try simp only[zD,zE]
     exact ⟨_,rfl,m.ext,by rw [hme,ah9 h1]⟩
end Go.Proofs.YtfekpcimgncioaaGreatDoor
namespace Go.Proofs.YtfekpcimgncioaaGreatDoor
open Go.Proofs.Tryz
open Go.RowKit Go.Lith
set_option maxRecDepth 100000
attribute [local irreducible] wpList wpQuiet dB bL cE Code.wp
theorem acK {g50 g51 : Nat} {t r : T3} [IT t] [IT r] (w : World) (hB50 : fF w g50 [.int .i64 (xY t 0),.int .i64 (xY t 1),.int .i64 (xY t 2),.int .i64 (xZ t 0),.int .i64 (xZ t 1),.int .i64 (xZ t 2)] 222) (hB51 : fF w g51 (aW t) 39) : eG prog 174 [tr r,.pointer (some ⟨g50,0,none⟩),.pointer (some ⟨g51,0,none⟩)] w (fun v _=>v = .bool (qM t r)):=by
 refine ⟨ags,?_⟩;have m:=Mem.refl w
 go_enter func174,ntmps174
 refine aD fun K1 k1=>wp_region_lit (cB m rfl ?_);clear m;intro g1 u m;refine aA (aG) (aF (k1 _ _ ?_));try clear k1 K1
 refine aD fun K2 k2=>?_;simp only[zz];refine mq m aM (by kernel_rfl) (ql rfl (fun u m=>((hB50.ext m.ext).full Mh oO)) ?_);simp only[zz];refine ql rfl (fun u m=>((m.b 0 rfl).full bR aR)) ?_;simp only[zz];refine gV rfl rfl (Rb (t:=r)) ?_;simp only[zz];refine gV rfl rfl (ahU (t:=t) (r:=r)) (aK (aB) ?_);simp only[zz];refine eL rfl (fun hb u m=>bJ rfl ((m.b 0 rfl).full bR aR)) (eL rfl (fun hb u m=>bJ rfl ((hB51.ext m.ext).full bR aR)) (Mc rfl rfl (fun hb=>by simp only[List.toList_toArray,List.map_cons,List.map_nil,zA,zB,zC,zD,zE,hb,iZ];rfl) (fun hb=>aia (s:=r) (t:=t)) (aK (eS rfl rfl rfl) (aK (aG) (bZ ?_)))));clear m;intro u m;refine k2 _ _ ?_;try clear k2 K2
 refine wp_ret ?_;simp only[zz];try simp only[Exit.inBlock,Exit.then,if_true]
 refine bE rfl rfl ?_;try simp only[zD,zE]
 exact ⟨_,rfl,m.ext,rfl⟩
theorem acL {ts : List T3} {N cap : Nat} {A : Option Addr} {g50 g51 : Nat} {t : T3} [IT t] (w : World) (hB50 : fF w g50 [.int .i64 (xY t 0),.int .i64 (xY t 1),.int .i64 (xY t 2),.int .i64 (xZ t 0),.int .i64 (xZ t 1),.int .i64 (xZ t 2)] 222) (hB51 : fF w g51 (aW t) 39) (hT : bY w A N ts) (hN : N ≤ 10000000) : eG prog 244 [.slice A N cap,.func (.func 174) #[] #[.pointer (some ⟨g50,0,none⟩),.pointer (some ⟨g51,0,none⟩)]] w (fun v _=>∃ k : Int,v = .int .i64 k ∧ decide (0 ≤ k) = ts.any (qM t)):=by
 refine ⟨agU,?_⟩;have m:=Mem.refl w;have htl:=hT.len
 go_enter func244,ntmps244
 refine aD fun K1 k1=>wp_region_lit (aA (aG) (aF (k1 _ _ ?_)));try clear k1 K1
 refine aD fun K2 k2=>aD fun K3 k3=>wp_region_lit (aA (aB) (aA (bH rfl bQ rfl) (aA (aB) ?_)));simp only[zz];refine aF (k3 _ _ ?_);try clear k3 K3
 refine wp_block ?_;try simp only[Nat.zero_add,Nat.reduceAdd,Nat.reduceMul,Int.reduceToNat]
 refine bT [8] [4,5,9,10,11,12,13,14,15,16,17,18] (fun n vs wl=>∃ (k : Nat),vs = [.int .i64 (k:Int)] ∧ Mem w wl [] ∧ (∀ (j : Nat) (r : T3),j < k → ts[j]? = some r → qM t r = false) ∧ (k ≤ N) ∧ (n = N - k)) ?_ ?_
 · skip
   apply Exists.intro;simp only[zQ,zR,zD,zE];exact ⟨0,rfl,m,(fun j r h=>by omega),Nat.zero_le _,rfl⟩
 · intro n vs wr hI u
   clear m;obtain ⟨k,rfl,m,hq0,hk,hn⟩:=hI;simp only[zu,zF,zG];refine aD fun K4 k4=>wp_region_lit (aA (cW rfl rfl) (aF (k4 _ _ ?_)));try clear k4 K4
   refine aD fun K5 k5=>?_;simp only[zz];refine cG rfl (fun hc1=>?_) (fun hc1=>?_)
   · skip
     obtain ⟨r,hr,hri,a,rfl,hrow⟩:=hT.get (i:=k) (by omega);refine wp_skip (k5 _ _ ?_);try clear k5 K5
     refine aD fun K6 k6=>wp_block (aD fun K7 k7=>wp_region_lit (aA (aB) (aA (aG) (aF (k7 _ _ ?_)))));try clear k7 K7
     refine aD fun K8 k8=>wp_region_lit (aA (aB) (aA (aB) ?_));simp only[zz];refine aA (aB) ?_;simp only[zz];refine aA (aN bQ aR rfl rfl (by omega) (by omega) (dC (Int.toNat_natCast _))) ?_;simp only[zz];refine aJ rfl ((hrow.ext m.ext).lies bR aR) ?_;simp only[zz];refine eE m rfl rfl (acK (t:=t) (r:=r) _ (hB50.ext m.ext) (hB51.ext m.ext)) ?_;clear m;rintro v u m rfl;refine aF (k8 _ _ ?_);try clear k8 K8
     simp only[zz];refine eD rfl (fun hc2=>?_) (fun hc2=>?_)
     · skip
       refine aD fun K9 k9=>wp_region_lit (aA (aB) (aA (aG) (aF (k9 _ _ ?_))));try clear k9 K9
       refine wp_ret ?_;simp only[zz];try simp only[Exit.inBlock,Exit.then,if_true]
       refine bE rfl rfl ?_;try simp only[zD,zE]
       exact ⟨_,rfl,m.ext,k,rfl,by rw [decide_eq_true (by omega : (0 : Int) ≤ k)];exact (List.any_eq_true.2 ⟨r,List.mem_of_getElem? hr,hc2⟩).symm⟩
     · skip
       refine wp_skip (k6 _ _ ?_);try clear k6 K6
       refine wp_region_lit (aA (aU rfl rfl (aV (by omega) (by omega))) (aA (aB) (aF ?_)));simp only[zz];simp only[Exit.inBlock,Exit.then];refine ⟨N - (k + 1),_,?_,rfl,?_,?_⟩
       · omega
       · simp only[zz,zv]
       · simp only[zQ,zR,zD,zE]
         exact ⟨k + 1, rfl, m, (fun j r2 hj h1 => by
          rcases Nat.lt_or_ge j k with h | h
          · exact hq0 j r2 h h1
          · obtain rfl : j = k:=by omega
            rw [hr] at h1;cases h1;exact hc2),by omega,rfl⟩
   · skip
     obtain rfl : k = N:=by omega
     refine wp_exit (k2 _ _ ?_);try clear k2 K2
     refine aD fun K10 k10=>wp_region_lit (aA (aG) (aF (k10 _ _ ?_)));try clear k10 K10
     refine wp_ret ?_;simp only[zz];try simp only[Exit.inBlock,Exit.then,if_true]
     refine bE rfl rfl ?_;try simp only[zD,zE]
     exact ⟨_,rfl,m.ext,-1,rfl,(by rw [show ts.any (qM t) = false from List.any_eq_false.2 fun r hr=>by obtain ⟨j,hj⟩:=List.mem_iff_getElem?.1 hr;rw [hq0 j r (by have:=(List.getElem?_eq_some_iff.1 hj).1;omega) hj];decide];rfl)⟩
theorem vL {ts : List T3} {N cap : Nat} {A : Option Addr} {g50 g51 : Nat} {t : T3} [IT t] (w : World) (hB50 : fF w g50 [.int .i64 (xY t 0),.int .i64 (xY t 1),.int .i64 (xY t 2),.int .i64 (xZ t 0),.int .i64 (xZ t 1),.int .i64 (xZ t 2)] 222) (hB51 : fF w g51 (aW t) 39) (hT : bY w A N ts) (hN : N ≤ 10000000) : eG prog 177 [.slice A N cap,.func (.func 174) #[] #[.pointer (some ⟨g50,0,none⟩),.pointer (some ⟨g51,0,none⟩)]] w (fun v _=>v = .bool (ts.any (qM t))):=by
 refine ⟨agv,?_⟩;have m:=Mem.refl w
 go_enter func177,ntmps177
 refine aD fun K1 k1=>wp_region_lit (aA (aG) (aF (k1 _ _ ?_)));try clear k1 K1
 refine aD fun K2 k2=>wp_region_lit (aA (aB) (aA (aB) ?_));simp only[zz];refine eE m rfl rfl (acL (t:=t) _ (hB50.ext m.ext) (hB51.ext m.ext) (hT.ext m.ext) hN) ?_;clear m;rintro v u m ⟨kk,rfl,hkk⟩;refine aA (tJ rfl rfl) (aA (aG) (aF (k2 _ _ ?_)));try clear k2 K2
 refine wp_ret ?_;simp only[zz];try simp only[Exit.inBlock,Exit.then,if_true]
 refine bE rfl rfl ?_;try simp only[zD,zE]
 exact ⟨_,rfl,m.ext,by rw [← hkk]⟩
def Jo (ms rs : List T3) (t : T3) (k : Nat) : Bool:=!rs.any (qM t) && !(ms.take k).any (qM t)
def aam (ms rs : List T3) : Bool:=ms.zipIdx.all fun x=>Jo ms rs x.1 x.2
theorem Xj {ms rs : List T3} {k : Nat} {t : T3} (ht : ms[k]? = some t) (h : Jo ms rs t k = false) : aam ms rs = false:=by
 unfold aam;rw [List.all_eq_false];exact ⟨(t,k),List.mk_mem_zipIdx_iff_getElem?.2 ht,by rw [h];decide⟩
theorem acM {ms rs : List T3} (h : ∀ (k : Nat) (t : T3),ms[k]? = some t → Jo ms rs t k = true) : aam ms rs = true:=by
 unfold aam;rw [List.all_eq_true];rintro ⟨t,k⟩ hx;exact h k t (List.mk_mem_zipIdx_iff_getElem?.1 hx)
theorem aib {ms rs : List T3} {t : T3} {k : Nat} (h : rs.any (qM t) = true) : Jo ms rs t k = false:=by unfold Jo;rw [h];rfl
theorem aic {ms rs : List T3} {t : T3} {k : Nat} (h : (ms.take k).any (qM t) = true) : Jo ms rs t k = false:=by unfold Jo;rw [h,Bool.not_true,Bool.and_false]
theorem aid {ms rs : List T3} {t : T3} {k : Nat} (h1 : rs.any (qM t) = false) (h2 : (ms.take k).any (qM t) = false) : Jo ms rs t k = true:=by unfold Jo;rw [h1,h2];rfl
theorem acN {g90 g91 ga gf gx gy N cap cx cy cf nm cm no co nr cr : Nat} {A Am Ao Ar : Option Addr} {ex ey ef : Array MapEntry} {X Y F : List (P3 × Bool)} {ts : List T3} {p q : P3} {ms rs : List T3} (w : World) (hB91 : fF w g91 [.pointer (some ⟨g90,0,none⟩),.int .i64 p.x,.int .i64 p.y,.int .i64 p.z,.int .i64 q.x,.int .i64 q.y,.int .i64 q.z,.map (some gx),.map (some gy),.slice Am nm cm,.slice Ao no co,.slice Ar nr cr] 218) (hB90 : fF w g90 [.slice A N cap,.map (some ga),.map (some gf)] 109) (hTm : bY w Am nm ms) (hTr : bY w Ar nr rs) (hcm : nm ≤ cm) (hN : nm + nr ≤ 10000000) : eG prog 105 [.pointer (some ⟨g91,0,none⟩)] w (fun v _=>v = .bool (aam ms rs)):=by
 refine ⟨afZ,?_⟩;have m:=Mem.refl w;have htm:=hTm.len
 go_enter func105,ntmps105
 refine aD fun K1 k1=>wp_region_lit (aA (aG) (aF (k1 _ _ ?_)));try clear k1 K1
 refine aD fun K2 k2=>aD fun K3 k3=>wp_region_lit (aA (aB) (aA (bS rfl) (aA (aL (c:=0) fA rfl dU rfl rfl) ?_)));simp only[zz];refine aJ rfl ((hB91.ext m.ext).lies1 nI rfl) ?_;simp only[zz];refine aA (bH rfl bQ rfl) (aA (aB) (aF (k3 _ _ ?_)));try clear k3 K3
 refine wp_block ?_;simp only[zz];try simp only[Nat.zero_add,Nat.reduceAdd,Nat.reduceMul,Int.reduceToNat]
 refine bT [12] [2,3,4,5,6,13,14,15,16,17,18,19,20,21,22,23,24,25,26,27,28,29,30,31,32,33,34,35,36] (fun n vs wl=>∃ (k : Nat),vs = [.int .i64 (k:Int)] ∧ Mem w wl [] ∧ (∀ (j : Nat) (t : T3),j < k → ms[j]? = some t → Jo ms rs t j = true) ∧ (k ≤ nm) ∧ (n = nm - k)) ?_ ?_
 · skip
   apply Exists.intro;simp only[zQ,zR,zD,zE];exact ⟨0,rfl,m,(fun j t h=>by omega),Nat.zero_le _,rfl⟩
 · intro n vs wr hI u
   clear m;obtain ⟨k,rfl,m,hu0,hk,hn⟩:=hI;simp only[zu,zF,zG];refine aD fun K4 k4=>wp_region_lit (aA (cW rfl rfl) (aF (k4 _ _ ?_)));try clear k4 K4
   refine aD fun K5 k5=>?_;simp only[zz];refine cG rfl (fun hc1=>?_) (fun hc1=>?_)
   · skip
     obtain ⟨t,ht,hti,a,rfl,hrow⟩:=hTm.get (i:=k) (by omega);refine wp_skip (k5 _ _ ?_);try clear k5 K5
     refine aD fun K6 k6=>wp_block (aD fun K7 k7=>wp_region_lit (aA (aB) ?_));simp only[zz];refine aA (aN bQ aR rfl rfl (by omega) (by omega) (dC (Int.toNat_natCast _))) ?_;simp only[zz];refine aJ rfl ((hrow.ext m.ext).lies bR aR) ?_;simp only[zz];refine bA m fP rfl ?_;clear m;intro g1 u m;refine aA (aG) ?_;simp only[zz];refine aT m 0 rfl rfl rfl aR (cU rfl) rfl ?_;clear m;intro u m;simp only[zy,zx,bB,zF,zG,Nat.reduceAdd] at m;refine aF (k7 _ _ ?_);try clear k7 K7
     refine aD fun K8 k8=>wp_region_lit (aJ rfl ((m.b 0 rfl).full bR aR) ?_);simp only[zz];refine dH m rfl rfl (Rb (t:=t)) ?_;clear m;intro u m;simp only[zz];refine bA m Ac rfl ?_;clear m;intro g2 u m;simp only[zz];refine aT m 0 rfl rfl rfl oO (cU rfl) rfl ?_;clear m;intro u m;simp only[zy,zx,bB,zF,zG,Nat.reduceAdd] at m;refine aF (k8 _ _ ?_);try clear k8 K8
     refine aD fun K9 k9=>wp_region_lit (aA (eZ) ?_);simp only[zz,List.map_toArray,List.map_cons,List.map_nil];refine aA (aG) (aF (k9 _ _ ?_));try clear k9 K9
     refine aD fun K10 k10=>?_;simp only[zz];rcases Bool.eq_false_or_eq_true (rs.any (qM t)) with hq | hq
     · skip
       refine wp_region_lit (aA (aB) (aA (bS rfl) (aA (aL (c:=0) fA rfl dU rfl rfl) ?_)));simp only[zz];refine aJ rfl ((hB91.ext m.ext).lies1 nI rfl) ?_;simp only[zz];refine aA (aB) ?_;simp only[zz];refine eE m rfl rfl (vL (ts:=rs) (t:=t) _ (m.b 0 rfl) (m.b 1 rfl) (hTr.ext m.ext) (by omega)) ?_;clear m;rintro v u m rfl;simp only[zz];rw [hq];refine aA (aB) (jV rfl (jV rfl (jV rfl ?_)));simp only[zz];refine jV rfl (jV rfl (jV rfl (jV rfl ?_)));simp only[zz];refine jV rfl (aA (eK rfl) (aF (k10 _ _ ?_)));try clear k10 K10
       refine bK rfl (aD fun K11 k11=>wp_region_lit (aA (aG) (aF (k11 _ _ ?_))));try clear k11 K11
       refine wp_ret ?_;simp only[zz];try simp only[Exit.inBlock,Exit.then,if_true]
       refine bE rfl rfl ?_;try simp only[zD,zE]
       exact ⟨_,rfl,m.ext,by rw [Xj ht (aib hq)]⟩
     · skip
       refine wp_region_lit (aA (aB) (aA (bS rfl) (aA (aL (c:=0) fA rfl dU rfl rfl) ?_)));simp only[zz];refine aJ rfl ((hB91.ext m.ext).lies1 nI rfl) ?_;simp only[zz];refine aA (aB) ?_;simp only[zz];refine eE m rfl rfl (vL (ts:=rs) (t:=t) _ (m.b 0 rfl) (m.b 1 rfl) (hTr.ext m.ext) (by omega)) ?_;clear m;rintro v u m rfl;simp only[zz];rw [hq];refine aA (aB) (bM rfl (aA (aB) (bM rfl (aA (bS rfl) (bM rfl (aA (aL (c:=0) fA rfl dU rfl rfl) ?_))))));simp only[zz];refine bM rfl (aJ rfl ((hB91.ext m.ext).lies1 nI rfl) ?_);simp only[zz];refine bM rfl (aA (aB) (bM rfl ?_));simp only[zz];refine aA (rJ bQ aR rfl rfl (Int.toNat_natCast _) (by omega) (by omega)) (bM rfl (aA (aB) (bM rfl ?_)));simp only[zz];refine eE m rfl rfl (vL (ts:=ms.take k) (t:=t) _ (m.b 0 rfl) (m.b 1 rfl) ((hTm.take (k:=k) (by omega)).ext m.ext) (by omega)) ?_;clear m;rintro v u m rfl;refine aA (iB rfl) (aF (k10 _ _ ?_));try clear k10 K10
       simp only[zz];refine eD rfl (fun hc2=>?_) (fun hc2=>?_)
       · skip
         refine aD fun K12 k12=>wp_region_lit (aA (aG) (aF (k12 _ _ ?_)));try clear k12 K12
         refine wp_ret ?_;simp only[zz];try simp only[Exit.inBlock,Exit.then,if_true]
         refine bE rfl rfl ?_;try simp only[zD,zE]
         exact ⟨_,rfl,m.ext,by rw [Xj ht (aic hc2)]⟩
       · skip
         refine wp_skip (k6 _ _ ?_);try clear k6 K6
         refine wp_region_lit (aA (aU rfl rfl (aV (by omega) (by omega))) (aA (aB) (aF ?_)));simp only[zz];simp only[Exit.inBlock,Exit.then];refine ⟨nm - (k + 1),_,?_,rfl,?_,?_⟩
         · omega
         · simp only[zz,zv]
         · simp only[zQ,zR,zD,zE]
           exact ⟨k + 1, rfl, (m.sel [false, false]), (fun j t2 hj h1 => by
            rcases Nat.lt_or_ge j k with h | h
            · exact hu0 j t2 h h1
            · obtain rfl : j = k:=by omega
              rw [ht] at h1;cases h1;exact aid hq hc2),by omega,rfl⟩
   · skip
     refine wp_exit (k2 _ _ ?_);try clear k2 K2
     refine aD fun K13 k13=>wp_region_lit (aA (aG) (aF (k13 _ _ ?_)));try clear k13 K13
     refine wp_ret ?_;simp only[zz];try simp only[Exit.inBlock,Exit.then,if_true]
     refine bE rfl rfl ?_;try simp only[zD,zE]
     exact ⟨_,rfl,m.ext,by rw [acM fun j t h1=>hu0 j t (by have:=(List.getElem?_eq_some_iff.1 h1).1;omega) h1]⟩
end Go.Proofs.YtfekpcimgncioaaGreatDoor
namespace Go.Lith
open Go.RowKit
section
variable {P : Program} {ops : Array Oper} {Q : Exit → Act → World → Prop} {md : Region.Mode} {S : World → Prop} {tl : List Nat}
def yI (P : Program) (md : Region.Mode) (ops : Array Oper) (Q : Exit → Act → World → Prop) (S : World → Prop) (tl : List Nat) : Nat → Array Bool → Act → World → Prop
 | 0,listed,a,w=>Region.ready md ops listed = [] ∧ Q .normal a w
 | fuel + 1,listed,a,w =>
  (Region.ready md ops listed = [] → Q .normal a w) ∧
  ∀ i ∈ Region.ready md ops listed,wpOp P ops Q i (fun a' w'=>(i ∉ tl → S w → S w') ∧ yI P md ops Q S tl fuel (listed.setIfInBounds i true) a' w') a w
theorem Hx : ∀ (fuel : Nat) (listed : Array Bool) (a : Act) (w : World),yI P md ops Q S tl fuel listed a w → wpAny P md ops Q fuel listed a w
 | 0,_,_,_,h=>h
 | fuel + 1,_,_,_,h=>⟨h.1,fun i hi=>wpOp_mono (fun a' w' h'=>Hx fuel _ a' w' h'.2) (h.2 i hi)⟩
def Va (md : Region.Mode) (ops : Array Oper) (listed : Array Bool) : Prop:=∀ j oj,ops[j]? = some oj → listed.getD j false = true → ∀ e ∈ oj.after,Region.binds md e = true → listed.getD e.on false = true
def Hy (md : Region.Mode) (ops : Array Oper) : Nat → Nat → Nat → Bool
 | 0,_,_=>false
 | f + 1,j,i=>match ops[j]? with
  | none=>false
  | some o=>o.after.any fun e=>Region.binds md e && (e.on == i || Hy md ops f e.on i)
theorem Bm {listed : Array Bool} (D : Va md ops listed) {i : Nat} : ∀ (f j : Nat),(∀ oj,ops[j]? = some oj → ∀ e ∈ oj.after,Region.binds md e = true → listed.getD e.on false = true) → Hy md ops f j i = true → listed.getD i false = true
 | 0,_,_,h=>by cases h
 | f + 1,j,hj,h=>by
  unfold Hy at h;split at h
  · cases h
  · rename_i o ho
    rw [Array.any_eq_true] at h;obtain ⟨k,hk,hh⟩:=h;rw [Bool.and_eq_true,Bool.or_eq_true,beq_iff_eq] at hh;have hl:=hj o ho _ (Array.getElem_mem hk) hh.1;rcases hh.2 with e | hn
    · rw [← e];exact hl
    · exact Bm D f _ (fun oj hoj e he hb=>D _ oj hoj hl e he hb) hn
theorem Va.set {listed : Array Bool} (D : Va md ops listed) {i : Nat} (hi : i ∈ Region.ready md ops listed) : Va md ops (listed.setIfInBounds i true):=fun j oj hoj hl e he hb=>by
 obtain ⟨h0,o,ho,hall⟩:=mem_ready.1 hi;by_cases e' : i = j
 · subst e'
   rw [ho] at hoj;cases hoj;exact getD_set_true (hall e he hb)
 · rw [getD_set_ne false e'] at hl
   exact getD_set_true (D j oj hoj hl e he hb)
theorem Bn {S' : World → Prop} {i : Nat} {oi : Oper} {v : Value} (hi : ops[i]? = some oi) (hsel : ∀ (j : Nat) (o : Oper) cs b,ops[j]? = some o → o.op ≠ .select cs b)
 (hQ : ∀ c a w,Q (.panic c) (a.put oi.dst v) w → Q (.panic c) a w) (hk : (∀ w,S' w) ∨ ((∀ w,S w → S' w) ∧ ∀ j ∈ tl,∃ f,Hy md ops f j i = true)) :
 ∀ (fuel : Nat) (listed : Array Bool) (a : Act) (w : World),
  (∀ j oj,ops[j]? = some oj → j ≠ i → listed.getD j true = false → (∀ e ∈ oj.after,Region.binds md e = true → e.on ≠ i) → oi.apart ops oj = true) →
  i ∈ Region.ready md ops listed → Va md ops listed → YieldsIf P ops S' oi v a → (S w ∨ ∀ w,S' w) →
  yI P md ops Q S tl fuel (listed.setIfInBounds i true) (a.put oi.dst v) w → yI P md ops Q S tl (fuel + 1) listed a w:=by
 intro fuel;have hS' : ∀ w,(S w ∨ ∀ w,S' w) → S' w:=fun w h=>by
  rcases h with h | h
  · rcases hk with k | k
    · exact k w
    · exact k.1 w h
  · exact h w
 induction fuel with
 | zero =>
  intro listed a w _ hr D hy hS H;refine ⟨fun h=>(by rw [h] at hr;cases hr),fun j hj=>?_⟩;by_cases hji : j = i
  · subst hji;exact hy.wpOp hi (hS' w hS) ⟨fun _ h=>h,H⟩
  · have:=ready_mono hj hji
    rw [H.1] at this;cases this
 | succ fuel ih =>
  intro listed a w hfree hr D hy hS H;refine ⟨fun h=>(by rw [h] at hr;cases hr),fun j hj=>?_⟩;by_cases hji : j = i
  · subst hji;exact hy.wpOp hi (hS' w hS) ⟨fun _ h=>h,H⟩
  · have h1:=H.2 j (ready_mono hj hji)
    obtain ⟨hjun,oj,hoj,hall⟩:=mem_ready.1 hj;have hiun : listed.getD i false = true → False:=fun h1=>by
     have h0:=(mem_ready.1 hr).1;rcases Nat.lt_or_ge i listed.size with h' | h'
     · simp [h'] at h0 h1;rw [h0] at h1;cases h1
     · simp [Array.getElem?_eq_none h'] at h1
    have hnot : ∀ e ∈ oj.after,Region.binds md e = true → e.on ≠ i:=fun e he hb heq=>hiun (heq ▸ hall e he hb);have h2:=wpOp_putIf hoj (hfree j oj hoj hji hjun hnot) (fun cs b=>hsel i oi cs b hi) (fun cs b=>hsel j oj cs b hoj) hQ hy h1;have hfree' : ∀ k ok,ops[k]? = some ok → k ≠ i → (listed.setIfInBounds j true).getD k true = false →
     (∀ e ∈ ok.after,Region.binds md e = true → e.on ≠ i) → oi.apart ops ok = true:=fun k ok hk hki hun hno=>by
     refine hfree k ok hk hki ?_ hno;by_cases hjk : j = k
     · subst hjk;exact hjun
     · rw [getD_set_ne true hjk] at hun;exact hun
    have hstay : ∀ w',(j ∉ tl → S w → S w') → (S w' ∨ ∀ w,S' w):=fun w' h=>by
     rcases hk with k | k
     · exact .inr k
     · rcases hS with hS | hS
       · refine .inl (h (fun hm=>?_) hS)
         obtain ⟨f,hf⟩:=k.2 j hm;exact hiun (Bm D f j (fun oj' hoj' e he hb=>by rw [hoj] at hoj';cases hoj';exact hall e he hb) hf)
       · exact .inr hS
    refine wpOp_mono (fun a' w' h3=>⟨h3.2.1,ih (listed.setIfInBounds j true) a' w' hfree' (ready_mono hr (Ne.symm hji)) (D.set hj) h3.1 (hstay w' h3.2.1) ?_⟩) h2;rw [Array.setIfInBounds_comm _ _ hji];exact h3.2.2
theorem Hz {rs : List Nat} {fuel : Nat} {listed : Array Bool} {a : Act} {w : World} (hr : Region.ready md ops listed = rs) (hne : rs ≠ [])
 (h : ∀ i ∈ rs,wpOp P ops Q i (fun a' w'=>(i ∉ tl → S w → S w') ∧ yI P md ops Q S tl fuel (listed.setIfInBounds i true) a' w') a w) : yI P md ops Q S tl (fuel + 1) listed a w :=
 ⟨fun h0=>absurd (hr ▸ h0) hne,hr ▸ h⟩
inductive rD where
 | nil : rD
 | take : Nat → rD → rD
 | move : Nat → rD → rD
 | one : Nat → rD → rD
 | two : Nat → rD → Nat → rD → rD
def rD.ok (md : Region.Mode) (ops : Array Oper) (tl : List Nat) : rD → Nat → Array Bool → Bool → Bool
 | .nil,f,listed,_=>f == 0 && (Region.ready md ops listed).isEmpty
 | .take i t,f,listed,b=>decide (0 < f) && (ops[i]?).isSome && Region.free md ops listed i && (Region.ready md ops listed).contains i && b && tl.all (fun j=>Hy md ops 6 j i) && t.ok md ops tl (f - 1) (listed.setIfInBounds i true) b
 | .move i t,f,listed,b=>decide (0 < f) && (ops[i]?).isSome && Region.free md ops listed i && (Region.ready md ops listed).contains i && t.ok md ops tl (f - 1) (listed.setIfInBounds i true) b
 | .one i t,f,listed,b=>decide (0 < f) && (ops[i]?).isSome && decide (Region.ready md ops listed = [i]) && t.ok md ops tl (f - 1) (listed.setIfInBounds i true) (b && !tl.contains i)
 | .two i t j u,f,listed,b=>decide (0 < f) && (ops[i]?).isSome && (ops[j]?).isSome && decide (Region.ready md ops listed = [i,j]) && t.ok md ops tl (f - 1) (listed.setIfInBounds i true) (b && !tl.contains i) && u.ok md ops tl (f - 1) (listed.setIfInBounds j true) (b && !tl.contains j)
def fV (P : Program) (ops : Array Oper) (S : World → Prop) (tl : List Nat) (Q : Exit → Act → World → Prop) : rD → Act → World → Prop
 | .nil,a,w=>Q .normal a w
 | .take i t,a,w=>bL P ops S (fun _ a w=>fV P ops S tl Q t a w) [((ops[i]?).getD default,true)] a w
 | .move i t,a,w=>bL P ops (fun _=>True) (fun _ a w=>fV P ops S tl Q t a w) [((ops[i]?).getD default,true)] a w
 | .one i t,a,w=>wpList P ops (Exit.then (fun a w=>(i ∉ tl → S w) ∧ fV P ops S tl Q t a w) Q) [(ops[i]?).getD default] a w
 | .two i t j u,a,w=>wpList P ops (Exit.then (fun a w=>(i ∉ tl → S w) ∧ fV P ops S tl Q t a w) Q) [(ops[i]?).getD default] a w ∧ wpList P ops (Exit.then (fun a w=>(j ∉ tl → S w) ∧ fV P ops S tl Q u a w) Q) [(ops[j]?).getD default] a w
theorem iS {Q : Exit → Act → World → Prop} (hs : Region.noSelect ops = true) (hQ : ∀ c d v a w,Q (.panic c) (Act.put a d v) w → Q (.panic c) a w) : ∀ (t : rD) (f : Nat) (listed : Array Bool) (b : Bool) (a : Act) (w : World),
 t.ok md ops tl f listed b = true → Va md ops listed → (b = true → S w) → fV P ops S tl Q t a w → yI P md ops Q S tl f listed a w
 | .nil,f,listed,b,a,w,hB,_,_,h=>by
  simp only[rD.ok,Bool.and_eq_true,beq_iff_eq] at hB;obtain ⟨rfl,h2⟩:=hB;exact ⟨by simpa using h2,h⟩
 | .take i t,f,listed,b,a,w,hB,D,hS,h=>by
  simp only[rD.ok,Bool.and_eq_true,decide_eq_true_eq] at hB;obtain ⟨⟨⟨⟨⟨⟨h0,h1⟩,h2⟩,h3⟩,hb⟩,hn⟩,h4⟩:=hB;obtain ⟨o,ho⟩:=Option.isSome_iff_exists.1 h1;simp only[fV,bL,ho,Option.getD_some] at h;obtain ⟨v,hy,hr⟩:=h;obtain ⟨f,rfl⟩ : ∃ g,f = g + 1:=⟨f - 1,by omega⟩
  have hrd : i ∈ Region.ready md ops listed:=by simpa using h3
  refine Bn (S':=S) ho (Region.noSelect_spec hs) (fun c a w=>hQ c _ v a w) (.inr ⟨fun _ h=>h,fun j hj=>⟨6,List.all_eq_true.1 hn j hj⟩⟩) f listed a w (Region.free_spec ho h2) hrd D hy (.inl (hS hb)) ?_;exact iS hs hQ t f _ b _ _ h4 (D.set hrd) hS hr
 | .move i t,f,listed,b,a,w,hB,D,hS,h=>by
  simp only[rD.ok,Bool.and_eq_true,decide_eq_true_eq] at hB;obtain ⟨⟨⟨⟨h0,h1⟩,h2⟩,h3⟩,h4⟩:=hB;obtain ⟨o,ho⟩:=Option.isSome_iff_exists.1 h1;simp only[fV,bL,ho,Option.getD_some] at h;obtain ⟨v,hy,hr⟩:=h;obtain ⟨f,rfl⟩ : ∃ g,f = g + 1:=⟨f - 1,by omega⟩
  have hrd : i ∈ Region.ready md ops listed:=by simpa using h3
  refine Bn (S':=fun _=>True) ho (Region.noSelect_spec hs) (fun c a w=>hQ c _ v a w) (.inl fun _=>trivial) f listed a w (Region.free_spec ho h2) hrd D hy (.inr fun _=>trivial) ?_;exact iS hs hQ t f _ b _ _ h4 (D.set hrd) hS hr
 | .one i t,f,listed,b,a,w,hB,D,hS,h=>by
  simp only[rD.ok,Bool.and_eq_true,decide_eq_true_eq] at hB;obtain ⟨⟨⟨h0,h1⟩,h2⟩,h4⟩:=hB;obtain ⟨o,ho⟩:=Option.isSome_iff_exists.1 h1;obtain ⟨f,rfl⟩ : ∃ g,f = g + 1:=⟨f - 1,by omega⟩
  refine Hz h2 (by simp) fun j hj=>?_;obtain rfl : j = i:=by simpa using hj
  simp only[fV,ho,Option.getD_some] at h;refine wpOp_mono (fun a' w' hh=>⟨fun hn _=>hh.1 hn,iS hs hQ t f _ _ a' w' h4 (D.set (by rw [h2];exact List.mem_singleton.2 rfl)) (fun hb=>hh.1 ?_) hh.2⟩) (gJ ho h);simp only[Bool.and_eq_true,Bool.not_eq_true',List.contains_eq_mem,decide_eq_false_iff_not] at hb;exact hb.2
 | .two i t j u,f,listed,b,a,w,hB,D,hS,h=>by
  simp only[rD.ok,Bool.and_eq_true,decide_eq_true_eq] at hB;obtain ⟨⟨⟨⟨⟨h0,h1⟩,h1'⟩,h2⟩,h4⟩,h5⟩:=hB;obtain ⟨o,ho⟩:=Option.isSome_iff_exists.1 h1;obtain ⟨o',ho'⟩:=Option.isSome_iff_exists.1 h1';obtain ⟨f,rfl⟩ : ∃ g,f = g + 1:=⟨f - 1,by omega⟩
  simp only[fV,ho,ho',Option.getD_some] at h;have hb2 : ∀ {k : Nat},(b && !tl.contains k) = true → k ∉ tl:=fun {k} hb=>by
   simp only[Bool.and_eq_true,Bool.not_eq_true',List.contains_eq_mem,decide_eq_false_iff_not] at hb;exact hb.2
  refine Hz h2 (by simp) fun k hk=>?_;have hk' : k = i ∨ k = j:=by simpa using hk
  rcases hk' with rfl | rfl
  · exact wpOp_mono (fun a' w' hh=>⟨fun hn _=>hh.1 hn,iS hs hQ t f _ _ a' w' h4 (D.set (by rw [h2];simp)) (fun hb=>hh.1 (hb2 hb)) hh.2⟩) (gJ ho h.1)
  · exact wpOp_mono (fun a' w' hh=>⟨fun hn _=>hh.1 hn,iS hs hQ u f _ _ a' w' h5 (D.set (by rw [h2];simp)) (fun hb=>hh.1 (hb2 hb)) hh.2⟩) (gJ ho' h.2)
theorem aie (md : Region.Mode) (ops : Array Oper) (n : Nat) : Va md ops (Array.replicate n false):=fun j oj _ hl=>by
 rcases Nat.lt_or_ge j n with h | h
 · simp [h] at hl
 · simp [Nat.not_lt.2 h] at hl
variable {w w0 : World} {is : List It} {a : Act} {ds : List Deferred} {l : List Value}
theorem afj {id : Nat} {ol : List Oper} (m : Mem w0 w is) (bs : List Bool) (tl : List Nat) (t : rD) (hm : P.follows .mixedOrders = true) (hB : (Region.noSelect ol.toArray && t.ok .any ol.toArray tl ol.toArray.size (Array.replicate ol.toArray.size false) true) = true)
 (hQ : ∀ c d v a w,Q (.panic c) (Act.put a d v) w → Q (.panic c) a w)
 (h : ∀ u,Mem w0 u is → fV P ol.toArray (fun u=>Mem w0 u (Iu bs is)) tl Q t a u) : (Code.region id ol.toArray true).wp P Q a w:=by
 simp only[Bool.and_eq_true] at hB;have m':=m.ext' (eB.refl w).drawn;exact wp_region_any hm (Hx _ _ _ _ (iS (S:=fun u=>Mem w0 u (Iu bs is)) hB.1 hQ t _ _ true _ _ hB.2 (aie _ _ _) (fun _=>m'.sel bs) (h _ m')))
variable {o o' : Oper} {i j : Nat} {t u : rD}
theorem Xk (h : Q .normal a w) : fV P ops S tl Q .nil a w:=h
theorem gG (ho : (ops[i]?).getD default = o) (h : bL P ops S (fun _ a w=>fV P ops S tl Q t a w) [(o,true)] a w) : fV P ops S tl Q (.take i t) a w:=by subst ho;exact h
theorem yJ (ho : (ops[i]?).getD default = o) (h : bL P ops (fun _=>True) (fun _ a w=>fV P ops S tl Q t a w) [(o,true)] a w) : fV P ops S tl Q (.move i t) a w:=by subst ho;exact h
theorem nV (ho : (ops[i]?).getD default = o) (h : wpList P ops (Exit.then (fun a w=>(i ∉ tl → S w) ∧ fV P ops S tl Q t a w) Q) [o] a w) : fV P ops S tl Q (.one i t) a w:=by subst ho;exact h
theorem afk (ho : (ops[i]?).getD default = o) (ho' : (ops[j]?).getD default = o') (h : wpList P ops (Exit.then (fun a w=>(i ∉ tl → S w) ∧ fV P ops S tl Q t a w) Q) [o] a w) (h' : wpList P ops (Exit.then (fun a w=>(j ∉ tl → S w) ∧ fV P ops S tl Q u a w) Q) [o'] a w) : fV P ops S tl Q (.two i t j u) a w:=by
 subst ho;subst ho';exact ⟨h,h'⟩
end
end Go.Lith
namespace Go.Proofs.YtfekpcimgncioaaGreatDoor
open Go.Proofs.Tryz
open Go.RowKit Go.Lith
set_option maxRecDepth 100000
attribute [local irreducible] wpList wpQuiet dB bL cE Code.wp
theorem ajZ {u v : P3} {ts : List T3} {k : Nat} {t : T3} (h : ts[k]? = some t) (e : pU u v t = t) : mD u v (ts.take (k + 1)) = mD u v (ts.take k) ++ [t] ∧ jH u v (ts.take (k + 1)) = jH u v (ts.take k):=by
 rw [cQ h];unfold mD jH;simp [e]
theorem acO {u v : P3} {ts : List T3} {k : Nat} {t : T3} (h : ts[k]? = some t) (e : ¬ pU u v t = t) (hn : (pU u v t).nd = true) : jH u v (ts.take (k + 1)) = jH u v (ts.take k) ++ [t] ∧ mD u v (ts.take (k + 1)) = mD u v (ts.take k):=by
 rw [cQ h];unfold mD jH;simp [e,hn]
theorem aj0 {u v : P3} {ts : List T3} {k : Nat} {t : T3} (h : ts[k]? = some t) (e : ¬ pU u v t = t) (hn : (pU u v t).nd = false) : jH u v (ts.take (k + 1)) = jH u v (ts.take k) ∧ mD u v (ts.take (k + 1)) = mD u v (ts.take k):=by
 rw [cQ h];unfold mD jH;simp [e,hn]
theorem Xl {u v : P3} {l m : List T3} (h : jH u v l = jH u v m) : jI u v l = jI u v m:=by unfold jI;rw [h]
theorem Vb {u v : P3} {ts : List T3} {k : Nat} {t : T3} (h : jH u v (ts.take (k + 1)) = jH u v (ts.take k) ++ [t]) : jI u v (ts.take (k + 1)) = jI u v (ts.take k) ++ [pU u v t]:=by unfold jI;rw [h,List.map_append];rfl
theorem acP (u v : P3) (l : List T3) : (mD u v l).length ≤ l.length:=List.length_filter_le ..
theorem Vc (u v : P3) (l : List T3) : (jH u v l).length ≤ l.length:=List.length_filter_le ..
theorem Nu (u v : P3) (l : List T3) : (jI u v l).length = (jH u v l).length:=List.length_map ..
theorem acQ {s t : T3} : (s.a.x = t.a.x ∧ s.a.y = t.a.y ∧ s.a.z = t.a.z ∧ s.b.x = t.b.x ∧ s.b.y = t.b.y ∧ s.b.z = t.b.z ∧ s.c.x = t.c.x ∧ s.c.y = t.c.y ∧ s.c.z = t.c.z) ↔ s = t :=
 ⟨fun ⟨h1,h2,h3,h4,h5,h6,h7,h8,h9⟩=>Hc (P3.eq h1 h2 h3) (P3.eq h4 h5 h6) (P3.eq h7 h8 h9),fun h=>by rw [h];simp only[and_self]⟩
theorem aif {g90 ga gf N cap ca : Nat} {A : Option Addr} {ea : Array MapEntry} {D : List (P3 × Hd)} {ts : List T3} {p q : P3} [I3 p] [I3 q] (w : World) (hB90 : fF w g90 [.slice A N cap,.map (some ga),.map (some gf)] 109) (hMa : gC w ga ea ca) (hDa : bP pt Hd.v D ea ca) (hS : ∀ p,bY w (lL D p).A (lL D p).n (ts.filter fun t=>t.has p) ∧ (lL D p).n ≤ (lL D p).cap) (hT : bY w A N ts) (hN : ts.length ≤ 10000000) : eG prog 99 [.pointer (some ⟨g90,0,none⟩),pt p,pt q] w (fun v w'=>∃ g91 gx ex cx gy ey cy Am nm cm Ao no co Ar nr cr,v = .pointer (some ⟨g91,0,none⟩) ∧ Mem w w' [bI g91 [.pointer (some ⟨g90,0,none⟩),.int .i64 p.x,.int .i64 p.y,.int .i64 p.z,.int .i64 q.x,.int .i64 q.y,.int .i64 q.z,.map (some gx),.map (some gy),.slice Am nm cm,.slice Ao no co,.slice Ar nr cr] 218,oI 39 9 Ar nr cr ((mD p q ts).flatMap aW),oI 39 9 Ao no co ((jH p q ts).flatMap aW),oI 39 9 Am nm cm ((jI p q ts).flatMap aW),mI gy ey cy,mI gx ex cx] ∧ bP pt Value.bool (fB [] (kF ts p)) ex cx ∧ bP pt Value.bool (fB [] (kF ts q)) ey cy ∧ nm = (jI p q ts).length ∧ no = (jH p q ts).length ∧ nr = (mD p q ts).length):=by
 refine ⟨ajv,?_⟩;have m:=Mem.refl w;have htl:=hT.len
 go_enter func99,ntmps99
 refine aD fun K1 k1=>wp_region_lit (cB m rfl ?_);clear m;intro g1 u m;simp only[zz];refine cB m rfl ?_;clear m;intro g2 u m;refine aA (aG) (aF (k1 _ _ ?_));try clear k1 K1
 refine aD fun K2 k2=>?_;simp only[zz];refine mh m [true,true] [(0,true),(3,true),(6,true),(1,true),(2,true),(4,true),(7,true),(5,false),(8,false),(9,true),(10,false),(11,true)] aM (by kernel_rfl) (cN (fun _ _ _ _ _ h=>h)) (ol:=?_) ?hol ?_
 case hol=>simp only[zw,zQ,zR];try rfl
 clear m;intro u m;refine aS (aB) (aS (aB) (aS (aB) ?_));simp only[zz];refine cI rfl (fun u m=>((m.b 1 rfl).full aI aC)) ?_;simp only[zz];refine cI rfl (fun u m=>((m.b 0 rfl).full aI aC)) ?_;simp only[zz];refine cI rfl (fun u m=>((m.b 1 rfl).full aI aC)) ?_;simp only[zz];refine cI rfl (fun u m=>((m.b 0 rfl).full aI aC)) ?_;simp only[zz];refine cJ (cD rfl rfl (Nj (p:=p) _ (hB90.ext m.ext) (hMa.ext m.ext) hDa (fun z=>⟨((hS z).1).ext m.ext,(hS z).2⟩) hN) ?_);rintro v u e ⟨qx,esx,cx,rfl,hM,hDx⟩;replace m:=m.plus hM;clear hM e;simp only[List.cons_append,List.nil_append] at m;refine aF (⟨m.sel [false,true,true],?_⟩);refine cJ ?_;simp only[zz];refine cD rfl rfl (Nj (p:=q) _ (hB90.ext m.ext) (hMa.ext m.ext) hDa (fun z=>⟨((hS z).1).ext m.ext,(hS z).2⟩) hN) ?_;rintro v u e ⟨qy,esy,cy,rfl,hM,hDy⟩;replace m:=m.plus hM;clear hM e;simp only[List.cons_append,List.nil_append] at m;refine aF (⟨m.sel [false,false,true,true],?_⟩);refine aS (tS rfl rfl rfl rfl rfl) (cJ ?_);simp only[zz];refine cB m rfl ?_;clear m;intro g3 u m;refine aF (⟨m.sel [false,false,false,true,true],?_⟩);refine aS (aG) (aY ?_);simp only[zz];replace m:=m.nilO 39 9;replace m:=m.nilO 39 9;replace m:=m.nilO 39 9;replace m:=m.pull 3 rfl;simp only[dW,dX,zF,zG] at m;refine k2 _ _ ?_;try clear k2 K2
 refine aD fun K3 k3=>aD fun K4 k4=>wp_region_lit (aA (aB) (aA (bS rfl) (aA (aL (c:=0) pK rfl dU rfl rfl) ?_)));simp only[zz];refine aJ rfl ((hB90.ext m.ext).lies1 nI rfl) ?_;simp only[zz];refine aA (bH rfl bQ rfl) (aA (aB) (aF (k4 _ _ ?_)));try clear k4 K4
 refine wp_block ?_;simp only[zz];try simp only[Nat.zero_add,Nat.reduceAdd,Nat.reduceMul,Int.reduceToNat]
 refine bT [28] [9,10,11,29,30,31,32,33,34,35,36,37,38,39,40,41,42,43,44,45,46,47,48,49,50,51,52,53,54,55,56,57,58,59,60,61,62,63,64,65,66,67,68,69,70,71,72,73,74,75] (fun n vs wl=>∃ (k : Nat) (A5 A6 A7 : Option Addr) (cap5 cap6 cap7 : Nat),vs = [.int .i64 (k:Int)] ∧ Mem w wl [bI g3 [.pointer (some ⟨g90,0,none⟩),.int .i64 p.x,.int .i64 p.y,.int .i64 p.z,.int .i64 q.x,.int .i64 q.y,.int .i64 q.z,.map (some qx),.map (some qy),.slice A5 (jI p q (ts.take k)).length cap5,.slice A6 (jH p q (ts.take k)).length cap6,.slice A7 (mD p q (ts.take k)).length cap7] 218,oI 39 9 A7 (mD p q (ts.take k)).length cap7 ((mD p q (ts.take k)).flatMap aW),oI 39 9 A6 (jH p q (ts.take k)).length cap6 ((jH p q (ts.take k)).flatMap aW),oI 39 9 A5 (jI p q (ts.take k)).length cap5 ((jI p q (ts.take k)).flatMap aW),mI qy esy cy,mI qx esx cx,bI g2 [.int .i64 q.x,.int .i64 q.y,.int .i64 q.z] 30,bI g1 [.int .i64 p.x,.int .i64 p.y,.int .i64 p.z] 30] ∧ (k ≤ N) ∧ (n = N - k)) ?_ ?_
 · skip
   apply Exists.intro;simp only[zQ,zR,zD,zE];exact ⟨0,_,_,_,_,_,_,rfl,m,Nat.zero_le _,rfl⟩
 · intro n vs wr hI u
   clear m;obtain ⟨k,A5,A6,A7,cap5,cap6,cap7,rfl,m,hk,hn⟩:=hI;simp only[zu,zF,zG];refine aD fun K5 k5=>wp_region_lit (aA (cW rfl rfl) (aF (k5 _ _ ?_)));try clear k5 K5
   refine aD fun K6 k6=>?_;simp only[zz];refine cG rfl (fun hc1=>?_) (fun hc1=>?_)
   · skip
     obtain ⟨t,ht,hti,a,hA,hrow⟩:=hT.get (i:=k) (by omega);subst hA;have hle1:=acP p q (ts.take k);have hle2:=Vc p q (ts.take k);have hle3:=Nu p q (ts.take k);rw [List.length_take] at hle1 hle2;refine wp_skip (k6 _ _ ?_);try clear k6 K6
     refine aD fun K7 k7=>wp_block (aD fun K8 k8=>wp_region_lit (aA (aN bQ aR rfl rfl (by omega) (by omega) (dC (Int.toNat_natCast _))) ?_));simp only[zz];refine aJ rfl ((hrow.ext m.ext).lies bR aR) ?_;simp only[zz];refine bA m fP rfl ?_;clear m;intro g4 u m;simp only[zz];refine aT m 0 rfl rfl rfl aR (cU rfl) rfl ?_;clear m;intro u m;simp only[zy,zx,bB,zF,zG,Nat.reduceAdd] at m;refine aF (k8 _ _ ?_);try clear k8 K8
     refine aD fun K9 k9=>wp_region_lit (aJ rfl ((m.b 0 rfl).full bR aR) ?_);simp only[zz];refine aJ rfl ((m.b 8 rfl).full aI aC) ?_;simp only[zz];refine aJ rfl ((m.b 7 rfl).full aI aC) ?_;simp only[zz];refine dH m rfl rfl (Ww (t:=t) (p:=p) (q:=q)) ?_;clear m;intro u m;refine aA (aB) (aA (bC rfl rfl) (aA (bC rfl rfl) ?_));simp only[zz];refine bA m fP rfl ?_;clear m;intro g5 u m;simp only[zz];refine aT m 0 rfl rfl rfl aR (cU rfl) rfl ?_;clear m;intro u m;simp only[zy,zx,bB,zF,zG,Nat.reduceAdd] at m;refine aA (aG) (aF (k9 _ _ ?_));try clear k9 K9
     refine wp_block (aD fun K10 k10=>wp_region_lit ?_);simp only[zz];refine aJ rfl ((m.b 0 rfl).full bR aR) ?_;simp only[zz];refine aJ rfl ((m.b 1 rfl).full bR aR) ?_;simp only[zz];refine aA (Ys rfl rfl) (aA (aG) (aF (k10 _ _ ?_)));try clear k10 K10
     simp only[zz];refine cG rfl (fun hc2=>?_) (fun hc2=>?_)
     · skip
       refine afj m [true,true,true,false,true,true,true,true,true,true] [10] (.take 0 (.take 1 (.take 2 (.take 3 (.take 4 (.take 5 (.one 6 (.one 7 (.take 8 (.take 9 (.one 10 .nil))))))))))) aM (by kernel_rfl) (cN (fun _ _ _ _ _ h=>h)) ?_;clear m;intro u m;refine gG (by simp only[zw];rfl) (aS (aB) (aY (gG (by simp only[zw];rfl) (aS (aB) (aY (gG (by simp only[zw];rfl) (aS (bS rfl) (aY (gG (by simp only[zw];rfl) (aS (aL (c:=0) fA rfl dU rfl rfl) ?_))))))))));simp only[zz];refine aY (gG (by simp only[zw];rfl) (cI rfl (fun u m=>((m.b 2 rfl).lies1 nI rfl)) ?_));simp only[zz];refine aY (gG (by simp only[zw];rfl) (cI rfl (fun u m=>((m.b 1 rfl).full bR aR)) ?_));simp only[zz];refine aY (nV (by simp only[zw];rfl) ?_);refine eT rfl ?_;intro u g6 e hg hB;replace m:=m.newB e hg hB;clear e hg hB;refine aF (⟨fun _=>m.sel [false,true,true,true,false,true,true,true,true,true,true],?_⟩);refine nV (by simp only[zw];rfl) ?_;simp only[zz];refine dD m 4 rfl rfl bQ iK rfl (by decide) rfl rfl rfl (m.b 0 rfl).rowsO (jZ rfl) (by have:=hle1;omega) (by have:=hle1;omega) ?_;clear m;intro A7 cap7 u m;simp only[zF,zG] at m;refine aF (⟨fun _=>m.sel [false,true,true,true,false,true,true,true,true,true,true],?_⟩);refine gG (by simp only[zw];rfl) (aS (bS rfl) (aY (gG (by simp only[zw];rfl) (aS (aL (c:=0) fA rfl dU rfl rfl) (aY (nV (by simp only[zw];rfl) ?_))))));simp only[zz];refine cH (off:=11) m 3 rfl rfl rfl dU (cU rfl) ⟨rfl,rfl⟩ ?_;clear m;intro u m;simp only[zz,zy,zx,bB,Nat.reduceAdd] at m;refine aF (⟨fun h=>absurd (by decide) h,?_⟩);refine Xk (k7 _ _ ?_);try clear k7 K7
       refine wp_region_lit (aA (aU rfl rfl (aV (by omega) (by omega))) (aA (aB) (aF ?_)));simp only[zz];have hcs:=ajZ (u:=p) (v:=q) ht (acQ.1 hc2);have hcm:=Xl hcs.2;rw [show ((mD p q (ts.take k))).flatMap aW ++ _ = (mD p q (ts.take (k + 1))).flatMap aW by rw [hcs.1,List.flatMap_append];rfl,show ((mD p q (ts.take k))).length + 1 = (mD p q (ts.take (k + 1))).length by rw [hcs.1,List.length_append];rfl] at m;rw [← hcs.2,← hcm] at m;simp only[Exit.inBlock,Exit.then];refine ⟨N - (k + 1),_,?_,rfl,?_,?_⟩
       · omega
       · simp only[zz,zv]
       · simp only[zQ,zR,zD,zE]
         exact ⟨k + 1,_,_,_,_,_,_,rfl,(m.sel [false,false,false,true,true,true,true,true,true,true,true]),by omega,rfl⟩
     · skip
       refine aD fun K11 k11=>wp_region_lit (aA (aB) (aA (aG) (aF (k11 _ _ ?_))));try clear k11 K11
       simp only[zz];refine eD rfl (fun hc3=>?_) (fun hc3=>?_)
       · skip
         refine afj m [true,true,true,true,false,false,true,true,true,true] [18,21] (.take 0 (.move 1 (.take 2 (.take 3 (.take 4 (.take 5 (.take 6 (.take 9 (.take 10 (.take 11 (.take 12 (.take 13 (.two 7 (.two 8 (.one 14 (.one 15 (.take 16 (.take 17 (.one 18 (.move 19 (.move 20 (.one 21 .nil)))))))) 14 (.one 8 (.one 15 (.take 16 (.take 17 (.one 18 (.move 19 (.move 20 (.one 21 .nil))))))))) 14 (.one 7 (.one 8 (.one 15 (.take 16 (.take 17 (.one 18 (.move 19 (.move 20 (.one 21 .nil)))))))))))))))))))))) aM (by kernel_rfl) (cN (fun _ _ _ _ _ h=>h)) ?_;clear m;intro u m;refine gG (by simp only[zw];rfl) (aS (aB) (aY (yJ (by simp only[zw];rfl) (aS (aB) (aY (gG (by simp only[zw];rfl) (aS (aB) (aY (gG (by simp only[zw];rfl) (aS (bS rfl) ?_))))))))));simp only[zz];refine aY (gG (by simp only[zw];rfl) (aS (aL (c:=0) fA rfl dU rfl rfl) (aY (gG (by simp only[zw];rfl) ?_))));simp only[zz];refine cI rfl (fun u m=>((m.b 2 rfl).lies1 nI rfl)) ?_;simp only[zz];refine aY (gG (by simp only[zw];rfl) (cI rfl (fun u m=>((m.b 0 rfl).full bR aR)) ?_));simp only[zz];refine aY (gG (by simp only[zw];rfl) (aS (aB) (aY (gG (by simp only[zw];rfl) (aS (bS rfl) (aY (gG (by simp only[zw];rfl) (aS (aL (c:=0) fA rfl dU rfl rfl) (aY (gG (by simp only[zw];rfl) ?_))))))))));simp only[zz];refine cI rfl (fun u m=>((m.b 2 rfl).lies1 nI rfl)) ?_;simp only[zz];refine aY (gG (by simp only[zw];rfl) (cI rfl (fun u m=>((m.b 1 rfl).full bR aR)) ?_));simp only[zz];refine aY ?_;refine afk (by simp only[zw];rfl) (by simp only[zw];rfl) ?_ ?_
         · skip
           refine eT rfl ?_;intro u g6 e hg hB;replace m:=m.newB e hg hB;clear e hg hB;refine aF (⟨fun _=>m.sel [false,true,true,true,true,false,false,true,true,true,true],?_⟩);simp only[zz];refine afk (by simp only[zw];rfl) (by simp only[zw];rfl) ?_ ?_
           · skip
             refine dD m 6 rfl rfl bQ iK rfl (by decide) rfl rfl rfl (m.b 0 rfl).rowsO (jZ rfl) (by have:=hle3;omega) (by have:=hle3;omega) ?_;clear m;intro A5 cap5 u m;simp only[zF,zG] at m;refine aF (⟨fun _=>m.sel [false,true,true,true,true,false,false,true,true,true,true],?_⟩);refine nV (by simp only[zw];rfl) ?_;simp only[zz];refine eT rfl ?_;intro u g7 e hg hB;replace m:=m.newB e hg hB;clear e hg hB;refine aF (⟨fun _=>m.sel [false,false,true,true,true,true,false,false,true,true,true,true],?_⟩);refine nV (by simp only[zw];rfl) ?_;simp only[zz];refine dD m 6 rfl rfl bQ iK rfl (by decide) rfl rfl rfl (m.b 0 rfl).rowsO (jZ rfl) (by have:=hle2;omega) (by have:=hle2;omega) ?_;clear m;intro A6 cap6 u m;simp only[zF,zG] at m;refine aF (⟨fun _=>m.sel [false,false,true,true,true,true,false,false,true,true,true,true],?_⟩);refine gG (by simp only[zw];rfl) (aS (bS rfl) (aY (gG (by simp only[zw];rfl) (aS (aL (c:=0) fA rfl dU rfl rfl) (aY (nV (by simp only[zw];rfl) ?_))))));simp only[zz];refine cH (off:=9) m 4 rfl rfl rfl dU (cU rfl) ⟨rfl,rfl⟩ ?_;clear m;intro u m;simp only[zz,zy,zx,bB,Nat.reduceAdd] at m;refine aF (⟨fun h=>absurd (by decide) h,?_⟩);refine yJ (by simp only[zw];rfl) (aS (bS rfl) (aY (yJ (by simp only[zw];rfl) (aS (aL (c:=0) fA rfl dU rfl rfl) (aY (nV (by simp only[zw];rfl) ?_))))));simp only[zz];refine cH (off:=10) m 4 rfl rfl rfl dU (cU rfl) ⟨rfl,rfl⟩ ?_;clear m;intro u m;simp only[zz,zy,zx,bB,Nat.reduceAdd] at m;refine aF (⟨fun h=>absurd (by decide) h,?_⟩);refine Xk (k7 _ _ ?_);try clear k7 K7
             refine wp_region_lit (aA (aU rfl rfl (aV (by omega) (by omega))) (aA (aB) (aF ?_)));simp only[zz];have hcs:=acO (u:=p) (v:=q) ht (fun e=>hc2 (acQ.2 e)) hc3;have hcm:=Vb hcs.1;rw [show ((jH p q (ts.take k))).flatMap aW ++ _ = (jH p q (ts.take (k + 1))).flatMap aW by rw [hcs.1,List.flatMap_append];rfl,show ((jH p q (ts.take k))).length + 1 = (jH p q (ts.take (k + 1))).length by rw [hcs.1,List.length_append];rfl] at m;rw [show ((jI p q (ts.take k))).flatMap aW ++ _ = (jI p q (ts.take (k + 1))).flatMap aW by rw [hcm,List.flatMap_append];rfl,show ((jI p q (ts.take k))).length + 1 = (jI p q (ts.take (k + 1))).length by rw [hcm,List.length_append];rfl] at m;rw [← hcs.2] at m;simp only[Exit.inBlock,Exit.then];refine ⟨N - (k + 1),_,?_,rfl,?_,?_⟩
             · omega
             · simp only[zz,zv]
             · simp only[zQ,zR,zD,zE]
               exact ⟨k + 1,_,_,_,_,_,_,rfl,(m.sel [false,false,false,false,true,true,true,true,true,true,true,true]),by omega,rfl⟩
           · skip
             refine eT rfl ?_;intro u g7 e hg hB;replace m:=m.newB e hg hB;clear e hg hB;refine aF (⟨fun _=>m.sel [false,false,true,true,true,true,false,false,true,true,true,true],?_⟩);refine nV (by simp only[zw];rfl) ?_;simp only[zz];refine dD m 7 rfl rfl bQ iK rfl (by decide) rfl rfl rfl (m.b 1 rfl).rowsO (jZ rfl) (by have:=hle3;omega) (by have:=hle3;omega) ?_;clear m;intro A5 cap5 u m;simp only[zF,zG] at m;refine aF (⟨fun _=>m.sel [false,false,true,true,true,true,false,false,true,true,true,true],?_⟩);refine nV (by simp only[zw];rfl) ?_;simp only[zz];refine dD m 6 rfl rfl bQ iK rfl (by decide) rfl rfl rfl (m.b 0 rfl).rowsO (jZ rfl) (by have:=hle2;omega) (by have:=hle2;omega) ?_;clear m;intro A6 cap6 u m;simp only[zF,zG] at m;refine aF (⟨fun _=>m.sel [false,false,true,true,true,true,false,false,true,true,true,true],?_⟩);refine gG (by simp only[zw];rfl) (aS (bS rfl) (aY (gG (by simp only[zw];rfl) (aS (aL (c:=0) fA rfl dU rfl rfl) (aY (nV (by simp only[zw];rfl) ?_))))));simp only[zz];refine cH (off:=9) m 4 rfl rfl rfl dU (cU rfl) ⟨rfl,rfl⟩ ?_;clear m;intro u m;simp only[zz,zy,zx,bB,Nat.reduceAdd] at m;refine aF (⟨fun h=>absurd (by decide) h,?_⟩);refine yJ (by simp only[zw];rfl) (aS (bS rfl) (aY (yJ (by simp only[zw];rfl) (aS (aL (c:=0) fA rfl dU rfl rfl) (aY (nV (by simp only[zw];rfl) ?_))))));simp only[zz];refine cH (off:=10) m 4 rfl rfl rfl dU (cU rfl) ⟨rfl,rfl⟩ ?_;clear m;intro u m;simp only[zz,zy,zx,bB,Nat.reduceAdd] at m;refine aF (⟨fun h=>absurd (by decide) h,?_⟩);refine Xk (k7 _ _ ?_);try clear k7 K7
             refine wp_region_lit (aA (aU rfl rfl (aV (by omega) (by omega))) (aA (aB) (aF ?_)));simp only[zz];have hcs:=acO (u:=p) (v:=q) ht (fun e=>hc2 (acQ.2 e)) hc3;have hcm:=Vb hcs.1;rw [show ((jH p q (ts.take k))).flatMap aW ++ _ = (jH p q (ts.take (k + 1))).flatMap aW by rw [hcs.1,List.flatMap_append];rfl,show ((jH p q (ts.take k))).length + 1 = (jH p q (ts.take (k + 1))).length by rw [hcs.1,List.length_append];rfl] at m;rw [show ((jI p q (ts.take k))).flatMap aW ++ _ = (jI p q (ts.take (k + 1))).flatMap aW by rw [hcm,List.flatMap_append];rfl,show ((jI p q (ts.take k))).length + 1 = (jI p q (ts.take (k + 1))).length by rw [hcm,List.length_append];rfl] at m;rw [← hcs.2] at m;simp only[Exit.inBlock,Exit.then];refine ⟨N - (k + 1),_,?_,rfl,?_,?_⟩
             · omega
             · simp only[zz,zv]
             · simp only[zQ,zR,zD,zE]
               exact ⟨k + 1,_,_,_,_,_,_,rfl,(m.sel [false,false,false,false,true,true,true,true,true,true,true,true]),by omega,rfl⟩
         · skip
           refine eT rfl ?_;intro u g6 e hg hB;replace m:=m.newB e hg hB;clear e hg hB;refine aF (⟨fun _=>m.sel [false,true,true,true,true,false,false,true,true,true,true],?_⟩);refine nV (by simp only[zw];rfl) ?_;simp only[zz];refine eT rfl ?_;intro u g7 e hg hB;replace m:=m.newB e hg hB;clear e hg hB;refine aF (⟨fun _=>m.sel [false,false,true,true,true,true,false,false,true,true,true,true],?_⟩);refine nV (by simp only[zw];rfl) ?_;simp only[zz];refine dD m 7 rfl rfl bQ iK rfl (by decide) rfl rfl rfl (m.b 0 rfl).rowsO (jZ rfl) (by have:=hle3;omega) (by have:=hle3;omega) ?_;clear m;intro A5 cap5 u m;simp only[zF,zG] at m;refine aF (⟨fun _=>m.sel [false,false,true,true,true,true,false,false,true,true,true,true],?_⟩);refine nV (by simp only[zw];rfl) ?_;simp only[zz];refine dD m 6 rfl rfl bQ iK rfl (by decide) rfl rfl rfl (m.b 1 rfl).rowsO (jZ rfl) (by have:=hle2;omega) (by have:=hle2;omega) ?_;clear m;intro A6 cap6 u m;simp only[zF,zG] at m;refine aF (⟨fun _=>m.sel [false,false,true,true,true,true,false,false,true,true,true,true],?_⟩);refine gG (by simp only[zw];rfl) (aS (bS rfl) (aY (gG (by simp only[zw];rfl) (aS (aL (c:=0) fA rfl dU rfl rfl) (aY (nV (by simp only[zw];rfl) ?_))))));simp only[zz];refine cH (off:=9) m 4 rfl rfl rfl dU (cU rfl) ⟨rfl,rfl⟩ ?_;clear m;intro u m;simp only[zz,zy,zx,bB,Nat.reduceAdd] at m;refine aF (⟨fun h=>absurd (by decide) h,?_⟩);refine yJ (by simp only[zw];rfl) (aS (bS rfl) (aY (yJ (by simp only[zw];rfl) (aS (aL (c:=0) fA rfl dU rfl rfl) (aY (nV (by simp only[zw];rfl) ?_))))));simp only[zz];refine cH (off:=10) m 4 rfl rfl rfl dU (cU rfl) ⟨rfl,rfl⟩ ?_;clear m;intro u m;simp only[zz,zy,zx,bB,Nat.reduceAdd] at m;refine aF (⟨fun h=>absurd (by decide) h,?_⟩);refine Xk (k7 _ _ ?_);try clear k7 K7
           refine wp_region_lit (aA (aU rfl rfl (aV (by omega) (by omega))) (aA (aB) (aF ?_)));simp only[zz];have hcs:=acO (u:=p) (v:=q) ht (fun e=>hc2 (acQ.2 e)) hc3;have hcm:=Vb hcs.1;rw [show ((jH p q (ts.take k))).flatMap aW ++ _ = (jH p q (ts.take (k + 1))).flatMap aW by rw [hcs.1,List.flatMap_append];rfl,show ((jH p q (ts.take k))).length + 1 = (jH p q (ts.take (k + 1))).length by rw [hcs.1,List.length_append];rfl] at m;rw [show ((jI p q (ts.take k))).flatMap aW ++ _ = (jI p q (ts.take (k + 1))).flatMap aW by rw [hcm,List.flatMap_append];rfl,show ((jI p q (ts.take k))).length + 1 = (jI p q (ts.take (k + 1))).length by rw [hcm,List.length_append];rfl] at m;rw [← hcs.2] at m;simp only[Exit.inBlock,Exit.then];refine ⟨N - (k + 1),_,?_,rfl,?_,?_⟩
           · omega
           · simp only[zz,zv]
           · simp only[zQ,zR,zD,zE]
             exact ⟨k + 1,_,_,_,_,_,_,rfl,(m.sel [false,false,false,false,true,true,true,true,true,true,true,true]),by omega,rfl⟩
       · skip
         refine wp_skip (k7 _ _ ?_);try clear k7 K7
         refine wp_region_lit (aA (aU rfl rfl (aV (by omega) (by omega))) (aA (aB) (aF ?_)));simp only[zz];have hcs:=aj0 (u:=p) (v:=q) ht (fun e=>hc2 (acQ.2 e)) hc3;have hcm:=Xl hcs.1;rw [← hcs.1,← hcs.2,← hcm] at m;simp only[Exit.inBlock,Exit.then];refine ⟨N - (k + 1),_,?_,rfl,?_,?_⟩
         · omega
         · simp only[zz,zv]
         · simp only[zQ,zR,zD,zE]
           exact ⟨k + 1,_,_,_,_,_,_,rfl,(m.sel [false,false,true,true,true,true,true,true,true,true]),by omega,rfl⟩
   · skip
     obtain rfl : k = N:=by omega
     rw [show ts.take k = ts from List.take_of_length_le (by omega)] at m;refine wp_exit (k3 _ _ ?_);try clear k3 K3
     refine aD fun K12 k12=>wp_region_lit (aA (aB) (aA (aG) (aF (k12 _ _ ?_))));try clear k12 K12
     refine wp_ret ?_;simp only[zz];try simp only[Exit.inBlock,Exit.then,if_true]
     refine bE rfl rfl ?_;try simp only[zD,zE]
     exact ⟨_,rfl,m.ext,_,_,_,_,_,_,_,_,_,_,_,_,_,_,_,_,rfl,m.sel [true,true,true,true,true,true,false,false],hDx,hDy,rfl,rfl,rfl⟩
end Go.Proofs.YtfekpcimgncioaaGreatDoor
namespace Go.Lith
open Go.RowKit
def yK (js : List It) : It where
 own b:=∃ j ∈ js,j.own b
 P w:=(∀ j ∈ js,j.P w) ∧ js.Pairwise Ap
 lt w b h hb:=by
  obtain ⟨j,hj,hb⟩:=hb;exact j.lt w b (h.1 j hj) hb
 st w w' h hs k:=⟨fun j hj=>j.st w w' (h.1 j hj) hs fun b hb=>k b ⟨j,hj,hb⟩,h.2⟩
section
variable {w0 w : World} {is js : List It}
theorem Mem.bagNil (m : Mem w0 w is) : Mem w0 w (yK [] :: is) :=
 ⟨m.ext,fun i hi=>by
  rcases List.mem_cons.1 hi with rfl | hi
  · exact ⟨fun j hj=>(by cases hj),List.Pairwise.nil⟩
  · exact m.all i hi,fun i hi b hb=>by
  rcases List.mem_cons.1 hi with rfl | hi
  · obtain ⟨j,hj,_⟩:=hb;cases hj
  · exact m.ge i hi b hb,List.pairwise_cons.2 ⟨fun i _ b ⟨j,hj,_⟩=>(by cases hj),m.nd⟩⟩
theorem Mem.bagPull (m : Mem w0 w (yK js :: is)) (i : Nat) {j : It} (hj : js[i]? = some j) : Mem w0 w (j :: yK (js.eraseIdx i) :: is):=by
 have hp:=Cf js i j hj;obtain ⟨h1,h2⟩:=List.pairwise_cons.1 m.nd;have P:=m.all _ (List.mem_cons_self ..);have hjm:=List.mem_of_getElem? hj;have hsub : ∀ x ∈ js.eraseIdx i,x ∈ js:=fun x hx=>hp.mem_iff.1 (List.mem_cons_of_mem _ hx);have hpw:=List.pairwise_cons.1 ((hp.pairwise_iff (fun {a b} (h : Ap a b)=>h.symm)).2 P.2);refine ⟨m.ext,fun x hx=>?_,fun x hx b hb=>?_,List.pairwise_cons.2 ⟨fun x hx b hb hxb=>?_,List.pairwise_cons.2 ⟨fun x hx b ⟨y,hy,hb⟩=>h1 x hx b ⟨y,hsub y hy,hb⟩,h2⟩⟩⟩
 · rcases List.mem_cons.1 hx with rfl | hx
   · exact P.1 x hjm
   · rcases List.mem_cons.1 hx with rfl | hx
     · exact ⟨fun y hy=>P.1 y (hsub y hy),hpw.2⟩
     · exact m.all x (List.mem_cons_of_mem _ hx)
 · rcases List.mem_cons.1 hx with rfl | hx
   · exact m.ge _ (List.mem_cons_self ..) b ⟨x,hjm,hb⟩
   · rcases List.mem_cons.1 hx with rfl | hx
     · obtain ⟨y,hy,hb⟩:=hb
       exact m.ge _ (List.mem_cons_self ..) b ⟨y,hsub y hy,hb⟩
     · exact m.ge x (List.mem_cons_of_mem _ hx) b hb
 · rcases List.mem_cons.1 hx with rfl | hx
   · obtain ⟨y,hy,hyb⟩:=hxb
     exact hpw.1 y hy b hb hyb
   · exact h1 x hx b ⟨j,hjm,hb⟩ hxb
theorem Mem.bagPush {j : It} (m : Mem w0 w (j :: yK js :: is)) : Mem w0 w (yK (j :: js) :: is):=by
 obtain ⟨h1,h2⟩:=List.pairwise_cons.1 m.nd;obtain ⟨h3,h4⟩:=List.pairwise_cons.1 h2;have P:=m.all (yK js) (List.mem_cons_of_mem _ (List.mem_cons_self ..));have Pj:=m.all j (List.mem_cons_self ..);refine ⟨m.ext,fun x hx=>?_,fun x hx b hb=>?_,List.pairwise_cons.2 ⟨fun x hx b ⟨y,hy,hb⟩ hxb=>?_,h4⟩⟩
 · rcases List.mem_cons.1 hx with rfl | hx
   · refine ⟨fun y hy=>?_,List.pairwise_cons.2 ⟨fun y hy b hb hyb=>h1 _ (List.mem_cons_self ..) b hb ⟨y,hy,hyb⟩,P.2⟩⟩
     rcases List.mem_cons.1 hy with rfl | hy
     · exact Pj
     · exact P.1 y hy
   · exact m.all x (List.mem_cons_of_mem _ (List.mem_cons_of_mem _ hx))
 · rcases List.mem_cons.1 hx with rfl | hx
   · obtain ⟨y,hy,hb⟩:=hb
     rcases List.mem_cons.1 hy with rfl | hy
     · exact m.ge y (List.mem_cons_self ..) b hb
     · exact m.ge (yK js) (List.mem_cons_of_mem _ (List.mem_cons_self ..)) b ⟨y,hy,hb⟩
   · exact m.ge x (List.mem_cons_of_mem _ (List.mem_cons_of_mem _ hx)) b hb
 · rcases List.mem_cons.1 hy with rfl | hy
   · exact h1 x (List.mem_cons_of_mem _ hx) b hb hxb
   · exact h3 x hx b ⟨y,hy,hb⟩ hxb
end
end Go.Lith
namespace Go.Lith
open Go.RowKit Go.ChangeMaps
section
variable {w0 w : World} {is js ks : List It}
theorem Mem.bagPerm (m : Mem w0 w (yK js :: is)) (h : js.Perm ks) : Mem w0 w (yK ks :: is):=by
 obtain ⟨h1,h2⟩:=List.pairwise_cons.1 m.nd;have P:=m.all _ (List.mem_cons_self ..);refine ⟨m.ext,fun x hx=>?_,fun x hx b hb=>?_,List.pairwise_cons.2 ⟨fun x hx b ⟨y,hy,hb⟩ hxb=>?_,h2⟩⟩
 · rcases List.mem_cons.1 hx with rfl | hx
   · exact ⟨fun j hj=>P.1 j (h.mem_iff.2 hj),(h.pairwise_iff (fun {a b} (h : Ap a b)=>h.symm)).1 P.2⟩
   · exact m.all x (List.mem_cons_of_mem _ hx)
 · rcases List.mem_cons.1 hx with rfl | hx
   · obtain ⟨y,hy,hb⟩:=hb
     exact m.ge _ (List.mem_cons_self ..) b ⟨y,h.mem_iff.2 hy,hb⟩
   · exact m.ge x (List.mem_cons_of_mem _ hx) b hb
 · exact h1 x hx b ⟨y,h.mem_iff.2 hy,hb⟩ hxb
theorem Rq {K V : Type} [DecidableEq K] {k : K} {v : V} {e : K × V} : ∀ {D : List (K × V)},(D.map (·.1)).Nodup → e ∈ eO D k v → e = (k,v) ∨ (e ∈ D ∧ e.1 ≠ k)
 | [],_,h=>.inl (List.mem_singleton.1 h)
 | x :: D,hn,h=>by
  obtain ⟨n1,n2⟩:=List.nodup_cons.1 hn;unfold eO at h;split at h
  · rename_i hk
    rcases List.mem_cons.1 h with h | h
    · exact .inl h
    · exact .inr ⟨List.mem_cons_of_mem _ h,fun e'=>n1 (List.mem_map.2 ⟨e,h,e'.trans hk.symm⟩)⟩
  · rename_i hk
    rcases List.mem_cons.1 h with h | h
    · exact .inr ⟨h ▸ List.mem_cons_self ..,h ▸ hk⟩
    · rcases Rq n2 h with h | h
      · exact .inl h
      · exact .inr ⟨List.mem_cons_of_mem _ h.1,h.2⟩
variable {E : TypeId} {fs : P3 → List T3} {D : List (P3 × Hd)}
def sI (E : TypeId) (fs : P3 → List T3) (e : P3 × Hd) : It:=oI E 9 e.2.A (fs e.1).length e.2.cap ((fs e.1).flatMap aW)
structure Df (D : List (P3 × Hd)) (fs : P3 → List T3) : Prop where
 nk : (D.map (·.1)).Nodup
 len : ∀ e ∈ D,e.2.n = (fs e.1).length
 no : ∀ p,p ∉ D.map (·.1) → fs p = []
 yes : ∀ p,p ∈ D.map (·.1) → fs p ≠ []
theorem Df.nil : Df [] fun _=>[]:=⟨List.nodup_nil,fun _ h=>(by cases h),fun _ _=>rfl,fun _ h=>(by cases h)⟩
theorem Df.iff (S : Df D fs) {p : P3} : p ∈ D.map (·.1) ↔ fs p ≠ []:=⟨S.yes p,fun h=>Classical.byContradiction fun k=>h (S.no p k)⟩
theorem Df.take (S : Df D fs) (m : Mem w0 w (yK (D.map (sI E fs)) :: is)) (p : P3) :
 ∃ rest,Mem w0 w (oI E 9 (lL D p).A (lL D p).n (lL D p).cap ((fs p).flatMap aW) :: yK rest :: is) ∧ (lL D p).n = (fs p).length ∧
  ∀ (h' : Hd) (fs' : P3 → List T3),(∀ q,q ≠ p → fs' q = fs q) → h'.n = (fs' p).length → fs' p ≠ [] → (sI E fs' (p,h') :: rest).Perm ((eO D p h').map (sI E fs')) ∧ Df (eO D p h') fs':=by
 have hS : ∀ (h' : Hd) (fs' : P3 → List T3),(∀ q,q ≠ p → fs' q = fs q) → h'.n = (fs' p).length → fs' p ≠ [] → Df (eO D p h') fs':=fun h' fs' hq hl hy =>
  ⟨pM S.nk p h',fun e he=>by
   rcases Rq S.nk he with rfl | ⟨he,hk⟩
   · exact hl
   · rw [hq _ hk];exact S.len e he,fun q hqn=>by
   rw [rV] at hqn;have h1 : q ∉ D.map (·.1) ∧ q ≠ p:=by
    split at hqn
    · rename_i hp;exact ⟨hqn,fun e=>hqn (e ▸ hp)⟩
    · exact ⟨fun h=>hqn (List.mem_append_left _ h),fun e=>hqn (List.mem_append_right _ (by rw [e];exact List.mem_singleton.2 rfl))⟩
   rw [hq _ h1.2];exact S.no q h1.1,fun q hqn=>by
   by_cases hqp : q = p
   · rw [hqp];exact hy
   · rw [hq _ hqp]
     refine S.yes q ?_;rw [rV] at hqn;split at hqn
     · exact hqn
     · exact (List.mem_append.1 hqn).elim id fun h=>absurd (List.mem_singleton.1 h) hqp⟩
 have hsame : ∀ {fs' : P3 → List T3} {L : List (P3 × Hd)},(∀ q,q ≠ p → fs' q = fs q) → (∀ e ∈ L,e.1 ≠ p) → L.map (sI E fs') = L.map (sI E fs):=fun {fs' L} hq hL =>
  List.map_congr_left fun e he=>by unfold sI;rw [hq _ (hL e he)]
 cases hf : mE D p 0 with
 | none =>
  obtain ⟨h0,h1,_⟩:=mK D p 0 hf;have hnp:=lI.1 h0;have e0 : lL D p = ⟨none,0,0⟩:=by unfold lL;rw [h0];rfl
  refine ⟨D.map (sI E fs),?_,?_,fun h' fs' hq hl hy=>⟨?_,hS h' fs' hq hl hy⟩⟩
  · rw [e0,S.no p hnp];exact m.nilO E 9
  · rw [e0,S.no p hnp];rfl
  · rw [h1,List.map_append,hsame hq fun e he k=>hnp (List.mem_map.2 ⟨e,he,k⟩)]
    exact (List.perm_append_singleton _ _).symm
 | some q =>
  obtain ⟨j,h⟩:=q;obtain ⟨i,_,hi,h0,h1,_⟩:=jR D p 0 j h hf;have e0 : lL D p = h:=by unfold lL;rw [h0];rfl
  have hm : (p,h) ∈ D:=List.mem_of_getElem? hi;have hl0:=S.len _ hm;have hne : ∀ e ∈ D.eraseIdx i,e.1 ≠ p:=fun e he k=>by
   obtain ⟨q,hq⟩:=List.mem_iff_getElem?.1 he;rw [List.getElem?_eraseIdx] at hq;have key : ∀ {q : Nat},D[q]? = some e → q = i:=fun {q} hq=>by
    have a1 : (D.map (·.1))[q]? = some p:=by rw [List.getElem?_map,hq,← k];rfl
    have a2 : (D.map (·.1))[i]? = some p:=by rw [List.getElem?_map,hi];rfl
    obtain ⟨b1,b2⟩:=List.getElem?_eq_some_iff.1 a1;obtain ⟨c1,c2⟩:=List.getElem?_eq_some_iff.1 a2;exact (List.getElem_inj S.nk).1 (b2.trans c2.symm)
   split at hq
   · have:=key hq;omega
   · have:=key hq;omega
  refine ⟨(D.map (sI E fs)).eraseIdx i,?_,?_,fun h' fs' hq hl hy=>⟨?_,hS h' fs' hq hl hy⟩⟩
  · rw [e0,show h.n = (fs p).length from hl0]
    exact m.bagPull i (j:=sI E fs (p,h)) (by rw [List.getElem?_map,hi];rfl)
  · rw [e0];exact hl0
  · rw [h1,← map_eraseIdx,← hsame hq hne]
    have hp : ∀ {l : List (P3 × Hd)} {i : Nat} {x y : P3 × Hd},l[i]? = some x → (l.set i y).Perm (y :: l.eraseIdx i):=fun {l}=>by
     induction l with
     | nil=>intro i x y h;simp at h
     | cons z l ih =>
      intro i x y h;cases i with
      | zero=>exact .refl _
      | succ i=>exact ((ih (i:=i) (x:=x) (y:=y) (by simpa using h)).cons z).trans (.swap ..)
    exact ((hp (y:=(p,h')) hi).map (sI E fs')).symm
theorem Df.trisP (S : Df D fs) (hB : (yK (D.map (sI E fs))).P w) (hI : ∀ p,∀ t ∈ fs p,IT t) (p : P3) : bY w (lL D p).A (lL D p).n (fs p) ∧ (lL D p).n ≤ (lL D p).cap:=by
 unfold lL;cases hg : cK D p with
 | none =>
  rw [S.no p (lI.1 hg)];exact ⟨bY.nil _ _,Nat.le_refl _⟩
 | some h =>
  have hm:=uU hg;have hP:=hB.1 _ (List.mem_map.2 ⟨(p,h),hm,rfl⟩);have ho : Ow { w with heap:=#[] } w [] E 9 h.A (fs p).length h.cap ((fs p).flatMap aW):=⟨hP,fun _ _ h=>(by cases h),fun _ h=>(by cases h)⟩
  have hl:=S.len _ hm;simp only[Option.getD_some];rw [show h.n = (fs p).length from hl];exact ⟨ho.tris (hI p),ho.le⟩
end
def Im (l : List T3) (t : T3) (cs : List P3) (p : P3) : List T3:=l.filter (fun t=>t.has p) ++ if p ∈ cs then [t] else []
theorem aeG (l : List T3) (t : T3) : Im l t [] = fun p=>l.filter fun t=>t.has p:=by
 funext p
 unfold Im;simp
theorem aig {l : List T3} {t : T3} {cs : List P3} {c q : P3} (h : q ≠ c) : Im l t (cs ++ [c]) q = Im l t cs q:=by
 unfold Im;simp [h]
theorem aih {l : List T3} {t : T3} {cs : List P3} {c : P3} (h : c ∉ cs) : Im l t (cs ++ [c]) c = Im l t cs c ++ [t]:=by
 unfold Im;simp [h]
theorem aeH {l : List T3} {k : Nat} {t : T3} (ht : l[k]? = some t) : Im (l.take k) t [t.a,t.b,t.c] = fun p=>(l.take (k + 1)).filter fun t=>t.has p:=by
 funext p
 unfold Im;rw [cQ ht,List.filter_append]
 congr 1
 by_cases h : t.has p = true
 · have:=lX.1 h
   simp [h,this]
 · have h' : ¬ (p = t.a ∨ p = t.b ∨ p = t.c):=fun k=>h (lX.2 k)
   simp [h,h']
end Go.Lith
namespace Go.Proofs.YtfekpcimgncioaaGreatDoor
open Go.Proofs.Tryz
open Go.RowKit Go.Lith
set_option maxRecDepth 100000
attribute [local irreducible] wpList wpQuiet dB bL cE Code.wp
structure Bo (T : TypeId) (w : World) (g90 ga gf : Nat) (A : Option Addr) (N cap : Nat) (ea ef : Array MapEntry) (ca cf : Nat) (D : List (P3 × Hd)) (ts : List T3) : Prop where
 b : fF w g90 [.slice A N cap,.map (some ga),.map (some gf)] T
 a : gC w ga ea ca
 f : gC w gf ef cf
 t : ∀ p,bY w (lL D p).A (lL D p).n (ts.filter fun t=>t.has p) ∧ (lL D p).n ≤ (lL D p).cap
theorem Bo.ext {T : TypeId} {w w' : World} {g90 ga gf : Nat} {A : Option Addr} {N cap : Nat} {ea ef : Array MapEntry} {ca cf : Nat} {D : List (P3 × Hd)} {ts : List T3} (h : Bo T w g90 ga gf A N cap ea ef ca cf D ts) (e : eB w w') : Bo T w' g90 ga gf A N cap ea ef ca cf D ts :=
 ⟨h.b.ext e,h.a.ext e,h.f.ext e,fun p=>⟨(h.t p).1.ext e,(h.t p).2⟩⟩
structure Ia (ea ef : Array MapEntry) (ca cf : Nat) (D : List (P3 × Hd)) (F : List (P3 × Bool)) (ts : List T3) : Prop where
 a : bP pt Hd.v D ea ca
 f : bP pt Value.bool F ef cf
 nk : (D.map (·.1)).Nodup
 k : ∀ p,p ∈ D.map (·.1) ↔ p ∈ dF ts
 b : ∀ p,(cK F p).getD false = Sj (cS ts) p
def aan (es : List E3) : List P3:=es.flatMap fun e=>[e.1,e.2]
theorem acR {es : List E3} {p : P3} : decide (p ∈ aan es) = Sj es p:=by
 rw [Bool.eq_iff_iff,decide_eq_true_eq];unfold aan Sj;rw [List.mem_flatMap,List.any_eq_true];constructor
 · rintro ⟨e,he,hp⟩
   refine ⟨e,he,?_⟩;simp only[List.mem_cons,List.not_mem_nil,or_false] at hp;rcases hp with rfl | rfl <;> simp
 · rintro ⟨e,he,hp⟩
   refine ⟨e,he,?_⟩;simp only[Bool.or_eq_true,decide_eq_true_eq] at hp;rcases hp with rfl | rfl <;> simp
theorem aao {es : List E3} {k : Nat} {e : E3} (h : es[k]? = some e) : aan (es.take (k + 1)) = aan (es.take k) ++ [e.1] ++ [e.2]:=by
 rw [cQ h];unfold aan;rw [List.flatMap_append,List.append_assoc];rfl
def wQ (t : T3) : List P3:=[t.a,t.b,t.c]
theorem Xm {t : T3} {j : Nat} (hj : j < 3) : (wQ t)[j]? = some (t.cor j):=by
 have h : j = 0 ∨ j = 1 ∨ j = 2:=by omega
 rcases h with rfl | rfl | rfl <;> rfl
theorem Lf {t : T3} {j : Nat} (hj : j < 3) : (wQ t).take (j + 1) = (wQ t).take j ++ [t.cor j]:=cQ (Xm hj)
theorem acS {t : T3} {j : Nat} (hn : t.nd = true) (hj : j < 3) : t.cor j ∉ (wQ t).take j:=fun h=>by
 have hd : (wQ t).Nodup:=Ht hn;obtain ⟨i,hi⟩:=List.mem_iff_getElem?.1 h;rw [List.getElem?_take] at hi;split at hi
 · rename_i hij
   obtain ⟨a1,a2⟩:=List.getElem?_eq_some_iff.1 hi;obtain ⟨b1,b2⟩:=List.getElem?_eq_some_iff.1 (Xm (t:=t) hj);have:=(List.getElem_inj hd).1 (a2.trans b2.symm);omega
 · cases hi
theorem aii {ts : List T3} {p : P3} : (ts.filter fun t=>t.has p) ≠ [] ↔ p ∈ dF ts:=by
 constructor
 · intro h
   obtain ⟨t,ht⟩:=List.exists_mem_of_ne_nil _ h;obtain ⟨h1,h2⟩:=List.mem_filter.1 ht;exact rW h1 h2
 · intro h e
   obtain ⟨t,ht,hp⟩:=List.mem_flatMap.1 (show p ∈ ts.flatMap fun t=>[t.a,t.b,t.c] from h);have : t ∈ ts.filter fun t=>t.has p:=List.mem_filter.2 ⟨ht,lX.2 (by simpa using hp)⟩;rw [e] at this;cases this
theorem Bp {is : List It} {w : World} (h : (xI is).P w) (k : Nat) {i : It} (hi : is[k]? = some i) : i.P w:=h.1 i (List.mem_of_getElem? hi)
theorem aeI (l : List T3) (t : T3) (cs : List P3) (p : P3) {k : Nat} (h : l.length ≤ k) : (Im l t cs p).length ≤ k + 1:=by
 have:=List.length_filter_le (fun t=>T3.has t p) l;unfold Im;rw [List.length_append];split <;> simp <;> omega
theorem acT {A : Option Addr} {N cap : Nat} {ts : List T3} (w : World) (hT : bY w A N ts) (hnd : ∀ t ∈ ts,t.nd = true) (hN : ts.length ≤ 1000000) : eG prog 50 [.slice A N cap] w (fun v w'=>∃ g90 ga gf ea ef ca cf D F K,v = .pointer (some ⟨g90,0,none⟩) ∧ Mem w w' [K] ∧ (∀ u,K.P u → Bo 109 u g90 ga gf A N cap ea ef ca cf D ts) ∧ Ia ea ef ca cf D F ts):=by
 refine ⟨ai6,?_⟩;have m:=Mem.refl w;have htl:=hT.len;have hbl : (cS ts).length ≤ 10000000:=by have h1:=Gj (all:=bG ts) (bG ts) [];have h2:=rO ts;simp only[List.length_nil] at h1;unfold cS;omega
 go_enter func50,ntmps50
 refine aD fun K1 k1=>wp_region_lit (aA (aG) (aF (k1 _ _ ?_)));try clear k1 K1
 refine aD fun K2 k2=>wp_region_lit (aA (aB) ?_);simp only[zz];refine jA m ?_;clear m;intro qa u m;have hDa:=bP.nil (K:=P3) (V:=Hd) pt Hd.v;simp only[zz];refine jA m ?_;clear m;intro qf u m;have hDf:=bP.nil (K:=P3) (V:=Bool) pt Value.bool;refine aA (Ag rfl rfl rfl) ?_;simp only[zz];refine cB m rfl ?_;clear m;intro g3 u m;refine aA (aG) (aF ?_);simp only[zz];replace m:=m.bagNil;refine k2 _ _ ?_;try clear k2 K2
 refine aD fun K3 k3=>aD fun K4 k4=>wp_region_lit (aA (aB) (aA (bH rfl bQ rfl) (aA (aB) (aF (k4 _ _ ?_)))));try clear k4 K4
 refine wp_block ?_;simp only[zz];try simp only[Nat.zero_add,Nat.reduceAdd,Nat.reduceMul,Int.reduceToNat]
 refine bT [17] [5,7,18,19,20,21,22,23,24,25,26,27,28,29,30,31,32,33,34,35,36,37] (fun n vs wl=>∃ (k : Nat) (ea : Array MapEntry) (ca : Nat) (D : List (P3 × Hd)),vs = [.int .i64 (k:Int)] ∧ Mem w wl [yK (D.map (sI 39 (fun p=>(ts.take k).filter fun t=>t.has p))),bI g3 [.slice A N cap,.map (some qa),.map (some qf)] 109,mI qf #[] 0,mI qa ea ca] ∧ (bP pt Hd.v D ea ca) ∧ (Df D (fun p=>(ts.take k).filter fun t=>t.has p)) ∧ (k ≤ N) ∧ (n = N - k)) ?_ ?_
 · skip
   apply Exists.intro;simp only[zQ,zR,zD,zE];exact ⟨0,_,_,[],rfl,m,hDa,Df.nil,Nat.zero_le _,rfl⟩
 · intro n vs wr hI u
   clear m;obtain ⟨k,esa,ca,D,rfl,m,hDa,hS1,hk,hn⟩:=hI;simp only[zu,zF,zG];refine aD fun K5 k5=>wp_region_lit (aA (cW rfl rfl) (aF (k5 _ _ ?_)));try clear k5 K5
   refine aD fun K6 k6=>?_;simp only[zz];refine cG rfl (fun hc1=>?_) (fun hc1=>?_)
   · skip
     obtain ⟨t,ht,hti,a,hA,hrow⟩:=hT.get (i:=k) (by omega);subst hA;refine wp_skip (k6 _ _ ?_);try clear k6 K6
     refine aD fun K7 k7=>wp_block (aD fun K8 k8=>wp_region_lit (aA (aN bQ aR rfl rfl (by omega) (by omega) (dC (Int.toNat_natCast _))) ?_));simp only[zz];refine aJ rfl ((hrow.ext m.ext).lies bR aR) ?_;simp only[zz];refine bA m fP rfl ?_;clear m;intro g4 u m;simp only[zz];refine aT m 0 rfl rfl rfl aR (cU rfl) rfl ?_;clear m;intro u m;simp only[zy,zx,bB,zF,zG,Nat.reduceAdd] at m;refine aF (k8 _ _ ?_);try clear k8 K8
     refine aD fun K9 k9=>wp_region_lit (aJ rfl ((m.b 0 rfl).full bR aR) ?_);simp only[zz];refine aA (aB) (aF (k9 _ _ ?_));try clear k9 K9
     refine wp_block ?_;simp only[zz];try simp only[Nat.zero_add,Nat.reduceAdd,Nat.reduceMul,Int.reduceToNat]
     refine bT [22] [7,23,24,25,26,27,28,29,30,31,32,33,34,35,36] (fun n vs wl=>∃ (j : Nat) (ea : Array MapEntry) (ca : Nat) (D : List (P3 × Hd)),vs = [.int .i64 (j:Int)] ∧ Mem w wl [bI g4 [.int .i64 t.a.x,.int .i64 t.a.y,.int .i64 t.a.z,.int .i64 t.b.x,.int .i64 t.b.y,.int .i64 t.b.z,.int .i64 t.c.x,.int .i64 t.c.y,.int .i64 t.c.z] 39,yK (D.map (sI 39 (Im (ts.take k) t ((wQ t).take j)))),bI g3 [.slice (some a) N cap,.map (some qa),.map (some qf)] 109,mI qf #[] 0,mI qa ea ca] ∧ (bP pt Hd.v D ea ca) ∧ (Df D (Im (ts.take k) t ((wQ t).take j))) ∧ (j ≤ 3) ∧ (n = 3 - j)) ?_ ?_
     · rw [← aeG (ts.take k) t] at m hS1
       apply Exists.intro;simp only[zQ,zR,zD,zE];exact ⟨0,_,_,D,rfl,m,hDa,hS1,Nat.zero_le _,rfl⟩
     · intro n vs wr hI u
       clear m;obtain ⟨j,esa,ca,D,rfl,m,hDa,hS2,hj,hn2⟩:=hI;simp only[zu,zF,zG];refine aD fun K10 k10=>wp_region_lit (aA (cW rfl rfl) (aF (k10 _ _ ?_)));try clear k10 K10
       refine aD fun K11 k11=>?_;simp only[zz];refine cG rfl (fun hc2=>?_) (fun hc2=>?_)
       · skip
         have hj3 : j < 3:=by omega
         refine wp_skip (k11 _ _ ?_);try clear k11 K11
         refine aD fun K12 k12=>wp_block (aD fun K13 k13=>wp_region_lit (aA ((Ro (t:=t) hj3 rfl rfl)) ?_));simp only[zz];refine bA m bO rfl ?_;clear m;intro g5 u m;simp only[zz];refine aT m 0 rfl rfl rfl aC (cU rfl) rfl ?_;clear m;intro u m;simp only[zy,zx,bB,zF,zG,Nat.reduceAdd] at m;refine aF (k13 _ _ ?_);try clear k13 K13
         replace m:=m.pull 2 rfl;simp only[dW,dX,zF,zG] at m;obtain ⟨rest,m9,hn9,hS9⟩:=hS2.take m (t.cor j);replace m:=m9;clear m9;have hl9 : ((Im (ts.take k) t ((wQ t).take j)) (t.cor j)).length ≤ k + 1:=aeI _ _ _ _ (by rw [List.length_take];omega);rw [← hn9] at hl9;refine mh m [false,true,true,true,true,true,false] [(0,true),(1,true),(2,true),(3,true),(4,true),(5,true),(6,false),(7,false),(8,true),(10,true),(9,false),(11,false)] aM (by kernel_rfl) (cN (fun _ _ _ _ _ h=>h)) (ol:=?_) ?hol ?_
         case hol=>simp only[zw,zQ,zR];try rfl
         clear m;intro u m;refine aS (aB) (aS (bS rfl) (aS (aL (c:=0) pK rfl vX rfl rfl) ?_));simp only[zz];refine cI rfl (fun u m=>((m.b 3 rfl).lies1 Mg rfl)) ?_;simp only[zz];refine cI rfl (fun u m=>((m.b 1 rfl).full aI aC)) ?_;simp only[zz];refine cI rfl (fun u m=>((m.b 2 rfl).full bR aR)) ?_;simp only[zz];refine cJ (eT rfl ?_);intro u g6 e hg hB;replace m:=m.newB e hg hB;clear e hg hB;refine aF (⟨m.sel [false,false,true,true,true,true,true,false],?_⟩);refine cJ ?_;simp only[zz];refine sZ (ek:=pt) (en:=Hd.v) (a:=t.cor j) (v0:=⟨none,0,0⟩) m 7 rfl underlying106 We fD rfl rfl hDa ?_;clear m;intro esa ca bs u m hD' hS;simp only[zF,zG] at m;refine aF (⟨m.sel [false,false,true,true,true,true,true,false],?_⟩);refine aS (bC rfl rfl) (aS (bC rfl rfl) (cJ ?_));simp only[zz];refine dD m 1 rfl rfl bQ iK rfl (by decide) rfl rfl rfl (m.b 0 rfl).rowsO (jZ rfl) (by omega) (by omega) ?_;clear m;intro A9 cap9 u m;simp only[zF,zG] at m;refine aF (⟨m.sel [false,false,true,true,true,true,true,false],?_⟩);refine cJ ?_;simp only[zz];refine lY (ek:=pt) (en:=Hd.v) (a:=t.cor j) (v:=(⟨A9,(lL D (t.cor j)).n + 1,cap9⟩ : Hd)) m 7 rfl rfl rfl rfl hS ?_;clear m hD' hS;intro esa u m hD';clear hDa;have hDa:=hD';clear hD';simp only[zF,zG] at m;refine aF (⟨m.sel [false,false,true,true,true,true,true,false],?_⟩);refine aY ?_;replace m:=m.pull 2 rfl;simp only[dW,dX,zF,zG] at m;replace m:=m.pull 2 rfl;simp only[dW,dX,zF,zG] at m;have hfs : (Im (ts.take k) t ((wQ t).take (j + 1))) (t.cor j) = (Im (ts.take k) t ((wQ t).take j)) (t.cor j) ++ [t]:=by rw [Lf hj3];exact aih (acS (hnd t (List.mem_of_getElem? ht)) hj3)
         obtain ⟨hp9,hS3⟩:=hS9 ⟨A9,(lL D (t.cor j)).n + 1,cap9⟩ (Im (ts.take k) t ((wQ t).take (j + 1))) (fun q hq=>by rw [Lf hj3];exact aig hq) (by rw [hfs,List.length_append,hn9];rfl) (by rw [hfs];simp);rw [show ((Im (ts.take k) t ((wQ t).take j)) (t.cor j)).flatMap aW ++ _ = ((Im (ts.take k) t ((wQ t).take (j + 1))) (t.cor j)).flatMap aW by rw [hfs,List.flatMap_append];rfl,show (lL D (t.cor j)).n + 1 = ((Im (ts.take k) t ((wQ t).take (j + 1))) (t.cor j)).length by rw [hfs,List.length_append,hn9];rfl] at m;replace m:=(Mem.bagPush (j:=sI 39 (Im (ts.take k) t ((wQ t).take (j + 1))) (t.cor j,⟨A9,(lL D (t.cor j)).n + 1,cap9⟩)) m).bagPerm hp9;replace m:=m.pull 3 rfl;simp only[dW,dX,zF,zG] at m;refine k12 _ _ ?_;try clear k12 K12
         refine wp_region_lit (aA (aU rfl rfl (aV (by omega) (by omega))) (aA (aB) (aF ?_)));simp only[zz];simp only[Exit.inBlock,Exit.then];refine ⟨3 - (j + 1),_,?_,rfl,?_,?_⟩
         · omega
         · simp only[zz,zv]
         · simp only[zQ,zR,zD,zE]
           exact ⟨j + 1,_,_,_,rfl,(m.sel [true,true,false,false,true,true,true]),hDa,hS3,by omega,rfl⟩
       · skip
         obtain rfl : j = 3:=by omega
         rw [show (wQ t).take 3 = [t.a,t.b,t.c] from rfl,aeH ht] at m hS2;refine wp_exit (k7 _ _ ?_);try clear k7 K7
         refine wp_region_lit (aA (aU rfl rfl (aV (by omega) (by omega))) (aA (aB) (aF ?_)));simp only[zz];simp only[Exit.inBlock,Exit.then];refine ⟨N - (k + 1),_,?_,rfl,?_,?_⟩
         · omega
         · simp only[zz,zv]
         · simp only[zQ,zR,zD,zE]
           exact ⟨k + 1,_,_,D,rfl,(m.sel [false,true,true,true,true]),hDa,hS2,by omega,rfl⟩
   · skip
     obtain rfl : N = k:=by omega
     rw [show ts.take N = ts from List.take_of_length_le (by omega)] at m hS1;refine wp_exit (k3 _ _ ?_);try clear k3 K3
     refine aD fun K14 k14=>aD fun K15 k15=>wp_region_lit (aA (aB) ?_);simp only[zz];refine cD rfl rfl (Zx _ (hT.ext m.ext) (by omega)) ?_;rintro v u e ⟨A4,c4,n4,hn4,rfl,hN⟩;replace m:=m.newO e hN;clear e hN;subst hn4;refine aA (bH rfl xC rfl) (aA (aB) (aF (k15 _ _ ?_)));try clear k15 K15
     refine wp_block ?_;simp only[zz];try simp only[Nat.zero_add,Nat.reduceAdd,Nat.reduceMul,Int.reduceToNat]
     refine bT [41] [9,42,43,44,45,46,47,48,49,50,51,52,53,54,55,56,57,58,59,60,61] (fun n vs wl=>∃ (i : Nat) (ef : Array MapEntry) (cf : Nat),vs = [.int .i64 (i:Int)] ∧ Mem w wl [oI 56 6 A4 (cS ts).length c4 ((cS ts).flatMap dT),yK (D.map (sI 39 (fun p=>ts.filter fun t=>t.has p))),bI g3 [.slice A N cap,.map (some qa),.map (some qf)] 109,mI qf ef cf,mI qa esa ca] ∧ (bP pt Value.bool (fB [] (aan ((cS ts).take i))) ef cf) ∧ (i ≤ (cS ts).length) ∧ (n = (cS ts).length - i)) ?_ ?_
     · skip
       apply Exists.intro;simp only[zQ,zR,zD,zE];exact ⟨0,_,_,rfl,m,hDf,Nat.zero_le _,rfl⟩
     · intro n vs wr hI u
       clear m;obtain ⟨i,esf,cf,rfl,m,hDf,hi,hn3⟩:=hI;simp only[zu,zF,zG];refine aD fun K16 k16=>wp_region_lit (aA (cW rfl rfl) (aF (k16 _ _ ?_)));try clear k16 K16
       refine aD fun K17 k17=>?_;simp only[zz];refine cG rfl (fun hc3=>?_) (fun hc3=>?_)
       · skip
         obtain ⟨e,he,ae,hA4,hr5⟩:=((m.o 0 rfl).lat (enc:=dT) (fun _=>rfl) (by decide)).get (i:=i) (by omega);subst hA4;refine wp_skip (k17 _ _ ?_);try clear k17 K17
         refine aD fun K18 k18=>wp_block (aD fun K19 k19=>wp_region_lit (aA (aN xC iD rfl rfl (by omega) (by omega) (dC (Int.toNat_natCast _))) ?_));simp only[zz];refine aJ rfl (show hG _ _ _ _ (.agg #[.int .i64 e.1.x,.int .i64 e.1.y,.int .i64 e.1.z,.int .i64 e.2.x,.int .i64 e.2.y,.int .i64 e.2.z]) from hr5.lies Ci iD) ?_;simp only[zz];refine bA m vV rfl ?_;clear m;intro g4 u m;simp only[zz];refine aT m 0 rfl rfl rfl iD (cU rfl) rfl ?_;clear m;intro u m;simp only[zy,zx,bB,zF,zG,Nat.reduceAdd] at m;refine aF (k19 _ _ ?_);try clear k19 K19
         refine mh m [true,true,true,true,false,true] [(0,true),(1,true),(2,true),(4,true),(6,true),(7,true),(8,true),(10,true),(3,true),(5,true),(9,true),(11,true),(12,false),(13,true),(14,false),(15,false),(16,true),(17,false)] aM (by kernel_rfl) (cN (fun _ _ _ _ _ h=>h)) (ol:=?_) ?hol ?_
         case hol=>simp only[zw,zQ,zR];try rfl
         clear m;intro u m;refine aS (aB) (aS (bS rfl) (aS (aL (c:=0) pK rfl gW rfl rfl) (aS (aH tO aC rfl rfl (by decide) (by decide) rfl) ?_)));simp only[zz];refine aS (aB) (aS (bS rfl) (aS (aL (c:=0) pK rfl gW rfl rfl) (aS (aH tO aC rfl rfl (by decide) (by decide) rfl) ?_)));simp only[zz];refine cI rfl (fun u m=>((m.b 3 rfl).lies1 lT rfl)) ?_;simp only[zz];refine cI rfl (fun u m=>((m.b 0 rfl).lies aI aC rfl rfl)) ?_;simp only[zz,zy,Nat.zero_add,Nat.reduceAdd,Nat.reduceMul,Int.reduceToNat];refine cI rfl (fun u m=>((m.b 3 rfl).lies1 lT rfl)) ?_;simp only[zz];refine cI rfl (fun u m=>((m.b 0 rfl).lies aI aC rfl rfl)) ?_;simp only[zz,zy,Nat.zero_add,Nat.reduceAdd,Nat.reduceMul,Int.reduceToNat];refine cJ (sZ (ek:=pt) (en:=Value.bool) (a:=e.1) (v0:=false) m 4 rfl kI kY fD rfl rfl hDf ?_);clear m;intro esf cf bs u m hD' hS;simp only[zF,zG] at m;refine aF (⟨m.sel [true,true,true,true,false,true],?_⟩);refine aS (bC rfl rfl) (cJ ?_);simp only[zz];refine lY (ek:=pt) (en:=Value.bool) (a:=e.1) (v:=true) m 4 rfl rfl rfl rfl hS ?_;clear m hD' hS;intro esf u m hD';clear hDf;have hDf:=hD';clear hD';simp only[zF,zG] at m;rw [← jE] at hDf;refine aF (⟨m.sel [true,true,true,true,false,true],?_⟩);refine cJ (sZ (ek:=pt) (en:=Value.bool) (a:=e.2) (v0:=false) m 4 rfl kI kY fD rfl rfl hDf ?_);clear m;intro esf cf bs u m hD' hS;simp only[zF,zG] at m;refine aF (⟨m.sel [true,true,true,true,false,true],?_⟩);refine aS (bC rfl rfl) (cJ ?_);simp only[zz];refine lY (ek:=pt) (en:=Value.bool) (a:=e.2) (v:=true) m 4 rfl rfl rfl rfl hS ?_;clear m hD' hS;intro esf u m hD';clear hDf;have hDf:=hD';clear hD';simp only[zF,zG] at m;rw [← jE] at hDf;refine aF (⟨m.sel [true,true,true,true,false,true],?_⟩);refine aY (k18 _ _ ?_);try clear k18 K18
         refine wp_region_lit (aA (aU rfl rfl (aV (by omega) (by omega))) (aA (aB) (aF ?_)));simp only[zz];simp only[Exit.inBlock,Exit.then];refine ⟨(cS ts).length - (i + 1),_,?_,rfl,?_,?_⟩
         · omega
         · simp only[zz,zv]
         · simp only[zQ,zR,zD,zE]
           exact ⟨i + 1,_,_,rfl,(m.sel [false,true,true,true,true,true]),by rw [aao he];exact hDf,by omega,rfl⟩
       · skip
         obtain rfl : i = (cS ts).length:=by omega
         rw [show (cS ts).take (cS ts).length = cS ts from List.take_of_length_le (Nat.le_refl _)] at hDf;refine wp_exit (k14 _ _ ?_);try clear k14 K14
         refine aD fun K20 k20=>wp_region_lit (aA (aB) (aA (aG) (aF (k20 _ _ ?_))));try clear k20 K20
         refine wp_ret ?_;simp only[zz];try simp only[Exit.inBlock,Exit.then,if_true]
         refine bE rfl rfl ?_;try simp only[zD,zE]
         exact ⟨_,rfl,m.ext,_,_,_,_,_,_,_,D,_,xI [_,_,_,_],rfl,Mem.pack [] (m.sel [false,true,true,true,true]),(fun u hP=>⟨by have h:=Bp hP 1 rfl;exact h,by have h:=Bp hP 3 rfl;exact h,by have h:=Bp hP 2 rfl;exact h,fun p=>hS1.trisP (Bp hP 0 rfl) (fun p t ht=>hT.it t (List.mem_filter.1 ht).1) p⟩),⟨hDa,hDf,hS1.nk,fun p=>by rw [hS1.iff];exact aii,fun p=>by rw [nA];exact acR⟩⟩
end Go.Proofs.YtfekpcimgncioaaGreatDoor
namespace Go.Proofs.YtfekpcimgncioaaGreatDoor
open Go.Proofs.Tryz
open Go.RowKit Go.Lith
set_option maxRecDepth 100000
attribute [local irreducible] wpList wpQuiet dB bL cE Code.wp
section
variable {ts : List T3} {p q : P3} {F : List (P3 × Bool)}
theorem aap (hF : ∀ z,(cK F z).getD false = Sj (cS ts) z) : ((cK (fB [] (kF ts p)) q).getD false && !(cK F p).getD false) = sW ts p q:=by
 rw [hF,nA];unfold sW
 congr 1
 rw [Bool.eq_iff_iff,decide_eq_true_eq,nD]
theorem aaq : decide (yC (fB [] (kF ts q)) (fB [] (kF ts p)) = 2) = Ay ts p q:=by
 unfold Ay
 congr 2
 unfold yC;have hp : ((fB [] (kF ts p)).map (·.1)).Perm (nbL ts p):=by
  refine (List.perm_ext_iff_of_nodup (xT _ [] List.nodup_nil) ?_).2 fun x=>?_
  · exact (Jl ts).sublist (List.filter_sublist ..)
  · rw [pQ,Az,nD];simp
 have e : (fun k=>(cK (fB [] (kF ts q)) k).getD false) = Mw ts q:=funext fun k=>by
  rw [nA,Bool.eq_iff_iff,decide_eq_true_eq,nD]
 rw [e];exact (hp.filter _).length_eq
theorem acU (hF : ∀ z,(cK F z).getD false = Sj (cS ts) z) : Nn (fB [] (kF ts p)) (fB [] (kF ts q)) F q = Hi ts p q:=by
 unfold Nn Hi;rw [hF]
 congr 1
 rw [Bool.eq_iff_iff,List.all_eq_true,List.all_eq_true];have key : ∀ k,(!aag F (fB [] (kF ts q)) q k) = (decide (k = q) || !Sj (cS ts) k || Mw ts q k):=fun k=>by
  unfold aag;have e1 : decide (¬ (k.x = q.x ∧ k.y = q.y ∧ k.z = q.z)) = !decide (k = q):=by
   rw [← decide_not];exact decide_eq_decide.2 ⟨fun h e=>h (by rw [e];exact ⟨rfl,rfl,rfl⟩),fun h e=>h (P3.eq e.1 e.2.1 e.2.2)⟩
  have e2 : (cK (fB [] (kF ts q)) k).getD false = Mw ts q k:=by rw [nA,Bool.eq_iff_iff,decide_eq_true_eq,nD]
  rw [e1,e2,hF];cases decide (k = q) <;> cases Sj (cS ts) k <;> cases Mw ts q k <;> rfl
 constructor
 · intro h k hk
   rw [← key];exact h k ((pQ _ _ _).2 (.inr (nD.2 (Az.1 hk))))
 · intro h k hk
   rw [key];exact h k (Az.2 (nD.1 (((pQ _ _ _).1 hk).elim (fun h=>(by cases h)) id)))
theorem Vd : Uw (jH p q ts) (jI p q ts) = vD ts p q:=by
 unfold Uw vD jI;rw [List.zip_map_right,List.all_map];rw [Bool.eq_iff_iff,List.all_eq_true,List.all_eq_true];constructor
 · intro h t ht
   obtain ⟨i,hi⟩:=List.mem_iff_getElem?.1 ht;exact h (t,t) (List.mem_of_getElem? (i:=i) (by rw [List.getElem?_zip_eq_some];exact ⟨hi,hi⟩))
 · rintro h ⟨x,y⟩ hx
   obtain ⟨i,hi⟩:=List.mem_iff_getElem?.1 hx;rw [List.getElem?_zip_eq_some] at hi;obtain rfl : x = y:=Option.some.inj (hi.1.symm.trans hi.2);exact h x (List.mem_of_getElem? hi.1)
theorem Ib (ts : List T3) (p : P3) : (kF ts p).length ≤ 3 * ts.length:=by
 have h1:=List.length_filter_le (fun t=>T3.has t p) ts;unfold kF;rw [List.length_flatMap];have h2 : ∀ L : List T3,(L.map fun t=>(nbT p t).length).sum ≤ 3 * L.length:=fun L=>by
  induction L with
  | nil=>exact Nat.le_refl _
  | cons t L ih =>
   have : (nbT p t).length ≤ 3:=by
    unfold nbT Ra;rw [List.length_append,List.length_append];split <;> split <;> split <;> simp
   simp only[List.map_cons,List.sum_cons,List.length_cons];omega
 exact Nat.le_trans (h2 _) (by omega)
theorem acV : aam (jI p q ts) (mD p q ts) = Mx ts p q:=rfl
theorem aj1 (hnd : ∀ t ∈ ts,t.nd = true) : ∀ t ∈ jI p q ts ++ mD p q ts,t.nd = true:=fun t ht=>by
 rcases List.mem_append.1 ht with h | h
 · obtain ⟨s,hs,rfl⟩:=List.mem_map.1 h
   have:=(List.mem_filter.1 hs).2;rw [Bool.and_eq_true] at this;exact this.2
 · exact hnd t (List.mem_filter.1 h).1
theorem Lg [I3 q] (hI : ∀ t ∈ ts,IT t) : (∀ t ∈ jI p q ts,IT t) ∧ (∀ t ∈ jH p q ts,IT t) ∧ ∀ t ∈ mD p q ts,IT t :=
 ⟨fun t ht=>by
  obtain ⟨s,hs,rfl⟩:=List.mem_map.1 ht;have:=hI s (List.mem_filter.1 hs).1;exact ⟨Cz inferInstance this.a,Cz inferInstance this.b,Cz inferInstance this.c⟩,fun t ht=>hI t (List.mem_filter.1 ht).1,fun t ht=>hI t (List.mem_filter.1 ht).1⟩
theorem aij (p q : P3) (ts : List T3) : (jI p q ts).length + (mD p q ts).length ≤ ts.length + ts.length:=by
 have h1:=acP p q ts;have h2:=Vc p q ts;have h3:=Nu p q ts;omega
end
theorem Lh {g90 ga gf N cap ca cf : Nat} {A : Option Addr} {ea ef : Array MapEntry} {D : List (P3 × Hd)} {F : List (P3 × Bool)} {ts : List T3} {p q : P3} [I3 p] [I3 q] (w : World) (hS : Bo 109 w g90 ga gf A N cap ea ef ca cf D ts) (hD : Ia ea ef ca cf D F ts) (hT : bY w A N ts) (hnd : ∀ t ∈ ts,t.nd = true) (hN : ts.length ≤ 1000000) : eG prog 51 [.pointer (some ⟨g90,0,none⟩),pt p,pt q] w (fun v _=>v = .bool (dA ts p q)):=by
 refine ⟨ai7,?_⟩;have m:=Mem.refl w;have hxl : (fB [] (kF ts p)).length ≤ 100000000:=by have h1:=lJ (kF ts p) [];have h2:=Ib ts p;simp only[List.length_nil] at h1;omega
 have hlen:=aij p q ts;have hlen1:=Vc p q ts;have hlen2:=Nu p q ts
 go_enter func51,ntmps51
 refine aD fun K1 k1=>wp_region_lit (cB m rfl ?_);clear m;intro g8 u m;simp only[zz];refine cB m rfl ?_;clear m;intro g9 u m;refine aA (aG) (aF (k1 _ _ ?_));try clear k1 K1
 refine aD fun K2 k2=>wp_region_lit (aA (aB) ?_);simp only[zz];refine aJ rfl ((m.b 1 rfl).full aI aC) ?_;simp only[zz];refine aJ rfl ((m.b 0 rfl).full aI aC) ?_;simp only[zz];refine cD rfl rfl (aif (p:=p) (q:=q) _ (hS.b.ext m.ext) (hS.a.ext m.ext) hD.a (fun z=>⟨(hS.t z).1.ext m.ext,(hS.t z).2⟩) (hT.ext m.ext) (by omega)) ?_;rintro v u e ⟨g7,qx,esx,cx,qy,esy,cy,A5,n5,cap5,A6,n6,cap6,A7,n7,cap7,rfl,hM,hDx,hDy,hn5,hn6,hn7⟩;replace m:=m.plus hM;clear hM e;simp only[List.cons_append,List.nil_append] at m;refine aA (aG) (aF (k2 _ _ ?_));try clear k2 K2
 refine aD fun K3 k3=>aD fun K4 k4=>wp_region_lit (aA (aB) ?_);simp only[zz];refine aA (eZ) ?_;simp only[zz,List.map_toArray,List.map_cons,List.map_nil];refine aA (aB) ?_;simp only[zz];refine aA (eZ) ?_;simp only[zz,List.map_toArray,List.map_cons,List.map_nil];refine aA (aB) ?_;simp only[zz];refine aA (eZ) ?_;simp only[zz,List.map_toArray,List.map_cons,List.map_nil];refine aA (aB) ?_;simp only[zz];refine aA (eZ) ?_;simp only[zz,List.map_toArray,List.map_cons,List.map_nil];refine aA (aB) ?_;simp only[zz];refine aA (eZ) ?_;simp only[zz,List.map_toArray,List.map_cons,List.map_nil];refine aA (aB) ?_;simp only[zz];refine aA (eZ) ?_;simp only[zz,List.map_toArray,List.map_cons,List.map_nil];refine Tp rfl rfl rfl rfl rfl rfl ?_;intro u g10 e hg hB;replace m:=m.newB e hg hB;clear e hg hB;refine aA (bH rfl uP rfl) (aA (aB) (aF (k4 _ _ ?_)));try clear k4 K4
 refine wp_block (wp_loop_rounds 7 (bU (aD fun K5 k5=>wp_region_lit (aA (bF (m:=0) (n:=6) rfl rfl (by decide)) ?_))));simp only[zz];refine aF (k5 _ _ ?_);try clear k5 K5
 refine aD fun K6 k6=>bK rfl (wp_skip (k6 _ _ ?_));try clear k6 K6
 refine aD fun K7 k7=>wp_block (aD fun K8 k8=>wp_region_lit (aA (aN uP rS rfl rfl (by decide) (by omega) rfl) ?_));simp only[zz];refine aJ rfl ((m.b 0 rfl).lies1 Cg rfl) ?_;simp only[zz];refine aA (aG) (aF (k8 _ _ ?_));try clear k8 K8
 refine aD fun K9 k9=>wp_region_lit (aA (aB) ?_);simp only[zz];refine eE m rfl rfl (aad (ts:=ts) (X:=fB [] (kF ts p)) (Y:=fB [] (kF ts q)) (F:=F) (ex:=esx) (ey:=esy) (ef:=ef) (cx:=cx) (cy:=cy) (cf:=cf) _ (m.b 1 rfl) (hS.b.ext m.ext) (m.p 6 rfl) hDx (hS.f.ext m.ext) hD.f) ?_;clear m;rintro v u m rfl;simp only[zz];rw [aap hD.b];refine aA (fR rfl) (aF (k9 _ _ ?_));try clear k9 K9
 simp only[zz];refine eD rfl (fun hc2=>?_) (fun hc2=>?_)
 · skip
   have f0 : sW ts p q = false:=by simpa using hc2
   refine aD fun K10 k10=>wp_region_lit (aA (aG) (aF (k10 _ _ ?_)));try clear k10 K10
   refine wp_ret ?_;simp only[zz];try simp only[Exit.inBlock,Exit.then,if_true]
   refine bE rfl rfl ?_;try simp only[zD,zE]
   exact ⟨_,rfl,m.ext,by rw [show dA ts p q = false by unfold dA;simp only[f0,Bool.false_and,Bool.and_false,Bool.and_self,Bool.true_and,Bool.and_true]]⟩
 · skip
   have f0 : sW ts p q = true:=by simpa using hc2
   refine wp_skip (k7 _ _ ?_);try clear k7 K7
   refine wp_region_lit (aA (aU (m:=0) (n:=1) (r:=1) rfl rfl (by decide)) (aA (aB) (aF (aQ (aD fun K11 k11=>wp_region_lit (aA (bF (m:=1) (n:=6) rfl rfl (by decide)) (aF (k11 _ _ ?_))))))));try clear k11 K11
   refine aD fun K12 k12=>bK rfl (wp_skip (k12 _ _ ?_));try clear k12 K12
   refine aD fun K13 k13=>wp_block (aD fun K14 k14=>wp_region_lit ?_);simp only[zz];refine aA (aN uP rS rfl rfl (by decide) (by omega) rfl) ?_;simp only[zz];refine aJ rfl ((m.b 0 rfl).lies1 Cg rfl) ?_;simp only[zz];refine aA (aG) (aF (k14 _ _ ?_));try clear k14 K14
   refine aD fun K15 k15=>wp_region_lit (aA (aB) ?_);simp only[zz];refine eE m rfl rfl (aaf (ts:=ts) (X:=fB [] (kF ts p)) (Y:=fB [] (kF ts q)) (F:=F) (ex:=esx) (ey:=esy) (ef:=ef) (cx:=cx) (cy:=cy) (cf:=cf) _ (m.b 1 rfl) (hS.b.ext m.ext) (m.p 6 rfl) hDx (m.p 5 rfl) hDy hxl) ?_;clear m;rintro v u m rfl;simp only[zz];rw [aaq];refine aA (fR rfl) (aF (k15 _ _ ?_));try clear k15 K15
   simp only[zz];refine eD rfl (fun hc2=>?_) (fun hc2=>?_)
   · skip
     have f1 : Ay ts p q = false:=by simpa using hc2
     refine aD fun K16 k16=>wp_region_lit (aA (aG) (aF (k16 _ _ ?_)));try clear k16 K16
     refine wp_ret ?_;simp only[zz];try simp only[Exit.inBlock,Exit.then,if_true]
     refine bE rfl rfl ?_;try simp only[zD,zE]
     exact ⟨_,rfl,m.ext,by rw [show dA ts p q = false by unfold dA;simp only[f0,f1,Bool.false_and,Bool.and_false,Bool.and_self,Bool.true_and,Bool.and_true]]⟩
   · skip
     have f1 : Ay ts p q = true:=by simpa using hc2
     refine wp_skip (k13 _ _ ?_);try clear k13 K13
     refine wp_region_lit (aA (aU (m:=1) (n:=1) (r:=2) rfl rfl (by decide)) (aA (aB) (aF (aQ (aD fun K17 k17=>wp_region_lit (aA (bF (m:=2) (n:=6) rfl rfl (by decide)) (aF (k17 _ _ ?_))))))));try clear k17 K17
     refine aD fun K18 k18=>bK rfl (wp_skip (k18 _ _ ?_));try clear k18 K18
     refine aD fun K19 k19=>wp_block (aD fun K20 k20=>wp_region_lit ?_);simp only[zz];refine aA (aN uP rS rfl rfl (by decide) (by omega) rfl) ?_;simp only[zz];refine aJ rfl ((m.b 0 rfl).lies1 Cg rfl) ?_;simp only[zz];refine aA (aG) (aF (k20 _ _ ?_));try clear k20 K20
     refine aD fun K21 k21=>wp_region_lit (aA (aB) ?_);simp only[zz];refine eE m rfl rfl (aaj (ts:=ts) (X:=fB [] (kF ts p)) (Y:=fB [] (kF ts q)) (F:=F) (ex:=esx) (ey:=esy) (ef:=ef) (cx:=cx) (cy:=cy) (cf:=cf) (ms:=jI p q ts) (rs:=mD p q ts) _ (m.b 1 rfl) (hS.b.ext m.ext) ((m.o 4 rfl).tris (Lg (p:=p) (q:=q) hT.it).1) ((m.o 2 rfl).tris (Lg (p:=p) (q:=q) hT.it).2.2) (aj1 hnd) (by omega)) ?_;clear m;rintro v u m rfl;simp only[zz];rw [show decide ((jI p q ts ++ mD p q ts).map Hh).Nodup = Ey ts p q from rfl];refine aA (fR rfl) (aF (k21 _ _ ?_));try clear k21 K21
     simp only[zz];refine eD rfl (fun hc2=>?_) (fun hc2=>?_)
     · skip
       have f2 : Ey ts p q = false:=by simpa using hc2
       refine aD fun K22 k22=>wp_region_lit (aA (aG) (aF (k22 _ _ ?_)));try clear k22 K22
       refine wp_ret ?_;simp only[zz];try simp only[Exit.inBlock,Exit.then,if_true]
       refine bE rfl rfl ?_;try simp only[zD,zE]
       exact ⟨_,rfl,m.ext,by rw [show dA ts p q = false by unfold dA;simp only[f0,f1,f2,Bool.false_and,Bool.and_false,Bool.and_self,Bool.true_and,Bool.and_true]]⟩
     · skip
       have f2 : Ey ts p q = true:=by simpa using hc2
       refine wp_skip (k19 _ _ ?_);try clear k19 K19
       refine wp_region_lit (aA (aU (m:=2) (n:=1) (r:=3) rfl rfl (by decide)) (aA (aB) (aF (aQ (aD fun K23 k23=>wp_region_lit (aA (bF (m:=3) (n:=6) rfl rfl (by decide)) (aF (k23 _ _ ?_))))))));try clear k23 K23
       refine aD fun K24 k24=>bK rfl (wp_skip (k24 _ _ ?_));try clear k24 K24
       refine aD fun K25 k25=>wp_block (aD fun K26 k26=>wp_region_lit ?_);simp only[zz];refine aA (aN uP rS rfl rfl (by decide) (by omega) rfl) ?_;simp only[zz];refine aJ rfl ((m.b 0 rfl).lies1 Cg rfl) ?_;simp only[zz];refine aA (aG) (aF (k26 _ _ ?_));try clear k26 K26
       refine aD fun K27 k27=>wp_region_lit (aA (aB) ?_);simp only[zz];refine eE m rfl rfl (ack (ts:=ts) (X:=fB [] (kF ts p)) (Y:=fB [] (kF ts q)) (F:=F) (ex:=esx) (ey:=esy) (ef:=ef) (cx:=cx) (cy:=cy) (cf:=cf) _ (m.b 1 rfl) (hS.b.ext m.ext) (m.p 6 rfl) hDx (m.p 5 rfl) hDy (hS.f.ext m.ext) hD.f) ?_;clear m;rintro v u m rfl;simp only[zz];rw [acU hD.b];refine aA (fR rfl) (aF (k27 _ _ ?_));try clear k27 K27
       simp only[zz];refine eD rfl (fun hc2=>?_) (fun hc2=>?_)
       · skip
         have f3 : Hi ts p q = false:=by simpa using hc2
         refine aD fun K28 k28=>wp_region_lit (aA (aG) (aF (k28 _ _ ?_)));try clear k28 K28
         refine wp_ret ?_;simp only[zz];try simp only[Exit.inBlock,Exit.then,if_true]
         refine bE rfl rfl ?_;try simp only[zD,zE]
         exact ⟨_,rfl,m.ext,by rw [show dA ts p q = false by unfold dA;simp only[f0,f1,f2,f3,Bool.false_and,Bool.and_false,Bool.and_self,Bool.true_and,Bool.and_true]]⟩
       · skip
         have f3 : Hi ts p q = true:=by simpa using hc2
         refine wp_skip (k25 _ _ ?_);try clear k25 K25
         refine wp_region_lit (aA (aU (m:=3) (n:=1) (r:=4) rfl rfl (by decide)) (aA (aB) (aF (aQ (aD fun K29 k29=>wp_region_lit (aA (bF (m:=4) (n:=6) rfl rfl (by decide)) (aF (k29 _ _ ?_))))))));try clear k29 K29
         refine aD fun K30 k30=>bK rfl (wp_skip (k30 _ _ ?_));try clear k30 K30
         refine aD fun K31 k31=>wp_block (aD fun K32 k32=>wp_region_lit ?_);simp only[zz];refine aA (aN uP rS rfl rfl (by decide) (by omega) rfl) ?_;simp only[zz];refine aJ rfl ((m.b 0 rfl).lies1 Cg rfl) ?_;simp only[zz];refine aA (aG) (aF (k32 _ _ ?_));try clear k32 K32
         refine aD fun K33 k33=>wp_region_lit (aA (aB) ?_);simp only[zz];refine eE m rfl rfl (Ux (ts:=ts) (X:=fB [] (kF ts p)) (Y:=fB [] (kF ts q)) (F:=F) (ex:=esx) (ey:=esy) (ef:=ef) (cx:=cx) (cy:=cy) (cf:=cf) (ms:=jI p q ts) (os:=jH p q ts) _ (m.b 1 rfl) (hS.b.ext m.ext) ((m.o 4 rfl).tris (Lg (p:=p) (q:=q) hT.it).1) ((m.o 3 rfl).tris (Lg (p:=p) (q:=q) hT.it).2.1) (by omega) (by omega)) ?_;clear m;rintro v u m rfl;simp only[zz];rw [Vd];refine aA (fR rfl) (aF (k33 _ _ ?_));try clear k33 K33
         simp only[zz];refine eD rfl (fun hc2=>?_) (fun hc2=>?_)
         · skip
           have f4 : vD ts p q = false:=by simpa using hc2
           refine aD fun K34 k34=>wp_region_lit (aA (aG) (aF (k34 _ _ ?_)));try clear k34 K34
           refine wp_ret ?_;simp only[zz];try simp only[Exit.inBlock,Exit.then,if_true]
           refine bE rfl rfl ?_;try simp only[zD,zE]
           exact ⟨_,rfl,m.ext,by rw [show dA ts p q = false by unfold dA;simp only[f0,f1,f2,f3,f4,Bool.false_and,Bool.and_false,Bool.and_self,Bool.true_and,Bool.and_true]]⟩
         · skip
           have f4 : vD ts p q = true:=by simpa using hc2
           refine wp_skip (k31 _ _ ?_);try clear k31 K31
           refine wp_region_lit (aA (aU (m:=4) (n:=1) (r:=5) rfl rfl (by decide)) (aA (aB) (aF (aQ (aD fun K35 k35=>wp_region_lit (aA (bF (m:=5) (n:=6) rfl rfl (by decide)) (aF (k35 _ _ ?_))))))));try clear k35 K35
           refine aD fun K36 k36=>bK rfl (wp_skip (k36 _ _ ?_));try clear k36 K36
           refine aD fun K37 k37=>wp_block (aD fun K38 k38=>wp_region_lit ?_);simp only[zz];refine aA (aN uP rS rfl rfl (by decide) (by omega) rfl) ?_;simp only[zz];refine aJ rfl ((m.b 0 rfl).lies1 Cg rfl) ?_;simp only[zz];refine aA (aG) (aF (k38 _ _ ?_));try clear k38 K38
           refine aD fun K39 k39=>wp_region_lit (aA (aB) ?_);simp only[zz];refine eE m rfl rfl (acN (ts:=ts) (X:=fB [] (kF ts p)) (Y:=fB [] (kF ts q)) (F:=F) (ex:=esx) (ey:=esy) (ef:=ef) (cx:=cx) (cy:=cy) (cf:=cf) (ms:=jI p q ts) (rs:=mD p q ts) _ (m.b 1 rfl) (hS.b.ext m.ext) ((m.o 4 rfl).tris (Lg (p:=p) (q:=q) hT.it).1) ((m.o 2 rfl).tris (Lg (p:=p) (q:=q) hT.it).2.2) (m.o 4 rfl).le (by omega)) ?_;clear m;rintro v u m rfl;simp only[zz];rw [acV];refine aA (fR rfl) (aF (k39 _ _ ?_));try clear k39 K39
           simp only[zz];refine eD rfl (fun hc2=>?_) (fun hc2=>?_)
           · skip
             have f5 : Mx ts p q = false:=by simpa using hc2
             refine aD fun K40 k40=>wp_region_lit (aA (aG) (aF (k40 _ _ ?_)));try clear k40 K40
             refine wp_ret ?_;simp only[zz];try simp only[Exit.inBlock,Exit.then,if_true]
             refine bE rfl rfl ?_;try simp only[zD,zE]
             exact ⟨_,rfl,m.ext,by rw [show dA ts p q = false by unfold dA;simp only[f0,f1,f2,f3,f4,f5,Bool.false_and,Bool.and_false,Bool.and_self,Bool.true_and,Bool.and_true]]⟩
           · skip
             have f5 : Mx ts p q = true:=by simpa using hc2
             refine wp_skip (k37 _ _ ?_);try clear k37 K37
             refine wp_region_lit (aA (aU (m:=5) (n:=1) (r:=6) rfl rfl (by decide)) (aA (aB) (aF (aQ (aD fun K41 k41=>wp_region_lit (aA (dM (m:=6) (n:=6) rfl rfl (by decide)) (aF (k41 _ _ ?_))))))));try clear k41 K41
             refine aD fun K42 k42=>gA rfl (wp_exit (k3 _ _ ?_));try clear k3 K3
             refine aD fun K43 k43=>wp_region_lit (aA (aG) ?_);simp only[zz];refine aF (k43 _ _ ?_);try clear k43 K43
             refine wp_ret ?_;try simp only[Exit.inBlock,Exit.then,if_true]
             refine bE rfl rfl ?_;try simp only[zD,zE]
             exact ⟨_,rfl,m.ext,by rw [show dA ts p q = true by unfold dA;simp only[f0,f1,f2,f3,f4,f5,Bool.false_and,Bool.and_false,Bool.and_self,Bool.true_and,Bool.and_true]]⟩
end Go.Proofs.YtfekpcimgncioaaGreatDoor
namespace Go.Proofs.YtfekpcimgncioaaGreatDoor
open Go.Proofs.Tryz
open Go.RowKit Go.Lith
set_option maxRecDepth 100000
attribute [local irreducible] wpList wpQuiet dB bL cE Code.wp
theorem acW {P : Program} {l : List Value} {op : Op} {ty : TypeId} {b c : Bool} (h : fC P l op ty (.bool b)) (e : b = c) : fC P l op ty (.bool c):=e ▸ h
def Ic (ts : List T3) (p q : P3) : Bool:=decide (p ≠ q) && decide (eV true ts = 0) && dA ts p q
theorem Ie {ts : List T3} (h : eV true ts = 0) : ∀ t ∈ ts,t.nd = true:=fun t ht=>Go.Lith.nd_of ((Qf h).1 t ht)
theorem aj2 {p q : P3} : (p.x = q.x ∧ p.y = q.y ∧ p.z = q.z) ↔ p = q:=⟨fun h=>P3.eq h.1 h.2.1 h.2.2,fun h=>by rw [h];exact ⟨rfl,rfl,rfl⟩⟩
theorem afl {p q : P3} (h : p ≠ q) : decide (¬ (p.x = q.x ∧ p.y = q.y ∧ p.z = q.z)) = true:=decide_eq_true fun k=>h (aj2.1 k)
theorem aj3 {p q : P3} (h : p = q) : decide (¬ (p.x = q.x ∧ p.y = q.y ∧ p.z = q.z)) = false:=decide_eq_false fun k=>k (aj2.2 h)
theorem wH {ts : List T3} {N cap : Nat} {A : Option Addr} {p q : P3} [I3 p] [I3 q] (w : World) (hT : bY w A N ts) (hN : N ≤ 300000) : eG prog 17 [.slice A N cap,pt p,pt q] w (fun v _=>v = .bool (Ic ts p q)):=by
 refine ⟨aiS,?_⟩;have m:=Mem.refl w;have htl:=hT.len
 go_enter func17,ntmps17
 refine aD fun K1 k1=>wp_region_lit (cB m rfl ?_);clear m;intro g1 u m;simp only[zz];refine cB m rfl ?_;clear m;intro g2 u m;refine aA (aG) (aF (k1 _ _ ?_));try clear k1 K1
 refine aD fun K2 k2=>?_;simp only[zz];rcases (show p = q ∨ (p ≠ q ∧ eV true ts ≠ 0) ∨ (p ≠ q ∧ eV true ts = 0) by by_cases h1 : p = q <;> by_cases h2 : eV true ts = 0 <;> simp [h1,h2]) with hpq | ⟨hpq,hck⟩ | ⟨hpq,hck⟩
 · skip
   refine mh m [true,true] [(0,true),(1,true),(2,true),(3,true),(4,true),(5,false),(6,true),(7,true),(8,true),(9,true),(11,true),(12,true),(10,false),(13,false),(14,true),(15,true)] aM (by kernel_rfl) (cN (fun _ _ _ _ _ h=>h)) (ol:=?_) ?hol ?_
   case hol=>simp only[zw,zQ,zR];try rfl
   clear m;intro u m;refine cI rfl (fun u m=>((m.b 1 rfl).full aI aC)) ?_;simp only[zz];refine cI rfl (fun u m=>((m.b 0 rfl).full aI aC)) ?_;simp only[zz];refine aS ((acW (gE rfl rfl) (aj3 hpq))) (aS (aB) (oB rfl (cJ (dY rfl ?_))));simp only[zz];refine aF (⟨m,?_⟩);refine oB rfl (aS (iB rfl) (aS (aB) (oB rfl ?_)));simp only[zz];refine oB rfl (oB rfl (cJ (dY rfl (aF ?_))));refine ⟨m,?_⟩;refine cJ (dY rfl ?_);simp only[zz];refine aF (⟨m,?_⟩);refine aS (iB rfl) (aS (aG) (aY (k2 _ _ ?_)));try clear k2 K2
   refine wp_ret ?_;simp only[zz];try simp only[Exit.inBlock,Exit.then,if_true]
   refine bE rfl rfl ?_;try simp only[zD,zE]
   exact ⟨_,rfl,m.ext,by rw [Ic,decide_eq_false (fun h=>h hpq)];rfl⟩
 · skip
   refine mh m [true,true] [(0,true),(1,true),(2,true),(3,true),(4,true),(5,false),(6,true),(7,true),(8,true),(9,true),(11,true),(12,true),(10,false),(13,false),(14,true),(15,true)] aM (by kernel_rfl) (cN (fun _ _ _ _ _ h=>h)) (ol:=?_) ?hol ?_
   case hol=>simp only[zw,zQ,zR];try rfl
   clear m;intro u m;refine cI rfl (fun u m=>((m.b 1 rfl).full aI aC)) ?_;simp only[zz];refine cI rfl (fun u m=>((m.b 0 rfl).full aI aC)) ?_;simp only[zz];refine aS ((acW (gE rfl rfl) (afl hpq))) (aS (aB) (iH rfl (aS (aB) (cJ (bM rfl ?_)))));simp only[zz];refine eE m rfl rfl (tA _ (hT.ext m.ext) (by omega)) ?_;clear m;rintro v u m rfl;refine aF (⟨m,?_⟩);refine iH rfl (aS (By rfl rfl (hck)) (aS (eK rfl) (aS (aB) ?_)));simp only[zz];refine oB rfl (oB rfl (oB rfl (cJ (dY rfl ?_))));simp only[zz];refine aF (⟨m,?_⟩);refine cJ (dY rfl (aF ?_));refine ⟨m,?_⟩;refine aS (iB rfl) (aS (aG) (aY (k2 _ _ ?_)));try clear k2 K2
   refine wp_ret ?_;simp only[zz];try simp only[Exit.inBlock,Exit.then,if_true]
   refine bE rfl rfl ?_;try simp only[zD,zE]
   exact ⟨_,rfl,m.ext,by rw [Ic,decide_eq_false hck,Bool.and_false];rfl⟩
 · skip
   refine mh m [true,true] [(0,true),(1,true),(2,true),(3,true),(4,true),(5,false),(6,true),(7,true),(8,true),(9,true),(11,true),(12,true),(10,false),(13,false),(14,true),(15,true)] aM (by kernel_rfl) (cN (fun _ _ _ _ _ h=>h)) (ol:=?_) ?hol ?_
   case hol=>simp only[zw,zQ,zR];try rfl
   clear m;intro u m;refine cI rfl (fun u m=>((m.b 1 rfl).full aI aC)) ?_;simp only[zz];refine cI rfl (fun u m=>((m.b 0 rfl).full aI aC)) ?_;simp only[zz];refine aS ((acW (gE rfl rfl) (afl hpq))) (aS (aB) (iH rfl (aS (aB) (cJ (bM rfl ?_)))));simp only[zz];refine eE m rfl rfl (tA _ (hT.ext m.ext) (by omega)) ?_;clear m;rintro v u m rfl;refine aF (⟨m,?_⟩);refine iH rfl (aS (qQ rfl rfl (hck)) (aS (eK rfl) (aS (aB) ?_)));simp only[zz];refine iH rfl (aS (aB) (iH rfl ?_));simp only[zz];refine cI rfl (fun u m=>((m.b 1 rfl).full aI aC)) ?_;simp only[zz];refine iH rfl (cI rfl (fun u m=>((m.b 0 rfl).full aI aC)) ?_);simp only[zz];refine cJ (bM rfl (cD rfl rfl (acT _ (hT.ext m.ext) (Ie hck) (by omega)) ?_));rintro v u e ⟨g90,ga,gf,ea,ef,ca,cf,D,F,K9,rfl,hM,hS9,hD9⟩;replace m:=m.plus hM;clear hM e;simp only[List.cons_append,List.nil_append] at m;refine aF (⟨m.sel [false,true,true],?_⟩);refine cJ (bM rfl ?_);simp only[zz];refine eE m rfl rfl (Lh (p:=p) (q:=q) _ (hS9 _ (m.get 0 rfl)) hD9 (hT.ext m.ext) (Ie hck) (by omega)) ?_;clear m;rintro v u m rfl;refine aF (⟨m.sel [false,true,true],?_⟩);refine aS (eK rfl) (aS (aG) (aY (k2 _ _ ?_)));try clear k2 K2
   refine wp_ret ?_;simp only[zz];try simp only[Exit.inBlock,Exit.then,if_true]
   refine bE rfl rfl ?_;try simp only[zD,zE]
   exact ⟨_,rfl,m.ext,by rw [Ic,decide_eq_true hpq,decide_eq_true hck];rfl⟩
end Go.Proofs.YtfekpcimgncioaaGreatDoor
namespace Go.Lith
open Go.RowKit
def wC (n : Int) : List Value:=[.bool (iG n),.string (nE n)]
def qC (L : List Int) : List Value:=L.flatMap wC
def qV (L : List Int) : Value:=.agg (qC L).toArray
theorem wC2 (n : Int) : (wC n).length = 2:=rfl
theorem vM (L : List Int) : (qC L).length = L.length * 2:=kA wC2 ..
theorem vN {w : World} {g : Nat} {L : List Int} {T : TypeId} {k : Nat} {x : Int} (h : fF w g (qC L) T) (hx : L[k]? = some x) : mP w ⟨g,k * 2,none⟩ (wC x):=by
 have h2:=h.row (k * 2);rw [qC,Gh wC2 hx] at h2;exact fun j u hj=>h2 j u (by rw [List.getElem?_append_left (List.getElem?_eq_some_iff.1 hj).1];exact hj)
theorem Nv {L : List Int} {k : Nat} {x : Int} (h : k < L.length) : bB (qC L) (k * 2) (wC x) = qC (L.set k x):=by
 unfold bB qC;rw [show k * 2 + (wC x).length = (k + 1) * 2 by rw [wC2];omega,← Gg wC2,← sN wC2,List.set_eq_take_append_cons_drop,if_pos h,List.flatMap_append,List.flatMap_cons,List.append_assoc]
theorem aik (L : List Int) : ∀ u ∈ qC L,u.oneCell' = true:=fun u hu=>by
 obtain ⟨x,_,h⟩:=List.mem_flatMap.1 hu;simp only[wC,List.mem_cons,List.not_mem_nil,or_false] at h;rcases h with rfl | rfl <;> rfl
def yL (k : Nat) (L : List Int) : Prop:=∀ x ∈ L,Bd k x
theorem yL.mono {k m : Nat} {L : List Int} (h : yL k L) (hk : k ≤ m) : yL m L:=fun x hx=>(h x hx).mono hk
theorem yL.at {k i : Nat} {L : List Int} {x : Int} (h : yL k L) (hx : L[i]? = some x) : Bd k x:=h x (List.mem_of_getElem? hx)
theorem iT {a b : List Int} (ha : a.length = 10) (hb : b.length = 10) : (wN a b).length = 10:=by unfold wN;rw [List.length_zipWith,ha,hb];rfl
theorem Fg {k : Nat} {a b : List Int} (ha : yL k a) (hb : yL k b) : yL (k + 1) (wN a b):=fun x hx=>by
 unfold wN at hx;obtain ⟨i,hi⟩:=List.mem_iff_getElem?.1 hx;rw [List.getElem?_zipWith] at hi;cases h1 : a[i]? with
 | none=>simp [h1] at hi
 | some y =>
  cases h2 : b[i]? with
  | none=>simp [h1,h2] at hi
  | some z =>
   simp [h1,h2] at hi;subst hi;exact ((ha.at h1).add (hb.at h2)).mono (by omega)
section
variable {P : Program} {ds : List Deferred} {l : List Value} {x y : Operand} {T ty : TypeId} {ops : Array Oper} {Q : Exit → Act → World → Prop} {rest : List Oper} {pos : String} {after : Array Edge} {w w0 : World} {is : List It}
theorem Rr {cs us : List Value} (h : us.length = cs.length) : bB cs 0 us = us:=by unfold bB;rw [List.take_zero,List.nil_append,Nat.zero_add,List.drop_of_length_le (by omega),List.append_nil]
theorem wI {g n : Nat} {cs : List Value} {L : List Int} {t : TypeId} (m : Mem w0 w is) (k : Nat) (hk : is[k]? = some (bI g cs t)) (hx : ev l x = .pointer (some ⟨g,0,none⟩)) (hv : ev l y = qV L) (hl : L.length * 2 = n) (hcs : cs.length = n) (hc : dG P T n)
 (h : ∀ u,Mem w0 u (is.set k (bI g (qC L) t)) → wpList P ops Q rest (Fr l ds) u) : wpList P ops Q (Oper.mk none (.store T x y) ty pos after none :: rest) (Fr l ds) w :=
 aT (us:=qC L) m k hk hx hv (by rw [vM,hl];exact hc) (by rw [vM,hl,hcs,Nat.zero_add];exact Nat.le_refl _) (List.all_eq_true.2 (aik L)) fun u hu=>h u (by rw [Rr (by rw [vM,hl,hcs])] at hu;exact hu)
theorem rF {g n : Nat} {L : List Int} {t : TypeId} (h : fF w g (qC L) t) (hA : eP P T true) (hc : dG P T n) (hl : L.length * 2 = n) : hG P w T ⟨g,0,none⟩ (qV L):=h.full hA (by rw [vM,hl];exact hc)
theorem aeJ {a : Addr} (h : hG P w T a (.agg #[.bool false,.string ⟨#[]⟩])) : hG P w T a (W 0):=by rw [Lx];exact h
end
def qP (a b : List Int) (k : Nat) : List Int:=(wN a b).take k ++ a.drop k
theorem ail {a b : List Int} (ha : a.length = 10) (hb : b.length = 10) : qP a b 10 = wN a b:=by
 unfold qP;rw [List.take_of_length_le (by rw [iT ha hb];exact Nat.le_refl _),List.drop_of_length_le (by omega),List.append_nil]
theorem acX {a b : List Int} (ha : a.length = 10) (hb : b.length = 10) {k : Nat} (hk : k ≤ 10) : (qP a b k).length = 10:=by
 unfold qP;rw [List.length_append,List.length_take,List.length_drop,iT ha hb,ha];omega
theorem aj5 {a b : List Int} (ha : a.length = 10) (hb : b.length = 10) {k : Nat} {x : Int} (hk : k < 10) (hx : a[k]? = some x) : (qP a b k)[k]? = some x:=by
 unfold qP;rw [List.getElem?_append_right (by rw [List.length_take];omega),List.length_take,iT ha hb,Nat.min_eq_left (by omega),Nat.sub_self,List.getElem?_drop,Nat.add_zero];exact hx
theorem aim {a b : List Int} (ha : a.length = 10) (hb : b.length = 10) {k : Nat} {x y : Int} (hk : k < 10) (hx : a[k]? = some x) (hy : b[k]? = some y) : (qP a b k).set k (x + y) = qP a b (k + 1):=by
 have h1 : (wN a b)[k]? = some (x + y):=by unfold wN;rw [List.getElem?_zipWith,hx,hy]
 have h2 : ((wN a b).take k).length = k:=by rw [List.length_take,iT ha hb];omega
 unfold qP;rw [List.take_add_one,h1,List.set_append_right _ _ (by rw [h2];exact Nat.le_refl _),h2,Nat.sub_self,Option.toList,List.append_assoc]
 congr 1
 rw [List.drop_eq_getElem_cons (by omega : k < a.length)];rfl
/-! ### The pairs,in order -/
def eI (n : Nat) : Nat:=[0,0,0,0,1,1,1,2,2,3].getD n 0
def eJ (n : Nat) : Nat:=[0,1,2,3,1,2,3,2,3,3].getD n 0
theorem Nw {Q : Nat → Prop} {n : Nat} (hn : n < 10) (h0 : Q 0) (h1 : Q 1) (h2 : Q 2) (h3 : Q 3) (h4 : Q 4) (h5 : Q 5) (h6 : Q 6) (h7 : Q 7) (h8 : Q 8) (h9 : Q 9) : Q n:=by
 rcases n with _ | _ | _ | _ | _ | _ | _ | _ | _ | _ | n
 all_goals first | assumption | omega
theorem acY {n : Nat} (hn : n < 10) : eI n < 4:=Nw (Q:=fun n=>eI n < 4) hn (by decide) (by decide) (by decide) (by decide) (by decide) (by decide) (by decide) (by decide) (by decide) (by decide)
theorem acZ {n : Nat} (hn : n < 10) : eJ n < 4:=Nw (Q:=fun n=>eJ n < 4) hn (by decide) (by decide) (by decide) (by decide) (by decide) (by decide) (by decide) (by decide) (by decide) (by decide)
def Li (p : List Int) (n : Nat) : Int:=p.getD (eI n) 0 * p.getD (eJ n) 0
def qF (a b c d : Int) (n : Nat) : List Int:=(qPr a b c d).take n ++ List.replicate (10 - n) 0
theorem ain (a b c d : Int) {n : Nat} (hn : n ≤ 10) : (qF a b c d n).length = 10:=by
 unfold qF;rw [List.length_append,List.length_take,List.length_replicate,show (qPr a b c d).length = 10 from rfl];omega
theorem ac0 {a b c d : Int} {n : Nat} (hn : n < 10) : ((qF a b c d n).set n (Li [a,b,c,d] n)).set n (if eI n = eJ n then Li [a,b,c,d] n else Li [a,b,c,d] n * 2) = qF a b c d (n + 1):=by
 rw [List.set_set];refine Nw (Q:=fun n=>(qF a b c d n).set n (if eI n = eJ n then Li [a,b,c,d] n else Li [a,b,c,d] n * 2) = qF a b c d (n + 1)) hn ?_ ?_ ?_ ?_ ?_ ?_ ?_ ?_ ?_ ?_
 all_goals simp [qF,qPr,Li,eI,eJ,Int.mul_comm]
theorem aj6 (a b c d : Int) : qF a b c d 10 = qPr a b c d:=by unfold qF qPr;rfl
theorem afm (a b c d : Int) {i : Nat} (hi : i < 4) : [a,b,c,d][i]? = some ([a,b,c,d].getD i 0):=by
 rcases i with _ | _ | _ | _ | i
 all_goals first | rfl | omega
theorem aj7 {k : Nat} {a b c d : Int} (h : yL k [a,b,c,d]) : yL (k + k + 2) (qPr a b c d):=fun x hx=>by
 have ha:=h a (by simp);have hb:=h b (by simp);have hc:=h c (by simp);have hd:=h d (by simp);have two : ∀ {x : Int},Bd (k + k) x → Bd (k + k + 2) (2 * x):=fun {x} hx=>by
  have h2 : Bd 2 (2 : Int):=by unfold Bd;decide
  rw [Nat.add_comm];exact h2.mul hx
 simp only[qPr,List.mem_cons,List.not_mem_nil,or_false] at hx;rcases hx with rfl | rfl | rfl | rfl | rfl | rfl | rfl | rfl | rfl | rfl
 · exact (ha.mul ha).mono (by omega)
 · exact two (ha.mul hb)
 · exact two (ha.mul hc)
 · exact two (ha.mul hd)
 · exact (hb.mul hb).mono (by omega)
 · exact two (hb.mul hc)
 · exact two (hb.mul hd)
 · exact (hc.mul hc).mono (by omega)
 · exact two (hc.mul hd)
 · exact (hd.mul hd).mono (by omega)
/-! ### A quadric's value -/
def atS (q x : List Int) : Nat → Int
 | 0=>0
 | n + 1=>atS q x n + q.getD n 0 * Li x n
theorem Ny {q : List Int} (hq : q.length = 10) {n : Nat} (hn : n < 10) : q[n]? = some (q.getD n 0):=by
 rw [List.getD_eq_getElem?_getD,List.getElem?_eq_getElem (by omega)];rfl
theorem ac1 {q : List Int} (hq : q.length = 10) (p : P3) : atS q [p.x,p.y,p.z,1] 10 = qAt q p:=by
 rcases q with _ | ⟨a,_ | ⟨b,_ | ⟨c,_ | ⟨d,_ | ⟨e,_ | ⟨f,_ | ⟨g,_ | ⟨h,_ | ⟨i,_ | ⟨j,_ | ⟨k,q⟩⟩⟩⟩⟩⟩⟩⟩⟩⟩⟩ <;> simp only[List.length_cons,List.length_nil] at hq <;> try omega
 simp only[atS,Li,eI,eJ,qAt,ajM,List.getD_cons_zero,List.getD_cons_succ,List.getD_nil]
 grind
theorem Ve {k : Nat} {p : List Int} (h : yL k p) (hl : p.length = 4) {n : Nat} (hn : n < 10) : Bd (k + k) (Li p n):=by
 have key : ∀ i,i < 4 → Bd k (p.getD i 0):=fun i hi=>by
  rw [List.getD_eq_getElem?_getD,List.getElem?_eq_getElem (by omega : i < p.length)];exact h _ (List.getElem_mem _)
 exact (key _ (acY hn)).mul (key _ (acZ hn))
theorem Vf {k m : Nat} {q p : List Int} (hq : yL k q) (hl : q.length = 10) (hp : yL m p) (hpl : p.length = 4) : ∀ n,n ≤ 10 → Bd (k + m + m + n) (atS q p n)
 | 0,_=>Es _
 | n + 1,hn=>by
  have h1:=Vf hq hl hp hpl n (by omega);have h2:=(hq.at (Ny hl (by omega : n < 10))).mul (Ve hp hpl (by omega : n < 10));exact (h1.add (h2.mono (by omega : k + (m + m) ≤ k + m + m + n))).mono (by omega)
theorem bd4 {p : P3} (h : I3 p) : yL 64 [p.x,p.y,p.z,1]:=fun x hx=>by
 simp only[List.mem_cons,List.not_mem_nil,or_false] at hx;rcases hx with rfl | rfl | rfl | rfl
 · exact h.x.bd
 · exact h.y.bd
 · exact h.z.bd
 · unfold Bd;decide
end Go.Lith
