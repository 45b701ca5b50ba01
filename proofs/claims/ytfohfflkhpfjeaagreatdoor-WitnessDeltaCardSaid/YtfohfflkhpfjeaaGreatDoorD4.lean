/-
 Texts of one claim, laid together: W3, Nc, Dig, Dig2, Dig3, Cst, We, Maps2, W4, W5, Int, Wide6, Wide1.
-/
import Derived.Test.YtfohfflkhpfjeaaGreatDoorD3
set_option maxHeartbeats 8000000
set_option linter.unusedSimpArgs false
set_option linter.unusedVariables false
set_option linter.unusedSectionVars false
namespace Go.Proofs.YtfohfflkhpfjeaaGreatDoor
open Go.Proofs.Tryz
open Go.RowKit Go.Lith
abbrev lV:=@underlying102
abbrev rS:=@underlying104
abbrev mP:=@underlying106
abbrev bA:=@underlying157
abbrev yD:=@underlying184
abbrev lC:=@underlying185
set_option maxRecDepth 100000
attribute [local irreducible] wpList wpQuiet dD cO cF Code.wp
def nE (n : Nat) : Value:=.int .i64 (n : Int)
theorem mQ {K V : Type} [DecidableEq K] (xs : List (K × V)) (k : K) (v : V) : lK [] (xs ++ [(k,v)]) = fT (lK [] xs) k v:=Kl [] xs [(k,v)]
theorem nX {K : Type} [DecidableEq K] (ks : List K) (k : K) : pK [] (ks ++ [k]) = fT (pK [] ks) k ((cP (pK [] ks) k).getD 0 + 1):=Wi [] ks [k]
theorem Ld {K : Type} [DecidableEq K] (ks : List K) (k : K) : (cP (pK [] ks) k).getD 0 = oP ks k:=by rw [Km];simp [cP]
theorem An {K : Type} [DecidableEq K] (ks : List K) (k : K) : (cP (pK [] ks) k).getD 0 ≤ ks.length:=by rw [Ld];exact List.length_filter_le _ _
theorem ab6 {nx : P3 → Option P3} {s a y : P3} {n z : Nat} (h : ¬ a = s) (hb : nx a = some y) : tF nx s (n + 1) a z = tF nx s n y (z + 1):=by rw [tF,if_neg h,hb]
theorem aal {nx : P3 → Option P3} {s a : P3} {n z : Nat} (hb : nx a = none) : tF nx s n a z = (a,z):=by
 cases n with
 | zero=>rfl
 | succ n=>rw [tF,hb];split <;> rfl
theorem ab7 {nx : P3 → Option P3} {s a : P3} {M z : Nat} (hz : z ≤ M + 1) (h : a = s ∨ ¬ z ≤ M) : tF nx s (M + 1 - z) a z = (a,z):=by
 rcases h with rfl | h
 · exact Wj
 · rw [show M + 1 - z = 0 by omega];rfl
theorem ab8 {x y : P3} : (¬ x.x = y.x ∨ ¬ x.y = y.y ∨ ¬ x.z = y.z) ↔ ¬ x = y:=by
 rw [← jX];exact ⟨fun h k=>h.elim (fun h=>h k.1) fun h=>h.elim (fun h=>h k.2.1) fun h=>h k.2.2,fun h=>by
  rcases Classical.em (x.x = y.x) with h1 | h1
  ·
   rcases Classical.em (x.y = y.y) with h2 | h2
   · exact .inr (.inr fun h3=>h ⟨h1,h2,h3⟩)
   · exact .inr (.inl h2)
  · exact .inl h1⟩
theorem Xa {a s : P3} {z M : Nat} (h : (decide (¬ (a.x = s.x ∧ a.y = s.y ∧ a.z = s.z)) && decide ((z : Int) ≤ (M : Int))) = false) : a = s ∨ ¬ z ≤ M:=by
 rcases Classical.em (a = s) with k | k
 · exact .inl k
 ·
  refine .inr fun k4=>?_;rw [decide_eq_true (mt jX.1 k),decide_eq_true (Int.ofNat_le.2 k4)] at h;cases h
theorem Xb {ts : List T3} {es : Array MapEntry} {sn : Array Nat} {dn : List (E3 × P3)} (h : lB ed pt (lK [] (iP ts)) es sn dn []) (hnd : (bH ts).Nodup) (hno : ∀ y ∈ dn,¬ Hs ts y.1) (e : E3) : ¬ Hs ts e:=fun he=>by
 obtain ⟨x,hx,_⟩:=id he;have h1 : cP (lK [] (iP ts)) e = some x:=by rw [← hx];exact qM hnd e.1 e.2
 exact hno _ (h.done.mem_iff.2 (wR h1)) he
theorem Gc (ts : List T3) : (cY ts).length = ts.length * 3:=wT ts
theorem Nt {ts : List T3} {N cap : Nat} {A : Option Addr} (w : World) (hT : dZ w A N ts) (hN : N ≤ 10000000) (hnd : (bH ts).Nodup) : eE prog 123 [.slice A N cap] w (fun v _=>v = .bool ((nB ts).any (Rf ts))):=by
 refine ⟨abB,?_⟩;have m:=bS.refl w
 go_enter func123,ntmps123
 refine aC fun K1 k1=>wp_region_lit (aA (aF) (aD (k1 _ _ ?_)));refine aC fun K2 k2=>wp_region_lit ?_;simp only[zz];refine jL m ?_;clear m;intro q8 u m;have hD8:=bZ.nil (K:=E3) (V:=P3) ed pt;refine aA (aF) (aD (k2 _ _ ?_));refine aC fun K3 k3=>wp_region_lit ?_;simp only[zz];refine jL m ?_;clear m;intro q9 u m;have hD9:=bZ.nil (K:=P3) (V:=Nat) pt nE;refine aA (aF) (aD (k3 _ _ ?_));refine aC fun K4 k4=>aC fun K5 k5=>wp_region_lit (aA (aB) (aA (bC rfl cC rfl) ?_));simp only[zz];refine aA (aB) (aD (k5 _ _ ?_));refine wp_block ?_;simp only[zz];try simp only[Nat.zero_add,Nat.reduceAdd,Nat.reduceMul,Int.reduceToNat]
 refine bN [18] [6,7,8,19,20,21,22,23,24,25,26,27,28,29,30,31,32,33,34,35,36,37,38,39,40,41,42,43,44,45,46,47] (fun n vs wl=>∃ (k : Nat) (es8 es9 : Array MapEntry) (c8 c9 : Nat),vs = [.int .i64 (k:Int)] ∧ bS w wl [mI q9 es9 c9,mI q8 es8 c8] ∧ (bZ ed pt (lK [] (iP (ts.take k))) es8 c8) ∧ (bZ pt nE (pK [] (cY (ts.take k))) es9 c9) ∧ (k ≤ N) ∧ (n = N - k)) ?_ ?_
 ·
  apply Exists.intro;simp only[zQ,zR,zD,zE];exact ⟨0,_,_,_,_,rfl,m,hD8,hD9,Nat.zero_le _,rfl⟩
 ·
  intro n vs wr hI u;clear m;obtain ⟨k,es8,es9,c8,c9,rfl,m,hD8,hD9,hk,hn⟩:=hI;simp only[zu,zF,zG];refine aC fun K6 k6=>wp_region_lit (aA (cS rfl rfl) (aD (k6 _ _ ?_)));refine aC fun K7 k7=>?_;simp only[zz];refine cD rfl (fun hc1=>?_) (fun hc1=>?_)
  ·
   obtain ⟨t,ht,_,a,rfl,hrow⟩:=hT.get (i:=k) (by omega);have hcl:=Gc (ts.take k);rw [List.length_take] at hcl;refine wp_skip (k7 _ _ ?_);refine aC fun K8 k8=>wp_block (aC fun K9 k9=>wp_region_lit (aA (aL cC aV rfl rfl (by omega) (by omega) (dP (Int.toNat_natCast _))) ?_));simp only[zz];refine aI rfl ((hrow.ext m.ext).lies eJ aV) ?_;simp only[zz];refine aY m iR rfl ?_;clear m;intro g3 u m;simp only[zz];refine aQ m 0 rfl rfl rfl aV (dH rfl) rfl ?_;clear m;intro u m;simp only[zy,zx,bB,zF,zG,Nat.reduceAdd] at m;refine aD (k9 _ _ ?_);refine aC fun K10 k10=>wp_region_lit (aI rfl ((m.b 0 rfl).full eJ aV) ?_);simp only[zz];refine aA (aB) (aD (k10 _ _ ?_));refine wp_block (wp_loop_rounds 4 (dQ (aC fun K11 k11=>wp_region_lit (aA (bT (m:=0) (n:=3) rfl rfl (by decide)) (aD (k11 _ _ ?_))))));refine aC fun K12 k12=>cG rfl (wp_skip (k12 _ _ ?_));refine aC fun K13 k13=>wp_block (aC fun K14 k14=>wp_region_lit (aA (aB) (aA (jD rfl rfl) ?_)));simp only[zz];refine aY m bK rfl ?_;clear m;intro g4 u m;refine aA (aF) ?_;simp only[zz];refine aQ m 0 rfl rfl rfl aG (dH rfl) rfl ?_;clear m;intro u m;simp only[zy,zx,bB,zF,zG,Nat.reduceAdd] at m;refine aD (k14 _ _ ?_);refine aC fun K15 k15=>?_;refine fO m 13 aP (by kernel_rfl) ?_;simp only[zy];refine aN (aB) ?_;simp only[zz];refine ql rfl (fun u m=>((m.b 0 rfl).full aK aG)) ?_;simp only[zz];refine aN (aB) (aN (aR (m:=0) (n:=1) (r:=1) rfl rfl (by decide)) (aN (dJ (m:=1) (n:=3) (r:=1) rfl rfl (by decide) (by decide)) (aN (aH bO aG rfl rfl (by decide) (by decide) rfl) ?_)));simp only[zz];refine ql rfl (fun u m=>((m.b 1 rfl).lies aK aG rfl rfl)) ?_;simp only[zz,zy,Nat.zero_add,Nat.reduceAdd,Nat.reduceMul,Int.reduceToNat];refine aN (fR rfl rfl) (aN (aB) (aN (aR (m:=0) (n:=2) (r:=2) rfl rfl (by decide)) (aN (dJ (m:=2) (n:=3) (r:=2) rfl rfl (by decide) (by decide)) ?_)));simp only[zz];refine aN (aH bO aG rfl rfl (by decide) (by decide) rfl) ?_;simp only[zz];refine ql rfl (fun u m=>((m.b 1 rfl).lies aK aG rfl rfl)) ?_;simp only[zz,zy,Nat.zero_add,Nat.reduceAdd,Nat.reduceMul,Int.reduceToNat];refine dN ?_;clear m;intro u m;refine eZ (ek:=ed) (en:=pt) (a:=(t.a,t.b)) (v:=t.c) m 3 rfl yD tG rfl rfl rfl hD8 ?_;clear m;intro es8 c8 u m hD';clear hD8;have hD8:=hD';clear hD';simp only[zF,zG] at m;rw [← mQ] at hD8;refine aD (k15 _ _ ?_);refine rR m 2 [] [40,41,42,43,44,45] (fun vs i=>∃ (es : Array MapEntry) (c : Nat),vs = [] ∧ i = mI q9 es c ∧ (bZ pt nE (pK [] (((cY (ts.take k)) ++ [t.a]))) es c)) ?_ ?_
   ·
    refine Fc m [true,true,false,true] (.take 0 (.take 1 (.two 2 (.take 3 (.one 4 (.take 5 (.one 6 .nil)))) 4 (.take 5 (.one 2 (.take 3 (.one 6 .nil))))))) aP (by kernel_rfl) (dB (fun _ _ _ _ _ h=>h)) ?_;clear m;intro u m;have hb:=An (cY (ts.take k)) t.a;try simp only[List.length_append,List.length_cons,List.length_nil] at hb
    refine dR (by simp only[zw];rfl) (aW (aB) (dF (dR (by simp only[zw];rfl) ?_)));simp only[zz];refine bQ rfl (fun u m=>((m.b 0 rfl).full aK aG)) ?_;simp only[zz];refine dF ?_;refine yL (by simp only[zw];rfl) (by simp only[zw];rfl) ?_ ?_
    ·
     refine eL (eB (ek:=pt) (en:=nE) (k:=t.a) (v0:=0) lC kZ gC rfl rfl (m.p 2 rfl) hD9) ?_;simp only[zz];refine aD (⟨m.sel [true,true,false,true],?_⟩);refine dR (by simp only[zw];rfl) (aW (aR rfl rfl (aM (by omega) (by omega))) (dF (eP (by simp only[zw];rfl) ?_)));simp only[zz];refine yC (ek:=pt) (en:=nE) (a:=t.a) (v0:=0) m 2 rfl lC kZ gC rfl rfl hD9 ?_;clear m;intro es9 c9 bs u m hD' hS;simp only[zF,zG] at m;refine aD (⟨m.sel [true,true,false,true],?_⟩);refine dR (by simp only[zw];rfl) (aW (bL rfl rfl) (dF (eP (by simp only[zw];rfl) ?_)));simp only[zz];refine qQ (ek:=pt) (en:=nE) (a:=t.a) (v:=(cP (pK [] (cY (ts.take k))) t.a).getD 0 + 1) m 2 rfl rfl rfl rfl hS ?_;clear m hD' hS;intro es9 u m hD';clear hD9;have hD9:=hD';clear hD';simp only[zF,zG] at m;rw [← nX] at hD9;refine aD (⟨m.sel [true,true,false,true],?_⟩);refine nP ?_;simp only[Exit.inBlock,Exit.then];refine ⟨_,_,rfl,?_,m,?_⟩
     · simp only[zz,zv]
     ·
      simp only[zQ,zR,zD,zE];exact ⟨_,_,trivial,rfl,hD9⟩
    ·
     refine yC (ek:=pt) (en:=nE) (a:=t.a) (v0:=0) m 2 rfl lC kZ gC rfl rfl hD9 ?_;clear m;intro es9 c9 bs u m hD' hS;simp only[zF,zG] at m;refine aD (⟨m.sel [true,true,false,true],?_⟩);refine dR (by simp only[zw];rfl) (aW (bL rfl rfl) (dF (eP (by simp only[zw];rfl) ?_)));simp only[zz];refine eL (eB (ek:=pt) (en:=nE) (k:=t.a) (v0:=0) lC kZ gC rfl rfl (m.p 2 rfl) hD') ?_;simp only[zz];rw [lH,if_pos rfl,Option.getD_some];refine aD (⟨m.sel [true,true,false,true],?_⟩);refine dR (by simp only[zw];rfl) (aW (aR rfl rfl (aM (by omega) (by omega))) (dF (eP (by simp only[zw];rfl) ?_)));simp only[zz];refine qQ (ek:=pt) (en:=nE) (a:=t.a) (v:=(cP (pK [] (cY (ts.take k))) t.a).getD 0 + 1) m 2 rfl rfl rfl rfl hS ?_;clear m hD' hS;intro es9 u m hD';clear hD9;have hD9:=hD';clear hD';simp only[zF,zG] at m;rw [← nX] at hD9;refine aD (⟨m.sel [true,true,false,true],?_⟩);refine nP ?_;simp only[Exit.inBlock,Exit.then];refine ⟨_,_,rfl,?_,m,?_⟩
     · simp only[zz,zv]
     ·
      simp only[zQ,zR,zD,zE];exact ⟨_,_,trivial,rfl,hD9⟩
   ·
    intro vs i wr m hI u;obtain ⟨es9,c9,rfl,rfl,hD9⟩:=hI;simp only[zF,zG] at m;simp only[zu,zF,zG];refine k13 _ _ (wp_region_lit (aA (aR (m:=0) (n:=1) (r:=1) rfl rfl (by decide)) (aA (aB) (aD (aU (aC fun K16 k16=>wp_region_lit (aA (bT (m:=1) (n:=3) rfl rfl (by decide)) (aD (k16 _ _ ?_)))))))));refine aC fun K17 k17=>cG rfl (wp_skip (k17 _ _ ?_));refine aC fun K18 k18=>wp_block (aC fun K19 k19=>wp_region_lit (aA (aB) ?_));simp only[zz];refine aA (jE rfl rfl) ?_;simp only[zz];refine aY m bK rfl ?_;clear m;intro g5 u m;refine aA (aF) ?_;simp only[zz];refine aQ m 0 rfl rfl rfl aG (dH rfl) rfl ?_;clear m;intro u m;simp only[zy,zx,bB,zF,zG,Nat.reduceAdd] at m;refine aD (k19 _ _ ?_);refine aC fun K20 k20=>?_;refine fO m 13 aP (by kernel_rfl) ?_;simp only[zy];refine aN (aB) ?_;simp only[zz];refine ql rfl (fun u m=>((m.b 0 rfl).full aK aG)) ?_;simp only[zz];refine aN (aB) (aN (aR (m:=1) (n:=1) (r:=2) rfl rfl (by decide)) (aN (dJ (m:=2) (n:=3) (r:=2) rfl rfl (by decide) (by decide)) (aN (aH bO aG rfl rfl (by decide) (by decide) rfl) ?_)));simp only[zz];refine ql rfl (fun u m=>((m.b 2 rfl).lies aK aG rfl rfl)) ?_;simp only[zz,zy,Nat.zero_add,Nat.reduceAdd,Nat.reduceMul,Int.reduceToNat];refine aN (fR rfl rfl) (aN (aB) (aN (aR (m:=1) (n:=2) (r:=3) rfl rfl (by decide)) (aN (dJ (m:=3) (n:=3) (r:=0) rfl rfl (by decide) (by decide)) ?_)));simp only[zz];refine aN (aH bO aG rfl rfl (by decide) (by decide) rfl) ?_;simp only[zz];refine ql rfl (fun u m=>((m.b 2 rfl).lies aK aG rfl rfl)) ?_;simp only[zz,zy,Nat.zero_add,Nat.reduceAdd,Nat.reduceMul,Int.reduceToNat];refine dN ?_;clear m;intro u m;refine eZ (ek:=ed) (en:=pt) (a:=(t.b,t.c)) (v:=t.a) m 4 rfl yD tG rfl rfl rfl hD8 ?_;clear m;intro es8 c8 u m hD';clear hD8;have hD8:=hD';clear hD';simp only[zF,zG] at m;rw [← mQ] at hD8;refine aD (k20 _ _ ?_);refine rR m 3 [] [40,41,42,43,44,45] (fun vs i=>∃ (es : Array MapEntry) (c : Nat),vs = [] ∧ i = mI q9 es c ∧ (bZ pt nE (pK [] (((((cY (ts.take k)) ++ [t.a])) ++ [t.b]))) es c)) ?_ ?_
    ·
     refine Fc m [true,true,true,false,true] (.take 0 (.take 1 (.two 2 (.take 3 (.one 4 (.take 5 (.one 6 .nil)))) 4 (.take 5 (.one 2 (.take 3 (.one 6 .nil))))))) aP (by kernel_rfl) (dB (fun _ _ _ _ _ h=>h)) ?_;clear m;intro u m;have hb:=An (((cY (ts.take k)) ++ [t.a])) t.b;try simp only[List.length_append,List.length_cons,List.length_nil] at hb
     refine dR (by simp only[zw];rfl) (aW (aB) (dF (dR (by simp only[zw];rfl) ?_)));simp only[zz];refine bQ rfl (fun u m=>((m.b 0 rfl).full aK aG)) ?_;simp only[zz];refine dF ?_;refine yL (by simp only[zw];rfl) (by simp only[zw];rfl) ?_ ?_
     ·
      refine eL (eB (ek:=pt) (en:=nE) (k:=t.b) (v0:=0) lC kZ gC rfl rfl (m.p 3 rfl) hD9) ?_;simp only[zz];refine aD (⟨m.sel [true,true,true,false,true],?_⟩);refine dR (by simp only[zw];rfl) (aW (aR rfl rfl (aM (by omega) (by omega))) (dF (eP (by simp only[zw];rfl) ?_)));simp only[zz];refine yC (ek:=pt) (en:=nE) (a:=t.b) (v0:=0) m 3 rfl lC kZ gC rfl rfl hD9 ?_;clear m;intro es9 c9 bs u m hD' hS;simp only[zF,zG] at m;refine aD (⟨m.sel [true,true,true,false,true],?_⟩);refine dR (by simp only[zw];rfl) (aW (bL rfl rfl) (dF (eP (by simp only[zw];rfl) ?_)));simp only[zz];refine qQ (ek:=pt) (en:=nE) (a:=t.b) (v:=(cP (pK [] (((cY (ts.take k)) ++ [t.a]))) t.b).getD 0 + 1) m 3 rfl rfl rfl rfl hS ?_;clear m hD' hS;intro es9 u m hD';clear hD9;have hD9:=hD';clear hD';simp only[zF,zG] at m;rw [← nX] at hD9;refine aD (⟨m.sel [true,true,true,false,true],?_⟩);refine nP ?_;simp only[Exit.inBlock,Exit.then];refine ⟨_,_,rfl,?_,m,?_⟩
      · simp only[zz,zv]
      ·
       simp only[zQ,zR,zD,zE];exact ⟨_,_,trivial,rfl,hD9⟩
     ·
      refine yC (ek:=pt) (en:=nE) (a:=t.b) (v0:=0) m 3 rfl lC kZ gC rfl rfl hD9 ?_;clear m;intro es9 c9 bs u m hD' hS;simp only[zF,zG] at m;refine aD (⟨m.sel [true,true,true,false,true],?_⟩);refine dR (by simp only[zw];rfl) (aW (bL rfl rfl) (dF (eP (by simp only[zw];rfl) ?_)));simp only[zz];refine eL (eB (ek:=pt) (en:=nE) (k:=t.b) (v0:=0) lC kZ gC rfl rfl (m.p 3 rfl) hD') ?_;simp only[zz];rw [lH,if_pos rfl,Option.getD_some];refine aD (⟨m.sel [true,true,true,false,true],?_⟩);refine dR (by simp only[zw];rfl) (aW (aR rfl rfl (aM (by omega) (by omega))) (dF (eP (by simp only[zw];rfl) ?_)));simp only[zz];refine qQ (ek:=pt) (en:=nE) (a:=t.b) (v:=(cP (pK [] (((cY (ts.take k)) ++ [t.a]))) t.b).getD 0 + 1) m 3 rfl rfl rfl rfl hS ?_;clear m hD' hS;intro es9 u m hD';clear hD9;have hD9:=hD';clear hD';simp only[zF,zG] at m;rw [← nX] at hD9;refine aD (⟨m.sel [true,true,true,false,true],?_⟩);refine nP ?_;simp only[Exit.inBlock,Exit.then];refine ⟨_,_,rfl,?_,m,?_⟩
      · simp only[zz,zv]
      ·
       simp only[zQ,zR,zD,zE];exact ⟨_,_,trivial,rfl,hD9⟩
    ·
     intro vs i wr m hI u;obtain ⟨es9,c9,rfl,rfl,hD9⟩:=hI;simp only[zF,zG] at m;simp only[zu,zF,zG];refine k18 _ _ (wp_region_lit (aA (aR (m:=1) (n:=1) (r:=2) rfl rfl (by decide)) (aA (aB) (aD (aU (aC fun K21 k21=>wp_region_lit (aA (bT (m:=2) (n:=3) rfl rfl (by decide)) (aD (k21 _ _ ?_)))))))));refine aC fun K22 k22=>cG rfl (wp_skip (k22 _ _ ?_));refine aC fun K23 k23=>wp_block (aC fun K24 k24=>wp_region_lit (aA (aB) ?_));simp only[zz];refine aA (jF rfl rfl) ?_;simp only[zz];refine aY m bK rfl ?_;clear m;intro g6 u m;refine aA (aF) ?_;simp only[zz];refine aQ m 0 rfl rfl rfl aG (dH rfl) rfl ?_;clear m;intro u m;simp only[zy,zx,bB,zF,zG,Nat.reduceAdd] at m;refine aD (k24 _ _ ?_);refine aC fun K25 k25=>?_;refine fO m 13 aP (by kernel_rfl) ?_;simp only[zy];refine aN (aB) ?_;simp only[zz];refine ql rfl (fun u m=>((m.b 0 rfl).full aK aG)) ?_;simp only[zz];refine aN (aB) (aN (aR (m:=2) (n:=1) (r:=3) rfl rfl (by decide)) (aN (dJ (m:=3) (n:=3) (r:=0) rfl rfl (by decide) (by decide)) (aN (aH bO aG rfl rfl (by decide) (by decide) rfl) ?_)));simp only[zz];refine ql rfl (fun u m=>((m.b 3 rfl).lies aK aG rfl rfl)) ?_;simp only[zz,zy,Nat.zero_add,Nat.reduceAdd,Nat.reduceMul,Int.reduceToNat];refine aN (fR rfl rfl) (aN (aB) (aN (aR (m:=2) (n:=2) (r:=4) rfl rfl (by decide)) (aN (dJ (m:=4) (n:=3) (r:=1) rfl rfl (by decide) (by decide)) ?_)));simp only[zz];refine aN (aH bO aG rfl rfl (by decide) (by decide) rfl) ?_;simp only[zz];refine ql rfl (fun u m=>((m.b 3 rfl).lies aK aG rfl rfl)) ?_;simp only[zz,zy,Nat.zero_add,Nat.reduceAdd,Nat.reduceMul,Int.reduceToNat];refine dN ?_;clear m;intro u m;refine eZ (ek:=ed) (en:=pt) (a:=(t.c,t.a)) (v:=t.b) m 5 rfl yD tG rfl rfl rfl hD8 ?_;clear m;intro es8 c8 u m hD';clear hD8;have hD8:=hD';clear hD';simp only[zF,zG] at m;rw [← mQ] at hD8;refine aD (k25 _ _ ?_);refine rR m 4 [] [40,41,42,43,44,45] (fun vs i=>∃ (es : Array MapEntry) (c : Nat),vs = [] ∧ i = mI q9 es c ∧ (bZ pt nE (pK [] (((((((cY (ts.take k)) ++ [t.a])) ++ [t.b])) ++ [t.c]))) es c)) ?_ ?_
     ·
      refine Fc m [true,true,true,true,false,true] (.take 0 (.take 1 (.two 2 (.take 3 (.one 4 (.take 5 (.one 6 .nil)))) 4 (.take 5 (.one 2 (.take 3 (.one 6 .nil))))))) aP (by kernel_rfl) (dB (fun _ _ _ _ _ h=>h)) ?_;clear m;intro u m;have hb:=An (((((cY (ts.take k)) ++ [t.a])) ++ [t.b])) t.c;try simp only[List.length_append,List.length_cons,List.length_nil] at hb
      refine dR (by simp only[zw];rfl) (aW (aB) (dF (dR (by simp only[zw];rfl) ?_)));simp only[zz];refine bQ rfl (fun u m=>((m.b 0 rfl).full aK aG)) ?_;simp only[zz];refine dF ?_;refine yL (by simp only[zw];rfl) (by simp only[zw];rfl) ?_ ?_
      ·
       refine eL (eB (ek:=pt) (en:=nE) (k:=t.c) (v0:=0) lC kZ gC rfl rfl (m.p 4 rfl) hD9) ?_;simp only[zz];refine aD (⟨m.sel [true,true,true,true,false,true],?_⟩);refine dR (by simp only[zw];rfl) (aW (aR rfl rfl (aM (by omega) (by omega))) (dF (eP (by simp only[zw];rfl) ?_)));simp only[zz];refine yC (ek:=pt) (en:=nE) (a:=t.c) (v0:=0) m 4 rfl lC kZ gC rfl rfl hD9 ?_;clear m;intro es9 c9 bs u m hD' hS;simp only[zF,zG] at m;refine aD (⟨m.sel [true,true,true,true,false,true],?_⟩);refine dR (by simp only[zw];rfl) (aW (bL rfl rfl) (dF (eP (by simp only[zw];rfl) ?_)));simp only[zz];refine qQ (ek:=pt) (en:=nE) (a:=t.c) (v:=(cP (pK [] (((((cY (ts.take k)) ++ [t.a])) ++ [t.b]))) t.c).getD 0 + 1) m 4 rfl rfl rfl rfl hS ?_;clear m hD' hS;intro es9 u m hD';clear hD9;have hD9:=hD';clear hD';simp only[zF,zG] at m;rw [← nX] at hD9;refine aD (⟨m.sel [true,true,true,true,false,true],?_⟩);refine nP ?_;simp only[Exit.inBlock,Exit.then];refine ⟨_,_,rfl,?_,m,?_⟩
       · simp only[zz,zv]
       ·
        simp only[zQ,zR,zD,zE];exact ⟨_,_,trivial,rfl,hD9⟩
      ·
       refine yC (ek:=pt) (en:=nE) (a:=t.c) (v0:=0) m 4 rfl lC kZ gC rfl rfl hD9 ?_;clear m;intro es9 c9 bs u m hD' hS;simp only[zF,zG] at m;refine aD (⟨m.sel [true,true,true,true,false,true],?_⟩);refine dR (by simp only[zw];rfl) (aW (bL rfl rfl) (dF (eP (by simp only[zw];rfl) ?_)));simp only[zz];refine eL (eB (ek:=pt) (en:=nE) (k:=t.c) (v0:=0) lC kZ gC rfl rfl (m.p 4 rfl) hD') ?_;simp only[zz];rw [lH,if_pos rfl,Option.getD_some];refine aD (⟨m.sel [true,true,true,true,false,true],?_⟩);refine dR (by simp only[zw];rfl) (aW (aR rfl rfl (aM (by omega) (by omega))) (dF (eP (by simp only[zw];rfl) ?_)));simp only[zz];refine qQ (ek:=pt) (en:=nE) (a:=t.c) (v:=(cP (pK [] (((((cY (ts.take k)) ++ [t.a])) ++ [t.b]))) t.c).getD 0 + 1) m 4 rfl rfl rfl rfl hS ?_;clear m hD' hS;intro es9 u m hD';clear hD9;have hD9:=hD';clear hD';simp only[zF,zG] at m;rw [← nX] at hD9;refine aD (⟨m.sel [true,true,true,true,false,true],?_⟩);refine nP ?_;simp only[Exit.inBlock,Exit.then];refine ⟨_,_,rfl,?_,m,?_⟩
       · simp only[zz,zv]
       ·
        simp only[zQ,zR,zD,zE];exact ⟨_,_,trivial,rfl,hD9⟩
     ·
      intro vs i wr m hI u;obtain ⟨es9,c9,rfl,rfl,hD9⟩:=hI;simp only[zF,zG] at m;simp only[zu,zF,zG];refine k23 _ _ (wp_region_lit (aA (aR (m:=2) (n:=1) (r:=3) rfl rfl (by decide)) (aA (aB) (aD (aU (aC fun K26 k26=>wp_region_lit (aA (eG (m:=3) (n:=3) rfl rfl (by decide)) (aD (k26 _ _ ?_)))))))));refine aC fun K27 k27=>iT rfl (wp_exit (k8 _ _ ?_));refine wp_region_lit ?_;simp only[zz];refine aA (aR rfl rfl (aM (by omega) (by omega))) (aA (aB) (aD ?_));simp only[zz];simp only[Exit.inBlock,Exit.then];refine ⟨N - (k + 1),_,?_,rfl,?_,?_⟩
      · omega
      · simp only[zz,zv]
      ·
       simp only[zQ,zR,zD,zE];exact ⟨k + 1,_,_,_,_,rfl,(m.sel [false,false,false,false,true,true]),by rw [Cq ht];simpa [List.append_assoc] using hD8,by rw [Ck ht];simpa [List.append_assoc] using hD9,by omega,rfl⟩
  ·
   have hkN : k = N:=by omega
   rw [hkN,show ts.take N = ts from List.take_of_length_le (by rw [hT.len];exact Nat.le_refl _)] at hD8 hD9;refine wp_exit (k4 _ _ ?_);refine aC fun K28 k28=>aC fun K29 k29=>wp_region_lit (aA (aB) ?_);simp only[zz];refine vN m yD rfl (m.p 1 rfl) ?_;clear m;intro r1 u m;refine aD (k29 _ _ ?_);refine wp_block ?_;simp only[zz];try simp only[Nat.zero_add,Nat.reduceAdd,Nat.reduceMul,Int.reduceToNat]
   refine bN [] [2,9,10,11,12,13,50,51,52,53,54,55,56,57,58,59,60,61,62,63,64,65,66,67,68,69,70,71,72,73,74,75,76,77,78,79,80,81,82,83,84,85,86,87,88,89,90,91,92,93,94] (fun n vs wl=>∃ (dn rs : List (E3 × P3)) (sn : Array Nat),vs = [] ∧ bS w wl [iI r1 q8 c8 sn,mI q9 es9 c9,mI q8 es8 c8] ∧ (lB ed pt (lK [] (iP ts)) es8 sn dn rs) ∧ (∀ y ∈ dn,¬ Hs ts y.1) ∧ (n = rs.length)) ?_ ?_
   ·
    apply Exists.intro;simp only[zQ,zR,zD,zE];exact ⟨[],_,#[],trivial,m,lB.start hD8,fun _ h=>(by cases h),rfl⟩
   ·
    intro n vs wr hI u;clear m;obtain ⟨dn,rs,sn,rfl,m,hT1,hno,hn⟩:=hI;simp only[zu,zF,zG];refine aC fun K30 k30=>wp_region_lit (Cg m 0 rfl rfl (m.p 2 rfl) hD8 hT1 ?_);clear m;intro bb kk vv sn u m hN;simp only[zF,zG] at m;refine aA (rK rfl) (aD (k30 _ _ ?_));refine aC fun K31 k31=>?_;simp only[zz];refine fB rfl (fun hc3=>?_) (fun hc3=>?_)
    ·
     obtain ⟨kp,kb,rs2,hp,hT2⟩:=Cj hc3 hN;obtain ⟨x,hx⟩ : ∃ x,cP (lK [] (iP ts)) kp = some x:=by
      cases h : cP (lK [] (iP ts)) kp with
      | some x=>exact ⟨x,rfl⟩
      | none =>
       refine absurd ?_ (qJ.1 h);have h1:=hT2.1.mem_iff (a:=(kp,kb));exact List.mem_map.2 ⟨_,h1.1 (by simp),rfl⟩
     have hkx : bR ts kp.1 kp.2 = some x:=by rw [← qM hnd];exact hx
     obtain ⟨M,hM⟩ : ∃ M,M = oP (cY ts) kp.1:=⟨_,rfl⟩
     have hmM : (cP (pK [] (cY ts)) kp.1).getD 0 = M:=by rw [Ld,hM]
     have hMl : M ≤ 30000000:=by have h1:=An (cY ts) kp.1;rw [hmM,Gc,hT.len] at h1;omega
     refine wp_skip (k31 _ _ ?_);refine wp_block (aC fun K32 k32=>wp_region_lit (eL (rL rfl (m.r 0 rfl) (m.p 2 rfl) hD8 hT2) ?_));simp only[zz];refine aA (bL rfl rfl) ?_;simp only[zz];refine aY m lT rfl ?_;clear m;intro g4 u m;simp only[zz];refine aQ m 0 rfl rfl rfl dM (dH rfl) rfl ?_;clear m;intro u m;simp only[zy,zx,bB,zF,zG,Nat.reduceAdd] at m;refine aD (k32 _ _ ?_);refine aC fun K33 k33=>wp_region_lit (aA (aF) (aD (k33 _ _ ?_)));refine aC fun K34 k34=>wp_region_lit (aA (aB) ?_);simp only[zz];refine aI rfl ((m.b 0 rfl).full jC dM) ?_;simp only[zz];refine eL (eB (ek:=ed) (en:=pt) (k:=kp) (v0:=⟨0,0,0⟩) yD bK tG rfl rfl (m.p 3 rfl) hD8) ?_;simp only[zz];refine aY m bK rfl ?_;clear m;intro g5 u m;simp only[zz];refine aQ m 0 rfl rfl rfl aG (dH rfl) rfl ?_;clear m;intro u m;simp only[zy,zx,bB,zF,zG,Nat.reduceAdd] at m;refine aD ?_;rw [hx] at m;simp only[Option.getD_some] at m;refine k34 _ _ ?_;refine aC fun K35 k35=>wp_block ?_;try simp only[Nat.zero_add,Nat.reduceAdd,Nat.reduceMul,Int.reduceToNat]
     refine bN [10] [12,13,57,58,59,60,61,62,63,64,65,66,67,68,69,70,71,72,73,74,75,76,77,78,79,80,81,82] (fun n vs wl=>∃ (z : Nat) (a : P3),vs = [.int .i64 (z:Int)] ∧ bS w wl [bI g5 (Zk a) 48,bI g4 (bV kp) 143,iI r1 q8 c8 sn,mI q9 es9 c9,mI q8 es8 c8] ∧ (tF (bR ts kp.1) kp.2 M x 1 = tF (bR ts kp.1) kp.2 (M + 1 - z) a z) ∧ (1 ≤ z) ∧ (z ≤ M + 1) ∧ (n = M + 1 - z)) ?_ ?_
     ·
      apply Exists.intro;simp only[zQ,zR,zD,zE];exact ⟨1,x,rfl,m,rfl,Nat.le_refl _,by omega,rfl⟩
     ·
      intro n vs wr hI u;clear m;obtain ⟨z,a,rfl,m,hrun,hz1,hz2,hn4⟩:=hI;simp only[zu,zF,zG];refine aC fun K36 k36=>aC fun K37 k37=>wp_region_lit (aI rfl ((m.b 0 rfl).full aK aG) ?_);simp only[zz];refine aA (aJ (c:=2) iX rfl aG rfl rfl) ?_;simp only[zz];refine aI rfl ((m.b 1 rfl).lies aK aG rfl rfl) ?_;simp only[zz,zy,Nat.zero_add,Nat.reduceAdd,Nat.reduceMul,Int.reduceToNat];refine aA (iF rfl rfl) (aA (aB) (dS rfl (fun hb=>aB) (dS rfl (fun hb=>aB) ?_)));simp only[zz];refine dS rfl (fun hb=>aJ (c:=2) iX rfl aG rfl rfl) ?_;simp only[zz];refine iQ rfl (fun hb=>dI (bW hb rfl) ((m.b 1 rfl).lies aK aG rfl rfl)) ?_;simp only[zz,zy,Nat.zero_add,Nat.reduceAdd,Nat.reduceMul,Int.reduceToNat];refine iQ rfl (fun hb=>eB (ek:=pt) (en:=nE) (k:=kp.1) (v0:=0) lC kZ gC (bW hb rfl) (bW hb rfl) (m.p 3 rfl) hD9) ?_;simp only[zz];refine dS rfl (fun hb=>Tf (bW hb rfl) (bW hb rfl)) (aA (dV rfl rfl rfl) (aD (k37 _ _ ?_)));simp only[zz];refine fB rfl (fun hc4=>?_) (fun hc4=>?_)
      ·
       have hs : ¬ a = kp.2 ∧ z ≤ M:=by rw [hmM] at hc4;simpa [ab8] using hc4
       refine wp_skip (k36 _ _ ?_);refine wp_block (aC fun K38 k38=>wp_region_lit (aA (aB) (aA (aJ (c:=2) iX rfl aG rfl rfl) ?_)));simp only[zz];refine aI rfl ((m.b 1 rfl).lies aK aG rfl rfl) ?_;simp only[zz,zy,Nat.zero_add,Nat.reduceAdd,Nat.reduceMul,Int.reduceToNat];refine aI rfl ((m.b 0 rfl).full aK aG) ?_;simp only[zz];refine aA (fR rfl rfl) ?_;simp only[zz];refine eL (qK (ek:=ed) (en:=pt) (k:=(kp.1,a)) (v0:=⟨0,0,0⟩) yD bK tG rfl rfl (m.p 4 rfl) hD8) ?_;simp only[zz];refine aA (aB) (aA (bL rfl rfl) (aA (bL rfl rfl) ?_));simp only[zz];refine aY m bK rfl ?_;clear m;intro g6 u m;simp only[zz];refine aQ m 0 rfl rfl rfl aG (dH rfl) rfl ?_;clear m;intro u m;simp only[zy,zx,bB,zF,zG,Nat.reduceAdd] at m;refine aA (aF) (aD (k38 _ _ ?_));refine aC fun K39 k39=>aC fun K40 k40=>wp_region_lit (aA (aB) (aA (iO rfl) (aD (k40 _ _ ?_))));simp only[zz];refine fB rfl (fun hc5=>?_) (fun hc5=>?_)
       ·
        have hyn : bR ts kp.1 a = none:=by rw [← qM hnd];simpa using hc5
        have hfin:=hrun.trans (aal hyn);refine wp_exit (k35 _ _ ?_);refine aC fun K41 k41=>wp_region_lit (aI rfl ((m.b 1 rfl).full aK aG) ?_);simp only[zz];refine aA (aJ (c:=2) iX rfl aG rfl rfl) ?_;simp only[zz];refine aI rfl ((m.b 2 rfl).lies aK aG rfl rfl) ?_;simp only[zz,zy,Nat.zero_add,Nat.reduceAdd,Nat.reduceMul,Int.reduceToNat];refine aA (eS rfl rfl) (aA (aB) (dS rfl (fun hb=>aB) (dS rfl (fun hb=>aB) ?_)));simp only[zz];refine dS rfl (fun hb=>aJ (c:=2) iX rfl aG rfl rfl) ?_;simp only[zz];refine iQ rfl (fun hb=>dI (bW hb rfl) ((m.b 2 rfl).lies aK aG rfl rfl)) ?_;simp only[zz,zy,Nat.zero_add,Nat.reduceAdd,Nat.reduceMul,Int.reduceToNat];refine iQ rfl (fun hb=>eB (ek:=pt) (en:=nE) (k:=kp.1) (v0:=0) lC kZ gC (bW hb rfl) (bW hb rfl) (m.p 4 rfl) hD9) ?_;simp only[zz];refine dS rfl (fun hb=>cS (bW hb rfl) (bW hb rfl)) (aA (dV rfl rfl rfl) (aD (k41 _ _ ?_)));simp only[zz];refine fB rfl (fun hc6=>?_) (fun hc6=>?_)
        ·
         have hs : a = kp.2 ∧ z < M:=by rw [hmM] at hc6;simpa [← jX] using hc6
         refine aC fun K42 k42=>wp_region_lit (aA (aF) (aD (k42 _ _ ?_)));refine wp_ret ?_;simp only[zz];try simp only[Exit.inBlock,Exit.then,if_true]
         refine bP rfl rfl ?_;try simp only[zD,zE]
         exact ⟨_,rfl,m.ext,by have hp : Hs ts kp:=⟨x,hkx,by rw [Nat.add_sub_cancel,← hM,hfin];exact hs.1,by rw [Nat.add_sub_cancel,← hM,hfin];exact hs.2⟩;rw [pinned.2 ⟨kp,hp⟩]⟩
        ·
         have hs : ¬ (a = kp.2 ∧ z < M):=by rw [hmM] at hc6;simpa [← jX] using hc6
         have hno2 : ∀ y ∈ dn ++ [(kp,kb)],¬ Hs ts y.1:=fun y hy=>by
          rcases List.mem_append.1 hy with hy | hy
          · exact hno y hy
          ·
           obtain rfl:=List.mem_singleton.1 hy;rintro ⟨x2,h1,h2,h3⟩;obtain rfl : x = x2:=Option.some.inj (hkx.symm.trans h1);rw [Nat.add_sub_cancel,← hM,hfin] at h2 h3;exact hs ⟨h2,h3⟩
         refine wp_skip ?_;simp only[Exit.inBlock,Exit.then];refine ⟨rs2.length,_,?_,rfl,?_,?_⟩
         · rw [hn,hp.length_eq];exact Nat.lt_succ_self _
         · simp only[zz,zv]
         ·
          simp only[zQ,zR,zD,zE];exact ⟨dn ++ [(kp,kb)],rs2,_,trivial,(m.sel [false,false,false,true,true,true]),hT2,hno2,rfl⟩
       ·
        obtain ⟨y,hy⟩ : ∃ y,cP (lK [] (iP ts)) (kp.1,a) = some y:=by
         cases h : cP (lK [] (iP ts)) (kp.1,a) with
         | some y=>exact ⟨y,rfl⟩
         | none=>rw [h] at hc5;cases hc5
        have hya : bR ts kp.1 a = some y:=by rw [← qM hnd];exact hy
        rw [hy] at m;simp only[Option.getD_some] at m;refine wp_skip (k39 _ _ ?_);refine aC fun K43 k43=>wp_region_lit (aI rfl ((m.b 0 rfl).full aK aG) ?_);simp only[zz];refine aQ m 1 rfl rfl rfl aG (dH rfl) rfl ?_;clear m;intro u m;simp only[zy,zx,bB,zF,zG,Nat.reduceAdd] at m;refine aD (k43 _ _ ?_);refine wp_region_lit (aA (aB) ?_);simp only[zz];refine aA (aR rfl rfl (aM (by omega) (by omega))) (aA (aF) (aD ?_));simp only[zz];simp only[Exit.inBlock,Exit.then];refine ⟨M + 1 - (z + 1),_,?_,rfl,?_,?_⟩
        · omega
        · simp only[zz,zv]
        ·
         simp only[zQ,zR,zD,zE];exact ⟨z + 1,y,rfl,(m.sel [false,true,true,true,true,true]),by rw [hrun,show M + 1 - z = (M + 1 - (z + 1)) + 1 by omega,ab6 hs.1 hya],by omega,by omega,rfl⟩
      ·
       have hs0 : a = kp.2 ∨ ¬ z ≤ M:=by rw [hmM] at hc4;exact Xa hc4
       have hfin:=hrun.trans (ab7 hz2 hs0);refine wp_exit (k35 _ _ ?_);refine aC fun K44 k44=>wp_region_lit (aI rfl ((m.b 0 rfl).full aK aG) ?_);simp only[zz];refine aA (aJ (c:=2) iX rfl aG rfl rfl) ?_;simp only[zz];refine aI rfl ((m.b 1 rfl).lies aK aG rfl rfl) ?_;simp only[zz,zy,Nat.zero_add,Nat.reduceAdd,Nat.reduceMul,Int.reduceToNat];refine aA (eS rfl rfl) (aA (aB) (dS rfl (fun hb=>aB) (dS rfl (fun hb=>aB) ?_)));simp only[zz];refine dS rfl (fun hb=>aJ (c:=2) iX rfl aG rfl rfl) ?_;simp only[zz];refine iQ rfl (fun hb=>dI (bW hb rfl) ((m.b 1 rfl).lies aK aG rfl rfl)) ?_;simp only[zz,zy,Nat.zero_add,Nat.reduceAdd,Nat.reduceMul,Int.reduceToNat];refine iQ rfl (fun hb=>eB (ek:=pt) (en:=nE) (k:=kp.1) (v0:=0) lC kZ gC (bW hb rfl) (bW hb rfl) (m.p 3 rfl) hD9) ?_;simp only[zz];refine dS rfl (fun hb=>cS (bW hb rfl) (bW hb rfl)) (aA (dV rfl rfl rfl) (aD (k44 _ _ ?_)));simp only[zz];refine fB rfl (fun hc6=>?_) (fun hc6=>?_)
       ·
        have hs : a = kp.2 ∧ z < M:=by rw [hmM] at hc6;simpa [← jX] using hc6
        refine aC fun K45 k45=>wp_region_lit (aA (aF) (aD (k45 _ _ ?_)));refine wp_ret ?_;simp only[zz];try simp only[Exit.inBlock,Exit.then,if_true]
        refine bP rfl rfl ?_;try simp only[zD,zE]
        exact ⟨_,rfl,m.ext,by have hp : Hs ts kp:=⟨x,hkx,by rw [Nat.add_sub_cancel,← hM,hfin];exact hs.1,by rw [Nat.add_sub_cancel,← hM,hfin];exact hs.2⟩;rw [pinned.2 ⟨kp,hp⟩]⟩
       ·
        have hs : ¬ (a = kp.2 ∧ z < M):=by rw [hmM] at hc6;simpa [← jX] using hc6
        have hno2 : ∀ y ∈ dn ++ [(kp,kb)],¬ Hs ts y.1:=fun y hy=>by
         rcases List.mem_append.1 hy with hy | hy
         · exact hno y hy
         ·
          obtain rfl:=List.mem_singleton.1 hy;rintro ⟨x2,h1,h2,h3⟩;obtain rfl : x = x2:=Option.some.inj (hkx.symm.trans h1);rw [Nat.add_sub_cancel,← hM,hfin] at h2 h3;exact hs ⟨h2,h3⟩
        refine wp_skip ?_;simp only[Exit.inBlock,Exit.then];refine ⟨rs2.length,_,?_,rfl,?_,?_⟩
        · rw [hn,hp.length_eq];exact Nat.lt_succ_self _
        · simp only[zz,zv]
        ·
         simp only[zQ,zR,zD,zE];exact ⟨dn ++ [(kp,kb)],rs2,_,trivial,(m.sel [false,false,true,true,true]),hT2,hno2,rfl⟩
    ·
     obtain rfl:=Ci hc3 hN;refine wp_exit (k28 _ _ ?_);refine aC fun K46 k46=>wp_region_lit (aA (aF) (aD (k46 _ _ ?_)));refine wp_ret ?_;simp only[zz];try simp only[Exit.inBlock,Exit.then,if_true]
     refine bP rfl rfl ?_;try simp only[zD,zE]
     exact ⟨_,rfl,m.ext,by cases h : (nB ts).any (Rf ts) with | false=>rfl | true=>(obtain ⟨e,he⟩:=pinned.1 h;exact absurd he (Xb hT1 hnd hno e))⟩
theorem aam {ts : List T3} (h : ¬ (bH ts).Nodup) : (bH ts).any (fun e=>decide (1 < jS (bH ts) e)) = true:=by rw [Hq];exact decide_eq_true h
theorem Xc {ts : List T3} (h : (bH ts).Nodup) : (bH ts).any (fun e=>decide (1 < jS (bH ts) e)) = false:=by rw [Hq];exact decide_eq_false fun k=>k h
theorem Xd {ts : List T3} {N cap : Nat} {A : Option Addr} (w : World) (hT : dZ w A N ts) (hN : N ≤ 10000000) : eE prog 102 [.slice A N cap,.bool true] w (fun v _=>v = .int .i64 (eA true ts)):=by
 refine ⟨abh,?_⟩;have m:=bS.refl w
 go_enter func102,ntmps102
 refine aC fun K1 k1=>wp_region_lit (aA (aF) (aD (k1 _ _ ?_)));refine aC fun K2 k2=>aC fun K3 k3=>wp_region_lit (aA (aB) (aA (bC rfl cC rfl) (aA (aB) ?_)));simp only[zz];refine aD (k3 _ _ ?_);refine wp_block ?_;try simp only[Nat.zero_add,Nat.reduceAdd,Nat.reduceMul,Int.reduceToNat]
 refine bN [11] [4,6,12,13,14,15,16,17,18,19,20,21,22,23,24,25,26,27,28,29,30,31,32,33,34] (fun n vs wl=>∃ (k : Nat),vs = [.int .i64 (k:Int)] ∧ bS w wl [] ∧ ((ts.take k).any wI = false) ∧ (k ≤ N) ∧ (n = N - k)) ?_ ?_
 ·
  apply Exists.intro;simp only[zQ,zR,zD,zE];exact ⟨0,rfl,m,rfl,Nat.zero_le _,rfl⟩
 ·
  intro n vs wr hI u;clear m;obtain ⟨k,rfl,m,hd0,hk,hn⟩:=hI;simp only[zu,zF,zG];refine aC fun K4 k4=>wp_region_lit (aA (cS rfl rfl) (aD (k4 _ _ ?_)));refine aC fun K5 k5=>?_;simp only[zz];refine cD rfl (fun hc1=>?_) (fun hc1=>?_)
  ·
   obtain ⟨t,ht,_,a,rfl,hrow⟩:=hT.get (i:=k) (by omega);refine wp_skip (k5 _ _ ?_);refine aC fun K6 k6=>wp_block (aC fun K7 k7=>wp_region_lit (aA (aL cC aV rfl rfl (by omega) (by omega) (dP (Int.toNat_natCast _))) ?_));simp only[zz];refine aI rfl ((hrow.ext m.ext).lies eJ aV) ?_;simp only[zz];refine aY m iR rfl ?_;clear m;intro g1 u m;simp only[zz];refine aQ m 0 rfl rfl rfl aV (dH rfl) rfl ?_;clear m;intro u m;simp only[zy,zx,bB,zF,zG,Nat.reduceAdd] at m;refine aD (k7 _ _ ?_);refine aC fun K8 k8=>wp_region_lit (aA (aH bO aG rfl rfl (by decide) (by decide) rfl) ?_);simp only[zz];refine aI rfl ((m.b 0 rfl).lies aK aG rfl rfl) ?_;simp only[zz,zy,Nat.zero_add,Nat.reduceAdd,Nat.reduceMul,Int.reduceToNat];refine aA (aH bO aG rfl rfl (by decide) (by decide) rfl) ?_;simp only[zz];refine aI rfl ((m.b 0 rfl).lies aK aG rfl rfl) ?_;simp only[zz,zy,Nat.zero_add,Nat.reduceAdd,Nat.reduceMul,Int.reduceToNat];refine aA (eS rfl rfl) (aA (aB) (gN rfl (fun hb=>aH bO aG rfl rfl (by decide) (by decide) rfl) ?_));simp only[zz];refine mT rfl (fun hb=>dI (bW hb rfl) ((m.b 0 rfl).lies aK aG rfl rfl)) ?_;simp only[zz,zy,Nat.zero_add,Nat.reduceAdd,Nat.reduceMul,Int.reduceToNat];refine gN rfl (fun hb=>aH bO aG rfl rfl (by decide) (by decide) rfl) ?_;simp only[zz];refine mT rfl (fun hb=>dI (bW hb rfl) ((m.b 0 rfl).lies aK aG rfl rfl)) ?_;simp only[zz,zy,Nat.zero_add,Nat.reduceAdd,Nat.reduceMul,Int.reduceToNat];refine gN rfl (fun hb=>eS (bW hb rfl) (bW hb rfl)) (aA (iW rfl rfl rfl) (aA (aB) (gN rfl (fun hb=>aH bO aG rfl rfl (by decide) (by decide) rfl) ?_)));simp only[zz];refine mT rfl (fun hb=>dI (bW hb rfl) ((m.b 0 rfl).lies aK aG rfl rfl)) ?_;simp only[zz,zy,Nat.zero_add,Nat.reduceAdd,Nat.reduceMul,Int.reduceToNat];refine gN rfl (fun hb=>aH bO aG rfl rfl (by decide) (by decide) rfl) ?_;simp only[zz];refine mT rfl (fun hb=>dI (bW hb rfl) ((m.b 0 rfl).lies aK aG rfl rfl)) ?_;simp only[zz,zy,Nat.zero_add,Nat.reduceAdd,Nat.reduceMul,Int.reduceToNat];refine gN rfl (fun hb=>eS (bW hb rfl) (bW hb rfl)) (aA (iW rfl rfl rfl) (aD (k8 _ _ ?_)));simp only[zz];refine sD rfl (fun hc2=>?_) (fun hc2=>?_)
   ·
    have hd:=Hi (p:=wI) ht (Vk.symm.trans hc2);refine aC fun K9 k9=>wp_region_lit (aA (aF) (aD (k9 _ _ ?_)));refine wp_ret ?_;simp only[zz];try simp only[Exit.inBlock,Exit.then,if_true]
    refine bP rfl rfl ?_;try simp only[zD,zE]
    exact ⟨_,rfl,m.ext,by rw [Zu hd]⟩
   ·
    have hd1 : (ts.take (k + 1)).any wI = false:=by rw [Bu ht,hd0,← Vk];exact hc2
    refine wp_skip (k6 _ _ ?_);refine wp_region_lit (aA (aR rfl rfl (aM (by omega) (by omega))) (aA (aB) (aD ?_)));simp only[zz];simp only[Exit.inBlock,Exit.then];refine ⟨N - (k + 1),_,?_,rfl,?_,?_⟩
    · omega
    · simp only[zz,zv]
    ·
     simp only[zQ,zR,zD,zE];exact ⟨k + 1,rfl,(m.sel [false]),hd1,by omega,rfl⟩
  ·
   have hkN : k = N:=by omega
   rw [hkN,show ts.take N = ts from List.take_of_length_le (by rw [hT.len];exact Nat.le_refl _)] at hd0;refine wp_exit (k2 _ _ ?_);refine aC fun K10 k10=>wp_region_lit (aA (aB) ?_);simp only[zz];refine bE rfl rfl (Da _ (hT.ext m.ext) hN) ?_;rintro v u e ⟨g8,es8,c8,rfl,hM,hD8⟩;replace m:=m.plus hM;clear hM e;simp only[List.cons_append,List.nil_append] at m;refine aA (aB) (aA (bL rfl rfl) (aA (bL rfl rfl) ?_));simp only[zz];refine aA (aF) (aA (aF) (aD (k10 _ _ ?_)));refine aC fun K11 k11=>wp_block (aC fun K12 k12=>wp_region_lit (aA (aB) (aA (iO rfl) ?_)));simp only[zz];refine aA (aF) (aD (k12 _ _ ?_));simp only[zz];refine fB rfl (fun hc3=>?_) (fun hc3=>?_)
   ·
    have hnd : ¬ (bH ts).Nodup:=by simpa using hc3
    refine aC fun K13 k13=>wp_region_lit (aA (aF) (aD (k13 _ _ ?_)));refine wp_ret ?_;simp only[zz];try simp only[Exit.inBlock,Exit.then,if_true]
    refine bP rfl rfl ?_;try simp only[zD,zE]
    exact ⟨_,rfl,m.ext,by rw [Zv hd0 (aam hnd)]⟩
   ·
    have hnd : (bH ts).Nodup:=by simpa using hc3
    refine aC fun K14 k14=>wp_region_lit (aA (aB) (aA (iO rfl) (aA (aB) (dA rfl ?_))));simp only[zz];refine dA rfl (dA rfl (dA rfl (aA (gF rfl) ?_)));simp only[zz];refine aA (aF) (aD (k14 _ _ ?_));refine iT rfl (aC fun K15 k15=>wp_region_lit (aA (aB) ?_));simp only[zz];refine fF m rfl rfl (Nt _ (hT.ext m.ext) hN hnd) ?_;clear m;rintro v u m rfl;refine aA (aF) (aD (k15 _ _ ?_));simp only[zz];refine fB rfl (fun hc5=>?_) (fun hc5=>?_)
    ·
     refine aC fun K16 k16=>wp_region_lit (aA (aF) (aD (k16 _ _ ?_)));refine wp_ret ?_;simp only[zz];try simp only[Exit.inBlock,Exit.then,if_true]
     refine bP rfl rfl ?_;try simp only[zD,zE]
     exact ⟨_,rfl,m.ext,by rw [Zw hd0 (Xc hnd) rfl hc5]⟩
    ·
     refine wp_skip (k11 _ _ ?_);refine aC fun K17 k17=>wp_region_lit (aA (aF) (aD (k17 _ _ ?_)));refine wp_ret ?_;simp only[zz];try simp only[Exit.inBlock,Exit.then,if_true]
     refine bP rfl rfl ?_;try simp only[zD,zE]
     exact ⟨_,rfl,m.ext,by rw [ab0 hd0 (Xc hnd) rfl hc5]⟩
theorem xA {ts : List T3} {N cap : Nat} {A : Option Addr} (w : World) (hT : dZ w A N ts) (hN : N ≤ 10000000) : eE prog 65 [.slice A N cap] w (fun v _=>v = .int .i64 (eA true ts)):=by
 refine ⟨adt,?_⟩;have m:=bS.refl w
 go_enter func65,ntmps65
 refine aC fun K1 k1=>wp_region_lit (aA (aF) (aD (k1 _ _ ?_)));refine aC fun K2 k2=>wp_region_lit (aA (aB) ?_);simp only[zz];refine fF m rfl rfl (Xd _ (hT.ext m.ext) hN) ?_;clear m;rintro v u m rfl;refine aA (aF) (aD (k2 _ _ ?_));refine wp_ret ?_;simp only[zz];try simp only[Exit.inBlock,Exit.then,if_true]
 refine bP rfl rfl ?_;try simp only[zD,zE]
 exact ⟨_,rfl,m.ext,rfl⟩
theorem ab9 {t : T3} (h1 : t.b.Lt t.a) (h2 : t.c.Lt t.b) : iY t = ⟨t.c,t.a,t.b⟩:=if_pos ⟨P3.lt_trans h2 h1,.inl h2⟩
theorem aca {t : T3} (h1 : t.b.Lt t.a) (h2 : ¬ t.c.Lt t.b) : iY t = ⟨t.b,t.c,t.a⟩:=by rw [iY,if_neg (fun h=>h.2.elim h2 fun k=>k h1),if_pos h1]
theorem acb {t : T3} (h1 : ¬ t.b.Lt t.a) (h2 : t.c.Lt t.a) : iY t = ⟨t.c,t.a,t.b⟩:=if_pos ⟨h2,.inr h1⟩
theorem acc {t : T3} (h1 : ¬ t.b.Lt t.a) (h2 : ¬ t.c.Lt t.a) : iY t = t:=by rw [iY,if_neg (fun h=>h2 h.1),if_neg h1]
theorem Gd {t : T3} : jB prog 74 [tr t] (tr (iY t)):=by
 intro w;refine ⟨adC,?_⟩;have m:=bS.refl w
 go_enter func74,ntmps74
 refine aC fun K1 k1=>wp_region_lit (fA m rfl ?_);clear m;intro g1 u m;simp only[zz];refine aY m iR rfl ?_;clear m;intro g2 u m;refine aD (k1 _ _ ?_);refine aC fun K2 k2=>wp_region_lit (aA (aF) (aD (k2 _ _ ?_)));refine aC fun K3 k3=>aC fun K4 k4=>wp_region_lit (aA (aF) (aD (k4 _ _ ?_)));refine wp_block (wp_loop_rounds 3 (dQ (aC fun K5 k5=>aC fun K6 k6=>wp_region_lit (aA (aB) ?_))));simp only[zz];refine aA (bT (m:=1) (n:=3) rfl rfl (by decide)) (aD (k6 _ _ ?_));refine cG rfl (wp_skip (k5 _ _ ?_));refine aC fun K7 k7=>wp_block (aC fun K8 k8=>?_);simp only[zz];refine mq m aP (by kernel_rfl) (aN (aB) (aN (aH bO aG rfl rfl (by decide) (by decide) rfl) ?_));simp only[zz];refine ql rfl (fun u m=>((m.b 1 rfl).lies aK aG rfl rfl)) ?_;simp only[zz,zy,Nat.zero_add,Nat.reduceAdd,Nat.reduceMul,Int.reduceToNat];refine aN (aB) (aN (aH bO aG rfl rfl (by decide) (by decide) rfl) ?_);simp only[zz];refine ql rfl (fun u m=>((m.b 1 rfl).lies aK aG rfl rfl)) ?_;simp only[zz,zy,Nat.zero_add,Nat.reduceAdd,Nat.reduceMul,Int.reduceToNat];refine sB rfl rfl (uI.pure) (dN ?_);clear m;intro u m;refine k8 _ _ ?_;simp only[zz];refine cD rfl (fun hc2=>?_) (fun hc2=>?_)
 ·
  have h1:=hc2;refine wp_region_lit (aA (aB) (aA (aF) (aD (k7 _ _ ?_))));refine wp_region_lit (aA (aB) (aA (aR (m:=1) (n:=1) (r:=2) rfl rfl (by decide)) ?_));simp only[zz];refine aA (aF) (aD (aU (aC fun K9 k9=>aC fun K10 k10=>wp_region_lit (aA (aB) (aA (bT (m:=2) (n:=3) rfl rfl (by decide)) (aD (k10 _ _ ?_)))))));refine cG rfl (wp_skip (k9 _ _ ?_));refine aC fun K11 k11=>wp_block (aC fun K12 k12=>?_);simp only[zz];refine mq m aP (by kernel_rfl) (aN (aB) (aN (aH bO aG rfl rfl (by decide) (by decide) rfl) ?_));simp only[zz];refine ql rfl (fun u m=>((m.b 1 rfl).lies aK aG rfl rfl)) ?_;simp only[zz,zy,Nat.zero_add,Nat.reduceAdd,Nat.reduceMul,Int.reduceToNat];refine aN (aB) (aN (aH bO aG rfl rfl (by decide) (by decide) rfl) ?_);simp only[zz];refine ql rfl (fun u m=>((m.b 1 rfl).lies aK aG rfl rfl)) ?_;simp only[zz,zy,Nat.zero_add,Nat.reduceAdd,Nat.reduceMul,Int.reduceToNat];refine sB rfl rfl (uI.pure) (dN ?_);clear m;intro u m;refine k12 _ _ ?_;simp only[zz];refine cD rfl (fun hc2=>?_) (fun hc2=>?_)
  ·
   have h2:=hc2;refine wp_region_lit (aA (aB) (aA (aF) (aD (k11 _ _ ?_))));refine wp_region_lit (aA (aB) (aA (aR (m:=2) (n:=1) (r:=3) rfl rfl (by decide)) ?_));simp only[zz];refine aA (aF) (aD (aU (aC fun K13 k13=>aC fun K14 k14=>wp_region_lit (aA (aB) (aA (eG (m:=3) (n:=3) rfl rfl (by decide)) (aD (k14 _ _ ?_)))))));refine iT rfl (wp_exit (k3 _ _ ?_));refine aC fun K15 k15=>?_;simp only[zz];refine fO m 14 aP (by kernel_rfl) ?_;simp only[zy];refine aN (aB) (aN (aH bO aG rfl rfl (by decide) (by decide) rfl) ?_);simp only[zz];refine ql rfl (fun u m=>((m.b 1 rfl).lies aK aG rfl rfl)) ?_;simp only[zz,zy,Nat.zero_add,Nat.reduceAdd,Nat.reduceMul,Int.reduceToNat];refine aN (aB) (aN (aR (m:=2) (n:=1) (r:=3) rfl rfl (by decide)) (aN (dJ (m:=3) (n:=3) (r:=0) rfl rfl (by decide) (by decide)) (aN (aH bO aG rfl rfl (by decide) (by decide) rfl) ?_)));simp only[zz];refine ql rfl (fun u m=>((m.b 1 rfl).lies aK aG rfl rfl)) ?_;simp only[zz,zy,Nat.zero_add,Nat.reduceAdd,Nat.reduceMul,Int.reduceToNat];refine aN (aB) (aN (aR (m:=2) (n:=2) (r:=4) rfl rfl (by decide)) (aN (dJ (m:=4) (n:=3) (r:=1) rfl rfl (by decide) (by decide)) (aN (aH bO aG rfl rfl (by decide) (by decide) rfl) ?_)));simp only[zz];refine ql rfl (fun u m=>((m.b 1 rfl).lies aK aG rfl rfl)) ?_;simp only[zz,zy,Nat.zero_add,Nat.reduceAdd,Nat.reduceMul,Int.reduceToNat];refine aN (bJ rfl rfl rfl) (dN ?_);clear m;intro u m;simp only[zz];refine aQ m 0 rfl rfl rfl aV (dH rfl) rfl ?_;clear m;intro u m;simp only[zy,zx,bB,zF,zG,Nat.reduceAdd] at m;refine aD (k15 _ _ ?_);refine wp_ret ?_;try simp only[Exit.inBlock,Exit.then,if_true]
   refine bP rfl ⟨_,rfl,((m.b 0 rfl).full eJ aV)⟩ ?_;try simp only[zD,zE]
   exact ⟨_,rfl,m.ext,by rw [ab9 h1 h2];rfl⟩
  ·
   have h2:=hc2;refine wp_skip (k11 _ _ ?_);refine wp_region_lit (aA (aB) (aA (aR (m:=2) (n:=1) (r:=3) rfl rfl (by decide)) (aA (aF) (aD (aU (aC fun K16 k16=>aC fun K17 k17=>wp_region_lit (aA (aB) ?_)))))));simp only[zz];refine aA (eG (m:=3) (n:=3) rfl rfl (by decide)) (aD (k17 _ _ ?_));refine iT rfl (wp_exit (k3 _ _ ?_));refine aC fun K18 k18=>?_;simp only[zz];refine fO m 14 aP (by kernel_rfl) ?_;simp only[zy];refine aN (aB) (aN (aH bO aG rfl rfl (by decide) (by decide) rfl) ?_);simp only[zz];refine ql rfl (fun u m=>((m.b 1 rfl).lies aK aG rfl rfl)) ?_;simp only[zz,zy,Nat.zero_add,Nat.reduceAdd,Nat.reduceMul,Int.reduceToNat];refine aN (aB) (aN (aR (m:=1) (n:=1) (r:=2) rfl rfl (by decide)) (aN (dJ (m:=2) (n:=3) (r:=2) rfl rfl (by decide) (by decide)) (aN (aH bO aG rfl rfl (by decide) (by decide) rfl) ?_)));simp only[zz];refine ql rfl (fun u m=>((m.b 1 rfl).lies aK aG rfl rfl)) ?_;simp only[zz,zy,Nat.zero_add,Nat.reduceAdd,Nat.reduceMul,Int.reduceToNat];refine aN (aB) (aN (aR (m:=1) (n:=2) (r:=3) rfl rfl (by decide)) (aN (dJ (m:=3) (n:=3) (r:=0) rfl rfl (by decide) (by decide)) (aN (aH bO aG rfl rfl (by decide) (by decide) rfl) ?_)));simp only[zz];refine ql rfl (fun u m=>((m.b 1 rfl).lies aK aG rfl rfl)) ?_;simp only[zz,zy,Nat.zero_add,Nat.reduceAdd,Nat.reduceMul,Int.reduceToNat];refine aN (bJ rfl rfl rfl) (dN ?_);clear m;intro u m;simp only[zz];refine aQ m 0 rfl rfl rfl aV (dH rfl) rfl ?_;clear m;intro u m;simp only[zy,zx,bB,zF,zG,Nat.reduceAdd] at m;refine aD (k18 _ _ ?_);refine wp_ret ?_;try simp only[Exit.inBlock,Exit.then,if_true]
   refine bP rfl ⟨_,rfl,((m.b 0 rfl).full eJ aV)⟩ ?_;try simp only[zD,zE]
   exact ⟨_,rfl,m.ext,by rw [aca h1 h2];rfl⟩
 ·
  have h1:=hc2;refine wp_skip (k7 _ _ ?_);refine wp_region_lit (aA (aB) (aA (aR (m:=1) (n:=1) (r:=2) rfl rfl (by decide)) (aA (aF) (aD (aU (aC fun K19 k19=>aC fun K20 k20=>wp_region_lit (aA (aB) ?_)))))));simp only[zz];refine aA (bT (m:=2) (n:=3) rfl rfl (by decide)) (aD (k20 _ _ ?_));refine cG rfl (wp_skip (k19 _ _ ?_));refine aC fun K21 k21=>wp_block (aC fun K22 k22=>?_);simp only[zz];refine mq m aP (by kernel_rfl) (aN (aB) (aN (aH bO aG rfl rfl (by decide) (by decide) rfl) ?_));simp only[zz];refine ql rfl (fun u m=>((m.b 1 rfl).lies aK aG rfl rfl)) ?_;simp only[zz,zy,Nat.zero_add,Nat.reduceAdd,Nat.reduceMul,Int.reduceToNat];refine aN (aB) (aN (aH bO aG rfl rfl (by decide) (by decide) rfl) ?_);simp only[zz];refine ql rfl (fun u m=>((m.b 1 rfl).lies aK aG rfl rfl)) ?_;simp only[zz,zy,Nat.zero_add,Nat.reduceAdd,Nat.reduceMul,Int.reduceToNat];refine sB rfl rfl (uI.pure) (dN ?_);clear m;intro u m;refine k22 _ _ ?_;simp only[zz];refine cD rfl (fun hc2=>?_) (fun hc2=>?_)
  ·
   have h2:=hc2;refine wp_region_lit (aA (aB) (aA (aF) (aD (k21 _ _ ?_))));refine wp_region_lit (aA (aB) (aA (aR (m:=2) (n:=1) (r:=3) rfl rfl (by decide)) ?_));simp only[zz];refine aA (aF) (aD (aU (aC fun K23 k23=>aC fun K24 k24=>wp_region_lit (aA (aB) (aA (eG (m:=3) (n:=3) rfl rfl (by decide)) (aD (k24 _ _ ?_)))))));refine iT rfl (wp_exit (k3 _ _ ?_));refine aC fun K25 k25=>?_;simp only[zz];refine fO m 14 aP (by kernel_rfl) ?_;simp only[zy];refine aN (aB) (aN (aH bO aG rfl rfl (by decide) (by decide) rfl) ?_);simp only[zz];refine ql rfl (fun u m=>((m.b 1 rfl).lies aK aG rfl rfl)) ?_;simp only[zz,zy,Nat.zero_add,Nat.reduceAdd,Nat.reduceMul,Int.reduceToNat];refine aN (aB) (aN (aR (m:=2) (n:=1) (r:=3) rfl rfl (by decide)) (aN (dJ (m:=3) (n:=3) (r:=0) rfl rfl (by decide) (by decide)) (aN (aH bO aG rfl rfl (by decide) (by decide) rfl) ?_)));simp only[zz];refine ql rfl (fun u m=>((m.b 1 rfl).lies aK aG rfl rfl)) ?_;simp only[zz,zy,Nat.zero_add,Nat.reduceAdd,Nat.reduceMul,Int.reduceToNat];refine aN (aB) (aN (aR (m:=2) (n:=2) (r:=4) rfl rfl (by decide)) (aN (dJ (m:=4) (n:=3) (r:=1) rfl rfl (by decide) (by decide)) (aN (aH bO aG rfl rfl (by decide) (by decide) rfl) ?_)));simp only[zz];refine ql rfl (fun u m=>((m.b 1 rfl).lies aK aG rfl rfl)) ?_;simp only[zz,zy,Nat.zero_add,Nat.reduceAdd,Nat.reduceMul,Int.reduceToNat];refine aN (bJ rfl rfl rfl) (dN ?_);clear m;intro u m;simp only[zz];refine aQ m 0 rfl rfl rfl aV (dH rfl) rfl ?_;clear m;intro u m;simp only[zy,zx,bB,zF,zG,Nat.reduceAdd] at m;refine aD (k25 _ _ ?_);refine wp_ret ?_;try simp only[Exit.inBlock,Exit.then,if_true]
   refine bP rfl ⟨_,rfl,((m.b 0 rfl).full eJ aV)⟩ ?_;try simp only[zD,zE]
   exact ⟨_,rfl,m.ext,by rw [acb h1 h2];rfl⟩
  ·
   have h2:=hc2;refine wp_skip (k21 _ _ ?_);refine wp_region_lit (aA (aB) (aA (aR (m:=2) (n:=1) (r:=3) rfl rfl (by decide)) (aA (aF) (aD (aU (aC fun K26 k26=>aC fun K27 k27=>wp_region_lit (aA (aB) ?_)))))));simp only[zz];refine aA (eG (m:=3) (n:=3) rfl rfl (by decide)) (aD (k27 _ _ ?_));refine iT rfl (wp_exit (k3 _ _ ?_));refine aC fun K28 k28=>?_;simp only[zz];refine fO m 14 aP (by kernel_rfl) ?_;simp only[zy];refine aN (aB) (aN (aH bO aG rfl rfl (by decide) (by decide) rfl) ?_);simp only[zz];refine ql rfl (fun u m=>((m.b 1 rfl).lies aK aG rfl rfl)) ?_;simp only[zz,zy,Nat.zero_add,Nat.reduceAdd,Nat.reduceMul,Int.reduceToNat];refine aN (aB) (aN (aR (m:=0) (n:=1) (r:=1) rfl rfl (by decide)) (aN (dJ (m:=1) (n:=3) (r:=1) rfl rfl (by decide) (by decide)) (aN (aH bO aG rfl rfl (by decide) (by decide) rfl) ?_)));simp only[zz];refine ql rfl (fun u m=>((m.b 1 rfl).lies aK aG rfl rfl)) ?_;simp only[zz,zy,Nat.zero_add,Nat.reduceAdd,Nat.reduceMul,Int.reduceToNat];refine aN (aB) (aN (aR (m:=0) (n:=2) (r:=2) rfl rfl (by decide)) (aN (dJ (m:=2) (n:=3) (r:=2) rfl rfl (by decide) (by decide)) (aN (aH bO aG rfl rfl (by decide) (by decide) rfl) ?_)));simp only[zz];refine ql rfl (fun u m=>((m.b 1 rfl).lies aK aG rfl rfl)) ?_;simp only[zz,zy,Nat.zero_add,Nat.reduceAdd,Nat.reduceMul,Int.reduceToNat];refine aN (bJ rfl rfl rfl) (dN ?_);clear m;intro u m;simp only[zz];refine aQ m 0 rfl rfl rfl aV (dH rfl) rfl ?_;clear m;intro u m;simp only[zy,zx,bB,zF,zG,Nat.reduceAdd] at m;refine aD (k28 _ _ ?_);refine wp_ret ?_;try simp only[Exit.inBlock,Exit.then,if_true]
   refine bP rfl ⟨_,rfl,((m.b 0 rfl).full eJ aV)⟩ ?_;try simp only[zD,zE]
   exact ⟨_,rfl,m.ext,by rw [acc h1 h2];rfl⟩
end Go.Proofs.YtfohfflkhpfjeaaGreatDoor
namespace Go.Lith
open Go.RowKit
theorem cN {P : Program} {l : List Value} {x : Operand} {ty : TypeId} {a : Addr} (hx : ev l x = .pointer (some a)) : gH P l (.nilCheck x) ty (.pointer (some a)):=fun w o ho _=>by
 simp [execOp,ho,cR,hx]
theorem ad2 {P : Program} {ds : List Deferred} {Q : Exit → Act → World → Prop} {w w0 : World} {is : List It} {c : Code} {a : Act} {l : Nat → List Value} {c1 : List Value} {T1 : TypeId} (m : bS w0 w is) (h1 : c.wp P (fun e a' u=>e = .normal ∧ ∃ g,a' = Fr (l g) ds ∧ bS w0 u (bI g c1 T1 :: is)) a w)
 (h2 : ∀ g u,bS w0 u (bI g c1 T1 :: is) → Q .normal (Fr (l g) ds) u) : c.wp P Q a w:=by
 refine Code.wp_mono ?_ h1;rintro e a' u ⟨rfl,g,rfl,m'⟩;exact h2 g u m'
end Go.Lith
namespace Go.Lith
open Go.RowKit
abbrev tJ (x : Nat) : Value:=.int .i64 (x : Int)
structure dK (w : World) (b : Nat) (A : Option Addr) (n cap : Nat) (xs : List Nat) : Prop where
 eq : n = xs.length
 row : ∀ (i x : Nat),xs[i]? = some x → ∃ a,A = some a ∧ a.block < b ∧ w.cell? (a.add i) = some (.int .i64 (x : Int))
 le : xs.length ≤ cap
 cap : cap ≤ 9223372036854775807
 len : xs.length ≤ 17592186044416
 digs : cJ 65536 xs
structure rT (w : World) (b : Nat) : Prop where
 h : b ≤ w.heap.size
theorem rT.ext {w w' : World} {b : Nat} (h : rT w b) (hE : cZ w w') : rT w' b:=⟨Nat.le_trans h.h hE.size⟩
theorem rT.grew {w w' : World} {b base : Nat} (h : rT w b) (hG : Ik w w' base) (_ : True:=trivial) : rT w' b:=⟨Nat.le_trans h.h hG.size⟩
theorem cZ.base {w0 w : World} (h : cZ w0 w) : ∃ b,b = w.heap.size ∧ w0.heap.size ≤ b:=⟨_,rfl,h.size⟩
theorem rT.of {w0 w : World} {b : Nat} (_ : cZ w0 w) (e : b = w.heap.size) : rT w b:=⟨Nat.le_of_eq e⟩
theorem jG.nil_of {w0 w : World} (_ : cZ w0 w) (base : Nat) (E : TypeId) (c : Nat) : jG w base E c (.slice none 0 0) 0 []:=jG.nil w base E c
theorem fQ.row0 {w : World} {g : Nat} {cs : List Value} {t : TypeId} (h : fQ w g cs t) : mC w ⟨g,0,none⟩ cs:=h.row 0
section
variable {w w' : World} {b : Nat} {A : Option Addr} {n cap : Nat} {xs : List Nat}
theorem dK.ext (h : dK w b A n cap xs) (hE : cZ w w') : dK w' b A n cap xs :=
 ⟨h.eq,fun i x hi=>let ⟨a,e,hb,hc⟩:=h.row i x hi;⟨a,e,hb,hE.cell hc⟩,h.le,h.cap,h.len,h.digs⟩
theorem dK.mono {b' : Nat} (h : dK w b A n cap xs) (hb : b ≤ b') : dK w b' A n cap xs :=
 ⟨h.eq,fun i x hi=>let ⟨a,e,h1,hc⟩:=h.row i x hi;⟨a,e,by omega,hc⟩,h.le,h.cap,h.len,h.digs⟩
theorem dK.here (h : dK w b A n cap xs) : dK w w.heap.size A n cap xs :=
 ⟨h.eq,fun i x hi=>by
  obtain ⟨a,e,_,hc⟩:=h.row i x hi;have:=World.block_lt_of_cell? _ _ hc;rw [mE] at this;exact ⟨a,e,this,hc⟩,h.le,h.cap,h.len,h.digs⟩
theorem dK.chg {g : Nat} (h : dK w b A n cap xs) (hC : Pu w w' g) (hb : b ≤ g) : dK w' b A n cap xs :=
 ⟨h.eq,fun i x hi=>by
  obtain ⟨a,e,h1,hc⟩:=h.row i x hi;exact ⟨a,e,h1,(hC.cell (by rw [mE];omega)).trans hc⟩,h.le,h.cap,h.len,h.digs⟩
theorem dK.grew {base : Nat} (h : dK w b A n cap xs) (hG : Ik w w' base) (hb : b ≤ base) : dK w' b A n cap xs :=
 ⟨h.eq,fun i x hi=>by
  obtain ⟨a,e,h1,hc⟩:=h.row i x hi;exact ⟨a,e,h1,(World.cell?_of_block (hG.block _ (by rw [mE];omega))).trans hc⟩,h.le,h.cap,h.len,h.digs⟩
theorem dK.take (h : dK w b A n cap xs) (k : Nat) : dK w b A (xs.take k).length cap (xs.take k) :=
 ⟨rfl,fun i x hi=>h.row i x (by rw [List.getElem?_take] at hi;split at hi;exact hi;cases hi),Nat.le_trans (by simp;omega) h.le,h.cap,Nat.le_trans (by simp;omega) h.len,h.digs.take k⟩
theorem dK.get (h : dK w b A n cap xs) {i : Nat} (hi : i < xs.length) : ∃ a,A = some a ∧ w.cell? (a.add i) = some (.int .i64 ((xs[i] : Nat) : Int)) ∧ xs[i] < 65536:=by
 obtain ⟨a,e,_,hc⟩:=h.row i xs[i] (List.getElem?_eq_getElem hi);exact ⟨a,e,hc,h.digs _ (List.getElem_mem hi)⟩
theorem dK.at {a : Addr} (h : dK w b (some a) n cap xs) {i : Nat} (hi : i < xs.length) : w.cell? (a.add i) = some (.int .i64 ((xs[i] : Nat) : Int)):=by
 obtain ⟨a',e,hc,_⟩:=h.get hi;cases e;exact hc
theorem dK.lt (h : dK w b A n cap xs) {i : Nat} (hi : i < xs.length) : xs[i] < 65536:=h.digs _ (List.getElem_mem hi)
theorem dK.nil (w : World) (b : Nat) : dK w b none 0 0 []:=⟨rfl,fun i x hi=>by simp at hi,Nat.le_refl _,by omega,by simp,fun x hx=>by cases hx⟩
theorem dK.of_blk {g : Nat} {os : List Nat} {t : TypeId} (h : fQ w g (os.map tJ) t) (hd : cJ 65536 os) (hn : n = os.length) (hl : n ≤ 17592186044416) : dK w w.heap.size (some ⟨g,0,none⟩) n n os :=
 ⟨hn,fun i x hi=>⟨_,rfl,h.lt,by rw [fC,Nat.zero_add];exact h.cell (by simp [hi])⟩,by omega,by omega,by omega,hd⟩
theorem dK.of_owns {base : Nat} {v : Value} {E : TypeId} (h : jG w base E 1 v n (xs.map tJ)) (hn : n = xs.length) (hd : cJ 65536 xs) (hl : n ≤ 17592186044416) : ∃ A c,v = .slice A n c ∧ dK w w.heap.size A n c xs ∧ ∀ a,A = some a → base ≤ a.block:=by
 rcases h.row with ⟨rfl,rfl,hx⟩ | ⟨g,cap,rfl,hb,h1,h2,hg,hr⟩
 · obtain rfl : xs = []:=by simpa using hx
   exact ⟨none,0,rfl,dK.nil _ _,fun _ e=>by cases e⟩
 · exact ⟨_,cap,rfl,⟨hn,fun i x hi=>⟨_,rfl,hg,hr i _ (by simp [hi])⟩,by omega,h2,by omega,hd⟩,fun a e=>by cases e;exact hb⟩
end
theorem jG.snoc {w : World} {b : Nat} {E : TypeId} {v : Value} {os : List Nat} {x : Nat} (h : jG w b E 1 v (os.length + 1) (os.map tJ ++ [.int .i64 (x : Int)])) : jG w b E 1 v (os ++ [x]).length ((os ++ [x]).map tJ):=by simpa using h
def pN (n : Nat) (v : Value) (w : World) : Prop:=∃ A cap,v = .slice A (digs 65536 n).length cap ∧ dK w w.heap.size A (digs 65536 n).length cap (digs 65536 n)
def acd (n k : Nat) (v : Value) (w : World) : Prop:=∃ A cap os,v = .slice A os.length cap ∧ dK w w.heap.size A os.length cap os ∧ val 65536 os = n ∧ os.length ≤ k
theorem pN.of_trim {w : World} {b : Nat} {A : Option Addr} {xs : List Nat} {k cap n : Nat} (h : dK w b A k cap xs) (hv : val 65536 xs = n) : pN n (.slice A (trim xs).length cap) w:=by
 have e : trim xs = digs 65536 n:=kD (by omega) h.digs hv;refine ⟨A,cap,by rw [e],?_⟩;rw [← e];have:=(h.take (trim xs).length).here;rwa [← gM] at this
theorem pN.self {w : World} {b : Nat} {A : Option Addr} {xs : List Nat} {k cap : Nat} (h : dK w b A k cap xs) (t : eY xs) : pN (val 65536 xs) (.slice A k cap) w:=by
 have e : xs = digs 65536 (val 65536 xs):=by rw [← kD (by omega) h.digs rfl,t]
 refine ⟨A,cap,by rw [h.eq,← e],?_⟩;rw [← e,← h.eq];exact h.here
theorem Em (n : Nat) : List.replicate n (Value.int .i64 0) = (List.replicate n 0).map tJ:=by simp [tJ]
theorem xB {os : List Nat} {i d : Nat} (hi : i < os.length) : bB (os.map tJ) i [tJ d] = (os.set i d).map tJ:=by
 simp only[bB,List.length_singleton];apply List.ext_getElem?;intro j;rcases Nat.lt_trichotomy j i with h | h | h
 · rw [List.getElem?_append_left (by simp;omega),List.getElem?_append_left (by simp;omega)]
   simp [h,List.getElem?_set_ne (Nat.ne_of_gt h)]
 · subst h
   rw [List.getElem?_append_left (by simp;omega),List.getElem?_append_right (by simp;omega)];have e : j - min j os.length = 0:=by omega
   simp [hi,e]
 · rw [List.getElem?_append_right (by simp;omega)]
   simp only[List.length_append,List.length_take,List.length_map,List.length_singleton,List.getElem?_drop,List.getElem?_map];rw [List.getElem?_set_ne (by omega)]
   congr 2
   omega
theorem fQ.digit {w : World} {g : Nat} {os : List Nat} {t : TypeId} (h : fQ w g (os.map tJ) t) {i : Nat} (hi : i < os.length) : w.cell? ⟨g,i,none⟩ = some (.int .i64 ((os[i] : Nat) : Int)) :=
 h.cell (by simp [hi])
theorem gJ (n : Nat) : val 65536 (digs 65536 n) = n:=mW (by omega) n
theorem tK (n : Nat) : eY (digs 65536 n):=lM (by omega) n
theorem Le (n : Nat) : cJ 65536 (digs 65536 n):=nU (by omega) n
theorem xC {m n : Nat} (h : m ≤ n) : (digs 65536 m).length ≤ (digs 65536 n).length:=by
 refine dO (by omega) (Nat.lt_of_le_of_lt h ?_);have:=iB (Le n);rwa [gJ] at this
theorem qR {k : Nat} {V : Nat} (h : V < 2 ^ k) : (digs 65536 V).length ≤ k:=by
 refine dO (by omega) (Nat.lt_of_lt_of_le h ?_);rw [show (65536 : Nat) = 2 ^ 16 from rfl,← Nat.pow_mul];exact Nat.pow_le_pow_right (by omega) (by omega)
theorem Lf {m n : Nat} (h : m < 9223372036854775808) : IntKind.i64.wrap ((m : Int).tdiv (n : Int)) = ((m / n : Nat) : Int):=lQ h
section
variable {P : Program} {ds : List Deferred} {l : List Value} {T ty : TypeId}
variable {ops : Array Oper} {Q : Exit → Act → World → Prop} {rest : List Oper} {d : Nat} {pos : String} {after : Array Edge} {w : World}
end
theorem rU {os xs ys : List Nat} {i c s : Nat} (hl : os.length = i) (hv : val 65536 os + 65536 ^ i * c = val 65536 (xs.take i) + val 65536 (ys.take i)) (hd : cJ 65536 os)
 (hs : s = c + xs[i]?.getD 0 + ys[i]?.getD 0) :
 val 65536 (os ++ [s % 65536]) + 65536 ^ (i + 1) * (s / 65536) = val 65536 (xs.take (i + 1)) + val 65536 (ys.take (i + 1)) ∧ cJ 65536 (os ++ [s % 65536]):=by
 refine ⟨?_,hd.append (pV (Nat.mod_lt _ (by omega)) (jV _))⟩;have ht : ∀ l : List Nat,val 65536 (l.take (i + 1)) = val 65536 (l.take i) + 65536 ^ i * l[i]?.getD 0:=fun l=>by
  rcases Nat.lt_or_ge i l.length with h | h
  · rw [bX h,List.getElem?_eq_getElem h];rfl
  · rw [List.take_of_length_le (by omega),List.take_of_length_le h,List.getElem?_eq_none h];simp
 rw [ht xs,ht ys,dW,hl];simp only[val,Nat.mul_zero,Nat.add_zero];have e : s = s % 65536 + 65536 * (s / 65536):=by omega
 rw [Nat.pow_succ];generalize s / 65536 = q at *
 generalize s % 65536 = r at *
 generalize 65536 ^ i = p at *
 generalize xs[i]?.getD 0 = x at *
 generalize ys[i]?.getD 0 = y at *
 subst hs;have e2 : p * (c + x + y) = p * r + p * 65536 * q:=by rw [e];grind
 grind
theorem pB {os xs ys : List Nat} {i c s b : Nat} (hi : i < xs.length) (hl : os.length = i) (hv : val 65536 os + val 65536 (ys.take i) = val 65536 (xs.take i) + 65536 ^ i * c) (hd : cJ 65536 os)
 (hs : s + ys[i]?.getD 0 + c = xs[i] + 65536 * b) (h16 : s < 65536) :
 val 65536 (os ++ [s]) + val 65536 (ys.take (i + 1)) = val 65536 (xs.take (i + 1)) + 65536 ^ (i + 1) * b ∧ cJ 65536 (os ++ [s]):=by
 refine ⟨?_,hd.append (pV h16 (jV _))⟩;have ht : val 65536 (ys.take (i + 1)) = val 65536 (ys.take i) + 65536 ^ i * ys[i]?.getD 0:=by
  rcases Nat.lt_or_ge i ys.length with h | h
  · rw [bX h,List.getElem?_eq_getElem h];rfl
  · rw [List.take_of_length_le (by omega),List.take_of_length_le h,List.getElem?_eq_none h];simp
 rw [ht,bX hi,dW,hl];simp only[val,Nat.mul_zero,Nat.add_zero];rw [Nat.pow_succ];generalize 65536 ^ i = p at *
 generalize ys[i]?.getD 0 = y at *
 generalize xs[i] = x at *
 have e2 : p * (s + y + c) = p * x + p * 65536 * b:=by rw [hs];grind
 grind
theorem Si {os xs ys : List Nat} {c : Nat} (hle : ys.length ≤ xs.length) (hl : os.length = xs.length) (hd : cJ 65536 os) (hv : val 65536 os + val 65536 (ys.take xs.length) = val 65536 (xs.take xs.length) + 65536 ^ xs.length * c) (hge : val 65536 ys ≤ val 65536 xs) : val 65536 os = val 65536 xs - val 65536 ys:=by
 rw [List.take_length,List.take_of_length_le hle] at hv;have h1:=iB hd;rw [hl] at h1;rcases Nat.eq_zero_or_pos c with h | h
 · subst h;omega
 · have : 65536 ^ xs.length * 1 ≤ 65536 ^ xs.length * c:=Nat.mul_le_mul_left _ h
   omega
theorem Nu {os : List Nat} {i d c c' s t T : Nat} (hi : i < os.length) (hs : os[i] + s + c = d + 65536 * c') (hT : val 65536 os + 65536 ^ i * c = T) (ht : T + 65536 ^ i * s = t) :
 val 65536 (os.set i d) + 65536 ^ (i + 1) * c' = t:=by
 have h:=jQ (B:=65536) (d:=d) hi;rw [Nat.pow_succ];generalize 65536 ^ i = p at *
 have e : p * (os[i] + s + c) = p * d + p * 65536 * c':=by rw [hs];grind
 grind
theorem Lg {os xs ys : List Nat} {i k c s : Nat} (hi : i < xs.length) (hk : k < ys.length) (hlo : os.length = xs.length + ys.length) (hv : val 65536 os + 65536 ^ (i + k) * c = val 65536 (xs.take i) * val 65536 ys + 65536 ^ i * (xs[i] * val 65536 (ys.take k)))
 (hs : s = os[i + k] + xs[i] * ys[k] + c) : val 65536 (os.set (i + k) (s % 65536)) + 65536 ^ (i + (k + 1)) * (s / 65536) = val 65536 (xs.take i) * val 65536 ys + 65536 ^ i * (xs[i] * val 65536 (ys.take (k + 1))):=by
 refine Nu (s:=xs[i] * ys[k]) (i:=i + k) (by omega) (by omega) hv ?_;rw [bX hk,Nat.pow_add]
 grind
theorem Sj {os xs ys : List Nat} {i c : Nat} (hi : i < xs.length) (hlo : os.length = xs.length + ys.length) (hv : val 65536 os + 65536 ^ (i + ys.length) * c = val 65536 (xs.take i) * val 65536 ys + 65536 ^ i * (xs[i] * val 65536 (ys.take ys.length))) (hz : os.drop (i + ys.length) = List.replicate (xs.length - i) 0) :
 val 65536 (os.set (i + ys.length) c) = val 65536 (xs.take (i + 1)) * val 65536 ys ∧ (os.set (i + ys.length) c).drop (i + 1 + ys.length) = List.replicate (xs.length - (i + 1)) 0:=by
 obtain ⟨z1,z2⟩:=fX hz (by omega);have h:=jQ (B:=65536) (d:=c) (show i + ys.length < os.length by omega);rw [z1] at h;rw [List.take_length] at hv;refine ⟨?_,?_⟩
 · rw [bX hi]
   grind
 · rw [show i + 1 + ys.length = i + ys.length + 1 by omega,iM,z2]
   congr 1
theorem Lh {x y : Nat} (hx : x < 65536) (hy : y < 65536) : x * y ≤ 4294836225:=by
 have:=Nat.mul_le_mul (Nat.le_sub_one_of_lt hx) (Nat.le_sub_one_of_lt hy);omega
theorem Sk {x y : Nat} (hx : x < 65536) (hy : y < 65536) : (0 : Int) ≤ (x : Int) * (y : Int) ∧ (x : Int) * (y : Int) ≤ 4294836225:=by
 have:=Lh hx hy;rw [← Int.natCast_mul];omega
theorem Li {xs ys : List Nat} {k : Nat} (hx : cJ 65536 xs) (hk : 0 < k) (hlx : k - 1 < xs.length) (hly : k - 1 < ys.length) (hd : xs.drop k = ys.drop k) (h : ((xs[k-1] : Nat) : Int) < ((ys[k-1] : Nat) : Int)) : val 65536 xs < val 65536 ys :=
 uP (by omega) hx hlx hly (by rw [show k - 1 + 1 = k by omega];exact hd) (by omega)
theorem Xe {xs ys : List Nat} {k : Nat} (hk : 0 < k) (hlx : k - 1 < xs.length) (hly : k - 1 < ys.length) (hd : xs.drop k = ys.drop k) (h1 : ((xs[k-1] : Nat) : Int) = ((ys[k-1] : Nat) : Int)) : xs.drop (k - 1) = ys.drop (k - 1):=by
 rw [List.drop_eq_getElem_cons hlx,List.drop_eq_getElem_cons hly,show k - 1 + 1 = k by omega,hd,show xs[k-1] = ys[k-1] by omega]
end Go.Lith
namespace Go.Lith
open Go.RowKit
theorem ace (k : Nat) : (65536 : Nat) ^ k = 256 ^ (2 * k):=by rw [show (65536 : Nat) = 256 ^ 2 from rfl,← Nat.pow_mul]
theorem xD {os bs : List Nat} {k d : Nat} (hl : os.length = k) (hv : val 65536 os = val 256 (bs.take (2 * k))) (h : 2 * k < bs.length) (hd : d = bs[2 * k] + 256 * (bs[2 * k + 1]?.getD 0)) (hb : cJ 256 bs) (ho : cJ 65536 os) :
 val 65536 (os ++ [d]) = val 256 (bs.take (2 * (k + 1))) ∧ cJ 65536 (os ++ [d]):=by
 have h1:=hb _ (List.getElem_mem h);have h2 : bs[2 * k + 1]?.getD 0 < 256:=by
  rcases Nat.lt_or_ge (2 * k + 1) bs.length with h | h
  · rw [List.getElem?_eq_getElem h];exact hb _ (List.getElem_mem h)
  · rw [List.getElem?_eq_none h];decide
 refine ⟨?_,ho.append (pV (by omega) (jV _))⟩;have ht : val 256 (bs.take (2 * k + 1 + 1)) = val 256 (bs.take (2 * k + 1)) + 256 ^ (2 * k + 1) * bs[2 * k + 1]?.getD 0:=by
  rcases Nat.lt_or_ge (2 * k + 1) bs.length with h | h
  · rw [bX h,List.getElem?_eq_getElem h];rfl
  · rw [List.take_of_length_le (by omega),List.take_of_length_le h,List.getElem?_eq_none h];simp
 rw [show 2 * (k + 1) = 2 * k + 1 + 1 by omega,ht,bX h,dW,hl,hv,ace,Nat.pow_succ];simp only[val,Nat.mul_zero,Nat.add_zero];subst hd;generalize 256 ^ (2 * k) = p
 grind
def Pg (x : Nat) : List UInt8:=[UInt8.ofNat (x / 256),UInt8.ofNat x]
theorem Dd (ys : List Nat) (h : cJ 65536 ys) : val 256 (((ys.reverse.flatMap Pg).reverse).map UInt8.toNat) = val 65536 ys ∧ cJ 256 (((ys.reverse.flatMap Pg).reverse).map UInt8.toNat):=by
 induction ys with
 | nil=>exact ⟨rfl,fun _ h=>by cases h⟩
 | cons y ys ih =>
  have hy:=h y (by simp);obtain ⟨i1,i2⟩:=ih (fun x hx=>h x (by simp [hx]));have e : (((y :: ys).reverse.flatMap Pg).reverse).map UInt8.toNat = [y % 256,y / 256 % 256] ++ (((ys.reverse.flatMap Pg).reverse).map UInt8.toNat):=by
   simp [List.flatMap_append,Pg,UInt8.toNat_ofNat']
  rw [e];refine ⟨?_,?_⟩
  · rw [dW,i1]
    simp only[val,List.length_cons,List.length_nil];omega
  · refine cJ.append ?_ i2
    intro x hx;simp at hx;omega
theorem Lj {ys : List Nat} (h : cJ 65536 ys) (neg : Bool) : kI (gG (ys.reverse.flatMap Pg)) = lN (Eb neg (val 65536 ys)):=by
 obtain ⟨h1,h2⟩:=Dd ys h;rw [yK,kD (by omega) h2 h1,lN,vE,jP];rfl
def kS (ys : List Nat) (k : Nat) : List UInt8:=gG ((ys.drop k).reverse.flatMap Pg)
theorem Hy {l m : List UInt8} (h : gG l ≠ []) : gG (l ++ m) = gG l ++ m:=by
 induction l with
 | nil=>exact absurd rfl h
 | cons b l ih =>
  by_cases hb : b = 0
  · subst hb
    have e : gG (0 :: l) = gG l:=by simp [gG]
    have e2 : gG ((0 :: l) ++ m) = gG (l ++ m):=by simp [gG]
    rw [e] at h;rw [e,e2,ih h]
  · simp [gG,hb]
theorem Nv {ys : List Nat} {k : Nat} (hk : 0 < k) (hl : k - 1 < ys.length) (h : kS ys k ≠ []) : kS ys (k - 1) = kS ys k ++ [UInt8.ofNat (ys[k - 1] / 256)] ++ [UInt8.ofNat (ys[k - 1] % 256)] ∧ kS ys (k - 1) ≠ []:=by
 have e : kS ys (k - 1) = kS ys k ++ [UInt8.ofNat (ys[k - 1] / 256)] ++ [UInt8.ofNat (ys[k - 1] % 256)]:=by
  unfold kS at *
  rw [List.drop_eq_getElem_cons hl,show k - 1 + 1 = k by omega,List.reverse_cons,List.flatMap_append,Hy h];have : UInt8.ofNat (ys[k - 1] % 256) = UInt8.ofNat (ys[k - 1]):=by
   apply UInt8.toNat_inj.1;simp [UInt8.toNat_ofNat']
  rw [this];simp [Pg]
 exact ⟨e,by rw [e];simp⟩
theorem Lk {ys : List Nat} (hl : ys.length - 1 < ys.length) (h0 : 0 < ys[ys.length - 1]) (h16 : ys[ys.length - 1] < 65536) :
 kS ys (ys.length - 1) = (if 256 ≤ ys[ys.length - 1] then [UInt8.ofNat (ys[ys.length - 1] / 256)] else []) ++ [UInt8.ofNat (ys[ys.length - 1] % 256)] ∧ kS ys (ys.length - 1) ≠ []:=by
 have e : kS ys (ys.length - 1) = gG (Pg (ys[ys.length - 1])):=by
  unfold kS;rw [List.drop_eq_getElem_cons hl,show ys.length - 1 + 1 = ys.length by omega,List.drop_length];simp
 generalize ys[ys.length - 1] = x at *
 have hm : UInt8.ofNat (x % 256) = UInt8.ofNat x:=by
  apply UInt8.toNat_inj.1;simp [UInt8.toNat_ofNat']
 have ez : ∀ y : Nat,y < 256 → (UInt8.ofNat y = 0 ↔ y = 0):=fun y hy=>by
  rw [← UInt8.toNat_inj];simp only[UInt8.toNat_ofNat',UInt8.toNat_zero];rw [Nat.mod_eq_of_lt (by omega)]
 have e2 : gG (Pg x) = (if 256 ≤ x then [UInt8.ofNat (x / 256)] else []) ++ [UInt8.ofNat (x % 256)]:=by
  split
  · rename_i h
    have hn : ¬ UInt8.ofNat (x / 256) = 0:=fun e=>by have:=(ez _ (by omega)).1 e;omega
    rw [hm];simp [gG,Pg,hn]
  · rename_i h
    have hz : UInt8.ofNat (x / 256) = 0:=(ez _ (by omega)).2 (by omega);have hn : ¬ UInt8.ofNat x = 0:=fun e=>by have:=(ez _ (by omega)).1 e;omega
    rw [hm];simp [gG,Pg,hz,hn]
 exact ⟨e.trans e2,by rw [e,e2];simp⟩
theorem Ge (ys : List Nat) : kS ys ys.length = []:=by unfold kS;rw [List.drop_length];rfl
theorem Nw {ys : List Nat} (h : cJ 65536 ys) (neg : Bool) : kI (kS ys 0) = lN (Eb neg (val 65536 ys)):=by
 unfold kS;rw [List.drop_zero];exact Lj h neg
theorem Sl (ys : List Nat) (k : Nat) : (kS ys k).length ≤ 2 * ys.length:=by
 have h1 : ∀ l : List UInt8,(gG l).length ≤ l.length:=fun l=>by
  induction l with
  | nil=>simp [gG]
  | cons b l ih =>
   unfold gG at *
   rw [List.dropWhile_cons];split
   · simp;omega
   · simp
 have h2 : ∀ l : List Nat,(l.flatMap Pg).length = 2 * l.length:=fun l=>by
  induction l with
  | nil=>rfl
  | cons x l ih=>rw [List.flatMap_cons,List.length_append,ih];simp [Pg];omega
 refine Nat.le_trans (h1 _) ?_;rw [h2];simp;omega
theorem jG.snoc8 {w : World} {b : Nat} {E : TypeId} {v : Value} {os : List UInt8} {x : Nat} (h : jG w b E 1 v (os.length + 1) (os.map Yx ++ [.int .u8 (x : Int)])) (hx : x < 256) : jG w b E 1 v (os ++ [UInt8.ofNat x]).length ((os ++ [UInt8.ofNat x]).map Yx):=by
 have : Yx (UInt8.ofNat x) = .int .u8 (x : Int):=by simp only[Yx,UInt8.toNat_ofNat',Value.int.injEq,true_and];rw [Nat.mod_eq_of_lt (by omega)]
 rw [List.map_append,List.map_singleton,this,List.length_append];exact h
theorem tL {x : Nat} (h : x < 256) : IntKind.u8.wrap (x : Int) = (x : Int):=Yk (by omega) (by omega)
theorem De {os : List Nat} {m V : Nat} (hv : val 65536 os + 65536 ^ os.length * m = V) (hd : cJ 65536 os) (h2 : m < 2 ^ (64 - os.length)) (h3 : os.length ≤ 64) (h0 : 0 < m) :
 val 65536 (os ++ [m % 65536]) + 65536 ^ (os ++ [m % 65536]).length * (m / 65536) = V ∧ cJ 65536 (os ++ [m % 65536]) ∧ m / 65536 < 2 ^ (64 - (os ++ [m % 65536]).length) ∧ (os ++ [m % 65536]).length ≤ 64:=by
 have hl : os.length < 64:=by
  rcases Nat.lt_or_ge os.length 64 with h | h
  · exact h
  · rw [show 64 - os.length = 0 by omega] at h2;omega
 refine ⟨?_,hd.append (pV (Nat.mod_lt _ (by omega)) (jV _)),?_,by simp;omega⟩
 · rw [dW,List.length_append,List.length_singleton,Nat.pow_succ]
   simp only[val,Nat.mul_zero,Nat.add_zero];have e : m = m % 65536 + 65536 * (m / 65536):=by omega
   generalize m / 65536 = q at *
   generalize m % 65536 = r at *
   generalize 65536 ^ os.length = p at *
   subst e
   grind
 · rw [List.length_append,List.length_singleton]
   have e : 2 ^ (64 - os.length) = 2 * 2 ^ (64 - (os.length + 1)):=by rw [← Nat.pow_succ'];congr 1;omega
   rw [e] at h2;omega
end Go.Lith
namespace Go.Lith
open Go.RowKit
end Go.Lith
namespace Go.Lith
open Go.RowKit
instance (a : Int) : Decidable (nO a):=inferInstanceAs (Decidable (_ ∧ _))
def Sn (a : Int) : Int:=if nO a then a else 0
theorem So {a : Int} {X : Nat} (h : X = a.natAbs) : (gI a = true ∧ X ≤ 9223372036854775808 ∧ nO a ∧ a = -(X : Int)) ∨ (gI a = true ∧ 9223372036854775808 < X ∧ ¬ nO a) ∨
 (gI a = false ∧ 9223372036854775808 ≤ X ∧ ¬ nO a) ∨ (gI a = false ∧ X < 9223372036854775808 ∧ nO a ∧ a = (X : Int)):=by
 unfold nO gI;rcases Int.lt_or_le a 0 with h0 | h0
 · rw [decide_eq_true h0]
   rcases Nat.lt_or_ge 9223372036854775808 X with h1 | h1
   · exact .inr (.inl ⟨rfl,h1,by omega⟩)
   · exact .inl ⟨rfl,h1,by omega,by omega⟩
 · rw [decide_eq_false (by omega)]
   rcases Nat.lt_or_ge X 9223372036854775808 with h1 | h1
   · exact .inr (.inr (.inr ⟨rfl,h1,by omega,by omega⟩))
   · exact .inr (.inr (.inl ⟨rfl,h1,by omega⟩))
theorem Nx {a : Int} (h : ¬ nO a) : Value.tuple #[.int .i64 0,.bool false] = .tuple #[.int .i64 (Sn a),.bool (decide (nO a))]:=by rw [Sn,if_neg h,decide_eq_false h]
theorem Ph {a n : Int} (h : nO a) (e : n = a) : Value.tuple #[.int .i64 n,.bool true] = .tuple #[.int .i64 (Sn a),.bool (decide (nO a))]:=by rw [Sn,if_pos h,decide_eq_true h,e]
theorem Xf {X : Nat} (h : X ≤ 9223372036854775808) : IntKind.i64.wrap (IntKind.u64.wrap (0 - (X : Int))) = -(X : Int):=by
 rw [fY];simp [IntKind.wrap,IntKind.bits,IntKind.signed];split <;> omega
end Go.Lith
namespace Go.Lith
open Go.RowKit
def qS (p q : P3) : Nat:=((q.sub p).dot (q.sub p)).natAbs
def tN (p q : P3) : Int:=(fI (qS p q) : Int) + if fI (qS p q) * fI (qS p q) = qS p q then 0 else 1
def mA : List Mv → Int → Option Int
 | [],n=>some n
 | m :: ms,n=>if nO (tN m.1 m.2) then mA ms (max n (tN m.1 m.2)) else none
def nN (fine coarse : List T3) (ms : List Mv) : Int × Int :=
 if eA true fine ≠ 0 then (0,eA true fine)
 else if eA true coarse ≠ 0 then (0,eA true coarse)
 else if aS fine ≠ aS coarse then (0,30)
 else if pL fine coarse (aS fine) = true ∨ wV fine coarse (aS fine) = false then (0,30)
 else if oM fine coarse ms (aS fine) = false then (0,31)
 else if pM fine coarse ms = false then (0,32)
 else match mA ms 0 with
  | some n=>(n,0)
  | none=>(0,3)
/-! ### What CheckOpen says -/
theorem xE {ts : List T3} (h : eA true ts = 0) : Pc ts ∧ (bH ts).Nodup:=by
 unfold eA at h;split at h
 · cases h
 · rename_i h1
   split at h
   · cases h
   · rename_i h2
     refine ⟨fun t ht=>?_,?_⟩
     · cases hd : wI t with
       | false=>rfl
       | true=>exact absurd (List.any_eq_true.2 ⟨t,ht,hd⟩) h1
     · rw [Hq] at h2
       exact Decidable.not_not.1 fun k=>h2 (decide_eq_true k)
/-! ### One far move -/
end Go.Lith
namespace Go.Proofs.YtfohfflkhpfjeaaGreatDoor
open Go.Proofs.Tryz
open Go.RowKit Go.Lith
set_option maxRecDepth 100000
attribute [local irreducible] wpList wpQuiet dD cO cF Code.wp
theorem Df {ts : List T3} {N cap : Nat} {A : Option Addr} (w : World) (hT : dZ w A N ts) (hN : N ≤ 300000) : eE prog 71 [.slice A N cap] w (OR 48 3 (fun xs=>∃ ps : List P3,xs = ps.flatMap nS ∧ Wf ps ∧ ∀ a,a ∈ ps ↔ a ∈ cY ts) w):=by
 refine ⟨adz,?_⟩;have m:=bS.refl w
 go_enter func71,ntmps71
 refine aC fun K1 k1=>wp_region_lit (aA (aF) (aD (k1 _ _ ?_)));refine aC fun K2 k2=>wp_region_lit ?_;simp only[zz];refine jL m ?_;clear m;intro q8 u m;have hD8:=bZ.nil (K:=P3) (V:=Bool) pt Value.bool;refine aA (aF) (aD (k2 _ _ ?_));refine aC fun K3 k3=>aC fun K4 k4=>wp_region_lit (aA (aB) (aA (bC rfl cC rfl) ?_));simp only[zz];refine aA (aB) (aD (k4 _ _ ?_));refine wp_block ?_;simp only[zz];try simp only[Nat.zero_add,Nat.reduceAdd,Nat.reduceMul,Int.reduceToNat]
 refine bN [11] [5,7,12,13,14,15,16,17,18,19,20,21,22,23] (fun n vs wl=>∃ (k : Nat) (es : Array MapEntry) (c : Nat),vs = [.int .i64 (k:Int)] ∧ bS w wl [mI q8 es c] ∧ (bZ pt Value.bool (tA [] (cY (ts.take k))) es c) ∧ (k ≤ N) ∧ (n = N - k)) ?_ ?_
 ·
  apply Exists.intro;simp only[zQ,zR,zD,zE];exact ⟨0,_,_,rfl,m,hD8,Nat.zero_le _,rfl⟩
 ·
  intro n vs wr hI u;clear m;obtain ⟨k,es,c,rfl,m,hD8,hk,hn⟩:=hI;simp only[zu,zF,zG];refine aC fun K5 k5=>wp_region_lit (aA (cS rfl rfl) (aD (k5 _ _ ?_)));refine aC fun K6 k6=>?_;simp only[zz];refine cD rfl (fun hc1=>?_) (fun hc1=>?_)
  ·
   obtain ⟨t,ht,_,a,rfl,hrow⟩:=hT.get (i:=k) (by omega);refine wp_skip (k6 _ _ ?_);refine aC fun K7 k7=>wp_block (aC fun K8 k8=>wp_region_lit (aA (aL cC aV rfl rfl (by omega) (by omega) (dP (Int.toNat_natCast _))) ?_));simp only[zz];refine aI rfl (((hrow.ext m.ext)).lies eJ aV) ?_;simp only[zz];refine aY m iR rfl ?_;clear m;intro g2 u m;simp only[zz];refine aQ m 0 rfl rfl rfl aV (dH rfl) rfl ?_;clear m;intro u m;simp only[zy,zx,bB,zF,zG,Nat.reduceAdd] at m;refine aD (k8 _ _ ?_);refine aC fun K9 k9=>wp_region_lit (aI rfl ((m.b 0 rfl).full eJ aV) ?_);simp only[zz];refine aA (aB) (aD (k9 _ _ ?_));refine wp_block (wp_loop_rounds 4 (dQ (aC fun K10 k10=>wp_region_lit (aA (bT (m:=0) (n:=3) rfl rfl (by decide)) (aD (k10 _ _ ?_))))));refine aC fun K11 k11=>cG rfl (wp_skip (k11 _ _ ?_));refine aC fun K12 k12=>wp_block (aC fun K13 k13=>wp_region_lit (aA (jD rfl rfl) ?_));simp only[zz];refine aY m bK rfl ?_;clear m;intro g3 u m;simp only[zz];refine aQ m 0 rfl rfl rfl aG (dH rfl) rfl ?_;clear m;intro u m;simp only[zy,zx,bB,zF,zG,Nat.reduceAdd] at m;refine aD (k13 _ _ ?_);refine wp_region_lit (aA (aB) ?_);simp only[zz];refine aI rfl ((m.b 0 rfl).full aK aG) ?_;simp only[zz];refine rM m 2 Mr rfl rfl (fun m=>Nq (p:=t.a) m 2 rfl hD8) ?_;clear m;rintro v i u m ⟨rfl,es',c',rfl,hD'⟩;simp only[zF,zG] at m;simp only[zz];clear hD8;have hD8:=hD';clear hD';refine aD (k12 _ _ ?_);refine wp_region_lit (aA (aR (m:=0) (n:=1) (r:=1) rfl rfl (by decide)) (aA (aB) (aD (aU (aC fun K14 k14=>wp_region_lit (aA (bT (m:=1) (n:=3) rfl rfl (by decide)) (aD (k14 _ _ ?_))))))));refine aC fun K15 k15=>cG rfl (wp_skip (k15 _ _ ?_));refine aC fun K16 k16=>wp_block (aC fun K17 k17=>wp_region_lit (aA (jE rfl rfl) ?_));simp only[zz];refine aY m bK rfl ?_;clear m;intro g4 u m;simp only[zz];refine aQ m 0 rfl rfl rfl aG (dH rfl) rfl ?_;clear m;intro u m;simp only[zy,zx,bB,zF,zG,Nat.reduceAdd] at m;refine aD (k17 _ _ ?_);refine wp_region_lit (aA (aB) ?_);simp only[zz];refine aI rfl ((m.b 0 rfl).full aK aG) ?_;simp only[zz];refine rM m 3 Mr rfl rfl (fun m=>Nq (p:=t.b) m 3 rfl hD8) ?_;clear m;rintro v i u m ⟨rfl,es',c',rfl,hD'⟩;simp only[zF,zG] at m;simp only[zz];clear hD8;have hD8:=hD';clear hD';refine aD (k16 _ _ ?_);refine wp_region_lit (aA (aR (m:=1) (n:=1) (r:=2) rfl rfl (by decide)) (aA (aB) (aD (aU (aC fun K18 k18=>wp_region_lit (aA (bT (m:=2) (n:=3) rfl rfl (by decide)) (aD (k18 _ _ ?_))))))));refine aC fun K19 k19=>cG rfl (wp_skip (k19 _ _ ?_));refine aC fun K20 k20=>wp_block (aC fun K21 k21=>wp_region_lit (aA (jF rfl rfl) ?_));simp only[zz];refine aY m bK rfl ?_;clear m;intro g5 u m;simp only[zz];refine aQ m 0 rfl rfl rfl aG (dH rfl) rfl ?_;clear m;intro u m;simp only[zy,zx,bB,zF,zG,Nat.reduceAdd] at m;refine aD (k21 _ _ ?_);refine wp_region_lit (aA (aB) ?_);simp only[zz];refine aI rfl ((m.b 0 rfl).full aK aG) ?_;simp only[zz];refine rM m 4 Mr rfl rfl (fun m=>Nq (p:=t.c) m 4 rfl hD8) ?_;clear m;rintro v i u m ⟨rfl,es',c',rfl,hD'⟩;simp only[zF,zG] at m;simp only[zz];clear hD8;have hD8:=hD';clear hD';refine aD (k20 _ _ ?_);refine wp_region_lit (aA (aR (m:=2) (n:=1) (r:=3) rfl rfl (by decide)) (aA (aB) (aD (aU (aC fun K22 k22=>wp_region_lit (aA (eG (m:=3) (n:=3) rfl rfl (by decide)) (aD (k22 _ _ ?_))))))));refine aC fun K23 k23=>iT rfl (wp_exit (k7 _ _ ?_));refine wp_region_lit ?_;simp only[zz];refine aA (aR rfl rfl (aM (by omega) (by omega))) (aA (aB) (aD ?_));simp only[zz];simp only[Exit.inBlock,Exit.then];refine ⟨N - (k + 1),_,?_,rfl,?_,?_⟩
   · omega
   · simp only[zz,zv]
   ·
    simp only[zQ,zR,zD,zE];exact ⟨k + 1,_,_,rfl,(m.sel [false,false,false,false,true]),by rw [Nd ht];exact hD8,by omega,rfl⟩
  ·
   have hkN : k = N:=by omega
   rw [hkN,show ts.take N = ts from List.take_of_length_le (by rw [hT.len];exact Nat.le_refl _)] at hD8;refine wp_exit (k3 _ _ ?_);refine aC fun K24 k24=>wp_region_lit (aA (aB) ?_);simp only[zz];refine bE rfl rfl (Sd _ (m.p 0 rfl) hD8 (by have h1:=wS (cY ts) [];have h2:=wT ts;have h3:=hT.len;simp only[List.length_nil] at h1;omega)) ?_;rintro v u e ⟨A9,n9,cap9,_,rfl,hN,ps,rfl,hps,hso⟩;replace m:=m.newO e hN;clear e hN;refine aA (aF) (aD (k24 _ _ ?_));refine wp_ret ?_;simp only[zz];try simp only[Exit.inBlock,Exit.then,if_true]
   refine bP rfl rfl ?_;try simp only[zD,zE]
   exact ⟨_,rfl,m.ext,_,_,_,_,rfl,(m.o 0 rfl),ps,rfl,Ry (hps.nodup_iff.2 (yR _ _ .nil)) hso,fun a=>by rw [hps.mem_iff,Ft];simp⟩
end Go.Proofs.YtfohfflkhpfjeaaGreatDoor
namespace Go.Proofs.YtfohfflkhpfjeaaGreatDoor
open Go.Proofs.Tryz
open Go.RowKit Go.Lith
set_option maxRecDepth 100000
attribute [local irreducible] wpList wpQuiet dD cO cF Code.wp
theorem mB : pJ prog 57 ed:=by
 refine pJ.agg (cs:=fun p=>#[.int .i64 p.1.x,.int .i64 p.1.y,.int .i64 p.1.z,.int .i64 p.2.x,.int .i64 p.2.y,.int .i64 p.2.z]) (fun _=>rfl) jJ (fun e p=>?_) (fun p q=>?_) (fun p=>?_)
 ·
  refine pQ.array (d:=9999) jJ aG fun i hi=>?_;obtain rfl | rfl:=(by omega : i = 0 ∨ i = 1)
  ·
   refine ⟨_,eW aK aG rfl,?_⟩;refine pQ.struct (d:=9998) cB fun f hf=>?_;simp only[List.mem_cons,List.not_mem_nil,or_false] at hf;rcases hf with rfl | rfl | rfl
   · exact ⟨_,dG bF rfl,pQ.int (d:=9997) iN⟩
   · exact ⟨_,dG bF rfl,pQ.int (d:=9997) iN⟩
   · exact ⟨_,dG bF rfl,pQ.int (d:=9997) iN⟩
  ·
   refine ⟨_,eW aK aG rfl,?_⟩;refine pQ.struct (d:=9998) cB fun f hf=>?_;simp only[List.mem_cons,List.not_mem_nil,or_false] at hf;rcases hf with rfl | rfl | rfl
   · exact ⟨_,dG bF rfl,pQ.int (d:=9997) iN⟩
   · exact ⟨_,dG bF rfl,pQ.int (d:=9997) iN⟩
   · exact ⟨_,dG bF rfl,pQ.int (d:=9997) iN⟩
 · exact (Mz _).iff ⟨fun h=>Prod.ext (P3.eq (h.1) (h.2.1) (h.2.2.1)) (P3.eq (h.2.2.2.1) (h.2.2.2.2.1) (h.2.2.2.2.2)),fun h=>by subst h;simp only[and_self]⟩
 · simp [ed,Instr.sameBits]
theorem Dg {ts : List T3} {N cap : Nat} {A : Option Addr} (w : World) (hT : dZ w A N ts) (hN : N ≤ 10000000) : eE prog 70 [.slice A N cap] w (fun v w'=>∃ g es c,v = .map (some g) ∧ bS w w' [mI g es c] ∧ bZ ed Value.bool (fP [] (kK ts)) es c):=by
 refine ⟨ady,?_⟩;have m:=bS.refl w
 go_enter func70,ntmps70
 refine aC fun K1 k1=>wp_region_lit (aA (aF) (aD (k1 _ _ ?_)));refine aC fun K2 k2=>wp_region_lit ?_;simp only[zz];refine jL m ?_;clear m;intro q8 u m;have hD8:=bZ.nil (K:=E3) (V:=Bool) ed Value.bool;refine aA (aF) (aD (k2 _ _ ?_));refine aC fun K3 k3=>aC fun K4 k4=>wp_region_lit (aA (aB) (aA (bC rfl cC rfl) ?_));simp only[zz];refine aA (aB) (aD (k4 _ _ ?_));refine wp_block ?_;simp only[zz];try simp only[Nat.zero_add,Nat.reduceAdd,Nat.reduceMul,Int.reduceToNat]
 refine bN [13] [5,7,9,14,15,16,17,18,19,20,21,22,23,24,25,26,27,28,29,30,31] (fun n vs wl=>∃ (k : Nat) (es : Array MapEntry) (c : Nat),vs = [.int .i64 (k:Int)] ∧ bS w wl [mI q8 es c] ∧ (bZ ed Value.bool (fP [] (kK (ts.take k))) es c) ∧ (k ≤ N) ∧ (n = N - k)) ?_ ?_
 ·
  apply Exists.intro;simp only[zQ,zR,zD,zE];exact ⟨0,_,_,rfl,m,hD8,Nat.zero_le _,rfl⟩
 ·
  intro n vs wr hI u;clear m;obtain ⟨k,es8,c8,rfl,m,hD8,hk,hn⟩:=hI;simp only[zu,zF,zG];refine aC fun K5 k5=>wp_region_lit (aA (cS rfl rfl) (aD (k5 _ _ ?_)));refine aC fun K6 k6=>?_;simp only[zz];refine cD rfl (fun hc1=>?_) (fun hc1=>?_)
  ·
   obtain ⟨t,ht,_,a,rfl,hrow⟩:=hT.get (i:=k) (by omega);refine wp_skip (k6 _ _ ?_);refine aC fun K7 k7=>wp_block (aC fun K8 k8=>wp_region_lit (aA (aL cC aV rfl rfl (by omega) (by omega) (dP (Int.toNat_natCast _))) ?_));simp only[zz];refine aI rfl ((hrow.ext m.ext).lies eJ aV) ?_;simp only[zz];refine aY m iR rfl ?_;clear m;intro g2 u m;simp only[zz];refine aQ m 0 rfl rfl rfl aV (dH rfl) rfl ?_;clear m;intro u m;simp only[zy,zx,bB,zF,zG,Nat.reduceAdd] at m;refine aD (k8 _ _ ?_);refine aC fun K9 k9=>wp_region_lit (aI rfl ((m.b 0 rfl).full eJ aV) ?_);simp only[zz];refine aA (aB) (aD (k9 _ _ ?_));refine wp_block (wp_loop_rounds 4 (dQ (aC fun K10 k10=>wp_region_lit (aA (bT (m:=0) (n:=3) rfl rfl (by decide)) (aD (k10 _ _ ?_))))));refine aC fun K11 k11=>cG rfl (wp_skip (k11 _ _ ?_));refine aC fun K12 k12=>wp_block (aC fun K13 k13=>wp_region_lit (aA (jD rfl rfl) ?_));simp only[zz];refine aY m bK rfl ?_;clear m;intro g3 u m;simp only[zz];refine aQ m 0 rfl rfl rfl aG (dH rfl) rfl ?_;clear m;intro u m;simp only[zy,zx,bB,zF,zG,Nat.reduceAdd] at m;refine aD (k13 _ _ ?_);refine aC fun K14 k14=>wp_region_lit (aI rfl ((m.b 1 rfl).full eJ aV) ?_);simp only[zz];refine aA (aB) (aD (k14 _ _ ?_));refine wp_block (wp_loop_rounds 4 (dQ (aC fun K15 k15=>wp_region_lit (aA (bT (m:=0) (n:=3) rfl rfl (by decide)) (aD (k15 _ _ ?_))))));refine aC fun K16 k16=>cG rfl (wp_skip (k16 _ _ ?_));refine aC fun K17 k17=>wp_block (aC fun K18 k18=>wp_region_lit (aA (jD rfl rfl) ?_));simp only[zz];refine aY m bK rfl ?_;clear m;intro g4 u m;simp only[zz];refine aQ m 0 rfl rfl rfl aG (dH rfl) rfl ?_;clear m;intro u m;simp only[zy,zx,bB,zF,zG,Nat.reduceAdd] at m;refine aD (k18 _ _ ?_);refine wp_region_lit (aA (aB) ?_);simp only[zz];refine aI rfl ((m.b 1 rfl).full aK aG) ?_;simp only[zz];refine aI rfl ((m.b 0 rfl).full aK aG) ?_;simp only[zz];refine aA (cA rfl rfl) ?_;simp only[zz];refine eZ (ek:=ed) (en:=Value.bool) (a:=(t.a,t.a)) (v:=true) m 3 rfl mP mB rfl rfl rfl hD8 ?_;clear m;intro es8 c8 u m hD';clear hD8;have hD8:=hD';clear hD';simp only[zF,zG] at m;refine aD (k17 _ _ ?_);refine wp_region_lit (aA (aR (m:=0) (n:=1) (r:=1) rfl rfl (by decide)) (aA (aB) (aD (aU (aC fun K19 k19=>wp_region_lit (aA (bT (m:=1) (n:=3) rfl rfl (by decide)) (aD (k19 _ _ ?_))))))));refine aC fun K20 k20=>cG rfl (wp_skip (k20 _ _ ?_));refine aC fun K21 k21=>wp_block (aC fun K22 k22=>wp_region_lit (aA (jE rfl rfl) ?_));simp only[zz];refine aY m bK rfl ?_;clear m;intro g5 u m;simp only[zz];refine aQ m 0 rfl rfl rfl aG (dH rfl) rfl ?_;clear m;intro u m;simp only[zy,zx,bB,zF,zG,Nat.reduceAdd] at m;refine aD (k22 _ _ ?_);refine wp_region_lit (aA (aB) ?_);simp only[zz];refine aI rfl ((m.b 2 rfl).full aK aG) ?_;simp only[zz];refine aI rfl ((m.b 0 rfl).full aK aG) ?_;simp only[zz];refine aA (cA rfl rfl) ?_;simp only[zz];refine eZ (ek:=ed) (en:=Value.bool) (a:=(t.a,t.b)) (v:=true) m 4 rfl mP mB rfl rfl rfl hD8 ?_;clear m;intro es8 c8 u m hD';clear hD8;have hD8:=hD';clear hD';simp only[zF,zG] at m;refine aD (k21 _ _ ?_);refine wp_region_lit (aA (aR (m:=1) (n:=1) (r:=2) rfl rfl (by decide)) (aA (aB) (aD (aU (aC fun K23 k23=>wp_region_lit (aA (bT (m:=2) (n:=3) rfl rfl (by decide)) (aD (k23 _ _ ?_))))))));refine aC fun K24 k24=>cG rfl (wp_skip (k24 _ _ ?_));refine aC fun K25 k25=>wp_block (aC fun K26 k26=>wp_region_lit (aA (jF rfl rfl) ?_));simp only[zz];refine aY m bK rfl ?_;clear m;intro g6 u m;simp only[zz];refine aQ m 0 rfl rfl rfl aG (dH rfl) rfl ?_;clear m;intro u m;simp only[zy,zx,bB,zF,zG,Nat.reduceAdd] at m;refine aD (k26 _ _ ?_);refine wp_region_lit (aA (aB) ?_);simp only[zz];refine aI rfl ((m.b 3 rfl).full aK aG) ?_;simp only[zz];refine aI rfl ((m.b 0 rfl).full aK aG) ?_;simp only[zz];refine aA (cA rfl rfl) ?_;simp only[zz];refine eZ (ek:=ed) (en:=Value.bool) (a:=(t.a,t.c)) (v:=true) m 5 rfl mP mB rfl rfl rfl hD8 ?_;clear m;intro es8 c8 u m hD';clear hD8;have hD8:=hD';clear hD';simp only[zF,zG] at m;refine aD (k25 _ _ ?_);refine wp_region_lit (aA (aR (m:=2) (n:=1) (r:=3) rfl rfl (by decide)) (aA (aB) (aD (aU (aC fun K27 k27=>wp_region_lit (aA (eG (m:=3) (n:=3) rfl rfl (by decide)) (aD (k27 _ _ ?_))))))));refine aC fun K28 k28=>iT rfl (wp_exit (k12 _ _ ?_));refine wp_region_lit (aA (aR (m:=0) (n:=1) (r:=1) rfl rfl (by decide)) ?_);simp only[zz];refine aA (aB) (aD (aU (aC fun K29 k29=>wp_region_lit (aA (bT (m:=1) (n:=3) rfl rfl (by decide)) (aD (k29 _ _ ?_))))));refine aC fun K30 k30=>cG rfl (wp_skip (k30 _ _ ?_));refine aC fun K31 k31=>wp_block (aC fun K32 k32=>wp_region_lit (aA (jE rfl rfl) ?_));simp only[zz];refine aY m bK rfl ?_;clear m;intro g7 u m;simp only[zz];refine aQ m 0 rfl rfl rfl aG (dH rfl) rfl ?_;clear m;intro u m;simp only[zy,zx,bB,zF,zG,Nat.reduceAdd] at m;refine aD (k32 _ _ ?_);refine aC fun K33 k33=>wp_region_lit (aI rfl ((m.b 5 rfl).full eJ aV) ?_);simp only[zz];refine aA (aB) (aD (k33 _ _ ?_));refine wp_block (wp_loop_rounds 4 (dQ (aC fun K34 k34=>wp_region_lit (aA (bT (m:=0) (n:=3) rfl rfl (by decide)) (aD (k34 _ _ ?_))))));refine aC fun K35 k35=>cG rfl (wp_skip (k35 _ _ ?_));refine aC fun K36 k36=>wp_block (aC fun K37 k37=>wp_region_lit (aA (jD rfl rfl) ?_));simp only[zz];refine aY m bK rfl ?_;clear m;intro g8 u m;simp only[zz];refine aQ m 0 rfl rfl rfl aG (dH rfl) rfl ?_;clear m;intro u m;simp only[zy,zx,bB,zF,zG,Nat.reduceAdd] at m;refine aD (k37 _ _ ?_);refine wp_region_lit (aA (aB) ?_);simp only[zz];refine aI rfl ((m.b 1 rfl).full aK aG) ?_;simp only[zz];refine aI rfl ((m.b 0 rfl).full aK aG) ?_;simp only[zz];refine aA (cA rfl rfl) ?_;simp only[zz];refine eZ (ek:=ed) (en:=Value.bool) (a:=(t.b,t.a)) (v:=true) m 7 rfl mP mB rfl rfl rfl hD8 ?_;clear m;intro es8 c8 u m hD';clear hD8;have hD8:=hD';clear hD';simp only[zF,zG] at m;refine aD (k36 _ _ ?_);refine wp_region_lit (aA (aR (m:=0) (n:=1) (r:=1) rfl rfl (by decide)) (aA (aB) (aD (aU (aC fun K38 k38=>wp_region_lit (aA (bT (m:=1) (n:=3) rfl rfl (by decide)) (aD (k38 _ _ ?_))))))));refine aC fun K39 k39=>cG rfl (wp_skip (k39 _ _ ?_));refine aC fun K40 k40=>wp_block (aC fun K41 k41=>wp_region_lit (aA (jE rfl rfl) ?_));simp only[zz];refine aY m bK rfl ?_;clear m;intro g9 u m;simp only[zz];refine aQ m 0 rfl rfl rfl aG (dH rfl) rfl ?_;clear m;intro u m;simp only[zy,zx,bB,zF,zG,Nat.reduceAdd] at m;refine aD (k41 _ _ ?_);refine wp_region_lit (aA (aB) ?_);simp only[zz];refine aI rfl ((m.b 2 rfl).full aK aG) ?_;simp only[zz];refine aI rfl ((m.b 0 rfl).full aK aG) ?_;simp only[zz];refine aA (cA rfl rfl) ?_;simp only[zz];refine eZ (ek:=ed) (en:=Value.bool) (a:=(t.b,t.b)) (v:=true) m 8 rfl mP mB rfl rfl rfl hD8 ?_;clear m;intro es8 c8 u m hD';clear hD8;have hD8:=hD';clear hD';simp only[zF,zG] at m;refine aD (k40 _ _ ?_);refine wp_region_lit (aA (aR (m:=1) (n:=1) (r:=2) rfl rfl (by decide)) (aA (aB) (aD (aU (aC fun K42 k42=>wp_region_lit (aA (bT (m:=2) (n:=3) rfl rfl (by decide)) (aD (k42 _ _ ?_))))))));refine aC fun K43 k43=>cG rfl (wp_skip (k43 _ _ ?_));refine aC fun K44 k44=>wp_block (aC fun K45 k45=>wp_region_lit (aA (jF rfl rfl) ?_));simp only[zz];refine aY m bK rfl ?_;clear m;intro g10 u m;simp only[zz];refine aQ m 0 rfl rfl rfl aG (dH rfl) rfl ?_;clear m;intro u m;simp only[zy,zx,bB,zF,zG,Nat.reduceAdd] at m;refine aD (k45 _ _ ?_);refine wp_region_lit (aA (aB) ?_);simp only[zz];refine aI rfl ((m.b 3 rfl).full aK aG) ?_;simp only[zz];refine aI rfl ((m.b 0 rfl).full aK aG) ?_;simp only[zz];refine aA (cA rfl rfl) ?_;simp only[zz];refine eZ (ek:=ed) (en:=Value.bool) (a:=(t.b,t.c)) (v:=true) m 9 rfl mP mB rfl rfl rfl hD8 ?_;clear m;intro es8 c8 u m hD';clear hD8;have hD8:=hD';clear hD';simp only[zF,zG] at m;refine aD (k44 _ _ ?_);refine wp_region_lit (aA (aR (m:=2) (n:=1) (r:=3) rfl rfl (by decide)) (aA (aB) (aD (aU (aC fun K46 k46=>wp_region_lit (aA (eG (m:=3) (n:=3) rfl rfl (by decide)) (aD (k46 _ _ ?_))))))));refine aC fun K47 k47=>iT rfl (wp_exit (k31 _ _ ?_));refine wp_region_lit (aA (aR (m:=1) (n:=1) (r:=2) rfl rfl (by decide)) ?_);simp only[zz];refine aA (aB) (aD (aU (aC fun K48 k48=>wp_region_lit (aA (bT (m:=2) (n:=3) rfl rfl (by decide)) (aD (k48 _ _ ?_))))));refine aC fun K49 k49=>cG rfl (wp_skip (k49 _ _ ?_));refine aC fun K50 k50=>wp_block (aC fun K51 k51=>wp_region_lit (aA (jF rfl rfl) ?_));simp only[zz];refine aY m bK rfl ?_;clear m;intro g11 u m;simp only[zz];refine aQ m 0 rfl rfl rfl aG (dH rfl) rfl ?_;clear m;intro u m;simp only[zy,zx,bB,zF,zG,Nat.reduceAdd] at m;refine aD (k51 _ _ ?_);refine aC fun K52 k52=>wp_region_lit (aI rfl ((m.b 9 rfl).full eJ aV) ?_);simp only[zz];refine aA (aB) (aD (k52 _ _ ?_));refine wp_block (wp_loop_rounds 4 (dQ (aC fun K53 k53=>wp_region_lit (aA (bT (m:=0) (n:=3) rfl rfl (by decide)) (aD (k53 _ _ ?_))))));refine aC fun K54 k54=>cG rfl (wp_skip (k54 _ _ ?_));refine aC fun K55 k55=>wp_block (aC fun K56 k56=>wp_region_lit (aA (jD rfl rfl) ?_));simp only[zz];refine aY m bK rfl ?_;clear m;intro g12 u m;simp only[zz];refine aQ m 0 rfl rfl rfl aG (dH rfl) rfl ?_;clear m;intro u m;simp only[zy,zx,bB,zF,zG,Nat.reduceAdd] at m;refine aD (k56 _ _ ?_);refine wp_region_lit (aA (aB) ?_);simp only[zz];refine aI rfl ((m.b 1 rfl).full aK aG) ?_;simp only[zz];refine aI rfl ((m.b 0 rfl).full aK aG) ?_;simp only[zz];refine aA (cA rfl rfl) ?_;simp only[zz];refine eZ (ek:=ed) (en:=Value.bool) (a:=(t.c,t.a)) (v:=true) m 11 rfl mP mB rfl rfl rfl hD8 ?_;clear m;intro es8 c8 u m hD';clear hD8;have hD8:=hD';clear hD';simp only[zF,zG] at m;refine aD (k55 _ _ ?_);refine wp_region_lit (aA (aR (m:=0) (n:=1) (r:=1) rfl rfl (by decide)) (aA (aB) (aD (aU (aC fun K57 k57=>wp_region_lit (aA (bT (m:=1) (n:=3) rfl rfl (by decide)) (aD (k57 _ _ ?_))))))));refine aC fun K58 k58=>cG rfl (wp_skip (k58 _ _ ?_));refine aC fun K59 k59=>wp_block (aC fun K60 k60=>wp_region_lit (aA (jE rfl rfl) ?_));simp only[zz];refine aY m bK rfl ?_;clear m;intro g13 u m;simp only[zz];refine aQ m 0 rfl rfl rfl aG (dH rfl) rfl ?_;clear m;intro u m;simp only[zy,zx,bB,zF,zG,Nat.reduceAdd] at m;refine aD (k60 _ _ ?_);refine wp_region_lit (aA (aB) ?_);simp only[zz];refine aI rfl ((m.b 2 rfl).full aK aG) ?_;simp only[zz];refine aI rfl ((m.b 0 rfl).full aK aG) ?_;simp only[zz];refine aA (cA rfl rfl) ?_;simp only[zz];refine eZ (ek:=ed) (en:=Value.bool) (a:=(t.c,t.b)) (v:=true) m 12 rfl mP mB rfl rfl rfl hD8 ?_;clear m;intro es8 c8 u m hD';clear hD8;have hD8:=hD';clear hD';simp only[zF,zG] at m;refine aD (k59 _ _ ?_);refine wp_region_lit (aA (aR (m:=1) (n:=1) (r:=2) rfl rfl (by decide)) (aA (aB) (aD (aU (aC fun K61 k61=>wp_region_lit (aA (bT (m:=2) (n:=3) rfl rfl (by decide)) (aD (k61 _ _ ?_))))))));refine aC fun K62 k62=>cG rfl (wp_skip (k62 _ _ ?_));refine aC fun K63 k63=>wp_block (aC fun K64 k64=>wp_region_lit (aA (jF rfl rfl) ?_));simp only[zz];refine aY m bK rfl ?_;clear m;intro g14 u m;simp only[zz];refine aQ m 0 rfl rfl rfl aG (dH rfl) rfl ?_;clear m;intro u m;simp only[zy,zx,bB,zF,zG,Nat.reduceAdd] at m;refine aD (k64 _ _ ?_);refine wp_region_lit (aA (aB) ?_);simp only[zz];refine aI rfl ((m.b 3 rfl).full aK aG) ?_;simp only[zz];refine aI rfl ((m.b 0 rfl).full aK aG) ?_;simp only[zz];refine aA (cA rfl rfl) ?_;simp only[zz];refine eZ (ek:=ed) (en:=Value.bool) (a:=(t.c,t.c)) (v:=true) m 13 rfl mP mB rfl rfl rfl hD8 ?_;clear m;intro es8 c8 u m hD';clear hD8;have hD8:=hD';clear hD';simp only[zF,zG] at m;refine aD (k63 _ _ ?_);refine wp_region_lit (aA (aR (m:=2) (n:=1) (r:=3) rfl rfl (by decide)) (aA (aB) (aD (aU (aC fun K65 k65=>wp_region_lit (aA (eG (m:=3) (n:=3) rfl rfl (by decide)) (aD (k65 _ _ ?_))))))));refine aC fun K66 k66=>iT rfl (wp_exit (k50 _ _ ?_));refine wp_region_lit (aA (aR (m:=2) (n:=1) (r:=3) rfl rfl (by decide)) ?_);simp only[zz];refine aA (aB) (aD (aU (aC fun K67 k67=>wp_region_lit (aA (eG (m:=3) (n:=3) rfl rfl (by decide)) (aD (k67 _ _ ?_))))));refine aC fun K68 k68=>iT rfl (wp_exit (k7 _ _ ?_));refine wp_region_lit ?_;simp only[zz];refine aA (aR rfl rfl (aM (by omega) (by omega))) (aA (aB) (aD ?_));simp only[zz];simp only[Exit.inBlock,Exit.then];refine ⟨N - (k + 1),_,?_,rfl,?_,?_⟩
   · omega
   · simp only[zz,zv]
   ·
    simp only[zQ,zR,zD,zE];exact ⟨k + 1,_,_,rfl,(m.sel [false,false,false,false,false,false,false,false,false,false,false,false,false,true]),by rw [Nl ht,Kk];exact hD8,by omega,rfl⟩
  ·
   have hkN : k = N:=by omega
   rw [hkN,show ts.take N = ts from List.take_of_length_le (by rw [hT.len];exact Nat.le_refl _)] at hD8;refine wp_exit (k3 _ _ ?_);refine aC fun K69 k69=>wp_region_lit (aA (aB) (aA (aF) (aD (k69 _ _ ?_))));refine wp_ret ?_;simp only[zz];try simp only[Exit.inBlock,Exit.then,if_true]
   refine bP rfl rfl ?_;try simp only[zD,zE]
   exact ⟨_,rfl,m.ext,_,_,_,rfl,m,hD8⟩
theorem Xg {ps : List P3} {N cap : Nat} {A : Option Addr} (w : World) (hL : uN Zk 3 w A N ps) (hN : N ≤ 9223372036854775807) : eE prog 72 [.slice A N cap] w (fun v w'=>∃ g es c,v = .map (some g) ∧ bS w w' [mI g es c] ∧ bZ pt Value.bool (fP [] ps) es c):=by
 refine ⟨adA,?_⟩;have m:=bS.refl w
 go_enter func72,ntmps72
 refine aC fun K1 k1=>wp_region_lit (aA (aF) (aD (k1 _ _ ?_)));refine aC fun K2 k2=>wp_region_lit ?_;simp only[zz];refine jL m ?_;clear m;intro q8 u m;have hD8:=bZ.nil (K:=P3) (V:=Bool) pt Value.bool;refine aA (aF) (aD (k2 _ _ ?_));refine aC fun K3 k3=>aC fun K4 k4=>wp_region_lit (aA (aB) (aA (bC rfl underlying98 rfl) ?_));simp only[zz];refine aA (aB) (aD (k4 _ _ ?_));refine wp_block ?_;simp only[zz];try simp only[Nat.zero_add,Nat.reduceAdd,Nat.reduceMul,Int.reduceToNat]
 refine bN [9] [5,10,11,12,13,14,15] (fun n vs wl=>∃ (k : Nat) (es : Array MapEntry) (c : Nat),vs = [.int .i64 (k:Int)] ∧ bS w wl [mI q8 es c] ∧ (bZ pt Value.bool (fP [] (ps.take k)) es c) ∧ (k ≤ N) ∧ (n = N - k)) ?_ ?_
 ·
  apply Exists.intro;simp only[zQ,zR,zD,zE];exact ⟨0,_,_,rfl,m,hD8,Nat.zero_le _,rfl⟩
 ·
  intro n vs wr hI u;clear m;obtain ⟨k,es8,c8,rfl,m,hD8,hk,hn⟩:=hI;simp only[zu,zF,zG];refine aC fun K5 k5=>wp_region_lit (aA (cS rfl rfl) (aD (k5 _ _ ?_)));refine aC fun K6 k6=>?_;simp only[zz];refine cD rfl (fun hc1=>?_) (fun hc1=>?_)
  ·
   obtain ⟨x,hx,a,rfl,hrow⟩:=hL.get (i:=k) (by omega);refine wp_skip (k6 _ _ ?_);refine aC fun K7 k7=>wp_block (aC fun K8 k8=>wp_region_lit (aA (aL underlying98 aG rfl rfl (by omega) (by omega) (dP (Int.toNat_natCast _))) ?_));simp only[zz];refine aI rfl ((hrow.ext m.ext).lies aK aG) ?_;simp only[zz];refine aY m bK rfl ?_;clear m;intro g2 u m;simp only[zz];refine aQ m 0 rfl rfl rfl aG (dH rfl) rfl ?_;clear m;intro u m;simp only[zy,zx,bB,zF,zG,Nat.reduceAdd] at m;refine aD (k8 _ _ ?_);refine wp_region_lit (aA (aB) ?_);simp only[zz];refine aI rfl ((m.b 0 rfl).full aK aG) ?_;simp only[zz];refine eZ (ek:=pt) (en:=Value.bool) (a:=x) (v:=true) m 1 rfl lV gC rfl rfl rfl hD8 ?_;clear m;intro es8 c8 u m hD';clear hD8;have hD8:=hD';clear hD';simp only[zF,zG] at m;refine aD (k7 _ _ ?_);refine wp_region_lit (aA (aR rfl rfl (aM (by omega) (by omega))) (aA (aB) (aD ?_)));simp only[zz];simp only[Exit.inBlock,Exit.then];refine ⟨N - (k + 1),_,?_,rfl,?_,?_⟩
   · omega
   · simp only[zz,zv]
   ·
    simp only[zQ,zR,zD,zE];exact ⟨k + 1,_,_,rfl,(m.sel [false,true]),by rw [eR hx,lJ];exact hD8,by omega,rfl⟩
  ·
   have hkN : k = N:=by omega
   rw [hkN,show ps.take N = ps from List.take_of_length_le (by rw [hL.len];exact Nat.le_refl _)] at hD8;refine wp_exit (k3 _ _ ?_);refine aC fun K9 k9=>wp_region_lit (aA (aB) (aA (aF) (aD (k9 _ _ ?_))));refine wp_ret ?_;simp only[zz];try simp only[Exit.inBlock,Exit.then,if_true]
   refine bP rfl rfl ?_;try simp only[zD,zE]
   exact ⟨_,rfl,m.ext,_,_,_,rfl,m,hD8⟩
theorem Sp {ts : List T3} {rim : List E3} {k : Nat} {e : E3} (h : rim[k]? = some e) : uX ts (rim.take (k + 1)) = uX ts (rim.take k) ++ [(e,Kt ts e.1 ts.length e.2)]:=by
 rw [eR h];simp [uX]
theorem Xh {ts : List T3} {N cap : Nat} {A : Option Addr} {rim : List E3} {M cap2 : Nat} {A2 : Option Addr} (w : World) (hT : dZ w A N ts) (hN : N ≤ 10000000) (hL : uN bV 6 w A2 M rim) (hM : M ≤ 100000000) (hdg : Pc ts) (hnd : (bH ts).Nodup) (hrim : ∀ e ∈ rim,(e.2,e.1) ∉ bH ts) : eE prog 69 [.slice A N cap,.slice A2 M cap2] w (fun v w'=>∃ g es c,v = .map (some g) ∧ bS w w' [mI g es c] ∧ bZ ed pt (lK [] (uX ts rim)) es c):=by
 refine ⟨adx,?_⟩;have m:=bS.refl w
 go_enter func69,ntmps69
 refine aC fun K1 k1=>wp_region_lit (aA (aF) (aD (k1 _ _ ?_)));refine aC fun K2 k2=>wp_region_lit ?_;simp only[zz];refine jL m ?_;clear m;intro q8 u m;have hD8:=bZ.nil (K:=E3) (V:=P3) ed pt;refine aA (aF) (aD (k2 _ _ ?_));refine aC fun K3 k3=>aC fun K4 k4=>wp_region_lit (aA (aB) (aA (bC rfl cC rfl) ?_));simp only[zz];refine aA (aB) (aD (k4 _ _ ?_));refine wp_block ?_;simp only[zz];try simp only[Nat.zero_add,Nat.reduceAdd,Nat.reduceMul,Int.reduceToNat]
 refine bN [19] [7,8,9,20,21,22,23,24,25,26,27,28,29,30,31,32,33,34,35,36,37,38,39,40,41,42] (fun n vs wl=>∃ (k : Nat) (es : Array MapEntry) (c : Nat),vs = [.int .i64 (k:Int)] ∧ bS w wl [mI q8 es c] ∧ (bZ ed pt (lK [] (iP (ts.take k))) es c) ∧ (k ≤ N) ∧ (n = N - k)) ?_ ?_
 ·
  apply Exists.intro;simp only[zQ,zR,zD,zE];exact ⟨0,_,_,rfl,m,hD8,Nat.zero_le _,rfl⟩
 ·
  intro n vs wr hI u;clear m;obtain ⟨k,es8,c8,rfl,m,hD8,hk,hn⟩:=hI;simp only[zu,zF,zG];refine aC fun K5 k5=>wp_region_lit (aA (cS rfl rfl) (aD (k5 _ _ ?_)));refine aC fun K6 k6=>?_;simp only[zz];refine cD rfl (fun hc1=>?_) (fun hc1=>?_)
  ·
   obtain ⟨t,ht,_,a,rfl,hrow⟩:=hT.get (i:=k) (by omega);refine wp_skip (k6 _ _ ?_);refine aC fun K7 k7=>wp_block (aC fun K8 k8=>wp_region_lit (aA (aL cC aV rfl rfl (by omega) (by omega) (dP (Int.toNat_natCast _))) ?_));simp only[zz];refine aI rfl ((hrow.ext m.ext).lies eJ aV) ?_;simp only[zz];refine aY m iR rfl ?_;clear m;intro g2 u m;simp only[zz];refine aQ m 0 rfl rfl rfl aV (dH rfl) rfl ?_;clear m;intro u m;simp only[zy,zx,bB,zF,zG,Nat.reduceAdd] at m;refine aD (k8 _ _ ?_);refine aC fun K9 k9=>wp_region_lit (aI rfl ((m.b 0 rfl).full eJ aV) ?_);simp only[zz];refine aA (aB) (aD (k9 _ _ ?_));refine wp_block (wp_loop_rounds 4 (dQ (aC fun K10 k10=>wp_region_lit (aA (bT (m:=0) (n:=3) rfl rfl (by decide)) (aD (k10 _ _ ?_))))));refine aC fun K11 k11=>cG rfl (wp_skip (k11 _ _ ?_));refine aC fun K12 k12=>wp_block (aC fun K13 k13=>wp_region_lit (aA (aB) (aA (jD rfl rfl) ?_)));simp only[zz];refine aY m bK rfl ?_;clear m;intro g3 u m;refine aA (aF) ?_;simp only[zz];refine aQ m 0 rfl rfl rfl aG (dH rfl) rfl ?_;clear m;intro u m;simp only[zy,zx,bB,zF,zG,Nat.reduceAdd] at m;refine aD (k13 _ _ ?_);refine fO m 13 aP (by kernel_rfl) ?_;simp only[zy];refine aN (aB) ?_;simp only[zz];refine ql rfl (fun u m=>((m.b 0 rfl).full aK aG)) ?_;simp only[zz];refine aN (aB) (aN (aR (m:=0) (n:=1) (r:=1) rfl rfl (by decide)) (aN (dJ (m:=1) (n:=3) (r:=1) rfl rfl (by decide) (by decide)) (aN (aH bO aG rfl rfl (by decide) (by decide) rfl) ?_)));simp only[zz];refine ql rfl (fun u m=>((m.b 1 rfl).lies aK aG rfl rfl)) ?_;simp only[zz,zy,Nat.zero_add,Nat.reduceAdd,Nat.reduceMul,Int.reduceToNat];refine aN (cA rfl rfl) (aN (aB) (aN (aR (m:=0) (n:=2) (r:=2) rfl rfl (by decide)) (aN (dJ (m:=2) (n:=3) (r:=2) rfl rfl (by decide) (by decide)) ?_)));simp only[zz];refine aN (aH bO aG rfl rfl (by decide) (by decide) rfl) ?_;simp only[zz];refine ql rfl (fun u m=>((m.b 1 rfl).lies aK aG rfl rfl)) ?_;simp only[zz,zy,Nat.zero_add,Nat.reduceAdd,Nat.reduceMul,Int.reduceToNat];refine dN ?_;clear m;intro u m;refine eZ (ek:=ed) (en:=pt) (a:=(t.a,t.b)) (v:=t.c) m 2 rfl rS mB rfl rfl rfl hD8 ?_;clear m;intro es8 c8 u m hD';clear hD8;have hD8:=hD';clear hD';simp only[zF,zG] at m;rw [← mQ] at hD8;refine aD (k12 _ _ ?_);refine wp_region_lit (aA (aR (m:=0) (n:=1) (r:=1) rfl rfl (by decide)) (aA (aB) (aD (aU (aC fun K14 k14=>wp_region_lit (aA (bT (m:=1) (n:=3) rfl rfl (by decide)) (aD (k14 _ _ ?_))))))));refine aC fun K15 k15=>cG rfl (wp_skip (k15 _ _ ?_));refine aC fun K16 k16=>wp_block (aC fun K17 k17=>wp_region_lit (aA (aB) ?_));simp only[zz];refine aA (jE rfl rfl) ?_;simp only[zz];refine aY m bK rfl ?_;clear m;intro g4 u m;refine aA (aF) ?_;simp only[zz];refine aQ m 0 rfl rfl rfl aG (dH rfl) rfl ?_;clear m;intro u m;simp only[zy,zx,bB,zF,zG,Nat.reduceAdd] at m;refine aD (k17 _ _ ?_);refine fO m 13 aP (by kernel_rfl) ?_;simp only[zy];refine aN (aB) ?_;simp only[zz];refine ql rfl (fun u m=>((m.b 0 rfl).full aK aG)) ?_;simp only[zz];refine aN (aB) (aN (aR (m:=1) (n:=1) (r:=2) rfl rfl (by decide)) (aN (dJ (m:=2) (n:=3) (r:=2) rfl rfl (by decide) (by decide)) (aN (aH bO aG rfl rfl (by decide) (by decide) rfl) ?_)));simp only[zz];refine ql rfl (fun u m=>((m.b 2 rfl).lies aK aG rfl rfl)) ?_;simp only[zz,zy,Nat.zero_add,Nat.reduceAdd,Nat.reduceMul,Int.reduceToNat];refine aN (cA rfl rfl) (aN (aB) (aN (aR (m:=1) (n:=2) (r:=3) rfl rfl (by decide)) (aN (dJ (m:=3) (n:=3) (r:=0) rfl rfl (by decide) (by decide)) ?_)));simp only[zz];refine aN (aH bO aG rfl rfl (by decide) (by decide) rfl) ?_;simp only[zz];refine ql rfl (fun u m=>((m.b 2 rfl).lies aK aG rfl rfl)) ?_;simp only[zz,zy,Nat.zero_add,Nat.reduceAdd,Nat.reduceMul,Int.reduceToNat];refine dN ?_;clear m;intro u m;refine eZ (ek:=ed) (en:=pt) (a:=(t.b,t.c)) (v:=t.a) m 3 rfl rS mB rfl rfl rfl hD8 ?_;clear m;intro es8 c8 u m hD';clear hD8;have hD8:=hD';clear hD';simp only[zF,zG] at m;rw [← mQ] at hD8;refine aD (k16 _ _ ?_);refine wp_region_lit (aA (aR (m:=1) (n:=1) (r:=2) rfl rfl (by decide)) (aA (aB) (aD (aU (aC fun K18 k18=>wp_region_lit (aA (bT (m:=2) (n:=3) rfl rfl (by decide)) (aD (k18 _ _ ?_))))))));refine aC fun K19 k19=>cG rfl (wp_skip (k19 _ _ ?_));refine aC fun K20 k20=>wp_block (aC fun K21 k21=>wp_region_lit (aA (aB) ?_));simp only[zz];refine aA (jF rfl rfl) ?_;simp only[zz];refine aY m bK rfl ?_;clear m;intro g5 u m;refine aA (aF) ?_;simp only[zz];refine aQ m 0 rfl rfl rfl aG (dH rfl) rfl ?_;clear m;intro u m;simp only[zy,zx,bB,zF,zG,Nat.reduceAdd] at m;refine aD (k21 _ _ ?_);refine fO m 13 aP (by kernel_rfl) ?_;simp only[zy];refine aN (aB) ?_;simp only[zz];refine ql rfl (fun u m=>((m.b 0 rfl).full aK aG)) ?_;simp only[zz];refine aN (aB) (aN (aR (m:=2) (n:=1) (r:=3) rfl rfl (by decide)) (aN (dJ (m:=3) (n:=3) (r:=0) rfl rfl (by decide) (by decide)) (aN (aH bO aG rfl rfl (by decide) (by decide) rfl) ?_)));simp only[zz];refine ql rfl (fun u m=>((m.b 3 rfl).lies aK aG rfl rfl)) ?_;simp only[zz,zy,Nat.zero_add,Nat.reduceAdd,Nat.reduceMul,Int.reduceToNat];refine aN (cA rfl rfl) (aN (aB) (aN (aR (m:=2) (n:=2) (r:=4) rfl rfl (by decide)) (aN (dJ (m:=4) (n:=3) (r:=1) rfl rfl (by decide) (by decide)) ?_)));simp only[zz];refine aN (aH bO aG rfl rfl (by decide) (by decide) rfl) ?_;simp only[zz];refine ql rfl (fun u m=>((m.b 3 rfl).lies aK aG rfl rfl)) ?_;simp only[zz,zy,Nat.zero_add,Nat.reduceAdd,Nat.reduceMul,Int.reduceToNat];refine dN ?_;clear m;intro u m;refine eZ (ek:=ed) (en:=pt) (a:=(t.c,t.a)) (v:=t.b) m 4 rfl rS mB rfl rfl rfl hD8 ?_;clear m;intro es8 c8 u m hD';clear hD8;have hD8:=hD';clear hD';simp only[zF,zG] at m;rw [← mQ] at hD8;refine aD (k20 _ _ ?_);refine wp_region_lit (aA (aR (m:=2) (n:=1) (r:=3) rfl rfl (by decide)) (aA (aB) (aD (aU (aC fun K22 k22=>wp_region_lit (aA (eG (m:=3) (n:=3) rfl rfl (by decide)) (aD (k22 _ _ ?_))))))));refine aC fun K23 k23=>iT rfl (wp_exit (k7 _ _ ?_));refine wp_region_lit ?_;simp only[zz];refine aA (aR rfl rfl (aM (by omega) (by omega))) (aA (aB) (aD ?_));simp only[zz];simp only[Exit.inBlock,Exit.then];refine ⟨N - (k + 1),_,?_,rfl,?_,?_⟩
   · omega
   · simp only[zz,zv]
   ·
    simp only[zQ,zR,zD,zE];exact ⟨k + 1,_,_,rfl,(m.sel [false,false,false,false,true]),by rw [Cq ht];simpa [List.append_assoc] using hD8,by omega,rfl⟩
  ·
   have hkN : k = N:=by omega
   rw [hkN,show ts.take N = ts from List.take_of_length_le (by rw [hT.len];exact Nat.le_refl _)] at hD8;refine wp_exit (k3 _ _ ?_);refine aC fun K24 k24=>wp_region_lit (jL m ?_);clear m;intro q9 u m;have hD9:=bZ.nil (K:=E3) (V:=P3) ed pt;refine aA (aF) (aD (k24 _ _ ?_));refine aC fun K25 k25=>aC fun K26 k26=>wp_region_lit (aA (aB) (aA (bC rfl gB rfl) ?_));simp only[zz];refine aA (aB) (aD (k26 _ _ ?_));refine wp_block ?_;simp only[zz];try simp only[Nat.zero_add,Nat.reduceAdd,Nat.reduceMul,Int.reduceToNat]
   refine bN [46] [12,13,14,15,47,48,49,50,51,52,53,54,55,56,57,58,59,60,61,62,63,64,65,66,67] (fun n vs wl=>∃ (k : Nat) (es : Array MapEntry) (c : Nat),vs = [.int .i64 (k:Int)] ∧ bS w wl [mI q9 es c,mI q8 es8 c8] ∧ (bZ ed pt (lK [] (uX ts (rim.take k))) es c) ∧ (k ≤ M) ∧ (n = M - k)) ?_ ?_
   ·
    apply Exists.intro;simp only[zQ,zR,zD,zE];exact ⟨0,_,_,rfl,m,hD9,Nat.zero_le _,rfl⟩
   ·
    intro n vs wr hI u;clear m;obtain ⟨k,es9,c9,rfl,m,hD9,hk,hn⟩:=hI;simp only[zu,zF,zG];refine aC fun K27 k27=>wp_region_lit (aA (cS rfl rfl) (aD (k27 _ _ ?_)));refine aC fun K28 k28=>?_;simp only[zz];refine cD rfl (fun hc3=>?_) (fun hc3=>?_)
    ·
     obtain ⟨e,he,a,rfl,hrow2⟩:=hL.get (i:=k) (by omega);have hre:=hrim e (List.mem_of_getElem? he);refine wp_skip (k28 _ _ ?_);refine aC fun K29 k29=>wp_block (aC fun K30 k30=>wp_region_lit (aA (aL gB cV rfl rfl (by omega) (by omega) (dP (Int.toNat_natCast _))) ?_));simp only[zz];refine aI rfl (((hrow2.ext m.ext)).lies kJ cV) ?_;simp only[zz];refine aY m rJ rfl ?_;clear m;intro g3 u m;simp only[zz];refine aQ m 0 rfl rfl rfl cV (dH rfl) rfl ?_;clear m;intro u m;simp only[zy,zx,bB,zF,zG,Nat.reduceAdd] at m;refine aD (k30 _ _ ?_);refine aC fun K31 k31=>wp_region_lit (aA (aH jJ aG rfl rfl (by decide) (by decide) rfl) ?_);simp only[zz];refine aI rfl ((m.b 0 rfl).lies aK aG rfl rfl) ?_;simp only[zz,zy,Nat.zero_add,Nat.reduceAdd,Nat.reduceMul,Int.reduceToNat];refine aY m bK rfl ?_;clear m;intro g4 u m;simp only[zz];refine aQ m 0 rfl rfl rfl aG (dH rfl) rfl ?_;clear m;intro u m;simp only[zy,zx,bB,zF,zG,Nat.reduceAdd] at m;refine aD (k31 _ _ ?_);refine aC fun K32 k32=>wp_block ?_;try simp only[Nat.zero_add,Nat.reduceAdd,Nat.reduceMul,Int.reduceToNat]
     refine bN [] [14,15,52,53,54,55,56,57,58,59,60,61,62,63] (fun n vs wl=>∃ (i : Nat) (z : P3),vs = [] ∧ bS w wl [bI g4 (Zk z) 48,bI g3 (bV e) 57,mI q9 es9 c9,mI q8 es8 c8] ∧ (qU ts e.1 i e.2 = some z) ∧ (i ≤ ts.length) ∧ (n = ts.length + 1 - i)) ?_ ?_
     ·
      apply Exists.intro;simp only[zQ,zR,zD,zE];exact ⟨0,e.2,trivial,m,rfl,Nat.zero_le _,rfl⟩
     ·
      intro n vs wr hI u;clear m;obtain ⟨i,z,rfl,m,hit,hil,hn4⟩:=hI;simp only[zu,zF,zG];refine wp_block (aC fun K33 k33=>wp_region_lit (aA (aB) (aA (aH jJ aG rfl rfl (by decide) (by decide) rfl) ?_)));simp only[zz];refine aI rfl ((m.b 1 rfl).lies aK aG rfl rfl) ?_;simp only[zz,zy,Nat.zero_add,Nat.reduceAdd,Nat.reduceMul,Int.reduceToNat];refine aI rfl ((m.b 0 rfl).full aK aG) ?_;simp only[zz];refine aA (cA rfl rfl) ?_;simp only[zz];refine eL (qK (ek:=ed) (en:=pt) (k:=(e.1,z)) (v0:=⟨0,0,0⟩) rS bK mB rfl rfl (m.p 3 rfl) hD8) ?_;simp only[zz];refine aA (aB) (aA (bL rfl rfl) (aA (bL rfl rfl) ?_));simp only[zz];refine aY m bK rfl ?_;clear m;intro g5 u m;simp only[zz];refine aQ m 0 rfl rfl rfl aG (dH rfl) rfl ?_;clear m;intro u m;simp only[zy,zx,bB,zF,zG,Nat.reduceAdd] at m;refine aA (aF) (aD (k33 _ _ ?_));refine aC fun K34 k34=>aC fun K35 k35=>wp_region_lit (aA (aB) (aA (iO rfl) (aD (k35 _ _ ?_))));simp only[zz];refine fB rfl (fun hc4=>?_) (fun hc4=>?_)
      ·
       have hyn : bR ts e.1 z = none:=by rw [← qM hnd];simpa using hc4
       have hend:=Wk i ts.length e.2 z hil hit hyn;refine wp_exit (k32 _ _ ?_);refine wp_region_lit (aA (aB) ?_);simp only[zz];refine aI rfl ((m.b 2 rfl).full kJ cV) ?_;simp only[zz];refine aI rfl ((m.b 1 rfl).full aK aG) ?_;simp only[zz];refine eZ (ek:=ed) (en:=pt) (a:=e) (v:=z) m 3 rfl rS mB rfl rfl rfl hD9 ?_;clear m;intro es9 c9 u m hD';clear hD9;have hD9:=hD';clear hD';simp only[zF,zG] at m;refine aD (k29 _ _ ?_);refine wp_region_lit (aA (aR rfl rfl (aM (by omega) (by omega))) (aA (aB) (aD ?_)));simp only[zz];simp only[Exit.inBlock,Exit.then];refine ⟨M - (k + 1),_,?_,rfl,?_,?_⟩
       · omega
       · simp only[zz,zv]
       ·
        simp only[zQ,zR,zD,zE];exact ⟨k + 1,_,_,rfl,(m.sel [false,false,false,true,true]),by rw [Sp he,mQ,hend];exact hD9,by omega,rfl⟩
      ·
       obtain ⟨y,hy⟩ : ∃ y,cP (lK [] (iP ts)) (e.1,z) = some y:=by
        cases h : cP (lK [] (iP ts)) (e.1,z) with
        | some y=>exact ⟨y,rfl⟩
        | none=>rw [h] at hc4;cases hc4
       have hya : bR ts e.1 z = some y:=by rw [← qM hnd];exact hy
       have hit2 : qU ts e.1 (i + 1) e.2 = some y:=by rw [tE,hit];exact hya
       have hil2:=Zy hdg hnd hre hit2;rw [hy] at m;simp only[Option.getD_some] at m;refine wp_skip (k34 _ _ ?_);refine wp_region_lit (aI rfl ((m.b 0 rfl).full aK aG) ?_);simp only[zz];refine aQ m 1 rfl rfl rfl aG (dH rfl) rfl ?_;clear m;intro u m;simp only[zy,zx,bB,zF,zG,Nat.reduceAdd] at m;refine aD ?_;simp only[Exit.inBlock,Exit.then];refine ⟨ts.length + 1 - (i + 1),_,?_,rfl,?_,?_⟩
       · omega
       · simp only[zz,zv]
       ·
        simp only[zQ,zR,zD,zE];exact ⟨i + 1,y,trivial,(m.sel [false,true,true,true,true]),hit2,hil2,rfl⟩
    ·
     have hkN : k = M:=by omega
     rw [hkN,show rim.take M = rim from List.take_of_length_le (by rw [hL.len];exact Nat.le_refl _)] at hD9;refine wp_exit (k25 _ _ ?_);refine aC fun K36 k36=>wp_region_lit (aA (aB) (aA (aF) (aD (k36 _ _ ?_))));refine wp_ret ?_;simp only[zz];try simp only[Exit.inBlock,Exit.then,if_true]
     refine bP rfl rfl ?_;try simp only[zD,zE]
     exact ⟨_,rfl,m.ext,_,_,_,rfl,m.sel [true,false],hD9⟩
end Go.Proofs.YtfohfflkhpfjeaaGreatDoor
namespace Go.Proofs.YtfohfflkhpfjeaaGreatDoor
open Go.Proofs.Tryz
open Go.RowKit Go.Lith
set_option maxRecDepth 100000
attribute [local irreducible] wpList wpQuiet dD cO cF Code.wp
theorem Xi {x y : E3} : (x.1.x = y.1.x ∧ x.1.y = y.1.y ∧ x.1.z = y.1.z ∧ x.2.x = y.2.x ∧ x.2.y = y.2.y ∧ x.2.z = y.2.z) ↔ x = y :=
 ⟨fun h=>Prod.ext (P3.eq h.1 h.2.1 h.2.2.1) (P3.eq h.2.2.2.1 h.2.2.2.2.1 h.2.2.2.2.2),fun h=>by rw [h];exact ⟨rfl,rfl,rfl,rfl,rfl,rfl⟩⟩
theorem Sq {K V : Type} [DecidableEq K] {D1 D2 : List (K × V)} (hk : D1.map (·.1) = D2.map (·.1)) (hn : (D1.map (·.1)).Nodup) (h : ∀ x ∈ D1,cP D2 x.1 = some x.2) : D1 = D2:=by
 apply List.ext_getElem?;intro i;have e:=congrArg (·[i]?) hk;simp only[List.getElem?_map] at e;cases h1 : D1[i]? with
 | none =>
  rw [h1] at e;cases h2 : D2[i]? with
  | none=>rfl
  | some y=>rw [h2] at e;cases e
 | some x =>
  rw [h1] at e;cases h2 : D2[i]? with
  | none=>rw [h2] at e;cases e
  | some y =>
   rw [h2] at e;have e' : x.1 = y.1:=Option.some.inj e;have hm:=h x (List.mem_of_getElem? h1);rw [e',lI (v:=y.2) (by rw [← hk];exact hn) (List.mem_of_getElem? h2)] at hm;exact congrArg some (Prod.ext e' (Option.some.inj hm).symm)
theorem Sr {es fs : List E3} {N cap M cap2 : Nat} {A A2 : Option Addr} (w : World) (hL : uN bV 6 w A N es) (hL2 : uN bV 6 w A2 M fs) (hN : N ≤ 100000000) : eE prog 67 [.slice A N cap,.slice A2 M cap2] w (fun v _=>v = .bool (decide (es = fs))):=by
 refine ⟨adv,?_⟩;have m:=bS.refl w;have e1:=hL.len;have e2:=hL2.len
 go_enter func67,ntmps67
 refine aC fun K1 k1=>wp_region_lit (aA (aF) (aD (k1 _ _ ?_)));refine aC fun K2 k2=>aC fun K3 k3=>wp_region_lit (aA (aB) (aA (bC rfl gB rfl) (aA (aB) ?_)));simp only[zz];refine aA (bC rfl gB rfl) (aA (mV rfl rfl) (aD (k3 _ _ ?_)));simp only[zz];refine cD rfl (fun hc1=>?_) (fun hc1=>?_)
 ·
  have hne : ¬ es = fs:=fun h=>hc1 (by rw [← e1,← e2,h]);refine aC fun K4 k4=>wp_region_lit (aA (aF) (aD (k4 _ _ ?_)));refine wp_ret ?_;simp only[zz];try simp only[Exit.inBlock,Exit.then,if_true]
  refine bP rfl rfl ?_;try simp only[zD,zE]
  exact ⟨_,rfl,m.ext,by rw [decide_eq_false hne]⟩
 ·
  refine wp_skip (k2 _ _ ?_);refine aC fun K5 k5=>aC fun K6 k6=>wp_region_lit (aA (aB) (aA (bC rfl gB rfl) (aA (aB) (aD (k6 _ _ ?_)))));refine wp_block ?_;simp only[zz];try simp only[Nat.zero_add,Nat.reduceAdd,Nat.reduceMul,Int.reduceToNat]
  refine bN [13] [4,5,14,15,16,17,18,19,20,21,22,23,24,25] (fun n vs wl=>∃ (k : Nat),vs = [.int .i64 (k:Int)] ∧ bS w wl [] ∧ (es.take k = fs.take k) ∧ (k ≤ N) ∧ (n = N - k)) ?_ ?_
  ·
   apply Exists.intro;simp only[zQ,zR,zD,zE];exact ⟨0,rfl,m,rfl,Nat.zero_le _,rfl⟩
  ·
   intro n vs wr hI u;clear m;obtain ⟨k,rfl,m,heq,hk,hn⟩:=hI;simp only[zu,zF,zG];refine aC fun K7 k7=>wp_region_lit (aA (cS rfl rfl) (aD (k7 _ _ ?_)));refine aC fun K8 k8=>?_;simp only[zz];refine cD rfl (fun hc2=>?_) (fun hc2=>?_)
   ·
    obtain ⟨x,hx,a,rfl,hrow⟩:=hL.get (i:=k) (by omega);obtain ⟨y,hy,a2,rfl,hrow2⟩:=hL2.get (i:=k) (by omega);refine wp_skip (k8 _ _ ?_);refine aC fun K9 k9=>wp_block (aC fun K10 k10=>wp_region_lit (aA (aB) (aA (aF) (aD (k10 _ _ ?_)))));refine aC fun K11 k11=>?_;simp only[zz];refine mq m aP (by kernel_rfl) (aN (aB) (aN (aB) ?_));simp only[zz];refine aN (aL gB cV rfl rfl (by omega) (by omega) (dP (Int.toNat_natCast _))) ?_;simp only[zz];refine ql rfl (fun u m=>((hrow.ext m.ext).lies kJ cV)) ?_;simp only[zz];refine aN (aB) (aN (aB) ?_);simp only[zz];refine aN (aL gB cV rfl rfl (by omega) (by omega) (dP (Int.toNat_natCast _))) ?_;simp only[zz];refine ql rfl (fun u m=>((hrow2.ext m.ext).lies kJ cV)) ?_;simp only[zz];refine aN (Rm rfl rfl) (dN ?_);clear m;intro u m;refine k11 _ _ ?_;simp only[zz];refine cD rfl (fun hc3=>?_) (fun hc3=>?_)
    ·
     have hne : ¬ es = fs:=fun h=>hc3 (Xi.2 (by subst h;exact Option.some.inj (hx.symm.trans hy)));refine aC fun K12 k12=>wp_region_lit (aA (aF) (aD (k12 _ _ ?_)));refine wp_ret ?_;simp only[zz];try simp only[Exit.inBlock,Exit.then,if_true]
     refine bP rfl rfl ?_;try simp only[zD,zE]
     exact ⟨_,rfl,m.ext,by rw [decide_eq_false hne]⟩
    ·
     obtain rfl:=Xi.1 (Classical.not_not.1 hc3);refine wp_skip (k9 _ _ ?_);refine wp_region_lit (aA (aR rfl rfl (aM (by omega) (by omega))) (aA (aB) (aD ?_)));simp only[zz];simp only[Exit.inBlock,Exit.then];refine ⟨N - (k + 1),_,?_,rfl,?_,?_⟩
     · omega
     · simp only[zz,zv]
     ·
      simp only[zQ,zR,zD,zE];exact ⟨k + 1,rfl,m,by rw [eR hx,eR hy,heq],by omega,rfl⟩
   ·
    have hall : es = fs:=by rw [List.take_of_length_le (by omega),List.take_of_length_le (by omega)] at heq;exact heq
    refine wp_exit (k5 _ _ ?_);refine aC fun K13 k13=>wp_region_lit (aA (aF) (aD (k13 _ _ ?_)));refine wp_ret ?_;simp only[zz];try simp only[Exit.inBlock,Exit.then,if_true]
    refine bP rfl rfl ?_;try simp only[zD,zE]
    exact ⟨_,rfl,m.ext,by rw [decide_eq_true hall]⟩
theorem aan {g c g2 c2 : Nat} {es es2 : Array MapEntry} {D1 D2 : List (E3 × P3)} (w : World) (hM : jN w g es c) (hD : bZ ed pt D1 es c) (hM2 : jN w g2 es2 c2) (hD2 : bZ ed pt D2 es2 c2) (hk : D1.map (·.1) = D2.map (·.1)) (hnk : (D1.map (·.1)).Nodup) : eE prog 68 [.map (some g),.map (some g2)] w (fun v _=>v = .bool (decide (D1 = D2))):=by
 refine ⟨adw,?_⟩;have m:=bS.refl w;have hl : D1.length = D2.length:=by simpa using congrArg List.length hk
 go_enter func68,ntmps68
 refine aC fun K1 k1=>wp_region_lit (aA (aF) (aD (k1 _ _ ?_)));refine aC fun K2 k2=>aC fun K3 k3=>wp_region_lit (aA (aB) ?_);simp only[zz];refine eL (Wa rfl rS rfl (hM.ext m.ext) hD) (aA (aB) ?_);simp only[zz];refine eL (Wa rfl rS rfl (hM2.ext m.ext) hD2) (aA (mV rfl rfl) (aD (k3 _ _ ?_)));simp only[zz];refine cD rfl (fun hc1=>?_) (fun hc1=>?_)
 ·
  exact absurd (congrArg (Nat.cast (R:=Int)) hl) hc1
 ·
  refine wp_skip (k2 _ _ ?_);refine aC fun K4 k4=>aC fun K5 k5=>wp_region_lit (aA (aB) ?_);simp only[zz];refine vN m rS rfl (hM.ext m.ext) ?_;clear m;intro r1 u m;refine aD (k5 _ _ ?_);refine wp_block ?_;simp only[zz];try simp only[Nat.zero_add,Nat.reduceAdd,Nat.reduceMul,Int.reduceToNat]
  refine bN [] [4,5,6,7,8,16,17,18,19,20,21,22,23,24,25,26,27,28,29,30,31,32,33] (fun n vs wl=>∃ (dn rs : List (E3 × P3)) (sn : Array Nat),vs = [] ∧ bS w wl [iI r1 g c sn] ∧ (lB ed pt D1 es sn dn rs) ∧ (∀ x ∈ dn,cP D2 x.1 = some x.2) ∧ (n = rs.length)) ?_ ?_
  ·
   apply Exists.intro;simp only[zQ,zR,zD,zE];exact ⟨[],D1,#[],trivial,m,lB.start hD,fun _ h=>(by cases h),rfl⟩
  ·
   intro n vs wr hI u;clear m;obtain ⟨dn,rs,sn,rfl,m,hT,hall,hn⟩:=hI;simp only[zu,zF,zG];refine aC fun K6 k6=>wp_region_lit (Cg m 0 rfl rfl (hM.ext m.ext) hD hT ?_);clear m;intro bb kk vv sn u m hN;simp only[zF,zG] at m;refine aA (rK rfl) (aD (k6 _ _ ?_));refine aC fun K7 k7=>?_;simp only[zz];refine fB rfl (fun hc2=>?_) (fun hc2=>?_)
   ·
    obtain ⟨kp,kb,rs2,hp,hT2⟩:=Cj hc2 hN;have hin : (kp,kb) ∈ D1:=hT2.1.mem_iff.1 (by simp);refine wp_skip (k7 _ _ ?_);refine wp_block (aC fun K8 k8=>wp_region_lit (eL (rL rfl (m.r 0 rfl) (hM.ext m.ext) hD hT2) ?_));simp only[zz];refine aA (bL rfl rfl) (aA (bL rfl rfl) ?_);simp only[zz];refine aY m rJ rfl ?_;clear m;intro g2 u m;simp only[zz];refine aY m bK rfl ?_;clear m;intro g3 u m;simp only[zz];refine aQ m 1 rfl rfl rfl cV (dH rfl) rfl ?_;clear m;intro u m;simp only[zy,zx,bB,zF,zG,Nat.reduceAdd] at m;refine aQ m 0 rfl rfl rfl aG (dH rfl) rfl ?_;clear m;intro u m;simp only[zy,zx,bB,zF,zG,Nat.reduceAdd] at m;refine aD (k8 _ _ ?_);refine aC fun K9 k9=>wp_region_lit (aA (aB) ?_);simp only[zz];refine aI rfl ((m.b 1 rfl).full kJ cV) ?_;simp only[zz];refine eL (qK (ek:=ed) (en:=pt) (k:=kp) (v0:=⟨0,0,0⟩) rS bK mB rfl rfl (hM2.ext m.ext) hD2) ?_;simp only[zz];refine aA (aB) (aA (bL rfl rfl) (aA (bL rfl rfl) ?_));simp only[zz];refine aY m bK rfl ?_;clear m;intro g4 u m;simp only[zz];refine aQ m 0 rfl rfl rfl aG (dH rfl) rfl ?_;clear m;intro u m;simp only[zy,zx,bB,zF,zG,Nat.reduceAdd] at m;refine aA (aF) (aD (k9 _ _ ?_));refine aC fun K10 k10=>wp_region_lit (aA (aB) (aA (iO rfl) (aA (aB) ?_)));simp only[zz];refine mT rfl (fun hb=>dI rfl ((m.b 1 rfl).full aK aG)) (mT rfl (fun hb=>dI rfl ((m.b 0 rfl).full aK aG)) (gN rfl (fun hb=>iF (bW hb rfl) (bW hb rfl)) (aA (iW rfl rfl rfl) (aD (k10 _ _ ?_)))));simp only[zz];refine fB rfl (fun hc3=>?_) (fun hc3=>?_)
    ·
     have hne : ¬ D1 = D2:=fun h=>by rw [← h,lI hnk hin] at hc3;simp at hc3
     refine aC fun K11 k11=>wp_region_lit (aA (aF) (aD (k11 _ _ ?_)));refine wp_ret ?_;simp only[zz];try simp only[Exit.inBlock,Exit.then,if_true]
     refine bP rfl rfl ?_;try simp only[zD,zE]
     exact ⟨_,rfl,m.ext,by rw [decide_eq_false hne]⟩
    ·
     have hv : cP D2 kp = some kb:=by
      cases h : cP D2 kp with
      | none=>rw [h] at hc3;cases hc3
      | some y =>
       rw [h] at hc3;simp only[Option.isSome_some,Bool.not_true,Bool.false_or,Option.getD_some,decide_eq_false_iff_not,Classical.not_not] at hc3;rw [jX.1 hc3]
     refine wp_skip ?_;simp only[Exit.inBlock,Exit.then];refine ⟨rs2.length,_,?_,rfl,?_,?_⟩
     · rw [hn,hp.length_eq];exact Nat.lt_succ_self _
     · simp only[zz,zv]
     ·
      simp only[zQ,zR,zD,zE];exact ⟨dn ++ [(kp,kb)],rs2,_,trivial,(m.sel [false,false,false,true]),hT2,fun x hx=>(List.mem_append.1 hx).elim (hall x) fun hx=>by obtain rfl:=List.mem_singleton.1 hx;exact hv,rfl⟩
   ·
    obtain rfl:=Ci hc2 hN;have hsm : D1 = D2:=Sq hk hnk fun x hx=>hall x (hT.done.mem_iff.2 hx);refine wp_exit (k4 _ _ ?_);refine aC fun K12 k12=>wp_region_lit (aA (aF) (aD (k12 _ _ ?_)));refine wp_ret ?_;simp only[zz];try simp only[Exit.inBlock,Exit.then,if_true]
    refine bP rfl rfl ?_;try simp only[zD,zE]
    exact ⟨_,rfl,m.ext,by rw [decide_eq_true hsm]⟩
theorem aao {F G H R J : Value} {g1 q c : Nat} {es : Array MapEntry} {D : List (P3 × P3)} {p : P3} (w : World) (hB1 : fQ w g1 [F,G,H,R,.map (some q),J] 73) (hM : jN w q es c) (hD : bZ pt pt D es c) : eE prog 75 [.pointer (some ⟨g1,0,none⟩),pt p] w (fun v _=>v = pt ((cP D p).getD p)):=by
 refine ⟨adD,?_⟩;have m:=bS.refl w
 go_enter func75,ntmps75
 refine aC fun K1 k1=>wp_region_lit (fA m rfl ?_);clear m;intro g2 u m;simp only[zz];refine aY m bK rfl ?_;clear m;intro g3 u m;refine aD (k1 _ _ ?_);refine aC fun K2 k2=>aC fun K3 k3=>?_;simp only[zz];apply ad2 m (T1:=48)
 ·
  refine Fc m [true,true] (.take 0 (.take 1 (.take 2 (.take 3 (.take 4 (.two 5 (.take 6 (.take 7 (.take 8 (.one 9 (.one 10 (.take 11 .nil)))))) 9 (.one 5 (.take 6 (.take 7 (.take 8 (.one 10 (.take 11 .nil)))))))))))) aP (by kernel_rfl) (fun _ _ _ _ _ h=>by cases h.1) ?_;intro u m;refine dR (by simp only[zw];rfl) (aW (aB) (dF (dR (by simp only[zw];rfl) (aW (cN rfl) (dF (dR (by simp only[zw];rfl) (aW (aJ (c:=0) iA rfl wM rfl rfl) (dF (dR (by simp only[zw];rfl) ?_)))))))));simp only[zz];refine bQ rfl (fun u m=>((hB1.ext m.ext).lies1 Mt rfl)) ?_;simp only[zz];refine dF (dR (by simp only[zw];rfl) (bQ rfl (fun u m=>((m.b 1 rfl).full aK aG)) ?_));simp only[zz];refine dF ?_;refine yL (by simp only[zw];rfl) (by simp only[zw];rfl) ?_ ?_
  ·
   refine eL (qK (ek:=pt) (en:=pt) (k:=p) (v0:=⟨0,0,0⟩) underlying71 bK gC rfl rfl (hM.ext m.ext) hD) ?_;simp only[zz];refine aD (⟨m,?_⟩);refine dR (by simp only[zw];rfl) (aW (aB) (dF (dR (by simp only[zw];rfl) (aW (bL rfl rfl) (dF (dR (by simp only[zw];rfl) (aW (bL rfl rfl) (dF (eP (by simp only[zw];rfl) ?_)))))))));simp only[zz];refine aY m bK rfl ?_;clear m;intro g4 u m;refine aD (⟨m.sel [false,true,true],?_⟩);refine eP (by simp only[zw];rfl) ?_;simp only[zz];refine aQ m 0 rfl rfl rfl aG (dH rfl) rfl ?_;clear m;intro u m;simp only[zy,zx,bB,zF,zG,Nat.reduceAdd] at m;refine aD (⟨m.sel [false,true,true],?_⟩);refine dR (by simp only[zw];rfl) (aW (aF) (dF (nP ?_)));exact ⟨rfl,g4,rfl,m⟩
  ·
   refine aY m bK rfl ?_;clear m;intro g4 u m;refine aD (⟨m.sel [false,true,true],?_⟩);refine eP (by simp only[zw];rfl) ?_;simp only[zz];refine eL (qK (ek:=pt) (en:=pt) (k:=p) (v0:=⟨0,0,0⟩) underlying71 bK gC rfl rfl (hM.ext m.ext) hD) ?_;simp only[zz];refine aD (⟨m.sel [false,true,true],?_⟩);refine dR (by simp only[zw];rfl) (aW (aB) (dF (dR (by simp only[zw];rfl) (aW (bL rfl rfl) (dF (dR (by simp only[zw];rfl) (aW (bL rfl rfl) (dF (eP (by simp only[zw];rfl) ?_)))))))));simp only[zz];refine aQ m 0 rfl rfl rfl aG (dH rfl) rfl ?_;clear m;intro u m;simp only[zy,zx,bB,zF,zG,Nat.reduceAdd] at m;refine aD (⟨m.sel [false,true,true],?_⟩);refine dR (by simp only[zw];rfl) (aW (aF) (dF (nP ?_)));exact ⟨rfl,g4,rfl,m⟩
 intro g4 u m;try dsimp only
 refine k3 _ _ ?_;refine aC fun K4 k4=>wp_region_lit (aA (aB) (aD (k4 _ _ ?_)));simp only[zz];refine fB rfl (fun hc1=>?_) (fun hc1=>?_)
 ·
  obtain ⟨y,hy⟩ : ∃ y,cP D p = some y:=by
   cases h : cP D p with
   | some y=>exact ⟨y,rfl⟩
   | none=>rw [h] at hc1;cases hc1
  refine aC fun K5 k5=>wp_region_lit (aI rfl ((m.b 0 rfl).full aK aG) ?_);simp only[zz];refine aQ m 1 rfl rfl rfl aG (dH rfl) rfl ?_;clear m;intro u m;simp only[zy,zx,bB,zF,zG,Nat.reduceAdd] at m;refine aD (k5 _ _ ?_);refine wp_ret ?_;try simp only[Exit.inBlock,Exit.then,if_true]
  refine bP rfl ⟨_,rfl,((m.b 1 rfl).full aK aG)⟩ ?_;try simp only[zD,zE]
  exact ⟨_,rfl,m.ext,by rw [hy];rfl⟩
 ·
  have hy : cP D p = none:=by
   cases h : cP D p with
   | none=>rfl
   | some y=>rw [h] at hc1;cases hc1
  refine wp_skip (k2 _ _ ?_);refine aC fun K6 k6=>wp_region_lit (aI rfl ((m.b 2 rfl).full aK aG) ?_);simp only[zz];refine aQ m 1 rfl rfl rfl aG (dH rfl) rfl ?_;clear m;intro u m;simp only[zy,zx,bB,zF,zG,Nat.reduceAdd] at m;refine aD (k6 _ _ ?_);refine wp_ret ?_;try simp only[Exit.inBlock,Exit.then,if_true]
  refine bP rfl ⟨_,rfl,((m.b 1 rfl).full aK aG)⟩ ?_;try simp only[zD,zE]
  exact ⟨_,rfl,m.ext,by rw [hy];rfl⟩
end Go.Proofs.YtfohfflkhpfjeaaGreatDoor
namespace Go.Lith
open Go.RowKit
theorem ad3 {d k : Nat} (hd : d < 4294967296) (hk : k < 2) : IntKind.u64.wrap ((d : Int) * 2 ^ (min (32 * (k : Int)).toNat IntKind.u64.bits)) = ((d * 4294967296 ^ k : Nat) : Int):=by
 obtain rfl | rfl : k = 0 ∨ k = 1:=by omega
 · rw [fY];simp;omega
 · rw [fY]
   simp only[IntKind.bits];show ((d : Int) * 2 ^ 32) % 18446744073709551616 = _
   omega
theorem aeC {s d k : Nat} (hs : s < 4294967296 ^ k) (hd : d < 4294967296) (hk : k < 2) : IntKind.u64.wrap ((BitVec.ofInt IntKind.u64.bits (s : Int) ||| BitVec.ofInt IntKind.u64.bits ((d * 4294967296 ^ k : Nat) : Int)).toNat : Int) = ((s + d * 4294967296 ^ k : Nat) : Int):=by
 rw [fY];show (((BitVec.ofInt 64 (s : Int) ||| BitVec.ofInt 64 ((d * 4294967296 ^ k : Nat) : Int)).toNat : Nat) : Int) % 18446744073709551616 = _
 rw [BitVec.toNat_or,BitVec.toNat_ofInt,BitVec.toNat_ofInt];obtain rfl | rfl : k = 0 ∨ k = 1:=by omega
 · obtain rfl : s = 0:=by omega
   have h1 : (((0 : Nat) : Int) % ((2 ^ 64 : Nat) : Int)).toNat = 0:=by simp
   have h2 : (((d * 4294967296 ^ 0 : Nat) : Int) % ((2 ^ 64 : Nat) : Int)).toNat = d:=by omega
   rw [h1,h2,Nat.zero_or];omega
 · have hs' : s < 2 ^ 32:=by omega
   have h1 : (((s : Nat) : Int) % ((2 ^ 64 : Nat) : Int)).toNat = s:=by omega
   have h2 : (((d * 4294967296 ^ 1 : Nat) : Int) % ((2 ^ 64 : Nat) : Int)).toNat = d <<< 32:=by rw [Nat.shiftLeft_eq];omega
   rw [h1,h2,Nat.or_comm,← Nat.shiftLeft_add_eq_or_of_lt hs' d,Nat.shiftLeft_eq];omega
theorem Xj {a : Int} {X : Nat} (h : X = a.natAbs) (hl : 2 < (digs 4294967296 X).length) : ¬ nO a:=fun k=>by
 have h1 : X < 4294967296 ^ 2:=by have:=k.natAbs;rw [← h] at this;omega
 have h2:=dO (B:=4294967296) (by omega) h1;omega
end Go.Lith
namespace Go.Proofs.YtfohfflkhpfjeaaGreatDoor
open Go.Proofs.Tryz
open Go.RowKit Go.Lith
set_option maxRecDepth 100000
attribute [local irreducible] wpList wpQuiet dD Code.wp
theorem Dh {l : List UInt8} (hl : l.length ≤ 1000000000000000) : jB prog 144 [.string (kI l),.int .u8 0] (.string (kI (gG l))):=by
 intro w;refine ⟨abO,?_⟩;have hX:=cZ.refl w
 go_enter func144,ntmps144
 refine aC (fun K1 hK1=>wp_region_lit (aA (aF) ?_));simp only[zz];refine aD (hK1 _ _ ?_);refine aC (fun K2 hK2=>wp_block ?_);refine bN [0] [5,6,7,8,9,10,11,12,13,14,15] (fun n vs wl=>∃ (k : List UInt8),vs = [.string (kI k)] ∧ (cZ w wl) ∧ (gG k = gG l) ∧ (k.length ≤ 1000000000000000) ∧ (n = k.length)) ?_ ?_
 ·
  apply Exists.intro;simp only[zQ,zR,zD,zE];exact ⟨l,rfl,hX,rfl,hl,rfl⟩
 ·
  intro n vs wr hI u;obtain ⟨k,rfl,hX,hk,hl,hn⟩:=hI;have hsz:=vD k;simp only[zu,zF,zG];refine aC (fun K3 hK3=>aC (fun K4 hK4=>?_));by_cases hk0 : 0 < k.length
  ·
   obtain ⟨b,hb⟩ : ∃ b,k[0]? = some b:=⟨k[0],List.getElem?_eq_getElem hk0⟩
   refine wp_region_lit (aA (aB) (aA (nZ rfl oO rfl) (aA (vB rfl rfl (by omega)) ?_)));simp only[zz];refine aA (aB) ?_;simp only[zz];refine bM rfl (aA (aB) ?_);simp only[zz];refine bM rfl ?_;refine aA ((mD oO rfl rfl (by omega) (by rw [Qj];exact hb))) ?_;simp only[zz];refine bM rfl (aA (aB) ?_);simp only[zz];refine bM rfl (aA (kL rfl rfl) (aA (eF rfl) ?_));simp only[zz];refine aD (hK4 _ _ ?_);refine cD rfl (fun hc1=>?_) (fun hc1=>?_)
   ·
    refine wp_skip ?_;refine hK3 _ _ (wp_block (wp_region_lit (aA (aB) (aA (Th oO rfl rfl (by omega) (by omega)) (aA (aF) ?_)))));simp only[zz];refine aD ?_;rw [show (1 : Int).toNat = 1 from rfl,Mc];simp only[Exit.inBlock,Exit.then];refine ⟨(k.drop 1).length,_,?_,rfl,?_,?_⟩
    · rw [List.length_drop];omega
    · simp only[zz,zv]
    ·
     simp only[zQ,zR,zD,zE];exact ⟨k.drop 1,rfl,hX,by rw [Md hb (by omega)];exact hk,by rw [List.length_drop];omega,rfl⟩
   ·
    refine wp_exit ?_;refine hK2 _ _ (aC (fun K5 hK5=>wp_region_lit (aA (aB) (aA (aF) ?_))));simp only[zz];refine aD (hK5 _ _ ?_);refine wp_ret ?_;try simp only[Exit.inBlock,Exit.then]
    refine bP rfl rfl ?_;try simp only[zD,zE]
    exact ⟨_,rfl,hX,by rw [← hk,Me hb (by omega)]⟩
  ·
   obtain rfl : k = []:=List.eq_nil_of_length_eq_zero (by omega);refine wp_region_lit (aA (aB) (aA (nZ rfl oO rfl) (aA (sF rfl rfl (by omega)) ?_)));simp only[zz];refine aA (aB) ?_;simp only[zz];refine dA rfl ?_;simp only[zz];refine dA rfl ?_;simp only[zz];refine dA rfl ?_;simp only[zz];refine dA rfl ?_;simp only[zz];refine aA (gF rfl) ?_;simp only[zz];refine aD (hK4 _ _ ?_);refine iT rfl (wp_exit ?_);refine hK2 _ _ (aC (fun K6 hK6=>wp_region_lit (aA (aB) (aA (aF) ?_))));simp only[zz];refine aD (hK6 _ _ ?_);refine wp_ret ?_;try simp only[Exit.inBlock,Exit.then]
   refine bP rfl rfl ?_;try simp only[zD,zE]
   exact ⟨_,rfl,hX,by rw [← hk,Qk]⟩
theorem Ny {l : List UInt8} (hl : l.length ≤ 1000000000000000) : jB prog 138 [.string (kI l),.string ⟨#[0]⟩] (.string (kI (gG l))):=by
 intro w;refine ⟨abM,?_⟩;have hX:=cZ.refl w;have hsz:=vD l
 go_enter func138,ntmps138
 refine aC (fun K1 hK1=>wp_region_lit (aA (aF) ?_));simp only[zz];refine aD (hK1 _ _ ?_);refine aC (fun K2 hK2=>aC (fun K3 hK3=>?_));by_cases hk0 : l = []
 ·
  subst hk0;refine wp_region_lit (aA (aB) (aA (xL (Mb oO rfl rfl) (show _ = Value.bool true by simp [kI])) (aA (aB) ?_)));simp only[zz];refine fG rfl ?_;simp only[zz];refine fG rfl ?_;simp only[zz];refine aA (eF rfl) ?_;simp only[zz];refine aD (hK3 _ _ ?_);refine cG rfl (aC (fun K4 hK4=>wp_region_lit (aA (aB) (aA (aF) ?_))));simp only[zz];refine aD (hK4 _ _ ?_);refine wp_ret ?_;try simp only[Exit.inBlock,Exit.then]
  refine bP rfl rfl ?_;try simp only[zD,zE]
  exact ⟨_,rfl,hX,rfl⟩
 ·
  refine wp_region_lit (aA (aB) (aA (xL (Mb oO rfl rfl) (show _ = Value.bool false by simp only[Iz,hk0,decide_false])) (aA (aB) ?_)));simp only[zz];refine bM rfl (aA (aB) ?_);simp only[zz];refine bM rfl (aA (xL (Mb oO rfl rfl) (show _ = Value.bool false by simp)) (aA (gF rfl) ?_));simp only[zz];refine aD (hK3 _ _ ?_);refine iT rfl (wp_skip ?_);refine hK2 _ _ (aC (fun K5 hK5=>aC (fun K6 hK6=>wp_region_lit (aA (aB) (aA (nZ rfl oO rfl) (aA (sG rfl rfl rfl) ?_))))));simp only[zz];refine aA (aB) ?_;simp only[zz];refine bM rfl (aA (aB) ?_);simp only[zz];refine bM rfl (aA ((mD (b:=0) oO rfl rfl (by omega) rfl)) ?_);simp only[zz];refine bM rfl (aA (bT rfl rfl (by decide)) (aA (eF rfl) ?_));simp only[zz];refine aD (hK6 _ _ ?_);refine cG rfl (aC (fun K7 hK7=>wp_region_lit (aA (aB) (aA (aB) ?_))));simp only[zz];refine aA ((mD (b:=0) oO rfl rfl (by omega) rfl)) ?_;simp only[zz];refine Gn rfl rfl (Dh hl) ?_;intro w1 hE;replace hX:=hX.trans hE;clear hE;simp only[zz];refine aA (aF) ?_;simp only[zz];refine aD (hK7 _ _ ?_);refine wp_ret ?_;try simp only[Exit.inBlock,Exit.then]
  refine bP rfl rfl ?_;try simp only[zD,zE]
  exact ⟨_,rfl,hX,rfl⟩
end Go.Proofs.YtfohfflkhpfjeaaGreatDoor
namespace Go.Proofs.YtfohfflkhpfjeaaGreatDoor
open Go.Proofs.Tryz
open Go.RowKit Go.Lith
set_option maxRecDepth 100000
attribute [local irreducible] wpList wpQuiet dD Code.wp
theorem pO {A : Option Addr} {xs : List Nat} {na cap : Nat} (w : World) (hS : cX w A na cap xs) : eE prog 132 [.slice A na cap] w (fun v _=>v = .slice A (trim xs).length cap):=by
 skip
 refine ⟨abG,?_⟩;have hX:=cZ.refl w;obtain rfl:=hS.eq;have hl:=hS.len;have hle:=hS.le
 go_enter func132,ntmps132
 refine aC (fun K1 hK1=>wp_region_lit (aA (aF) ?_));simp only[zz];refine aD (hK1 _ _ ?_);refine aC (fun K2 hK2=>wp_block ?_);refine bN [0] [3,4,5,6,7,8,9,10,11,12,13,14,15,16,17,18,19] (fun n vs wl=>∃ (k : Nat),vs = [.slice A k cap] ∧ (cZ w wl) ∧ (k ≤ xs.length) ∧ (trim (xs.take k) = trim xs) ∧ (n = k)) ?_ ?_
 ·
  apply Exists.intro;simp only[zQ,zR,zD,zE];exact ⟨xs.length,rfl,hX,Nat.le_refl _,by rw [List.take_length],rfl⟩
 ·
  intro n vs wr hI u;obtain ⟨k,rfl,hX,hk,ht,hn⟩:=hI;simp only[zu,zF,zG];refine aC (fun K3 hK3=>aC (fun K4 hK4=>?_));by_cases hk0 : 0 < k
  ·
   obtain ⟨a,rfl,hcell,hlt⟩:=(hS.ext hX).get (show k - 1 < xs.length by omega);refine wp_region_lit (aA (aB) (aA (bC rfl bA rfl) (aA (vB rfl rfl (by omega)) ?_)));simp only[zz];refine aA (aB) ?_;simp only[zz];refine bM rfl (aA (aB) ?_);simp only[zz];refine bM rfl (aA (aB) ?_);simp only[zz];refine bM rfl (aA (bC rfl bA rfl) ?_);simp only[zz];refine bM rfl (aA (eI rfl rfl (aM (by omega) (by omega))) ?_);simp only[zz];refine bM rfl (aA (aL bA aZ rfl rfl (by omega) (by omega) (fW (show _ = k - 1 by omega))) ?_);simp only[zz];refine bM rfl (aI rfl (lies1 hcell eD) ?_);simp only[zz];refine bM rfl (aA (kL rfl rfl) (aA (eF rfl) ?_));simp only[zz];refine aD (hK4 _ _ ?_);refine cD rfl (fun hc1=>?_) (fun hc1=>?_)
   ·
    refine wp_skip ?_;refine hK3 _ _ (wp_block (wp_region_lit (aA (aB) (aA (aB) (aA (bC rfl bA rfl) ?_)))));simp only[zz];refine aA (eI rfl rfl (aM (by omega) (by omega))) (aA (kB bA aZ rfl rfl (show _ = k - 1 by omega) (by omega) (by omega)) (aA (aF) ?_));simp only[zz];refine aD ?_;simp only[Exit.inBlock,Exit.then];refine ⟨k - 1,_,?_,rfl,?_,?_⟩
    · omega
    · simp only[zz,zv]
    ·
     simp only[zQ,zR,zD,zE];exact ⟨k - 1,rfl,hX,by omega,Er hk0 (by omega) hc1 ht,rfl⟩
   ·
    refine wp_exit ?_;refine hK2 _ _ (aC (fun K5 hK5=>wp_region_lit (aA (aB) (aA (aF) ?_))));simp only[zz];refine aD (hK5 _ _ ?_);refine wp_ret ?_;try simp only[Exit.inBlock,Exit.then]
    refine bP rfl rfl ?_;try simp only[zD,zE]
    exact ⟨_,rfl,hX,by rw [← Im hk0 (by omega) hc1 ht]⟩
  ·
   obtain rfl : k = 0:=by omega
   refine wp_region_lit (aA (aB) (aA (bC rfl bA rfl) (aA (sF rfl rfl (by omega)) ?_)));simp only[zz];refine aA (aB) ?_;simp only[zz];refine dA rfl ?_;simp only[zz];refine dA rfl ?_;simp only[zz];refine dA rfl ?_;simp only[zz];refine dA rfl ?_;simp only[zz];refine dA rfl ?_;simp only[zz];refine dA rfl ?_;simp only[zz];refine dA rfl ?_;simp only[zz];refine aA (gF rfl) ?_;simp only[zz];refine aD (hK4 _ _ ?_);refine iT rfl (wp_exit ?_);refine hK2 _ _ (aC (fun K6 hK6=>wp_region_lit (aA (aB) (aA (aF) ?_))));simp only[zz];refine aD (hK6 _ _ ?_);refine wp_ret ?_;try simp only[Exit.inBlock,Exit.then]
   refine bP rfl rfl ?_;try simp only[zD,zE]
   exact ⟨_,rfl,hX,by rw [← Io ht]⟩
theorem Pi {A B : Option Addr} {xs ys : List Nat} {na nb ca cb : Nat} (w : World) (hS : cX w A na ca xs) (hR : cX w B nb cb ys) (tx : eY xs) (ty : eY ys) : eE prog 118 [.slice A na ca,.slice B nb cb] w (fun v _=>v = .int .i64 (Iq (val 4294967296 xs) (val 4294967296 ys))):=by
 skip
 refine ⟨abw,?_⟩;have hX:=cZ.refl w;obtain rfl:=hS.eq;obtain rfl:=hR.eq;have hl:=hS.len;have hl2:=hR.len
 go_enter func118,ntmps118
 refine aC (fun K1 hK1=>wp_region_lit (aA (aF) ?_));simp only[zz];refine aD (hK1 _ _ ?_);refine aC (fun K2 hK2=>wp_block (aC (fun K3 hK3=>wp_region_lit (aA (aB) (aA (bC rfl bA rfl) (aA (aB) ?_))))));simp only[zz];refine aA (bC rfl bA rfl) (aA (cS rfl rfl) (aA (aF) ?_));simp only[zz];refine aD (hK3 _ _ ?_);refine cD rfl (fun hc1=>?_) (fun hc1=>?_)
 ·
  refine aC (fun K4 hK4=>wp_region_lit (aA (aF) ?_));simp only[zz];refine aD (hK4 _ _ ?_);refine wp_ret ?_;try simp only[Exit.inBlock,Exit.then]
  refine bP rfl rfl ?_;try simp only[zD,zE]
  exact ⟨_,rfl,hX,by rw [Iq,if_pos (iU (by omega) hS.digs hR.digs ty (by omega))]⟩
 ·
  refine aC (fun K5 hK5=>wp_region_lit (aA (aB) (aA (bC rfl bA rfl) (aA (aB) ?_))));simp only[zz];refine aA (bC rfl bA rfl) (aA (oQ rfl rfl) (aA (aF) ?_));simp only[zz];refine aD (hK5 _ _ ?_);refine cD rfl (fun hc2=>?_) (fun hc2=>?_)
  ·
   refine aC (fun K6 hK6=>wp_region_lit (aA (aF) ?_));simp only[zz];refine aD (hK6 _ _ ?_);refine wp_ret ?_;try simp only[Exit.inBlock,Exit.then]
   refine bP rfl rfl ?_;try simp only[zD,zE]
   exact ⟨_,rfl,hX,by have:=iU (B:=4294967296) (by omega) hR.digs hS.digs tx (by omega);rw [Iq,if_neg (by omega),if_pos this]⟩
  ·
   refine wp_skip ?_;refine hK2 _ _ (aC (fun K7 hK7=>aC (fun K8 hK8=>wp_region_lit (aA (aB) (aA (bC rfl bA rfl) (aA (eI rfl rfl (aM (by omega) (by omega))) ?_))))));simp only[zz];refine aA (aF) ?_;simp only[zz];refine aD (hK8 _ _ ?_);refine wp_block (bN [5] [4,21,22,23,24,25,26,27,28,29,30,31,32,33,34,35,36,37,38,39,40,41,42,43,44] (fun n vs wl=>∃ (k : Nat),vs = [.int .i64 ((k:Int) - 1)] ∧ (cZ w wl) ∧ (k ≤ xs.length) ∧ (xs.drop k = ys.drop k) ∧ (n = k)) ?_ ?_)
   ·
    apply Exists.intro;simp only[zQ,zR,zD,zE];exact ⟨xs.length,rfl,hX,Nat.le_refl _,by rw [List.drop_length,show xs.length = ys.length by omega,List.drop_length],rfl⟩
   ·
    intro n vs wr hI u;obtain ⟨k,rfl,hX,hk,hd,hn⟩:=hI;simp only[zu,zF,zG];refine aC (fun K9 hK9=>aC (fun K10 hK10=>wp_region_lit (aA (aB) (aA (oR rfl rfl) ?_))));simp only[zz];refine aD (hK10 _ _ ?_);refine cD rfl (fun hc3=>?_) (fun hc3=>?_)
    ·
     refine wp_skip ?_;refine hK9 _ _ (aC (fun K11 hK11=>wp_block (wp_block (aC (fun K12 hK12=>?_)))));obtain ⟨a,rfl,hca,_⟩:=(hS.ext hX).get (show k - 1 < xs.length by omega);obtain ⟨b,rfl,hcb,_⟩:=(hR.ext hX).get (show k - 1 < ys.length by omega);refine gQ aP (by kernel_rfl) (aN (aB) (aN (aB) (aN (aL bA aZ rfl rfl (by omega) (by omega) (fW (show _ = k - 1 by omega))) ?_)));simp only[zz];refine gW rfl (fun _ hE'=>(lies1 (hE'.cell hca) eD)) ?_;simp only[zz];refine aN (aB) (aN (aB) (aN (aL bA aZ rfl rfl (by omega) (by omega) (fW (show _ = k - 1 by omega))) ?_));simp only[zz];refine gW rfl (fun _ hE'=>(lies1 (hE'.cell hcb) eD)) ?_;simp only[zz];refine aN (cS rfl rfl) (aN (aF) ?_);simp only[zz];refine dN ?_;intro w1 hE;replace hX:=hX.trans hE;clear hE;refine hK12 _ _ (cD rfl (fun hc4=>?_) (fun hc4=>?_))
     ·
      refine aC (fun K13 hK13=>wp_region_lit (aA (aF) ?_));simp only[zz];refine aD (hK13 _ _ ?_);refine wp_ret ?_;try simp only[Exit.inBlock,Exit.then]
      refine bP rfl rfl ?_;try simp only[zD,zE]
      exact ⟨_,rfl,hX,by rw [Iq,if_pos (Tn hS.digs (by omega) (by omega) (by omega) hd hc4)]⟩
     ·
      refine aC (fun K14 hK14=>?_);have hca:=(hS.ext hX).at (show k - 1 < xs.length by omega);have hcb:=(hR.ext hX).at (show k - 1 < ys.length by omega);refine gQ aP (by kernel_rfl) (aN (aB) (aN (aB) (aN (aL bA aZ rfl rfl (by omega) (by omega) (fW (show _ = k - 1 by omega))) ?_)));simp only[zz];refine gW rfl (fun _ hE'=>(lies1 (hE'.cell hca) eD)) ?_;simp only[zz];refine aN (aB) (aN (aB) (aN (aL bA aZ rfl rfl (by omega) (by omega) (fW (show _ = k - 1 by omega))) ?_));simp only[zz];refine gW rfl (fun _ hE'=>(lies1 (hE'.cell hcb) eD)) ?_;simp only[zz];refine aN (oQ rfl rfl) (aN (aF) ?_);simp only[zz];refine dN ?_;intro w2 hE;replace hX:=hX.trans hE;clear hE;refine hK14 _ _ (cD rfl (fun hc5=>?_) (fun hc5=>?_))
      ·
       refine aC (fun K15 hK15=>wp_region_lit (aA (aF) ?_));simp only[zz];refine aD (hK15 _ _ ?_);refine wp_ret ?_;try simp only[Exit.inBlock,Exit.then]
       refine bP rfl rfl ?_;try simp only[zD,zE]
       exact ⟨_,rfl,hX,by have:=Tn hR.digs (by omega) (by omega) (by omega) hd.symm hc5;rw [Iq,if_neg (by omega),if_pos this]⟩
      ·
       refine wp_skip ?_;refine hK11 _ _ (wp_region_lit (aA (aB) (aA (eI rfl rfl (aM (by omega) (by omega))) (aA (aF) ?_))));simp only[zz];refine aD ?_;rw [show ((k:Int) - 1 - 1) = ((k - 1 : Nat) : Int) - 1 by omega];simp only[Exit.inBlock,Exit.then];refine ⟨k - 1,_,?_,rfl,?_,?_⟩
       · omega
       · simp only[zz,zv]
       ·
        simp only[zQ,zR,zD,zE];exact ⟨k - 1,rfl,hX,by omega,Py (by omega) (by omega) (by omega) hd hc4 hc5,rfl⟩
    ·
     refine wp_exit ?_;refine hK7 _ _ (aC (fun K16 hK16=>wp_region_lit (aA (aF) ?_)));simp only[zz];refine aD (hK16 _ _ ?_);refine wp_ret ?_;try simp only[Exit.inBlock,Exit.then]
     refine bP rfl rfl ?_;try simp only[zD,zE]
     exact ⟨_,rfl,hX,by have h0 : k = 0:=(by omega);subst h0;simp only[List.drop_zero] at hd;rw [hd,Iq,if_neg (by omega),if_neg (by omega)]⟩
theorem aaT {A B : Option Addr} {xs ys : List Nat} {na nb ca cb : Nat} (w : World) (hS : cX w A na ca xs) (hR : cX w B nb cb ys) (hlx : xs.length ≤ 1099511627776) (hly : ys.length ≤ 1099511627776) : eE prog 116 [.slice A na ca,.slice B nb cb] w (fS (val 4294967296 xs + val 4294967296 ys)):=by
 skip
 refine ⟨abu,?_⟩;have hX:=cZ.refl w;obtain rfl:=hS.eq;obtain rfl:=hR.eq
 go_enter func116,ntmps116
 refine aC (fun K1 hK1=>wp_region_lit (aA (aF) ?_));simp only[zz];refine aD (hK1 _ _ ?_);refine aC (fun K2 hK2=>aC (fun K3 hK3=>wp_region_lit (aA (aB) (aA (bC rfl bA rfl) (aA (aB) ?_)))));simp only[zz];refine aA (bC rfl bA rfl) (aA (cS rfl rfl) ?_);simp only[zz];refine aD (hK3 _ _ ?_);refine cD rfl (fun hc1=>?_) (fun hc1=>?_)
 ·
  obtain ⟨qb,rfl⟩ : ∃ q,q = xs:=⟨_,rfl⟩
  obtain ⟨qa,rfl⟩ : ∃ q,q = ys:=⟨_,rfl⟩
  obtain ⟨Qb,rfl⟩ : ∃ q,q = A:=⟨_,rfl⟩
  obtain ⟨Qa,rfl⟩ : ∃ q,q = B:=⟨_,rfl⟩
  have hSa:=hR;have hSb:=hS;refine wp_region_lit (aA (aB) (aA (aB) (aA (aF) ?_)));simp only[zz];refine aA (aF) ?_;simp only[zz];refine aD (hK2 _ _ ?_);refine aC (fun K4 hK4=>wp_region_lit (aA (aB) (aA (bC rfl bA rfl) (aA (aR rfl rfl (aM (by omega) (by omega))) ?_))));simp only[zz];refine kU bA kV rfl rfl rfl (show _ = qa.length + 1 by omega) (show _ = qa.length + 1 by omega) (by omega) (by omega) (by omega) (by omega) ?_;intro w1 g1 hE hg1 hB1;have hG1:=Nat.le_trans hX.size hg1;replace hX:=hX.trans hE;clear hE hg1;simp only[zz];refine aA (aF) ?_;simp only[zz];refine aD ?_;rw [fJ] at hB1;refine hK4 _ _ (aC (fun K5 hK5=>wp_region_lit (aA (aF) ?_)));simp only[zz];refine aD (hK5 _ _ ?_);refine aC (fun K6 hK6=>aC (fun K7 hK7=>wp_region_lit (aA (aB) (aA (bC rfl bA rfl) (aA (aB) ?_)))));simp only[zz];refine aD (hK7 _ _ ?_);refine wp_block (bN [6,22] [7,8,23,24,25,26,27,28,29,30,31,32,33,34,35,36,37,38,39,40,41,42,43,44,45,46,47,48] (fun n vs wl=>∃ (i c : Nat) (os : List Nat),vs = [.int .u64 (c:Int),.int .i64 (i:Int)] ∧ (cZ w wl) ∧ (fQ wl g1 (os.map jH) 126) ∧ (i ≤ qa.length) ∧ (os.length = qa.length + 1) ∧ (val 4294967296 os + 4294967296 ^ i * c = val 4294967296 (qa.take i) + val 4294967296 (qb.take i)) ∧ (os.drop i = List.replicate (qa.length + 1 - i) 0) ∧ (cJ 4294967296 os) ∧ (c ≤ 1) ∧ (n = qa.length - i)) ?_ ?_)
  ·
   apply Exists.intro;simp only[zQ,zR,zD,zE];exact ⟨0,0,List.replicate (qa.length + 1) 0,rfl,hX,hB1,by omega,by simp,by simp [eH,val],by simp,fun x hx=>by rw [List.eq_of_mem_replicate hx];decide,by omega,rfl⟩
  ·
   intro n vs wr hI u;obtain ⟨i,c,os,rfl,hX,hB1,hi,hlo,hv,hz,hd,hc,hn⟩:=hI;simp only[zu,zF,zG];refine aC (fun K8 hK8=>wp_region_lit (aA (cS rfl rfl) ?_));simp only[zz];refine aD (hK8 _ _ ?_);refine aC (fun K9 hK9=>?_);refine cD rfl (fun hc2=>?_) (fun hc2=>?_)
   ·
    refine wp_skip ?_;refine hK9 _ _ (aC (fun K10 hK10=>wp_block (aC (fun K11 hK11=>wp_region_lit (aA (aB) (aA (aF) ?_))))));simp only[zz];refine aD (hK11 _ _ ?_);refine aC (fun K12 hK12=>?_);obtain ⟨a,rfl,hca,hla⟩:=(hSa.ext hX).get (show i < qa.length by omega);refine wp_region_lit (aA (aB) (aA (aB) (aA (aL bA aZ rfl rfl (by omega) (by omega) (fW (Int.toNat_natCast _))) ?_)));simp only[zz];refine aI rfl (lies1 hca eD) ?_;simp only[zz];refine aA (aB) (aA (aR rfl rfl (eT (by omega) (by omega))) (aA (aF) ?_));simp only[zz];refine aD (hK12 _ _ ?_);refine aC (fun K13 hK13=>aC (fun K14 hK14=>wp_region_lit (aA (aB) (aA (aB) (aA (bC rfl bA rfl) ?_)))));simp only[zz];refine aA (cS rfl rfl) ?_;simp only[zz];refine aD (hK14 _ _ ?_);refine cD rfl (fun hc3=>?_) (fun hc3=>?_)
    ·
     obtain ⟨b,rfl,hcb,hlb⟩:=(hSb.ext hX).get (show i < qb.length by omega);refine wp_region_lit (aA (aB) (aA (aB) (aA (aB) ?_)));simp only[zz];refine aA (aL bA aZ rfl rfl (by omega) (by omega) (fW (Int.toNat_natCast _))) ?_;simp only[zz];refine aI rfl (lies1 hcb eD) ?_;simp only[zz];refine aA (aR rfl rfl (eT (by omega) (by omega))) (aA (aF) ?_);simp only[zz];refine aD ?_;obtain ⟨s,hs⟩ : ∃ s : Nat,(s : Int) = ↑qa[i] + ↑c + ↑qb[i]:=⟨qa[i] + c + qb[i],by omega⟩
     rw [← hs];have hs2 : s = qa[i] + c + qb[i]?.getD 0:=by rw [List.getElem?_eq_getElem (by omega)];simp;omega
     have hyb : qb[i]?.getD 0 < 4294967296:=by rw [List.getElem?_eq_getElem (by omega)];exact hlb
     refine hK13 _ _ ?_;refine wp_region_lit (aA (aB) (aA (aB) (aA (aB) ?_)));simp only[zz];refine aA (pR rfl rfl (mX (by omega) (by omega))) (aA (aB) (aA (oS rfl rfl (by omega) (Es (by omega))) ?_));simp only[zz];refine aA (aL bA aZ rfl rfl (by omega) (by omega) (eM (Int.toNat_natCast _))) ?_;simp only[zz];refine cK rfl (by simp only[zz];rfl) (by exact aZ) hB1 (by simp;omega) (by simp [Value.oneCell']) ?_;clear hB1;intro w2 hC hB1;replace hX:=hX.chg hC hG1;clear hC;rw [show ((s:Int) % 4294967296) = ((s % 4294967296 : Nat) : Int) by omega,fE (by omega)] at hB1;refine aA (aF) ?_;simp only[zz];refine aD (hK10 _ _ ?_);refine wp_region_lit (aA (aR rfl rfl (aM (by omega) (by omega))) (aA (aB) ?_));simp only[zz];refine aD ?_;obtain ⟨r1,r2,r3,r4⟩:=tR (by omega) hlo hv hz hd hc hs2 hla hyb;rw [show ((i:Int) + 1) = ((i + 1 : Nat) : Int) by omega,show ((s:Int) / 4294967296) = ((s / 4294967296 : Nat) : Int) by omega];simp only[Exit.inBlock,Exit.then];refine ⟨qa.length - (i + 1),_,?_,rfl,?_,?_⟩
     · omega
     · simp only[zz,zv]
     ·
      simp only[zQ,zR,zD,zE];exact ⟨i + 1,s / 4294967296,os.set i (s % 4294967296),rfl,hX,hB1,by omega,by simpa using hlo,r1,r2,r3,r4,rfl⟩
    ·
     obtain ⟨s,hs⟩ : ∃ s : Nat,(s : Int) = ↑qa[i] + ↑c:=⟨qa[i] + c,by omega⟩
     rw [← hs];have hs2 : s = qa[i] + c + qb[i]?.getD 0:=by rw [List.getElem?_eq_none (by omega)];simp;omega
     have hyb : qb[i]?.getD 0 < 4294967296:=by rw [List.getElem?_eq_none (by omega)];decide
     refine wp_skip ?_;refine hK13 _ _ (wp_region_lit (aA (aB) (aA (aB) (aA (aB) ?_))));simp only[zz];refine aA (pR rfl rfl (mX (by omega) (by omega))) (aA (aB) (aA (oS rfl rfl (by omega) (Es (by omega))) ?_));simp only[zz];refine aA (aL bA aZ rfl rfl (by omega) (by omega) (eM (Int.toNat_natCast _))) ?_;simp only[zz];refine cK rfl (by simp only[zz];rfl) (by exact aZ) hB1 (by simp;omega) (by simp [Value.oneCell']) ?_;clear hB1;intro w2 hC hB1;replace hX:=hX.chg hC hG1;clear hC;rw [show ((s:Int) % 4294967296) = ((s % 4294967296 : Nat) : Int) by omega,fE (by omega)] at hB1;refine aA (aF) ?_;simp only[zz];refine aD (hK10 _ _ ?_);refine wp_region_lit (aA (aR rfl rfl (aM (by omega) (by omega))) (aA (aB) ?_));simp only[zz];refine aD ?_;obtain ⟨r1,r2,r3,r4⟩:=tR (by omega) hlo hv hz hd hc hs2 hla hyb;rw [show ((i:Int) + 1) = ((i + 1 : Nat) : Int) by omega,show ((s:Int) / 4294967296) = ((s / 4294967296 : Nat) : Int) by omega];simp only[Exit.inBlock,Exit.then];refine ⟨qa.length - (i + 1),_,?_,rfl,?_,?_⟩
     · omega
     · simp only[zz,zv]
     ·
      simp only[zQ,zR,zD,zE];exact ⟨i + 1,s / 4294967296,os.set i (s % 4294967296),rfl,hX,hB1,by omega,by simpa using hlo,r1,r2,r3,r4,rfl⟩
   ·
    refine wp_exit ?_;refine hK6 _ _ (aC (fun K15 hK15=>?_));obtain rfl : i = qa.length:=by omega
    refine wp_region_lit (aA (aB) (aA (aB) (aA (bC rfl bA rfl) ?_)));simp only[zz];refine aA (aB) (aA (aL bA aZ rfl rfl (by omega) (by omega) (eM (Int.toNat_natCast _))) ?_);simp only[zz];refine cK rfl (by simp only[zz];rfl) (by exact aZ) hB1 (by simp;omega) (by simp [Value.oneCell']) ?_;clear hB1;intro w2 hC hB1;replace hX:=hX.chg hC hG1;clear hC;rw [fE (by omega)] at hB1;refine aD (hK15 _ _ ?_);refine aC (fun K16 hK16=>wp_region_lit (aA (aB) ?_));simp only[zz];refine bE rfl rfl (pO _ (hB1.nat (hd.set (show c < 4294967296 by omega)) (by simp;omega) (by omega))) ?_;rintro v w3 hE rfl;replace hB1:=hB1.ext hE;replace hX:=hX.trans hE;clear hE;simp only[zz];refine aA (aF) ?_;simp only[zz];refine aD (hK16 _ _ ?_);refine wp_ret ?_;try simp only[Exit.inBlock,Exit.then]
    refine bP rfl rfl ?_;try simp only[zD,zE]
    exact ⟨_,rfl,hX,by first | exact fS.of_trim (hB1.nat (hd.set (show c < 4294967296 by omega)) (by simp;omega) (by omega)) (zZ (by omega) hlo hv hz) | (rw [Nat.add_comm];exact fS.of_trim (hB1.nat (hd.set (show c < 4294967296 by omega)) (by simp;omega) (by omega)) (zZ (by omega) hlo hv hz))⟩
 ·
  obtain ⟨qa,rfl⟩ : ∃ q,q = xs:=⟨_,rfl⟩
  obtain ⟨qb,rfl⟩ : ∃ q,q = ys:=⟨_,rfl⟩
  obtain ⟨Qa,rfl⟩ : ∃ q,q = A:=⟨_,rfl⟩
  obtain ⟨Qb,rfl⟩ : ∃ q,q = B:=⟨_,rfl⟩
  have hSa:=hS;have hSb:=hR;refine wp_skip (hK2 _ _ ?_);refine aC (fun K17 hK17=>wp_region_lit (aA (aB) (aA (bC rfl bA rfl) (aA (aR rfl rfl (aM (by omega) (by omega))) ?_))));simp only[zz];refine kU bA kV rfl rfl rfl (show _ = qa.length + 1 by omega) (show _ = qa.length + 1 by omega) (by omega) (by omega) (by omega) (by omega) ?_;intro w1 g1 hE hg1 hB1;have hG1:=Nat.le_trans hX.size hg1;replace hX:=hX.trans hE;clear hE hg1;simp only[zz];refine aA (aF) ?_;simp only[zz];refine aD ?_;rw [fJ] at hB1;refine hK17 _ _ (aC (fun K18 hK18=>wp_region_lit (aA (aF) ?_)));simp only[zz];refine aD (hK18 _ _ ?_);refine aC (fun K19 hK19=>aC (fun K20 hK20=>wp_region_lit (aA (aB) (aA (bC rfl bA rfl) (aA (aB) ?_)))));simp only[zz];refine aD (hK20 _ _ ?_);refine wp_block (bN [6,22] [7,8,23,24,25,26,27,28,29,30,31,32,33,34,35,36,37,38,39,40,41,42,43,44,45,46,47,48] (fun n vs wl=>∃ (i c : Nat) (os : List Nat),vs = [.int .u64 (c:Int),.int .i64 (i:Int)] ∧ (cZ w wl) ∧ (fQ wl g1 (os.map jH) 126) ∧ (i ≤ qa.length) ∧ (os.length = qa.length + 1) ∧ (val 4294967296 os + 4294967296 ^ i * c = val 4294967296 (qa.take i) + val 4294967296 (qb.take i)) ∧ (os.drop i = List.replicate (qa.length + 1 - i) 0) ∧ (cJ 4294967296 os) ∧ (c ≤ 1) ∧ (n = qa.length - i)) ?_ ?_)
  ·
   apply Exists.intro;simp only[zQ,zR,zD,zE];exact ⟨0,0,List.replicate (qa.length + 1) 0,rfl,hX,hB1,by omega,by simp,by simp [eH,val],by simp,fun x hx=>by rw [List.eq_of_mem_replicate hx];decide,by omega,rfl⟩
  ·
   intro n vs wr hI u;obtain ⟨i,c,os,rfl,hX,hB1,hi,hlo,hv,hz,hd,hc,hn⟩:=hI;simp only[zu,zF,zG];refine aC (fun K21 hK21=>wp_region_lit (aA (cS rfl rfl) ?_));simp only[zz];refine aD (hK21 _ _ ?_);refine aC (fun K22 hK22=>?_);refine cD rfl (fun hc2=>?_) (fun hc2=>?_)
   ·
    refine wp_skip ?_;refine hK22 _ _ (aC (fun K23 hK23=>wp_block (aC (fun K24 hK24=>wp_region_lit (aA (aB) (aA (aF) ?_))))));simp only[zz];refine aD (hK24 _ _ ?_);refine aC (fun K25 hK25=>?_);obtain ⟨a,rfl,hca,hla⟩:=(hSa.ext hX).get (show i < qa.length by omega);refine wp_region_lit (aA (aB) (aA (aB) (aA (aL bA aZ rfl rfl (by omega) (by omega) (fW (Int.toNat_natCast _))) ?_)));simp only[zz];refine aI rfl (lies1 hca eD) ?_;simp only[zz];refine aA (aB) (aA (aR rfl rfl (eT (by omega) (by omega))) (aA (aF) ?_));simp only[zz];refine aD (hK25 _ _ ?_);refine aC (fun K26 hK26=>aC (fun K27 hK27=>wp_region_lit (aA (aB) (aA (aB) (aA (bC rfl bA rfl) ?_)))));simp only[zz];refine aA (cS rfl rfl) ?_;simp only[zz];refine aD (hK27 _ _ ?_);refine cD rfl (fun hc3=>?_) (fun hc3=>?_)
    ·
     obtain ⟨b,rfl,hcb,hlb⟩:=(hSb.ext hX).get (show i < qb.length by omega);refine wp_region_lit (aA (aB) (aA (aB) (aA (aB) ?_)));simp only[zz];refine aA (aL bA aZ rfl rfl (by omega) (by omega) (fW (Int.toNat_natCast _))) ?_;simp only[zz];refine aI rfl (lies1 hcb eD) ?_;simp only[zz];refine aA (aR rfl rfl (eT (by omega) (by omega))) (aA (aF) ?_);simp only[zz];refine aD ?_;obtain ⟨s,hs⟩ : ∃ s : Nat,(s : Int) = ↑qa[i] + ↑c + ↑qb[i]:=⟨qa[i] + c + qb[i],by omega⟩
     rw [← hs];have hs2 : s = qa[i] + c + qb[i]?.getD 0:=by rw [List.getElem?_eq_getElem (by omega)];simp;omega
     have hyb : qb[i]?.getD 0 < 4294967296:=by rw [List.getElem?_eq_getElem (by omega)];exact hlb
     refine hK26 _ _ ?_;refine wp_region_lit (aA (aB) (aA (aB) (aA (aB) ?_)));simp only[zz];refine aA (pR rfl rfl (mX (by omega) (by omega))) (aA (aB) (aA (oS rfl rfl (by omega) (Es (by omega))) ?_));simp only[zz];refine aA (aL bA aZ rfl rfl (by omega) (by omega) (eM (Int.toNat_natCast _))) ?_;simp only[zz];refine cK rfl (by simp only[zz];rfl) (by exact aZ) hB1 (by simp;omega) (by simp [Value.oneCell']) ?_;clear hB1;intro w2 hC hB1;replace hX:=hX.chg hC hG1;clear hC;rw [show ((s:Int) % 4294967296) = ((s % 4294967296 : Nat) : Int) by omega,fE (by omega)] at hB1;refine aA (aF) ?_;simp only[zz];refine aD (hK23 _ _ ?_);refine wp_region_lit (aA (aR rfl rfl (aM (by omega) (by omega))) (aA (aB) ?_));simp only[zz];refine aD ?_;obtain ⟨r1,r2,r3,r4⟩:=tR (by omega) hlo hv hz hd hc hs2 hla hyb;rw [show ((i:Int) + 1) = ((i + 1 : Nat) : Int) by omega,show ((s:Int) / 4294967296) = ((s / 4294967296 : Nat) : Int) by omega];simp only[Exit.inBlock,Exit.then];refine ⟨qa.length - (i + 1),_,?_,rfl,?_,?_⟩
     · omega
     · simp only[zz,zv]
     ·
      simp only[zQ,zR,zD,zE];exact ⟨i + 1,s / 4294967296,os.set i (s % 4294967296),rfl,hX,hB1,by omega,by simpa using hlo,r1,r2,r3,r4,rfl⟩
    ·
     obtain ⟨s,hs⟩ : ∃ s : Nat,(s : Int) = ↑qa[i] + ↑c:=⟨qa[i] + c,by omega⟩
     rw [← hs];have hs2 : s = qa[i] + c + qb[i]?.getD 0:=by rw [List.getElem?_eq_none (by omega)];simp;omega
     have hyb : qb[i]?.getD 0 < 4294967296:=by rw [List.getElem?_eq_none (by omega)];decide
     refine wp_skip ?_;refine hK26 _ _ (wp_region_lit (aA (aB) (aA (aB) (aA (aB) ?_))));simp only[zz];refine aA (pR rfl rfl (mX (by omega) (by omega))) (aA (aB) (aA (oS rfl rfl (by omega) (Es (by omega))) ?_));simp only[zz];refine aA (aL bA aZ rfl rfl (by omega) (by omega) (eM (Int.toNat_natCast _))) ?_;simp only[zz];refine cK rfl (by simp only[zz];rfl) (by exact aZ) hB1 (by simp;omega) (by simp [Value.oneCell']) ?_;clear hB1;intro w2 hC hB1;replace hX:=hX.chg hC hG1;clear hC;rw [show ((s:Int) % 4294967296) = ((s % 4294967296 : Nat) : Int) by omega,fE (by omega)] at hB1;refine aA (aF) ?_;simp only[zz];refine aD (hK23 _ _ ?_);refine wp_region_lit (aA (aR rfl rfl (aM (by omega) (by omega))) (aA (aB) ?_));simp only[zz];refine aD ?_;obtain ⟨r1,r2,r3,r4⟩:=tR (by omega) hlo hv hz hd hc hs2 hla hyb;rw [show ((i:Int) + 1) = ((i + 1 : Nat) : Int) by omega,show ((s:Int) / 4294967296) = ((s / 4294967296 : Nat) : Int) by omega];simp only[Exit.inBlock,Exit.then];refine ⟨qa.length - (i + 1),_,?_,rfl,?_,?_⟩
     · omega
     · simp only[zz,zv]
     ·
      simp only[zQ,zR,zD,zE];exact ⟨i + 1,s / 4294967296,os.set i (s % 4294967296),rfl,hX,hB1,by omega,by simpa using hlo,r1,r2,r3,r4,rfl⟩
   ·
    refine wp_exit ?_;refine hK19 _ _ (aC (fun K28 hK28=>?_));obtain rfl : i = qa.length:=by omega
    refine wp_region_lit (aA (aB) (aA (aB) (aA (bC rfl bA rfl) ?_)));simp only[zz];refine aA (aB) (aA (aL bA aZ rfl rfl (by omega) (by omega) (eM (Int.toNat_natCast _))) ?_);simp only[zz];refine cK rfl (by simp only[zz];rfl) (by exact aZ) hB1 (by simp;omega) (by simp [Value.oneCell']) ?_;clear hB1;intro w2 hC hB1;replace hX:=hX.chg hC hG1;clear hC;rw [fE (by omega)] at hB1;refine aD (hK28 _ _ ?_);refine aC (fun K29 hK29=>wp_region_lit (aA (aB) ?_));simp only[zz];refine bE rfl rfl (pO _ (hB1.nat (hd.set (show c < 4294967296 by omega)) (by simp;omega) (by omega))) ?_;rintro v w3 hE rfl;replace hB1:=hB1.ext hE;replace hX:=hX.trans hE;clear hE;simp only[zz];refine aA (aF) ?_;simp only[zz];refine aD (hK29 _ _ ?_);refine wp_ret ?_;try simp only[Exit.inBlock,Exit.then]
    refine bP rfl rfl ?_;try simp only[zD,zE]
    exact ⟨_,rfl,hX,by first | exact fS.of_trim (hB1.nat (hd.set (show c < 4294967296 by omega)) (by simp;omega) (by omega)) (zZ (by omega) hlo hv hz) | (rw [Nat.add_comm];exact fS.of_trim (hB1.nat (hd.set (show c < 4294967296 by omega)) (by simp;omega) (by omega)) (zZ (by omega) hlo hv hz))⟩
theorem Xk {A B : Option Addr} {xs ys : List Nat} {na nb ca cb : Nat} (w : World) (hS : cX w A na ca xs) (hR : cX w B nb cb ys) (hle : ys.length ≤ xs.length) (hge : val 4294967296 ys ≤ val 4294967296 xs) (hlx : xs.length ≤ 1099511627776) : eE prog 121 [.slice A na ca,.slice B nb cb] w (fun v w'=>fS (val 4294967296 xs - val 4294967296 ys) v w' ∧ pW w v):=by
 skip
 refine ⟨abz,?_⟩;have hX:=cZ.refl w;obtain rfl:=hS.eq;obtain rfl:=hR.eq
 go_enter func121,ntmps121
 refine aC (fun K1 hK1=>wp_region_lit (aA (aF) ?_));simp only[zz];refine aD (hK1 _ _ ?_);refine aC (fun K2 hK2=>wp_region_lit (aA (aB) (aA (bC rfl bA rfl) ?_)));simp only[zz];refine kU bA kV rfl rfl rfl (Int.toNat_natCast _) (Int.toNat_natCast _) (by omega) (by omega) (by omega) (by omega) ?_;intro w1 g1 hE hg1 hB1;have hG1:=Nat.le_trans hX.size hg1;replace hX:=hX.trans hE;clear hE hg1;simp only[zz];refine aA (aF) ?_;simp only[zz];refine aD ?_;rw [fJ] at hB1;refine hK2 _ _ (aC (fun K3 hK3=>wp_region_lit (aA (aF) ?_)));simp only[zz];refine aD (hK3 _ _ ?_);refine aC (fun K4 hK4=>aC (fun K5 hK5=>wp_region_lit (aA (aB) (aA (bC rfl bA rfl) (aA (aB) ?_)))));simp only[zz];refine aD (hK5 _ _ ?_);refine wp_block (bN [6,14] [7,8,15,16,17,18,19,20,21,22,23,24,25,26,27,28,29,30,31,32,33,34,35,36,37,38,39,40] (fun n vs wl=>∃ (i c : Nat) (os : List Nat),vs = [.int .u64 (c:Int),.int .i64 (i:Int)] ∧ (cZ w wl) ∧ (fQ wl g1 (os.map jH) 126) ∧ (i ≤ xs.length) ∧ (os.length = xs.length) ∧ (val 4294967296 os + val 4294967296 (ys.take i) = val 4294967296 (xs.take i) + 4294967296 ^ i * c) ∧ (os.drop i = List.replicate (xs.length - i) 0) ∧ (cJ 4294967296 os) ∧ (c ≤ 1) ∧ (n = xs.length - i)) ?_ ?_)
 ·
  apply Exists.intro;simp only[zQ,zR,zD,zE];exact ⟨0,0,List.replicate xs.length 0,rfl,hX,hB1,by omega,by simp,by simp [eH,val],by simp,fun x hx=>by rw [List.eq_of_mem_replicate hx];decide,by omega,rfl⟩
 ·
  intro n vs wr hI u;obtain ⟨i,c,os,rfl,hX,hB1,hi,hlo,hv,hz,hd,hc,hn⟩:=hI;simp only[zu,zF,zG];refine aC (fun K6 hK6=>wp_region_lit (aA (cS rfl rfl) ?_));simp only[zz];refine aD (hK6 _ _ ?_);refine aC (fun K7 hK7=>?_);refine cD rfl (fun hc1=>?_) (fun hc1=>?_)
  ·
   refine wp_skip ?_;refine hK7 _ _ (aC (fun K8 hK8=>wp_block (aC (fun K9 hK9=>wp_region_lit (aA (aB) (aA (aF) ?_))))));simp only[zz];refine aD (hK9 _ _ ?_);refine aC (fun K10 hK10=>?_);obtain ⟨a,rfl,hca,hla⟩:=(hS.ext hX).get (show i < xs.length by omega);refine wp_region_lit (aA (aB) (aA (aB) (aA (aL bA aZ rfl rfl (by omega) (by omega) (fW (Int.toNat_natCast _))) ?_)));simp only[zz];refine aI rfl (lies1 hca eD) ?_;simp only[zz];refine aA (aB) (aA (eI rfl rfl (fY _)) (aA (aF) ?_));simp only[zz];refine aD (hK10 _ _ ?_);refine aC (fun K11 hK11=>aC (fun K12 hK12=>wp_region_lit (aA (aB) (aA (aB) (aA (bC rfl bA rfl) ?_)))));simp only[zz];refine aA (cS rfl rfl) ?_;simp only[zz];refine aD (hK12 _ _ ?_);refine cD rfl (fun hc2=>?_) (fun hc2=>?_)
   ·
    obtain ⟨b,rfl,hcb,hlb⟩:=(hR.ext hX).get (show i < ys.length by omega);refine wp_region_lit (aA (aB) (aA (aB) (aA (aB) ?_)));simp only[zz];refine aA (aL bA aZ rfl rfl (by omega) (by omega) (fW (Int.toNat_natCast _))) ?_;simp only[zz];refine aI rfl (lies1 hcb eD) ?_;simp only[zz];refine aA (eI rfl rfl (fY _)) (aA (aF) ?_);simp only[zz];refine aD ?_;obtain ⟨s,hs⟩ : ∃ s : Nat,(s : Int) = ((↑xs[i] - ↑c) % 18446744073709551616 - ↑ys[i]) % 18446744073709551616:=⟨(((↑xs[i] - ↑c) % 18446744073709551616 - ↑ys[i]) % 18446744073709551616 : Int).toNat,by omega⟩
    rw [← hs];have hs2 : (s : Int) = ((xs[i] : Nat) - (c : Nat) - (ys[i]?.getD 0 : Nat) : Int) % 18446744073709551616:=by rw [List.getElem?_eq_getElem (by omega)];simp only[Option.getD_some];omega
    have hyb : ys[i]?.getD 0 < 4294967296:=by rw [List.getElem?_eq_getElem (by omega)];exact hlb
    refine hK11 _ _ ?_;have hs64 : s < 18446744073709551616:=by omega
    refine wp_region_lit (aA (aB) (aA (aB) (aA (aB) ?_)));simp only[zz];refine aA (pR rfl rfl (mX (by omega) (by omega))) (aA (aB) (aA (oS rfl rfl (by omega) (aaH (by omega))) ?_));simp only[zz];refine aA (aL bA aZ rfl rfl (by omega) (by omega) (eM (Int.toNat_natCast _))) ?_;simp only[zz];refine cK rfl (by simp only[zz];rfl) (by exact aZ) hB1 (by simp;omega) (by simp [Value.oneCell']) ?_;clear hB1;intro w2 hC hB1;replace hX:=hX.chg hC hG1;clear hC;rw [show ((s:Int) % 4294967296) = ((s % 4294967296 : Nat) : Int) by omega,fE (by omega)] at hB1;refine aA (aF) ?_;simp only[zz];refine aD (hK8 _ _ ?_);refine wp_region_lit (aA (aR rfl rfl (aM (by omega) (by omega))) (aA (aB) ?_));simp only[zz];refine aD ?_;obtain ⟨r1,r2,r3,r4⟩:=Et (by omega) hlo hv hz hd hc hs2 hla hyb;rw [show ((i:Int) + 1) = ((i + 1 : Nat) : Int) by omega,show ((s:Int) / 9223372036854775808) = ((s / 9223372036854775808 : Nat) : Int) by omega];simp only[Exit.inBlock,Exit.then];refine ⟨xs.length - (i + 1),_,?_,rfl,?_,?_⟩
    · omega
    · simp only[zz,zv]
    ·
     simp only[zQ,zR,zD,zE];exact ⟨i + 1,s / 9223372036854775808,os.set i (s % 4294967296),rfl,hX,hB1,by omega,by simpa using hlo,r1,r2,r3,r4,rfl⟩
   ·
    obtain ⟨s,hs⟩ : ∃ s : Nat,(s : Int) = (↑xs[i] - ↑c) % 18446744073709551616:=⟨((↑xs[i] - ↑c) % 18446744073709551616 : Int).toNat,by omega⟩
    rw [← hs];have hs2 : (s : Int) = ((xs[i] : Nat) - (c : Nat) - (ys[i]?.getD 0 : Nat) : Int) % 18446744073709551616:=by rw [List.getElem?_eq_none (by omega)];simp only[Option.getD_none];omega
    have hyb : ys[i]?.getD 0 < 4294967296:=by rw [List.getElem?_eq_none (by omega)];decide
    refine wp_skip ?_;refine hK11 _ _ ?_;have hs64 : s < 18446744073709551616:=by omega
    refine wp_region_lit (aA (aB) (aA (aB) (aA (aB) ?_)));simp only[zz];refine aA (pR rfl rfl (mX (by omega) (by omega))) (aA (aB) (aA (oS rfl rfl (by omega) (aaH (by omega))) ?_));simp only[zz];refine aA (aL bA aZ rfl rfl (by omega) (by omega) (eM (Int.toNat_natCast _))) ?_;simp only[zz];refine cK rfl (by simp only[zz];rfl) (by exact aZ) hB1 (by simp;omega) (by simp [Value.oneCell']) ?_;clear hB1;intro w2 hC hB1;replace hX:=hX.chg hC hG1;clear hC;rw [show ((s:Int) % 4294967296) = ((s % 4294967296 : Nat) : Int) by omega,fE (by omega)] at hB1;refine aA (aF) ?_;simp only[zz];refine aD (hK8 _ _ ?_);refine wp_region_lit (aA (aR rfl rfl (aM (by omega) (by omega))) (aA (aB) ?_));simp only[zz];refine aD ?_;obtain ⟨r1,r2,r3,r4⟩:=Et (by omega) hlo hv hz hd hc hs2 hla hyb;rw [show ((i:Int) + 1) = ((i + 1 : Nat) : Int) by omega,show ((s:Int) / 9223372036854775808) = ((s / 9223372036854775808 : Nat) : Int) by omega];simp only[Exit.inBlock,Exit.then];refine ⟨xs.length - (i + 1),_,?_,rfl,?_,?_⟩
    · omega
    · simp only[zz,zv]
    ·
     simp only[zQ,zR,zD,zE];exact ⟨i + 1,s / 9223372036854775808,os.set i (s % 4294967296),rfl,hX,hB1,by omega,by simpa using hlo,r1,r2,r3,r4,rfl⟩
  ·
   refine wp_exit ?_;refine hK4 _ _ (aC (fun K13 hK13=>?_));obtain rfl : i = xs.length:=by omega
   refine wp_region_lit (aA (aB) ?_);simp only[zz];refine bE rfl rfl (pO _ (hB1.nat hd (by omega) (by omega))) ?_;rintro v w2 hE rfl;replace hB1:=hB1.ext hE;replace hX:=hX.trans hE;clear hE;simp only[zz];refine aA (aF) ?_;simp only[zz];refine aD (hK13 _ _ ?_);refine wp_ret ?_;try simp only[Exit.inBlock,Exit.then]
   refine bP rfl rfl ?_;try simp only[zD,zE]
   exact ⟨_,rfl,hX,fS.of_trim (hB1.nat hd (n:=xs.length) (by omega) (by omega)) (Yl hle hlo hd hv hge),pW.of_blk hG1⟩
theorem Xl {A B : Option Addr} {xs ys : List Nat} {na nb ca cb : Nat} (w : World) (hS : cX w A na ca xs) (hR : cX w B nb cb ys) (hlx : xs.length ≤ 1099511627776) (hly : ys.length ≤ 1099511627776) : eE prog 120 [.slice A na ca,.slice B nb cb] w (fS (val 4294967296 xs * val 4294967296 ys)):=by
 skip
 refine ⟨aby,?_⟩;have hX:=cZ.refl w;obtain rfl:=hS.eq;obtain rfl:=hR.eq
 go_enter func120,ntmps120
 refine aC (fun K1 hK1=>wp_region_lit (aA (aF) ?_));simp only[zz];refine aD (hK1 _ _ ?_);refine aC (fun K2 hK2=>wp_region_lit (aA (aB) (aA (bC rfl bA rfl) (aA (aB) ?_))));simp only[zz];refine aA (bC rfl bA rfl) (aA (aR rfl rfl (aM (by omega) (by omega))) ?_);simp only[zz];refine kU bA kV rfl rfl rfl (show _ = xs.length + ys.length by omega) (show _ = xs.length + ys.length by omega) (by omega) (by omega) (by omega) (by omega) ?_;intro w1 g1 hE hg1 hB1;have hG1:=Nat.le_trans hX.size hg1;replace hX:=hX.trans hE;clear hE hg1;simp only[zz];refine aA (aF) ?_;simp only[zz];refine aD ?_;rw [fJ] at hB1;refine hK2 _ _ (aC (fun K3 hK3=>aC (fun K4 hK4=>wp_region_lit (aA (aB) (aA (bC rfl bA rfl) (aA (aB) ?_))))));simp only[zz];refine aD (hK4 _ _ ?_);refine wp_block (bN [20] [6,7,8,9,10,11,21,22,23,24,25,26,27,28,29,30,31,32,33,34,35,36,37,38,39,40,41,42,43,44,45,46,47,48,49,50,51,52,53,54,55,56,57,58,59,60,61] (fun n vs wl=>∃ (i : Nat) (os : List Nat),vs = [.int .i64 (i:Int)] ∧ (cZ w wl) ∧ (fQ wl g1 (os.map jH) 126) ∧ (i ≤ xs.length) ∧ (os.length = xs.length + ys.length) ∧ (val 4294967296 os = val 4294967296 (xs.take i) * val 4294967296 ys) ∧ (os.drop (i + ys.length) = List.replicate (xs.length - i) 0) ∧ (cJ 4294967296 os) ∧ (n = xs.length - i)) ?_ ?_)
 ·
  apply Exists.intro;simp only[zQ,zR,zD,zE];exact ⟨0,List.replicate (xs.length + ys.length) 0,rfl,hX,hB1,by omega,by simp,by rw [eH,List.take_zero];simp only[val,Nat.zero_mul],by rw [List.drop_replicate];congr 1;omega,fun x hx=>by rw [List.eq_of_mem_replicate hx];decide,rfl⟩
 ·
  intro n vs wr hI u;obtain ⟨i,os,rfl,hX,hB1,hi,hlo,hv,hz,hd,hn⟩:=hI;simp only[zu,zF,zG];refine aC (fun K5 hK5=>wp_region_lit (aA (cS rfl rfl) ?_));simp only[zz];refine aD (hK5 _ _ ?_);refine aC (fun K6 hK6=>?_);refine cD rfl (fun hc1=>?_) (fun hc1=>?_)
  ·
   refine wp_skip ?_;refine hK6 _ _ (aC (fun K7 hK7=>wp_block (aC (fun K8 hK8=>?_))));obtain ⟨a,rfl,hca,hla⟩:=(hS.ext hX).get (show i < xs.length by omega);refine wp_region_lit (aA (aB) (aA (aL bA aZ rfl rfl (by omega) (by omega) (fW (Int.toNat_natCast _))) ?_));simp only[zz];refine aI rfl (lies1 hca eD) ?_;simp only[zz];refine aA (aF) (aA (aF) ?_);simp only[zz];refine aD (hK8 _ _ ?_);refine aC (fun K9 hK9=>wp_region_lit (aA (aF) ?_));simp only[zz];refine aD (hK9 _ _ ?_);refine aC (fun K10 hK10=>aC (fun K11 hK11=>wp_region_lit (aA (aB) (aA (bC rfl bA rfl) (aA (aB) ?_)))));simp only[zz];refine aD (hK11 _ _ ?_);refine wp_block (bN [8,27] [9,10,11,28,29,30,31,32,33,34,35,36,37,38,39,40,41,42,43,44,45,46,47,48,49,50,51,52,53] (fun n vs wl=>∃ (k c : Nat) (os : List Nat),vs = [.int .u64 (c:Int),.int .i64 (k:Int)] ∧ (cZ w wl) ∧ (fQ wl g1 (os.map jH) 126) ∧ (k ≤ ys.length) ∧ (os.length = xs.length + ys.length) ∧ (val 4294967296 os + 4294967296 ^ (i + k) * c = val 4294967296 (xs.take i) * val 4294967296 ys + 4294967296 ^ i * (xs[i] * val 4294967296 (ys.take k))) ∧ (os.drop (i + ys.length) = List.replicate (xs.length - i) 0) ∧ (cJ 4294967296 os) ∧ (c < 4294967296) ∧ (n = ys.length - k)) ?_ ?_)
   ·
    apply Exists.intro;simp only[zQ,zR,zD,zE];exact ⟨0,0,os,rfl,hX,hB1,by omega,hlo,by rw [List.take_zero,hv];simp only[val,Nat.mul_zero],hz,hd,by omega,rfl⟩
   ·
    intro n vs wr hI u;obtain ⟨k,c,os,rfl,hX,hB1,hk,hlo,hv2,hz,hd,hc,hn2⟩:=hI;simp only[zu,zF,zG];refine aC (fun K12 hK12=>wp_region_lit (aA (cS rfl rfl) ?_));simp only[zz];refine aD (hK12 _ _ ?_);refine aC (fun K13 hK13=>?_);refine cD rfl (fun hc2=>?_) (fun hc2=>?_)
    ·
     refine wp_skip ?_;refine hK13 _ _ (aC (fun K14 hK14=>wp_block (aC (fun K15 hK15=>?_))));obtain ⟨b,rfl,hcb,hlb⟩:=(hR.ext hX).get (show k < ys.length by omega);refine wp_region_lit (aA (aB) (aA (aL bA aZ rfl rfl (by omega) (by omega) (fW (Int.toNat_natCast _))) ?_));simp only[zz];refine aI rfl (lies1 hcb eD) ?_;simp only[zz];refine aA (aF) (aA (aF) ?_);simp only[zz];refine aD (hK15 _ _ ?_);refine aC (fun K16 hK16=>?_);have hco:=hB1.word (show i + k < os.length by omega);have hlo2:=hd.get (List.getElem?_eq_getElem (show i + k < os.length by omega));obtain ⟨hm0,hm1⟩:=Yn hla hlb;refine wp_region_lit (aA (aB) (aA (aB) (aA (aB) ?_)));simp only[zz];refine aA (aR rfl rfl (aM (by omega) (by omega))) (aA (aL bA aZ rfl rfl (by omega) (by omega) (eM (show _ = i + k by omega))) ?_);simp only[zz];refine aI rfl (lies1 hco eD) ?_;simp only[zz];refine aA (aB) (aA (aB) (aA (eO rfl rfl (eT (by omega) (by omega))) ?_));simp only[zz];refine aA (aR rfl rfl (eT (by omega) (by omega))) (aA (aB) (aA (aR rfl rfl (eT (by omega) (by omega))) ?_));simp only[zz];refine aA (aF) ?_;simp only[zz];refine aD ?_;obtain ⟨s,hs⟩ : ∃ s : Nat,s = os[i + k] + xs[i] * ys[k] + c:=⟨_,rfl⟩
     have hsI : (↑os[i + k] + ↑xs[i] * ↑ys[k] + ↑c : Int) = (s : Int):=by rw [hs];simp
     rw [hsI];have hs64 : s < 18446744073709551616:=by omega
     refine hK16 _ _ ?_;refine wp_region_lit (aA (aB) (aA (aB) (aA (aB) ?_)));simp only[zz];refine aA (aR rfl rfl (aM (by omega) (by omega))) (aA (aB) (aA (pR rfl rfl (mX (by omega) (by omega))) ?_));simp only[zz];refine aA (aB) (aA (oS rfl rfl (by omega) (Es (by omega))) (aA (aL bA aZ rfl rfl (by omega) (by omega) (eM (show _ = i + k by omega))) ?_));simp only[zz];refine cK rfl (by simp only[zz];rfl) (by exact aZ) hB1 (by simp;omega) (by simp [Value.oneCell']) ?_;clear hB1;intro w2 hC hB1;replace hX:=hX.chg hC hG1;clear hC;rw [show ((s:Int) % 4294967296) = ((s % 4294967296 : Nat) : Int) by omega,fE (by omega)] at hB1;refine aA (aF) ?_;simp only[zz];refine aD (hK14 _ _ ?_);refine wp_region_lit (aA (aR rfl rfl (aM (by omega) (by omega))) (aA (aB) ?_));simp only[zz];refine aD ?_;have r1:=Pz (by omega) (by omega) hlo hv2 hs;rw [show ((k:Int) + 1) = ((k + 1 : Nat) : Int) by omega,show ((s:Int) / 4294967296) = ((s / 4294967296 : Nat) : Int) by omega];simp only[Exit.inBlock,Exit.then];refine ⟨ys.length - (k + 1),_,?_,rfl,?_,?_⟩
     · omega
     · simp only[zz,zv]
     ·
      simp only[zQ,zR,zD,zE];exact ⟨k + 1,s / 4294967296,os.set (i + k) (s % 4294967296),rfl,hX,hB1,by omega,by simpa using hlo,r1,by rw [mY (by omega)];exact hz,hd.set (by omega),by omega,rfl⟩
    ·
     refine wp_exit ?_;refine hK10 _ _ ?_;obtain rfl : k = ys.length:=by omega
     refine wp_region_lit (aA (aB) (aA (aB) (aA (aB) ?_)));simp only[zz];refine aA (bC rfl bA rfl) (aA (aR rfl rfl (aM (by omega) (by omega))) (aA (aB) ?_));simp only[zz];refine aA (aL bA aZ rfl rfl (by omega) (by omega) (eM (show _ = i + ys.length by omega))) ?_;simp only[zz];refine cK rfl (by simp only[zz];rfl) (by exact aZ) hB1 (by simp;omega) (by simp [Value.oneCell']) ?_;clear hB1;intro w2 hC hB1;replace hX:=hX.chg hC hG1;clear hC;rw [fE (by omega)] at hB1;refine aD (hK7 _ _ ?_);refine wp_region_lit (aA (aR rfl rfl (aM (by omega) (by omega))) (aA (aB) ?_));simp only[zz];refine aD ?_;obtain ⟨r1,r2⟩:=Ym (by omega) hlo hv2 hz;rw [show ((i:Int) + 1) = ((i + 1 : Nat) : Int) by omega];simp only[Exit.inBlock,Exit.then];refine ⟨xs.length - (i + 1),_,?_,rfl,?_,?_⟩
     · omega
     · simp only[zz,zv]
     ·
      simp only[zQ,zR,zD,zE];exact ⟨i + 1,os.set (i + ys.length) c,rfl,hX,hB1,by omega,by simpa using hlo,r1,r2,hd.set (by omega),rfl⟩
  ·
   refine wp_exit ?_;refine hK3 _ _ (aC (fun K17 hK17=>?_));obtain rfl : i = xs.length:=by omega
   refine wp_region_lit (aA (aB) ?_);simp only[zz];refine bE rfl rfl (pO _ (hB1.nat hd (by omega) (by omega))) ?_;rintro v w2 hE rfl;replace hB1:=hB1.ext hE;replace hX:=hX.trans hE;clear hE;simp only[zz];refine aA (aF) ?_;simp only[zz];refine aD (hK17 _ _ ?_);refine wp_ret ?_;try simp only[Exit.inBlock,Exit.then]
   refine bP rfl rfl ?_;try simp only[zD,zE]
   exact ⟨_,rfl,hX,fS.of_trim (hB1.nat hd (n:=xs.length + ys.length) (by omega) (by omega)) (by rw [hv,List.take_length])⟩
end Go.Proofs.YtfohfflkhpfjeaaGreatDoor
