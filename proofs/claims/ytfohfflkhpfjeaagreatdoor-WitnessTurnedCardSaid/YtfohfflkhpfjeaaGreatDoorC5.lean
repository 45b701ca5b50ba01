/-
 Texts of one claim, laid together: W3, Nc, Dig, Dig2, Dig3, Cst, We, Maps2, W4, W5, Int, Wide6, Wide1.
-/
import Derived.Test.YtfohfflkhpfjeaaGreatDoorC4
set_option maxHeartbeats 8000000
set_option linter.unusedSimpArgs false
set_option linter.unusedVariables false
set_option linter.unusedSectionVars false
namespace Go.Proofs.YtfohfflkhpfjeaaGreatDoor
open Go.Proofs.Tryz
open Go.RowKit Go.Lith
abbrev nQ:=@underlying102
abbrev tZ:=@underlying104
abbrev oM:=@underlying106
abbrev bB:=@underlying157
abbrev Bn:=@underlying184
abbrev mS:=@underlying185
set_option maxRecDepth 100000
attribute [local irreducible] wpList wpQuiet dY dQ dO Code.wp
def pD (n : Nat) : Value:=.int .i64 (n : Int)
theorem oN {K V : Type} [DecidableEq K] (xs : List (K × V)) (k : K) (v : V) : mZ [] (xs ++ [(k,v)]) = gS (mZ [] xs) k v:=Ny [] xs [(k,v)]
theorem pX {K : Type} [DecidableEq K] (ks : List K) (k : K) : rO [] (ks ++ [k]) = gS (rO [] ks) k ((dD (rO [] ks) k).getD 0 + 1):=aay [] ks [k]
theorem Ou {K : Type} [DecidableEq K] (ks : List K) (k : K) : (dD (rO [] ks) k).getD 0 = qV ks k:=by rw [Nz];simp [dD]
theorem Dl {K : Type} [DecidableEq K] (ks : List K) (k : K) : (dD (rO [] ks) k).getD 0 ≤ ks.length:=by rw [Ou];exact List.length_filter_le _ _
theorem aen {nx : P3 → Option P3} {s a y : P3} {n z : Nat} (h : ¬ a = s) (hb : nx a = some y) : vM nx s (n + 1) a z = vM nx s n y (z + 1):=by rw [vM,if_neg h,hb]
theorem acA {nx : P3 → Option P3} {s a : P3} {n z : Nat} (hb : nx a = none) : vM nx s n a z = (a,z):=by
 cases n with
 | zero=>rfl
 | succ n=>rw [vM,hb];split <;> rfl
theorem aeo {nx : P3 → Option P3} {s a : P3} {M z : Nat} (hz : z ≤ M + 1) (h : a = s ∨ ¬ z ≤ M) : vM nx s (M + 1 - z) a z = (a,z):=by
 rcases h with rfl | h
 · exact aaz
 · rw [show M + 1 - z = 0 by omega];rfl
theorem aep {x y : P3} : (¬ x.x = y.x ∨ ¬ x.y = y.y ∨ ¬ x.z = y.z) ↔ ¬ x = y:=by
 rw [← gH];exact ⟨fun h k=>h.elim (fun h=>h k.1) fun h=>h.elim (fun h=>h k.2.1) fun h=>h k.2.2,fun h=>by
  rcases Classical.em (x.x = y.x) with h1 | h1
  ·
   rcases Classical.em (x.y = y.y) with h2 | h2
   · exact .inr (.inr fun h3=>h ⟨h1,h2,h3⟩)
   · exact .inr (.inl h2)
  · exact .inl h1⟩
theorem aaV {a s : P3} {z M : Nat} (h : (decide (¬ (a.x = s.x ∧ a.y = s.y ∧ a.z = s.z)) && decide ((z : Int) ≤ (M : Int))) = false) : a = s ∨ ¬ z ≤ M:=by
 rcases Classical.em (a = s) with k | k
 · exact .inl k
 ·
  refine .inr fun k4=>?_;rw [decide_eq_true (mt gH.1 k),decide_eq_true (Int.ofNat_le.2 k4)] at h;cases h
theorem aaW {ts : List T3} {es : Array MapEntry} {sn : Array Nat} {dn : List (E3 × P3)} (h : mQ ed pt (mZ [] (eY ts)) es sn dn []) (hnd : (aV ts).Nodup) (hno : ∀ y ∈ dn,¬ Le ts y.1) (e : E3) : ¬ Le ts e:=fun he=>by
 obtain ⟨x,hx,_⟩:=id he;have h1 : dD (mZ [] (eY ts)) e = some x:=by rw [← hx];exact sM hnd e.1 e.2
 exact hno _ (h.done.mem_iff.2 (yW h1)) he
theorem Jj (ts : List T3) : (cL ts).length = ts.length * 3:=yY ts
theorem Sd {ts : List T3} {N cap : Nat} {A : Option Addr} (w : World) (hT : eO w A N ts) (hN : N ≤ 10000000) (hnd : (aV ts).Nodup) : eK prog 123 [.slice A N cap] w (fun v _=>v = .bool ((fB ts).any (Es ts))):=by
 refine ⟨adS,?_⟩;have m:=cA.refl w
 go_enter func123,ntmps123
 refine aD fun K1 k1=>wp_region_lit (aA (aC) (aG (k1 _ _ ?_)));refine aD fun K2 k2=>wp_region_lit ?_;simp only[zz];refine kT m ?_;clear m;intro q8 u m;have hD8:=cO.nil (K:=E3) (V:=P3) ed pt;refine aA (aC) (aG (k2 _ _ ?_));refine aD fun K3 k3=>wp_region_lit ?_;simp only[zz];refine kT m ?_;clear m;intro q9 u m;have hD9:=cO.nil (K:=P3) (V:=Nat) pt pD;refine aA (aC) (aG (k3 _ _ ?_));refine aD fun K4 k4=>aD fun K5 k5=>wp_region_lit (aA (aB) (aA (aW rfl bS rfl) ?_));simp only[zz];refine aA (aB) (aG (k5 _ _ ?_));refine wp_block ?_;simp only[zz];try simp only[Nat.zero_add,Nat.reduceAdd,Nat.reduceMul,Int.reduceToNat]
 refine bH [18] [6,7,8,19,20,21,22,23,24,25,26,27,28,29,30,31,32,33,34,35,36,37,38,39,40,41,42,43,44,45,46,47] (fun n vs wl=>∃ (k : Nat) (es8 es9 : Array MapEntry) (c8 c9 : Nat),vs = [.int .i64 (k:Int)] ∧ cA w wl [mI q9 es9 c9,mI q8 es8 c8] ∧ (cO ed pt (mZ [] (eY (ts.take k))) es8 c8) ∧ (cO pt pD (rO [] (cL (ts.take k))) es9 c9) ∧ (k ≤ N) ∧ (n = N - k)) ?_ ?_
 ·
  apply Exists.intro;simp only[zQ,zR,zD,zE];exact ⟨0,_,_,_,_,rfl,m,hD8,hD9,Nat.zero_le _,rfl⟩
 ·
  intro n vs wr hI u;clear m;obtain ⟨k,es8,es9,c8,c9,rfl,m,hD8,hD9,hk,hn⟩:=hI;simp only[zu,zF,zG];refine aD fun K6 k6=>wp_region_lit (aA (cE rfl rfl) (aG (k6 _ _ ?_)));refine aD fun K7 k7=>?_;simp only[zz];refine bZ rfl (fun hc1=>?_) (fun hc1=>?_)
  ·
   obtain ⟨t,ht,_,a,rfl,hrow⟩:=hT.get (i:=k) (by omega);have hcl:=Jj (ts.take k);rw [List.length_take] at hcl;refine wp_skip (k7 _ _ ?_);refine aD fun K8 k8=>wp_block (aD fun K9 k9=>wp_region_lit (aA (aI bS aT rfl rfl (by omega) (by omega) (bV (Int.toNat_natCast _))) ?_));simp only[zz];refine aK rfl ((hrow.ext m.ext).lies eQ aT) ?_;simp only[zz];refine bF m jX rfl ?_;clear m;intro g3 u m;simp only[zz];refine aS m 0 rfl rfl rfl aT (dZ rfl) rfl ?_;clear m;intro u m;simp only[zy,zx,bG,zF,zG,Nat.reduceAdd] at m;refine aG (k9 _ _ ?_);refine aD fun K10 k10=>wp_region_lit (aK rfl ((m.b 0 rfl).full eQ aT) ?_);simp only[zz];refine aA (aB) (aG (k10 _ _ ?_));refine wp_block (wp_loop_rounds 4 (dU (aD fun K11 k11=>wp_region_lit (aA (bX (m:=0) (n:=3) rfl rfl (by decide)) (aG (k11 _ _ ?_))))));refine aD fun K12 k12=>cG rfl (wp_skip (k12 _ _ ?_));refine aD fun K13 k13=>wp_block (aD fun K14 k14=>wp_region_lit (aA (aB) (aA (kM rfl rfl) ?_)));simp only[zz];refine bF m bQ rfl ?_;clear m;intro g4 u m;refine aA (aC) ?_;simp only[zz];refine aS m 0 rfl rfl rfl aF (dZ rfl) rfl ?_;clear m;intro u m;simp only[zy,zx,bG,zF,zG,Nat.reduceAdd] at m;refine aG (k14 _ _ ?_);refine aD fun K15 k15=>?_;refine iU m 13 aO (by kernel_rfl) ?_;simp only[zy];refine aL (aB) ?_;simp only[zz];refine ql rfl (fun u m=>((m.b 0 rfl).full aJ aF)) ?_;simp only[zz];refine aL (aB) (aL (aP (m:=0) (n:=1) (r:=1) rfl rfl (by decide)) (aL (dG (m:=1) (n:=3) (r:=1) rfl rfl (by decide) (by decide)) (aL (aH bL aF rfl rfl (by decide) (by decide) rfl) ?_)));simp only[zz];refine ql rfl (fun u m=>((m.b 1 rfl).lies aJ aF rfl rfl)) ?_;simp only[zz,zy,Nat.zero_add,Nat.reduceAdd,Nat.reduceMul,Int.reduceToNat];refine aL (gQ rfl rfl) (aL (aB) (aL (aP (m:=0) (n:=2) (r:=2) rfl rfl (by decide)) (aL (dG (m:=2) (n:=3) (r:=2) rfl rfl (by decide) (by decide)) ?_)));simp only[zz];refine aL (aH bL aF rfl rfl (by decide) (by decide) rfl) ?_;simp only[zz];refine ql rfl (fun u m=>((m.b 1 rfl).lies aJ aF rfl rfl)) ?_;simp only[zz,zy,Nat.zero_add,Nat.reduceAdd,Nat.reduceMul,Int.reduceToNat];refine dK ?_;clear m;intro u m;refine fX (ek:=ed) (en:=pt) (a:=(t.a,t.b)) (v:=t.c) m 3 rfl Bn vQ rfl rfl rfl hD8 ?_;clear m;intro es8 c8 u m hD';clear hD8;have hD8:=hD';clear hD';simp only[zF,zG] at m;rw [← oN] at hD8;refine aG (k15 _ _ ?_);refine pR m 2 [] [40,41,42,43,44,45] (fun vs i=>∃ (es : Array MapEntry) (c : Nat),vs = [] ∧ i = mI q9 es c ∧ (cO pt pD (rO [] (((cL (ts.take k)) ++ [t.a]))) es c)) ?_ ?_
   ·
    refine Ms m [true,true,false,true] (.take 0 (.take 1 (.two 2 (.take 3 (.one 4 (.take 5 (.one 6 .nil)))) 4 (.take 5 (.one 2 (.take 3 (.one 6 .nil))))))) aO (by kernel_rfl) (dL (fun _ _ _ _ _ h=>h)) ?_;clear m;intro u m;have hb:=Dl (cL (ts.take k)) t.a;try simp only[List.length_append,List.length_cons,List.length_nil] at hb
    refine dW (by simp only[zw];rfl) (aZ (aB) (dN (dW (by simp only[zw];rfl) ?_)));simp only[zz];refine dI rfl (fun u m=>((m.b 0 rfl).full aJ aF)) ?_;simp only[zz];refine dN ?_;refine Eg (by simp only[zw];rfl) (by simp only[zw];rfl) ?_ ?_
    ·
     refine fP (eV (ek:=pt) (en:=pD) (k:=t.a) (v0:=0) mS mO iG rfl rfl (m.p 2 rfl) hD9) ?_;simp only[zz];refine aG (⟨m.sel [true,true,false,true],?_⟩);refine dW (by simp only[zw];rfl) (aZ (aP rfl rfl (aM (by omega) (by omega))) (dN (jH (by simp only[zw];rfl) ?_)));simp only[zz];refine Bm (ek:=pt) (en:=pD) (a:=t.a) (v0:=0) m 2 rfl mS mO iG rfl rfl hD9 ?_;clear m;intro es9 c9 bs u m hD' hS;simp only[zF,zG] at m;refine aG (⟨m.sel [true,true,false,true],?_⟩);refine dW (by simp only[zw];rfl) (aZ (bE rfl rfl) (dN (jH (by simp only[zw];rfl) ?_)));simp only[zz];refine sP (ek:=pt) (en:=pD) (a:=t.a) (v:=(dD (rO [] (cL (ts.take k))) t.a).getD 0 + 1) m 2 rfl rfl rfl rfl hS ?_;clear m hD' hS;intro es9 u m hD';clear hD9;have hD9:=hD';clear hD';simp only[zF,zG] at m;rw [← pX] at hD9;refine aG (⟨m.sel [true,true,false,true],?_⟩);refine sA ?_;simp only[Exit.inBlock,Exit.then];refine ⟨_,_,rfl,?_,m,?_⟩
     · simp only[zz,zv]
     ·
      simp only[zQ,zR,zD,zE];exact ⟨_,_,trivial,rfl,hD9⟩
    ·
     refine Bm (ek:=pt) (en:=pD) (a:=t.a) (v0:=0) m 2 rfl mS mO iG rfl rfl hD9 ?_;clear m;intro es9 c9 bs u m hD' hS;simp only[zF,zG] at m;refine aG (⟨m.sel [true,true,false,true],?_⟩);refine dW (by simp only[zw];rfl) (aZ (bE rfl rfl) (dN (jH (by simp only[zw];rfl) ?_)));simp only[zz];refine fP (eV (ek:=pt) (en:=pD) (k:=t.a) (v0:=0) mS mO iG rfl rfl (m.p 2 rfl) hD') ?_;simp only[zz];rw [mV,if_pos rfl,Option.getD_some];refine aG (⟨m.sel [true,true,false,true],?_⟩);refine dW (by simp only[zw];rfl) (aZ (aP rfl rfl (aM (by omega) (by omega))) (dN (jH (by simp only[zw];rfl) ?_)));simp only[zz];refine sP (ek:=pt) (en:=pD) (a:=t.a) (v:=(dD (rO [] (cL (ts.take k))) t.a).getD 0 + 1) m 2 rfl rfl rfl rfl hS ?_;clear m hD' hS;intro es9 u m hD';clear hD9;have hD9:=hD';clear hD';simp only[zF,zG] at m;rw [← pX] at hD9;refine aG (⟨m.sel [true,true,false,true],?_⟩);refine sA ?_;simp only[Exit.inBlock,Exit.then];refine ⟨_,_,rfl,?_,m,?_⟩
     · simp only[zz,zv]
     ·
      simp only[zQ,zR,zD,zE];exact ⟨_,_,trivial,rfl,hD9⟩
   ·
    intro vs i wr m hI u;obtain ⟨es9,c9,rfl,rfl,hD9⟩:=hI;simp only[zF,zG] at m;simp only[zu,zF,zG];refine k13 _ _ (wp_region_lit (aA (aP (m:=0) (n:=1) (r:=1) rfl rfl (by decide)) (aA (aB) (aG (aU (aD fun K16 k16=>wp_region_lit (aA (bX (m:=1) (n:=3) rfl rfl (by decide)) (aG (k16 _ _ ?_)))))))));refine aD fun K17 k17=>cG rfl (wp_skip (k17 _ _ ?_));refine aD fun K18 k18=>wp_block (aD fun K19 k19=>wp_region_lit (aA (aB) ?_));simp only[zz];refine aA (kN rfl rfl) ?_;simp only[zz];refine bF m bQ rfl ?_;clear m;intro g5 u m;refine aA (aC) ?_;simp only[zz];refine aS m 0 rfl rfl rfl aF (dZ rfl) rfl ?_;clear m;intro u m;simp only[zy,zx,bG,zF,zG,Nat.reduceAdd] at m;refine aG (k19 _ _ ?_);refine aD fun K20 k20=>?_;refine iU m 13 aO (by kernel_rfl) ?_;simp only[zy];refine aL (aB) ?_;simp only[zz];refine ql rfl (fun u m=>((m.b 0 rfl).full aJ aF)) ?_;simp only[zz];refine aL (aB) (aL (aP (m:=1) (n:=1) (r:=2) rfl rfl (by decide)) (aL (dG (m:=2) (n:=3) (r:=2) rfl rfl (by decide) (by decide)) (aL (aH bL aF rfl rfl (by decide) (by decide) rfl) ?_)));simp only[zz];refine ql rfl (fun u m=>((m.b 2 rfl).lies aJ aF rfl rfl)) ?_;simp only[zz,zy,Nat.zero_add,Nat.reduceAdd,Nat.reduceMul,Int.reduceToNat];refine aL (gQ rfl rfl) (aL (aB) (aL (aP (m:=1) (n:=2) (r:=3) rfl rfl (by decide)) (aL (dG (m:=3) (n:=3) (r:=0) rfl rfl (by decide) (by decide)) ?_)));simp only[zz];refine aL (aH bL aF rfl rfl (by decide) (by decide) rfl) ?_;simp only[zz];refine ql rfl (fun u m=>((m.b 2 rfl).lies aJ aF rfl rfl)) ?_;simp only[zz,zy,Nat.zero_add,Nat.reduceAdd,Nat.reduceMul,Int.reduceToNat];refine dK ?_;clear m;intro u m;refine fX (ek:=ed) (en:=pt) (a:=(t.b,t.c)) (v:=t.a) m 4 rfl Bn vQ rfl rfl rfl hD8 ?_;clear m;intro es8 c8 u m hD';clear hD8;have hD8:=hD';clear hD';simp only[zF,zG] at m;rw [← oN] at hD8;refine aG (k20 _ _ ?_);refine pR m 3 [] [40,41,42,43,44,45] (fun vs i=>∃ (es : Array MapEntry) (c : Nat),vs = [] ∧ i = mI q9 es c ∧ (cO pt pD (rO [] (((((cL (ts.take k)) ++ [t.a])) ++ [t.b]))) es c)) ?_ ?_
    ·
     refine Ms m [true,true,true,false,true] (.take 0 (.take 1 (.two 2 (.take 3 (.one 4 (.take 5 (.one 6 .nil)))) 4 (.take 5 (.one 2 (.take 3 (.one 6 .nil))))))) aO (by kernel_rfl) (dL (fun _ _ _ _ _ h=>h)) ?_;clear m;intro u m;have hb:=Dl (((cL (ts.take k)) ++ [t.a])) t.b;try simp only[List.length_append,List.length_cons,List.length_nil] at hb
     refine dW (by simp only[zw];rfl) (aZ (aB) (dN (dW (by simp only[zw];rfl) ?_)));simp only[zz];refine dI rfl (fun u m=>((m.b 0 rfl).full aJ aF)) ?_;simp only[zz];refine dN ?_;refine Eg (by simp only[zw];rfl) (by simp only[zw];rfl) ?_ ?_
     ·
      refine fP (eV (ek:=pt) (en:=pD) (k:=t.b) (v0:=0) mS mO iG rfl rfl (m.p 3 rfl) hD9) ?_;simp only[zz];refine aG (⟨m.sel [true,true,true,false,true],?_⟩);refine dW (by simp only[zw];rfl) (aZ (aP rfl rfl (aM (by omega) (by omega))) (dN (jH (by simp only[zw];rfl) ?_)));simp only[zz];refine Bm (ek:=pt) (en:=pD) (a:=t.b) (v0:=0) m 3 rfl mS mO iG rfl rfl hD9 ?_;clear m;intro es9 c9 bs u m hD' hS;simp only[zF,zG] at m;refine aG (⟨m.sel [true,true,true,false,true],?_⟩);refine dW (by simp only[zw];rfl) (aZ (bE rfl rfl) (dN (jH (by simp only[zw];rfl) ?_)));simp only[zz];refine sP (ek:=pt) (en:=pD) (a:=t.b) (v:=(dD (rO [] (((cL (ts.take k)) ++ [t.a]))) t.b).getD 0 + 1) m 3 rfl rfl rfl rfl hS ?_;clear m hD' hS;intro es9 u m hD';clear hD9;have hD9:=hD';clear hD';simp only[zF,zG] at m;rw [← pX] at hD9;refine aG (⟨m.sel [true,true,true,false,true],?_⟩);refine sA ?_;simp only[Exit.inBlock,Exit.then];refine ⟨_,_,rfl,?_,m,?_⟩
      · simp only[zz,zv]
      ·
       simp only[zQ,zR,zD,zE];exact ⟨_,_,trivial,rfl,hD9⟩
     ·
      refine Bm (ek:=pt) (en:=pD) (a:=t.b) (v0:=0) m 3 rfl mS mO iG rfl rfl hD9 ?_;clear m;intro es9 c9 bs u m hD' hS;simp only[zF,zG] at m;refine aG (⟨m.sel [true,true,true,false,true],?_⟩);refine dW (by simp only[zw];rfl) (aZ (bE rfl rfl) (dN (jH (by simp only[zw];rfl) ?_)));simp only[zz];refine fP (eV (ek:=pt) (en:=pD) (k:=t.b) (v0:=0) mS mO iG rfl rfl (m.p 3 rfl) hD') ?_;simp only[zz];rw [mV,if_pos rfl,Option.getD_some];refine aG (⟨m.sel [true,true,true,false,true],?_⟩);refine dW (by simp only[zw];rfl) (aZ (aP rfl rfl (aM (by omega) (by omega))) (dN (jH (by simp only[zw];rfl) ?_)));simp only[zz];refine sP (ek:=pt) (en:=pD) (a:=t.b) (v:=(dD (rO [] (((cL (ts.take k)) ++ [t.a]))) t.b).getD 0 + 1) m 3 rfl rfl rfl rfl hS ?_;clear m hD' hS;intro es9 u m hD';clear hD9;have hD9:=hD';clear hD';simp only[zF,zG] at m;rw [← pX] at hD9;refine aG (⟨m.sel [true,true,true,false,true],?_⟩);refine sA ?_;simp only[Exit.inBlock,Exit.then];refine ⟨_,_,rfl,?_,m,?_⟩
      · simp only[zz,zv]
      ·
       simp only[zQ,zR,zD,zE];exact ⟨_,_,trivial,rfl,hD9⟩
    ·
     intro vs i wr m hI u;obtain ⟨es9,c9,rfl,rfl,hD9⟩:=hI;simp only[zF,zG] at m;simp only[zu,zF,zG];refine k18 _ _ (wp_region_lit (aA (aP (m:=1) (n:=1) (r:=2) rfl rfl (by decide)) (aA (aB) (aG (aU (aD fun K21 k21=>wp_region_lit (aA (bX (m:=2) (n:=3) rfl rfl (by decide)) (aG (k21 _ _ ?_)))))))));refine aD fun K22 k22=>cG rfl (wp_skip (k22 _ _ ?_));refine aD fun K23 k23=>wp_block (aD fun K24 k24=>wp_region_lit (aA (aB) ?_));simp only[zz];refine aA (kO rfl rfl) ?_;simp only[zz];refine bF m bQ rfl ?_;clear m;intro g6 u m;refine aA (aC) ?_;simp only[zz];refine aS m 0 rfl rfl rfl aF (dZ rfl) rfl ?_;clear m;intro u m;simp only[zy,zx,bG,zF,zG,Nat.reduceAdd] at m;refine aG (k24 _ _ ?_);refine aD fun K25 k25=>?_;refine iU m 13 aO (by kernel_rfl) ?_;simp only[zy];refine aL (aB) ?_;simp only[zz];refine ql rfl (fun u m=>((m.b 0 rfl).full aJ aF)) ?_;simp only[zz];refine aL (aB) (aL (aP (m:=2) (n:=1) (r:=3) rfl rfl (by decide)) (aL (dG (m:=3) (n:=3) (r:=0) rfl rfl (by decide) (by decide)) (aL (aH bL aF rfl rfl (by decide) (by decide) rfl) ?_)));simp only[zz];refine ql rfl (fun u m=>((m.b 3 rfl).lies aJ aF rfl rfl)) ?_;simp only[zz,zy,Nat.zero_add,Nat.reduceAdd,Nat.reduceMul,Int.reduceToNat];refine aL (gQ rfl rfl) (aL (aB) (aL (aP (m:=2) (n:=2) (r:=4) rfl rfl (by decide)) (aL (dG (m:=4) (n:=3) (r:=1) rfl rfl (by decide) (by decide)) ?_)));simp only[zz];refine aL (aH bL aF rfl rfl (by decide) (by decide) rfl) ?_;simp only[zz];refine ql rfl (fun u m=>((m.b 3 rfl).lies aJ aF rfl rfl)) ?_;simp only[zz,zy,Nat.zero_add,Nat.reduceAdd,Nat.reduceMul,Int.reduceToNat];refine dK ?_;clear m;intro u m;refine fX (ek:=ed) (en:=pt) (a:=(t.c,t.a)) (v:=t.b) m 5 rfl Bn vQ rfl rfl rfl hD8 ?_;clear m;intro es8 c8 u m hD';clear hD8;have hD8:=hD';clear hD';simp only[zF,zG] at m;rw [← oN] at hD8;refine aG (k25 _ _ ?_);refine pR m 4 [] [40,41,42,43,44,45] (fun vs i=>∃ (es : Array MapEntry) (c : Nat),vs = [] ∧ i = mI q9 es c ∧ (cO pt pD (rO [] (((((((cL (ts.take k)) ++ [t.a])) ++ [t.b])) ++ [t.c]))) es c)) ?_ ?_
     ·
      refine Ms m [true,true,true,true,false,true] (.take 0 (.take 1 (.two 2 (.take 3 (.one 4 (.take 5 (.one 6 .nil)))) 4 (.take 5 (.one 2 (.take 3 (.one 6 .nil))))))) aO (by kernel_rfl) (dL (fun _ _ _ _ _ h=>h)) ?_;clear m;intro u m;have hb:=Dl (((((cL (ts.take k)) ++ [t.a])) ++ [t.b])) t.c;try simp only[List.length_append,List.length_cons,List.length_nil] at hb
      refine dW (by simp only[zw];rfl) (aZ (aB) (dN (dW (by simp only[zw];rfl) ?_)));simp only[zz];refine dI rfl (fun u m=>((m.b 0 rfl).full aJ aF)) ?_;simp only[zz];refine dN ?_;refine Eg (by simp only[zw];rfl) (by simp only[zw];rfl) ?_ ?_
      ·
       refine fP (eV (ek:=pt) (en:=pD) (k:=t.c) (v0:=0) mS mO iG rfl rfl (m.p 4 rfl) hD9) ?_;simp only[zz];refine aG (⟨m.sel [true,true,true,true,false,true],?_⟩);refine dW (by simp only[zw];rfl) (aZ (aP rfl rfl (aM (by omega) (by omega))) (dN (jH (by simp only[zw];rfl) ?_)));simp only[zz];refine Bm (ek:=pt) (en:=pD) (a:=t.c) (v0:=0) m 4 rfl mS mO iG rfl rfl hD9 ?_;clear m;intro es9 c9 bs u m hD' hS;simp only[zF,zG] at m;refine aG (⟨m.sel [true,true,true,true,false,true],?_⟩);refine dW (by simp only[zw];rfl) (aZ (bE rfl rfl) (dN (jH (by simp only[zw];rfl) ?_)));simp only[zz];refine sP (ek:=pt) (en:=pD) (a:=t.c) (v:=(dD (rO [] (((((cL (ts.take k)) ++ [t.a])) ++ [t.b]))) t.c).getD 0 + 1) m 4 rfl rfl rfl rfl hS ?_;clear m hD' hS;intro es9 u m hD';clear hD9;have hD9:=hD';clear hD';simp only[zF,zG] at m;rw [← pX] at hD9;refine aG (⟨m.sel [true,true,true,true,false,true],?_⟩);refine sA ?_;simp only[Exit.inBlock,Exit.then];refine ⟨_,_,rfl,?_,m,?_⟩
       · simp only[zz,zv]
       ·
        simp only[zQ,zR,zD,zE];exact ⟨_,_,trivial,rfl,hD9⟩
      ·
       refine Bm (ek:=pt) (en:=pD) (a:=t.c) (v0:=0) m 4 rfl mS mO iG rfl rfl hD9 ?_;clear m;intro es9 c9 bs u m hD' hS;simp only[zF,zG] at m;refine aG (⟨m.sel [true,true,true,true,false,true],?_⟩);refine dW (by simp only[zw];rfl) (aZ (bE rfl rfl) (dN (jH (by simp only[zw];rfl) ?_)));simp only[zz];refine fP (eV (ek:=pt) (en:=pD) (k:=t.c) (v0:=0) mS mO iG rfl rfl (m.p 4 rfl) hD') ?_;simp only[zz];rw [mV,if_pos rfl,Option.getD_some];refine aG (⟨m.sel [true,true,true,true,false,true],?_⟩);refine dW (by simp only[zw];rfl) (aZ (aP rfl rfl (aM (by omega) (by omega))) (dN (jH (by simp only[zw];rfl) ?_)));simp only[zz];refine sP (ek:=pt) (en:=pD) (a:=t.c) (v:=(dD (rO [] (((((cL (ts.take k)) ++ [t.a])) ++ [t.b]))) t.c).getD 0 + 1) m 4 rfl rfl rfl rfl hS ?_;clear m hD' hS;intro es9 u m hD';clear hD9;have hD9:=hD';clear hD';simp only[zF,zG] at m;rw [← pX] at hD9;refine aG (⟨m.sel [true,true,true,true,false,true],?_⟩);refine sA ?_;simp only[Exit.inBlock,Exit.then];refine ⟨_,_,rfl,?_,m,?_⟩
       · simp only[zz,zv]
       ·
        simp only[zQ,zR,zD,zE];exact ⟨_,_,trivial,rfl,hD9⟩
     ·
      intro vs i wr m hI u;obtain ⟨es9,c9,rfl,rfl,hD9⟩:=hI;simp only[zF,zG] at m;simp only[zu,zF,zG];refine k23 _ _ (wp_region_lit (aA (aP (m:=2) (n:=1) (r:=3) rfl rfl (by decide)) (aA (aB) (aG (aU (aD fun K26 k26=>wp_region_lit (aA (eU (m:=3) (n:=3) rfl rfl (by decide)) (aG (k26 _ _ ?_)))))))));refine aD fun K27 k27=>iO rfl (wp_exit (k8 _ _ ?_));refine wp_region_lit ?_;simp only[zz];refine aA (aP rfl rfl (aM (by omega) (by omega))) (aA (aB) (aG ?_));simp only[zz];simp only[Exit.inBlock,Exit.then];refine ⟨N - (k + 1),_,?_,rfl,?_,?_⟩
      · omega
      · simp only[zz,zv]
      ·
       simp only[zQ,zR,zD,zE];exact ⟨k + 1,_,_,_,_,rfl,(m.sel [false,false,false,false,true,true]),by rw [Fp ht];simpa [List.append_assoc] using hD8,by rw [Fi ht];simpa [List.append_assoc] using hD9,by omega,rfl⟩
  ·
   have hkN : k = N:=by omega
   rw [hkN,show ts.take N = ts from List.take_of_length_le (by rw [hT.len];exact Nat.le_refl _)] at hD8 hD9;refine wp_exit (k4 _ _ ?_);refine aD fun K28 k28=>aD fun K29 k29=>wp_region_lit (aA (aB) ?_);simp only[zz];refine xP m Bn rfl (m.p 1 rfl) ?_;clear m;intro r1 u m;refine aG (k29 _ _ ?_);refine wp_block ?_;simp only[zz];try simp only[Nat.zero_add,Nat.reduceAdd,Nat.reduceMul,Int.reduceToNat]
   refine bH [] [2,9,10,11,12,13,50,51,52,53,54,55,56,57,58,59,60,61,62,63,64,65,66,67,68,69,70,71,72,73,74,75,76,77,78,79,80,81,82,83,84,85,86,87,88,89,90,91,92,93,94] (fun n vs wl=>∃ (dn rs : List (E3 × P3)) (sn : Array Nat),vs = [] ∧ cA w wl [iI r1 q8 c8 sn,mI q9 es9 c9,mI q8 es8 c8] ∧ (mQ ed pt (mZ [] (eY ts)) es8 sn dn rs) ∧ (∀ y ∈ dn,¬ Le ts y.1) ∧ (n = rs.length)) ?_ ?_
   ·
    apply Exists.intro;simp only[zQ,zR,zD,zE];exact ⟨[],_,#[],trivial,m,mQ.start hD8,fun _ h=>(by cases h),rfl⟩
   ·
    intro n vs wr hI u;clear m;obtain ⟨dn,rs,sn,rfl,m,hT1,hno,hn⟩:=hI;simp only[zu,zF,zG];refine aD fun K30 k30=>wp_region_lit (Fc m 0 rfl rfl (m.p 2 rfl) hD8 hT1 ?_);clear m;intro bb kk vv sn u m hN;simp only[zF,zG] at m;refine aA (tP rfl) (aG (k30 _ _ ?_));refine aD fun K31 k31=>?_;simp only[zz];refine eE rfl (fun hc3=>?_) (fun hc3=>?_)
    ·
     obtain ⟨kp,kb,rs2,hp,hT2⟩:=Fh hc3 hN;obtain ⟨x,hx⟩ : ∃ x,dD (mZ [] (eY ts)) kp = some x:=by
      cases h : dD (mZ [] (eY ts)) kp with
      | some x=>exact ⟨x,rfl⟩
      | none =>
       refine absurd ?_ (sJ.1 h);have h1:=hT2.1.mem_iff (a:=(kp,kb));exact List.mem_map.2 ⟨_,h1.1 (by simp),rfl⟩
     have hkx : bP ts kp.1 kp.2 = some x:=by rw [← sM hnd];exact hx
     obtain ⟨M,hM⟩ : ∃ M,M = qV (cL ts) kp.1:=⟨_,rfl⟩
     have hmM : (dD (rO [] (cL ts)) kp.1).getD 0 = M:=by rw [Ou,hM]
     have hMl : M ≤ 30000000:=by have h1:=Dl (cL ts) kp.1;rw [hmM,Jj,hT.len] at h1;omega
     refine wp_skip (k31 _ _ ?_);refine wp_block (aD fun K32 k32=>wp_region_lit (fP (tQ rfl (m.r 0 rfl) (m.p 2 rfl) hD8 hT2) ?_));simp only[zz];refine aA (bE rfl rfl) ?_;simp only[zz];refine bF m nO rfl ?_;clear m;intro g4 u m;simp only[zz];refine aS m 0 rfl rfl rfl eB (dZ rfl) rfl ?_;clear m;intro u m;simp only[zy,zx,bG,zF,zG,Nat.reduceAdd] at m;refine aG (k32 _ _ ?_);refine aD fun K33 k33=>wp_region_lit (aA (aC) (aG (k33 _ _ ?_)));refine aD fun K34 k34=>wp_region_lit (aA (aB) ?_);simp only[zz];refine aK rfl ((m.b 0 rfl).full kL eB) ?_;simp only[zz];refine fP (eV (ek:=ed) (en:=pt) (k:=kp) (v0:=⟨0,0,0⟩) Bn bQ vQ rfl rfl (m.p 3 rfl) hD8) ?_;simp only[zz];refine bF m bQ rfl ?_;clear m;intro g5 u m;simp only[zz];refine aS m 0 rfl rfl rfl aF (dZ rfl) rfl ?_;clear m;intro u m;simp only[zy,zx,bG,zF,zG,Nat.reduceAdd] at m;refine aG ?_;rw [hx] at m;simp only[Option.getD_some] at m;refine k34 _ _ ?_;refine aD fun K35 k35=>wp_block ?_;try simp only[Nat.zero_add,Nat.reduceAdd,Nat.reduceMul,Int.reduceToNat]
     refine bH [10] [12,13,57,58,59,60,61,62,63,64,65,66,67,68,69,70,71,72,73,74,75,76,77,78,79,80,81,82] (fun n vs wl=>∃ (z : Nat) (a : P3),vs = [.int .i64 (z:Int)] ∧ cA w wl [bI g5 (vA a) 48,bI g4 (bU kp) 143,iI r1 q8 c8 sn,mI q9 es9 c9,mI q8 es8 c8] ∧ (vM (bP ts kp.1) kp.2 M x 1 = vM (bP ts kp.1) kp.2 (M + 1 - z) a z) ∧ (1 ≤ z) ∧ (z ≤ M + 1) ∧ (n = M + 1 - z)) ?_ ?_
     ·
      apply Exists.intro;simp only[zQ,zR,zD,zE];exact ⟨1,x,rfl,m,rfl,Nat.le_refl _,by omega,rfl⟩
     ·
      intro n vs wr hI u;clear m;obtain ⟨z,a,rfl,m,hrun,hz1,hz2,hn4⟩:=hI;simp only[zu,zF,zG];refine aD fun K36 k36=>aD fun K37 k37=>wp_region_lit (aK rfl ((m.b 0 rfl).full aJ aF) ?_);simp only[zz];refine aA (aN (c:=2) kA rfl aF rfl rfl) ?_;simp only[zz];refine aK rfl ((m.b 1 rfl).lies aJ aF rfl rfl) ?_;simp only[zz,zy,Nat.zero_add,Nat.reduceAdd,Nat.reduceMul,Int.reduceToNat];refine aA (gA rfl rfl) (aA (aB) (cW rfl (fun hb=>aB) (cW rfl (fun hb=>aB) ?_)));simp only[zz];refine cW rfl (fun hb=>aN (c:=2) kA rfl aF rfl rfl) ?_;simp only[zz];refine eW rfl (fun hb=>cC (bK hb rfl) ((m.b 1 rfl).lies aJ aF rfl rfl)) ?_;simp only[zz,zy,Nat.zero_add,Nat.reduceAdd,Nat.reduceMul,Int.reduceToNat];refine eW rfl (fun hb=>eV (ek:=pt) (en:=pD) (k:=kp.1) (v0:=0) mS mO iG (bK hb rfl) (bK hb rfl) (m.p 3 rfl) hD9) ?_;simp only[zz];refine cW rfl (fun hb=>Ds (bK hb rfl) (bK hb rfl)) (aA (cK rfl rfl rfl) (aG (k37 _ _ ?_)));simp only[zz];refine eE rfl (fun hc4=>?_) (fun hc4=>?_)
      ·
       have hs : ¬ a = kp.2 ∧ z ≤ M:=by rw [hmM] at hc4;simpa [aep] using hc4
       refine wp_skip (k36 _ _ ?_);refine wp_block (aD fun K38 k38=>wp_region_lit (aA (aB) (aA (aN (c:=2) kA rfl aF rfl rfl) ?_)));simp only[zz];refine aK rfl ((m.b 1 rfl).lies aJ aF rfl rfl) ?_;simp only[zz,zy,Nat.zero_add,Nat.reduceAdd,Nat.reduceMul,Int.reduceToNat];refine aK rfl ((m.b 0 rfl).full aJ aF) ?_;simp only[zz];refine aA (gQ rfl rfl) ?_;simp only[zz];refine fP (sK (ek:=ed) (en:=pt) (k:=(kp.1,a)) (v0:=⟨0,0,0⟩) Bn bQ vQ rfl rfl (m.p 4 rfl) hD8) ?_;simp only[zz];refine aA (aB) (aA (bE rfl rfl) (aA (bE rfl rfl) ?_));simp only[zz];refine bF m bQ rfl ?_;clear m;intro g6 u m;simp only[zz];refine aS m 0 rfl rfl rfl aF (dZ rfl) rfl ?_;clear m;intro u m;simp only[zy,zx,bG,zF,zG,Nat.reduceAdd] at m;refine aA (aC) (aG (k38 _ _ ?_));refine aD fun K39 k39=>aD fun K40 k40=>wp_region_lit (aA (aB) (aA (fQ rfl) (aG (k40 _ _ ?_))));simp only[zz];refine eE rfl (fun hc5=>?_) (fun hc5=>?_)
       ·
        have hyn : bP ts kp.1 a = none:=by rw [← sM hnd];simpa using hc5
        have hfin:=hrun.trans (acA hyn);refine wp_exit (k35 _ _ ?_);refine aD fun K41 k41=>wp_region_lit (aK rfl ((m.b 1 rfl).full aJ aF) ?_);simp only[zz];refine aA (aN (c:=2) kA rfl aF rfl rfl) ?_;simp only[zz];refine aK rfl ((m.b 2 rfl).lies aJ aF rfl rfl) ?_;simp only[zz,zy,Nat.zero_add,Nat.reduceAdd,Nat.reduceMul,Int.reduceToNat];refine aA (dB rfl rfl) (aA (aB) (cW rfl (fun hb=>aB) (cW rfl (fun hb=>aB) ?_)));simp only[zz];refine cW rfl (fun hb=>aN (c:=2) kA rfl aF rfl rfl) ?_;simp only[zz];refine eW rfl (fun hb=>cC (bK hb rfl) ((m.b 2 rfl).lies aJ aF rfl rfl)) ?_;simp only[zz,zy,Nat.zero_add,Nat.reduceAdd,Nat.reduceMul,Int.reduceToNat];refine eW rfl (fun hb=>eV (ek:=pt) (en:=pD) (k:=kp.1) (v0:=0) mS mO iG (bK hb rfl) (bK hb rfl) (m.p 4 rfl) hD9) ?_;simp only[zz];refine cW rfl (fun hb=>cE (bK hb rfl) (bK hb rfl)) (aA (cK rfl rfl rfl) (aG (k41 _ _ ?_)));simp only[zz];refine eE rfl (fun hc6=>?_) (fun hc6=>?_)
        ·
         have hs : a = kp.2 ∧ z < M:=by rw [hmM] at hc6;simpa [← gH] using hc6
         refine aD fun K42 k42=>wp_region_lit (aA (aC) (aG (k42 _ _ ?_)));refine wp_ret ?_;simp only[zz];try simp only[Exit.inBlock,Exit.then,if_true]
         refine bO rfl rfl ?_;try simp only[zD,zE]
         exact ⟨_,rfl,m.ext,by have hp : Le ts kp:=⟨x,hkx,by rw [Nat.add_sub_cancel,← hM,hfin];exact hs.1,by rw [Nat.add_sub_cancel,← hM,hfin];exact hs.2⟩;rw [pinned.2 ⟨kp,hp⟩]⟩
        ·
         have hs : ¬ (a = kp.2 ∧ z < M):=by rw [hmM] at hc6;simpa [← gH] using hc6
         have hno2 : ∀ y ∈ dn ++ [(kp,kb)],¬ Le ts y.1:=fun y hy=>by
          rcases List.mem_append.1 hy with hy | hy
          · exact hno y hy
          ·
           obtain rfl:=List.mem_singleton.1 hy;rintro ⟨x2,h1,h2,h3⟩;obtain rfl : x = x2:=Option.some.inj (hkx.symm.trans h1);rw [Nat.add_sub_cancel,← hM,hfin] at h2 h3;exact hs ⟨h2,h3⟩
         refine wp_skip ?_;simp only[Exit.inBlock,Exit.then];refine ⟨rs2.length,_,?_,rfl,?_,?_⟩
         · rw [hn,hp.length_eq];exact Nat.lt_succ_self _
         · simp only[zz,zv]
         ·
          simp only[zQ,zR,zD,zE];exact ⟨dn ++ [(kp,kb)],rs2,_,trivial,(m.sel [false,false,false,true,true,true]),hT2,hno2,rfl⟩
       ·
        obtain ⟨y,hy⟩ : ∃ y,dD (mZ [] (eY ts)) (kp.1,a) = some y:=by
         cases h : dD (mZ [] (eY ts)) (kp.1,a) with
         | some y=>exact ⟨y,rfl⟩
         | none=>rw [h] at hc5;cases hc5
        have hya : bP ts kp.1 a = some y:=by rw [← sM hnd];exact hy
        rw [hy] at m;simp only[Option.getD_some] at m;refine wp_skip (k39 _ _ ?_);refine aD fun K43 k43=>wp_region_lit (aK rfl ((m.b 0 rfl).full aJ aF) ?_);simp only[zz];refine aS m 1 rfl rfl rfl aF (dZ rfl) rfl ?_;clear m;intro u m;simp only[zy,zx,bG,zF,zG,Nat.reduceAdd] at m;refine aG (k43 _ _ ?_);refine wp_region_lit (aA (aB) ?_);simp only[zz];refine aA (aP rfl rfl (aM (by omega) (by omega))) (aA (aC) (aG ?_));simp only[zz];simp only[Exit.inBlock,Exit.then];refine ⟨M + 1 - (z + 1),_,?_,rfl,?_,?_⟩
        · omega
        · simp only[zz,zv]
        ·
         simp only[zQ,zR,zD,zE];exact ⟨z + 1,y,rfl,(m.sel [false,true,true,true,true,true]),by rw [hrun,show M + 1 - z = (M + 1 - (z + 1)) + 1 by omega,aen hs.1 hya],by omega,by omega,rfl⟩
      ·
       have hs0 : a = kp.2 ∨ ¬ z ≤ M:=by rw [hmM] at hc4;exact aaV hc4
       have hfin:=hrun.trans (aeo hz2 hs0);refine wp_exit (k35 _ _ ?_);refine aD fun K44 k44=>wp_region_lit (aK rfl ((m.b 0 rfl).full aJ aF) ?_);simp only[zz];refine aA (aN (c:=2) kA rfl aF rfl rfl) ?_;simp only[zz];refine aK rfl ((m.b 1 rfl).lies aJ aF rfl rfl) ?_;simp only[zz,zy,Nat.zero_add,Nat.reduceAdd,Nat.reduceMul,Int.reduceToNat];refine aA (dB rfl rfl) (aA (aB) (cW rfl (fun hb=>aB) (cW rfl (fun hb=>aB) ?_)));simp only[zz];refine cW rfl (fun hb=>aN (c:=2) kA rfl aF rfl rfl) ?_;simp only[zz];refine eW rfl (fun hb=>cC (bK hb rfl) ((m.b 1 rfl).lies aJ aF rfl rfl)) ?_;simp only[zz,zy,Nat.zero_add,Nat.reduceAdd,Nat.reduceMul,Int.reduceToNat];refine eW rfl (fun hb=>eV (ek:=pt) (en:=pD) (k:=kp.1) (v0:=0) mS mO iG (bK hb rfl) (bK hb rfl) (m.p 3 rfl) hD9) ?_;simp only[zz];refine cW rfl (fun hb=>cE (bK hb rfl) (bK hb rfl)) (aA (cK rfl rfl rfl) (aG (k44 _ _ ?_)));simp only[zz];refine eE rfl (fun hc6=>?_) (fun hc6=>?_)
       ·
        have hs : a = kp.2 ∧ z < M:=by rw [hmM] at hc6;simpa [← gH] using hc6
        refine aD fun K45 k45=>wp_region_lit (aA (aC) (aG (k45 _ _ ?_)));refine wp_ret ?_;simp only[zz];try simp only[Exit.inBlock,Exit.then,if_true]
        refine bO rfl rfl ?_;try simp only[zD,zE]
        exact ⟨_,rfl,m.ext,by have hp : Le ts kp:=⟨x,hkx,by rw [Nat.add_sub_cancel,← hM,hfin];exact hs.1,by rw [Nat.add_sub_cancel,← hM,hfin];exact hs.2⟩;rw [pinned.2 ⟨kp,hp⟩]⟩
       ·
        have hs : ¬ (a = kp.2 ∧ z < M):=by rw [hmM] at hc6;simpa [← gH] using hc6
        have hno2 : ∀ y ∈ dn ++ [(kp,kb)],¬ Le ts y.1:=fun y hy=>by
         rcases List.mem_append.1 hy with hy | hy
         · exact hno y hy
         ·
          obtain rfl:=List.mem_singleton.1 hy;rintro ⟨x2,h1,h2,h3⟩;obtain rfl : x = x2:=Option.some.inj (hkx.symm.trans h1);rw [Nat.add_sub_cancel,← hM,hfin] at h2 h3;exact hs ⟨h2,h3⟩
        refine wp_skip ?_;simp only[Exit.inBlock,Exit.then];refine ⟨rs2.length,_,?_,rfl,?_,?_⟩
        · rw [hn,hp.length_eq];exact Nat.lt_succ_self _
        · simp only[zz,zv]
        ·
         simp only[zQ,zR,zD,zE];exact ⟨dn ++ [(kp,kb)],rs2,_,trivial,(m.sel [false,false,true,true,true]),hT2,hno2,rfl⟩
    ·
     obtain rfl:=Fg hc3 hN;refine wp_exit (k28 _ _ ?_);refine aD fun K46 k46=>wp_region_lit (aA (aC) (aG (k46 _ _ ?_)));refine wp_ret ?_;simp only[zz];try simp only[Exit.inBlock,Exit.then,if_true]
     refine bO rfl rfl ?_;try simp only[zD,zE]
     exact ⟨_,rfl,m.ext,by cases h : (fB ts).any (Es ts) with | false=>rfl | true=>(obtain ⟨e,he⟩:=pinned.1 h;exact absurd he (aaW hT1 hnd hno e))⟩
theorem acB {ts : List T3} (h : ¬ (aV ts).Nodup) : (aV ts).any (fun e=>decide (1 < kJ (aV ts) e)) = true:=by rw [Lb];exact decide_eq_true h
theorem aaX {ts : List T3} (h : (aV ts).Nodup) : (aV ts).any (fun e=>decide (1 < kJ (aV ts) e)) = false:=by rw [Lb];exact decide_eq_false fun k=>k h
theorem aaY {ts : List T3} {N cap : Nat} {A : Option Addr} (w : World) (hT : eO w A N ts) (hN : N ≤ 10000000) : eK prog 102 [.slice A N cap,.bool true] w (fun v _=>v = .int .i64 (dH true ts)):=by
 refine ⟨adA,?_⟩;have m:=cA.refl w
 go_enter func102,ntmps102
 refine aD fun K1 k1=>wp_region_lit (aA (aC) (aG (k1 _ _ ?_)));refine aD fun K2 k2=>aD fun K3 k3=>wp_region_lit (aA (aB) (aA (aW rfl bS rfl) (aA (aB) ?_)));simp only[zz];refine aG (k3 _ _ ?_);refine wp_block ?_;try simp only[Nat.zero_add,Nat.reduceAdd,Nat.reduceMul,Int.reduceToNat]
 refine bH [11] [4,6,12,13,14,15,16,17,18,19,20,21,22,23,24,25,26,27,28,29,30,31,32,33,34] (fun n vs wl=>∃ (k : Nat),vs = [.int .i64 (k:Int)] ∧ cA w wl [] ∧ ((ts.take k).any mM = false) ∧ (k ≤ N) ∧ (n = N - k)) ?_ ?_
 ·
  apply Exists.intro;simp only[zQ,zR,zD,zE];exact ⟨0,rfl,m,rfl,Nat.zero_le _,rfl⟩
 ·
  intro n vs wr hI u;clear m;obtain ⟨k,rfl,m,hd0,hk,hn⟩:=hI;simp only[zu,zF,zG];refine aD fun K4 k4=>wp_region_lit (aA (cE rfl rfl) (aG (k4 _ _ ?_)));refine aD fun K5 k5=>?_;simp only[zz];refine bZ rfl (fun hc1=>?_) (fun hc1=>?_)
  ·
   obtain ⟨t,ht,_,a,rfl,hrow⟩:=hT.get (i:=k) (by omega);refine wp_skip (k5 _ _ ?_);refine aD fun K6 k6=>wp_block (aD fun K7 k7=>wp_region_lit (aA (aI bS aT rfl rfl (by omega) (by omega) (bV (Int.toNat_natCast _))) ?_));simp only[zz];refine aK rfl ((hrow.ext m.ext).lies eQ aT) ?_;simp only[zz];refine bF m jX rfl ?_;clear m;intro g1 u m;simp only[zz];refine aS m 0 rfl rfl rfl aT (dZ rfl) rfl ?_;clear m;intro u m;simp only[zy,zx,bG,zF,zG,Nat.reduceAdd] at m;refine aG (k7 _ _ ?_);refine aD fun K8 k8=>wp_region_lit (aA (aH bL aF rfl rfl (by decide) (by decide) rfl) ?_);simp only[zz];refine aK rfl ((m.b 0 rfl).lies aJ aF rfl rfl) ?_;simp only[zz,zy,Nat.zero_add,Nat.reduceAdd,Nat.reduceMul,Int.reduceToNat];refine aA (aH bL aF rfl rfl (by decide) (by decide) rfl) ?_;simp only[zz];refine aK rfl ((m.b 0 rfl).lies aJ aF rfl rfl) ?_;simp only[zz,zy,Nat.zero_add,Nat.reduceAdd,Nat.reduceMul,Int.reduceToNat];refine aA (dB rfl rfl) (aA (aB) (fH rfl (fun hb=>aH bL aF rfl rfl (by decide) (by decide) rfl) ?_));simp only[zz];refine oR rfl (fun hb=>cC (bK hb rfl) ((m.b 0 rfl).lies aJ aF rfl rfl)) ?_;simp only[zz,zy,Nat.zero_add,Nat.reduceAdd,Nat.reduceMul,Int.reduceToNat];refine fH rfl (fun hb=>aH bL aF rfl rfl (by decide) (by decide) rfl) ?_;simp only[zz];refine oR rfl (fun hb=>cC (bK hb rfl) ((m.b 0 rfl).lies aJ aF rfl rfl)) ?_;simp only[zz,zy,Nat.zero_add,Nat.reduceAdd,Nat.reduceMul,Int.reduceToNat];refine fH rfl (fun hb=>dB (bK hb rfl) (bK hb rfl)) (aA (fT rfl rfl rfl) (aA (aB) (fH rfl (fun hb=>aH bL aF rfl rfl (by decide) (by decide) rfl) ?_)));simp only[zz];refine oR rfl (fun hb=>cC (bK hb rfl) ((m.b 0 rfl).lies aJ aF rfl rfl)) ?_;simp only[zz,zy,Nat.zero_add,Nat.reduceAdd,Nat.reduceMul,Int.reduceToNat];refine fH rfl (fun hb=>aH bL aF rfl rfl (by decide) (by decide) rfl) ?_;simp only[zz];refine oR rfl (fun hb=>cC (bK hb rfl) ((m.b 0 rfl).lies aJ aF rfl rfl)) ?_;simp only[zz,zy,Nat.zero_add,Nat.reduceAdd,Nat.reduceMul,Int.reduceToNat];refine fH rfl (fun hb=>dB (bK hb rfl) (bK hb rfl)) (aA (fT rfl rfl rfl) (aG (k8 _ _ ?_)));simp only[zz];refine lS rfl (fun hc2=>?_) (fun hc2=>?_)
   ·
    have hd:=qZ (p:=mM) ht (Ks.symm.trans hc2);refine aD fun K9 k9=>wp_region_lit (aA (aC) (aG (k9 _ _ ?_)));refine wp_ret ?_;simp only[zz];try simp only[Exit.inBlock,Exit.then,if_true]
    refine bO rfl rfl ?_;try simp only[zD,zE]
    exact ⟨_,rfl,m.ext,by rw [Tf hd]⟩
   ·
    have hd1 : (ts.take (k + 1)).any mM = false:=by rw [mD ht,hd0,← Ks];exact hc2
    refine wp_skip (k6 _ _ ?_);refine wp_region_lit (aA (aP rfl rfl (aM (by omega) (by omega))) (aA (aB) (aG ?_)));simp only[zz];simp only[Exit.inBlock,Exit.then];refine ⟨N - (k + 1),_,?_,rfl,?_,?_⟩
    · omega
    · simp only[zz,zv]
    ·
     simp only[zQ,zR,zD,zE];exact ⟨k + 1,rfl,(m.sel [false]),hd1,by omega,rfl⟩
  ·
   have hkN : k = N:=by omega
   rw [hkN,show ts.take N = ts from List.take_of_length_le (by rw [hT.len];exact Nat.le_refl _)] at hd0;refine wp_exit (k2 _ _ ?_);refine aD fun K10 k10=>wp_region_lit (aA (aB) ?_);simp only[zz];refine bA rfl rfl (Gb _ (hT.ext m.ext) hN) ?_;rintro v u e ⟨g8,es8,c8,rfl,hM,hD8⟩;replace m:=m.plus hM;clear hM e;simp only[List.cons_append,List.nil_append] at m;refine aA (aB) (aA (bE rfl rfl) (aA (bE rfl rfl) ?_));simp only[zz];refine aA (aC) (aA (aC) (aG (k10 _ _ ?_)));refine aD fun K11 k11=>wp_block (aD fun K12 k12=>wp_region_lit (aA (aB) (aA (fQ rfl) ?_)));simp only[zz];refine aA (aC) (aG (k12 _ _ ?_));simp only[zz];refine eE rfl (fun hc3=>?_) (fun hc3=>?_)
   ·
    have hnd : ¬ (aV ts).Nodup:=by simpa using hc3
    refine aD fun K13 k13=>wp_region_lit (aA (aC) (aG (k13 _ _ ?_)));refine wp_ret ?_;simp only[zz];try simp only[Exit.inBlock,Exit.then,if_true]
    refine bO rfl rfl ?_;try simp only[zD,zE]
    exact ⟨_,rfl,m.ext,by rw [Tg hd0 (acB hnd)]⟩
   ·
    have hnd : (aV ts).Nodup:=by simpa using hc3
    refine aD fun K14 k14=>wp_region_lit (aA (aB) (aA (fQ rfl) (aA (aB) (cD rfl ?_))));simp only[zz];refine cD rfl (cD rfl (cD rfl (aA (fL rfl) ?_)));simp only[zz];refine aA (aC) (aG (k14 _ _ ?_));refine iO rfl (aD fun K15 k15=>wp_region_lit (aA (aB) ?_));simp only[zz];refine eH m rfl rfl (Sd _ (hT.ext m.ext) hN hnd) ?_;clear m;rintro v u m rfl;refine aA (aC) (aG (k15 _ _ ?_));simp only[zz];refine eE rfl (fun hc5=>?_) (fun hc5=>?_)
    ·
     refine aD fun K16 k16=>wp_region_lit (aA (aC) (aG (k16 _ _ ?_)));refine wp_ret ?_;simp only[zz];try simp only[Exit.inBlock,Exit.then,if_true]
     refine bO rfl rfl ?_;try simp only[zD,zE]
     exact ⟨_,rfl,m.ext,by rw [Th hd0 (aaX hnd) rfl hc5]⟩
    ·
     refine wp_skip (k11 _ _ ?_);refine aD fun K17 k17=>wp_region_lit (aA (aC) (aG (k17 _ _ ?_)));refine wp_ret ?_;simp only[zz];try simp only[Exit.inBlock,Exit.then,if_true]
     refine bO rfl rfl ?_;try simp only[zD,zE]
     exact ⟨_,rfl,m.ext,by rw [aas hd0 (aaX hnd) rfl hc5]⟩
theorem Ab {ts : List T3} {N cap : Nat} {A : Option Addr} (w : World) (hT : eO w A N ts) (hN : N ≤ 10000000) : eK prog 65 [.slice A N cap] w (fun v _=>v = .int .i64 (dH true ts)):=by
 refine ⟨af0,?_⟩;have m:=cA.refl w
 go_enter func65,ntmps65
 refine aD fun K1 k1=>wp_region_lit (aA (aC) (aG (k1 _ _ ?_)));refine aD fun K2 k2=>wp_region_lit (aA (aB) ?_);simp only[zz];refine eH m rfl rfl (aaY _ (hT.ext m.ext) hN) ?_;clear m;rintro v u m rfl;refine aA (aC) (aG (k2 _ _ ?_));refine wp_ret ?_;simp only[zz];try simp only[Exit.inBlock,Exit.then,if_true]
 refine bO rfl rfl ?_;try simp only[zD,zE]
 exact ⟨_,rfl,m.ext,rfl⟩
theorem aeq {t : T3} (h1 : t.b.Lt t.a) (h2 : t.c.Lt t.b) : eC t = ⟨t.c,t.a,t.b⟩:=if_pos ⟨P3.lt_trans h2 h1,.inl h2⟩
theorem aer {t : T3} (h1 : t.b.Lt t.a) (h2 : ¬ t.c.Lt t.b) : eC t = ⟨t.b,t.c,t.a⟩:=by rw [eC,if_neg (fun h=>h.2.elim h2 fun k=>k h1),if_pos h1]
theorem aes {t : T3} (h1 : ¬ t.b.Lt t.a) (h2 : t.c.Lt t.a) : eC t = ⟨t.c,t.a,t.b⟩:=if_pos ⟨h2,.inr h1⟩
theorem aet {t : T3} (h1 : ¬ t.b.Lt t.a) (h2 : ¬ t.c.Lt t.a) : eC t = t:=by rw [eC,if_neg (fun h=>h2 h.1),if_neg h1]
theorem Jk {t : T3} : jG prog 74 [tr t] (tr (eC t)):=by
 intro w;refine ⟨af9,?_⟩;have m:=cA.refl w
 go_enter func74,ntmps74
 refine aD fun K1 k1=>wp_region_lit (eP m rfl ?_);clear m;intro g1 u m;simp only[zz];refine bF m jX rfl ?_;clear m;intro g2 u m;refine aG (k1 _ _ ?_);refine aD fun K2 k2=>wp_region_lit (aA (aC) (aG (k2 _ _ ?_)));refine aD fun K3 k3=>aD fun K4 k4=>wp_region_lit (aA (aC) (aG (k4 _ _ ?_)));refine wp_block (wp_loop_rounds 3 (dU (aD fun K5 k5=>aD fun K6 k6=>wp_region_lit (aA (aB) ?_))));simp only[zz];refine aA (bX (m:=1) (n:=3) rfl rfl (by decide)) (aG (k6 _ _ ?_));refine cG rfl (wp_skip (k5 _ _ ?_));refine aD fun K7 k7=>wp_block (aD fun K8 k8=>?_);simp only[zz];refine mq m aO (by kernel_rfl) (aL (aB) (aL (aH bL aF rfl rfl (by decide) (by decide) rfl) ?_));simp only[zz];refine ql rfl (fun u m=>((m.b 1 rfl).lies aJ aF rfl rfl)) ?_;simp only[zz,zy,Nat.zero_add,Nat.reduceAdd,Nat.reduceMul,Int.reduceToNat];refine aL (aB) (aL (aH bL aF rfl rfl (by decide) (by decide) rfl) ?_);simp only[zz];refine ql rfl (fun u m=>((m.b 1 rfl).lies aJ aF rfl rfl)) ?_;simp only[zz,zy,Nat.zero_add,Nat.reduceAdd,Nat.reduceMul,Int.reduceToNat];refine tJ rfl rfl (wM.pure) (dK ?_);clear m;intro u m;refine k8 _ _ ?_;simp only[zz];refine bZ rfl (fun hc2=>?_) (fun hc2=>?_)
 ·
  have h1:=hc2;refine wp_region_lit (aA (aB) (aA (aC) (aG (k7 _ _ ?_))));refine wp_region_lit (aA (aB) (aA (aP (m:=1) (n:=1) (r:=2) rfl rfl (by decide)) ?_));simp only[zz];refine aA (aC) (aG (aU (aD fun K9 k9=>aD fun K10 k10=>wp_region_lit (aA (aB) (aA (bX (m:=2) (n:=3) rfl rfl (by decide)) (aG (k10 _ _ ?_)))))));refine cG rfl (wp_skip (k9 _ _ ?_));refine aD fun K11 k11=>wp_block (aD fun K12 k12=>?_);simp only[zz];refine mq m aO (by kernel_rfl) (aL (aB) (aL (aH bL aF rfl rfl (by decide) (by decide) rfl) ?_));simp only[zz];refine ql rfl (fun u m=>((m.b 1 rfl).lies aJ aF rfl rfl)) ?_;simp only[zz,zy,Nat.zero_add,Nat.reduceAdd,Nat.reduceMul,Int.reduceToNat];refine aL (aB) (aL (aH bL aF rfl rfl (by decide) (by decide) rfl) ?_);simp only[zz];refine ql rfl (fun u m=>((m.b 1 rfl).lies aJ aF rfl rfl)) ?_;simp only[zz,zy,Nat.zero_add,Nat.reduceAdd,Nat.reduceMul,Int.reduceToNat];refine tJ rfl rfl (wM.pure) (dK ?_);clear m;intro u m;refine k12 _ _ ?_;simp only[zz];refine bZ rfl (fun hc2=>?_) (fun hc2=>?_)
  ·
   have h2:=hc2;refine wp_region_lit (aA (aB) (aA (aC) (aG (k11 _ _ ?_))));refine wp_region_lit (aA (aB) (aA (aP (m:=2) (n:=1) (r:=3) rfl rfl (by decide)) ?_));simp only[zz];refine aA (aC) (aG (aU (aD fun K13 k13=>aD fun K14 k14=>wp_region_lit (aA (aB) (aA (eU (m:=3) (n:=3) rfl rfl (by decide)) (aG (k14 _ _ ?_)))))));refine iO rfl (wp_exit (k3 _ _ ?_));refine aD fun K15 k15=>?_;simp only[zz];refine iU m 14 aO (by kernel_rfl) ?_;simp only[zy];refine aL (aB) (aL (aH bL aF rfl rfl (by decide) (by decide) rfl) ?_);simp only[zz];refine ql rfl (fun u m=>((m.b 1 rfl).lies aJ aF rfl rfl)) ?_;simp only[zz,zy,Nat.zero_add,Nat.reduceAdd,Nat.reduceMul,Int.reduceToNat];refine aL (aB) (aL (aP (m:=2) (n:=1) (r:=3) rfl rfl (by decide)) (aL (dG (m:=3) (n:=3) (r:=0) rfl rfl (by decide) (by decide)) (aL (aH bL aF rfl rfl (by decide) (by decide) rfl) ?_)));simp only[zz];refine ql rfl (fun u m=>((m.b 1 rfl).lies aJ aF rfl rfl)) ?_;simp only[zz,zy,Nat.zero_add,Nat.reduceAdd,Nat.reduceMul,Int.reduceToNat];refine aL (aB) (aL (aP (m:=2) (n:=2) (r:=4) rfl rfl (by decide)) (aL (dG (m:=4) (n:=3) (r:=1) rfl rfl (by decide) (by decide)) (aL (aH bL aF rfl rfl (by decide) (by decide) rfl) ?_)));simp only[zz];refine ql rfl (fun u m=>((m.b 1 rfl).lies aJ aF rfl rfl)) ?_;simp only[zz,zy,Nat.zero_add,Nat.reduceAdd,Nat.reduceMul,Int.reduceToNat];refine aL (bM rfl rfl rfl) (dK ?_);clear m;intro u m;simp only[zz];refine aS m 0 rfl rfl rfl aT (dZ rfl) rfl ?_;clear m;intro u m;simp only[zy,zx,bG,zF,zG,Nat.reduceAdd] at m;refine aG (k15 _ _ ?_);refine wp_ret ?_;try simp only[Exit.inBlock,Exit.then,if_true]
   refine bO rfl ⟨_,rfl,((m.b 0 rfl).full eQ aT)⟩ ?_;try simp only[zD,zE]
   exact ⟨_,rfl,m.ext,by rw [aeq h1 h2];rfl⟩
  ·
   have h2:=hc2;refine wp_skip (k11 _ _ ?_);refine wp_region_lit (aA (aB) (aA (aP (m:=2) (n:=1) (r:=3) rfl rfl (by decide)) (aA (aC) (aG (aU (aD fun K16 k16=>aD fun K17 k17=>wp_region_lit (aA (aB) ?_)))))));simp only[zz];refine aA (eU (m:=3) (n:=3) rfl rfl (by decide)) (aG (k17 _ _ ?_));refine iO rfl (wp_exit (k3 _ _ ?_));refine aD fun K18 k18=>?_;simp only[zz];refine iU m 14 aO (by kernel_rfl) ?_;simp only[zy];refine aL (aB) (aL (aH bL aF rfl rfl (by decide) (by decide) rfl) ?_);simp only[zz];refine ql rfl (fun u m=>((m.b 1 rfl).lies aJ aF rfl rfl)) ?_;simp only[zz,zy,Nat.zero_add,Nat.reduceAdd,Nat.reduceMul,Int.reduceToNat];refine aL (aB) (aL (aP (m:=1) (n:=1) (r:=2) rfl rfl (by decide)) (aL (dG (m:=2) (n:=3) (r:=2) rfl rfl (by decide) (by decide)) (aL (aH bL aF rfl rfl (by decide) (by decide) rfl) ?_)));simp only[zz];refine ql rfl (fun u m=>((m.b 1 rfl).lies aJ aF rfl rfl)) ?_;simp only[zz,zy,Nat.zero_add,Nat.reduceAdd,Nat.reduceMul,Int.reduceToNat];refine aL (aB) (aL (aP (m:=1) (n:=2) (r:=3) rfl rfl (by decide)) (aL (dG (m:=3) (n:=3) (r:=0) rfl rfl (by decide) (by decide)) (aL (aH bL aF rfl rfl (by decide) (by decide) rfl) ?_)));simp only[zz];refine ql rfl (fun u m=>((m.b 1 rfl).lies aJ aF rfl rfl)) ?_;simp only[zz,zy,Nat.zero_add,Nat.reduceAdd,Nat.reduceMul,Int.reduceToNat];refine aL (bM rfl rfl rfl) (dK ?_);clear m;intro u m;simp only[zz];refine aS m 0 rfl rfl rfl aT (dZ rfl) rfl ?_;clear m;intro u m;simp only[zy,zx,bG,zF,zG,Nat.reduceAdd] at m;refine aG (k18 _ _ ?_);refine wp_ret ?_;try simp only[Exit.inBlock,Exit.then,if_true]
   refine bO rfl ⟨_,rfl,((m.b 0 rfl).full eQ aT)⟩ ?_;try simp only[zD,zE]
   exact ⟨_,rfl,m.ext,by rw [aer h1 h2];rfl⟩
 ·
  have h1:=hc2;refine wp_skip (k7 _ _ ?_);refine wp_region_lit (aA (aB) (aA (aP (m:=1) (n:=1) (r:=2) rfl rfl (by decide)) (aA (aC) (aG (aU (aD fun K19 k19=>aD fun K20 k20=>wp_region_lit (aA (aB) ?_)))))));simp only[zz];refine aA (bX (m:=2) (n:=3) rfl rfl (by decide)) (aG (k20 _ _ ?_));refine cG rfl (wp_skip (k19 _ _ ?_));refine aD fun K21 k21=>wp_block (aD fun K22 k22=>?_);simp only[zz];refine mq m aO (by kernel_rfl) (aL (aB) (aL (aH bL aF rfl rfl (by decide) (by decide) rfl) ?_));simp only[zz];refine ql rfl (fun u m=>((m.b 1 rfl).lies aJ aF rfl rfl)) ?_;simp only[zz,zy,Nat.zero_add,Nat.reduceAdd,Nat.reduceMul,Int.reduceToNat];refine aL (aB) (aL (aH bL aF rfl rfl (by decide) (by decide) rfl) ?_);simp only[zz];refine ql rfl (fun u m=>((m.b 1 rfl).lies aJ aF rfl rfl)) ?_;simp only[zz,zy,Nat.zero_add,Nat.reduceAdd,Nat.reduceMul,Int.reduceToNat];refine tJ rfl rfl (wM.pure) (dK ?_);clear m;intro u m;refine k22 _ _ ?_;simp only[zz];refine bZ rfl (fun hc2=>?_) (fun hc2=>?_)
  ·
   have h2:=hc2;refine wp_region_lit (aA (aB) (aA (aC) (aG (k21 _ _ ?_))));refine wp_region_lit (aA (aB) (aA (aP (m:=2) (n:=1) (r:=3) rfl rfl (by decide)) ?_));simp only[zz];refine aA (aC) (aG (aU (aD fun K23 k23=>aD fun K24 k24=>wp_region_lit (aA (aB) (aA (eU (m:=3) (n:=3) rfl rfl (by decide)) (aG (k24 _ _ ?_)))))));refine iO rfl (wp_exit (k3 _ _ ?_));refine aD fun K25 k25=>?_;simp only[zz];refine iU m 14 aO (by kernel_rfl) ?_;simp only[zy];refine aL (aB) (aL (aH bL aF rfl rfl (by decide) (by decide) rfl) ?_);simp only[zz];refine ql rfl (fun u m=>((m.b 1 rfl).lies aJ aF rfl rfl)) ?_;simp only[zz,zy,Nat.zero_add,Nat.reduceAdd,Nat.reduceMul,Int.reduceToNat];refine aL (aB) (aL (aP (m:=2) (n:=1) (r:=3) rfl rfl (by decide)) (aL (dG (m:=3) (n:=3) (r:=0) rfl rfl (by decide) (by decide)) (aL (aH bL aF rfl rfl (by decide) (by decide) rfl) ?_)));simp only[zz];refine ql rfl (fun u m=>((m.b 1 rfl).lies aJ aF rfl rfl)) ?_;simp only[zz,zy,Nat.zero_add,Nat.reduceAdd,Nat.reduceMul,Int.reduceToNat];refine aL (aB) (aL (aP (m:=2) (n:=2) (r:=4) rfl rfl (by decide)) (aL (dG (m:=4) (n:=3) (r:=1) rfl rfl (by decide) (by decide)) (aL (aH bL aF rfl rfl (by decide) (by decide) rfl) ?_)));simp only[zz];refine ql rfl (fun u m=>((m.b 1 rfl).lies aJ aF rfl rfl)) ?_;simp only[zz,zy,Nat.zero_add,Nat.reduceAdd,Nat.reduceMul,Int.reduceToNat];refine aL (bM rfl rfl rfl) (dK ?_);clear m;intro u m;simp only[zz];refine aS m 0 rfl rfl rfl aT (dZ rfl) rfl ?_;clear m;intro u m;simp only[zy,zx,bG,zF,zG,Nat.reduceAdd] at m;refine aG (k25 _ _ ?_);refine wp_ret ?_;try simp only[Exit.inBlock,Exit.then,if_true]
   refine bO rfl ⟨_,rfl,((m.b 0 rfl).full eQ aT)⟩ ?_;try simp only[zD,zE]
   exact ⟨_,rfl,m.ext,by rw [aes h1 h2];rfl⟩
  ·
   have h2:=hc2;refine wp_skip (k21 _ _ ?_);refine wp_region_lit (aA (aB) (aA (aP (m:=2) (n:=1) (r:=3) rfl rfl (by decide)) (aA (aC) (aG (aU (aD fun K26 k26=>aD fun K27 k27=>wp_region_lit (aA (aB) ?_)))))));simp only[zz];refine aA (eU (m:=3) (n:=3) rfl rfl (by decide)) (aG (k27 _ _ ?_));refine iO rfl (wp_exit (k3 _ _ ?_));refine aD fun K28 k28=>?_;simp only[zz];refine iU m 14 aO (by kernel_rfl) ?_;simp only[zy];refine aL (aB) (aL (aH bL aF rfl rfl (by decide) (by decide) rfl) ?_);simp only[zz];refine ql rfl (fun u m=>((m.b 1 rfl).lies aJ aF rfl rfl)) ?_;simp only[zz,zy,Nat.zero_add,Nat.reduceAdd,Nat.reduceMul,Int.reduceToNat];refine aL (aB) (aL (aP (m:=0) (n:=1) (r:=1) rfl rfl (by decide)) (aL (dG (m:=1) (n:=3) (r:=1) rfl rfl (by decide) (by decide)) (aL (aH bL aF rfl rfl (by decide) (by decide) rfl) ?_)));simp only[zz];refine ql rfl (fun u m=>((m.b 1 rfl).lies aJ aF rfl rfl)) ?_;simp only[zz,zy,Nat.zero_add,Nat.reduceAdd,Nat.reduceMul,Int.reduceToNat];refine aL (aB) (aL (aP (m:=0) (n:=2) (r:=2) rfl rfl (by decide)) (aL (dG (m:=2) (n:=3) (r:=2) rfl rfl (by decide) (by decide)) (aL (aH bL aF rfl rfl (by decide) (by decide) rfl) ?_)));simp only[zz];refine ql rfl (fun u m=>((m.b 1 rfl).lies aJ aF rfl rfl)) ?_;simp only[zz,zy,Nat.zero_add,Nat.reduceAdd,Nat.reduceMul,Int.reduceToNat];refine aL (bM rfl rfl rfl) (dK ?_);clear m;intro u m;simp only[zz];refine aS m 0 rfl rfl rfl aT (dZ rfl) rfl ?_;clear m;intro u m;simp only[zy,zx,bG,zF,zG,Nat.reduceAdd] at m;refine aG (k28 _ _ ?_);refine wp_ret ?_;try simp only[Exit.inBlock,Exit.then,if_true]
   refine bO rfl ⟨_,rfl,((m.b 0 rfl).full eQ aT)⟩ ?_;try simp only[zD,zE]
   exact ⟨_,rfl,m.ext,by rw [aet h1 h2];rfl⟩
end Go.Proofs.YtfohfflkhpfjeaaGreatDoor
namespace Go.Lith
open Go.RowKit
theorem dA {P : Program} {l : List Value} {x : Operand} {ty : TypeId} {a : Addr} (hx : ev l x = .pointer (some a)) : iH P l (.nilCheck x) ty (.pointer (some a)):=fun w o ho _=>by
 simp [execOp,ho,dC,hx]
theorem agL {P : Program} {ds : List Deferred} {Q : Exit → Act → World → Prop} {w w0 : World} {is : List It} {c : Code} {a : Act} {l : Nat → List Value} {c1 : List Value} {T1 : TypeId} (m : cA w0 w is) (h1 : c.wp P (fun e a' u=>e = .normal ∧ ∃ g,a' = Fr (l g) ds ∧ cA w0 u (bI g c1 T1 :: is)) a w)
 (h2 : ∀ g u,cA w0 u (bI g c1 T1 :: is) → Q .normal (Fr (l g) ds) u) : c.wp P Q a w:=by
 refine Code.wp_mono ?_ h1;rintro e a' u ⟨rfl,g,rfl,m'⟩;exact h2 g u m'
end Go.Lith
namespace Go.Lith
open Go.RowKit
abbrev pS (x : Nat) : Value:=.int .i64 (x : Int)
structure cX (w : World) (b : Nat) (A : Option Addr) (n cap : Nat) (xs : List Nat) : Prop where
 eq : n = xs.length
 row : ∀ (i x : Nat),xs[i]? = some x → ∃ a,A = some a ∧ a.block < b ∧ w.cell? (a.add i) = some (.int .i64 (x : Int))
 le : xs.length ≤ cap
 cap : cap ≤ 9223372036854775807
 len : xs.length ≤ 17592186044416
 digs : cY 65536 xs
structure sQ (w : World) (b : Nat) : Prop where
 h : b ≤ w.heap.size
theorem sQ.ext {w w' : World} {b : Nat} (h : sQ w b) (hE : dJ w w') : sQ w' b:=⟨Nat.le_trans h.h hE.size⟩
theorem sQ.grew {w w' : World} {b base : Nat} (h : sQ w b) (hG : Cn w w' base) (_ : True:=trivial) : sQ w' b:=⟨Nat.le_trans h.h hG.size⟩
theorem dJ.base {w0 w : World} (h : dJ w0 w) : ∃ b,b = w.heap.size ∧ w0.heap.size ≤ b:=⟨_,rfl,h.size⟩
theorem sQ.of {w0 w : World} {b : Nat} (_ : dJ w0 w) (e : b = w.heap.size) : sQ w b:=⟨Nat.le_of_eq e⟩
theorem jA.nil_of {w0 w : World} (_ : dJ w0 w) (base : Nat) (E : TypeId) (c : Nat) : jA w base E c (.slice none 0 0) 0 []:=jA.nil w base E c
theorem gJ.row0 {w : World} {g : Nat} {cs : List Value} {t : TypeId} (h : gJ w g cs t) : jK w ⟨g,0,none⟩ cs:=h.row 0
section
variable {w w' : World} {b : Nat} {A : Option Addr} {n cap : Nat} {xs : List Nat}
theorem cX.ext (h : cX w b A n cap xs) (hE : dJ w w') : cX w' b A n cap xs :=
 ⟨h.eq,fun i x hi=>let ⟨a,e,hb,hc⟩:=h.row i x hi;⟨a,e,hb,hE.cell hc⟩,h.le,h.cap,h.len,h.digs⟩
theorem cX.mono {b' : Nat} (h : cX w b A n cap xs) (hb : b ≤ b') : cX w b' A n cap xs :=
 ⟨h.eq,fun i x hi=>let ⟨a,e,h1,hc⟩:=h.row i x hi;⟨a,e,by omega,hc⟩,h.le,h.cap,h.len,h.digs⟩
theorem cX.here (h : cX w b A n cap xs) : cX w w.heap.size A n cap xs :=
 ⟨h.eq,fun i x hi=>by
  obtain ⟨a,e,_,hc⟩:=h.row i x hi;have:=World.block_lt_of_cell? _ _ hc;rw [nZ] at this;exact ⟨a,e,this,hc⟩,h.le,h.cap,h.len,h.digs⟩
theorem cX.chg {g : Nat} (h : cX w b A n cap xs) (hC : Uj w w' g) (hb : b ≤ g) : cX w' b A n cap xs :=
 ⟨h.eq,fun i x hi=>by
  obtain ⟨a,e,h1,hc⟩:=h.row i x hi;exact ⟨a,e,h1,(hC.cell (by rw [nZ];omega)).trans hc⟩,h.le,h.cap,h.len,h.digs⟩
theorem cX.grew {base : Nat} (h : cX w b A n cap xs) (hG : Cn w w' base) (hb : b ≤ base) : cX w' b A n cap xs :=
 ⟨h.eq,fun i x hi=>by
  obtain ⟨a,e,h1,hc⟩:=h.row i x hi;exact ⟨a,e,h1,(World.cell?_of_block (hG.block _ (by rw [nZ];omega))).trans hc⟩,h.le,h.cap,h.len,h.digs⟩
theorem cX.take (h : cX w b A n cap xs) (k : Nat) : cX w b A (xs.take k).length cap (xs.take k) :=
 ⟨rfl,fun i x hi=>h.row i x (by rw [List.getElem?_take] at hi;split at hi;exact hi;cases hi),Nat.le_trans (by simp;omega) h.le,h.cap,Nat.le_trans (by simp;omega) h.len,h.digs.take k⟩
theorem cX.get (h : cX w b A n cap xs) {i : Nat} (hi : i < xs.length) : ∃ a,A = some a ∧ w.cell? (a.add i) = some (.int .i64 ((xs[i] : Nat) : Int)) ∧ xs[i] < 65536:=by
 obtain ⟨a,e,_,hc⟩:=h.row i xs[i] (List.getElem?_eq_getElem hi);exact ⟨a,e,hc,h.digs _ (List.getElem_mem hi)⟩
theorem cX.at {a : Addr} (h : cX w b (some a) n cap xs) {i : Nat} (hi : i < xs.length) : w.cell? (a.add i) = some (.int .i64 ((xs[i] : Nat) : Int)):=by
 obtain ⟨a',e,hc,_⟩:=h.get hi;cases e;exact hc
theorem cX.lt (h : cX w b A n cap xs) {i : Nat} (hi : i < xs.length) : xs[i] < 65536:=h.digs _ (List.getElem_mem hi)
theorem cX.nil (w : World) (b : Nat) : cX w b none 0 0 []:=⟨rfl,fun i x hi=>by simp at hi,Nat.le_refl _,by omega,by simp,fun x hx=>by cases hx⟩
theorem cX.of_blk {g : Nat} {os : List Nat} {t : TypeId} (h : gJ w g (os.map pS) t) (hd : cY 65536 os) (hn : n = os.length) (hl : n ≤ 17592186044416) : cX w w.heap.size (some ⟨g,0,none⟩) n n os :=
 ⟨hn,fun i x hi=>⟨_,rfl,h.lt,by rw [gL,Nat.zero_add];exact h.cell (by simp [hi])⟩,by omega,by omega,by omega,hd⟩
theorem cX.of_owns {base : Nat} {v : Value} {E : TypeId} (h : jA w base E 1 v n (xs.map pS)) (hn : n = xs.length) (hd : cY 65536 xs) (hl : n ≤ 17592186044416) : ∃ A c,v = .slice A n c ∧ cX w w.heap.size A n c xs ∧ ∀ a,A = some a → base ≤ a.block:=by
 rcases h.row with ⟨rfl,rfl,hx⟩ | ⟨g,cap,rfl,hb,h1,h2,hg,hr⟩
 · obtain rfl : xs = []:=by simpa using hx
   exact ⟨none,0,rfl,cX.nil _ _,fun _ e=>by cases e⟩
 · exact ⟨_,cap,rfl,⟨hn,fun i x hi=>⟨_,rfl,hg,hr i _ (by simp [hi])⟩,by omega,h2,by omega,hd⟩,fun a e=>by cases e;exact hb⟩
theorem cX.rows (h : cX w b A n cap xs) : ∀ j u,(xs.map pS)[j]? = some u → ∃ a,A = some a ∧ w.cell? (a.add j) = some u:=fun j u hj=>by
 rw [List.getElem?_map] at hj;cases hx : xs[j]? with
 | none=>rw [hx] at hj;cases hj
 | some x =>
  rw [hx] at hj;cases hj;obtain ⟨a,e,_,hc⟩:=h.row j x hx;exact ⟨a,e,hc⟩
end
theorem jA.snoc {w : World} {b : Nat} {E : TypeId} {v : Value} {os : List Nat} {x : Nat} (h : jA w b E 1 v (os.length + 1) (os.map pS ++ [.int .i64 (x : Int)])) : jA w b E 1 v (os ++ [x]).length ((os ++ [x]).map pS):=by simpa using h
def rQ (n : Nat) (v : Value) (w : World) : Prop:=∃ A cap,v = .slice A (digs 65536 n).length cap ∧ cX w w.heap.size A (digs 65536 n).length cap (digs 65536 n)
theorem lI {a b : Nat} : Kb a b ≤ 0 ↔ a ≤ b:=by
 unfold Kb;split
 · omega
 · split <;> omega
def aeu (n k : Nat) (v : Value) (w : World) : Prop:=∃ A cap os,v = .slice A os.length cap ∧ cX w w.heap.size A os.length cap os ∧ val 65536 os = n ∧ os.length ≤ k
theorem rQ.of_trim {w : World} {b : Nat} {A : Option Addr} {xs : List Nat} {k cap n : Nat} (h : cX w b A k cap xs) (hv : val 65536 xs = n) : rQ n (.slice A (trim xs).length cap) w:=by
 have e : trim xs = digs 65536 n:=lL (by omega) h.digs hv;refine ⟨A,cap,by rw [e],?_⟩;rw [← e];have:=(h.take (trim xs).length).here;rwa [← gY] at this
theorem rQ.self {w : World} {b : Nat} {A : Option Addr} {xs : List Nat} {k cap : Nat} (h : cX w b A k cap xs) (t : fW xs) : rQ (val 65536 xs) (.slice A k cap) w:=by
 have e : xs = digs 65536 (val 65536 xs):=by rw [← lL (by omega) h.digs rfl,t]
 refine ⟨A,cap,by rw [h.eq,← e],?_⟩;rw [← e,← h.eq];exact h.here
theorem mF (n : Nat) : List.replicate n (Value.int .i64 0) = (List.replicate n 0).map pS:=by simp [pS]
theorem Ac {os : List Nat} {i d : Nat} (hi : i < os.length) : bG (os.map pS) i [pS d] = (os.set i d).map pS:=by
 simp only[bG,List.length_singleton];apply List.ext_getElem?;intro j;rcases Nat.lt_trichotomy j i with h | h | h
 · rw [List.getElem?_append_left (by simp;omega),List.getElem?_append_left (by simp;omega)]
   simp [h,List.getElem?_set_ne (Nat.ne_of_gt h)]
 · subst h
   rw [List.getElem?_append_left (by simp;omega),List.getElem?_append_right (by simp;omega)];have e : j - min j os.length = 0:=by omega
   simp [hi,e]
 · rw [List.getElem?_append_right (by simp;omega)]
   simp only[List.length_append,List.length_take,List.length_map,List.length_singleton,List.getElem?_drop,List.getElem?_map];rw [List.getElem?_set_ne (by omega)]
   congr 2
   omega
theorem gJ.digit {w : World} {g : Nat} {os : List Nat} {t : TypeId} (h : gJ w g (os.map pS) t) {i : Nat} (hi : i < os.length) : w.cell? ⟨g,i,none⟩ = some (.int .i64 ((os[i] : Nat) : Int)) :=
 h.cell (by simp [hi])
theorem eM (n : Nat) : val 65536 (digs 65536 n) = n:=oV (by omega) n
theorem kD (n : Nat) : fW (digs 65536 n):=nB (by omega) n
theorem kG (n : Nat) : cY 65536 (digs 65536 n):=pV (by omega) n
theorem Ad {m n : Nat} (h : m ≤ n) : (digs 65536 m).length ≤ (digs 65536 n).length:=by
 refine dS (by omega) (Nat.lt_of_le_of_lt h ?_);have:=iD (kG n);rwa [eM] at this
theorem pE {k : Nat} {V : Nat} (h : V < 2 ^ k) : (digs 65536 V).length ≤ k:=by
 refine dS (by omega) (Nat.lt_of_lt_of_le h ?_);rw [show (65536 : Nat) = 2 ^ 16 from rfl,← Nat.pow_mul];exact Nat.pow_le_pow_right (by omega) (by omega)
theorem Ov {m n : Nat} (h : m < 9223372036854775808) : IntKind.i64.wrap ((m : Int).tdiv (n : Int)) = ((m / n : Nat) : Int):=lN h
section
variable {P : Program} {ds : List Deferred} {l : List Value} {T ty : TypeId}
variable {ops : Array Oper} {Q : Exit → Act → World → Prop} {rest : List Oper} {d : Nat} {pos : String} {after : Array Edge} {w : World}
theorem pY {s0 x0 : Operand} {base c b nn mm cap : Nat} {E : TypeId} {z v : Value} {xs : List Value} {A : Option Addr} {a0 : Array TypeId} (ha : a0 = #[T,T]) (hu : P.underlying T = some (.slice E)) (hi : (P.info? E).map (fun i=>(i.size,i.bytes,i.zero)) = some (c,b,some z)) (hz : z.cells.size = c) (hc : 0 < c)
 (hs : ev l s0 = v) (hown : jA w base E c v nn xs) (hx : ev l x0 = .slice A mm cap) {news : List Value} (hl : news.length = mm * c) (hrow : ∀ j u,news[j]? = some u → ∃ a,A = some a ∧ w.cell? (a.add j) = some u) (h1 : ∀ u ∈ news,u.oneCell' = true) (h63 : nn + mm ≤ 9223372036854775807) (hbytes : (nn + mm) * b ≤ 140737488355328) (hbase : base ≤ w.heap.size)
 (h : ∀ v' w',jA w' base E c v' (nn + mm) (xs ++ news) → Cn w w' base → True → wpList P ops Q rest (Fr (l.set d v') ds) w') :
 wpList P ops Q (Oper.mk (some d) (.call { callee:=.builtin .append,args:=#[s0,x0],argTypes:=a0 }) ty pos after none :: rest) (Fr l ds) w:=by
 cases A with
 | none =>
  obtain rfl : news = []:=by
   cases news with
   | nil=>rfl
   | cons u us=>obtain ⟨a,e,_⟩:=hrow 0 u rfl;cases e
  have hm : mm = 0:=by
   rcases Nat.eq_zero_or_pos mm with h0 | h0
   · exact h0
   · have:=Nat.mul_pos h0 hc;simp at hl;omega
  subst hm;exact Ul ha hu hi hs hown hx (h _ _ (by simpa using hown) (Cn.refl _ _) trivial)
 | some a =>
  refine fY ha hu hi hz hc hs hown hx hl (fun j u hj=>?_) h1 h63 hbytes hbase (fun v' w' h2 h3 _=>h v' w' h2 h3 trivial);obtain ⟨a',e,hc'⟩:=hrow j u hj;cases e;exact hc'
end
theorem uA {os xs ys : List Nat} {i c s : Nat} (hl : os.length = i) (hv : val 65536 os + 65536 ^ i * c = val 65536 (xs.take i) + val 65536 (ys.take i)) (hd : cY 65536 os)
 (hs : s = c + xs[i]?.getD 0 + ys[i]?.getD 0) :
 val 65536 (os ++ [s % 65536]) + 65536 ^ (i + 1) * (s / 65536) = val 65536 (xs.take (i + 1)) + val 65536 (ys.take (i + 1)) ∧ cY 65536 (os ++ [s % 65536]):=by
 refine ⟨?_,hd.append (lK (Nat.mod_lt _ (by omega)) (kQ _))⟩;have ht : ∀ l : List Nat,val 65536 (l.take (i + 1)) = val 65536 (l.take i) + 65536 ^ i * l[i]?.getD 0:=fun l=>by
  rcases Nat.lt_or_ge i l.length with h | h
  · rw [cJ h,List.getElem?_eq_getElem h];rfl
  · rw [List.take_of_length_le (by omega),List.take_of_length_le h,List.getElem?_eq_none h];simp
 rw [ht xs,ht ys,eL,hl];simp only[val,Nat.mul_zero,Nat.add_zero];have e : s = s % 65536 + 65536 * (s / 65536):=by omega
 rw [Nat.pow_succ];generalize s / 65536 = q at *
 generalize s % 65536 = r at *
 generalize 65536 ^ i = p at *
 generalize xs[i]?.getD 0 = x at *
 generalize ys[i]?.getD 0 = y at *
 subst hs;have e2 : p * (c + x + y) = p * r + p * 65536 * q:=by rw [e];grind
 grind
theorem rD {os xs ys : List Nat} {i c s b : Nat} (hi : i < xs.length) (hl : os.length = i) (hv : val 65536 os + val 65536 (ys.take i) = val 65536 (xs.take i) + 65536 ^ i * c) (hd : cY 65536 os)
 (hs : s + ys[i]?.getD 0 + c = xs[i] + 65536 * b) (h16 : s < 65536) :
 val 65536 (os ++ [s]) + val 65536 (ys.take (i + 1)) = val 65536 (xs.take (i + 1)) + 65536 ^ (i + 1) * b ∧ cY 65536 (os ++ [s]):=by
 refine ⟨?_,hd.append (lK h16 (kQ _))⟩;have ht : val 65536 (ys.take (i + 1)) = val 65536 (ys.take i) + 65536 ^ i * ys[i]?.getD 0:=by
  rcases Nat.lt_or_ge i ys.length with h | h
  · rw [cJ h,List.getElem?_eq_getElem h];rfl
  · rw [List.take_of_length_le (by omega),List.take_of_length_le h,List.getElem?_eq_none h];simp
 rw [ht,cJ hi,eL,hl];simp only[val,Nat.mul_zero,Nat.add_zero];rw [Nat.pow_succ];generalize 65536 ^ i = p at *
 generalize ys[i]?.getD 0 = y at *
 generalize xs[i] = x at *
 have e2 : p * (s + y + c) = p * x + p * 65536 * b:=by rw [hs];grind
 grind
theorem Xa {os xs ys : List Nat} {c : Nat} (hle : ys.length ≤ xs.length) (hl : os.length = xs.length) (hd : cY 65536 os) (hv : val 65536 os + val 65536 (ys.take xs.length) = val 65536 (xs.take xs.length) + 65536 ^ xs.length * c) (hge : val 65536 ys ≤ val 65536 xs) : val 65536 os = val 65536 xs - val 65536 ys:=by
 rw [List.take_length,List.take_of_length_le hle] at hv;have h1:=iD hd;rw [hl] at h1;rcases Nat.eq_zero_or_pos c with h | h
 · subst h;omega
 · have : 65536 ^ xs.length * 1 ≤ 65536 ^ xs.length * c:=Nat.mul_le_mul_left _ h
   omega
theorem Se {os : List Nat} {i d c c' s t T : Nat} (hi : i < os.length) (hs : os[i] + s + c = d + 65536 * c') (hT : val 65536 os + 65536 ^ i * c = T) (ht : T + 65536 ^ i * s = t) :
 val 65536 (os.set i d) + 65536 ^ (i + 1) * c' = t:=by
 have h:=lD (B:=65536) (d:=d) hi;rw [Nat.pow_succ];generalize 65536 ^ i = p at *
 have e : p * (os[i] + s + c) = p * d + p * 65536 * c':=by rw [hs];grind
 grind
theorem Ox {os xs ys : List Nat} {i k c s : Nat} (hi : i < xs.length) (hk : k < ys.length) (hlo : os.length = xs.length + ys.length) (hv : val 65536 os + 65536 ^ (i + k) * c = val 65536 (xs.take i) * val 65536 ys + 65536 ^ i * (xs[i] * val 65536 (ys.take k)))
 (hs : s = os[i + k] + xs[i] * ys[k] + c) : val 65536 (os.set (i + k) (s % 65536)) + 65536 ^ (i + (k + 1)) * (s / 65536) = val 65536 (xs.take i) * val 65536 ys + 65536 ^ i * (xs[i] * val 65536 (ys.take (k + 1))):=by
 refine Se (s:=xs[i] * ys[k]) (i:=i + k) (by omega) (by omega) hv ?_;rw [cJ hk,Nat.pow_add]
 grind
theorem Xb {os xs ys : List Nat} {i c : Nat} (hi : i < xs.length) (hlo : os.length = xs.length + ys.length) (hv : val 65536 os + 65536 ^ (i + ys.length) * c = val 65536 (xs.take i) * val 65536 ys + 65536 ^ i * (xs[i] * val 65536 (ys.take ys.length))) (hz : os.drop (i + ys.length) = List.replicate (xs.length - i) 0) :
 val 65536 (os.set (i + ys.length) c) = val 65536 (xs.take (i + 1)) * val 65536 ys ∧ (os.set (i + ys.length) c).drop (i + 1 + ys.length) = List.replicate (xs.length - (i + 1)) 0:=by
 obtain ⟨z1,z2⟩:=gZ hz (by omega);have h:=lD (B:=65536) (d:=c) (show i + ys.length < os.length by omega);rw [z1] at h;rw [List.take_length] at hv;refine ⟨?_,?_⟩
 · rw [cJ hi]
   grind
 · rw [show i + 1 + ys.length = i + ys.length + 1 by omega,jV,z2]
   congr 1
theorem Oy {x y : Nat} (hx : x < 65536) (hy : y < 65536) : x * y ≤ 4294836225:=by
 have:=Nat.mul_le_mul (Nat.le_sub_one_of_lt hx) (Nat.le_sub_one_of_lt hy);omega
theorem Xc {x y : Nat} (hx : x < 65536) (hy : y < 65536) : (0 : Int) ≤ (x : Int) * (y : Int) ∧ (x : Int) * (y : Int) ≤ 4294836225:=by
 have:=Oy hx hy;rw [← Int.natCast_mul];omega
theorem Oz {xs ys : List Nat} {k : Nat} (hx : cY 65536 xs) (hk : 0 < k) (hlx : k - 1 < xs.length) (hly : k - 1 < ys.length) (hd : xs.drop k = ys.drop k) (h : ((xs[k-1] : Nat) : Int) < ((ys[k-1] : Nat) : Int)) : val 65536 xs < val 65536 ys :=
 wT (by omega) hx hlx hly (by rw [show k - 1 + 1 = k by omega];exact hd) (by omega)
theorem aaZ {xs ys : List Nat} {k : Nat} (hk : 0 < k) (hlx : k - 1 < xs.length) (hly : k - 1 < ys.length) (hd : xs.drop k = ys.drop k) (h1 : ((xs[k-1] : Nat) : Int) = ((ys[k-1] : Nat) : Int)) : xs.drop (k - 1) = ys.drop (k - 1):=by
 rw [List.drop_eq_getElem_cons hlx,List.drop_eq_getElem_cons hly,show k - 1 + 1 = k by omega,hd,show xs[k-1] = ys[k-1] by omega]
end Go.Lith
namespace Go.Lith
open Go.RowKit
theorem aev (k : Nat) : (65536 : Nat) ^ k = 256 ^ (2 * k):=by rw [show (65536 : Nat) = 256 ^ 2 from rfl,← Nat.pow_mul]
theorem Ae {os bs : List Nat} {k d : Nat} (hl : os.length = k) (hv : val 65536 os = val 256 (bs.take (2 * k))) (h : 2 * k < bs.length) (hd : d = bs[2 * k] + 256 * (bs[2 * k + 1]?.getD 0)) (hb : cY 256 bs) (ho : cY 65536 os) :
 val 65536 (os ++ [d]) = val 256 (bs.take (2 * (k + 1))) ∧ cY 65536 (os ++ [d]):=by
 have h1:=hb _ (List.getElem_mem h);have h2 : bs[2 * k + 1]?.getD 0 < 256:=by
  rcases Nat.lt_or_ge (2 * k + 1) bs.length with h | h
  · rw [List.getElem?_eq_getElem h];exact hb _ (List.getElem_mem h)
  · rw [List.getElem?_eq_none h];decide
 refine ⟨?_,ho.append (lK (by omega) (kQ _))⟩;have ht : val 256 (bs.take (2 * k + 1 + 1)) = val 256 (bs.take (2 * k + 1)) + 256 ^ (2 * k + 1) * bs[2 * k + 1]?.getD 0:=by
  rcases Nat.lt_or_ge (2 * k + 1) bs.length with h | h
  · rw [cJ h,List.getElem?_eq_getElem h];rfl
  · rw [List.take_of_length_le (by omega),List.take_of_length_le h,List.getElem?_eq_none h];simp
 rw [show 2 * (k + 1) = 2 * k + 1 + 1 by omega,ht,cJ h,eL,hl,hv,aev,Nat.pow_succ];simp only[val,Nat.mul_zero,Nat.add_zero];subst hd;generalize 256 ^ (2 * k) = p
 grind
def Tp (x : Nat) : List UInt8:=[UInt8.ofNat (x / 256),UInt8.ofNat x]
theorem Gd (ys : List Nat) (h : cY 65536 ys) : val 256 (((ys.reverse.flatMap Tp).reverse).map UInt8.toNat) = val 65536 ys ∧ cY 256 (((ys.reverse.flatMap Tp).reverse).map UInt8.toNat):=by
 induction ys with
 | nil=>exact ⟨rfl,fun _ h=>by cases h⟩
 | cons y ys ih =>
  have hy:=h y (by simp);obtain ⟨i1,i2⟩:=ih (fun x hx=>h x (by simp [hx]));have e : (((y :: ys).reverse.flatMap Tp).reverse).map UInt8.toNat = [y % 256,y / 256 % 256] ++ (((ys.reverse.flatMap Tp).reverse).map UInt8.toNat):=by
   simp [List.flatMap_append,Tp,UInt8.toNat_ofNat']
  rw [e];refine ⟨?_,?_⟩
  · rw [eL,i1]
    simp only[val,List.length_cons,List.length_nil];omega
  · refine cY.append ?_ i2
    intro x hx;simp at hx;omega
theorem Pa {ys : List Nat} (h : cY 65536 ys) (neg : Bool) : lP (iM (ys.reverse.flatMap Tp)) = nC (Hd neg (val 65536 ys)):=by
 obtain ⟨h1,h2⟩:=Gd ys h;rw [By,lL (by omega) h2 h1,nC,xG,lC];rfl
def mG (ys : List Nat) (k : Nat) : List UInt8:=iM ((ys.drop k).reverse.flatMap Tp)
theorem Lk {l m : List UInt8} (h : iM l ≠ []) : iM (l ++ m) = iM l ++ m:=by
 induction l with
 | nil=>exact absurd rfl h
 | cons b l ih =>
  by_cases hb : b = 0
  · subst hb
    have e : iM (0 :: l) = iM l:=by simp [iM]
    have e2 : iM ((0 :: l) ++ m) = iM (l ++ m):=by simp [iM]
    rw [e] at h;rw [e,e2,ih h]
  · simp [iM,hb]
theorem Sf {ys : List Nat} {k : Nat} (hk : 0 < k) (hl : k - 1 < ys.length) (h : mG ys k ≠ []) : mG ys (k - 1) = mG ys k ++ [UInt8.ofNat (ys[k - 1] / 256)] ++ [UInt8.ofNat (ys[k - 1] % 256)] ∧ mG ys (k - 1) ≠ []:=by
 have e : mG ys (k - 1) = mG ys k ++ [UInt8.ofNat (ys[k - 1] / 256)] ++ [UInt8.ofNat (ys[k - 1] % 256)]:=by
  unfold mG at *
  rw [List.drop_eq_getElem_cons hl,show k - 1 + 1 = k by omega,List.reverse_cons,List.flatMap_append,Lk h];have : UInt8.ofNat (ys[k - 1] % 256) = UInt8.ofNat (ys[k - 1]):=by
   apply UInt8.toNat_inj.1;simp [UInt8.toNat_ofNat']
  rw [this];simp [Tp]
 exact ⟨e,by rw [e];simp⟩
theorem Pb {ys : List Nat} (hl : ys.length - 1 < ys.length) (h0 : 0 < ys[ys.length - 1]) (h16 : ys[ys.length - 1] < 65536) :
 mG ys (ys.length - 1) = (if 256 ≤ ys[ys.length - 1] then [UInt8.ofNat (ys[ys.length - 1] / 256)] else []) ++ [UInt8.ofNat (ys[ys.length - 1] % 256)] ∧ mG ys (ys.length - 1) ≠ []:=by
 have e : mG ys (ys.length - 1) = iM (Tp (ys[ys.length - 1])):=by
  unfold mG;rw [List.drop_eq_getElem_cons hl,show ys.length - 1 + 1 = ys.length by omega,List.drop_length];simp
 generalize ys[ys.length - 1] = x at *
 have hm : UInt8.ofNat (x % 256) = UInt8.ofNat x:=by
  apply UInt8.toNat_inj.1;simp [UInt8.toNat_ofNat']
 have ez : ∀ y : Nat,y < 256 → (UInt8.ofNat y = 0 ↔ y = 0):=fun y hy=>by
  rw [← UInt8.toNat_inj];simp only[UInt8.toNat_ofNat',UInt8.toNat_zero];rw [Nat.mod_eq_of_lt (by omega)]
 have e2 : iM (Tp x) = (if 256 ≤ x then [UInt8.ofNat (x / 256)] else []) ++ [UInt8.ofNat (x % 256)]:=by
  split
  · rename_i h
    have hn : ¬ UInt8.ofNat (x / 256) = 0:=fun e=>by have:=(ez _ (by omega)).1 e;omega
    rw [hm];simp [iM,Tp,hn]
  · rename_i h
    have hz : UInt8.ofNat (x / 256) = 0:=(ez _ (by omega)).2 (by omega);have hn : ¬ UInt8.ofNat x = 0:=fun e=>by have:=(ez _ (by omega)).1 e;omega
    rw [hm];simp [iM,Tp,hz,hn]
 exact ⟨e.trans e2,by rw [e,e2];simp⟩
theorem Jl (ys : List Nat) : mG ys ys.length = []:=by unfold mG;rw [List.drop_length];rfl
theorem Sg {ys : List Nat} (h : cY 65536 ys) (neg : Bool) : lP (mG ys 0) = nC (Hd neg (val 65536 ys)):=by
 unfold mG;rw [List.drop_zero];exact Pa h neg
theorem Xd (ys : List Nat) (k : Nat) : (mG ys k).length ≤ 2 * ys.length:=by
 have h1 : ∀ l : List UInt8,(iM l).length ≤ l.length:=fun l=>by
  induction l with
  | nil=>simp [iM]
  | cons b l ih =>
   unfold iM at *
   rw [List.dropWhile_cons];split
   · simp;omega
   · simp
 have h2 : ∀ l : List Nat,(l.flatMap Tp).length = 2 * l.length:=fun l=>by
  induction l with
  | nil=>rfl
  | cons x l ih=>rw [List.flatMap_cons,List.length_append,ih];simp [Tp];omega
 refine Nat.le_trans (h1 _) ?_;rw [h2];simp;omega
theorem jA.snoc8 {w : World} {b : Nat} {E : TypeId} {v : Value} {os : List UInt8} {x : Nat} (h : jA w b E 1 v (os.length + 1) (os.map u8v ++ [.int .u8 (x : Int)])) (hx : x < 256) : jA w b E 1 v (os ++ [UInt8.ofNat x]).length ((os ++ [UInt8.ofNat x]).map u8v):=by
 have : u8v (UInt8.ofNat x) = .int .u8 (x : Int):=by simp only[u8v,UInt8.toNat_ofNat',Value.int.injEq,true_and];rw [Nat.mod_eq_of_lt (by omega)]
 rw [List.map_append,List.map_singleton,this,List.length_append];exact h
theorem vR {x : Nat} (h : x < 256) : IntKind.u8.wrap (x : Int) = (x : Int):=abG (by omega) (by omega)
theorem Ge {os : List Nat} {m V : Nat} (hv : val 65536 os + 65536 ^ os.length * m = V) (hd : cY 65536 os) (h2 : m < 2 ^ (64 - os.length)) (h3 : os.length ≤ 64) (h0 : 0 < m) :
 val 65536 (os ++ [m % 65536]) + 65536 ^ (os ++ [m % 65536]).length * (m / 65536) = V ∧ cY 65536 (os ++ [m % 65536]) ∧ m / 65536 < 2 ^ (64 - (os ++ [m % 65536]).length) ∧ (os ++ [m % 65536]).length ≤ 64:=by
 have hl : os.length < 64:=by
  rcases Nat.lt_or_ge os.length 64 with h | h
  · exact h
  · rw [show 64 - os.length = 0 by omega] at h2;omega
 refine ⟨?_,hd.append (lK (Nat.mod_lt _ (by omega)) (kQ _)),?_,by simp;omega⟩
 · rw [eL,List.length_append,List.length_singleton,Nat.pow_succ]
   simp only[val,Nat.mul_zero,Nat.add_zero];have e : m = m % 65536 + 65536 * (m / 65536):=by omega
   generalize m / 65536 = q at *
   generalize m % 65536 = r at *
   generalize 65536 ^ os.length = p at *
   subst e
   grind
 · rw [List.length_append,List.length_singleton]
   have e : 2 ^ (64 - os.length) = 2 * 2 ^ (64 - (os.length + 1)):=by rw [← Nat.pow_succ'];congr 1;omega
   rw [e] at h2;omega
end Go.Lith
namespace Go.Lith
open Go.RowKit
theorem p16 (i : Nat) : (65536 : Nat) ^ (2 * (i + 1)) = 65536 * 65536 * 65536 ^ (2 * i):=by
 rw [show 2 * (i + 1) = 2 * i + 1 + 1 by omega,Nat.pow_succ,Nat.pow_succ];generalize (65536 : Nat) ^ (2 * i) = p;omega
theorem Xe {X n K : Nat} (h : X < 65536 ^ n) (hK : n ≤ 2 * K) : X < (0 + 1) * (0 + 1) * 65536 ^ (2 * K):=by
 have:=Nat.pow_le_pow_right (show 0 < 65536 by omega) hK;omega
theorem aa0 {R i X : Nat} (h : R * R * 65536 ^ (2 * (i + 1)) ≤ X) : (0 + 65536 * R) * (0 + 65536 * R) * 65536 ^ (2 * i) ≤ X:=by
 rw [p16] at h;have e : (0 + 65536 * R) * (0 + 65536 * R) * 65536 ^ (2 * i) = R * R * (65536 * 65536 * 65536 ^ (2 * i)):=by
  generalize (65536 : Nat) ^ (2 * i) = p
  grind
 omega
theorem Xf {R i X : Nat} (h : X < (R + 1) * (R + 1) * 65536 ^ (2 * (i + 1))) : X < (65536 + 65536 * R) * (65536 + 65536 * R) * 65536 ^ (2 * i):=by
 rw [p16] at h;have e : (65536 + 65536 * R) * (65536 + 65536 * R) * 65536 ^ (2 * i) = (R + 1) * (R + 1) * (65536 * 65536 * 65536 ^ (2 * i)):=by
  generalize (65536 : Nat) ^ (2 * i) = p
  grind
 omega
theorem acC {R i X low high : Nat} (h : X < (high + 65536 * R) * (high + 65536 * R) * 65536 ^ (2 * i)) (hl : ¬ ((1 : Int) < (high : Int) - (low : Int))) : X < (low + 65536 * R + 1) * (low + 65536 * R + 1) * 65536 ^ (2 * i):=by
 refine Nat.lt_of_lt_of_le h (Nat.mul_le_mul_right _ (Nat.mul_le_mul ?_ ?_)) <;> omega
theorem Af {rs : List Nat} {m i : Nat} : val 65536 (List.replicate (2 * i) 0 ++ digs 65536 (val 65536 (m :: rs) * val 65536 (m :: rs))) = (m + 65536 * val 65536 rs) * (m + 65536 * val 65536 rs) * 65536 ^ (2 * i):=by
 rw [eL,eX,eM,List.length_replicate,Nat.zero_add,Nat.mul_comm];rfl
theorem aa1 {R X : Nat} (h1 : R * R * 65536 ^ (2 * 0) ≤ X) (h2 : X < (R + 1) * (R + 1) * 65536 ^ (2 * 0)) : R = eG X:=yH (by simpa using h1) (by simpa using h2)
theorem Gf (m : Nat) (rs : List Nat) : val 65536 (m :: rs) = m + 65536 * val 65536 rs:=rfl
theorem cX.trimmed {w : World} {b n cap : Nat} {A : Option Addr} {xs : List Nat} (h : cX w b A n cap xs) : cX w w.heap.size A (trim xs).length cap (trim xs):=by
 have h:=(h.take (trim xs).length).here;rwa [← gY] at h
theorem Gg {w : World} {b b' n n' cap cap' : Nat} {A A' : Option Addr} {xs ys : List Nat} (h : cX w b A n cap xs) (k : cX w b' A' n' cap' ys) : ∃ c,sQ w c ∧ cX w c A n cap xs ∧ cX w c A' n' cap' ys:=⟨_,⟨Nat.le_refl _⟩,h.here,k.here⟩
theorem Ll {rs : List Nat} {m : Nat} (hm : m < 65536) (h : cY 65536 rs) : (digs 65536 (val 65536 (m :: rs) * val 65536 (m :: rs))).length ≤ 2 * (rs.length + 1):=by
 refine dS (by omega) ?_;have h1:=iD (lK hm h);simp only[List.length_cons] at h1;rw [show 2 * (rs.length + 1) = (rs.length + 1) + (rs.length + 1) by omega,Nat.pow_add];exact Nat.mul_lt_mul'' h1 h1
end Go.Lith
namespace Go.Lith
open Go.RowKit
instance (a : Int) : Decidable (nR a):=inferInstanceAs (Decidable (_ ∧ _))
def Lm (a : Int) : Int:=if nR a then a else 0
theorem acD {a : Int} {X : Nat} (h : X = a.natAbs) (hl : 4 < (digs 65536 X).length) : ¬ nR a:=fun k=>by
 have h1 : X < 65536 ^ 4:=by have:=k.natAbs;rw [← h] at this;omega
 have h2:=dS (B:=65536) (by omega) h1;omega
theorem aa2 {X j : Nat} (hl : (digs 65536 X).length ≤ 4) (hd : cY 65536 (digs 65536 X)) (hj : j < (digs 65536 X).length) : val 65536 ((digs 65536 X).drop (j + 1)) < 281474976710656:=by
 have h1:=iD (hd.drop (j + 1));have h2 : ((digs 65536 X).drop (j + 1)).length ≤ 3:=by rw [List.length_drop];omega
 have h3 : 65536 ^ ((digs 65536 X).drop (j + 1)).length ≤ 65536 ^ 3:=Nat.pow_le_pow_right (by omega) h2;omega
theorem aew {X : Nat} (hl : (digs 65536 X).length ≤ 4) (h : X < 65536 ^ (digs 65536 X).length) : X < 18446744073709551616:=by
 have h3 : 65536 ^ (digs 65536 X).length ≤ 65536 ^ 4:=Nat.pow_le_pow_right (by omega) hl;omega
theorem Jm {a : Int} {X : Nat} (h : X = a.natAbs) : (iJ a = true ∧ X ≤ 9223372036854775808 ∧ nR a ∧ a = -(X : Int)) ∨ (iJ a = true ∧ 9223372036854775808 < X ∧ ¬ nR a) ∨
 (iJ a = false ∧ 9223372036854775808 ≤ X ∧ ¬ nR a) ∨ (iJ a = false ∧ X < 9223372036854775808 ∧ nR a ∧ a = (X : Int)):=by
 unfold nR iJ;rcases Int.lt_or_le a 0 with h0 | h0
 · rw [decide_eq_true h0]
   rcases Nat.lt_or_ge 9223372036854775808 X with h1 | h1
   · exact .inr (.inl ⟨rfl,h1,by omega⟩)
   · exact .inl ⟨rfl,h1,by omega,by omega⟩
 · rw [decide_eq_false (by omega)]
   rcases Nat.lt_or_ge X 9223372036854775808 with h1 | h1
   · exact .inr (.inr (.inr ⟨rfl,h1,by omega,by omega⟩))
   · exact .inr (.inr (.inl ⟨rfl,h1,by omega⟩))
theorem Bo {a : Int} (h : ¬ nR a) : Value.tuple #[.int .i64 0,.bool false] = .tuple #[.int .i64 (Lm a),.bool (decide (nR a))]:=by rw [Lm,if_neg h,decide_eq_false h]
theorem Dm {a n : Int} (h : nR a) (e : n = a) : Value.tuple #[.int .i64 n,.bool true] = .tuple #[.int .i64 (Lm a),.bool (decide (nR a))]:=by rw [Lm,if_pos h,decide_eq_true h,e]
theorem Pc {X : Nat} (h : X ≤ 9223372036854775808) : IntKind.i64.wrap (IntKind.u64.wrap (0 - (X : Int))) = -(X : Int):=by
 rw [iA];simp [IntKind.wrap,IntKind.bits,IntKind.signed];split <;> omega
theorem aa3 {v x V : Nat} (h : v = x + 65536 * V) : ((V : Int) * 65536 + (x : Int)) = (v : Int):=by subst h;rw [Int.natCast_add,Int.natCast_mul];omega
end Go.Lith
namespace Go.Lith
open Go.RowKit
def oO (p q : P3) : Nat:=((q.sub p).dot (q.sub p)).natAbs
def pT (p q : P3) : Int:=(eG (oO p q) : Int) + if eG (oO p q) * eG (oO p q) = oO p q then 0 else 1
def lR : List Mv → Int → Option Int
 | [],n=>some n
 | m :: ms,n=>if nR (pT m.1 m.2) then lR ms (max n (pT m.1 m.2)) else none
def gB (fine coarse : List T3) (ms : List Mv) : Int × Int :=
 if dH true fine ≠ 0 then (0,dH true fine)
 else if dH true coarse ≠ 0 then (0,dH true coarse)
 else if aQ fine ≠ aQ coarse then (0,30)
 else if jE fine coarse (aQ fine) = true ∨ nU fine coarse (aQ fine) = false then (0,30)
 else if lV fine coarse ms (aQ fine) = false then (0,31)
 else if kC fine coarse ms = false then (0,32)
 else match lR ms 0 with
  | some n=>(n,0)
  | none=>(0,3)
/-! ### What CheckOpen says -/
theorem qO {ts : List T3} (h : dH true ts = 0) : sO ts ∧ (aV ts).Nodup:=by
 unfold dH at h;split at h
 · cases h
 · rename_i h1
   split at h
   · cases h
   · rename_i h2
     refine ⟨fun t ht=>?_,?_⟩
     · cases hd : mM t with
       | false=>rfl
       | true=>exact absurd (List.any_eq_true.2 ⟨t,ht,hd⟩) h1
     · rw [Lb] at h2
       exact Decidable.not_not.1 fun k=>h2 (decide_eq_true k)
def rR (t : T3) : List E3:=[(t.a,t.b),(t.b,t.c),(t.c,t.a)]
theorem aa4 {t : T3} (h : mM t = false) : t.nd = true:=by
 obtain ⟨h1,h2,h3⟩:=Lf h;simp [T3.nd,h1,h2,h3]
theorem aa5 {ts us : List T3} {ms : List Mv} (h : dH true ts ≠ 0) : gB ts us ms = (0,dH true ts):=by rw [gB,if_pos h]
/-! ### One far move -/
end Go.Lith
namespace Go.Proofs.YtfohfflkhpfjeaaGreatDoor
open Go.Proofs.Tryz
open Go.RowKit Go.Lith
set_option maxRecDepth 100000
attribute [local irreducible] wpList wpQuiet dY dQ dO Code.wp
theorem Gh {ts : List T3} {N cap : Nat} {A : Option Addr} (w : World) (hT : eO w A N ts) (hN : N ≤ 300000) : eK prog 71 [.slice A N cap] w (OR 48 3 (fun xs=>∃ ps : List P3,xs = ps.flatMap pQ ∧ aav ps ∧ ∀ a,a ∈ ps ↔ a ∈ cL ts) w):=by
 refine ⟨af6,?_⟩;have m:=cA.refl w
 go_enter func71,ntmps71
 refine aD fun K1 k1=>wp_region_lit (aA (aC) (aG (k1 _ _ ?_)));refine aD fun K2 k2=>wp_region_lit ?_;simp only[zz];refine kT m ?_;clear m;intro q8 u m;have hD8:=cO.nil (K:=P3) (V:=Bool) pt Value.bool;refine aA (aC) (aG (k2 _ _ ?_));refine aD fun K3 k3=>aD fun K4 k4=>wp_region_lit (aA (aB) (aA (aW rfl bS rfl) ?_));simp only[zz];refine aA (aB) (aG (k4 _ _ ?_));refine wp_block ?_;simp only[zz];try simp only[Nat.zero_add,Nat.reduceAdd,Nat.reduceMul,Int.reduceToNat]
 refine bH [11] [5,7,12,13,14,15,16,17,18,19,20,21,22,23] (fun n vs wl=>∃ (k : Nat) (es : Array MapEntry) (c : Nat),vs = [.int .i64 (k:Int)] ∧ cA w wl [mI q8 es c] ∧ (cO pt Value.bool (vH [] (cL (ts.take k))) es c) ∧ (k ≤ N) ∧ (n = N - k)) ?_ ?_
 ·
  apply Exists.intro;simp only[zQ,zR,zD,zE];exact ⟨0,_,_,rfl,m,hD8,Nat.zero_le _,rfl⟩
 ·
  intro n vs wr hI u;clear m;obtain ⟨k,es,c,rfl,m,hD8,hk,hn⟩:=hI;simp only[zu,zF,zG];refine aD fun K5 k5=>wp_region_lit (aA (cE rfl rfl) (aG (k5 _ _ ?_)));refine aD fun K6 k6=>?_;simp only[zz];refine bZ rfl (fun hc1=>?_) (fun hc1=>?_)
  ·
   obtain ⟨t,ht,_,a,rfl,hrow⟩:=hT.get (i:=k) (by omega);refine wp_skip (k6 _ _ ?_);refine aD fun K7 k7=>wp_block (aD fun K8 k8=>wp_region_lit (aA (aI bS aT rfl rfl (by omega) (by omega) (bV (Int.toNat_natCast _))) ?_));simp only[zz];refine aK rfl (((hrow.ext m.ext)).lies eQ aT) ?_;simp only[zz];refine bF m jX rfl ?_;clear m;intro g2 u m;simp only[zz];refine aS m 0 rfl rfl rfl aT (dZ rfl) rfl ?_;clear m;intro u m;simp only[zy,zx,bG,zF,zG,Nat.reduceAdd] at m;refine aG (k8 _ _ ?_);refine aD fun K9 k9=>wp_region_lit (aK rfl ((m.b 0 rfl).full eQ aT) ?_);simp only[zz];refine aA (aB) (aG (k9 _ _ ?_));refine wp_block (wp_loop_rounds 4 (dU (aD fun K10 k10=>wp_region_lit (aA (bX (m:=0) (n:=3) rfl rfl (by decide)) (aG (k10 _ _ ?_))))));refine aD fun K11 k11=>cG rfl (wp_skip (k11 _ _ ?_));refine aD fun K12 k12=>wp_block (aD fun K13 k13=>wp_region_lit (aA (kM rfl rfl) ?_));simp only[zz];refine bF m bQ rfl ?_;clear m;intro g3 u m;simp only[zz];refine aS m 0 rfl rfl rfl aF (dZ rfl) rfl ?_;clear m;intro u m;simp only[zy,zx,bG,zF,zG,Nat.reduceAdd] at m;refine aG (k13 _ _ ?_);refine wp_region_lit (aA (aB) ?_);simp only[zz];refine aK rfl ((m.b 0 rfl).full aJ aF) ?_;simp only[zz];refine pJ m 2 Ra rfl rfl (fun m=>Sa (p:=t.a) m 2 rfl hD8) ?_;clear m;rintro v i u m ⟨rfl,es',c',rfl,hD'⟩;simp only[zF,zG] at m;simp only[zz];clear hD8;have hD8:=hD';clear hD';refine aG (k12 _ _ ?_);refine wp_region_lit (aA (aP (m:=0) (n:=1) (r:=1) rfl rfl (by decide)) (aA (aB) (aG (aU (aD fun K14 k14=>wp_region_lit (aA (bX (m:=1) (n:=3) rfl rfl (by decide)) (aG (k14 _ _ ?_))))))));refine aD fun K15 k15=>cG rfl (wp_skip (k15 _ _ ?_));refine aD fun K16 k16=>wp_block (aD fun K17 k17=>wp_region_lit (aA (kN rfl rfl) ?_));simp only[zz];refine bF m bQ rfl ?_;clear m;intro g4 u m;simp only[zz];refine aS m 0 rfl rfl rfl aF (dZ rfl) rfl ?_;clear m;intro u m;simp only[zy,zx,bG,zF,zG,Nat.reduceAdd] at m;refine aG (k17 _ _ ?_);refine wp_region_lit (aA (aB) ?_);simp only[zz];refine aK rfl ((m.b 0 rfl).full aJ aF) ?_;simp only[zz];refine pJ m 3 Ra rfl rfl (fun m=>Sa (p:=t.b) m 3 rfl hD8) ?_;clear m;rintro v i u m ⟨rfl,es',c',rfl,hD'⟩;simp only[zF,zG] at m;simp only[zz];clear hD8;have hD8:=hD';clear hD';refine aG (k16 _ _ ?_);refine wp_region_lit (aA (aP (m:=1) (n:=1) (r:=2) rfl rfl (by decide)) (aA (aB) (aG (aU (aD fun K18 k18=>wp_region_lit (aA (bX (m:=2) (n:=3) rfl rfl (by decide)) (aG (k18 _ _ ?_))))))));refine aD fun K19 k19=>cG rfl (wp_skip (k19 _ _ ?_));refine aD fun K20 k20=>wp_block (aD fun K21 k21=>wp_region_lit (aA (kO rfl rfl) ?_));simp only[zz];refine bF m bQ rfl ?_;clear m;intro g5 u m;simp only[zz];refine aS m 0 rfl rfl rfl aF (dZ rfl) rfl ?_;clear m;intro u m;simp only[zy,zx,bG,zF,zG,Nat.reduceAdd] at m;refine aG (k21 _ _ ?_);refine wp_region_lit (aA (aB) ?_);simp only[zz];refine aK rfl ((m.b 0 rfl).full aJ aF) ?_;simp only[zz];refine pJ m 4 Ra rfl rfl (fun m=>Sa (p:=t.c) m 4 rfl hD8) ?_;clear m;rintro v i u m ⟨rfl,es',c',rfl,hD'⟩;simp only[zF,zG] at m;simp only[zz];clear hD8;have hD8:=hD';clear hD';refine aG (k20 _ _ ?_);refine wp_region_lit (aA (aP (m:=2) (n:=1) (r:=3) rfl rfl (by decide)) (aA (aB) (aG (aU (aD fun K22 k22=>wp_region_lit (aA (eU (m:=3) (n:=3) rfl rfl (by decide)) (aG (k22 _ _ ?_))))))));refine aD fun K23 k23=>iO rfl (wp_exit (k7 _ _ ?_));refine wp_region_lit ?_;simp only[zz];refine aA (aP rfl rfl (aM (by omega) (by omega))) (aA (aB) (aG ?_));simp only[zz];simp only[Exit.inBlock,Exit.then];refine ⟨N - (k + 1),_,?_,rfl,?_,?_⟩
   · omega
   · simp only[zz,zv]
   ·
    simp only[zQ,zR,zD,zE];exact ⟨k + 1,_,_,rfl,(m.sel [false,false,false,false,true]),by rw [Rn ht];exact hD8,by omega,rfl⟩
  ·
   have hkN : k = N:=by omega
   rw [hkN,show ts.take N = ts from List.take_of_length_le (by rw [hT.len];exact Nat.le_refl _)] at hD8;refine wp_exit (k3 _ _ ?_);refine aD fun K24 k24=>wp_region_lit (aA (aB) ?_);simp only[zz];refine bA rfl rfl (Wv _ (m.p 0 rfl) hD8 (by have h1:=yX (cL ts) [];have h2:=yY ts;have h3:=hT.len;simp only[List.length_nil] at h1;omega)) ?_;rintro v u e ⟨A9,n9,cap9,_,rfl,hN,ps,rfl,hps,hso⟩;replace m:=m.newO e hN;clear e hN;refine aA (aC) (aG (k24 _ _ ?_));refine wp_ret ?_;simp only[zz];try simp only[Exit.inBlock,Exit.then,if_true]
   refine bO rfl rfl ?_;try simp only[zD,zE]
   exact ⟨_,rfl,m.ext,_,_,_,_,rfl,(m.o 0 rfl),ps,rfl,Wm (hps.nodup_iff.2 (Cg _ _ .nil)) hso,fun a=>by rw [hps.mem_iff,Iy];simp⟩
end Go.Proofs.YtfohfflkhpfjeaaGreatDoor
namespace Go.Proofs.YtfohfflkhpfjeaaGreatDoor
open Go.Proofs.Tryz
open Go.RowKit Go.Lith
set_option maxRecDepth 100000
attribute [local irreducible] wpList wpQuiet dY dQ dO Code.wp
theorem nX : rN prog 57 ed:=by
 refine rN.agg (cs:=fun p=>#[.int .i64 p.1.x,.int .i64 p.1.y,.int .i64 p.1.z,.int .i64 p.2.x,.int .i64 p.2.y,.int .i64 p.2.z]) (fun _=>rfl) jQ (fun e p=>?_) (fun p q=>?_) (fun p=>?_)
 ·
  refine rU.array (d:=9999) jQ aF fun i hi=>?_;obtain rfl | rfl:=(by omega : i = 0 ∨ i = 1)
  ·
   refine ⟨_,fS aJ aF rfl,?_⟩;refine rU.struct (d:=9998) eD fun f hf=>?_;simp only[List.mem_cons,List.not_mem_nil,or_false] at hf;rcases hf with rfl | rfl | rfl
   · exact ⟨_,dT bT rfl,rU.int (d:=9997) jC⟩
   · exact ⟨_,dT bT rfl,rU.int (d:=9997) jC⟩
   · exact ⟨_,dT bT rfl,rU.int (d:=9997) jC⟩
  ·
   refine ⟨_,fS aJ aF rfl,?_⟩;refine rU.struct (d:=9998) eD fun f hf=>?_;simp only[List.mem_cons,List.not_mem_nil,or_false] at hf;rcases hf with rfl | rfl | rfl
   · exact ⟨_,dT bT rfl,rU.int (d:=9997) jC⟩
   · exact ⟨_,dT bT rfl,rU.int (d:=9997) jC⟩
   · exact ⟨_,dT bT rfl,rU.int (d:=9997) jC⟩
 · exact (Ri _).iff ⟨fun h=>Prod.ext (P3.eq (h.1) (h.2.1) (h.2.2.1)) (P3.eq (h.2.2.2.1) (h.2.2.2.2.1) (h.2.2.2.2.2)),fun h=>by subst h;simp only[and_self]⟩
 · simp [ed,Instr.sameBits]
theorem Gi {ts : List T3} {N cap : Nat} {A : Option Addr} (w : World) (hT : eO w A N ts) (hN : N ≤ 10000000) : eK prog 70 [.slice A N cap] w (fun v w'=>∃ g es c,v = .map (some g) ∧ cA w w' [mI g es c] ∧ cO ed Value.bool (gI [] (lW ts)) es c):=by
 refine ⟨af5,?_⟩;have m:=cA.refl w
 go_enter func70,ntmps70
 refine aD fun K1 k1=>wp_region_lit (aA (aC) (aG (k1 _ _ ?_)));refine aD fun K2 k2=>wp_region_lit ?_;simp only[zz];refine kT m ?_;clear m;intro q8 u m;have hD8:=cO.nil (K:=E3) (V:=Bool) ed Value.bool;refine aA (aC) (aG (k2 _ _ ?_));refine aD fun K3 k3=>aD fun K4 k4=>wp_region_lit (aA (aB) (aA (aW rfl bS rfl) ?_));simp only[zz];refine aA (aB) (aG (k4 _ _ ?_));refine wp_block ?_;simp only[zz];try simp only[Nat.zero_add,Nat.reduceAdd,Nat.reduceMul,Int.reduceToNat]
 refine bH [13] [5,7,9,14,15,16,17,18,19,20,21,22,23,24,25,26,27,28,29,30,31] (fun n vs wl=>∃ (k : Nat) (es : Array MapEntry) (c : Nat),vs = [.int .i64 (k:Int)] ∧ cA w wl [mI q8 es c] ∧ (cO ed Value.bool (gI [] (lW (ts.take k))) es c) ∧ (k ≤ N) ∧ (n = N - k)) ?_ ?_
 ·
  apply Exists.intro;simp only[zQ,zR,zD,zE];exact ⟨0,_,_,rfl,m,hD8,Nat.zero_le _,rfl⟩
 ·
  intro n vs wr hI u;clear m;obtain ⟨k,es8,c8,rfl,m,hD8,hk,hn⟩:=hI;simp only[zu,zF,zG];refine aD fun K5 k5=>wp_region_lit (aA (cE rfl rfl) (aG (k5 _ _ ?_)));refine aD fun K6 k6=>?_;simp only[zz];refine bZ rfl (fun hc1=>?_) (fun hc1=>?_)
  ·
   obtain ⟨t,ht,_,a,rfl,hrow⟩:=hT.get (i:=k) (by omega);refine wp_skip (k6 _ _ ?_);refine aD fun K7 k7=>wp_block (aD fun K8 k8=>wp_region_lit (aA (aI bS aT rfl rfl (by omega) (by omega) (bV (Int.toNat_natCast _))) ?_));simp only[zz];refine aK rfl ((hrow.ext m.ext).lies eQ aT) ?_;simp only[zz];refine bF m jX rfl ?_;clear m;intro g2 u m;simp only[zz];refine aS m 0 rfl rfl rfl aT (dZ rfl) rfl ?_;clear m;intro u m;simp only[zy,zx,bG,zF,zG,Nat.reduceAdd] at m;refine aG (k8 _ _ ?_);refine aD fun K9 k9=>wp_region_lit (aK rfl ((m.b 0 rfl).full eQ aT) ?_);simp only[zz];refine aA (aB) (aG (k9 _ _ ?_));refine wp_block (wp_loop_rounds 4 (dU (aD fun K10 k10=>wp_region_lit (aA (bX (m:=0) (n:=3) rfl rfl (by decide)) (aG (k10 _ _ ?_))))));refine aD fun K11 k11=>cG rfl (wp_skip (k11 _ _ ?_));refine aD fun K12 k12=>wp_block (aD fun K13 k13=>wp_region_lit (aA (kM rfl rfl) ?_));simp only[zz];refine bF m bQ rfl ?_;clear m;intro g3 u m;simp only[zz];refine aS m 0 rfl rfl rfl aF (dZ rfl) rfl ?_;clear m;intro u m;simp only[zy,zx,bG,zF,zG,Nat.reduceAdd] at m;refine aG (k13 _ _ ?_);refine aD fun K14 k14=>wp_region_lit (aK rfl ((m.b 1 rfl).full eQ aT) ?_);simp only[zz];refine aA (aB) (aG (k14 _ _ ?_));refine wp_block (wp_loop_rounds 4 (dU (aD fun K15 k15=>wp_region_lit (aA (bX (m:=0) (n:=3) rfl rfl (by decide)) (aG (k15 _ _ ?_))))));refine aD fun K16 k16=>cG rfl (wp_skip (k16 _ _ ?_));refine aD fun K17 k17=>wp_block (aD fun K18 k18=>wp_region_lit (aA (kM rfl rfl) ?_));simp only[zz];refine bF m bQ rfl ?_;clear m;intro g4 u m;simp only[zz];refine aS m 0 rfl rfl rfl aF (dZ rfl) rfl ?_;clear m;intro u m;simp only[zy,zx,bG,zF,zG,Nat.reduceAdd] at m;refine aG (k18 _ _ ?_);refine wp_region_lit (aA (aB) ?_);simp only[zz];refine aK rfl ((m.b 1 rfl).full aJ aF) ?_;simp only[zz];refine aK rfl ((m.b 0 rfl).full aJ aF) ?_;simp only[zz];refine aA (cP rfl rfl) ?_;simp only[zz];refine fX (ek:=ed) (en:=Value.bool) (a:=(t.a,t.a)) (v:=true) m 3 rfl oM nX rfl rfl rfl hD8 ?_;clear m;intro es8 c8 u m hD';clear hD8;have hD8:=hD';clear hD';simp only[zF,zG] at m;refine aG (k17 _ _ ?_);refine wp_region_lit (aA (aP (m:=0) (n:=1) (r:=1) rfl rfl (by decide)) (aA (aB) (aG (aU (aD fun K19 k19=>wp_region_lit (aA (bX (m:=1) (n:=3) rfl rfl (by decide)) (aG (k19 _ _ ?_))))))));refine aD fun K20 k20=>cG rfl (wp_skip (k20 _ _ ?_));refine aD fun K21 k21=>wp_block (aD fun K22 k22=>wp_region_lit (aA (kN rfl rfl) ?_));simp only[zz];refine bF m bQ rfl ?_;clear m;intro g5 u m;simp only[zz];refine aS m 0 rfl rfl rfl aF (dZ rfl) rfl ?_;clear m;intro u m;simp only[zy,zx,bG,zF,zG,Nat.reduceAdd] at m;refine aG (k22 _ _ ?_);refine wp_region_lit (aA (aB) ?_);simp only[zz];refine aK rfl ((m.b 2 rfl).full aJ aF) ?_;simp only[zz];refine aK rfl ((m.b 0 rfl).full aJ aF) ?_;simp only[zz];refine aA (cP rfl rfl) ?_;simp only[zz];refine fX (ek:=ed) (en:=Value.bool) (a:=(t.a,t.b)) (v:=true) m 4 rfl oM nX rfl rfl rfl hD8 ?_;clear m;intro es8 c8 u m hD';clear hD8;have hD8:=hD';clear hD';simp only[zF,zG] at m;refine aG (k21 _ _ ?_);refine wp_region_lit (aA (aP (m:=1) (n:=1) (r:=2) rfl rfl (by decide)) (aA (aB) (aG (aU (aD fun K23 k23=>wp_region_lit (aA (bX (m:=2) (n:=3) rfl rfl (by decide)) (aG (k23 _ _ ?_))))))));refine aD fun K24 k24=>cG rfl (wp_skip (k24 _ _ ?_));refine aD fun K25 k25=>wp_block (aD fun K26 k26=>wp_region_lit (aA (kO rfl rfl) ?_));simp only[zz];refine bF m bQ rfl ?_;clear m;intro g6 u m;simp only[zz];refine aS m 0 rfl rfl rfl aF (dZ rfl) rfl ?_;clear m;intro u m;simp only[zy,zx,bG,zF,zG,Nat.reduceAdd] at m;refine aG (k26 _ _ ?_);refine wp_region_lit (aA (aB) ?_);simp only[zz];refine aK rfl ((m.b 3 rfl).full aJ aF) ?_;simp only[zz];refine aK rfl ((m.b 0 rfl).full aJ aF) ?_;simp only[zz];refine aA (cP rfl rfl) ?_;simp only[zz];refine fX (ek:=ed) (en:=Value.bool) (a:=(t.a,t.c)) (v:=true) m 5 rfl oM nX rfl rfl rfl hD8 ?_;clear m;intro es8 c8 u m hD';clear hD8;have hD8:=hD';clear hD';simp only[zF,zG] at m;refine aG (k25 _ _ ?_);refine wp_region_lit (aA (aP (m:=2) (n:=1) (r:=3) rfl rfl (by decide)) (aA (aB) (aG (aU (aD fun K27 k27=>wp_region_lit (aA (eU (m:=3) (n:=3) rfl rfl (by decide)) (aG (k27 _ _ ?_))))))));refine aD fun K28 k28=>iO rfl (wp_exit (k12 _ _ ?_));refine wp_region_lit (aA (aP (m:=0) (n:=1) (r:=1) rfl rfl (by decide)) ?_);simp only[zz];refine aA (aB) (aG (aU (aD fun K29 k29=>wp_region_lit (aA (bX (m:=1) (n:=3) rfl rfl (by decide)) (aG (k29 _ _ ?_))))));refine aD fun K30 k30=>cG rfl (wp_skip (k30 _ _ ?_));refine aD fun K31 k31=>wp_block (aD fun K32 k32=>wp_region_lit (aA (kN rfl rfl) ?_));simp only[zz];refine bF m bQ rfl ?_;clear m;intro g7 u m;simp only[zz];refine aS m 0 rfl rfl rfl aF (dZ rfl) rfl ?_;clear m;intro u m;simp only[zy,zx,bG,zF,zG,Nat.reduceAdd] at m;refine aG (k32 _ _ ?_);refine aD fun K33 k33=>wp_region_lit (aK rfl ((m.b 5 rfl).full eQ aT) ?_);simp only[zz];refine aA (aB) (aG (k33 _ _ ?_));refine wp_block (wp_loop_rounds 4 (dU (aD fun K34 k34=>wp_region_lit (aA (bX (m:=0) (n:=3) rfl rfl (by decide)) (aG (k34 _ _ ?_))))));refine aD fun K35 k35=>cG rfl (wp_skip (k35 _ _ ?_));refine aD fun K36 k36=>wp_block (aD fun K37 k37=>wp_region_lit (aA (kM rfl rfl) ?_));simp only[zz];refine bF m bQ rfl ?_;clear m;intro g8 u m;simp only[zz];refine aS m 0 rfl rfl rfl aF (dZ rfl) rfl ?_;clear m;intro u m;simp only[zy,zx,bG,zF,zG,Nat.reduceAdd] at m;refine aG (k37 _ _ ?_);refine wp_region_lit (aA (aB) ?_);simp only[zz];refine aK rfl ((m.b 1 rfl).full aJ aF) ?_;simp only[zz];refine aK rfl ((m.b 0 rfl).full aJ aF) ?_;simp only[zz];refine aA (cP rfl rfl) ?_;simp only[zz];refine fX (ek:=ed) (en:=Value.bool) (a:=(t.b,t.a)) (v:=true) m 7 rfl oM nX rfl rfl rfl hD8 ?_;clear m;intro es8 c8 u m hD';clear hD8;have hD8:=hD';clear hD';simp only[zF,zG] at m;refine aG (k36 _ _ ?_);refine wp_region_lit (aA (aP (m:=0) (n:=1) (r:=1) rfl rfl (by decide)) (aA (aB) (aG (aU (aD fun K38 k38=>wp_region_lit (aA (bX (m:=1) (n:=3) rfl rfl (by decide)) (aG (k38 _ _ ?_))))))));refine aD fun K39 k39=>cG rfl (wp_skip (k39 _ _ ?_));refine aD fun K40 k40=>wp_block (aD fun K41 k41=>wp_region_lit (aA (kN rfl rfl) ?_));simp only[zz];refine bF m bQ rfl ?_;clear m;intro g9 u m;simp only[zz];refine aS m 0 rfl rfl rfl aF (dZ rfl) rfl ?_;clear m;intro u m;simp only[zy,zx,bG,zF,zG,Nat.reduceAdd] at m;refine aG (k41 _ _ ?_);refine wp_region_lit (aA (aB) ?_);simp only[zz];refine aK rfl ((m.b 2 rfl).full aJ aF) ?_;simp only[zz];refine aK rfl ((m.b 0 rfl).full aJ aF) ?_;simp only[zz];refine aA (cP rfl rfl) ?_;simp only[zz];refine fX (ek:=ed) (en:=Value.bool) (a:=(t.b,t.b)) (v:=true) m 8 rfl oM nX rfl rfl rfl hD8 ?_;clear m;intro es8 c8 u m hD';clear hD8;have hD8:=hD';clear hD';simp only[zF,zG] at m;refine aG (k40 _ _ ?_);refine wp_region_lit (aA (aP (m:=1) (n:=1) (r:=2) rfl rfl (by decide)) (aA (aB) (aG (aU (aD fun K42 k42=>wp_region_lit (aA (bX (m:=2) (n:=3) rfl rfl (by decide)) (aG (k42 _ _ ?_))))))));refine aD fun K43 k43=>cG rfl (wp_skip (k43 _ _ ?_));refine aD fun K44 k44=>wp_block (aD fun K45 k45=>wp_region_lit (aA (kO rfl rfl) ?_));simp only[zz];refine bF m bQ rfl ?_;clear m;intro g10 u m;simp only[zz];refine aS m 0 rfl rfl rfl aF (dZ rfl) rfl ?_;clear m;intro u m;simp only[zy,zx,bG,zF,zG,Nat.reduceAdd] at m;refine aG (k45 _ _ ?_);refine wp_region_lit (aA (aB) ?_);simp only[zz];refine aK rfl ((m.b 3 rfl).full aJ aF) ?_;simp only[zz];refine aK rfl ((m.b 0 rfl).full aJ aF) ?_;simp only[zz];refine aA (cP rfl rfl) ?_;simp only[zz];refine fX (ek:=ed) (en:=Value.bool) (a:=(t.b,t.c)) (v:=true) m 9 rfl oM nX rfl rfl rfl hD8 ?_;clear m;intro es8 c8 u m hD';clear hD8;have hD8:=hD';clear hD';simp only[zF,zG] at m;refine aG (k44 _ _ ?_);refine wp_region_lit (aA (aP (m:=2) (n:=1) (r:=3) rfl rfl (by decide)) (aA (aB) (aG (aU (aD fun K46 k46=>wp_region_lit (aA (eU (m:=3) (n:=3) rfl rfl (by decide)) (aG (k46 _ _ ?_))))))));refine aD fun K47 k47=>iO rfl (wp_exit (k31 _ _ ?_));refine wp_region_lit (aA (aP (m:=1) (n:=1) (r:=2) rfl rfl (by decide)) ?_);simp only[zz];refine aA (aB) (aG (aU (aD fun K48 k48=>wp_region_lit (aA (bX (m:=2) (n:=3) rfl rfl (by decide)) (aG (k48 _ _ ?_))))));refine aD fun K49 k49=>cG rfl (wp_skip (k49 _ _ ?_));refine aD fun K50 k50=>wp_block (aD fun K51 k51=>wp_region_lit (aA (kO rfl rfl) ?_));simp only[zz];refine bF m bQ rfl ?_;clear m;intro g11 u m;simp only[zz];refine aS m 0 rfl rfl rfl aF (dZ rfl) rfl ?_;clear m;intro u m;simp only[zy,zx,bG,zF,zG,Nat.reduceAdd] at m;refine aG (k51 _ _ ?_);refine aD fun K52 k52=>wp_region_lit (aK rfl ((m.b 9 rfl).full eQ aT) ?_);simp only[zz];refine aA (aB) (aG (k52 _ _ ?_));refine wp_block (wp_loop_rounds 4 (dU (aD fun K53 k53=>wp_region_lit (aA (bX (m:=0) (n:=3) rfl rfl (by decide)) (aG (k53 _ _ ?_))))));refine aD fun K54 k54=>cG rfl (wp_skip (k54 _ _ ?_));refine aD fun K55 k55=>wp_block (aD fun K56 k56=>wp_region_lit (aA (kM rfl rfl) ?_));simp only[zz];refine bF m bQ rfl ?_;clear m;intro g12 u m;simp only[zz];refine aS m 0 rfl rfl rfl aF (dZ rfl) rfl ?_;clear m;intro u m;simp only[zy,zx,bG,zF,zG,Nat.reduceAdd] at m;refine aG (k56 _ _ ?_);refine wp_region_lit (aA (aB) ?_);simp only[zz];refine aK rfl ((m.b 1 rfl).full aJ aF) ?_;simp only[zz];refine aK rfl ((m.b 0 rfl).full aJ aF) ?_;simp only[zz];refine aA (cP rfl rfl) ?_;simp only[zz];refine fX (ek:=ed) (en:=Value.bool) (a:=(t.c,t.a)) (v:=true) m 11 rfl oM nX rfl rfl rfl hD8 ?_;clear m;intro es8 c8 u m hD';clear hD8;have hD8:=hD';clear hD';simp only[zF,zG] at m;refine aG (k55 _ _ ?_);refine wp_region_lit (aA (aP (m:=0) (n:=1) (r:=1) rfl rfl (by decide)) (aA (aB) (aG (aU (aD fun K57 k57=>wp_region_lit (aA (bX (m:=1) (n:=3) rfl rfl (by decide)) (aG (k57 _ _ ?_))))))));refine aD fun K58 k58=>cG rfl (wp_skip (k58 _ _ ?_));refine aD fun K59 k59=>wp_block (aD fun K60 k60=>wp_region_lit (aA (kN rfl rfl) ?_));simp only[zz];refine bF m bQ rfl ?_;clear m;intro g13 u m;simp only[zz];refine aS m 0 rfl rfl rfl aF (dZ rfl) rfl ?_;clear m;intro u m;simp only[zy,zx,bG,zF,zG,Nat.reduceAdd] at m;refine aG (k60 _ _ ?_);refine wp_region_lit (aA (aB) ?_);simp only[zz];refine aK rfl ((m.b 2 rfl).full aJ aF) ?_;simp only[zz];refine aK rfl ((m.b 0 rfl).full aJ aF) ?_;simp only[zz];refine aA (cP rfl rfl) ?_;simp only[zz];refine fX (ek:=ed) (en:=Value.bool) (a:=(t.c,t.b)) (v:=true) m 12 rfl oM nX rfl rfl rfl hD8 ?_;clear m;intro es8 c8 u m hD';clear hD8;have hD8:=hD';clear hD';simp only[zF,zG] at m;refine aG (k59 _ _ ?_);refine wp_region_lit (aA (aP (m:=1) (n:=1) (r:=2) rfl rfl (by decide)) (aA (aB) (aG (aU (aD fun K61 k61=>wp_region_lit (aA (bX (m:=2) (n:=3) rfl rfl (by decide)) (aG (k61 _ _ ?_))))))));refine aD fun K62 k62=>cG rfl (wp_skip (k62 _ _ ?_));refine aD fun K63 k63=>wp_block (aD fun K64 k64=>wp_region_lit (aA (kO rfl rfl) ?_));simp only[zz];refine bF m bQ rfl ?_;clear m;intro g14 u m;simp only[zz];refine aS m 0 rfl rfl rfl aF (dZ rfl) rfl ?_;clear m;intro u m;simp only[zy,zx,bG,zF,zG,Nat.reduceAdd] at m;refine aG (k64 _ _ ?_);refine wp_region_lit (aA (aB) ?_);simp only[zz];refine aK rfl ((m.b 3 rfl).full aJ aF) ?_;simp only[zz];refine aK rfl ((m.b 0 rfl).full aJ aF) ?_;simp only[zz];refine aA (cP rfl rfl) ?_;simp only[zz];refine fX (ek:=ed) (en:=Value.bool) (a:=(t.c,t.c)) (v:=true) m 13 rfl oM nX rfl rfl rfl hD8 ?_;clear m;intro es8 c8 u m hD';clear hD8;have hD8:=hD';clear hD';simp only[zF,zG] at m;refine aG (k63 _ _ ?_);refine wp_region_lit (aA (aP (m:=2) (n:=1) (r:=3) rfl rfl (by decide)) (aA (aB) (aG (aU (aD fun K65 k65=>wp_region_lit (aA (eU (m:=3) (n:=3) rfl rfl (by decide)) (aG (k65 _ _ ?_))))))));refine aD fun K66 k66=>iO rfl (wp_exit (k50 _ _ ?_));refine wp_region_lit (aA (aP (m:=2) (n:=1) (r:=3) rfl rfl (by decide)) ?_);simp only[zz];refine aA (aB) (aG (aU (aD fun K67 k67=>wp_region_lit (aA (eU (m:=3) (n:=3) rfl rfl (by decide)) (aG (k67 _ _ ?_))))));refine aD fun K68 k68=>iO rfl (wp_exit (k7 _ _ ?_));refine wp_region_lit ?_;simp only[zz];refine aA (aP rfl rfl (aM (by omega) (by omega))) (aA (aB) (aG ?_));simp only[zz];simp only[Exit.inBlock,Exit.then];refine ⟨N - (k + 1),_,?_,rfl,?_,?_⟩
   · omega
   · simp only[zz,zv]
   ·
    simp only[zQ,zR,zD,zE];exact ⟨k + 1,_,_,rfl,(m.sel [false,false,false,false,false,false,false,false,false,false,false,false,false,true]),by rw [Ru ht,Nx];exact hD8,by omega,rfl⟩
  ·
   have hkN : k = N:=by omega
   rw [hkN,show ts.take N = ts from List.take_of_length_le (by rw [hT.len];exact Nat.le_refl _)] at hD8;refine wp_exit (k3 _ _ ?_);refine aD fun K69 k69=>wp_region_lit (aA (aB) (aA (aC) (aG (k69 _ _ ?_))));refine wp_ret ?_;simp only[zz];try simp only[Exit.inBlock,Exit.then,if_true]
   refine bO rfl rfl ?_;try simp only[zD,zE]
   exact ⟨_,rfl,m.ext,_,_,_,rfl,m,hD8⟩
theorem aa6 {ps : List P3} {N cap : Nat} {A : Option Addr} (w : World) (hL : nS vA 3 w A N ps) (hN : N ≤ 9223372036854775807) : eK prog 72 [.slice A N cap] w (fun v w'=>∃ g es c,v = .map (some g) ∧ cA w w' [mI g es c] ∧ cO pt Value.bool (gI [] ps) es c):=by
 refine ⟨af7,?_⟩;have m:=cA.refl w
 go_enter func72,ntmps72
 refine aD fun K1 k1=>wp_region_lit (aA (aC) (aG (k1 _ _ ?_)));refine aD fun K2 k2=>wp_region_lit ?_;simp only[zz];refine kT m ?_;clear m;intro q8 u m;have hD8:=cO.nil (K:=P3) (V:=Bool) pt Value.bool;refine aA (aC) (aG (k2 _ _ ?_));refine aD fun K3 k3=>aD fun K4 k4=>wp_region_lit (aA (aB) (aA (aW rfl kS rfl) ?_));simp only[zz];refine aA (aB) (aG (k4 _ _ ?_));refine wp_block ?_;simp only[zz];try simp only[Nat.zero_add,Nat.reduceAdd,Nat.reduceMul,Int.reduceToNat]
 refine bH [9] [5,10,11,12,13,14,15] (fun n vs wl=>∃ (k : Nat) (es : Array MapEntry) (c : Nat),vs = [.int .i64 (k:Int)] ∧ cA w wl [mI q8 es c] ∧ (cO pt Value.bool (gI [] (ps.take k)) es c) ∧ (k ≤ N) ∧ (n = N - k)) ?_ ?_
 ·
  apply Exists.intro;simp only[zQ,zR,zD,zE];exact ⟨0,_,_,rfl,m,hD8,Nat.zero_le _,rfl⟩
 ·
  intro n vs wr hI u;clear m;obtain ⟨k,es8,c8,rfl,m,hD8,hk,hn⟩:=hI;simp only[zu,zF,zG];refine aD fun K5 k5=>wp_region_lit (aA (cE rfl rfl) (aG (k5 _ _ ?_)));refine aD fun K6 k6=>?_;simp only[zz];refine bZ rfl (fun hc1=>?_) (fun hc1=>?_)
  ·
   obtain ⟨x,hx,a,rfl,hrow⟩:=hL.get (i:=k) (by omega);refine wp_skip (k6 _ _ ?_);refine aD fun K7 k7=>wp_block (aD fun K8 k8=>wp_region_lit (aA (aI kS aF rfl rfl (by omega) (by omega) (bV (Int.toNat_natCast _))) ?_));simp only[zz];refine aK rfl ((hrow.ext m.ext).lies aJ aF) ?_;simp only[zz];refine bF m bQ rfl ?_;clear m;intro g2 u m;simp only[zz];refine aS m 0 rfl rfl rfl aF (dZ rfl) rfl ?_;clear m;intro u m;simp only[zy,zx,bG,zF,zG,Nat.reduceAdd] at m;refine aG (k8 _ _ ?_);refine wp_region_lit (aA (aB) ?_);simp only[zz];refine aK rfl ((m.b 0 rfl).full aJ aF) ?_;simp only[zz];refine fX (ek:=pt) (en:=Value.bool) (a:=x) (v:=true) m 1 rfl nQ iG rfl rfl rfl hD8 ?_;clear m;intro es8 c8 u m hD';clear hD8;have hD8:=hD';clear hD';simp only[zF,zG] at m;refine aG (k7 _ _ ?_);refine wp_region_lit (aA (aP rfl rfl (aM (by omega) (by omega))) (aA (aB) (aG ?_)));simp only[zz];simp only[Exit.inBlock,Exit.then];refine ⟨N - (k + 1),_,?_,rfl,?_,?_⟩
   · omega
   · simp only[zz,zv]
   ·
    simp only[zQ,zR,zD,zE];exact ⟨k + 1,_,_,rfl,(m.sel [false,true]),by rw [dF hx,mX];exact hD8,by omega,rfl⟩
  ·
   have hkN : k = N:=by omega
   rw [hkN,show ps.take N = ps from List.take_of_length_le (by rw [hL.len];exact Nat.le_refl _)] at hD8;refine wp_exit (k3 _ _ ?_);refine aD fun K9 k9=>wp_region_lit (aA (aB) (aA (aC) (aG (k9 _ _ ?_))));refine wp_ret ?_;simp only[zz];try simp only[Exit.inBlock,Exit.then,if_true]
   refine bO rfl rfl ?_;try simp only[zD,zE]
   exact ⟨_,rfl,m.ext,_,_,_,rfl,m,hD8⟩
theorem Xg {ts : List T3} {rim : List E3} {k : Nat} {e : E3} (h : rim[k]? = some e) : xA ts (rim.take (k + 1)) = xA ts (rim.take k) ++ [(e,sN ts e.1 ts.length e.2)]:=by
 rw [dF h];simp [xA]
theorem aa7 {ts : List T3} {N cap : Nat} {A : Option Addr} {rim : List E3} {M cap2 : Nat} {A2 : Option Addr} (w : World) (hT : eO w A N ts) (hN : N ≤ 10000000) (hL : nS bU 6 w A2 M rim) (hM : M ≤ 100000000) (hdg : sO ts) (hnd : (aV ts).Nodup) (hrim : ∀ e ∈ rim,(e.2,e.1) ∉ aV ts) : eK prog 69 [.slice A N cap,.slice A2 M cap2] w (fun v w'=>∃ g es c,v = .map (some g) ∧ cA w w' [mI g es c] ∧ cO ed pt (mZ [] (xA ts rim)) es c):=by
 refine ⟨af4,?_⟩;have m:=cA.refl w
 go_enter func69,ntmps69
 refine aD fun K1 k1=>wp_region_lit (aA (aC) (aG (k1 _ _ ?_)));refine aD fun K2 k2=>wp_region_lit ?_;simp only[zz];refine kT m ?_;clear m;intro q8 u m;have hD8:=cO.nil (K:=E3) (V:=P3) ed pt;refine aA (aC) (aG (k2 _ _ ?_));refine aD fun K3 k3=>aD fun K4 k4=>wp_region_lit (aA (aB) (aA (aW rfl bS rfl) ?_));simp only[zz];refine aA (aB) (aG (k4 _ _ ?_));refine wp_block ?_;simp only[zz];try simp only[Nat.zero_add,Nat.reduceAdd,Nat.reduceMul,Int.reduceToNat]
 refine bH [19] [7,8,9,20,21,22,23,24,25,26,27,28,29,30,31,32,33,34,35,36,37,38,39,40,41,42] (fun n vs wl=>∃ (k : Nat) (es : Array MapEntry) (c : Nat),vs = [.int .i64 (k:Int)] ∧ cA w wl [mI q8 es c] ∧ (cO ed pt (mZ [] (eY (ts.take k))) es c) ∧ (k ≤ N) ∧ (n = N - k)) ?_ ?_
 ·
  apply Exists.intro;simp only[zQ,zR,zD,zE];exact ⟨0,_,_,rfl,m,hD8,Nat.zero_le _,rfl⟩
 ·
  intro n vs wr hI u;clear m;obtain ⟨k,es8,c8,rfl,m,hD8,hk,hn⟩:=hI;simp only[zu,zF,zG];refine aD fun K5 k5=>wp_region_lit (aA (cE rfl rfl) (aG (k5 _ _ ?_)));refine aD fun K6 k6=>?_;simp only[zz];refine bZ rfl (fun hc1=>?_) (fun hc1=>?_)
  ·
   obtain ⟨t,ht,_,a,rfl,hrow⟩:=hT.get (i:=k) (by omega);refine wp_skip (k6 _ _ ?_);refine aD fun K7 k7=>wp_block (aD fun K8 k8=>wp_region_lit (aA (aI bS aT rfl rfl (by omega) (by omega) (bV (Int.toNat_natCast _))) ?_));simp only[zz];refine aK rfl ((hrow.ext m.ext).lies eQ aT) ?_;simp only[zz];refine bF m jX rfl ?_;clear m;intro g2 u m;simp only[zz];refine aS m 0 rfl rfl rfl aT (dZ rfl) rfl ?_;clear m;intro u m;simp only[zy,zx,bG,zF,zG,Nat.reduceAdd] at m;refine aG (k8 _ _ ?_);refine aD fun K9 k9=>wp_region_lit (aK rfl ((m.b 0 rfl).full eQ aT) ?_);simp only[zz];refine aA (aB) (aG (k9 _ _ ?_));refine wp_block (wp_loop_rounds 4 (dU (aD fun K10 k10=>wp_region_lit (aA (bX (m:=0) (n:=3) rfl rfl (by decide)) (aG (k10 _ _ ?_))))));refine aD fun K11 k11=>cG rfl (wp_skip (k11 _ _ ?_));refine aD fun K12 k12=>wp_block (aD fun K13 k13=>wp_region_lit (aA (aB) (aA (kM rfl rfl) ?_)));simp only[zz];refine bF m bQ rfl ?_;clear m;intro g3 u m;refine aA (aC) ?_;simp only[zz];refine aS m 0 rfl rfl rfl aF (dZ rfl) rfl ?_;clear m;intro u m;simp only[zy,zx,bG,zF,zG,Nat.reduceAdd] at m;refine aG (k13 _ _ ?_);refine iU m 13 aO (by kernel_rfl) ?_;simp only[zy];refine aL (aB) ?_;simp only[zz];refine ql rfl (fun u m=>((m.b 0 rfl).full aJ aF)) ?_;simp only[zz];refine aL (aB) (aL (aP (m:=0) (n:=1) (r:=1) rfl rfl (by decide)) (aL (dG (m:=1) (n:=3) (r:=1) rfl rfl (by decide) (by decide)) (aL (aH bL aF rfl rfl (by decide) (by decide) rfl) ?_)));simp only[zz];refine ql rfl (fun u m=>((m.b 1 rfl).lies aJ aF rfl rfl)) ?_;simp only[zz,zy,Nat.zero_add,Nat.reduceAdd,Nat.reduceMul,Int.reduceToNat];refine aL (cP rfl rfl) (aL (aB) (aL (aP (m:=0) (n:=2) (r:=2) rfl rfl (by decide)) (aL (dG (m:=2) (n:=3) (r:=2) rfl rfl (by decide) (by decide)) ?_)));simp only[zz];refine aL (aH bL aF rfl rfl (by decide) (by decide) rfl) ?_;simp only[zz];refine ql rfl (fun u m=>((m.b 1 rfl).lies aJ aF rfl rfl)) ?_;simp only[zz,zy,Nat.zero_add,Nat.reduceAdd,Nat.reduceMul,Int.reduceToNat];refine dK ?_;clear m;intro u m;refine fX (ek:=ed) (en:=pt) (a:=(t.a,t.b)) (v:=t.c) m 2 rfl tZ nX rfl rfl rfl hD8 ?_;clear m;intro es8 c8 u m hD';clear hD8;have hD8:=hD';clear hD';simp only[zF,zG] at m;rw [← oN] at hD8;refine aG (k12 _ _ ?_);refine wp_region_lit (aA (aP (m:=0) (n:=1) (r:=1) rfl rfl (by decide)) (aA (aB) (aG (aU (aD fun K14 k14=>wp_region_lit (aA (bX (m:=1) (n:=3) rfl rfl (by decide)) (aG (k14 _ _ ?_))))))));refine aD fun K15 k15=>cG rfl (wp_skip (k15 _ _ ?_));refine aD fun K16 k16=>wp_block (aD fun K17 k17=>wp_region_lit (aA (aB) ?_));simp only[zz];refine aA (kN rfl rfl) ?_;simp only[zz];refine bF m bQ rfl ?_;clear m;intro g4 u m;refine aA (aC) ?_;simp only[zz];refine aS m 0 rfl rfl rfl aF (dZ rfl) rfl ?_;clear m;intro u m;simp only[zy,zx,bG,zF,zG,Nat.reduceAdd] at m;refine aG (k17 _ _ ?_);refine iU m 13 aO (by kernel_rfl) ?_;simp only[zy];refine aL (aB) ?_;simp only[zz];refine ql rfl (fun u m=>((m.b 0 rfl).full aJ aF)) ?_;simp only[zz];refine aL (aB) (aL (aP (m:=1) (n:=1) (r:=2) rfl rfl (by decide)) (aL (dG (m:=2) (n:=3) (r:=2) rfl rfl (by decide) (by decide)) (aL (aH bL aF rfl rfl (by decide) (by decide) rfl) ?_)));simp only[zz];refine ql rfl (fun u m=>((m.b 2 rfl).lies aJ aF rfl rfl)) ?_;simp only[zz,zy,Nat.zero_add,Nat.reduceAdd,Nat.reduceMul,Int.reduceToNat];refine aL (cP rfl rfl) (aL (aB) (aL (aP (m:=1) (n:=2) (r:=3) rfl rfl (by decide)) (aL (dG (m:=3) (n:=3) (r:=0) rfl rfl (by decide) (by decide)) ?_)));simp only[zz];refine aL (aH bL aF rfl rfl (by decide) (by decide) rfl) ?_;simp only[zz];refine ql rfl (fun u m=>((m.b 2 rfl).lies aJ aF rfl rfl)) ?_;simp only[zz,zy,Nat.zero_add,Nat.reduceAdd,Nat.reduceMul,Int.reduceToNat];refine dK ?_;clear m;intro u m;refine fX (ek:=ed) (en:=pt) (a:=(t.b,t.c)) (v:=t.a) m 3 rfl tZ nX rfl rfl rfl hD8 ?_;clear m;intro es8 c8 u m hD';clear hD8;have hD8:=hD';clear hD';simp only[zF,zG] at m;rw [← oN] at hD8;refine aG (k16 _ _ ?_);refine wp_region_lit (aA (aP (m:=1) (n:=1) (r:=2) rfl rfl (by decide)) (aA (aB) (aG (aU (aD fun K18 k18=>wp_region_lit (aA (bX (m:=2) (n:=3) rfl rfl (by decide)) (aG (k18 _ _ ?_))))))));refine aD fun K19 k19=>cG rfl (wp_skip (k19 _ _ ?_));refine aD fun K20 k20=>wp_block (aD fun K21 k21=>wp_region_lit (aA (aB) ?_));simp only[zz];refine aA (kO rfl rfl) ?_;simp only[zz];refine bF m bQ rfl ?_;clear m;intro g5 u m;refine aA (aC) ?_;simp only[zz];refine aS m 0 rfl rfl rfl aF (dZ rfl) rfl ?_;clear m;intro u m;simp only[zy,zx,bG,zF,zG,Nat.reduceAdd] at m;refine aG (k21 _ _ ?_);refine iU m 13 aO (by kernel_rfl) ?_;simp only[zy];refine aL (aB) ?_;simp only[zz];refine ql rfl (fun u m=>((m.b 0 rfl).full aJ aF)) ?_;simp only[zz];refine aL (aB) (aL (aP (m:=2) (n:=1) (r:=3) rfl rfl (by decide)) (aL (dG (m:=3) (n:=3) (r:=0) rfl rfl (by decide) (by decide)) (aL (aH bL aF rfl rfl (by decide) (by decide) rfl) ?_)));simp only[zz];refine ql rfl (fun u m=>((m.b 3 rfl).lies aJ aF rfl rfl)) ?_;simp only[zz,zy,Nat.zero_add,Nat.reduceAdd,Nat.reduceMul,Int.reduceToNat];refine aL (cP rfl rfl) (aL (aB) (aL (aP (m:=2) (n:=2) (r:=4) rfl rfl (by decide)) (aL (dG (m:=4) (n:=3) (r:=1) rfl rfl (by decide) (by decide)) ?_)));simp only[zz];refine aL (aH bL aF rfl rfl (by decide) (by decide) rfl) ?_;simp only[zz];refine ql rfl (fun u m=>((m.b 3 rfl).lies aJ aF rfl rfl)) ?_;simp only[zz,zy,Nat.zero_add,Nat.reduceAdd,Nat.reduceMul,Int.reduceToNat];refine dK ?_;clear m;intro u m;refine fX (ek:=ed) (en:=pt) (a:=(t.c,t.a)) (v:=t.b) m 4 rfl tZ nX rfl rfl rfl hD8 ?_;clear m;intro es8 c8 u m hD';clear hD8;have hD8:=hD';clear hD';simp only[zF,zG] at m;rw [← oN] at hD8;refine aG (k20 _ _ ?_);refine wp_region_lit (aA (aP (m:=2) (n:=1) (r:=3) rfl rfl (by decide)) (aA (aB) (aG (aU (aD fun K22 k22=>wp_region_lit (aA (eU (m:=3) (n:=3) rfl rfl (by decide)) (aG (k22 _ _ ?_))))))));refine aD fun K23 k23=>iO rfl (wp_exit (k7 _ _ ?_));refine wp_region_lit ?_;simp only[zz];refine aA (aP rfl rfl (aM (by omega) (by omega))) (aA (aB) (aG ?_));simp only[zz];simp only[Exit.inBlock,Exit.then];refine ⟨N - (k + 1),_,?_,rfl,?_,?_⟩
   · omega
   · simp only[zz,zv]
   ·
    simp only[zQ,zR,zD,zE];exact ⟨k + 1,_,_,rfl,(m.sel [false,false,false,false,true]),by rw [Fp ht];simpa [List.append_assoc] using hD8,by omega,rfl⟩
  ·
   have hkN : k = N:=by omega
   rw [hkN,show ts.take N = ts from List.take_of_length_le (by rw [hT.len];exact Nat.le_refl _)] at hD8;refine wp_exit (k3 _ _ ?_);refine aD fun K24 k24=>wp_region_lit (kT m ?_);clear m;intro q9 u m;have hD9:=cO.nil (K:=E3) (V:=P3) ed pt;refine aA (aC) (aG (k24 _ _ ?_));refine aD fun K25 k25=>aD fun K26 k26=>wp_region_lit (aA (aB) (aA (aW rfl fI rfl) ?_));simp only[zz];refine aA (aB) (aG (k26 _ _ ?_));refine wp_block ?_;simp only[zz];try simp only[Nat.zero_add,Nat.reduceAdd,Nat.reduceMul,Int.reduceToNat]
   refine bH [46] [12,13,14,15,47,48,49,50,51,52,53,54,55,56,57,58,59,60,61,62,63,64,65,66,67] (fun n vs wl=>∃ (k : Nat) (es : Array MapEntry) (c : Nat),vs = [.int .i64 (k:Int)] ∧ cA w wl [mI q9 es c,mI q8 es8 c8] ∧ (cO ed pt (mZ [] (xA ts (rim.take k))) es c) ∧ (k ≤ M) ∧ (n = M - k)) ?_ ?_
   ·
    apply Exists.intro;simp only[zQ,zR,zD,zE];exact ⟨0,_,_,rfl,m,hD9,Nat.zero_le _,rfl⟩
   ·
    intro n vs wr hI u;clear m;obtain ⟨k,es9,c9,rfl,m,hD9,hk,hn⟩:=hI;simp only[zu,zF,zG];refine aD fun K27 k27=>wp_region_lit (aA (cE rfl rfl) (aG (k27 _ _ ?_)));refine aD fun K28 k28=>?_;simp only[zz];refine bZ rfl (fun hc3=>?_) (fun hc3=>?_)
    ·
     obtain ⟨e,he,a,rfl,hrow2⟩:=hL.get (i:=k) (by omega);have hre:=hrim e (List.mem_of_getElem? he);refine wp_skip (k28 _ _ ?_);refine aD fun K29 k29=>wp_block (aD fun K30 k30=>wp_region_lit (aA (aI fI cF rfl rfl (by omega) (by omega) (bV (Int.toNat_natCast _))) ?_));simp only[zz];refine aK rfl (((hrow2.ext m.ext)).lies kK cF) ?_;simp only[zz];refine bF m tO rfl ?_;clear m;intro g3 u m;simp only[zz];refine aS m 0 rfl rfl rfl cF (dZ rfl) rfl ?_;clear m;intro u m;simp only[zy,zx,bG,zF,zG,Nat.reduceAdd] at m;refine aG (k30 _ _ ?_);refine aD fun K31 k31=>wp_region_lit (aA (aH jQ aF rfl rfl (by decide) (by decide) rfl) ?_);simp only[zz];refine aK rfl ((m.b 0 rfl).lies aJ aF rfl rfl) ?_;simp only[zz,zy,Nat.zero_add,Nat.reduceAdd,Nat.reduceMul,Int.reduceToNat];refine bF m bQ rfl ?_;clear m;intro g4 u m;simp only[zz];refine aS m 0 rfl rfl rfl aF (dZ rfl) rfl ?_;clear m;intro u m;simp only[zy,zx,bG,zF,zG,Nat.reduceAdd] at m;refine aG (k31 _ _ ?_);refine aD fun K32 k32=>wp_block ?_;try simp only[Nat.zero_add,Nat.reduceAdd,Nat.reduceMul,Int.reduceToNat]
     refine bH [] [14,15,52,53,54,55,56,57,58,59,60,61,62,63] (fun n vs wl=>∃ (i : Nat) (z : P3),vs = [] ∧ cA w wl [bI g4 (vA z) 48,bI g3 (bU e) 57,mI q9 es9 c9,mI q8 es8 c8] ∧ (sU ts e.1 i e.2 = some z) ∧ (i ≤ ts.length) ∧ (n = ts.length + 1 - i)) ?_ ?_
     ·
      apply Exists.intro;simp only[zQ,zR,zD,zE];exact ⟨0,e.2,trivial,m,rfl,Nat.zero_le _,rfl⟩
     ·
      intro n vs wr hI u;clear m;obtain ⟨i,z,rfl,m,hit,hil,hn4⟩:=hI;simp only[zu,zF,zG];refine wp_block (aD fun K33 k33=>wp_region_lit (aA (aB) (aA (aH jQ aF rfl rfl (by decide) (by decide) rfl) ?_)));simp only[zz];refine aK rfl ((m.b 1 rfl).lies aJ aF rfl rfl) ?_;simp only[zz,zy,Nat.zero_add,Nat.reduceAdd,Nat.reduceMul,Int.reduceToNat];refine aK rfl ((m.b 0 rfl).full aJ aF) ?_;simp only[zz];refine aA (cP rfl rfl) ?_;simp only[zz];refine fP (sK (ek:=ed) (en:=pt) (k:=(e.1,z)) (v0:=⟨0,0,0⟩) tZ bQ nX rfl rfl (m.p 3 rfl) hD8) ?_;simp only[zz];refine aA (aB) (aA (bE rfl rfl) (aA (bE rfl rfl) ?_));simp only[zz];refine bF m bQ rfl ?_;clear m;intro g5 u m;simp only[zz];refine aS m 0 rfl rfl rfl aF (dZ rfl) rfl ?_;clear m;intro u m;simp only[zy,zx,bG,zF,zG,Nat.reduceAdd] at m;refine aA (aC) (aG (k33 _ _ ?_));refine aD fun K34 k34=>aD fun K35 k35=>wp_region_lit (aA (aB) (aA (fQ rfl) (aG (k35 _ _ ?_))));simp only[zz];refine eE rfl (fun hc4=>?_) (fun hc4=>?_)
      ·
       have hyn : bP ts e.1 z = none:=by rw [← sM hnd];simpa using hc4
       have hend:=aaA i ts.length e.2 z hil hit hyn;refine wp_exit (k32 _ _ ?_);refine wp_region_lit (aA (aB) ?_);simp only[zz];refine aK rfl ((m.b 2 rfl).full kK cF) ?_;simp only[zz];refine aK rfl ((m.b 1 rfl).full aJ aF) ?_;simp only[zz];refine fX (ek:=ed) (en:=pt) (a:=e) (v:=z) m 3 rfl tZ nX rfl rfl rfl hD9 ?_;clear m;intro es9 c9 u m hD';clear hD9;have hD9:=hD';clear hD';simp only[zF,zG] at m;refine aG (k29 _ _ ?_);refine wp_region_lit (aA (aP rfl rfl (aM (by omega) (by omega))) (aA (aB) (aG ?_)));simp only[zz];simp only[Exit.inBlock,Exit.then];refine ⟨M - (k + 1),_,?_,rfl,?_,?_⟩
       · omega
       · simp only[zz,zv]
       ·
        simp only[zQ,zR,zD,zE];exact ⟨k + 1,_,_,rfl,(m.sel [false,false,false,true,true]),by rw [Xg he,oN,hend];exact hD9,by omega,rfl⟩
      ·
       obtain ⟨y,hy⟩ : ∃ y,dD (mZ [] (eY ts)) (e.1,z) = some y:=by
        cases h : dD (mZ [] (eY ts)) (e.1,z) with
        | some y=>exact ⟨y,rfl⟩
        | none=>rw [h] at hc4;cases hc4
       have hya : bP ts e.1 z = some y:=by rw [← sM hnd];exact hy
       have hit2 : sU ts e.1 (i + 1) e.2 = some y:=by rw [vL,hit];exact hya
       have hil2:=ace hdg hnd hre hit2;rw [hy] at m;simp only[Option.getD_some] at m;refine wp_skip (k34 _ _ ?_);refine wp_region_lit (aK rfl ((m.b 0 rfl).full aJ aF) ?_);simp only[zz];refine aS m 1 rfl rfl rfl aF (dZ rfl) rfl ?_;clear m;intro u m;simp only[zy,zx,bG,zF,zG,Nat.reduceAdd] at m;refine aG ?_;simp only[Exit.inBlock,Exit.then];refine ⟨ts.length + 1 - (i + 1),_,?_,rfl,?_,?_⟩
       · omega
       · simp only[zz,zv]
       ·
        simp only[zQ,zR,zD,zE];exact ⟨i + 1,y,trivial,(m.sel [false,true,true,true,true]),hit2,hil2,rfl⟩
    ·
     have hkN : k = M:=by omega
     rw [hkN,show rim.take M = rim from List.take_of_length_le (by rw [hL.len];exact Nat.le_refl _)] at hD9;refine wp_exit (k25 _ _ ?_);refine aD fun K36 k36=>wp_region_lit (aA (aB) (aA (aC) (aG (k36 _ _ ?_))));refine wp_ret ?_;simp only[zz];try simp only[Exit.inBlock,Exit.then,if_true]
     refine bO rfl rfl ?_;try simp only[zD,zE]
     exact ⟨_,rfl,m.ext,_,_,_,rfl,m.sel [true,false],hD9⟩
end Go.Proofs.YtfohfflkhpfjeaaGreatDoor
namespace Go.Proofs.YtfohfflkhpfjeaaGreatDoor
open Go.Proofs.Tryz
open Go.RowKit Go.Lith
set_option maxRecDepth 100000
attribute [local irreducible] wpList wpQuiet dY dQ dO Code.wp
theorem aa8 {x y : E3} : (x.1.x = y.1.x ∧ x.1.y = y.1.y ∧ x.1.z = y.1.z ∧ x.2.x = y.2.x ∧ x.2.y = y.2.y ∧ x.2.z = y.2.z) ↔ x = y :=
 ⟨fun h=>Prod.ext (P3.eq h.1 h.2.1 h.2.2.1) (P3.eq h.2.2.2.1 h.2.2.2.2.1 h.2.2.2.2.2),fun h=>by rw [h];exact ⟨rfl,rfl,rfl,rfl,rfl,rfl⟩⟩
theorem Xh {K V : Type} [DecidableEq K] {D1 D2 : List (K × V)} (hk : D1.map (·.1) = D2.map (·.1)) (hn : (D1.map (·.1)).Nodup) (h : ∀ x ∈ D1,dD D2 x.1 = some x.2) : D1 = D2:=by
 apply List.ext_getElem?;intro i;have e:=congrArg (·[i]?) hk;simp only[List.getElem?_map] at e;cases h1 : D1[i]? with
 | none =>
  rw [h1] at e;cases h2 : D2[i]? with
  | none=>rfl
  | some y=>rw [h2] at e;cases e
 | some x =>
  rw [h1] at e;cases h2 : D2[i]? with
  | none=>rw [h2] at e;cases e
  | some y =>
   rw [h2] at e;have e' : x.1 = y.1:=Option.some.inj e;have hm:=h x (List.mem_of_getElem? h1);rw [e',mW (v:=y.2) (by rw [← hk];exact hn) (List.mem_of_getElem? h2)] at hm;exact congrArg some (Prod.ext e' (Option.some.inj hm).symm)
theorem Xi {es fs : List E3} {N cap M cap2 : Nat} {A A2 : Option Addr} (w : World) (hL : nS bU 6 w A N es) (hL2 : nS bU 6 w A2 M fs) (hN : N ≤ 100000000) : eK prog 67 [.slice A N cap,.slice A2 M cap2] w (fun v _=>v = .bool (decide (es = fs))):=by
 refine ⟨af2,?_⟩;have m:=cA.refl w;have e1:=hL.len;have e2:=hL2.len
 go_enter func67,ntmps67
 refine aD fun K1 k1=>wp_region_lit (aA (aC) (aG (k1 _ _ ?_)));refine aD fun K2 k2=>aD fun K3 k3=>wp_region_lit (aA (aB) (aA (aW rfl fI rfl) (aA (aB) ?_)));simp only[zz];refine aA (aW rfl fI rfl) (aA (lG rfl rfl) (aG (k3 _ _ ?_)));simp only[zz];refine bZ rfl (fun hc1=>?_) (fun hc1=>?_)
 ·
  have hne : ¬ es = fs:=fun h=>hc1 (by rw [← e1,← e2,h]);refine aD fun K4 k4=>wp_region_lit (aA (aC) (aG (k4 _ _ ?_)));refine wp_ret ?_;simp only[zz];try simp only[Exit.inBlock,Exit.then,if_true]
  refine bO rfl rfl ?_;try simp only[zD,zE]
  exact ⟨_,rfl,m.ext,by rw [decide_eq_false hne]⟩
 ·
  refine wp_skip (k2 _ _ ?_);refine aD fun K5 k5=>aD fun K6 k6=>wp_region_lit (aA (aB) (aA (aW rfl fI rfl) (aA (aB) (aG (k6 _ _ ?_)))));refine wp_block ?_;simp only[zz];try simp only[Nat.zero_add,Nat.reduceAdd,Nat.reduceMul,Int.reduceToNat]
  refine bH [13] [4,5,14,15,16,17,18,19,20,21,22,23,24,25] (fun n vs wl=>∃ (k : Nat),vs = [.int .i64 (k:Int)] ∧ cA w wl [] ∧ (es.take k = fs.take k) ∧ (k ≤ N) ∧ (n = N - k)) ?_ ?_
  ·
   apply Exists.intro;simp only[zQ,zR,zD,zE];exact ⟨0,rfl,m,rfl,Nat.zero_le _,rfl⟩
  ·
   intro n vs wr hI u;clear m;obtain ⟨k,rfl,m,heq,hk,hn⟩:=hI;simp only[zu,zF,zG];refine aD fun K7 k7=>wp_region_lit (aA (cE rfl rfl) (aG (k7 _ _ ?_)));refine aD fun K8 k8=>?_;simp only[zz];refine bZ rfl (fun hc2=>?_) (fun hc2=>?_)
   ·
    obtain ⟨x,hx,a,rfl,hrow⟩:=hL.get (i:=k) (by omega);obtain ⟨y,hy,a2,rfl,hrow2⟩:=hL2.get (i:=k) (by omega);refine wp_skip (k8 _ _ ?_);refine aD fun K9 k9=>wp_block (aD fun K10 k10=>wp_region_lit (aA (aB) (aA (aC) (aG (k10 _ _ ?_)))));refine aD fun K11 k11=>?_;simp only[zz];refine mq m aO (by kernel_rfl) (aL (aB) (aL (aB) ?_));simp only[zz];refine aL (aI fI cF rfl rfl (by omega) (by omega) (bV (Int.toNat_natCast _))) ?_;simp only[zz];refine ql rfl (fun u m=>((hrow.ext m.ext).lies kK cF)) ?_;simp only[zz];refine aL (aB) (aL (aB) ?_);simp only[zz];refine aL (aI fI cF rfl rfl (by omega) (by omega) (bV (Int.toNat_natCast _))) ?_;simp only[zz];refine ql rfl (fun u m=>((hrow2.ext m.ext).lies kK cF)) ?_;simp only[zz];refine aL (Is rfl rfl) (dK ?_);clear m;intro u m;refine k11 _ _ ?_;simp only[zz];refine bZ rfl (fun hc3=>?_) (fun hc3=>?_)
    ·
     have hne : ¬ es = fs:=fun h=>hc3 (aa8.2 (by subst h;exact Option.some.inj (hx.symm.trans hy)));refine aD fun K12 k12=>wp_region_lit (aA (aC) (aG (k12 _ _ ?_)));refine wp_ret ?_;simp only[zz];try simp only[Exit.inBlock,Exit.then,if_true]
     refine bO rfl rfl ?_;try simp only[zD,zE]
     exact ⟨_,rfl,m.ext,by rw [decide_eq_false hne]⟩
    ·
     obtain rfl:=aa8.1 (Classical.not_not.1 hc3);refine wp_skip (k9 _ _ ?_);refine wp_region_lit (aA (aP rfl rfl (aM (by omega) (by omega))) (aA (aB) (aG ?_)));simp only[zz];simp only[Exit.inBlock,Exit.then];refine ⟨N - (k + 1),_,?_,rfl,?_,?_⟩
     · omega
     · simp only[zz,zv]
     ·
      simp only[zQ,zR,zD,zE];exact ⟨k + 1,rfl,m,by rw [dF hx,dF hy,heq],by omega,rfl⟩
   ·
    have hall : es = fs:=by rw [List.take_of_length_le (by omega),List.take_of_length_le (by omega)] at heq;exact heq
    refine wp_exit (k5 _ _ ?_);refine aD fun K13 k13=>wp_region_lit (aA (aC) (aG (k13 _ _ ?_)));refine wp_ret ?_;simp only[zz];try simp only[Exit.inBlock,Exit.then,if_true]
    refine bO rfl rfl ?_;try simp only[zD,zE]
    exact ⟨_,rfl,m.ext,by rw [decide_eq_true hall]⟩
theorem acE {g c g2 c2 : Nat} {es es2 : Array MapEntry} {D1 D2 : List (E3 × P3)} (w : World) (hM : kZ w g es c) (hD : cO ed pt D1 es c) (hM2 : kZ w g2 es2 c2) (hD2 : cO ed pt D2 es2 c2) (hk : D1.map (·.1) = D2.map (·.1)) (hnk : (D1.map (·.1)).Nodup) : eK prog 68 [.map (some g),.map (some g2)] w (fun v _=>v = .bool (decide (D1 = D2))):=by
 refine ⟨af3,?_⟩;have m:=cA.refl w;have hl : D1.length = D2.length:=by simpa using congrArg List.length hk
 go_enter func68,ntmps68
 refine aD fun K1 k1=>wp_region_lit (aA (aC) (aG (k1 _ _ ?_)));refine aD fun K2 k2=>aD fun K3 k3=>wp_region_lit (aA (aB) ?_);simp only[zz];refine fP (aap rfl tZ rfl (hM.ext m.ext) hD) (aA (aB) ?_);simp only[zz];refine fP (aap rfl tZ rfl (hM2.ext m.ext) hD2) (aA (lG rfl rfl) (aG (k3 _ _ ?_)));simp only[zz];refine bZ rfl (fun hc1=>?_) (fun hc1=>?_)
 ·
  exact absurd (congrArg (Nat.cast (R:=Int)) hl) hc1
 ·
  refine wp_skip (k2 _ _ ?_);refine aD fun K4 k4=>aD fun K5 k5=>wp_region_lit (aA (aB) ?_);simp only[zz];refine xP m tZ rfl (hM.ext m.ext) ?_;clear m;intro r1 u m;refine aG (k5 _ _ ?_);refine wp_block ?_;simp only[zz];try simp only[Nat.zero_add,Nat.reduceAdd,Nat.reduceMul,Int.reduceToNat]
  refine bH [] [4,5,6,7,8,16,17,18,19,20,21,22,23,24,25,26,27,28,29,30,31,32,33] (fun n vs wl=>∃ (dn rs : List (E3 × P3)) (sn : Array Nat),vs = [] ∧ cA w wl [iI r1 g c sn] ∧ (mQ ed pt D1 es sn dn rs) ∧ (∀ x ∈ dn,dD D2 x.1 = some x.2) ∧ (n = rs.length)) ?_ ?_
  ·
   apply Exists.intro;simp only[zQ,zR,zD,zE];exact ⟨[],D1,#[],trivial,m,mQ.start hD,fun _ h=>(by cases h),rfl⟩
  ·
   intro n vs wr hI u;clear m;obtain ⟨dn,rs,sn,rfl,m,hT,hall,hn⟩:=hI;simp only[zu,zF,zG];refine aD fun K6 k6=>wp_region_lit (Fc m 0 rfl rfl (hM.ext m.ext) hD hT ?_);clear m;intro bb kk vv sn u m hN;simp only[zF,zG] at m;refine aA (tP rfl) (aG (k6 _ _ ?_));refine aD fun K7 k7=>?_;simp only[zz];refine eE rfl (fun hc2=>?_) (fun hc2=>?_)
   ·
    obtain ⟨kp,kb,rs2,hp,hT2⟩:=Fh hc2 hN;have hin : (kp,kb) ∈ D1:=hT2.1.mem_iff.1 (by simp);refine wp_skip (k7 _ _ ?_);refine wp_block (aD fun K8 k8=>wp_region_lit (fP (tQ rfl (m.r 0 rfl) (hM.ext m.ext) hD hT2) ?_));simp only[zz];refine aA (bE rfl rfl) (aA (bE rfl rfl) ?_);simp only[zz];refine bF m tO rfl ?_;clear m;intro g2 u m;simp only[zz];refine bF m bQ rfl ?_;clear m;intro g3 u m;simp only[zz];refine aS m 1 rfl rfl rfl cF (dZ rfl) rfl ?_;clear m;intro u m;simp only[zy,zx,bG,zF,zG,Nat.reduceAdd] at m;refine aS m 0 rfl rfl rfl aF (dZ rfl) rfl ?_;clear m;intro u m;simp only[zy,zx,bG,zF,zG,Nat.reduceAdd] at m;refine aG (k8 _ _ ?_);refine aD fun K9 k9=>wp_region_lit (aA (aB) ?_);simp only[zz];refine aK rfl ((m.b 1 rfl).full kK cF) ?_;simp only[zz];refine fP (sK (ek:=ed) (en:=pt) (k:=kp) (v0:=⟨0,0,0⟩) tZ bQ nX rfl rfl (hM2.ext m.ext) hD2) ?_;simp only[zz];refine aA (aB) (aA (bE rfl rfl) (aA (bE rfl rfl) ?_));simp only[zz];refine bF m bQ rfl ?_;clear m;intro g4 u m;simp only[zz];refine aS m 0 rfl rfl rfl aF (dZ rfl) rfl ?_;clear m;intro u m;simp only[zy,zx,bG,zF,zG,Nat.reduceAdd] at m;refine aA (aC) (aG (k9 _ _ ?_));refine aD fun K10 k10=>wp_region_lit (aA (aB) (aA (fQ rfl) (aA (aB) ?_)));simp only[zz];refine oR rfl (fun hb=>cC rfl ((m.b 1 rfl).full aJ aF)) (oR rfl (fun hb=>cC rfl ((m.b 0 rfl).full aJ aF)) (fH rfl (fun hb=>gA (bK hb rfl) (bK hb rfl)) (aA (fT rfl rfl rfl) (aG (k10 _ _ ?_)))));simp only[zz];refine eE rfl (fun hc3=>?_) (fun hc3=>?_)
    ·
     have hne : ¬ D1 = D2:=fun h=>by rw [← h,mW hnk hin] at hc3;simp at hc3
     refine aD fun K11 k11=>wp_region_lit (aA (aC) (aG (k11 _ _ ?_)));refine wp_ret ?_;simp only[zz];try simp only[Exit.inBlock,Exit.then,if_true]
     refine bO rfl rfl ?_;try simp only[zD,zE]
     exact ⟨_,rfl,m.ext,by rw [decide_eq_false hne]⟩
    ·
     have hv : dD D2 kp = some kb:=by
      cases h : dD D2 kp with
      | none=>rw [h] at hc3;cases hc3
      | some y =>
       rw [h] at hc3;simp only[Option.isSome_some,Bool.not_true,Bool.false_or,Option.getD_some,decide_eq_false_iff_not,Classical.not_not] at hc3;rw [gH.1 hc3]
     refine wp_skip ?_;simp only[Exit.inBlock,Exit.then];refine ⟨rs2.length,_,?_,rfl,?_,?_⟩
     · rw [hn,hp.length_eq];exact Nat.lt_succ_self _
     · simp only[zz,zv]
     ·
      simp only[zQ,zR,zD,zE];exact ⟨dn ++ [(kp,kb)],rs2,_,trivial,(m.sel [false,false,false,true]),hT2,fun x hx=>(List.mem_append.1 hx).elim (hall x) fun hx=>by obtain rfl:=List.mem_singleton.1 hx;exact hv,rfl⟩
   ·
    obtain rfl:=Fg hc2 hN;have hsm : D1 = D2:=Xh hk hnk fun x hx=>hall x (hT.done.mem_iff.2 hx);refine wp_exit (k4 _ _ ?_);refine aD fun K12 k12=>wp_region_lit (aA (aC) (aG (k12 _ _ ?_)));refine wp_ret ?_;simp only[zz];try simp only[Exit.inBlock,Exit.then,if_true]
    refine bO rfl rfl ?_;try simp only[zD,zE]
    exact ⟨_,rfl,m.ext,by rw [decide_eq_true hsm]⟩
theorem acF {F G H R J : Value} {g1 q c : Nat} {es : Array MapEntry} {D : List (P3 × P3)} {p : P3} (w : World) (hB1 : gJ w g1 [F,G,H,R,.map (some q),J] 73) (hM : kZ w q es c) (hD : cO pt pt D es c) : eK prog 75 [.pointer (some ⟨g1,0,none⟩),pt p] w (fun v _=>v = pt ((dD D p).getD p)):=by
 refine ⟨aga,?_⟩;have m:=cA.refl w
 go_enter func75,ntmps75
 refine aD fun K1 k1=>wp_region_lit (eP m rfl ?_);clear m;intro g2 u m;simp only[zz];refine bF m bQ rfl ?_;clear m;intro g3 u m;refine aG (k1 _ _ ?_);refine aD fun K2 k2=>aD fun K3 k3=>?_;simp only[zz];apply agL m (T1:=48)
 ·
  refine Ms m [true,true] (.take 0 (.take 1 (.take 2 (.take 3 (.take 4 (.two 5 (.take 6 (.take 7 (.take 8 (.one 9 (.one 10 (.take 11 .nil)))))) 9 (.one 5 (.take 6 (.take 7 (.take 8 (.one 10 (.take 11 .nil)))))))))))) aO (by kernel_rfl) (fun _ _ _ _ _ h=>by cases h.1) ?_;intro u m;refine dW (by simp only[zw];rfl) (aZ (aB) (dN (dW (by simp only[zw];rfl) (aZ (dA rfl) (dN (dW (by simp only[zw];rfl) (aZ (aN (c:=0) jJ rfl yQ rfl rfl) (dN (dW (by simp only[zw];rfl) ?_)))))))));simp only[zz];refine dI rfl (fun u m=>((hB1.ext m.ext).lies1 Rc rfl)) ?_;simp only[zz];refine dN (dW (by simp only[zw];rfl) (dI rfl (fun u m=>((m.b 1 rfl).full aJ aF)) ?_));simp only[zz];refine dN ?_;refine Eg (by simp only[zw];rfl) (by simp only[zw];rfl) ?_ ?_
  ·
   refine fP (sK (ek:=pt) (en:=pt) (k:=p) (v0:=⟨0,0,0⟩) underlying71 bQ iG rfl rfl (hM.ext m.ext) hD) ?_;simp only[zz];refine aG (⟨m,?_⟩);refine dW (by simp only[zw];rfl) (aZ (aB) (dN (dW (by simp only[zw];rfl) (aZ (bE rfl rfl) (dN (dW (by simp only[zw];rfl) (aZ (bE rfl rfl) (dN (jH (by simp only[zw];rfl) ?_)))))))));simp only[zz];refine bF m bQ rfl ?_;clear m;intro g4 u m;refine aG (⟨m.sel [false,true,true],?_⟩);refine jH (by simp only[zw];rfl) ?_;simp only[zz];refine aS m 0 rfl rfl rfl aF (dZ rfl) rfl ?_;clear m;intro u m;simp only[zy,zx,bG,zF,zG,Nat.reduceAdd] at m;refine aG (⟨m.sel [false,true,true],?_⟩);refine dW (by simp only[zw];rfl) (aZ (aC) (dN (sA ?_)));exact ⟨rfl,g4,rfl,m⟩
  ·
   refine bF m bQ rfl ?_;clear m;intro g4 u m;refine aG (⟨m.sel [false,true,true],?_⟩);refine jH (by simp only[zw];rfl) ?_;simp only[zz];refine fP (sK (ek:=pt) (en:=pt) (k:=p) (v0:=⟨0,0,0⟩) underlying71 bQ iG rfl rfl (hM.ext m.ext) hD) ?_;simp only[zz];refine aG (⟨m.sel [false,true,true],?_⟩);refine dW (by simp only[zw];rfl) (aZ (aB) (dN (dW (by simp only[zw];rfl) (aZ (bE rfl rfl) (dN (dW (by simp only[zw];rfl) (aZ (bE rfl rfl) (dN (jH (by simp only[zw];rfl) ?_)))))))));simp only[zz];refine aS m 0 rfl rfl rfl aF (dZ rfl) rfl ?_;clear m;intro u m;simp only[zy,zx,bG,zF,zG,Nat.reduceAdd] at m;refine aG (⟨m.sel [false,true,true],?_⟩);refine dW (by simp only[zw];rfl) (aZ (aC) (dN (sA ?_)));exact ⟨rfl,g4,rfl,m⟩
 intro g4 u m;try dsimp only
 refine k3 _ _ ?_;refine aD fun K4 k4=>wp_region_lit (aA (aB) (aG (k4 _ _ ?_)));simp only[zz];refine eE rfl (fun hc1=>?_) (fun hc1=>?_)
 ·
  obtain ⟨y,hy⟩ : ∃ y,dD D p = some y:=by
   cases h : dD D p with
   | some y=>exact ⟨y,rfl⟩
   | none=>rw [h] at hc1;cases hc1
  refine aD fun K5 k5=>wp_region_lit (aK rfl ((m.b 0 rfl).full aJ aF) ?_);simp only[zz];refine aS m 1 rfl rfl rfl aF (dZ rfl) rfl ?_;clear m;intro u m;simp only[zy,zx,bG,zF,zG,Nat.reduceAdd] at m;refine aG (k5 _ _ ?_);refine wp_ret ?_;try simp only[Exit.inBlock,Exit.then,if_true]
  refine bO rfl ⟨_,rfl,((m.b 1 rfl).full aJ aF)⟩ ?_;try simp only[zD,zE]
  exact ⟨_,rfl,m.ext,by rw [hy];rfl⟩
 ·
  have hy : dD D p = none:=by
   cases h : dD D p with
   | none=>rfl
   | some y=>rw [h] at hc1;cases hc1
  refine wp_skip (k2 _ _ ?_);refine aD fun K6 k6=>wp_region_lit (aK rfl ((m.b 2 rfl).full aJ aF) ?_);simp only[zz];refine aS m 1 rfl rfl rfl aF (dZ rfl) rfl ?_;clear m;intro u m;simp only[zy,zx,bG,zF,zG,Nat.reduceAdd] at m;refine aG (k6 _ _ ?_);refine wp_ret ?_;try simp only[Exit.inBlock,Exit.then,if_true]
  refine bO rfl ⟨_,rfl,((m.b 1 rfl).full aJ aF)⟩ ?_;try simp only[zD,zE]
  exact ⟨_,rfl,m.ext,by rw [hy];rfl⟩
end Go.Proofs.YtfohfflkhpfjeaaGreatDoor
namespace Go.Lith
open Go.RowKit
theorem agM {d k : Nat} (hd : d < 4294967296) (hk : k < 2) : IntKind.u64.wrap ((d : Int) * 2 ^ (min (32 * (k : Int)).toNat IntKind.u64.bits)) = ((d * 4294967296 ^ k : Nat) : Int):=by
 obtain rfl | rfl : k = 0 ∨ k = 1:=by omega
 · rw [iA];simp;omega
 · rw [iA]
   simp only[IntKind.bits];show ((d : Int) * 2 ^ 32) % 18446744073709551616 = _
   omega
theorem ahi {s d k : Nat} (hs : s < 4294967296 ^ k) (hd : d < 4294967296) (hk : k < 2) : IntKind.u64.wrap ((BitVec.ofInt IntKind.u64.bits (s : Int) ||| BitVec.ofInt IntKind.u64.bits ((d * 4294967296 ^ k : Nat) : Int)).toNat : Int) = ((s + d * 4294967296 ^ k : Nat) : Int):=by
 rw [iA];show (((BitVec.ofInt 64 (s : Int) ||| BitVec.ofInt 64 ((d * 4294967296 ^ k : Nat) : Int)).toNat : Nat) : Int) % 18446744073709551616 = _
 rw [BitVec.toNat_or,BitVec.toNat_ofInt,BitVec.toNat_ofInt];obtain rfl | rfl : k = 0 ∨ k = 1:=by omega
 · obtain rfl : s = 0:=by omega
   have h1 : (((0 : Nat) : Int) % ((2 ^ 64 : Nat) : Int)).toNat = 0:=by simp
   have h2 : (((d * 4294967296 ^ 0 : Nat) : Int) % ((2 ^ 64 : Nat) : Int)).toNat = d:=by omega
   rw [h1,h2,Nat.zero_or];omega
 · have hs' : s < 2 ^ 32:=by omega
   have h1 : (((s : Nat) : Int) % ((2 ^ 64 : Nat) : Int)).toNat = s:=by omega
   have h2 : (((d * 4294967296 ^ 1 : Nat) : Int) % ((2 ^ 64 : Nat) : Int)).toNat = d <<< 32:=by rw [Nat.shiftLeft_eq];omega
   rw [h1,h2,Nat.or_comm,← Nat.shiftLeft_add_eq_or_of_lt hs' d,Nat.shiftLeft_eq];omega
theorem aa9 {a : Int} {X : Nat} (h : X = a.natAbs) (hl : 2 < (digs 4294967296 X).length) : ¬ nR a:=fun k=>by
 have h1 : X < 4294967296 ^ 2:=by have:=k.natAbs;rw [← h] at this;omega
 have h2:=dS (B:=4294967296) (by omega) h1;omega
end Go.Lith
namespace Go.Proofs.YtfohfflkhpfjeaaGreatDoor
open Go.Proofs.Tryz
open Go.RowKit Go.Lith
set_option maxRecDepth 100000
attribute [local irreducible] wpList wpQuiet dY Code.wp
theorem Gj {l : List UInt8} (hl : l.length ≤ 1000000000000000) : jG prog 144 [.string (lP l),.int .u8 0] (.string (lP (iM l))):=by
 intro w;refine ⟨ad5,?_⟩;have hX:=dJ.refl w
 go_enter func144,ntmps144
 refine aD (fun K1 hK1=>wp_region_lit (aA (aC) ?_));simp only[zz];refine aG (hK1 _ _ ?_);refine aD (fun K2 hK2=>wp_block ?_);refine bH [0] [5,6,7,8,9,10,11,12,13,14,15] (fun n vs wl=>∃ (k : List UInt8),vs = [.string (lP k)] ∧ (dJ w wl) ∧ (iM k = iM l) ∧ (k.length ≤ 1000000000000000) ∧ (n = k.length)) ?_ ?_
 ·
  apply Exists.intro;simp only[zQ,zR,zD,zE];exact ⟨l,rfl,hX,rfl,hl,rfl⟩
 ·
  intro n vs wr hI u;obtain ⟨k,rfl,hX,hk,hl,hn⟩:=hI;have hsz:=xF k;simp only[zu,zF,zG];refine aD (fun K3 hK3=>aD (fun K4 hK4=>?_));by_cases hk0 : 0 < k.length
  ·
   obtain ⟨b,hb⟩ : ∃ b,k[0]? = some b:=⟨k[0],List.getElem?_eq_getElem hk0⟩
   refine wp_region_lit (aA (aB) (aA (qB rfl qU rfl) (aA (xD rfl rfl (by omega)) ?_)));simp only[zz];refine aA (aB) ?_;simp only[zz];refine bN rfl (aA (aB) ?_);simp only[zz];refine bN rfl ?_;refine aA ((nY qU rfl rfl (by omega) (by rw [Ux];exact hb))) ?_;simp only[zz];refine bN rfl (aA (aB) ?_);simp only[zz];refine bN rfl (aA (pZ rfl rfl) (aA (fA rfl) ?_));simp only[zz];refine aG (hK4 _ _ ?_);refine bZ rfl (fun hc1=>?_) (fun hc1=>?_)
   ·
    refine wp_skip ?_;refine hK3 _ _ (wp_block (wp_region_lit (aA (aB) (aA (Xz qU rfl rfl (by omega) (by omega)) (aA (aC) ?_)))));simp only[zz];refine aG ?_;rw [show (1 : Int).toNat = 1 from rfl,Qk];simp only[Exit.inBlock,Exit.then];refine ⟨(k.drop 1).length,_,?_,rfl,?_,?_⟩
    · rw [List.length_drop];omega
    · simp only[zz,zv]
    ·
     simp only[zQ,zR,zD,zE];exact ⟨k.drop 1,rfl,hX,by rw [Ql hb (by omega)];exact hk,by rw [List.length_drop];omega,rfl⟩
   ·
    refine wp_exit ?_;refine hK2 _ _ (aD (fun K5 hK5=>wp_region_lit (aA (aB) (aA (aC) ?_))));simp only[zz];refine aG (hK5 _ _ ?_);refine wp_ret ?_;try simp only[Exit.inBlock,Exit.then]
    refine bO rfl rfl ?_;try simp only[zD,zE]
    exact ⟨_,rfl,hX,by rw [← hk,Qm hb (by omega)]⟩
  ·
   obtain rfl : k = []:=List.eq_nil_of_length_eq_zero (by omega);refine wp_region_lit (aA (aB) (aA (qB rfl qU rfl) (aA (uN rfl rfl (by omega)) ?_)));simp only[zz];refine aA (aB) ?_;simp only[zz];refine cD rfl ?_;simp only[zz];refine cD rfl ?_;simp only[zz];refine cD rfl ?_;simp only[zz];refine cD rfl ?_;simp only[zz];refine aA (fL rfl) ?_;simp only[zz];refine aG (hK4 _ _ ?_);refine iO rfl (wp_exit ?_);refine hK2 _ _ (aD (fun K6 hK6=>wp_region_lit (aA (aB) (aA (aC) ?_))));simp only[zz];refine aG (hK6 _ _ ?_);refine wp_ret ?_;try simp only[Exit.inBlock,Exit.then]
   refine bO rfl rfl ?_;try simp only[zD,zE]
   exact ⟨_,rfl,hX,by rw [← hk,Uy]⟩
theorem Sh {l : List UInt8} (hl : l.length ≤ 1000000000000000) : jG prog 138 [.string (lP l),.string ⟨#[0]⟩] (.string (lP (iM l))):=by
 intro w;refine ⟨ad3,?_⟩;have hX:=dJ.refl w;have hsz:=xF l
 go_enter func138,ntmps138
 refine aD (fun K1 hK1=>wp_region_lit (aA (aC) ?_));simp only[zz];refine aG (hK1 _ _ ?_);refine aD (fun K2 hK2=>aD (fun K3 hK3=>?_));by_cases hk0 : l = []
 ·
  subst hk0;refine wp_region_lit (aA (aB) (aA (Yc (Qj qU rfl rfl) (show _ = Value.bool true by simp [lP])) (aA (aB) ?_)));simp only[zz];refine fV rfl ?_;simp only[zz];refine fV rfl ?_;simp only[zz];refine aA (fA rfl) ?_;simp only[zz];refine aG (hK3 _ _ ?_);refine cG rfl (aD (fun K4 hK4=>wp_region_lit (aA (aB) (aA (aC) ?_))));simp only[zz];refine aG (hK4 _ _ ?_);refine wp_ret ?_;try simp only[Exit.inBlock,Exit.then]
  refine bO rfl rfl ?_;try simp only[zD,zE]
  exact ⟨_,rfl,hX,rfl⟩
 ·
  refine wp_region_lit (aA (aB) (aA (Yc (Qj qU rfl rfl) (show _ = Value.bool false by simp only[Mo,hk0,decide_false])) (aA (aB) ?_)));simp only[zz];refine bN rfl (aA (aB) ?_);simp only[zz];refine bN rfl (aA (Yc (Qj qU rfl rfl) (show _ = Value.bool false by simp)) (aA (fL rfl) ?_));simp only[zz];refine aG (hK3 _ _ ?_);refine iO rfl (wp_skip ?_);refine hK2 _ _ (aD (fun K5 hK5=>aD (fun K6 hK6=>wp_region_lit (aA (aB) (aA (qB rfl qU rfl) (aA (sY rfl rfl rfl) ?_))))));simp only[zz];refine aA (aB) ?_;simp only[zz];refine bN rfl (aA (aB) ?_);simp only[zz];refine bN rfl (aA ((nY (b:=0) qU rfl rfl (by omega) rfl)) ?_);simp only[zz];refine bN rfl (aA (bX rfl rfl (by decide)) (aA (fA rfl) ?_));simp only[zz];refine aG (hK6 _ _ ?_);refine cG rfl (aD (fun K7 hK7=>wp_region_lit (aA (aB) (aA (aB) ?_))));simp only[zz];refine aA ((nY (b:=0) qU rfl rfl (by omega) rfl)) ?_;simp only[zz];refine vV rfl rfl (Gj hl) ?_;intro w1 hE;replace hX:=hX.trans hE;clear hE;simp only[zz];refine aA (aC) ?_;simp only[zz];refine aG (hK7 _ _ ?_);refine wp_ret ?_;try simp only[Exit.inBlock,Exit.then]
  refine bO rfl rfl ?_;try simp only[zD,zE]
  exact ⟨_,rfl,hX,rfl⟩
end Go.Proofs.YtfohfflkhpfjeaaGreatDoor
namespace Go.Proofs.YtfohfflkhpfjeaaGreatDoor
open Go.Proofs.Tryz
open Go.RowKit Go.Lith
set_option maxRecDepth 100000
attribute [local irreducible] wpList wpQuiet dY Code.wp
theorem rS {A : Option Addr} {xs : List Nat} {na cap : Nat} (w : World) (hS : dM w A na cap xs) : eK prog 132 [.slice A na cap] w (fun v _=>v = .slice A (trim xs).length cap):=by
 skip
 refine ⟨adX,?_⟩;have hX:=dJ.refl w;obtain rfl:=hS.eq;have hl:=hS.len;have hle:=hS.le
 go_enter func132,ntmps132
 refine aD (fun K1 hK1=>wp_region_lit (aA (aC) ?_));simp only[zz];refine aG (hK1 _ _ ?_);refine aD (fun K2 hK2=>wp_block ?_);refine bH [0] [3,4,5,6,7,8,9,10,11,12,13,14,15,16,17,18,19] (fun n vs wl=>∃ (k : Nat),vs = [.slice A k cap] ∧ (dJ w wl) ∧ (k ≤ xs.length) ∧ (trim (xs.take k) = trim xs) ∧ (n = k)) ?_ ?_
 ·
  apply Exists.intro;simp only[zQ,zR,zD,zE];exact ⟨xs.length,rfl,hX,Nat.le_refl _,by rw [List.take_length],rfl⟩
 ·
  intro n vs wr hI u;obtain ⟨k,rfl,hX,hk,ht,hn⟩:=hI;simp only[zu,zF,zG];refine aD (fun K3 hK3=>aD (fun K4 hK4=>?_));by_cases hk0 : 0 < k
  ·
   obtain ⟨a,rfl,hcell,hlt⟩:=(hS.ext hX).get (show k - 1 < xs.length by omega);refine wp_region_lit (aA (aB) (aA (aW rfl bB rfl) (aA (xD rfl rfl (by omega)) ?_)));simp only[zz];refine aA (aB) ?_;simp only[zz];refine bN rfl (aA (aB) ?_);simp only[zz];refine bN rfl (aA (aB) ?_);simp only[zz];refine bN rfl (aA (aW rfl bB rfl) ?_);simp only[zz];refine bN rfl (aA (eR rfl rfl (aM (by omega) (by omega))) ?_);simp only[zz];refine bN rfl (aA (aI bB aY rfl rfl (by omega) (by omega) (gM (show _ = k - 1 by omega))) ?_);simp only[zz];refine bN rfl (aK rfl (lies1 hcell fD) ?_);simp only[zz];refine bN rfl (aA (pZ rfl rfl) (aA (fA rfl) ?_));simp only[zz];refine aG (hK4 _ _ ?_);refine bZ rfl (fun hc1=>?_) (fun hc1=>?_)
   ·
    refine wp_skip ?_;refine hK3 _ _ (wp_block (wp_region_lit (aA (aB) (aA (aB) (aA (aW rfl bB rfl) ?_)))));simp only[zz];refine aA (eR rfl rfl (aM (by omega) (by omega))) (aA (kV bB aY rfl rfl (show _ = k - 1 by omega) (by omega) (by omega)) (aA (aC) ?_));simp only[zz];refine aG ?_;simp only[Exit.inBlock,Exit.then];refine ⟨k - 1,_,?_,rfl,?_,?_⟩
    · omega
    · simp only[zz,zv]
    ·
     simp only[zQ,zR,zD,zE];exact ⟨k - 1,rfl,hX,by omega,Hs hk0 (by omega) hc1 ht,rfl⟩
   ·
    refine wp_exit ?_;refine hK2 _ _ (aD (fun K5 hK5=>wp_region_lit (aA (aB) (aA (aC) ?_))));simp only[zz];refine aG (hK5 _ _ ?_);refine wp_ret ?_;try simp only[Exit.inBlock,Exit.then]
    refine bO rfl rfl ?_;try simp only[zD,zE]
    exact ⟨_,rfl,hX,by rw [← Mf hk0 (by omega) hc1 ht]⟩
  ·
   obtain rfl : k = 0:=by omega
   refine wp_region_lit (aA (aB) (aA (aW rfl bB rfl) (aA (uN rfl rfl (by omega)) ?_)));simp only[zz];refine aA (aB) ?_;simp only[zz];refine cD rfl ?_;simp only[zz];refine cD rfl ?_;simp only[zz];refine cD rfl ?_;simp only[zz];refine cD rfl ?_;simp only[zz];refine cD rfl ?_;simp only[zz];refine cD rfl ?_;simp only[zz];refine cD rfl ?_;simp only[zz];refine aA (fL rfl) ?_;simp only[zz];refine aG (hK4 _ _ ?_);refine iO rfl (wp_exit ?_);refine hK2 _ _ (aD (fun K6 hK6=>wp_region_lit (aA (aB) (aA (aC) ?_))));simp only[zz];refine aG (hK6 _ _ ?_);refine wp_ret ?_;try simp only[Exit.inBlock,Exit.then]
   refine bO rfl rfl ?_;try simp only[zD,zE]
   exact ⟨_,rfl,hX,by rw [← Mg ht]⟩
theorem Tq {A B : Option Addr} {xs ys : List Nat} {na nb ca cb : Nat} (w : World) (hS : dM w A na ca xs) (hR : dM w B nb cb ys) (tx : fW xs) (ty : fW ys) : eK prog 118 [.slice A na ca,.slice B nb cb] w (fun v _=>v = .int .i64 (Kb (val 4294967296 xs) (val 4294967296 ys))):=by
 skip
 refine ⟨adO,?_⟩;have hX:=dJ.refl w;obtain rfl:=hS.eq;obtain rfl:=hR.eq;have hl:=hS.len;have hl2:=hR.len
 go_enter func118,ntmps118
 refine aD (fun K1 hK1=>wp_region_lit (aA (aC) ?_));simp only[zz];refine aG (hK1 _ _ ?_);refine aD (fun K2 hK2=>wp_block (aD (fun K3 hK3=>wp_region_lit (aA (aB) (aA (aW rfl bB rfl) (aA (aB) ?_))))));simp only[zz];refine aA (aW rfl bB rfl) (aA (cE rfl rfl) (aA (aC) ?_));simp only[zz];refine aG (hK3 _ _ ?_);refine bZ rfl (fun hc1=>?_) (fun hc1=>?_)
 ·
  refine aD (fun K4 hK4=>wp_region_lit (aA (aC) ?_));simp only[zz];refine aG (hK4 _ _ ?_);refine wp_ret ?_;try simp only[Exit.inBlock,Exit.then]
  refine bO rfl rfl ?_;try simp only[zD,zE]
  exact ⟨_,rfl,hX,by rw [Kb,if_pos (jZ (by omega) hS.digs hR.digs ty (by omega))]⟩
 ·
  refine aD (fun K5 hK5=>wp_region_lit (aA (aB) (aA (aW rfl bB rfl) (aA (aB) ?_))));simp only[zz];refine aA (aW rfl bB rfl) (aA (oU rfl rfl) (aA (aC) ?_));simp only[zz];refine aG (hK5 _ _ ?_);refine bZ rfl (fun hc2=>?_) (fun hc2=>?_)
  ·
   refine aD (fun K6 hK6=>wp_region_lit (aA (aC) ?_));simp only[zz];refine aG (hK6 _ _ ?_);refine wp_ret ?_;try simp only[Exit.inBlock,Exit.then]
   refine bO rfl rfl ?_;try simp only[zD,zE]
   exact ⟨_,rfl,hX,by have:=jZ (B:=4294967296) (by omega) hR.digs hS.digs tx (by omega);rw [Kb,if_neg (by omega),if_pos this]⟩
  ·
   refine wp_skip ?_;refine hK2 _ _ (aD (fun K7 hK7=>aD (fun K8 hK8=>wp_region_lit (aA (aB) (aA (aW rfl bB rfl) (aA (eR rfl rfl (aM (by omega) (by omega))) ?_))))));simp only[zz];refine aA (aC) ?_;simp only[zz];refine aG (hK8 _ _ ?_);refine wp_block (bH [5] [4,21,22,23,24,25,26,27,28,29,30,31,32,33,34,35,36,37,38,39,40,41,42,43,44] (fun n vs wl=>∃ (k : Nat),vs = [.int .i64 ((k:Int) - 1)] ∧ (dJ w wl) ∧ (k ≤ xs.length) ∧ (xs.drop k = ys.drop k) ∧ (n = k)) ?_ ?_)
   ·
    apply Exists.intro;simp only[zQ,zR,zD,zE];exact ⟨xs.length,rfl,hX,Nat.le_refl _,by rw [List.drop_length,show xs.length = ys.length by omega,List.drop_length],rfl⟩
   ·
    intro n vs wr hI u;obtain ⟨k,rfl,hX,hk,hd,hn⟩:=hI;simp only[zu,zF,zG];refine aD (fun K9 hK9=>aD (fun K10 hK10=>wp_region_lit (aA (aB) (aA (pM rfl rfl) ?_))));simp only[zz];refine aG (hK10 _ _ ?_);refine bZ rfl (fun hc3=>?_) (fun hc3=>?_)
    ·
     refine wp_skip ?_;refine hK9 _ _ (aD (fun K11 hK11=>wp_block (wp_block (aD (fun K12 hK12=>?_)))));obtain ⟨a,rfl,hca,_⟩:=(hS.ext hX).get (show k - 1 < xs.length by omega);obtain ⟨b,rfl,hcb,_⟩:=(hR.ext hX).get (show k - 1 < ys.length by omega);refine iV aO (by kernel_rfl) (aL (aB) (aL (aB) (aL (aI bB aY rfl rfl (by omega) (by omega) (gM (show _ = k - 1 by omega))) ?_)));simp only[zz];refine iZ rfl (fun _ hE'=>(lies1 (hE'.cell hca) fD)) ?_;simp only[zz];refine aL (aB) (aL (aB) (aL (aI bB aY rfl rfl (by omega) (by omega) (gM (show _ = k - 1 by omega))) ?_));simp only[zz];refine iZ rfl (fun _ hE'=>(lies1 (hE'.cell hcb) fD)) ?_;simp only[zz];refine aL (cE rfl rfl) (aL (aC) ?_);simp only[zz];refine dK ?_;intro w1 hE;replace hX:=hX.trans hE;clear hE;refine hK12 _ _ (bZ rfl (fun hc4=>?_) (fun hc4=>?_))
     ·
      refine aD (fun K13 hK13=>wp_region_lit (aA (aC) ?_));simp only[zz];refine aG (hK13 _ _ ?_);refine wp_ret ?_;try simp only[Exit.inBlock,Exit.then]
      refine bO rfl rfl ?_;try simp only[zD,zE]
      exact ⟨_,rfl,hX,by rw [Kb,if_pos (Ye hS.digs (by omega) (by omega) (by omega) hd hc4)]⟩
     ·
      refine aD (fun K14 hK14=>?_);have hca:=(hS.ext hX).at (show k - 1 < xs.length by omega);have hcb:=(hR.ext hX).at (show k - 1 < ys.length by omega);refine iV aO (by kernel_rfl) (aL (aB) (aL (aB) (aL (aI bB aY rfl rfl (by omega) (by omega) (gM (show _ = k - 1 by omega))) ?_)));simp only[zz];refine iZ rfl (fun _ hE'=>(lies1 (hE'.cell hca) fD)) ?_;simp only[zz];refine aL (aB) (aL (aB) (aL (aI bB aY rfl rfl (by omega) (by omega) (gM (show _ = k - 1 by omega))) ?_));simp only[zz];refine iZ rfl (fun _ hE'=>(lies1 (hE'.cell hcb) fD)) ?_;simp only[zz];refine aL (oU rfl rfl) (aL (aC) ?_);simp only[zz];refine dK ?_;intro w2 hE;replace hX:=hX.trans hE;clear hE;refine hK14 _ _ (bZ rfl (fun hc5=>?_) (fun hc5=>?_))
      ·
       refine aD (fun K15 hK15=>wp_region_lit (aA (aC) ?_));simp only[zz];refine aG (hK15 _ _ ?_);refine wp_ret ?_;try simp only[Exit.inBlock,Exit.then]
       refine bO rfl rfl ?_;try simp only[zD,zE]
       exact ⟨_,rfl,hX,by have:=Ye hR.digs (by omega) (by omega) (by omega) hd.symm hc5;rw [Kb,if_neg (by omega),if_pos this]⟩
      ·
       refine wp_skip ?_;refine hK11 _ _ (wp_region_lit (aA (aB) (aA (eR rfl rfl (aM (by omega) (by omega))) (aA (aC) ?_))));simp only[zz];refine aG ?_;rw [show ((k:Int) - 1 - 1) = ((k - 1 : Nat) : Int) - 1 by omega];simp only[Exit.inBlock,Exit.then];refine ⟨k - 1,_,?_,rfl,?_,?_⟩
       · omega
       · simp only[zz,zv]
       ·
        simp only[zQ,zR,zD,zE];exact ⟨k - 1,rfl,hX,by omega,Uo (by omega) (by omega) (by omega) hd hc4 hc5,rfl⟩
    ·
     refine wp_exit ?_;refine hK7 _ _ (aD (fun K16 hK16=>wp_region_lit (aA (aC) ?_)));simp only[zz];refine aG (hK16 _ _ ?_);refine wp_ret ?_;try simp only[Exit.inBlock,Exit.then]
     refine bO rfl rfl ?_;try simp only[zD,zE]
     exact ⟨_,rfl,hX,by have h0 : k = 0:=(by omega);subst h0;simp only[List.drop_zero] at hd;rw [hd,Kb,if_neg (by omega),if_neg (by omega)]⟩
theorem adb {A B : Option Addr} {xs ys : List Nat} {na nb ca cb : Nat} (w : World) (hS : dM w A na ca xs) (hR : dM w B nb cb ys) (hlx : xs.length ≤ 1099511627776) (hly : ys.length ≤ 1099511627776) : eK prog 116 [.slice A na ca,.slice B nb cb] w (gR (val 4294967296 xs + val 4294967296 ys)):=by
 skip
 refine ⟨adM,?_⟩;have hX:=dJ.refl w;obtain rfl:=hS.eq;obtain rfl:=hR.eq
 go_enter func116,ntmps116
 refine aD (fun K1 hK1=>wp_region_lit (aA (aC) ?_));simp only[zz];refine aG (hK1 _ _ ?_);refine aD (fun K2 hK2=>aD (fun K3 hK3=>wp_region_lit (aA (aB) (aA (aW rfl bB rfl) (aA (aB) ?_)))));simp only[zz];refine aA (aW rfl bB rfl) (aA (cE rfl rfl) ?_);simp only[zz];refine aG (hK3 _ _ ?_);refine bZ rfl (fun hc1=>?_) (fun hc1=>?_)
 ·
  obtain ⟨qb,rfl⟩ : ∃ q,q = xs:=⟨_,rfl⟩
  obtain ⟨qa,rfl⟩ : ∃ q,q = ys:=⟨_,rfl⟩
  obtain ⟨Qb,rfl⟩ : ∃ q,q = A:=⟨_,rfl⟩
  obtain ⟨Qa,rfl⟩ : ∃ q,q = B:=⟨_,rfl⟩
  have hSa:=hR;have hSb:=hS;refine wp_region_lit (aA (aB) (aA (aB) (aA (aC) ?_)));simp only[zz];refine aA (aC) ?_;simp only[zz];refine aG (hK2 _ _ ?_);refine aD (fun K4 hK4=>wp_region_lit (aA (aB) (aA (aW rfl bB rfl) (aA (aP rfl rfl (aM (by omega) (by omega))) ?_))));simp only[zz];refine jO bB mJ rfl rfl rfl (show _ = qa.length + 1 by omega) (show _ = qa.length + 1 by omega) (by omega) (by omega) (by omega) (by omega) ?_;intro w1 g1 hE hg1 hB1;have hG1:=Nat.le_trans hX.size hg1;replace hX:=hX.trans hE;clear hE hg1;simp only[zz];refine aA (aC) ?_;simp only[zz];refine aG ?_;rw [gD] at hB1;refine hK4 _ _ (aD (fun K5 hK5=>wp_region_lit (aA (aC) ?_)));simp only[zz];refine aG (hK5 _ _ ?_);refine aD (fun K6 hK6=>aD (fun K7 hK7=>wp_region_lit (aA (aB) (aA (aW rfl bB rfl) (aA (aB) ?_)))));simp only[zz];refine aG (hK7 _ _ ?_);refine wp_block (bH [6,22] [7,8,23,24,25,26,27,28,29,30,31,32,33,34,35,36,37,38,39,40,41,42,43,44,45,46,47,48] (fun n vs wl=>∃ (i c : Nat) (os : List Nat),vs = [.int .u64 (c:Int),.int .i64 (i:Int)] ∧ (dJ w wl) ∧ (gJ wl g1 (os.map kR) 126) ∧ (i ≤ qa.length) ∧ (os.length = qa.length + 1) ∧ (val 4294967296 os + 4294967296 ^ i * c = val 4294967296 (qa.take i) + val 4294967296 (qb.take i)) ∧ (os.drop i = List.replicate (qa.length + 1 - i) 0) ∧ (cY 4294967296 os) ∧ (c ≤ 1) ∧ (n = qa.length - i)) ?_ ?_)
  ·
   apply Exists.intro;simp only[zQ,zR,zD,zE];exact ⟨0,0,List.replicate (qa.length + 1) 0,rfl,hX,hB1,by omega,by simp,by simp [eX,val],by simp,fun x hx=>by rw [List.eq_of_mem_replicate hx];decide,by omega,rfl⟩
  ·
   intro n vs wr hI u;obtain ⟨i,c,os,rfl,hX,hB1,hi,hlo,hv,hz,hd,hc,hn⟩:=hI;simp only[zu,zF,zG];refine aD (fun K8 hK8=>wp_region_lit (aA (cE rfl rfl) ?_));simp only[zz];refine aG (hK8 _ _ ?_);refine aD (fun K9 hK9=>?_);refine bZ rfl (fun hc2=>?_) (fun hc2=>?_)
   ·
    refine wp_skip ?_;refine hK9 _ _ (aD (fun K10 hK10=>wp_block (aD (fun K11 hK11=>wp_region_lit (aA (aB) (aA (aC) ?_))))));simp only[zz];refine aG (hK11 _ _ ?_);refine aD (fun K12 hK12=>?_);obtain ⟨a,rfl,hca,hla⟩:=(hSa.ext hX).get (show i < qa.length by omega);refine wp_region_lit (aA (aB) (aA (aB) (aA (aI bB aY rfl rfl (by omega) (by omega) (gM (Int.toNat_natCast _))) ?_)));simp only[zz];refine aK rfl (lies1 hca fD) ?_;simp only[zz];refine aA (aB) (aA (aP rfl rfl (eZ (by omega) (by omega))) (aA (aC) ?_));simp only[zz];refine aG (hK12 _ _ ?_);refine aD (fun K13 hK13=>aD (fun K14 hK14=>wp_region_lit (aA (aB) (aA (aB) (aA (aW rfl bB rfl) ?_)))));simp only[zz];refine aA (cE rfl rfl) ?_;simp only[zz];refine aG (hK14 _ _ ?_);refine bZ rfl (fun hc3=>?_) (fun hc3=>?_)
    ·
     obtain ⟨b,rfl,hcb,hlb⟩:=(hSb.ext hX).get (show i < qb.length by omega);refine wp_region_lit (aA (aB) (aA (aB) (aA (aB) ?_)));simp only[zz];refine aA (aI bB aY rfl rfl (by omega) (by omega) (gM (Int.toNat_natCast _))) ?_;simp only[zz];refine aK rfl (lies1 hcb fD) ?_;simp only[zz];refine aA (aP rfl rfl (eZ (by omega) (by omega))) (aA (aC) ?_);simp only[zz];refine aG ?_;obtain ⟨s,hs⟩ : ∃ s : Nat,(s : Int) = ↑qa[i] + ↑c + ↑qb[i]:=⟨qa[i] + c + qb[i],by omega⟩
     rw [← hs];have hs2 : s = qa[i] + c + qb[i]?.getD 0:=by rw [List.getElem?_eq_getElem (by omega)];simp;omega
     have hyb : qb[i]?.getD 0 < 4294967296:=by rw [List.getElem?_eq_getElem (by omega)];exact hlb
     refine hK13 _ _ ?_;refine wp_region_lit (aA (aB) (aA (aB) (aA (aB) ?_)));simp only[zz];refine aA (rV rfl rfl (oW (by omega) (by omega))) (aA (aB) (aA (qW rfl rfl (by omega) (Ht (by omega))) ?_));simp only[zz];refine aA (aI bB aY rfl rfl (by omega) (by omega) (fE (Int.toNat_natCast _))) ?_;simp only[zz];refine cZ rfl (by simp only[zz];rfl) (by exact aY) hB1 (by simp;omega) (by simp [Value.oneCell']) ?_;clear hB1;intro w2 hC hB1;replace hX:=hX.chg hC hG1;clear hC;rw [show ((s:Int) % 4294967296) = ((s % 4294967296 : Nat) : Int) by omega,fZ (by omega)] at hB1;refine aA (aC) ?_;simp only[zz];refine aG (hK10 _ _ ?_);refine wp_region_lit (aA (aP rfl rfl (aM (by omega) (by omega))) (aA (aB) ?_));simp only[zz];refine aG ?_;obtain ⟨r1,r2,r3,r4⟩:=vX (by omega) hlo hv hz hd hc hs2 hla hyb;rw [show ((i:Int) + 1) = ((i + 1 : Nat) : Int) by omega,show ((s:Int) / 4294967296) = ((s / 4294967296 : Nat) : Int) by omega];simp only[Exit.inBlock,Exit.then];refine ⟨qa.length - (i + 1),_,?_,rfl,?_,?_⟩
     · omega
     · simp only[zz,zv]
     ·
      simp only[zQ,zR,zD,zE];exact ⟨i + 1,s / 4294967296,os.set i (s % 4294967296),rfl,hX,hB1,by omega,by simpa using hlo,r1,r2,r3,r4,rfl⟩
    ·
     obtain ⟨s,hs⟩ : ∃ s : Nat,(s : Int) = ↑qa[i] + ↑c:=⟨qa[i] + c,by omega⟩
     rw [← hs];have hs2 : s = qa[i] + c + qb[i]?.getD 0:=by rw [List.getElem?_eq_none (by omega)];simp;omega
     have hyb : qb[i]?.getD 0 < 4294967296:=by rw [List.getElem?_eq_none (by omega)];decide
     refine wp_skip ?_;refine hK13 _ _ (wp_region_lit (aA (aB) (aA (aB) (aA (aB) ?_))));simp only[zz];refine aA (rV rfl rfl (oW (by omega) (by omega))) (aA (aB) (aA (qW rfl rfl (by omega) (Ht (by omega))) ?_));simp only[zz];refine aA (aI bB aY rfl rfl (by omega) (by omega) (fE (Int.toNat_natCast _))) ?_;simp only[zz];refine cZ rfl (by simp only[zz];rfl) (by exact aY) hB1 (by simp;omega) (by simp [Value.oneCell']) ?_;clear hB1;intro w2 hC hB1;replace hX:=hX.chg hC hG1;clear hC;rw [show ((s:Int) % 4294967296) = ((s % 4294967296 : Nat) : Int) by omega,fZ (by omega)] at hB1;refine aA (aC) ?_;simp only[zz];refine aG (hK10 _ _ ?_);refine wp_region_lit (aA (aP rfl rfl (aM (by omega) (by omega))) (aA (aB) ?_));simp only[zz];refine aG ?_;obtain ⟨r1,r2,r3,r4⟩:=vX (by omega) hlo hv hz hd hc hs2 hla hyb;rw [show ((i:Int) + 1) = ((i + 1 : Nat) : Int) by omega,show ((s:Int) / 4294967296) = ((s / 4294967296 : Nat) : Int) by omega];simp only[Exit.inBlock,Exit.then];refine ⟨qa.length - (i + 1),_,?_,rfl,?_,?_⟩
     · omega
     · simp only[zz,zv]
     ·
      simp only[zQ,zR,zD,zE];exact ⟨i + 1,s / 4294967296,os.set i (s % 4294967296),rfl,hX,hB1,by omega,by simpa using hlo,r1,r2,r3,r4,rfl⟩
   ·
    refine wp_exit ?_;refine hK6 _ _ (aD (fun K15 hK15=>?_));obtain rfl : i = qa.length:=by omega
    refine wp_region_lit (aA (aB) (aA (aB) (aA (aW rfl bB rfl) ?_)));simp only[zz];refine aA (aB) (aA (aI bB aY rfl rfl (by omega) (by omega) (fE (Int.toNat_natCast _))) ?_);simp only[zz];refine cZ rfl (by simp only[zz];rfl) (by exact aY) hB1 (by simp;omega) (by simp [Value.oneCell']) ?_;clear hB1;intro w2 hC hB1;replace hX:=hX.chg hC hG1;clear hC;rw [fZ (by omega)] at hB1;refine aG (hK15 _ _ ?_);refine aD (fun K16 hK16=>wp_region_lit (aA (aB) ?_));simp only[zz];refine bA rfl rfl (rS _ (hB1.nat (hd.set (show c < 4294967296 by omega)) (by simp;omega) (by omega))) ?_;rintro v w3 hE rfl;replace hB1:=hB1.ext hE;replace hX:=hX.trans hE;clear hE;simp only[zz];refine aA (aC) ?_;simp only[zz];refine aG (hK16 _ _ ?_);refine wp_ret ?_;try simp only[Exit.inBlock,Exit.then]
    refine bO rfl rfl ?_;try simp only[zD,zE]
    exact ⟨_,rfl,hX,by first | exact gR.of_trim (hB1.nat (hd.set (show c < 4294967296 by omega)) (by simp;omega) (by omega)) (Cu (by omega) hlo hv hz) | (rw [Nat.add_comm];exact gR.of_trim (hB1.nat (hd.set (show c < 4294967296 by omega)) (by simp;omega) (by omega)) (Cu (by omega) hlo hv hz))⟩
 ·
  obtain ⟨qa,rfl⟩ : ∃ q,q = xs:=⟨_,rfl⟩
  obtain ⟨qb,rfl⟩ : ∃ q,q = ys:=⟨_,rfl⟩
  obtain ⟨Qa,rfl⟩ : ∃ q,q = A:=⟨_,rfl⟩
  obtain ⟨Qb,rfl⟩ : ∃ q,q = B:=⟨_,rfl⟩
  have hSa:=hS;have hSb:=hR;refine wp_skip (hK2 _ _ ?_);refine aD (fun K17 hK17=>wp_region_lit (aA (aB) (aA (aW rfl bB rfl) (aA (aP rfl rfl (aM (by omega) (by omega))) ?_))));simp only[zz];refine jO bB mJ rfl rfl rfl (show _ = qa.length + 1 by omega) (show _ = qa.length + 1 by omega) (by omega) (by omega) (by omega) (by omega) ?_;intro w1 g1 hE hg1 hB1;have hG1:=Nat.le_trans hX.size hg1;replace hX:=hX.trans hE;clear hE hg1;simp only[zz];refine aA (aC) ?_;simp only[zz];refine aG ?_;rw [gD] at hB1;refine hK17 _ _ (aD (fun K18 hK18=>wp_region_lit (aA (aC) ?_)));simp only[zz];refine aG (hK18 _ _ ?_);refine aD (fun K19 hK19=>aD (fun K20 hK20=>wp_region_lit (aA (aB) (aA (aW rfl bB rfl) (aA (aB) ?_)))));simp only[zz];refine aG (hK20 _ _ ?_);refine wp_block (bH [6,22] [7,8,23,24,25,26,27,28,29,30,31,32,33,34,35,36,37,38,39,40,41,42,43,44,45,46,47,48] (fun n vs wl=>∃ (i c : Nat) (os : List Nat),vs = [.int .u64 (c:Int),.int .i64 (i:Int)] ∧ (dJ w wl) ∧ (gJ wl g1 (os.map kR) 126) ∧ (i ≤ qa.length) ∧ (os.length = qa.length + 1) ∧ (val 4294967296 os + 4294967296 ^ i * c = val 4294967296 (qa.take i) + val 4294967296 (qb.take i)) ∧ (os.drop i = List.replicate (qa.length + 1 - i) 0) ∧ (cY 4294967296 os) ∧ (c ≤ 1) ∧ (n = qa.length - i)) ?_ ?_)
  ·
   apply Exists.intro;simp only[zQ,zR,zD,zE];exact ⟨0,0,List.replicate (qa.length + 1) 0,rfl,hX,hB1,by omega,by simp,by simp [eX,val],by simp,fun x hx=>by rw [List.eq_of_mem_replicate hx];decide,by omega,rfl⟩
  ·
   intro n vs wr hI u;obtain ⟨i,c,os,rfl,hX,hB1,hi,hlo,hv,hz,hd,hc,hn⟩:=hI;simp only[zu,zF,zG];refine aD (fun K21 hK21=>wp_region_lit (aA (cE rfl rfl) ?_));simp only[zz];refine aG (hK21 _ _ ?_);refine aD (fun K22 hK22=>?_);refine bZ rfl (fun hc2=>?_) (fun hc2=>?_)
   ·
    refine wp_skip ?_;refine hK22 _ _ (aD (fun K23 hK23=>wp_block (aD (fun K24 hK24=>wp_region_lit (aA (aB) (aA (aC) ?_))))));simp only[zz];refine aG (hK24 _ _ ?_);refine aD (fun K25 hK25=>?_);obtain ⟨a,rfl,hca,hla⟩:=(hSa.ext hX).get (show i < qa.length by omega);refine wp_region_lit (aA (aB) (aA (aB) (aA (aI bB aY rfl rfl (by omega) (by omega) (gM (Int.toNat_natCast _))) ?_)));simp only[zz];refine aK rfl (lies1 hca fD) ?_;simp only[zz];refine aA (aB) (aA (aP rfl rfl (eZ (by omega) (by omega))) (aA (aC) ?_));simp only[zz];refine aG (hK25 _ _ ?_);refine aD (fun K26 hK26=>aD (fun K27 hK27=>wp_region_lit (aA (aB) (aA (aB) (aA (aW rfl bB rfl) ?_)))));simp only[zz];refine aA (cE rfl rfl) ?_;simp only[zz];refine aG (hK27 _ _ ?_);refine bZ rfl (fun hc3=>?_) (fun hc3=>?_)
    ·
     obtain ⟨b,rfl,hcb,hlb⟩:=(hSb.ext hX).get (show i < qb.length by omega);refine wp_region_lit (aA (aB) (aA (aB) (aA (aB) ?_)));simp only[zz];refine aA (aI bB aY rfl rfl (by omega) (by omega) (gM (Int.toNat_natCast _))) ?_;simp only[zz];refine aK rfl (lies1 hcb fD) ?_;simp only[zz];refine aA (aP rfl rfl (eZ (by omega) (by omega))) (aA (aC) ?_);simp only[zz];refine aG ?_;obtain ⟨s,hs⟩ : ∃ s : Nat,(s : Int) = ↑qa[i] + ↑c + ↑qb[i]:=⟨qa[i] + c + qb[i],by omega⟩
     rw [← hs];have hs2 : s = qa[i] + c + qb[i]?.getD 0:=by rw [List.getElem?_eq_getElem (by omega)];simp;omega
     have hyb : qb[i]?.getD 0 < 4294967296:=by rw [List.getElem?_eq_getElem (by omega)];exact hlb
     refine hK26 _ _ ?_;refine wp_region_lit (aA (aB) (aA (aB) (aA (aB) ?_)));simp only[zz];refine aA (rV rfl rfl (oW (by omega) (by omega))) (aA (aB) (aA (qW rfl rfl (by omega) (Ht (by omega))) ?_));simp only[zz];refine aA (aI bB aY rfl rfl (by omega) (by omega) (fE (Int.toNat_natCast _))) ?_;simp only[zz];refine cZ rfl (by simp only[zz];rfl) (by exact aY) hB1 (by simp;omega) (by simp [Value.oneCell']) ?_;clear hB1;intro w2 hC hB1;replace hX:=hX.chg hC hG1;clear hC;rw [show ((s:Int) % 4294967296) = ((s % 4294967296 : Nat) : Int) by omega,fZ (by omega)] at hB1;refine aA (aC) ?_;simp only[zz];refine aG (hK23 _ _ ?_);refine wp_region_lit (aA (aP rfl rfl (aM (by omega) (by omega))) (aA (aB) ?_));simp only[zz];refine aG ?_;obtain ⟨r1,r2,r3,r4⟩:=vX (by omega) hlo hv hz hd hc hs2 hla hyb;rw [show ((i:Int) + 1) = ((i + 1 : Nat) : Int) by omega,show ((s:Int) / 4294967296) = ((s / 4294967296 : Nat) : Int) by omega];simp only[Exit.inBlock,Exit.then];refine ⟨qa.length - (i + 1),_,?_,rfl,?_,?_⟩
     · omega
     · simp only[zz,zv]
     ·
      simp only[zQ,zR,zD,zE];exact ⟨i + 1,s / 4294967296,os.set i (s % 4294967296),rfl,hX,hB1,by omega,by simpa using hlo,r1,r2,r3,r4,rfl⟩
    ·
     obtain ⟨s,hs⟩ : ∃ s : Nat,(s : Int) = ↑qa[i] + ↑c:=⟨qa[i] + c,by omega⟩
     rw [← hs];have hs2 : s = qa[i] + c + qb[i]?.getD 0:=by rw [List.getElem?_eq_none (by omega)];simp;omega
     have hyb : qb[i]?.getD 0 < 4294967296:=by rw [List.getElem?_eq_none (by omega)];decide
     refine wp_skip ?_;refine hK26 _ _ (wp_region_lit (aA (aB) (aA (aB) (aA (aB) ?_))));simp only[zz];refine aA (rV rfl rfl (oW (by omega) (by omega))) (aA (aB) (aA (qW rfl rfl (by omega) (Ht (by omega))) ?_));simp only[zz];refine aA (aI bB aY rfl rfl (by omega) (by omega) (fE (Int.toNat_natCast _))) ?_;simp only[zz];refine cZ rfl (by simp only[zz];rfl) (by exact aY) hB1 (by simp;omega) (by simp [Value.oneCell']) ?_;clear hB1;intro w2 hC hB1;replace hX:=hX.chg hC hG1;clear hC;rw [show ((s:Int) % 4294967296) = ((s % 4294967296 : Nat) : Int) by omega,fZ (by omega)] at hB1;refine aA (aC) ?_;simp only[zz];refine aG (hK23 _ _ ?_);refine wp_region_lit (aA (aP rfl rfl (aM (by omega) (by omega))) (aA (aB) ?_));simp only[zz];refine aG ?_;obtain ⟨r1,r2,r3,r4⟩:=vX (by omega) hlo hv hz hd hc hs2 hla hyb;rw [show ((i:Int) + 1) = ((i + 1 : Nat) : Int) by omega,show ((s:Int) / 4294967296) = ((s / 4294967296 : Nat) : Int) by omega];simp only[Exit.inBlock,Exit.then];refine ⟨qa.length - (i + 1),_,?_,rfl,?_,?_⟩
     · omega
     · simp only[zz,zv]
     ·
      simp only[zQ,zR,zD,zE];exact ⟨i + 1,s / 4294967296,os.set i (s % 4294967296),rfl,hX,hB1,by omega,by simpa using hlo,r1,r2,r3,r4,rfl⟩
   ·
    refine wp_exit ?_;refine hK19 _ _ (aD (fun K28 hK28=>?_));obtain rfl : i = qa.length:=by omega
    refine wp_region_lit (aA (aB) (aA (aB) (aA (aW rfl bB rfl) ?_)));simp only[zz];refine aA (aB) (aA (aI bB aY rfl rfl (by omega) (by omega) (fE (Int.toNat_natCast _))) ?_);simp only[zz];refine cZ rfl (by simp only[zz];rfl) (by exact aY) hB1 (by simp;omega) (by simp [Value.oneCell']) ?_;clear hB1;intro w2 hC hB1;replace hX:=hX.chg hC hG1;clear hC;rw [fZ (by omega)] at hB1;refine aG (hK28 _ _ ?_);refine aD (fun K29 hK29=>wp_region_lit (aA (aB) ?_));simp only[zz];refine bA rfl rfl (rS _ (hB1.nat (hd.set (show c < 4294967296 by omega)) (by simp;omega) (by omega))) ?_;rintro v w3 hE rfl;replace hB1:=hB1.ext hE;replace hX:=hX.trans hE;clear hE;simp only[zz];refine aA (aC) ?_;simp only[zz];refine aG (hK29 _ _ ?_);refine wp_ret ?_;try simp only[Exit.inBlock,Exit.then]
    refine bO rfl rfl ?_;try simp only[zD,zE]
    exact ⟨_,rfl,hX,by first | exact gR.of_trim (hB1.nat (hd.set (show c < 4294967296 by omega)) (by simp;omega) (by omega)) (Cu (by omega) hlo hv hz) | (rw [Nat.add_comm];exact gR.of_trim (hB1.nat (hd.set (show c < 4294967296 by omega)) (by simp;omega) (by omega)) (Cu (by omega) hlo hv hz))⟩
theorem aba {A B : Option Addr} {xs ys : List Nat} {na nb ca cb : Nat} (w : World) (hS : dM w A na ca xs) (hR : dM w B nb cb ys) (hle : ys.length ≤ xs.length) (hge : val 4294967296 ys ≤ val 4294967296 xs) (hlx : xs.length ≤ 1099511627776) : eK prog 121 [.slice A na ca,.slice B nb cb] w (fun v w'=>gR (val 4294967296 xs - val 4294967296 ys) v w' ∧ rX w v):=by
 skip
 refine ⟨adR,?_⟩;have hX:=dJ.refl w;obtain rfl:=hS.eq;obtain rfl:=hR.eq
 go_enter func121,ntmps121
 refine aD (fun K1 hK1=>wp_region_lit (aA (aC) ?_));simp only[zz];refine aG (hK1 _ _ ?_);refine aD (fun K2 hK2=>wp_region_lit (aA (aB) (aA (aW rfl bB rfl) ?_)));simp only[zz];refine jO bB mJ rfl rfl rfl (Int.toNat_natCast _) (Int.toNat_natCast _) (by omega) (by omega) (by omega) (by omega) ?_;intro w1 g1 hE hg1 hB1;have hG1:=Nat.le_trans hX.size hg1;replace hX:=hX.trans hE;clear hE hg1;simp only[zz];refine aA (aC) ?_;simp only[zz];refine aG ?_;rw [gD] at hB1;refine hK2 _ _ (aD (fun K3 hK3=>wp_region_lit (aA (aC) ?_)));simp only[zz];refine aG (hK3 _ _ ?_);refine aD (fun K4 hK4=>aD (fun K5 hK5=>wp_region_lit (aA (aB) (aA (aW rfl bB rfl) (aA (aB) ?_)))));simp only[zz];refine aG (hK5 _ _ ?_);refine wp_block (bH [6,14] [7,8,15,16,17,18,19,20,21,22,23,24,25,26,27,28,29,30,31,32,33,34,35,36,37,38,39,40] (fun n vs wl=>∃ (i c : Nat) (os : List Nat),vs = [.int .u64 (c:Int),.int .i64 (i:Int)] ∧ (dJ w wl) ∧ (gJ wl g1 (os.map kR) 126) ∧ (i ≤ xs.length) ∧ (os.length = xs.length) ∧ (val 4294967296 os + val 4294967296 (ys.take i) = val 4294967296 (xs.take i) + 4294967296 ^ i * c) ∧ (os.drop i = List.replicate (xs.length - i) 0) ∧ (cY 4294967296 os) ∧ (c ≤ 1) ∧ (n = xs.length - i)) ?_ ?_)
 ·
  apply Exists.intro;simp only[zQ,zR,zD,zE];exact ⟨0,0,List.replicate xs.length 0,rfl,hX,hB1,by omega,by simp,by simp [eX,val],by simp,fun x hx=>by rw [List.eq_of_mem_replicate hx];decide,by omega,rfl⟩
 ·
  intro n vs wr hI u;obtain ⟨i,c,os,rfl,hX,hB1,hi,hlo,hv,hz,hd,hc,hn⟩:=hI;simp only[zu,zF,zG];refine aD (fun K6 hK6=>wp_region_lit (aA (cE rfl rfl) ?_));simp only[zz];refine aG (hK6 _ _ ?_);refine aD (fun K7 hK7=>?_);refine bZ rfl (fun hc1=>?_) (fun hc1=>?_)
  ·
   refine wp_skip ?_;refine hK7 _ _ (aD (fun K8 hK8=>wp_block (aD (fun K9 hK9=>wp_region_lit (aA (aB) (aA (aC) ?_))))));simp only[zz];refine aG (hK9 _ _ ?_);refine aD (fun K10 hK10=>?_);obtain ⟨a,rfl,hca,hla⟩:=(hS.ext hX).get (show i < xs.length by omega);refine wp_region_lit (aA (aB) (aA (aB) (aA (aI bB aY rfl rfl (by omega) (by omega) (gM (Int.toNat_natCast _))) ?_)));simp only[zz];refine aK rfl (lies1 hca fD) ?_;simp only[zz];refine aA (aB) (aA (eR rfl rfl (iA _)) (aA (aC) ?_));simp only[zz];refine aG (hK10 _ _ ?_);refine aD (fun K11 hK11=>aD (fun K12 hK12=>wp_region_lit (aA (aB) (aA (aB) (aA (aW rfl bB rfl) ?_)))));simp only[zz];refine aA (cE rfl rfl) ?_;simp only[zz];refine aG (hK12 _ _ ?_);refine bZ rfl (fun hc2=>?_) (fun hc2=>?_)
   ·
    obtain ⟨b,rfl,hcb,hlb⟩:=(hR.ext hX).get (show i < ys.length by omega);refine wp_region_lit (aA (aB) (aA (aB) (aA (aB) ?_)));simp only[zz];refine aA (aI bB aY rfl rfl (by omega) (by omega) (gM (Int.toNat_natCast _))) ?_;simp only[zz];refine aK rfl (lies1 hcb fD) ?_;simp only[zz];refine aA (eR rfl rfl (iA _)) (aA (aC) ?_);simp only[zz];refine aG ?_;obtain ⟨s,hs⟩ : ∃ s : Nat,(s : Int) = ((↑xs[i] - ↑c) % 18446744073709551616 - ↑ys[i]) % 18446744073709551616:=⟨(((↑xs[i] - ↑c) % 18446744073709551616 - ↑ys[i]) % 18446744073709551616 : Int).toNat,by omega⟩
    rw [← hs];have hs2 : (s : Int) = ((xs[i] : Nat) - (c : Nat) - (ys[i]?.getD 0 : Nat) : Int) % 18446744073709551616:=by rw [List.getElem?_eq_getElem (by omega)];simp only[Option.getD_some];omega
    have hyb : ys[i]?.getD 0 < 4294967296:=by rw [List.getElem?_eq_getElem (by omega)];exact hlb
    refine hK11 _ _ ?_;have hs64 : s < 18446744073709551616:=by omega
    refine wp_region_lit (aA (aB) (aA (aB) (aA (aB) ?_)));simp only[zz];refine aA (rV rfl rfl (oW (by omega) (by omega))) (aA (aB) (aA (qW rfl rfl (by omega) (acY (by omega))) ?_));simp only[zz];refine aA (aI bB aY rfl rfl (by omega) (by omega) (fE (Int.toNat_natCast _))) ?_;simp only[zz];refine cZ rfl (by simp only[zz];rfl) (by exact aY) hB1 (by simp;omega) (by simp [Value.oneCell']) ?_;clear hB1;intro w2 hC hB1;replace hX:=hX.chg hC hG1;clear hC;rw [show ((s:Int) % 4294967296) = ((s % 4294967296 : Nat) : Int) by omega,fZ (by omega)] at hB1;refine aA (aC) ?_;simp only[zz];refine aG (hK8 _ _ ?_);refine wp_region_lit (aA (aP rfl rfl (aM (by omega) (by omega))) (aA (aB) ?_));simp only[zz];refine aG ?_;obtain ⟨r1,r2,r3,r4⟩:=Hu (by omega) hlo hv hz hd hc hs2 hla hyb;rw [show ((i:Int) + 1) = ((i + 1 : Nat) : Int) by omega,show ((s:Int) / 9223372036854775808) = ((s / 9223372036854775808 : Nat) : Int) by omega];simp only[Exit.inBlock,Exit.then];refine ⟨xs.length - (i + 1),_,?_,rfl,?_,?_⟩
    · omega
    · simp only[zz,zv]
    ·
     simp only[zQ,zR,zD,zE];exact ⟨i + 1,s / 9223372036854775808,os.set i (s % 4294967296),rfl,hX,hB1,by omega,by simpa using hlo,r1,r2,r3,r4,rfl⟩
   ·
    obtain ⟨s,hs⟩ : ∃ s : Nat,(s : Int) = (↑xs[i] - ↑c) % 18446744073709551616:=⟨((↑xs[i] - ↑c) % 18446744073709551616 : Int).toNat,by omega⟩
    rw [← hs];have hs2 : (s : Int) = ((xs[i] : Nat) - (c : Nat) - (ys[i]?.getD 0 : Nat) : Int) % 18446744073709551616:=by rw [List.getElem?_eq_none (by omega)];simp only[Option.getD_none];omega
    have hyb : ys[i]?.getD 0 < 4294967296:=by rw [List.getElem?_eq_none (by omega)];decide
    refine wp_skip ?_;refine hK11 _ _ ?_;have hs64 : s < 18446744073709551616:=by omega
    refine wp_region_lit (aA (aB) (aA (aB) (aA (aB) ?_)));simp only[zz];refine aA (rV rfl rfl (oW (by omega) (by omega))) (aA (aB) (aA (qW rfl rfl (by omega) (acY (by omega))) ?_));simp only[zz];refine aA (aI bB aY rfl rfl (by omega) (by omega) (fE (Int.toNat_natCast _))) ?_;simp only[zz];refine cZ rfl (by simp only[zz];rfl) (by exact aY) hB1 (by simp;omega) (by simp [Value.oneCell']) ?_;clear hB1;intro w2 hC hB1;replace hX:=hX.chg hC hG1;clear hC;rw [show ((s:Int) % 4294967296) = ((s % 4294967296 : Nat) : Int) by omega,fZ (by omega)] at hB1;refine aA (aC) ?_;simp only[zz];refine aG (hK8 _ _ ?_);refine wp_region_lit (aA (aP rfl rfl (aM (by omega) (by omega))) (aA (aB) ?_));simp only[zz];refine aG ?_;obtain ⟨r1,r2,r3,r4⟩:=Hu (by omega) hlo hv hz hd hc hs2 hla hyb;rw [show ((i:Int) + 1) = ((i + 1 : Nat) : Int) by omega,show ((s:Int) / 9223372036854775808) = ((s / 9223372036854775808 : Nat) : Int) by omega];simp only[Exit.inBlock,Exit.then];refine ⟨xs.length - (i + 1),_,?_,rfl,?_,?_⟩
    · omega
    · simp only[zz,zv]
    ·
     simp only[zQ,zR,zD,zE];exact ⟨i + 1,s / 9223372036854775808,os.set i (s % 4294967296),rfl,hX,hB1,by omega,by simpa using hlo,r1,r2,r3,r4,rfl⟩
  ·
   refine wp_exit ?_;refine hK4 _ _ (aD (fun K13 hK13=>?_));obtain rfl : i = xs.length:=by omega
   refine wp_region_lit (aA (aB) ?_);simp only[zz];refine bA rfl rfl (rS _ (hB1.nat hd (by omega) (by omega))) ?_;rintro v w2 hE rfl;replace hB1:=hB1.ext hE;replace hX:=hX.trans hE;clear hE;simp only[zz];refine aA (aC) ?_;simp only[zz];refine aG (hK13 _ _ ?_);refine wp_ret ?_;try simp only[Exit.inBlock,Exit.then]
   refine bO rfl rfl ?_;try simp only[zD,zE]
   exact ⟨_,rfl,hX,gR.of_trim (hB1.nat hd (n:=xs.length) (by omega) (by omega)) (abH hle hlo hd hv hge),rX.of_blk hG1⟩
theorem abb {A B : Option Addr} {xs ys : List Nat} {na nb ca cb : Nat} (w : World) (hS : dM w A na ca xs) (hR : dM w B nb cb ys) (hlx : xs.length ≤ 1099511627776) (hly : ys.length ≤ 1099511627776) : eK prog 120 [.slice A na ca,.slice B nb cb] w (gR (val 4294967296 xs * val 4294967296 ys)):=by
 skip
 refine ⟨adQ,?_⟩;have hX:=dJ.refl w;obtain rfl:=hS.eq;obtain rfl:=hR.eq
 go_enter func120,ntmps120
 refine aD (fun K1 hK1=>wp_region_lit (aA (aC) ?_));simp only[zz];refine aG (hK1 _ _ ?_);refine aD (fun K2 hK2=>wp_region_lit (aA (aB) (aA (aW rfl bB rfl) (aA (aB) ?_))));simp only[zz];refine aA (aW rfl bB rfl) (aA (aP rfl rfl (aM (by omega) (by omega))) ?_);simp only[zz];refine jO bB mJ rfl rfl rfl (show _ = xs.length + ys.length by omega) (show _ = xs.length + ys.length by omega) (by omega) (by omega) (by omega) (by omega) ?_;intro w1 g1 hE hg1 hB1;have hG1:=Nat.le_trans hX.size hg1;replace hX:=hX.trans hE;clear hE hg1;simp only[zz];refine aA (aC) ?_;simp only[zz];refine aG ?_;rw [gD] at hB1;refine hK2 _ _ (aD (fun K3 hK3=>aD (fun K4 hK4=>wp_region_lit (aA (aB) (aA (aW rfl bB rfl) (aA (aB) ?_))))));simp only[zz];refine aG (hK4 _ _ ?_);refine wp_block (bH [20] [6,7,8,9,10,11,21,22,23,24,25,26,27,28,29,30,31,32,33,34,35,36,37,38,39,40,41,42,43,44,45,46,47,48,49,50,51,52,53,54,55,56,57,58,59,60,61] (fun n vs wl=>∃ (i : Nat) (os : List Nat),vs = [.int .i64 (i:Int)] ∧ (dJ w wl) ∧ (gJ wl g1 (os.map kR) 126) ∧ (i ≤ xs.length) ∧ (os.length = xs.length + ys.length) ∧ (val 4294967296 os = val 4294967296 (xs.take i) * val 4294967296 ys) ∧ (os.drop (i + ys.length) = List.replicate (xs.length - i) 0) ∧ (cY 4294967296 os) ∧ (n = xs.length - i)) ?_ ?_)
 ·
  apply Exists.intro;simp only[zQ,zR,zD,zE];exact ⟨0,List.replicate (xs.length + ys.length) 0,rfl,hX,hB1,by omega,by simp,by rw [eX,List.take_zero];simp only[val,Nat.zero_mul],by rw [List.drop_replicate];congr 1;omega,fun x hx=>by rw [List.eq_of_mem_replicate hx];decide,rfl⟩
 ·
  intro n vs wr hI u;obtain ⟨i,os,rfl,hX,hB1,hi,hlo,hv,hz,hd,hn⟩:=hI;simp only[zu,zF,zG];refine aD (fun K5 hK5=>wp_region_lit (aA (cE rfl rfl) ?_));simp only[zz];refine aG (hK5 _ _ ?_);refine aD (fun K6 hK6=>?_);refine bZ rfl (fun hc1=>?_) (fun hc1=>?_)
  ·
   refine wp_skip ?_;refine hK6 _ _ (aD (fun K7 hK7=>wp_block (aD (fun K8 hK8=>?_))));obtain ⟨a,rfl,hca,hla⟩:=(hS.ext hX).get (show i < xs.length by omega);refine wp_region_lit (aA (aB) (aA (aI bB aY rfl rfl (by omega) (by omega) (gM (Int.toNat_natCast _))) ?_));simp only[zz];refine aK rfl (lies1 hca fD) ?_;simp only[zz];refine aA (aC) (aA (aC) ?_);simp only[zz];refine aG (hK8 _ _ ?_);refine aD (fun K9 hK9=>wp_region_lit (aA (aC) ?_));simp only[zz];refine aG (hK9 _ _ ?_);refine aD (fun K10 hK10=>aD (fun K11 hK11=>wp_region_lit (aA (aB) (aA (aW rfl bB rfl) (aA (aB) ?_)))));simp only[zz];refine aG (hK11 _ _ ?_);refine wp_block (bH [8,27] [9,10,11,28,29,30,31,32,33,34,35,36,37,38,39,40,41,42,43,44,45,46,47,48,49,50,51,52,53] (fun n vs wl=>∃ (k c : Nat) (os : List Nat),vs = [.int .u64 (c:Int),.int .i64 (k:Int)] ∧ (dJ w wl) ∧ (gJ wl g1 (os.map kR) 126) ∧ (k ≤ ys.length) ∧ (os.length = xs.length + ys.length) ∧ (val 4294967296 os + 4294967296 ^ (i + k) * c = val 4294967296 (xs.take i) * val 4294967296 ys + 4294967296 ^ i * (xs[i] * val 4294967296 (ys.take k))) ∧ (os.drop (i + ys.length) = List.replicate (xs.length - i) 0) ∧ (cY 4294967296 os) ∧ (c < 4294967296) ∧ (n = ys.length - k)) ?_ ?_)
   ·
    apply Exists.intro;simp only[zQ,zR,zD,zE];exact ⟨0,0,os,rfl,hX,hB1,by omega,hlo,by rw [List.take_zero,hv];simp only[val,Nat.mul_zero],hz,hd,by omega,rfl⟩
   ·
    intro n vs wr hI u;obtain ⟨k,c,os,rfl,hX,hB1,hk,hlo,hv2,hz,hd,hc,hn2⟩:=hI;simp only[zu,zF,zG];refine aD (fun K12 hK12=>wp_region_lit (aA (cE rfl rfl) ?_));simp only[zz];refine aG (hK12 _ _ ?_);refine aD (fun K13 hK13=>?_);refine bZ rfl (fun hc2=>?_) (fun hc2=>?_)
    ·
     refine wp_skip ?_;refine hK13 _ _ (aD (fun K14 hK14=>wp_block (aD (fun K15 hK15=>?_))));obtain ⟨b,rfl,hcb,hlb⟩:=(hR.ext hX).get (show k < ys.length by omega);refine wp_region_lit (aA (aB) (aA (aI bB aY rfl rfl (by omega) (by omega) (gM (Int.toNat_natCast _))) ?_));simp only[zz];refine aK rfl (lies1 hcb fD) ?_;simp only[zz];refine aA (aC) (aA (aC) ?_);simp only[zz];refine aG (hK15 _ _ ?_);refine aD (fun K16 hK16=>?_);have hco:=hB1.word (show i + k < os.length by omega);have hlo2:=hd.get (List.getElem?_eq_getElem (show i + k < os.length by omega));obtain ⟨hm0,hm1⟩:=abJ hla hlb;refine wp_region_lit (aA (aB) (aA (aB) (aA (aB) ?_)));simp only[zz];refine aA (aP rfl rfl (aM (by omega) (by omega))) (aA (aI bB aY rfl rfl (by omega) (by omega) (fE (show _ = i + k by omega))) ?_);simp only[zz];refine aK rfl (lies1 hco fD) ?_;simp only[zz];refine aA (aB) (aA (aB) (aA (fJ rfl rfl (eZ (by omega) (by omega))) ?_));simp only[zz];refine aA (aP rfl rfl (eZ (by omega) (by omega))) (aA (aB) (aA (aP rfl rfl (eZ (by omega) (by omega))) ?_));simp only[zz];refine aA (aC) ?_;simp only[zz];refine aG ?_;obtain ⟨s,hs⟩ : ∃ s : Nat,s = os[i + k] + xs[i] * ys[k] + c:=⟨_,rfl⟩
     have hsI : (↑os[i + k] + ↑xs[i] * ↑ys[k] + ↑c : Int) = (s : Int):=by rw [hs];simp
     rw [hsI];have hs64 : s < 18446744073709551616:=by omega
     refine hK16 _ _ ?_;refine wp_region_lit (aA (aB) (aA (aB) (aA (aB) ?_)));simp only[zz];refine aA (aP rfl rfl (aM (by omega) (by omega))) (aA (aB) (aA (rV rfl rfl (oW (by omega) (by omega))) ?_));simp only[zz];refine aA (aB) (aA (qW rfl rfl (by omega) (Ht (by omega))) (aA (aI bB aY rfl rfl (by omega) (by omega) (fE (show _ = i + k by omega))) ?_));simp only[zz];refine cZ rfl (by simp only[zz];rfl) (by exact aY) hB1 (by simp;omega) (by simp [Value.oneCell']) ?_;clear hB1;intro w2 hC hB1;replace hX:=hX.chg hC hG1;clear hC;rw [show ((s:Int) % 4294967296) = ((s % 4294967296 : Nat) : Int) by omega,fZ (by omega)] at hB1;refine aA (aC) ?_;simp only[zz];refine aG (hK14 _ _ ?_);refine wp_region_lit (aA (aP rfl rfl (aM (by omega) (by omega))) (aA (aB) ?_));simp only[zz];refine aG ?_;have r1:=Up (by omega) (by omega) hlo hv2 hs;rw [show ((k:Int) + 1) = ((k + 1 : Nat) : Int) by omega,show ((s:Int) / 4294967296) = ((s / 4294967296 : Nat) : Int) by omega];simp only[Exit.inBlock,Exit.then];refine ⟨ys.length - (k + 1),_,?_,rfl,?_,?_⟩
     · omega
     · simp only[zz,zv]
     ·
      simp only[zQ,zR,zD,zE];exact ⟨k + 1,s / 4294967296,os.set (i + k) (s % 4294967296),rfl,hX,hB1,by omega,by simpa using hlo,r1,by rw [oX (by omega)];exact hz,hd.set (by omega),by omega,rfl⟩
    ·
     refine wp_exit ?_;refine hK10 _ _ ?_;obtain rfl : k = ys.length:=by omega
     refine wp_region_lit (aA (aB) (aA (aB) (aA (aB) ?_)));simp only[zz];refine aA (aW rfl bB rfl) (aA (aP rfl rfl (aM (by omega) (by omega))) (aA (aB) ?_));simp only[zz];refine aA (aI bB aY rfl rfl (by omega) (by omega) (fE (show _ = i + ys.length by omega))) ?_;simp only[zz];refine cZ rfl (by simp only[zz];rfl) (by exact aY) hB1 (by simp;omega) (by simp [Value.oneCell']) ?_;clear hB1;intro w2 hC hB1;replace hX:=hX.chg hC hG1;clear hC;rw [fZ (by omega)] at hB1;refine aG (hK7 _ _ ?_);refine wp_region_lit (aA (aP rfl rfl (aM (by omega) (by omega))) (aA (aB) ?_));simp only[zz];refine aG ?_;obtain ⟨r1,r2⟩:=abI (by omega) hlo hv2 hz;rw [show ((i:Int) + 1) = ((i + 1 : Nat) : Int) by omega];simp only[Exit.inBlock,Exit.then];refine ⟨xs.length - (i + 1),_,?_,rfl,?_,?_⟩
     · omega
     · simp only[zz,zv]
     ·
      simp only[zQ,zR,zD,zE];exact ⟨i + 1,os.set (i + ys.length) c,rfl,hX,hB1,by omega,by simpa using hlo,r1,r2,hd.set (by omega),rfl⟩
  ·
   refine wp_exit ?_;refine hK3 _ _ (aD (fun K17 hK17=>?_));obtain rfl : i = xs.length:=by omega
   refine wp_region_lit (aA (aB) ?_);simp only[zz];refine bA rfl rfl (rS _ (hB1.nat hd (by omega) (by omega))) ?_;rintro v w2 hE rfl;replace hB1:=hB1.ext hE;replace hX:=hX.trans hE;clear hE;simp only[zz];refine aA (aC) ?_;simp only[zz];refine aG (hK17 _ _ ?_);refine wp_ret ?_;try simp only[Exit.inBlock,Exit.then]
   refine bO rfl rfl ?_;try simp only[zD,zE]
   exact ⟨_,rfl,hX,gR.of_trim (hB1.nat hd (n:=xs.length + ys.length) (by omega) (by omega)) (by rw [hv,List.take_length])⟩
end Go.Proofs.YtfohfflkhpfjeaaGreatDoor
