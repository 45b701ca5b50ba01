/-
 Texts of one claim, laid together: W3, Nc, Dig, Dig2, Dig3, Cst, We, Maps2, W4, W5, Int, Wide6, Wide1.
-/
import Derived.Test.YtfohfflkhpfjeaaGreatDoorE4
set_option maxHeartbeats 8000000
set_option linter.unusedSimpArgs false
set_option linter.unusedVariables false
set_option linter.unusedSectionVars false
namespace Go.Proofs.YtfohfflkhpfjeaaGreatDoor
open Go.Proofs.Tryz
open Go.RowKit Go.Lith
abbrev nH:=@underlying102
abbrev tE:=@underlying104
abbrev nY:=@underlying106
abbrev bD:=@underlying157
abbrev Ad:=@underlying184
abbrev mL:=@underlying185
set_option maxRecDepth 100000
attribute [local irreducible] wpList wpQuiet dY dO dN Code.wp
def oR (n : Nat) : Value:=.int .i64 (n : Int)
theorem nZ {K V : Type} [DecidableEq K] (xs : List (K × V)) (k : K) (v : V) : mU [] (xs ++ [(k,v)]) = gL (mU [] xs) k v:=Md [] xs [(k,v)]
theorem pN {K : Type} [DecidableEq K] (ks : List K) (k : K) : rC [] (ks ++ [k]) = gL (rC [] ks) k ((dG (rC [] ks) k).getD 0 + 1):=Za [] ks [k]
theorem Ms {K : Type} [DecidableEq K] (ks : List K) (k : K) : (dG (rC [] ks) k).getD 0 = oO ks k:=by rw [Me];simp [dG]
theorem Cg {K : Type} [DecidableEq K] (ks : List K) (k : K) : (dG (rC [] ks) k).getD 0 ≤ ks.length:=by rw [Ms];exact List.length_filter_le _ _
theorem adt {nx : P3 → Option P3} {s a y : P3} {n z : Nat} (h : ¬ a = s) (hb : nx a = some y) : uN nx s (n + 1) a z = uN nx s n y (z + 1):=by rw [uN,if_neg h,hb]
theorem abF {nx : P3 → Option P3} {s a : P3} {n z : Nat} (hb : nx a = none) : uN nx s n a z = (a,z):=by
 cases n with
 | zero=>rfl
 | succ n=>rw [uN,hb];split <;> rfl
theorem adu {nx : P3 → Option P3} {s a : P3} {M z : Nat} (hz : z ≤ M + 1) (h : a = s ∨ ¬ z ≤ M) : uN nx s (M + 1 - z) a z = (a,z):=by
 rcases h with rfl | h
 · exact Zb
 · rw [show M + 1 - z = 0 by omega];rfl
theorem adv {x y : P3} : (¬ x.x = y.x ∨ ¬ x.y = y.y ∨ ¬ x.z = y.z) ↔ ¬ x = y:=by
 rw [← gK];exact ⟨fun h k=>h.elim (fun h=>h k.1) fun h=>h.elim (fun h=>h k.2.1) fun h=>h k.2.2,fun h=>by
  rcases Classical.em (x.x = y.x) with h1 | h1
  ·
   rcases Classical.em (x.y = y.y) with h2 | h2
   · exact .inr (.inr fun h3=>h ⟨h1,h2,h3⟩)
   · exact .inr (.inl h2)
  · exact .inl h1⟩
theorem Zw {a s : P3} {z M : Nat} (h : (decide (¬ (a.x = s.x ∧ a.y = s.y ∧ a.z = s.z)) && decide ((z : Int) ≤ (M : Int))) = false) : a = s ∨ ¬ z ≤ M:=by
 rcases Classical.em (a = s) with k | k
 · exact .inl k
 ·
  refine .inr fun k4=>?_;rw [decide_eq_true (mt gK.1 k),decide_eq_true (Int.ofNat_le.2 k4)] at h;cases h
theorem Zx {ts : List T3} {es : Array MapEntry} {sn : Array Nat} {dn : List (E3 × P3)} (h : mF ed pt (mU [] (jK ts)) es sn dn []) (hnd : (bB ts).Nodup) (hno : ∀ y ∈ dn,¬ Jl ts y.1) (e : E3) : ¬ Jl ts e:=fun he=>by
 obtain ⟨x,hx,_⟩:=id he;have h1 : dG (mU [] (jK ts)) e = some x:=by rw [← hx];exact sB hnd e.1 e.2
 exact hno _ (h.done.mem_iff.2 (xQ h1)) he
theorem Ht (ts : List T3) : (dZ ts).length = ts.length * 3:=xT ts
theorem Qf {ts : List T3} {N cap : Nat} {A : Option Addr} (w : World) (hT : fA w A N ts) (hN : N ≤ 10000000) (hnd : (bB ts).Nodup) : eL prog 123 [.slice A N cap] w (fun v _=>v = .bool ((eJ ts).any (xG ts))):=by
 refine ⟨acZ,?_⟩;have m:=cF.refl w
 go_enter func123,ntmps123
 refine aF fun K1 k1=>wp_region_lit (aA (aD) (aG (k1 _ _ ?_)));refine aF fun K2 k2=>wp_region_lit ?_;simp only[zz];refine kL m ?_;clear m;intro q8 u m;have hD8:=cS.nil (K:=E3) (V:=P3) ed pt;refine aA (aD) (aG (k2 _ _ ?_));refine aF fun K3 k3=>wp_region_lit ?_;simp only[zz];refine kL m ?_;clear m;intro q9 u m;have hD9:=cS.nil (K:=P3) (V:=Nat) pt oR;refine aA (aD) (aG (k3 _ _ ?_));refine aF fun K4 k4=>aF fun K5 k5=>wp_region_lit (aA (aB) (aA (bA rfl bV rfl) ?_));simp only[zz];refine aA (aB) (aG (k5 _ _ ?_));refine wp_block ?_;simp only[zz];try simp only[Nat.zero_add,Nat.reduceAdd,Nat.reduceMul,Int.reduceToNat]
 refine bJ [18] [6,7,8,19,20,21,22,23,24,25,26,27,28,29,30,31,32,33,34,35,36,37,38,39,40,41,42,43,44,45,46,47] (fun n vs wl=>∃ (k : Nat) (es8 es9 : Array MapEntry) (c8 c9 : Nat),vs = [.int .i64 (k:Int)] ∧ cF w wl [mI q9 es9 c9,mI q8 es8 c8] ∧ (cS ed pt (mU [] (jK (ts.take k))) es8 c8) ∧ (cS pt oR (rC [] (dZ (ts.take k))) es9 c9) ∧ (k ≤ N) ∧ (n = N - k)) ?_ ?_
 ·
  apply Exists.intro;simp only[zQ,zR,zD,zE];exact ⟨0,_,_,_,_,rfl,m,hD8,hD9,Nat.zero_le _,rfl⟩
 ·
  intro n vs wr hI u;clear m;obtain ⟨k,es8,es9,c8,c9,rfl,m,hD8,hD9,hk,hn⟩:=hI;simp only[zu,zF,zG];refine aF fun K6 k6=>wp_region_lit (aA (cO rfl rfl) (aG (k6 _ _ ?_)));refine aF fun K7 k7=>?_;simp only[zz];refine cC rfl (fun hc1=>?_) (fun hc1=>?_)
  ·
   obtain ⟨t,ht,_,a,rfl,hrow⟩:=hT.get (i:=k) (by omega);have hcl:=Ht (ts.take k);rw [List.length_take] at hcl;refine wp_skip (k7 _ _ ?_);refine aF fun K8 k8=>wp_block (aF fun K9 k9=>wp_region_lit (aA (aK bV aS rfl rfl (by omega) (by omega) (bY (Int.toNat_natCast _))) ?_));simp only[zz];refine aL rfl ((hrow.ext m.ext).lies eF aS) ?_;simp only[zz];refine bH m kB rfl ?_;clear m;intro g3 u m;simp only[zz];refine aT m 0 rfl rfl rfl aS (dX rfl) rfl ?_;clear m;intro u m;simp only[zy,zx,bK,zF,zG,Nat.reduceAdd] at m;refine aG (k9 _ _ ?_);refine aF fun K10 k10=>wp_region_lit (aL rfl ((m.b 0 rfl).full eF aS) ?_);simp only[zz];refine aA (aB) (aG (k10 _ _ ?_));refine wp_block (wp_loop_rounds 4 (dP (aF fun K11 k11=>wp_region_lit (aA (bW (m:=0) (n:=3) rfl rfl (by decide)) (aG (k11 _ _ ?_))))));refine aF fun K12 k12=>cQ rfl (wp_skip (k12 _ _ ?_));refine aF fun K13 k13=>wp_block (aF fun K14 k14=>wp_region_lit (aA (aB) (aA (kD rfl rfl) ?_)));simp only[zz];refine bH m bU rfl ?_;clear m;intro g4 u m;refine aA (aD) ?_;simp only[zz];refine aT m 0 rfl rfl rfl aC (dX rfl) rfl ?_;clear m;intro u m;simp only[zy,zx,bK,zF,zG,Nat.reduceAdd] at m;refine aG (k14 _ _ ?_);refine aF fun K15 k15=>?_;refine gN m 13 aP (by kernel_rfl) ?_;simp only[zy];refine aI (aB) ?_;simp only[zz];refine ql rfl (fun u m=>((m.b 0 rfl).full aJ aC)) ?_;simp only[zz];refine aI (aB) (aI (aQ (m:=0) (n:=1) (r:=1) rfl rfl (by decide)) (aI (cE (m:=1) (n:=3) (r:=1) rfl rfl (by decide) (by decide)) (aI (aH aY aC rfl rfl (by decide) (by decide) rfl) ?_)));simp only[zz];refine ql rfl (fun u m=>((m.b 1 rfl).lies aJ aC rfl rfl)) ?_;simp only[zz,zy,Nat.zero_add,Nat.reduceAdd,Nat.reduceMul,Int.reduceToNat];refine aI (gH rfl rfl) (aI (aB) (aI (aQ (m:=0) (n:=2) (r:=2) rfl rfl (by decide)) (aI (cE (m:=2) (n:=3) (r:=2) rfl rfl (by decide) (by decide)) ?_)));simp only[zz];refine aI (aH aY aC rfl rfl (by decide) (by decide) rfl) ?_;simp only[zz];refine ql rfl (fun u m=>((m.b 1 rfl).lies aJ aC rfl rfl)) ?_;simp only[zz,zy,Nat.zero_add,Nat.reduceAdd,Nat.reduceMul,Int.reduceToNat];refine cP ?_;clear m;intro u m;refine fT (ek:=ed) (en:=pt) (a:=(t.a,t.b)) (v:=t.c) m 3 rfl Ad uP rfl rfl rfl hD8 ?_;clear m;intro es8 c8 u m hD';clear hD8;have hD8:=hD';clear hD';simp only[zF,zG] at m;rw [← nZ] at hD8;refine aG (k15 _ _ ?_);refine oD m 2 [] [40,41,42,43,44,45] (fun vs i=>∃ (es : Array MapEntry) (c : Nat),vs = [] ∧ i = mI q9 es c ∧ (cS pt oR (rC [] (((dZ (ts.take k)) ++ [t.a]))) es c)) ?_ ?_
   ·
    refine Qx m [true,true,false,true] (.take 0 (.take 1 (.two 2 (.take 3 (.one 4 (.take 5 (.one 6 .nil)))) 4 (.take 5 (.one 2 (.take 3 (.one 6 .nil))))))) aP (by kernel_rfl) (dL (fun _ _ _ _ _ h=>h)) ?_;clear m;intro u m;have hb:=Cg (dZ (ts.take k)) t.a;try simp only[List.length_append,List.length_cons,List.length_nil] at hb
    refine eN (by simp only[zw];rfl) (aZ (aB) (dU (eN (by simp only[zw];rfl) ?_)));simp only[zz];refine cU rfl (fun u m=>((m.b 0 rfl).full aJ aC)) ?_;simp only[zz];refine dU ?_;refine Da (by simp only[zw];rfl) (by simp only[zw];rfl) ?_ ?_
    ·
     refine fL (eR (ek:=pt) (en:=oR) (k:=t.a) (v0:=0) mL mC iC rfl rfl (m.p 2 rfl) hD9) ?_;simp only[zz];refine aG (⟨m.sel [true,true,false,true],?_⟩);refine eN (by simp only[zw];rfl) (aZ (aQ rfl rfl (aM (by omega) (by omega))) (dU (jO (by simp only[zw];rfl) ?_)));simp only[zz];refine Ac (ek:=pt) (en:=oR) (a:=t.a) (v0:=0) m 2 rfl mL mC iC rfl rfl hD9 ?_;clear m;intro es9 c9 bs u m hD' hS;simp only[zF,zG] at m;refine aG (⟨m.sel [true,true,false,true],?_⟩);refine eN (by simp only[zw];rfl) (aZ (bM rfl rfl) (dU (jO (by simp only[zw];rfl) ?_)));simp only[zz];refine sD (ek:=pt) (en:=oR) (a:=t.a) (v:=(dG (rC [] (dZ (ts.take k))) t.a).getD 0 + 1) m 2 rfl rfl rfl rfl hS ?_;clear m hD' hS;intro es9 u m hD';clear hD9;have hD9:=hD';clear hD';simp only[zF,zG] at m;rw [← pN] at hD9;refine aG (⟨m.sel [true,true,false,true],?_⟩);refine tK ?_;simp only[Exit.inBlock,Exit.then];refine ⟨_,_,rfl,?_,m,?_⟩
     · simp only[zz,zv]
     ·
      simp only[zQ,zR,zD,zE];exact ⟨_,_,trivial,rfl,hD9⟩
    ·
     refine Ac (ek:=pt) (en:=oR) (a:=t.a) (v0:=0) m 2 rfl mL mC iC rfl rfl hD9 ?_;clear m;intro es9 c9 bs u m hD' hS;simp only[zF,zG] at m;refine aG (⟨m.sel [true,true,false,true],?_⟩);refine eN (by simp only[zw];rfl) (aZ (bM rfl rfl) (dU (jO (by simp only[zw];rfl) ?_)));simp only[zz];refine fL (eR (ek:=pt) (en:=oR) (k:=t.a) (v0:=0) mL mC iC rfl rfl (m.p 2 rfl) hD') ?_;simp only[zz];rw [mP,if_pos rfl,Option.getD_some];refine aG (⟨m.sel [true,true,false,true],?_⟩);refine eN (by simp only[zw];rfl) (aZ (aQ rfl rfl (aM (by omega) (by omega))) (dU (jO (by simp only[zw];rfl) ?_)));simp only[zz];refine sD (ek:=pt) (en:=oR) (a:=t.a) (v:=(dG (rC [] (dZ (ts.take k))) t.a).getD 0 + 1) m 2 rfl rfl rfl rfl hS ?_;clear m hD' hS;intro es9 u m hD';clear hD9;have hD9:=hD';clear hD';simp only[zF,zG] at m;rw [← pN] at hD9;refine aG (⟨m.sel [true,true,false,true],?_⟩);refine tK ?_;simp only[Exit.inBlock,Exit.then];refine ⟨_,_,rfl,?_,m,?_⟩
     · simp only[zz,zv]
     ·
      simp only[zQ,zR,zD,zE];exact ⟨_,_,trivial,rfl,hD9⟩
   ·
    intro vs i wr m hI u;obtain ⟨es9,c9,rfl,rfl,hD9⟩:=hI;simp only[zF,zG] at m;simp only[zu,zF,zG];refine k13 _ _ (wp_region_lit (aA (aQ (m:=0) (n:=1) (r:=1) rfl rfl (by decide)) (aA (aB) (aG (aX (aF fun K16 k16=>wp_region_lit (aA (bW (m:=1) (n:=3) rfl rfl (by decide)) (aG (k16 _ _ ?_)))))))));refine aF fun K17 k17=>cQ rfl (wp_skip (k17 _ _ ?_));refine aF fun K18 k18=>wp_block (aF fun K19 k19=>wp_region_lit (aA (aB) ?_));simp only[zz];refine aA (kE rfl rfl) ?_;simp only[zz];refine bH m bU rfl ?_;clear m;intro g5 u m;refine aA (aD) ?_;simp only[zz];refine aT m 0 rfl rfl rfl aC (dX rfl) rfl ?_;clear m;intro u m;simp only[zy,zx,bK,zF,zG,Nat.reduceAdd] at m;refine aG (k19 _ _ ?_);refine aF fun K20 k20=>?_;refine gN m 13 aP (by kernel_rfl) ?_;simp only[zy];refine aI (aB) ?_;simp only[zz];refine ql rfl (fun u m=>((m.b 0 rfl).full aJ aC)) ?_;simp only[zz];refine aI (aB) (aI (aQ (m:=1) (n:=1) (r:=2) rfl rfl (by decide)) (aI (cE (m:=2) (n:=3) (r:=2) rfl rfl (by decide) (by decide)) (aI (aH aY aC rfl rfl (by decide) (by decide) rfl) ?_)));simp only[zz];refine ql rfl (fun u m=>((m.b 2 rfl).lies aJ aC rfl rfl)) ?_;simp only[zz,zy,Nat.zero_add,Nat.reduceAdd,Nat.reduceMul,Int.reduceToNat];refine aI (gH rfl rfl) (aI (aB) (aI (aQ (m:=1) (n:=2) (r:=3) rfl rfl (by decide)) (aI (cE (m:=3) (n:=3) (r:=0) rfl rfl (by decide) (by decide)) ?_)));simp only[zz];refine aI (aH aY aC rfl rfl (by decide) (by decide) rfl) ?_;simp only[zz];refine ql rfl (fun u m=>((m.b 2 rfl).lies aJ aC rfl rfl)) ?_;simp only[zz,zy,Nat.zero_add,Nat.reduceAdd,Nat.reduceMul,Int.reduceToNat];refine cP ?_;clear m;intro u m;refine fT (ek:=ed) (en:=pt) (a:=(t.b,t.c)) (v:=t.a) m 4 rfl Ad uP rfl rfl rfl hD8 ?_;clear m;intro es8 c8 u m hD';clear hD8;have hD8:=hD';clear hD';simp only[zF,zG] at m;rw [← nZ] at hD8;refine aG (k20 _ _ ?_);refine oD m 3 [] [40,41,42,43,44,45] (fun vs i=>∃ (es : Array MapEntry) (c : Nat),vs = [] ∧ i = mI q9 es c ∧ (cS pt oR (rC [] (((((dZ (ts.take k)) ++ [t.a])) ++ [t.b]))) es c)) ?_ ?_
    ·
     refine Qx m [true,true,true,false,true] (.take 0 (.take 1 (.two 2 (.take 3 (.one 4 (.take 5 (.one 6 .nil)))) 4 (.take 5 (.one 2 (.take 3 (.one 6 .nil))))))) aP (by kernel_rfl) (dL (fun _ _ _ _ _ h=>h)) ?_;clear m;intro u m;have hb:=Cg (((dZ (ts.take k)) ++ [t.a])) t.b;try simp only[List.length_append,List.length_cons,List.length_nil] at hb
     refine eN (by simp only[zw];rfl) (aZ (aB) (dU (eN (by simp only[zw];rfl) ?_)));simp only[zz];refine cU rfl (fun u m=>((m.b 0 rfl).full aJ aC)) ?_;simp only[zz];refine dU ?_;refine Da (by simp only[zw];rfl) (by simp only[zw];rfl) ?_ ?_
     ·
      refine fL (eR (ek:=pt) (en:=oR) (k:=t.b) (v0:=0) mL mC iC rfl rfl (m.p 3 rfl) hD9) ?_;simp only[zz];refine aG (⟨m.sel [true,true,true,false,true],?_⟩);refine eN (by simp only[zw];rfl) (aZ (aQ rfl rfl (aM (by omega) (by omega))) (dU (jO (by simp only[zw];rfl) ?_)));simp only[zz];refine Ac (ek:=pt) (en:=oR) (a:=t.b) (v0:=0) m 3 rfl mL mC iC rfl rfl hD9 ?_;clear m;intro es9 c9 bs u m hD' hS;simp only[zF,zG] at m;refine aG (⟨m.sel [true,true,true,false,true],?_⟩);refine eN (by simp only[zw];rfl) (aZ (bM rfl rfl) (dU (jO (by simp only[zw];rfl) ?_)));simp only[zz];refine sD (ek:=pt) (en:=oR) (a:=t.b) (v:=(dG (rC [] (((dZ (ts.take k)) ++ [t.a]))) t.b).getD 0 + 1) m 3 rfl rfl rfl rfl hS ?_;clear m hD' hS;intro es9 u m hD';clear hD9;have hD9:=hD';clear hD';simp only[zF,zG] at m;rw [← pN] at hD9;refine aG (⟨m.sel [true,true,true,false,true],?_⟩);refine tK ?_;simp only[Exit.inBlock,Exit.then];refine ⟨_,_,rfl,?_,m,?_⟩
      · simp only[zz,zv]
      ·
       simp only[zQ,zR,zD,zE];exact ⟨_,_,trivial,rfl,hD9⟩
     ·
      refine Ac (ek:=pt) (en:=oR) (a:=t.b) (v0:=0) m 3 rfl mL mC iC rfl rfl hD9 ?_;clear m;intro es9 c9 bs u m hD' hS;simp only[zF,zG] at m;refine aG (⟨m.sel [true,true,true,false,true],?_⟩);refine eN (by simp only[zw];rfl) (aZ (bM rfl rfl) (dU (jO (by simp only[zw];rfl) ?_)));simp only[zz];refine fL (eR (ek:=pt) (en:=oR) (k:=t.b) (v0:=0) mL mC iC rfl rfl (m.p 3 rfl) hD') ?_;simp only[zz];rw [mP,if_pos rfl,Option.getD_some];refine aG (⟨m.sel [true,true,true,false,true],?_⟩);refine eN (by simp only[zw];rfl) (aZ (aQ rfl rfl (aM (by omega) (by omega))) (dU (jO (by simp only[zw];rfl) ?_)));simp only[zz];refine sD (ek:=pt) (en:=oR) (a:=t.b) (v:=(dG (rC [] (((dZ (ts.take k)) ++ [t.a]))) t.b).getD 0 + 1) m 3 rfl rfl rfl rfl hS ?_;clear m hD' hS;intro es9 u m hD';clear hD9;have hD9:=hD';clear hD';simp only[zF,zG] at m;rw [← pN] at hD9;refine aG (⟨m.sel [true,true,true,false,true],?_⟩);refine tK ?_;simp only[Exit.inBlock,Exit.then];refine ⟨_,_,rfl,?_,m,?_⟩
      · simp only[zz,zv]
      ·
       simp only[zQ,zR,zD,zE];exact ⟨_,_,trivial,rfl,hD9⟩
    ·
     intro vs i wr m hI u;obtain ⟨es9,c9,rfl,rfl,hD9⟩:=hI;simp only[zF,zG] at m;simp only[zu,zF,zG];refine k18 _ _ (wp_region_lit (aA (aQ (m:=1) (n:=1) (r:=2) rfl rfl (by decide)) (aA (aB) (aG (aX (aF fun K21 k21=>wp_region_lit (aA (bW (m:=2) (n:=3) rfl rfl (by decide)) (aG (k21 _ _ ?_)))))))));refine aF fun K22 k22=>cQ rfl (wp_skip (k22 _ _ ?_));refine aF fun K23 k23=>wp_block (aF fun K24 k24=>wp_region_lit (aA (aB) ?_));simp only[zz];refine aA (kF rfl rfl) ?_;simp only[zz];refine bH m bU rfl ?_;clear m;intro g6 u m;refine aA (aD) ?_;simp only[zz];refine aT m 0 rfl rfl rfl aC (dX rfl) rfl ?_;clear m;intro u m;simp only[zy,zx,bK,zF,zG,Nat.reduceAdd] at m;refine aG (k24 _ _ ?_);refine aF fun K25 k25=>?_;refine gN m 13 aP (by kernel_rfl) ?_;simp only[zy];refine aI (aB) ?_;simp only[zz];refine ql rfl (fun u m=>((m.b 0 rfl).full aJ aC)) ?_;simp only[zz];refine aI (aB) (aI (aQ (m:=2) (n:=1) (r:=3) rfl rfl (by decide)) (aI (cE (m:=3) (n:=3) (r:=0) rfl rfl (by decide) (by decide)) (aI (aH aY aC rfl rfl (by decide) (by decide) rfl) ?_)));simp only[zz];refine ql rfl (fun u m=>((m.b 3 rfl).lies aJ aC rfl rfl)) ?_;simp only[zz,zy,Nat.zero_add,Nat.reduceAdd,Nat.reduceMul,Int.reduceToNat];refine aI (gH rfl rfl) (aI (aB) (aI (aQ (m:=2) (n:=2) (r:=4) rfl rfl (by decide)) (aI (cE (m:=4) (n:=3) (r:=1) rfl rfl (by decide) (by decide)) ?_)));simp only[zz];refine aI (aH aY aC rfl rfl (by decide) (by decide) rfl) ?_;simp only[zz];refine ql rfl (fun u m=>((m.b 3 rfl).lies aJ aC rfl rfl)) ?_;simp only[zz,zy,Nat.zero_add,Nat.reduceAdd,Nat.reduceMul,Int.reduceToNat];refine cP ?_;clear m;intro u m;refine fT (ek:=ed) (en:=pt) (a:=(t.c,t.a)) (v:=t.b) m 5 rfl Ad uP rfl rfl rfl hD8 ?_;clear m;intro es8 c8 u m hD';clear hD8;have hD8:=hD';clear hD';simp only[zF,zG] at m;rw [← nZ] at hD8;refine aG (k25 _ _ ?_);refine oD m 4 [] [40,41,42,43,44,45] (fun vs i=>∃ (es : Array MapEntry) (c : Nat),vs = [] ∧ i = mI q9 es c ∧ (cS pt oR (rC [] (((((((dZ (ts.take k)) ++ [t.a])) ++ [t.b])) ++ [t.c]))) es c)) ?_ ?_
     ·
      refine Qx m [true,true,true,true,false,true] (.take 0 (.take 1 (.two 2 (.take 3 (.one 4 (.take 5 (.one 6 .nil)))) 4 (.take 5 (.one 2 (.take 3 (.one 6 .nil))))))) aP (by kernel_rfl) (dL (fun _ _ _ _ _ h=>h)) ?_;clear m;intro u m;have hb:=Cg (((((dZ (ts.take k)) ++ [t.a])) ++ [t.b])) t.c;try simp only[List.length_append,List.length_cons,List.length_nil] at hb
      refine eN (by simp only[zw];rfl) (aZ (aB) (dU (eN (by simp only[zw];rfl) ?_)));simp only[zz];refine cU rfl (fun u m=>((m.b 0 rfl).full aJ aC)) ?_;simp only[zz];refine dU ?_;refine Da (by simp only[zw];rfl) (by simp only[zw];rfl) ?_ ?_
      ·
       refine fL (eR (ek:=pt) (en:=oR) (k:=t.c) (v0:=0) mL mC iC rfl rfl (m.p 4 rfl) hD9) ?_;simp only[zz];refine aG (⟨m.sel [true,true,true,true,false,true],?_⟩);refine eN (by simp only[zw];rfl) (aZ (aQ rfl rfl (aM (by omega) (by omega))) (dU (jO (by simp only[zw];rfl) ?_)));simp only[zz];refine Ac (ek:=pt) (en:=oR) (a:=t.c) (v0:=0) m 4 rfl mL mC iC rfl rfl hD9 ?_;clear m;intro es9 c9 bs u m hD' hS;simp only[zF,zG] at m;refine aG (⟨m.sel [true,true,true,true,false,true],?_⟩);refine eN (by simp only[zw];rfl) (aZ (bM rfl rfl) (dU (jO (by simp only[zw];rfl) ?_)));simp only[zz];refine sD (ek:=pt) (en:=oR) (a:=t.c) (v:=(dG (rC [] (((((dZ (ts.take k)) ++ [t.a])) ++ [t.b]))) t.c).getD 0 + 1) m 4 rfl rfl rfl rfl hS ?_;clear m hD' hS;intro es9 u m hD';clear hD9;have hD9:=hD';clear hD';simp only[zF,zG] at m;rw [← pN] at hD9;refine aG (⟨m.sel [true,true,true,true,false,true],?_⟩);refine tK ?_;simp only[Exit.inBlock,Exit.then];refine ⟨_,_,rfl,?_,m,?_⟩
       · simp only[zz,zv]
       ·
        simp only[zQ,zR,zD,zE];exact ⟨_,_,trivial,rfl,hD9⟩
      ·
       refine Ac (ek:=pt) (en:=oR) (a:=t.c) (v0:=0) m 4 rfl mL mC iC rfl rfl hD9 ?_;clear m;intro es9 c9 bs u m hD' hS;simp only[zF,zG] at m;refine aG (⟨m.sel [true,true,true,true,false,true],?_⟩);refine eN (by simp only[zw];rfl) (aZ (bM rfl rfl) (dU (jO (by simp only[zw];rfl) ?_)));simp only[zz];refine fL (eR (ek:=pt) (en:=oR) (k:=t.c) (v0:=0) mL mC iC rfl rfl (m.p 4 rfl) hD') ?_;simp only[zz];rw [mP,if_pos rfl,Option.getD_some];refine aG (⟨m.sel [true,true,true,true,false,true],?_⟩);refine eN (by simp only[zw];rfl) (aZ (aQ rfl rfl (aM (by omega) (by omega))) (dU (jO (by simp only[zw];rfl) ?_)));simp only[zz];refine sD (ek:=pt) (en:=oR) (a:=t.c) (v:=(dG (rC [] (((((dZ (ts.take k)) ++ [t.a])) ++ [t.b]))) t.c).getD 0 + 1) m 4 rfl rfl rfl rfl hS ?_;clear m hD' hS;intro es9 u m hD';clear hD9;have hD9:=hD';clear hD';simp only[zF,zG] at m;rw [← pN] at hD9;refine aG (⟨m.sel [true,true,true,true,false,true],?_⟩);refine tK ?_;simp only[Exit.inBlock,Exit.then];refine ⟨_,_,rfl,?_,m,?_⟩
       · simp only[zz,zv]
       ·
        simp only[zQ,zR,zD,zE];exact ⟨_,_,trivial,rfl,hD9⟩
     ·
      intro vs i wr m hI u;obtain ⟨es9,c9,rfl,rfl,hD9⟩:=hI;simp only[zF,zG] at m;simp only[zu,zF,zG];refine k23 _ _ (wp_region_lit (aA (aQ (m:=2) (n:=1) (r:=3) rfl rfl (by decide)) (aA (aB) (aG (aX (aF fun K26 k26=>wp_region_lit (aA (eM (m:=3) (n:=3) rfl rfl (by decide)) (aG (k26 _ _ ?_)))))))));refine aF fun K27 k27=>iD rfl (wp_exit (k8 _ _ ?_));refine wp_region_lit ?_;simp only[zz];refine aA (aQ rfl rfl (aM (by omega) (by omega))) (aA (aB) (aG ?_));simp only[zz];simp only[Exit.inBlock,Exit.then];refine ⟨N - (k + 1),_,?_,rfl,?_,?_⟩
      · omega
      · simp only[zz,zv]
      ·
       simp only[zQ,zR,zD,zE];exact ⟨k + 1,_,_,_,_,rfl,(m.sel [false,false,false,false,true,true]),by rw [Ef ht];simpa [List.append_assoc] using hD8,by rw [Dz ht];simpa [List.append_assoc] using hD9,by omega,rfl⟩
  ·
   have hkN : k = N:=by omega
   rw [hkN,show ts.take N = ts from List.take_of_length_le (by rw [hT.len];exact Nat.le_refl _)] at hD8 hD9;refine wp_exit (k4 _ _ ?_);refine aF fun K28 k28=>aF fun K29 k29=>wp_region_lit (aA (aB) ?_);simp only[zz];refine wM m Ad rfl (m.p 1 rfl) ?_;clear m;intro r1 u m;refine aG (k29 _ _ ?_);refine wp_block ?_;simp only[zz];try simp only[Nat.zero_add,Nat.reduceAdd,Nat.reduceMul,Int.reduceToNat]
   refine bJ [] [2,9,10,11,12,13,50,51,52,53,54,55,56,57,58,59,60,61,62,63,64,65,66,67,68,69,70,71,72,73,74,75,76,77,78,79,80,81,82,83,84,85,86,87,88,89,90,91,92,93,94] (fun n vs wl=>∃ (dn rs : List (E3 × P3)) (sn : Array Nat),vs = [] ∧ cF w wl [iI r1 q8 c8 sn,mI q9 es9 c9,mI q8 es8 c8] ∧ (mF ed pt (mU [] (jK ts)) es8 sn dn rs) ∧ (∀ y ∈ dn,¬ Jl ts y.1) ∧ (n = rs.length)) ?_ ?_
   ·
    apply Exists.intro;simp only[zQ,zR,zD,zE];exact ⟨[],_,#[],trivial,m,mF.start hD8,fun _ h=>(by cases h),rfl⟩
   ·
    intro n vs wr hI u;clear m;obtain ⟨dn,rs,sn,rfl,m,hT1,hno,hn⟩:=hI;simp only[zu,zF,zG];refine aF fun K30 k30=>wp_region_lit (Dv m 0 rfl rfl (m.p 2 rfl) hD8 hT1 ?_);clear m;intro bb kk vv sn u m hN;simp only[zF,zG] at m;refine aA (sW rfl) (aG (k30 _ _ ?_));refine aF fun K31 k31=>?_;simp only[zz];refine eD rfl (fun hc3=>?_) (fun hc3=>?_)
    ·
     obtain ⟨kp,kb,rs2,hp,hT2⟩:=Dy hc3 hN;obtain ⟨x,hx⟩ : ∃ x,dG (mU [] (jK ts)) kp = some x:=by
      cases h : dG (mU [] (jK ts)) kp with
      | some x=>exact ⟨x,rfl⟩
      | none =>
       refine absurd ?_ (rY.1 h);have h1:=hT2.1.mem_iff (a:=(kp,kb));exact List.mem_map.2 ⟨_,h1.1 (by simp),rfl⟩
     have hkx : bP ts kp.1 kp.2 = some x:=by rw [← sB hnd];exact hx
     obtain ⟨M,hM⟩ : ∃ M,M = oO (dZ ts) kp.1:=⟨_,rfl⟩
     have hmM : (dG (rC [] (dZ ts)) kp.1).getD 0 = M:=by rw [Ms,hM]
     have hMl : M ≤ 30000000:=by have h1:=Cg (dZ ts) kp.1;rw [hmM,Ht,hT.len] at h1;omega
     refine wp_skip (k31 _ _ ?_);refine wp_block (aF fun K32 k32=>wp_region_lit (fL (sX rfl (m.r 0 rfl) (m.p 2 rfl) hD8 hT2) ?_));simp only[zz];refine aA (bM rfl rfl) ?_;simp only[zz];refine bH m nE rfl ?_;clear m;intro g4 u m;simp only[zz];refine aT m 0 rfl rfl rfl eB (dX rfl) rfl ?_;clear m;intro u m;simp only[zy,zx,bK,zF,zG,Nat.reduceAdd] at m;refine aG (k32 _ _ ?_);refine aF fun K33 k33=>wp_region_lit (aA (aD) (aG (k33 _ _ ?_)));refine aF fun K34 k34=>wp_region_lit (aA (aB) ?_);simp only[zz];refine aL rfl ((m.b 0 rfl).full kC eB) ?_;simp only[zz];refine fL (eR (ek:=ed) (en:=pt) (k:=kp) (v0:=⟨0,0,0⟩) Ad bU uP rfl rfl (m.p 3 rfl) hD8) ?_;simp only[zz];refine bH m bU rfl ?_;clear m;intro g5 u m;simp only[zz];refine aT m 0 rfl rfl rfl aC (dX rfl) rfl ?_;clear m;intro u m;simp only[zy,zx,bK,zF,zG,Nat.reduceAdd] at m;refine aG ?_;rw [hx] at m;simp only[Option.getD_some] at m;refine k34 _ _ ?_;refine aF fun K35 k35=>wp_block ?_;try simp only[Nat.zero_add,Nat.reduceAdd,Nat.reduceMul,Int.reduceToNat]
     refine bJ [10] [12,13,57,58,59,60,61,62,63,64,65,66,67,68,69,70,71,72,73,74,75,76,77,78,79,80,81,82] (fun n vs wl=>∃ (z : Nat) (a : P3),vs = [.int .i64 (z:Int)] ∧ cF w wl [bI g5 (uC a) 48,bI g4 (cB kp) 143,iI r1 q8 c8 sn,mI q9 es9 c9,mI q8 es8 c8] ∧ (uN (bP ts kp.1) kp.2 M x 1 = uN (bP ts kp.1) kp.2 (M + 1 - z) a z) ∧ (1 ≤ z) ∧ (z ≤ M + 1) ∧ (n = M + 1 - z)) ?_ ?_
     ·
      apply Exists.intro;simp only[zQ,zR,zD,zE];exact ⟨1,x,rfl,m,rfl,Nat.le_refl _,by omega,rfl⟩
     ·
      intro n vs wr hI u;clear m;obtain ⟨z,a,rfl,m,hrun,hz1,hz2,hn4⟩:=hI;simp only[zu,zF,zG];refine aF fun K36 k36=>aF fun K37 k37=>wp_region_lit (aL rfl ((m.b 0 rfl).full aJ aC) ?_);simp only[zz];refine aA (aO (c:=2) jQ rfl aC rfl rfl) ?_;simp only[zz];refine aL rfl ((m.b 1 rfl).lies aJ aC rfl rfl) ?_;simp only[zz,zy,Nat.zero_add,Nat.reduceAdd,Nat.reduceMul,Int.reduceToNat];refine aA (fW rfl rfl) (aA (aB) (dF rfl (fun hb=>aB) (dF rfl (fun hb=>aB) ?_)));simp only[zz];refine dF rfl (fun hb=>aO (c:=2) jQ rfl aC rfl rfl) ?_;simp only[zz];refine eC rfl (fun hb=>cM (bO hb rfl) ((m.b 1 rfl).lies aJ aC rfl rfl)) ?_;simp only[zz,zy,Nat.zero_add,Nat.reduceAdd,Nat.reduceMul,Int.reduceToNat];refine eC rfl (fun hb=>eR (ek:=pt) (en:=oR) (k:=kp.1) (v0:=0) mL mC iC (bO hb rfl) (bO hb rfl) (m.p 3 rfl) hD9) ?_;simp only[zz];refine dF rfl (fun hb=>Cn (bO hb rfl) (bO hb rfl)) (aA (dC rfl rfl rfl) (aG (k37 _ _ ?_)));simp only[zz];refine eD rfl (fun hc4=>?_) (fun hc4=>?_)
      ·
       have hs : ¬ a = kp.2 ∧ z ≤ M:=by rw [hmM] at hc4;simpa [adv] using hc4
       refine wp_skip (k36 _ _ ?_);refine wp_block (aF fun K38 k38=>wp_region_lit (aA (aB) (aA (aO (c:=2) jQ rfl aC rfl rfl) ?_)));simp only[zz];refine aL rfl ((m.b 1 rfl).lies aJ aC rfl rfl) ?_;simp only[zz,zy,Nat.zero_add,Nat.reduceAdd,Nat.reduceMul,Int.reduceToNat];refine aL rfl ((m.b 0 rfl).full aJ aC) ?_;simp only[zz];refine aA (gH rfl rfl) ?_;simp only[zz];refine fL (rZ (ek:=ed) (en:=pt) (k:=(kp.1,a)) (v0:=⟨0,0,0⟩) Ad bU uP rfl rfl (m.p 4 rfl) hD8) ?_;simp only[zz];refine aA (aB) (aA (bM rfl rfl) (aA (bM rfl rfl) ?_));simp only[zz];refine bH m bU rfl ?_;clear m;intro g6 u m;simp only[zz];refine aT m 0 rfl rfl rfl aC (dX rfl) rfl ?_;clear m;intro u m;simp only[zy,zx,bK,zF,zG,Nat.reduceAdd] at m;refine aA (aD) (aG (k38 _ _ ?_));refine aF fun K39 k39=>aF fun K40 k40=>wp_region_lit (aA (aB) (aA (fN rfl) (aG (k40 _ _ ?_))));simp only[zz];refine eD rfl (fun hc5=>?_) (fun hc5=>?_)
       ·
        have hyn : bP ts kp.1 a = none:=by rw [← sB hnd];simpa using hc5
        have hfin:=hrun.trans (abF hyn);refine wp_exit (k35 _ _ ?_);refine aF fun K41 k41=>wp_region_lit (aL rfl ((m.b 1 rfl).full aJ aC) ?_);simp only[zz];refine aA (aO (c:=2) jQ rfl aC rfl rfl) ?_;simp only[zz];refine aL rfl ((m.b 2 rfl).lies aJ aC rfl rfl) ?_;simp only[zz,zy,Nat.zero_add,Nat.reduceAdd,Nat.reduceMul,Int.reduceToNat];refine aA (aW rfl rfl) (aA (aB) (dF rfl (fun hb=>aB) (dF rfl (fun hb=>aB) ?_)));simp only[zz];refine dF rfl (fun hb=>aO (c:=2) jQ rfl aC rfl rfl) ?_;simp only[zz];refine eC rfl (fun hb=>cM (bO hb rfl) ((m.b 2 rfl).lies aJ aC rfl rfl)) ?_;simp only[zz,zy,Nat.zero_add,Nat.reduceAdd,Nat.reduceMul,Int.reduceToNat];refine eC rfl (fun hb=>eR (ek:=pt) (en:=oR) (k:=kp.1) (v0:=0) mL mC iC (bO hb rfl) (bO hb rfl) (m.p 4 rfl) hD9) ?_;simp only[zz];refine dF rfl (fun hb=>cO (bO hb rfl) (bO hb rfl)) (aA (dC rfl rfl rfl) (aG (k41 _ _ ?_)));simp only[zz];refine eD rfl (fun hc6=>?_) (fun hc6=>?_)
        ·
         have hs : a = kp.2 ∧ z < M:=by rw [hmM] at hc6;simpa [← gK] using hc6
         refine aF fun K42 k42=>wp_region_lit (aA (aD) (aG (k42 _ _ ?_)));refine wp_ret ?_;simp only[zz];try simp only[Exit.inBlock,Exit.then,if_true]
         refine bS rfl rfl ?_;try simp only[zD,zE]
         exact ⟨_,rfl,m.ext,by have hp : Jl ts kp:=⟨x,hkx,by rw [Nat.add_sub_cancel,← hM,hfin];exact hs.1,by rw [Nat.add_sub_cancel,← hM,hfin];exact hs.2⟩;rw [pinned.2 ⟨kp,hp⟩]⟩
        ·
         have hs : ¬ (a = kp.2 ∧ z < M):=by rw [hmM] at hc6;simpa [← gK] using hc6
         have hno2 : ∀ y ∈ dn ++ [(kp,kb)],¬ Jl ts y.1:=fun y hy=>by
          rcases List.mem_append.1 hy with hy | hy
          · exact hno y hy
          ·
           obtain rfl:=List.mem_singleton.1 hy;rintro ⟨x2,h1,h2,h3⟩;obtain rfl : x = x2:=Option.some.inj (hkx.symm.trans h1);rw [Nat.add_sub_cancel,← hM,hfin] at h2 h3;exact hs ⟨h2,h3⟩
         refine wp_skip ?_;simp only[Exit.inBlock,Exit.then];refine ⟨rs2.length,_,?_,rfl,?_,?_⟩
         · rw [hn,hp.length_eq];exact Nat.lt_succ_self _
         · simp only[zz,zv]
         ·
          simp only[zQ,zR,zD,zE];exact ⟨dn ++ [(kp,kb)],rs2,_,trivial,(m.sel [false,false,false,true,true,true]),hT2,hno2,rfl⟩
       ·
        obtain ⟨y,hy⟩ : ∃ y,dG (mU [] (jK ts)) (kp.1,a) = some y:=by
         cases h : dG (mU [] (jK ts)) (kp.1,a) with
         | some y=>exact ⟨y,rfl⟩
         | none=>rw [h] at hc5;cases hc5
        have hya : bP ts kp.1 a = some y:=by rw [← sB hnd];exact hy
        rw [hy] at m;simp only[Option.getD_some] at m;refine wp_skip (k39 _ _ ?_);refine aF fun K43 k43=>wp_region_lit (aL rfl ((m.b 0 rfl).full aJ aC) ?_);simp only[zz];refine aT m 1 rfl rfl rfl aC (dX rfl) rfl ?_;clear m;intro u m;simp only[zy,zx,bK,zF,zG,Nat.reduceAdd] at m;refine aG (k43 _ _ ?_);refine wp_region_lit (aA (aB) ?_);simp only[zz];refine aA (aQ rfl rfl (aM (by omega) (by omega))) (aA (aD) (aG ?_));simp only[zz];simp only[Exit.inBlock,Exit.then];refine ⟨M + 1 - (z + 1),_,?_,rfl,?_,?_⟩
        · omega
        · simp only[zz,zv]
        ·
         simp only[zQ,zR,zD,zE];exact ⟨z + 1,y,rfl,(m.sel [false,true,true,true,true,true]),by rw [hrun,show M + 1 - z = (M + 1 - (z + 1)) + 1 by omega,adt hs.1 hya],by omega,by omega,rfl⟩
      ·
       have hs0 : a = kp.2 ∨ ¬ z ≤ M:=by rw [hmM] at hc4;exact Zw hc4
       have hfin:=hrun.trans (adu hz2 hs0);refine wp_exit (k35 _ _ ?_);refine aF fun K44 k44=>wp_region_lit (aL rfl ((m.b 0 rfl).full aJ aC) ?_);simp only[zz];refine aA (aO (c:=2) jQ rfl aC rfl rfl) ?_;simp only[zz];refine aL rfl ((m.b 1 rfl).lies aJ aC rfl rfl) ?_;simp only[zz,zy,Nat.zero_add,Nat.reduceAdd,Nat.reduceMul,Int.reduceToNat];refine aA (aW rfl rfl) (aA (aB) (dF rfl (fun hb=>aB) (dF rfl (fun hb=>aB) ?_)));simp only[zz];refine dF rfl (fun hb=>aO (c:=2) jQ rfl aC rfl rfl) ?_;simp only[zz];refine eC rfl (fun hb=>cM (bO hb rfl) ((m.b 1 rfl).lies aJ aC rfl rfl)) ?_;simp only[zz,zy,Nat.zero_add,Nat.reduceAdd,Nat.reduceMul,Int.reduceToNat];refine eC rfl (fun hb=>eR (ek:=pt) (en:=oR) (k:=kp.1) (v0:=0) mL mC iC (bO hb rfl) (bO hb rfl) (m.p 3 rfl) hD9) ?_;simp only[zz];refine dF rfl (fun hb=>cO (bO hb rfl) (bO hb rfl)) (aA (dC rfl rfl rfl) (aG (k44 _ _ ?_)));simp only[zz];refine eD rfl (fun hc6=>?_) (fun hc6=>?_)
       ·
        have hs : a = kp.2 ∧ z < M:=by rw [hmM] at hc6;simpa [← gK] using hc6
        refine aF fun K45 k45=>wp_region_lit (aA (aD) (aG (k45 _ _ ?_)));refine wp_ret ?_;simp only[zz];try simp only[Exit.inBlock,Exit.then,if_true]
        refine bS rfl rfl ?_;try simp only[zD,zE]
        exact ⟨_,rfl,m.ext,by have hp : Jl ts kp:=⟨x,hkx,by rw [Nat.add_sub_cancel,← hM,hfin];exact hs.1,by rw [Nat.add_sub_cancel,← hM,hfin];exact hs.2⟩;rw [pinned.2 ⟨kp,hp⟩]⟩
       ·
        have hs : ¬ (a = kp.2 ∧ z < M):=by rw [hmM] at hc6;simpa [← gK] using hc6
        have hno2 : ∀ y ∈ dn ++ [(kp,kb)],¬ Jl ts y.1:=fun y hy=>by
         rcases List.mem_append.1 hy with hy | hy
         · exact hno y hy
         ·
          obtain rfl:=List.mem_singleton.1 hy;rintro ⟨x2,h1,h2,h3⟩;obtain rfl : x = x2:=Option.some.inj (hkx.symm.trans h1);rw [Nat.add_sub_cancel,← hM,hfin] at h2 h3;exact hs ⟨h2,h3⟩
        refine wp_skip ?_;simp only[Exit.inBlock,Exit.then];refine ⟨rs2.length,_,?_,rfl,?_,?_⟩
        · rw [hn,hp.length_eq];exact Nat.lt_succ_self _
        · simp only[zz,zv]
        ·
         simp only[zQ,zR,zD,zE];exact ⟨dn ++ [(kp,kb)],rs2,_,trivial,(m.sel [false,false,true,true,true]),hT2,hno2,rfl⟩
    ·
     obtain rfl:=Dx hc3 hN;refine wp_exit (k28 _ _ ?_);refine aF fun K46 k46=>wp_region_lit (aA (aD) (aG (k46 _ _ ?_)));refine wp_ret ?_;simp only[zz];try simp only[Exit.inBlock,Exit.then,if_true]
     refine bS rfl rfl ?_;try simp only[zD,zE]
     exact ⟨_,rfl,m.ext,by cases h : (eJ ts).any (xG ts) with | false=>rfl | true=>(obtain ⟨e,he⟩:=pinned.1 h;exact absurd he (Zx hT1 hnd hno e))⟩
theorem abG {ts : List T3} (h : ¬ (bB ts).Nodup) : (bB ts).any (fun e=>decide (1 < kA (bB ts) e)) = true:=by rw [xV];exact decide_eq_true h
theorem Zy {ts : List T3} (h : (bB ts).Nodup) : (bB ts).any (fun e=>decide (1 < kA (bB ts) e)) = false:=by rw [xV];exact decide_eq_false fun k=>k h
theorem Zz {ts : List T3} {N cap : Nat} {A : Option Addr} (w : World) (hT : fA w A N ts) (hN : N ≤ 10000000) : eL prog 102 [.slice A N cap,.bool true] w (fun v _=>v = .int .i64 (cX true ts)):=by
 refine ⟨acH,?_⟩;have m:=cF.refl w
 go_enter func102,ntmps102
 refine aF fun K1 k1=>wp_region_lit (aA (aD) (aG (k1 _ _ ?_)));refine aF fun K2 k2=>aF fun K3 k3=>wp_region_lit (aA (aB) (aA (bA rfl bV rfl) (aA (aB) ?_)));simp only[zz];refine aG (k3 _ _ ?_);refine wp_block ?_;try simp only[Nat.zero_add,Nat.reduceAdd,Nat.reduceMul,Int.reduceToNat]
 refine bJ [11] [4,6,12,13,14,15,16,17,18,19,20,21,22,23,24,25,26,27,28,29,30,31,32,33,34] (fun n vs wl=>∃ (k : Nat),vs = [.int .i64 (k:Int)] ∧ cF w wl [] ∧ ((ts.take k).any pW = false) ∧ (k ≤ N) ∧ (n = N - k)) ?_ ?_
 ·
  apply Exists.intro;simp only[zQ,zR,zD,zE];exact ⟨0,rfl,m,rfl,Nat.zero_le _,rfl⟩
 ·
  intro n vs wr hI u;clear m;obtain ⟨k,rfl,m,hd0,hk,hn⟩:=hI;simp only[zu,zF,zG];refine aF fun K4 k4=>wp_region_lit (aA (cO rfl rfl) (aG (k4 _ _ ?_)));refine aF fun K5 k5=>?_;simp only[zz];refine cC rfl (fun hc1=>?_) (fun hc1=>?_)
  ·
   obtain ⟨t,ht,_,a,rfl,hrow⟩:=hT.get (i:=k) (by omega);refine wp_skip (k5 _ _ ?_);refine aF fun K6 k6=>wp_block (aF fun K7 k7=>wp_region_lit (aA (aK bV aS rfl rfl (by omega) (by omega) (bY (Int.toNat_natCast _))) ?_));simp only[zz];refine aL rfl ((hrow.ext m.ext).lies eF aS) ?_;simp only[zz];refine bH m kB rfl ?_;clear m;intro g1 u m;simp only[zz];refine aT m 0 rfl rfl rfl aS (dX rfl) rfl ?_;clear m;intro u m;simp only[zy,zx,bK,zF,zG,Nat.reduceAdd] at m;refine aG (k7 _ _ ?_);refine aF fun K8 k8=>wp_region_lit (aA (aH aY aC rfl rfl (by decide) (by decide) rfl) ?_);simp only[zz];refine aL rfl ((m.b 0 rfl).lies aJ aC rfl rfl) ?_;simp only[zz,zy,Nat.zero_add,Nat.reduceAdd,Nat.reduceMul,Int.reduceToNat];refine aA (aH aY aC rfl rfl (by decide) (by decide) rfl) ?_;simp only[zz];refine aL rfl ((m.b 0 rfl).lies aJ aC rfl rfl) ?_;simp only[zz,zy,Nat.zero_add,Nat.reduceAdd,Nat.reduceMul,Int.reduceToNat];refine aA (aW rfl rfl) (aA (aB) (fE rfl (fun hb=>aH aY aC rfl rfl (by decide) (by decide) rfl) ?_));simp only[zz];refine nB rfl (fun hb=>cM (bO hb rfl) ((m.b 0 rfl).lies aJ aC rfl rfl)) ?_;simp only[zz,zy,Nat.zero_add,Nat.reduceAdd,Nat.reduceMul,Int.reduceToNat];refine fE rfl (fun hb=>aH aY aC rfl rfl (by decide) (by decide) rfl) ?_;simp only[zz];refine nB rfl (fun hb=>cM (bO hb rfl) ((m.b 0 rfl).lies aJ aC rfl rfl)) ?_;simp only[zz,zy,Nat.zero_add,Nat.reduceAdd,Nat.reduceMul,Int.reduceToNat];refine fE rfl (fun hb=>aW (bO hb rfl) (bO hb rfl)) (aA (fQ rfl rfl rfl) (aA (aB) (fE rfl (fun hb=>aH aY aC rfl rfl (by decide) (by decide) rfl) ?_)));simp only[zz];refine nB rfl (fun hb=>cM (bO hb rfl) ((m.b 0 rfl).lies aJ aC rfl rfl)) ?_;simp only[zz,zy,Nat.zero_add,Nat.reduceAdd,Nat.reduceMul,Int.reduceToNat];refine fE rfl (fun hb=>aH aY aC rfl rfl (by decide) (by decide) rfl) ?_;simp only[zz];refine nB rfl (fun hb=>cM (bO hb rfl) ((m.b 0 rfl).lies aJ aC rfl rfl)) ?_;simp only[zz,zy,Nat.zero_add,Nat.reduceAdd,Nat.reduceMul,Int.reduceToNat];refine fE rfl (fun hb=>aW (bO hb rfl) (bO hb rfl)) (aA (fQ rfl rfl rfl) (aG (k8 _ _ ?_)));simp only[zz];refine lI rfl (fun hc2=>?_) (fun hc2=>?_)
   ·
    have hd:=qN (p:=pW) ht (Ja.symm.trans hc2);refine aF fun K9 k9=>wp_region_lit (aA (aD) (aG (k9 _ _ ?_)));refine wp_ret ?_;simp only[zz];try simp only[Exit.inBlock,Exit.then,if_true]
    refine bS rfl rfl ?_;try simp only[zD,zE]
    exact ⟨_,rfl,m.ext,by rw [Rg hd]⟩
   ·
    have hd1 : (ts.take (k + 1)).any pW = false:=by rw [lS ht,hd0,← Ja];exact hc2
    refine wp_skip (k6 _ _ ?_);refine wp_region_lit (aA (aQ rfl rfl (aM (by omega) (by omega))) (aA (aB) (aG ?_)));simp only[zz];simp only[Exit.inBlock,Exit.then];refine ⟨N - (k + 1),_,?_,rfl,?_,?_⟩
    · omega
    · simp only[zz,zv]
    ·
     simp only[zQ,zR,zD,zE];exact ⟨k + 1,rfl,(m.sel [false]),hd1,by omega,rfl⟩
  ·
   have hkN : k = N:=by omega
   rw [hkN,show ts.take N = ts from List.take_of_length_le (by rw [hT.len];exact Nat.le_refl _)] at hd0;refine wp_exit (k2 _ _ ?_);refine aF fun K10 k10=>wp_region_lit (aA (aB) ?_);simp only[zz];refine bE rfl rfl (Eu _ (hT.ext m.ext) hN) ?_;rintro v u e ⟨g8,es8,c8,rfl,hM,hD8⟩;replace m:=m.plus hM;clear hM e;simp only[List.cons_append,List.nil_append] at m;refine aA (aB) (aA (bM rfl rfl) (aA (bM rfl rfl) ?_));simp only[zz];refine aA (aD) (aA (aD) (aG (k10 _ _ ?_)));refine aF fun K11 k11=>wp_block (aF fun K12 k12=>wp_region_lit (aA (aB) (aA (fN rfl) ?_)));simp only[zz];refine aA (aD) (aG (k12 _ _ ?_));simp only[zz];refine eD rfl (fun hc3=>?_) (fun hc3=>?_)
   ·
    have hnd : ¬ (bB ts).Nodup:=by simpa using hc3
    refine aF fun K13 k13=>wp_region_lit (aA (aD) (aG (k13 _ _ ?_)));refine wp_ret ?_;simp only[zz];try simp only[Exit.inBlock,Exit.then,if_true]
    refine bS rfl rfl ?_;try simp only[zD,zE]
    exact ⟨_,rfl,m.ext,by rw [Rh hd0 (abG hnd)]⟩
   ·
    have hnd : (bB ts).Nodup:=by simpa using hc3
    refine aF fun K14 k14=>wp_region_lit (aA (aB) (aA (fN rfl) (aA (aB) (cN rfl ?_))));simp only[zz];refine cN rfl (cN rfl (cN rfl (aA (cG rfl) ?_)));simp only[zz];refine aA (aD) (aG (k14 _ _ ?_));refine iD rfl (aF fun K15 k15=>wp_region_lit (aA (aB) ?_));simp only[zz];refine eQ m rfl rfl (Qf _ (hT.ext m.ext) hN hnd) ?_;clear m;rintro v u m rfl;refine aA (aD) (aG (k15 _ _ ?_));simp only[zz];refine eD rfl (fun hc5=>?_) (fun hc5=>?_)
    ·
     refine aF fun K16 k16=>wp_region_lit (aA (aD) (aG (k16 _ _ ?_)));refine wp_ret ?_;simp only[zz];try simp only[Exit.inBlock,Exit.then,if_true]
     refine bS rfl rfl ?_;try simp only[zD,zE]
     exact ⟨_,rfl,m.ext,by rw [Ri hd0 (Zy hnd) rfl hc5]⟩
    ·
     refine wp_skip (k11 _ _ ?_);refine aF fun K17 k17=>wp_region_lit (aA (aD) (aG (k17 _ _ ?_)));refine wp_ret ?_;simp only[zz];try simp only[Exit.inBlock,Exit.then,if_true]
     refine bS rfl rfl ?_;try simp only[zD,zE]
     exact ⟨_,rfl,m.ext,by rw [Yu hd0 (Zy hnd) rfl hc5]⟩
theorem yB {ts : List T3} {N cap : Nat} {A : Option Addr} (w : World) (hT : fA w A N ts) (hN : N ≤ 10000000) : eL prog 65 [.slice A N cap] w (fun v _=>v = .int .i64 (cX true ts)):=by
 refine ⟨ae3,?_⟩;have m:=cF.refl w
 go_enter func65,ntmps65
 refine aF fun K1 k1=>wp_region_lit (aA (aD) (aG (k1 _ _ ?_)));refine aF fun K2 k2=>wp_region_lit (aA (aB) ?_);simp only[zz];refine eQ m rfl rfl (Zz _ (hT.ext m.ext) hN) ?_;clear m;rintro v u m rfl;refine aA (aD) (aG (k2 _ _ ?_));refine wp_ret ?_;simp only[zz];try simp only[Exit.inBlock,Exit.then,if_true]
 refine bS rfl rfl ?_;try simp only[zD,zE]
 exact ⟨_,rfl,m.ext,rfl⟩
theorem adw {t : T3} (h1 : t.b.Lt t.a) (h2 : t.c.Lt t.b) : eS t = ⟨t.c,t.a,t.b⟩:=if_pos ⟨P3.lt_trans h2 h1,.inl h2⟩
theorem adx {t : T3} (h1 : t.b.Lt t.a) (h2 : ¬ t.c.Lt t.b) : eS t = ⟨t.b,t.c,t.a⟩:=by rw [eS,if_neg (fun h=>h.2.elim h2 fun k=>k h1),if_pos h1]
theorem ady {t : T3} (h1 : ¬ t.b.Lt t.a) (h2 : t.c.Lt t.a) : eS t = ⟨t.c,t.a,t.b⟩:=if_pos ⟨h2,.inr h1⟩
theorem adz {t : T3} (h1 : ¬ t.b.Lt t.a) (h2 : ¬ t.c.Lt t.a) : eS t = t:=by rw [eS,if_neg (fun h=>h2 h.1),if_neg h1]
theorem Hu {t : T3} : iX prog 74 [tr t] (tr (eS t)):=by
 intro w;refine ⟨afc,?_⟩;have m:=cF.refl w
 go_enter func74,ntmps74
 refine aF fun K1 k1=>wp_region_lit (eP m rfl ?_);clear m;intro g1 u m;simp only[zz];refine bH m kB rfl ?_;clear m;intro g2 u m;refine aG (k1 _ _ ?_);refine aF fun K2 k2=>wp_region_lit (aA (aD) (aG (k2 _ _ ?_)));refine aF fun K3 k3=>aF fun K4 k4=>wp_region_lit (aA (aD) (aG (k4 _ _ ?_)));refine wp_block (wp_loop_rounds 3 (dP (aF fun K5 k5=>aF fun K6 k6=>wp_region_lit (aA (aB) ?_))));simp only[zz];refine aA (bW (m:=1) (n:=3) rfl rfl (by decide)) (aG (k6 _ _ ?_));refine cQ rfl (wp_skip (k5 _ _ ?_));refine aF fun K7 k7=>wp_block (aF fun K8 k8=>?_);simp only[zz];refine mq m aP (by kernel_rfl) (aI (aB) (aI (aH aY aC rfl rfl (by decide) (by decide) rfl) ?_));simp only[zz];refine ql rfl (fun u m=>((m.b 1 rfl).lies aJ aC rfl rfl)) ?_;simp only[zz,zy,Nat.zero_add,Nat.reduceAdd,Nat.reduceMul,Int.reduceToNat];refine aI (aB) (aI (aH aY aC rfl rfl (by decide) (by decide) rfl) ?_);simp only[zz];refine ql rfl (fun u m=>((m.b 1 rfl).lies aJ aC rfl rfl)) ?_;simp only[zz,zy,Nat.zero_add,Nat.reduceAdd,Nat.reduceMul,Int.reduceToNat];refine sS rfl rfl (vJ.pure) (cP ?_);clear m;intro u m;refine k8 _ _ ?_;simp only[zz];refine cC rfl (fun hc2=>?_) (fun hc2=>?_)
 ·
  have h1:=hc2;refine wp_region_lit (aA (aB) (aA (aD) (aG (k7 _ _ ?_))));refine wp_region_lit (aA (aB) (aA (aQ (m:=1) (n:=1) (r:=2) rfl rfl (by decide)) ?_));simp only[zz];refine aA (aD) (aG (aX (aF fun K9 k9=>aF fun K10 k10=>wp_region_lit (aA (aB) (aA (bW (m:=2) (n:=3) rfl rfl (by decide)) (aG (k10 _ _ ?_)))))));refine cQ rfl (wp_skip (k9 _ _ ?_));refine aF fun K11 k11=>wp_block (aF fun K12 k12=>?_);simp only[zz];refine mq m aP (by kernel_rfl) (aI (aB) (aI (aH aY aC rfl rfl (by decide) (by decide) rfl) ?_));simp only[zz];refine ql rfl (fun u m=>((m.b 1 rfl).lies aJ aC rfl rfl)) ?_;simp only[zz,zy,Nat.zero_add,Nat.reduceAdd,Nat.reduceMul,Int.reduceToNat];refine aI (aB) (aI (aH aY aC rfl rfl (by decide) (by decide) rfl) ?_);simp only[zz];refine ql rfl (fun u m=>((m.b 1 rfl).lies aJ aC rfl rfl)) ?_;simp only[zz,zy,Nat.zero_add,Nat.reduceAdd,Nat.reduceMul,Int.reduceToNat];refine sS rfl rfl (vJ.pure) (cP ?_);clear m;intro u m;refine k12 _ _ ?_;simp only[zz];refine cC rfl (fun hc2=>?_) (fun hc2=>?_)
  ·
   have h2:=hc2;refine wp_region_lit (aA (aB) (aA (aD) (aG (k11 _ _ ?_))));refine wp_region_lit (aA (aB) (aA (aQ (m:=2) (n:=1) (r:=3) rfl rfl (by decide)) ?_));simp only[zz];refine aA (aD) (aG (aX (aF fun K13 k13=>aF fun K14 k14=>wp_region_lit (aA (aB) (aA (eM (m:=3) (n:=3) rfl rfl (by decide)) (aG (k14 _ _ ?_)))))));refine iD rfl (wp_exit (k3 _ _ ?_));refine aF fun K15 k15=>?_;simp only[zz];refine gN m 14 aP (by kernel_rfl) ?_;simp only[zy];refine aI (aB) (aI (aH aY aC rfl rfl (by decide) (by decide) rfl) ?_);simp only[zz];refine ql rfl (fun u m=>((m.b 1 rfl).lies aJ aC rfl rfl)) ?_;simp only[zz,zy,Nat.zero_add,Nat.reduceAdd,Nat.reduceMul,Int.reduceToNat];refine aI (aB) (aI (aQ (m:=2) (n:=1) (r:=3) rfl rfl (by decide)) (aI (cE (m:=3) (n:=3) (r:=0) rfl rfl (by decide) (by decide)) (aI (aH aY aC rfl rfl (by decide) (by decide) rfl) ?_)));simp only[zz];refine ql rfl (fun u m=>((m.b 1 rfl).lies aJ aC rfl rfl)) ?_;simp only[zz,zy,Nat.zero_add,Nat.reduceAdd,Nat.reduceMul,Int.reduceToNat];refine aI (aB) (aI (aQ (m:=2) (n:=2) (r:=4) rfl rfl (by decide)) (aI (cE (m:=4) (n:=3) (r:=1) rfl rfl (by decide) (by decide)) (aI (aH aY aC rfl rfl (by decide) (by decide) rfl) ?_)));simp only[zz];refine ql rfl (fun u m=>((m.b 1 rfl).lies aJ aC rfl rfl)) ?_;simp only[zz,zy,Nat.zero_add,Nat.reduceAdd,Nat.reduceMul,Int.reduceToNat];refine aI (bR rfl rfl rfl) (cP ?_);clear m;intro u m;simp only[zz];refine aT m 0 rfl rfl rfl aS (dX rfl) rfl ?_;clear m;intro u m;simp only[zy,zx,bK,zF,zG,Nat.reduceAdd] at m;refine aG (k15 _ _ ?_);refine wp_ret ?_;try simp only[Exit.inBlock,Exit.then,if_true]
   refine bS rfl ⟨_,rfl,((m.b 0 rfl).full eF aS)⟩ ?_;try simp only[zD,zE]
   exact ⟨_,rfl,m.ext,by rw [adw h1 h2];rfl⟩
  ·
   have h2:=hc2;refine wp_skip (k11 _ _ ?_);refine wp_region_lit (aA (aB) (aA (aQ (m:=2) (n:=1) (r:=3) rfl rfl (by decide)) (aA (aD) (aG (aX (aF fun K16 k16=>aF fun K17 k17=>wp_region_lit (aA (aB) ?_)))))));simp only[zz];refine aA (eM (m:=3) (n:=3) rfl rfl (by decide)) (aG (k17 _ _ ?_));refine iD rfl (wp_exit (k3 _ _ ?_));refine aF fun K18 k18=>?_;simp only[zz];refine gN m 14 aP (by kernel_rfl) ?_;simp only[zy];refine aI (aB) (aI (aH aY aC rfl rfl (by decide) (by decide) rfl) ?_);simp only[zz];refine ql rfl (fun u m=>((m.b 1 rfl).lies aJ aC rfl rfl)) ?_;simp only[zz,zy,Nat.zero_add,Nat.reduceAdd,Nat.reduceMul,Int.reduceToNat];refine aI (aB) (aI (aQ (m:=1) (n:=1) (r:=2) rfl rfl (by decide)) (aI (cE (m:=2) (n:=3) (r:=2) rfl rfl (by decide) (by decide)) (aI (aH aY aC rfl rfl (by decide) (by decide) rfl) ?_)));simp only[zz];refine ql rfl (fun u m=>((m.b 1 rfl).lies aJ aC rfl rfl)) ?_;simp only[zz,zy,Nat.zero_add,Nat.reduceAdd,Nat.reduceMul,Int.reduceToNat];refine aI (aB) (aI (aQ (m:=1) (n:=2) (r:=3) rfl rfl (by decide)) (aI (cE (m:=3) (n:=3) (r:=0) rfl rfl (by decide) (by decide)) (aI (aH aY aC rfl rfl (by decide) (by decide) rfl) ?_)));simp only[zz];refine ql rfl (fun u m=>((m.b 1 rfl).lies aJ aC rfl rfl)) ?_;simp only[zz,zy,Nat.zero_add,Nat.reduceAdd,Nat.reduceMul,Int.reduceToNat];refine aI (bR rfl rfl rfl) (cP ?_);clear m;intro u m;simp only[zz];refine aT m 0 rfl rfl rfl aS (dX rfl) rfl ?_;clear m;intro u m;simp only[zy,zx,bK,zF,zG,Nat.reduceAdd] at m;refine aG (k18 _ _ ?_);refine wp_ret ?_;try simp only[Exit.inBlock,Exit.then,if_true]
   refine bS rfl ⟨_,rfl,((m.b 0 rfl).full eF aS)⟩ ?_;try simp only[zD,zE]
   exact ⟨_,rfl,m.ext,by rw [adx h1 h2];rfl⟩
 ·
  have h1:=hc2;refine wp_skip (k7 _ _ ?_);refine wp_region_lit (aA (aB) (aA (aQ (m:=1) (n:=1) (r:=2) rfl rfl (by decide)) (aA (aD) (aG (aX (aF fun K19 k19=>aF fun K20 k20=>wp_region_lit (aA (aB) ?_)))))));simp only[zz];refine aA (bW (m:=2) (n:=3) rfl rfl (by decide)) (aG (k20 _ _ ?_));refine cQ rfl (wp_skip (k19 _ _ ?_));refine aF fun K21 k21=>wp_block (aF fun K22 k22=>?_);simp only[zz];refine mq m aP (by kernel_rfl) (aI (aB) (aI (aH aY aC rfl rfl (by decide) (by decide) rfl) ?_));simp only[zz];refine ql rfl (fun u m=>((m.b 1 rfl).lies aJ aC rfl rfl)) ?_;simp only[zz,zy,Nat.zero_add,Nat.reduceAdd,Nat.reduceMul,Int.reduceToNat];refine aI (aB) (aI (aH aY aC rfl rfl (by decide) (by decide) rfl) ?_);simp only[zz];refine ql rfl (fun u m=>((m.b 1 rfl).lies aJ aC rfl rfl)) ?_;simp only[zz,zy,Nat.zero_add,Nat.reduceAdd,Nat.reduceMul,Int.reduceToNat];refine sS rfl rfl (vJ.pure) (cP ?_);clear m;intro u m;refine k22 _ _ ?_;simp only[zz];refine cC rfl (fun hc2=>?_) (fun hc2=>?_)
  ·
   have h2:=hc2;refine wp_region_lit (aA (aB) (aA (aD) (aG (k21 _ _ ?_))));refine wp_region_lit (aA (aB) (aA (aQ (m:=2) (n:=1) (r:=3) rfl rfl (by decide)) ?_));simp only[zz];refine aA (aD) (aG (aX (aF fun K23 k23=>aF fun K24 k24=>wp_region_lit (aA (aB) (aA (eM (m:=3) (n:=3) rfl rfl (by decide)) (aG (k24 _ _ ?_)))))));refine iD rfl (wp_exit (k3 _ _ ?_));refine aF fun K25 k25=>?_;simp only[zz];refine gN m 14 aP (by kernel_rfl) ?_;simp only[zy];refine aI (aB) (aI (aH aY aC rfl rfl (by decide) (by decide) rfl) ?_);simp only[zz];refine ql rfl (fun u m=>((m.b 1 rfl).lies aJ aC rfl rfl)) ?_;simp only[zz,zy,Nat.zero_add,Nat.reduceAdd,Nat.reduceMul,Int.reduceToNat];refine aI (aB) (aI (aQ (m:=2) (n:=1) (r:=3) rfl rfl (by decide)) (aI (cE (m:=3) (n:=3) (r:=0) rfl rfl (by decide) (by decide)) (aI (aH aY aC rfl rfl (by decide) (by decide) rfl) ?_)));simp only[zz];refine ql rfl (fun u m=>((m.b 1 rfl).lies aJ aC rfl rfl)) ?_;simp only[zz,zy,Nat.zero_add,Nat.reduceAdd,Nat.reduceMul,Int.reduceToNat];refine aI (aB) (aI (aQ (m:=2) (n:=2) (r:=4) rfl rfl (by decide)) (aI (cE (m:=4) (n:=3) (r:=1) rfl rfl (by decide) (by decide)) (aI (aH aY aC rfl rfl (by decide) (by decide) rfl) ?_)));simp only[zz];refine ql rfl (fun u m=>((m.b 1 rfl).lies aJ aC rfl rfl)) ?_;simp only[zz,zy,Nat.zero_add,Nat.reduceAdd,Nat.reduceMul,Int.reduceToNat];refine aI (bR rfl rfl rfl) (cP ?_);clear m;intro u m;simp only[zz];refine aT m 0 rfl rfl rfl aS (dX rfl) rfl ?_;clear m;intro u m;simp only[zy,zx,bK,zF,zG,Nat.reduceAdd] at m;refine aG (k25 _ _ ?_);refine wp_ret ?_;try simp only[Exit.inBlock,Exit.then,if_true]
   refine bS rfl ⟨_,rfl,((m.b 0 rfl).full eF aS)⟩ ?_;try simp only[zD,zE]
   exact ⟨_,rfl,m.ext,by rw [ady h1 h2];rfl⟩
  ·
   have h2:=hc2;refine wp_skip (k21 _ _ ?_);refine wp_region_lit (aA (aB) (aA (aQ (m:=2) (n:=1) (r:=3) rfl rfl (by decide)) (aA (aD) (aG (aX (aF fun K26 k26=>aF fun K27 k27=>wp_region_lit (aA (aB) ?_)))))));simp only[zz];refine aA (eM (m:=3) (n:=3) rfl rfl (by decide)) (aG (k27 _ _ ?_));refine iD rfl (wp_exit (k3 _ _ ?_));refine aF fun K28 k28=>?_;simp only[zz];refine gN m 14 aP (by kernel_rfl) ?_;simp only[zy];refine aI (aB) (aI (aH aY aC rfl rfl (by decide) (by decide) rfl) ?_);simp only[zz];refine ql rfl (fun u m=>((m.b 1 rfl).lies aJ aC rfl rfl)) ?_;simp only[zz,zy,Nat.zero_add,Nat.reduceAdd,Nat.reduceMul,Int.reduceToNat];refine aI (aB) (aI (aQ (m:=0) (n:=1) (r:=1) rfl rfl (by decide)) (aI (cE (m:=1) (n:=3) (r:=1) rfl rfl (by decide) (by decide)) (aI (aH aY aC rfl rfl (by decide) (by decide) rfl) ?_)));simp only[zz];refine ql rfl (fun u m=>((m.b 1 rfl).lies aJ aC rfl rfl)) ?_;simp only[zz,zy,Nat.zero_add,Nat.reduceAdd,Nat.reduceMul,Int.reduceToNat];refine aI (aB) (aI (aQ (m:=0) (n:=2) (r:=2) rfl rfl (by decide)) (aI (cE (m:=2) (n:=3) (r:=2) rfl rfl (by decide) (by decide)) (aI (aH aY aC rfl rfl (by decide) (by decide) rfl) ?_)));simp only[zz];refine ql rfl (fun u m=>((m.b 1 rfl).lies aJ aC rfl rfl)) ?_;simp only[zz,zy,Nat.zero_add,Nat.reduceAdd,Nat.reduceMul,Int.reduceToNat];refine aI (bR rfl rfl rfl) (cP ?_);clear m;intro u m;simp only[zz];refine aT m 0 rfl rfl rfl aS (dX rfl) rfl ?_;clear m;intro u m;simp only[zy,zx,bK,zF,zG,Nat.reduceAdd] at m;refine aG (k28 _ _ ?_);refine wp_ret ?_;try simp only[Exit.inBlock,Exit.then,if_true]
   refine bS rfl ⟨_,rfl,((m.b 0 rfl).full eF aS)⟩ ?_;try simp only[zD,zE]
   exact ⟨_,rfl,m.ext,by rw [adz h1 h2];rfl⟩
end Go.Proofs.YtfohfflkhpfjeaaGreatDoor
namespace Go.Lith
open Go.RowKit
theorem dB {P : Program} {l : List Value} {x : Operand} {ty : TypeId} {a : Addr} (hx : ev l x = .pointer (some a)) : gX P l (.nilCheck x) ty (.pointer (some a)):=fun w o ho _=>by
 simp [execOp,ho,dD,hx]
theorem afO {P : Program} {ds : List Deferred} {Q : Exit → Act → World → Prop} {w w0 : World} {is : List It} {c : Code} {a : Act} {l : Nat → List Value} {c1 : List Value} {T1 : TypeId} (m : cF w0 w is) (h1 : c.wp P (fun e a' u=>e = .normal ∧ ∃ g,a' = Fr (l g) ds ∧ cF w0 u (bI g c1 T1 :: is)) a w)
 (h2 : ∀ g u,cF w0 u (bI g c1 T1 :: is) → Q .normal (Fr (l g) ds) u) : c.wp P Q a w:=by
 refine Code.wp_mono ?_ h1;rintro e a' u ⟨rfl,g,rfl,m'⟩;exact h2 g u m'
end Go.Lith
namespace Go.Lith
open Go.RowKit
abbrev pI (x : Nat) : Value:=.int .i64 (x : Int)
structure cY (w : World) (b : Nat) (A : Option Addr) (n cap : Nat) (xs : List Nat) : Prop where
 eq : n = xs.length
 row : ∀ (i x : Nat),xs[i]? = some x → ∃ a,A = some a ∧ a.block < b ∧ w.cell? (a.add i) = some (.int .i64 (x : Int))
 le : xs.length ≤ cap
 cap : cap ≤ 9223372036854775807
 len : xs.length ≤ 17592186044416
 digs : cZ 65536 xs
structure sE (w : World) (b : Nat) : Prop where
 h : b ≤ w.heap.size
theorem sE.ext {w w' : World} {b : Nat} (h : sE w b) (hE : dK w w') : sE w' b:=⟨Nat.le_trans h.h hE.size⟩
theorem sE.grew {w w' : World} {b base : Nat} (h : sE w b) (hG : Bg w w' base) (_ : True:=trivial) : sE w' b:=⟨Nat.le_trans h.h hG.size⟩
theorem dK.base {w0 w : World} (h : dK w0 w) : ∃ b,b = w.heap.size ∧ w0.heap.size ≤ b:=⟨_,rfl,h.size⟩
theorem sE.of {w0 w : World} {b : Nat} (_ : dK w0 w) (e : b = w.heap.size) : sE w b:=⟨Nat.le_of_eq e⟩
theorem iR.nil_of {w0 w : World} (_ : dK w0 w) (base : Nat) (E : TypeId) (c : Nat) : iR w base E c (.slice none 0 0) 0 []:=iR.nil w base E c
theorem gD.row0 {w : World} {g : Nat} {cs : List Value} {t : TypeId} (h : gD w g cs t) : jL w ⟨g,0,none⟩ cs:=h.row 0
section
variable {w w' : World} {b : Nat} {A : Option Addr} {n cap : Nat} {xs : List Nat}
theorem cY.ext (h : cY w b A n cap xs) (hE : dK w w') : cY w' b A n cap xs :=
 ⟨h.eq,fun i x hi=>let ⟨a,e,hb,hc⟩:=h.row i x hi;⟨a,e,hb,hE.cell hc⟩,h.le,h.cap,h.len,h.digs⟩
theorem cY.mono {b' : Nat} (h : cY w b A n cap xs) (hb : b ≤ b') : cY w b' A n cap xs :=
 ⟨h.eq,fun i x hi=>let ⟨a,e,h1,hc⟩:=h.row i x hi;⟨a,e,by omega,hc⟩,h.le,h.cap,h.len,h.digs⟩
theorem cY.here (h : cY w b A n cap xs) : cY w w.heap.size A n cap xs :=
 ⟨h.eq,fun i x hi=>by
  obtain ⟨a,e,_,hc⟩:=h.row i x hi;have:=World.block_lt_of_cell? _ _ hc;rw [nO] at this;exact ⟨a,e,this,hc⟩,h.le,h.cap,h.len,h.digs⟩
theorem cY.chg {g : Nat} (h : cY w b A n cap xs) (hC : Sj w w' g) (hb : b ≤ g) : cY w' b A n cap xs :=
 ⟨h.eq,fun i x hi=>by
  obtain ⟨a,e,h1,hc⟩:=h.row i x hi;exact ⟨a,e,h1,(hC.cell (by rw [nO];omega)).trans hc⟩,h.le,h.cap,h.len,h.digs⟩
theorem cY.grew {base : Nat} (h : cY w b A n cap xs) (hG : Bg w w' base) (hb : b ≤ base) : cY w' b A n cap xs :=
 ⟨h.eq,fun i x hi=>by
  obtain ⟨a,e,h1,hc⟩:=h.row i x hi;exact ⟨a,e,h1,(World.cell?_of_block (hG.block _ (by rw [nO];omega))).trans hc⟩,h.le,h.cap,h.len,h.digs⟩
theorem cY.take (h : cY w b A n cap xs) (k : Nat) : cY w b A (xs.take k).length cap (xs.take k) :=
 ⟨rfl,fun i x hi=>h.row i x (by rw [List.getElem?_take] at hi;split at hi;exact hi;cases hi),Nat.le_trans (by simp;omega) h.le,h.cap,Nat.le_trans (by simp;omega) h.len,h.digs.take k⟩
theorem cY.get (h : cY w b A n cap xs) {i : Nat} (hi : i < xs.length) : ∃ a,A = some a ∧ w.cell? (a.add i) = some (.int .i64 ((xs[i] : Nat) : Int)) ∧ xs[i] < 65536:=by
 obtain ⟨a,e,_,hc⟩:=h.row i xs[i] (List.getElem?_eq_getElem hi);exact ⟨a,e,hc,h.digs _ (List.getElem_mem hi)⟩
theorem cY.at {a : Addr} (h : cY w b (some a) n cap xs) {i : Nat} (hi : i < xs.length) : w.cell? (a.add i) = some (.int .i64 ((xs[i] : Nat) : Int)):=by
 obtain ⟨a',e,hc,_⟩:=h.get hi;cases e;exact hc
theorem cY.lt (h : cY w b A n cap xs) {i : Nat} (hi : i < xs.length) : xs[i] < 65536:=h.digs _ (List.getElem_mem hi)
theorem cY.nil (w : World) (b : Nat) : cY w b none 0 0 []:=⟨rfl,fun i x hi=>by simp at hi,Nat.le_refl _,by omega,by simp,fun x hx=>by cases hx⟩
theorem cY.of_blk {g : Nat} {os : List Nat} {t : TypeId} (h : gD w g (os.map pI) t) (hd : cZ 65536 os) (hn : n = os.length) (hl : n ≤ 17592186044416) : cY w w.heap.size (some ⟨g,0,none⟩) n n os :=
 ⟨hn,fun i x hi=>⟨_,rfl,h.lt,by rw [gE,Nat.zero_add];exact h.cell (by simp [hi])⟩,by omega,by omega,by omega,hd⟩
theorem cY.of_owns {base : Nat} {v : Value} {E : TypeId} (h : iR w base E 1 v n (xs.map pI)) (hn : n = xs.length) (hd : cZ 65536 xs) (hl : n ≤ 17592186044416) : ∃ A c,v = .slice A n c ∧ cY w w.heap.size A n c xs ∧ ∀ a,A = some a → base ≤ a.block:=by
 rcases h.row with ⟨rfl,rfl,hx⟩ | ⟨g,cap,rfl,hb,h1,h2,hg,hr⟩
 · obtain rfl : xs = []:=by simpa using hx
   exact ⟨none,0,rfl,cY.nil _ _,fun _ e=>by cases e⟩
 · exact ⟨_,cap,rfl,⟨hn,fun i x hi=>⟨_,rfl,hg,hr i _ (by simp [hi])⟩,by omega,h2,by omega,hd⟩,fun a e=>by cases e;exact hb⟩
theorem cY.rows (h : cY w b A n cap xs) : ∀ j u,(xs.map pI)[j]? = some u → ∃ a,A = some a ∧ w.cell? (a.add j) = some u:=fun j u hj=>by
 rw [List.getElem?_map] at hj;cases hx : xs[j]? with
 | none=>rw [hx] at hj;cases hj
 | some x =>
  rw [hx] at hj;cases hj;obtain ⟨a,e,_,hc⟩:=h.row j x hx;exact ⟨a,e,hc⟩
end
theorem iR.snoc {w : World} {b : Nat} {E : TypeId} {v : Value} {os : List Nat} {x : Nat} (h : iR w b E 1 v (os.length + 1) (os.map pI ++ [.int .i64 (x : Int)])) : iR w b E 1 v (os ++ [x]).length ((os ++ [x]).map pI):=by simpa using h
def rF (n : Nat) (v : Value) (w : World) : Prop:=∃ A cap,v = .slice A (digs 65536 n).length cap ∧ cY w w.heap.size A (digs 65536 n).length cap (digs 65536 n)
theorem kY {a b : Nat} : Ij a b ≤ 0 ↔ a ≤ b:=by
 unfold Ij;split
 · omega
 · split <;> omega
def adA (n k : Nat) (v : Value) (w : World) : Prop:=∃ A cap os,v = .slice A os.length cap ∧ cY w w.heap.size A os.length cap os ∧ val 65536 os = n ∧ os.length ≤ k
theorem rF.of_trim {w : World} {b : Nat} {A : Option Addr} {xs : List Nat} {k cap n : Nat} (h : cY w b A k cap xs) (hv : val 65536 xs = n) : rF n (.slice A (trim xs).length cap) w:=by
 have e : trim xs = digs 65536 n:=lB (by omega) h.digs hv;refine ⟨A,cap,by rw [e],?_⟩;rw [← e];have:=(h.take (trim xs).length).here;rwa [← gS] at this
theorem rF.self {w : World} {b : Nat} {A : Option Addr} {xs : List Nat} {k cap : Nat} (h : cY w b A k cap xs) (t : fS xs) : rF (val 65536 xs) (.slice A k cap) w:=by
 have e : xs = digs 65536 (val 65536 xs):=by rw [← lB (by omega) h.digs rfl,t]
 refine ⟨A,cap,by rw [h.eq,← e],?_⟩;rw [← e,← h.eq];exact h.here
theorem lU (n : Nat) : List.replicate n (Value.int .i64 0) = (List.replicate n 0).map pI:=by simp [pI]
theorem yC {os : List Nat} {i d : Nat} (hi : i < os.length) : bK (os.map pI) i [pI d] = (os.set i d).map pI:=by
 simp only[bK,List.length_singleton];apply List.ext_getElem?;intro j;rcases Nat.lt_trichotomy j i with h | h | h
 · rw [List.getElem?_append_left (by simp;omega),List.getElem?_append_left (by simp;omega)]
   simp [h,List.getElem?_set_ne (Nat.ne_of_gt h)]
 · subst h
   rw [List.getElem?_append_left (by simp;omega),List.getElem?_append_right (by simp;omega)];have e : j - min j os.length = 0:=by omega
   simp [hi,e]
 · rw [List.getElem?_append_right (by simp;omega)]
   simp only[List.length_append,List.length_take,List.length_map,List.length_singleton,List.getElem?_drop,List.getElem?_map];rw [List.getElem?_set_ne (by omega)]
   congr 2
   omega
theorem gD.digit {w : World} {g : Nat} {os : List Nat} {t : TypeId} (h : gD w g (os.map pI) t) {i : Nat} (hi : i < os.length) : w.cell? ⟨g,i,none⟩ = some (.int .i64 ((os[i] : Nat) : Int)) :=
 h.cell (by simp [hi])
theorem eK (n : Nat) : val 65536 (digs 65536 n) = n:=oF (by omega) n
theorem jS (n : Nat) : fS (digs 65536 n):=mW (by omega) n
theorem jU (n : Nat) : cZ 65536 (digs 65536 n):=pK (by omega) n
theorem yD {m n : Nat} (h : m ≤ n) : (digs 65536 m).length ≤ (digs 65536 n).length:=by
 refine dQ (by omega) (Nat.lt_of_le_of_lt h ?_);have:=gZ (jU n);rwa [eK] at this
theorem oS {k : Nat} {V : Nat} (h : V < 2 ^ k) : (digs 65536 V).length ≤ k:=by
 refine dQ (by omega) (Nat.lt_of_lt_of_le h ?_);rw [show (65536 : Nat) = 2 ^ 16 from rfl,← Nat.pow_mul];exact Nat.pow_le_pow_right (by omega) (by omega)
theorem Mt {m n : Nat} (h : m < 9223372036854775808) : IntKind.i64.wrap ((m : Int).tdiv (n : Int)) = ((m / n : Nat) : Int):=lD h
section
variable {P : Program} {ds : List Deferred} {l : List Value} {T ty : TypeId}
variable {ops : Array Oper} {Q : Exit → Act → World → Prop} {rest : List Oper} {d : Nat} {pos : String} {after : Array Edge} {w : World}
theorem pO {s0 x0 : Operand} {base c b nn mm cap : Nat} {E : TypeId} {z v : Value} {xs : List Value} {A : Option Addr} {a0 : Array TypeId} (ha : a0 = #[T,T]) (hu : P.underlying T = some (.slice E)) (hi : (P.info? E).map (fun i=>(i.size,i.bytes,i.zero)) = some (c,b,some z)) (hz : z.cells.size = c) (hc : 0 < c)
 (hs : ev l s0 = v) (hown : iR w base E c v nn xs) (hx : ev l x0 = .slice A mm cap) {news : List Value} (hl : news.length = mm * c) (hrow : ∀ j u,news[j]? = some u → ∃ a,A = some a ∧ w.cell? (a.add j) = some u) (h1 : ∀ u ∈ news,u.oneCell' = true) (h63 : nn + mm ≤ 9223372036854775807) (hbytes : (nn + mm) * b ≤ 140737488355328) (hbase : base ≤ w.heap.size)
 (h : ∀ v' w',iR w' base E c v' (nn + mm) (xs ++ news) → Bg w w' base → True → wpList P ops Q rest (Fr (l.set d v') ds) w') :
 wpList P ops Q (Oper.mk (some d) (.call { callee:=.builtin .append,args:=#[s0,x0],argTypes:=a0 }) ty pos after none :: rest) (Fr l ds) w:=by
 cases A with
 | none =>
  obtain rfl : news = []:=by
   cases news with
   | nil=>rfl
   | cons u us=>obtain ⟨a,e,_⟩:=hrow 0 u rfl;cases e
  have hm : mm = 0:=by
   rcases Nat.eq_zero_or_pos mm with h0 | h0
   · exact h0
   · have:=Nat.mul_pos h0 hc;simp at hl;omega
  subst hm;exact Sl ha hu hi hs hown hx (h _ _ (by simpa using hown) (Bg.refl _ _) trivial)
 | some a =>
  refine fU ha hu hi hz hc hs hown hx hl (fun j u hj=>?_) h1 h63 hbytes hbase (fun v' w' h2 h3 _=>h v' w' h2 h3 trivial);obtain ⟨a',e,hc'⟩:=hrow j u hj;cases e;exact hc'
end
theorem tF {os xs ys : List Nat} {i c s : Nat} (hl : os.length = i) (hv : val 65536 os + 65536 ^ i * c = val 65536 (xs.take i) + val 65536 (ys.take i)) (hd : cZ 65536 os)
 (hs : s = c + xs[i]?.getD 0 + ys[i]?.getD 0) :
 val 65536 (os ++ [s % 65536]) + 65536 ^ (i + 1) * (s / 65536) = val 65536 (xs.take (i + 1)) + val 65536 (ys.take (i + 1)) ∧ cZ 65536 (os ++ [s % 65536]):=by
 refine ⟨?_,hd.append (lA (Nat.mod_lt _ (by omega)) (kG _))⟩;have ht : ∀ l : List Nat,val 65536 (l.take (i + 1)) = val 65536 (l.take i) + 65536 ^ i * l[i]?.getD 0:=fun l=>by
  rcases Nat.lt_or_ge i l.length with h | h
  · rw [cR h,List.getElem?_eq_getElem h];rfl
  · rw [List.take_of_length_le (by omega),List.take_of_length_le h,List.getElem?_eq_none h];simp
 rw [ht xs,ht ys,eI,hl];simp only[val,Nat.mul_zero,Nat.add_zero];have e : s = s % 65536 + 65536 * (s / 65536):=by omega
 rw [Nat.pow_succ];generalize s / 65536 = q at *
 generalize s % 65536 = r at *
 generalize 65536 ^ i = p at *
 generalize xs[i]?.getD 0 = x at *
 generalize ys[i]?.getD 0 = y at *
 subst hs;have e2 : p * (c + x + y) = p * r + p * 65536 * q:=by rw [e];grind
 grind
theorem qR {os xs ys : List Nat} {i c s b : Nat} (hi : i < xs.length) (hl : os.length = i) (hv : val 65536 os + val 65536 (ys.take i) = val 65536 (xs.take i) + 65536 ^ i * c) (hd : cZ 65536 os)
 (hs : s + ys[i]?.getD 0 + c = xs[i] + 65536 * b) (h16 : s < 65536) :
 val 65536 (os ++ [s]) + val 65536 (ys.take (i + 1)) = val 65536 (xs.take (i + 1)) + 65536 ^ (i + 1) * b ∧ cZ 65536 (os ++ [s]):=by
 refine ⟨?_,hd.append (lA h16 (kG _))⟩;have ht : val 65536 (ys.take (i + 1)) = val 65536 (ys.take i) + 65536 ^ i * ys[i]?.getD 0:=by
  rcases Nat.lt_or_ge i ys.length with h | h
  · rw [cR h,List.getElem?_eq_getElem h];rfl
  · rw [List.take_of_length_le (by omega),List.take_of_length_le h,List.getElem?_eq_none h];simp
 rw [ht,cR hi,eI,hl];simp only[val,Nat.mul_zero,Nat.add_zero];rw [Nat.pow_succ];generalize 65536 ^ i = p at *
 generalize ys[i]?.getD 0 = y at *
 generalize xs[i] = x at *
 have e2 : p * (s + y + c) = p * x + p * 65536 * b:=by rw [hs];grind
 grind
theorem Vb {os xs ys : List Nat} {c : Nat} (hle : ys.length ≤ xs.length) (hl : os.length = xs.length) (hd : cZ 65536 os) (hv : val 65536 os + val 65536 (ys.take xs.length) = val 65536 (xs.take xs.length) + 65536 ^ xs.length * c) (hge : val 65536 ys ≤ val 65536 xs) : val 65536 os = val 65536 xs - val 65536 ys:=by
 rw [List.take_length,List.take_of_length_le hle] at hv;have h1:=gZ hd;rw [hl] at h1;rcases Nat.eq_zero_or_pos c with h | h
 · subst h;omega
 · have : 65536 ^ xs.length * 1 ≤ 65536 ^ xs.length * c:=Nat.mul_le_mul_left _ h
   omega
theorem Qg {os : List Nat} {i d c c' s t T : Nat} (hi : i < os.length) (hs : os[i] + s + c = d + 65536 * c') (hT : val 65536 os + 65536 ^ i * c = T) (ht : T + 65536 ^ i * s = t) :
 val 65536 (os.set i d) + 65536 ^ (i + 1) * c' = t:=by
 have h:=kT (B:=65536) (d:=d) hi;rw [Nat.pow_succ];generalize 65536 ^ i = p at *
 have e : p * (os[i] + s + c) = p * d + p * 65536 * c':=by rw [hs];grind
 grind
theorem Mu {os xs ys : List Nat} {i k c s : Nat} (hi : i < xs.length) (hk : k < ys.length) (hlo : os.length = xs.length + ys.length) (hv : val 65536 os + 65536 ^ (i + k) * c = val 65536 (xs.take i) * val 65536 ys + 65536 ^ i * (xs[i] * val 65536 (ys.take k)))
 (hs : s = os[i + k] + xs[i] * ys[k] + c) : val 65536 (os.set (i + k) (s % 65536)) + 65536 ^ (i + (k + 1)) * (s / 65536) = val 65536 (xs.take i) * val 65536 ys + 65536 ^ i * (xs[i] * val 65536 (ys.take (k + 1))):=by
 refine Qg (s:=xs[i] * ys[k]) (i:=i + k) (by omega) (by omega) hv ?_;rw [cR hk,Nat.pow_add]
 grind
theorem Vc {os xs ys : List Nat} {i c : Nat} (hi : i < xs.length) (hlo : os.length = xs.length + ys.length) (hv : val 65536 os + 65536 ^ (i + ys.length) * c = val 65536 (xs.take i) * val 65536 ys + 65536 ^ i * (xs[i] * val 65536 (ys.take ys.length))) (hz : os.drop (i + ys.length) = List.replicate (xs.length - i) 0) :
 val 65536 (os.set (i + ys.length) c) = val 65536 (xs.take (i + 1)) * val 65536 ys ∧ (os.set (i + ys.length) c).drop (i + 1 + ys.length) = List.replicate (xs.length - (i + 1)) 0:=by
 obtain ⟨z1,z2⟩:=gT hz (by omega);have h:=kT (B:=65536) (d:=c) (show i + ys.length < os.length by omega);rw [z1] at h;rw [List.take_length] at hv;refine ⟨?_,?_⟩
 · rw [cR hi]
   grind
 · rw [show i + 1 + ys.length = i + ys.length + 1 by omega,jJ,z2]
   congr 1
theorem Mw {x y : Nat} (hx : x < 65536) (hy : y < 65536) : x * y ≤ 4294836225:=by
 have:=Nat.mul_le_mul (Nat.le_sub_one_of_lt hx) (Nat.le_sub_one_of_lt hy);omega
theorem Vd {x y : Nat} (hx : x < 65536) (hy : y < 65536) : (0 : Int) ≤ (x : Int) * (y : Int) ∧ (x : Int) * (y : Int) ≤ 4294836225:=by
 have:=Mw hx hy;rw [← Int.natCast_mul];omega
theorem Mx {xs ys : List Nat} {k : Nat} (hx : cZ 65536 xs) (hk : 0 < k) (hlx : k - 1 < xs.length) (hly : k - 1 < ys.length) (hd : xs.drop k = ys.drop k) (h : ((xs[k-1] : Nat) : Int) < ((ys[k-1] : Nat) : Int)) : val 65536 xs < val 65536 ys :=
 vO (by omega) hx hlx hly (by rw [show k - 1 + 1 = k by omega];exact hd) (by omega)
theorem aaa {xs ys : List Nat} {k : Nat} (hk : 0 < k) (hlx : k - 1 < xs.length) (hly : k - 1 < ys.length) (hd : xs.drop k = ys.drop k) (h1 : ((xs[k-1] : Nat) : Int) = ((ys[k-1] : Nat) : Int)) : xs.drop (k - 1) = ys.drop (k - 1):=by
 rw [List.drop_eq_getElem_cons hlx,List.drop_eq_getElem_cons hly,show k - 1 + 1 = k by omega,hd,show xs[k-1] = ys[k-1] by omega]
end Go.Lith
namespace Go.Lith
open Go.RowKit
theorem adB (k : Nat) : (65536 : Nat) ^ k = 256 ^ (2 * k):=by rw [show (65536 : Nat) = 256 ^ 2 from rfl,← Nat.pow_mul]
theorem yE {os bs : List Nat} {k d : Nat} (hl : os.length = k) (hv : val 65536 os = val 256 (bs.take (2 * k))) (h : 2 * k < bs.length) (hd : d = bs[2 * k] + 256 * (bs[2 * k + 1]?.getD 0)) (hb : cZ 256 bs) (ho : cZ 65536 os) :
 val 65536 (os ++ [d]) = val 256 (bs.take (2 * (k + 1))) ∧ cZ 65536 (os ++ [d]):=by
 have h1:=hb _ (List.getElem_mem h);have h2 : bs[2 * k + 1]?.getD 0 < 256:=by
  rcases Nat.lt_or_ge (2 * k + 1) bs.length with h | h
  · rw [List.getElem?_eq_getElem h];exact hb _ (List.getElem_mem h)
  · rw [List.getElem?_eq_none h];decide
 refine ⟨?_,ho.append (lA (by omega) (kG _))⟩;have ht : val 256 (bs.take (2 * k + 1 + 1)) = val 256 (bs.take (2 * k + 1)) + 256 ^ (2 * k + 1) * bs[2 * k + 1]?.getD 0:=by
  rcases Nat.lt_or_ge (2 * k + 1) bs.length with h | h
  · rw [cR h,List.getElem?_eq_getElem h];rfl
  · rw [List.take_of_length_le (by omega),List.take_of_length_le h,List.getElem?_eq_none h];simp
 rw [show 2 * (k + 1) = 2 * k + 1 + 1 by omega,ht,cR h,eI,hl,hv,adB,Nat.pow_succ];simp only[val,Nat.mul_zero,Nat.add_zero];subst hd;generalize 256 ^ (2 * k) = p
 grind
def Rq (x : Nat) : List UInt8:=[UInt8.ofNat (x / 256),UInt8.ofNat x]
theorem Ew (ys : List Nat) (h : cZ 65536 ys) : val 256 (((ys.reverse.flatMap Rq).reverse).map UInt8.toNat) = val 65536 ys ∧ cZ 256 (((ys.reverse.flatMap Rq).reverse).map UInt8.toNat):=by
 induction ys with
 | nil=>exact ⟨rfl,fun _ h=>by cases h⟩
 | cons y ys ih =>
  have hy:=h y (by simp);obtain ⟨i1,i2⟩:=ih (fun x hx=>h x (by simp [hx]));have e : (((y :: ys).reverse.flatMap Rq).reverse).map UInt8.toNat = [y % 256,y / 256 % 256] ++ (((ys.reverse.flatMap Rq).reverse).map UInt8.toNat):=by
   simp [List.flatMap_append,Rq,UInt8.toNat_ofNat']
  rw [e];refine ⟨?_,?_⟩
  · rw [eI,i1]
    simp only[val,List.length_cons,List.length_nil];omega
  · refine cZ.append ?_ i2
    intro x hx;simp at hx;omega
theorem My {ys : List Nat} (h : cZ 65536 ys) (neg : Bool) : lG (iG (ys.reverse.flatMap Rq)) = mX (Fw neg (val 65536 ys)):=by
 obtain ⟨h1,h2⟩:=Ew ys h;rw [Ak,lB (by omega) h2 h1,mX,wE,kS];rfl
def lV (ys : List Nat) (k : Nat) : List UInt8:=iG ((ys.drop k).reverse.flatMap Rq)
theorem Jq {l m : List UInt8} (h : iG l ≠ []) : iG (l ++ m) = iG l ++ m:=by
 induction l with
 | nil=>exact absurd rfl h
 | cons b l ih =>
  by_cases hb : b = 0
  · subst hb
    have e : iG (0 :: l) = iG l:=by simp [iG]
    have e2 : iG ((0 :: l) ++ m) = iG (l ++ m):=by simp [iG]
    rw [e] at h;rw [e,e2,ih h]
  · simp [iG,hb]
theorem Qh {ys : List Nat} {k : Nat} (hk : 0 < k) (hl : k - 1 < ys.length) (h : lV ys k ≠ []) : lV ys (k - 1) = lV ys k ++ [UInt8.ofNat (ys[k - 1] / 256)] ++ [UInt8.ofNat (ys[k - 1] % 256)] ∧ lV ys (k - 1) ≠ []:=by
 have e : lV ys (k - 1) = lV ys k ++ [UInt8.ofNat (ys[k - 1] / 256)] ++ [UInt8.ofNat (ys[k - 1] % 256)]:=by
  unfold lV at *
  rw [List.drop_eq_getElem_cons hl,show k - 1 + 1 = k by omega,List.reverse_cons,List.flatMap_append,Jq h];have : UInt8.ofNat (ys[k - 1] % 256) = UInt8.ofNat (ys[k - 1]):=by
   apply UInt8.toNat_inj.1;simp [UInt8.toNat_ofNat']
  rw [this];simp [Rq]
 exact ⟨e,by rw [e];simp⟩
theorem Mz {ys : List Nat} (hl : ys.length - 1 < ys.length) (h0 : 0 < ys[ys.length - 1]) (h16 : ys[ys.length - 1] < 65536) :
 lV ys (ys.length - 1) = (if 256 ≤ ys[ys.length - 1] then [UInt8.ofNat (ys[ys.length - 1] / 256)] else []) ++ [UInt8.ofNat (ys[ys.length - 1] % 256)] ∧ lV ys (ys.length - 1) ≠ []:=by
 have e : lV ys (ys.length - 1) = iG (Rq (ys[ys.length - 1])):=by
  unfold lV;rw [List.drop_eq_getElem_cons hl,show ys.length - 1 + 1 = ys.length by omega,List.drop_length];simp
 generalize ys[ys.length - 1] = x at *
 have hm : UInt8.ofNat (x % 256) = UInt8.ofNat x:=by
  apply UInt8.toNat_inj.1;simp [UInt8.toNat_ofNat']
 have ez : ∀ y : Nat,y < 256 → (UInt8.ofNat y = 0 ↔ y = 0):=fun y hy=>by
  rw [← UInt8.toNat_inj];simp only[UInt8.toNat_ofNat',UInt8.toNat_zero];rw [Nat.mod_eq_of_lt (by omega)]
 have e2 : iG (Rq x) = (if 256 ≤ x then [UInt8.ofNat (x / 256)] else []) ++ [UInt8.ofNat (x % 256)]:=by
  split
  · rename_i h
    have hn : ¬ UInt8.ofNat (x / 256) = 0:=fun e=>by have:=(ez _ (by omega)).1 e;omega
    rw [hm];simp [iG,Rq,hn]
  · rename_i h
    have hz : UInt8.ofNat (x / 256) = 0:=(ez _ (by omega)).2 (by omega);have hn : ¬ UInt8.ofNat x = 0:=fun e=>by have:=(ez _ (by omega)).1 e;omega
    rw [hm];simp [iG,Rq,hz,hn]
 exact ⟨e.trans e2,by rw [e,e2];simp⟩
theorem Hv (ys : List Nat) : lV ys ys.length = []:=by unfold lV;rw [List.drop_length];rfl
theorem Qi {ys : List Nat} (h : cZ 65536 ys) (neg : Bool) : lG (lV ys 0) = mX (Fw neg (val 65536 ys)):=by
 unfold lV;rw [List.drop_zero];exact My h neg
theorem Ve (ys : List Nat) (k : Nat) : (lV ys k).length ≤ 2 * ys.length:=by
 have h1 : ∀ l : List UInt8,(iG l).length ≤ l.length:=fun l=>by
  induction l with
  | nil=>simp [iG]
  | cons b l ih =>
   unfold iG at *
   rw [List.dropWhile_cons];split
   · simp;omega
   · simp
 have h2 : ∀ l : List Nat,(l.flatMap Rq).length = 2 * l.length:=fun l=>by
  induction l with
  | nil=>rfl
  | cons x l ih=>rw [List.flatMap_cons,List.length_append,ih];simp [Rq];omega
 refine Nat.le_trans (h1 _) ?_;rw [h2];simp;omega
theorem iR.snoc8 {w : World} {b : Nat} {E : TypeId} {v : Value} {os : List UInt8} {x : Nat} (h : iR w b E 1 v (os.length + 1) (os.map u8v ++ [.int .u8 (x : Int)])) (hx : x < 256) : iR w b E 1 v (os ++ [UInt8.ofNat x]).length ((os ++ [UInt8.ofNat x]).map u8v):=by
 have : u8v (UInt8.ofNat x) = .int .u8 (x : Int):=by simp only[u8v,UInt8.toNat_ofNat',Value.int.injEq,true_and];rw [Nat.mod_eq_of_lt (by omega)]
 rw [List.map_append,List.map_singleton,this,List.length_append];exact h
theorem uQ {x : Nat} (h : x < 256) : IntKind.u8.wrap (x : Int) = (x : Int):=aaJ (by omega) (by omega)
theorem Ex {os : List Nat} {m V : Nat} (hv : val 65536 os + 65536 ^ os.length * m = V) (hd : cZ 65536 os) (h2 : m < 2 ^ (64 - os.length)) (h3 : os.length ≤ 64) (h0 : 0 < m) :
 val 65536 (os ++ [m % 65536]) + 65536 ^ (os ++ [m % 65536]).length * (m / 65536) = V ∧ cZ 65536 (os ++ [m % 65536]) ∧ m / 65536 < 2 ^ (64 - (os ++ [m % 65536]).length) ∧ (os ++ [m % 65536]).length ≤ 64:=by
 have hl : os.length < 64:=by
  rcases Nat.lt_or_ge os.length 64 with h | h
  · exact h
  · rw [show 64 - os.length = 0 by omega] at h2;omega
 refine ⟨?_,hd.append (lA (Nat.mod_lt _ (by omega)) (kG _)),?_,by simp;omega⟩
 · rw [eI,List.length_append,List.length_singleton,Nat.pow_succ]
   simp only[val,Nat.mul_zero,Nat.add_zero];have e : m = m % 65536 + 65536 * (m / 65536):=by omega
   generalize m / 65536 = q at *
   generalize m % 65536 = r at *
   generalize 65536 ^ os.length = p at *
   subst e
   grind
 · rw [List.length_append,List.length_singleton]
   have e : 2 ^ (64 - os.length) = 2 * 2 ^ (64 - (os.length + 1)):=by rw [← Nat.pow_succ'];congr 1;omega
   rw [e] at h2;omega
end Go.Lith
namespace Go.Lith
open Go.RowKit
theorem p16 (i : Nat) : (65536 : Nat) ^ (2 * (i + 1)) = 65536 * 65536 * 65536 ^ (2 * i):=by
 rw [show 2 * (i + 1) = 2 * i + 1 + 1 by omega,Nat.pow_succ,Nat.pow_succ];generalize (65536 : Nat) ^ (2 * i) = p;omega
theorem Vf {X n K : Nat} (h : X < 65536 ^ n) (hK : n ≤ 2 * K) : X < (0 + 1) * (0 + 1) * 65536 ^ (2 * K):=by
 have:=Nat.pow_le_pow_right (show 0 < 65536 by omega) hK;omega
theorem aab {R i X : Nat} (h : R * R * 65536 ^ (2 * (i + 1)) ≤ X) : (0 + 65536 * R) * (0 + 65536 * R) * 65536 ^ (2 * i) ≤ X:=by
 rw [p16] at h;have e : (0 + 65536 * R) * (0 + 65536 * R) * 65536 ^ (2 * i) = R * R * (65536 * 65536 * 65536 ^ (2 * i)):=by
  generalize (65536 : Nat) ^ (2 * i) = p
  grind
 omega
theorem Vg {R i X : Nat} (h : X < (R + 1) * (R + 1) * 65536 ^ (2 * (i + 1))) : X < (65536 + 65536 * R) * (65536 + 65536 * R) * 65536 ^ (2 * i):=by
 rw [p16] at h;have e : (65536 + 65536 * R) * (65536 + 65536 * R) * 65536 ^ (2 * i) = (R + 1) * (R + 1) * (65536 * 65536 * 65536 ^ (2 * i)):=by
  generalize (65536 : Nat) ^ (2 * i) = p
  grind
 omega
theorem abH {R i X low high : Nat} (h : X < (high + 65536 * R) * (high + 65536 * R) * 65536 ^ (2 * i)) (hl : ¬ ((1 : Int) < (high : Int) - (low : Int))) : X < (low + 65536 * R + 1) * (low + 65536 * R + 1) * 65536 ^ (2 * i):=by
 refine Nat.lt_of_lt_of_le h (Nat.mul_le_mul_right _ (Nat.mul_le_mul ?_ ?_)) <;> omega
theorem yF {rs : List Nat} {m i : Nat} : val 65536 (List.replicate (2 * i) 0 ++ digs 65536 (val 65536 (m :: rs) * val 65536 (m :: rs))) = (m + 65536 * val 65536 rs) * (m + 65536 * val 65536 rs) * 65536 ^ (2 * i):=by
 rw [eI,eT,eK,List.length_replicate,Nat.zero_add,Nat.mul_comm];rfl
theorem aac {R X : Nat} (h1 : R * R * 65536 ^ (2 * 0) ≤ X) (h2 : X < (R + 1) * (R + 1) * 65536 ^ (2 * 0)) : R = eE X:=xB (by simpa using h1) (by simpa using h2)
theorem Ey (m : Nat) (rs : List Nat) : val 65536 (m :: rs) = m + 65536 * val 65536 rs:=rfl
theorem cY.trimmed {w : World} {b n cap : Nat} {A : Option Addr} {xs : List Nat} (h : cY w b A n cap xs) : cY w w.heap.size A (trim xs).length cap (trim xs):=by
 have h:=(h.take (trim xs).length).here;rwa [← gS] at h
theorem Ez {w : World} {b b' n n' cap cap' : Nat} {A A' : Option Addr} {xs ys : List Nat} (h : cY w b A n cap xs) (k : cY w b' A' n' cap' ys) : ∃ c,sE w c ∧ cY w c A n cap xs ∧ cY w c A' n' cap' ys:=⟨_,⟨Nat.le_refl _⟩,h.here,k.here⟩
theorem Jr {rs : List Nat} {m : Nat} (hm : m < 65536) (h : cZ 65536 rs) : (digs 65536 (val 65536 (m :: rs) * val 65536 (m :: rs))).length ≤ 2 * (rs.length + 1):=by
 refine dQ (by omega) ?_;have h1:=gZ (lA hm h);simp only[List.length_cons] at h1;rw [show 2 * (rs.length + 1) = (rs.length + 1) + (rs.length + 1) by omega,Nat.pow_add];exact Nat.mul_lt_mul'' h1 h1
end Go.Lith
namespace Go.Lith
open Go.RowKit
instance (a : Int) : Decidable (oJ a):=inferInstanceAs (Decidable (_ ∧ _))
def Js (a : Int) : Int:=if oJ a then a else 0
theorem abI {a : Int} {X : Nat} (h : X = a.natAbs) (hl : 4 < (digs 65536 X).length) : ¬ oJ a:=fun k=>by
 have h1 : X < 65536 ^ 4:=by have:=k.natAbs;rw [← h] at this;omega
 have h2:=dQ (B:=65536) (by omega) h1;omega
theorem aad {X j : Nat} (hl : (digs 65536 X).length ≤ 4) (hd : cZ 65536 (digs 65536 X)) (hj : j < (digs 65536 X).length) : val 65536 ((digs 65536 X).drop (j + 1)) < 281474976710656:=by
 have h1:=gZ (hd.drop (j + 1));have h2 : ((digs 65536 X).drop (j + 1)).length ≤ 3:=by rw [List.length_drop];omega
 have h3 : 65536 ^ ((digs 65536 X).drop (j + 1)).length ≤ 65536 ^ 3:=Nat.pow_le_pow_right (by omega) h2;omega
theorem adC {X : Nat} (hl : (digs 65536 X).length ≤ 4) (h : X < 65536 ^ (digs 65536 X).length) : X < 18446744073709551616:=by
 have h3 : 65536 ^ (digs 65536 X).length ≤ 65536 ^ 4:=Nat.pow_le_pow_right (by omega) hl;omega
theorem Hw {a : Int} {X : Nat} (h : X = a.natAbs) : (iE a = true ∧ X ≤ 9223372036854775808 ∧ oJ a ∧ a = -(X : Int)) ∨ (iE a = true ∧ 9223372036854775808 < X ∧ ¬ oJ a) ∨
 (iE a = false ∧ 9223372036854775808 ≤ X ∧ ¬ oJ a) ∨ (iE a = false ∧ X < 9223372036854775808 ∧ oJ a ∧ a = (X : Int)):=by
 unfold oJ iE;rcases Int.lt_or_le a 0 with h0 | h0
 · rw [decide_eq_true h0]
   rcases Nat.lt_or_ge 9223372036854775808 X with h1 | h1
   · exact .inr (.inl ⟨rfl,h1,by omega⟩)
   · exact .inl ⟨rfl,h1,by omega,by omega⟩
 · rw [decide_eq_false (by omega)]
   rcases Nat.lt_or_ge X 9223372036854775808 with h1 | h1
   · exact .inr (.inr (.inr ⟨rfl,h1,by omega,by omega⟩))
   · exact .inr (.inr (.inl ⟨rfl,h1,by omega⟩))
theorem Ae {a : Int} (h : ¬ oJ a) : Value.tuple #[.int .i64 0,.bool false] = .tuple #[.int .i64 (Js a),.bool (decide (oJ a))]:=by rw [Js,if_neg h,decide_eq_false h]
theorem Ch {a n : Int} (h : oJ a) (e : n = a) : Value.tuple #[.int .i64 n,.bool true] = .tuple #[.int .i64 (Js a),.bool (decide (oJ a))]:=by rw [Js,if_pos h,decide_eq_true h,e]
theorem Na {X : Nat} (h : X ≤ 9223372036854775808) : IntKind.i64.wrap (IntKind.u64.wrap (0 - (X : Int))) = -(X : Int):=by
 rw [gU];simp [IntKind.wrap,IntKind.bits,IntKind.signed];split <;> omega
theorem aae {v x V : Nat} (h : v = x + 65536 * V) : ((V : Int) * 65536 + (x : Int)) = (v : Int):=by subst h;rw [Int.natCast_add,Int.natCast_mul];omega
end Go.Lith
namespace Go.Lith
open Go.RowKit
def oA (p q : P3) : Nat:=((q.sub p).dot (q.sub p)).natAbs
def pJ (p q : P3) : Int:=(eE (oA p q) : Int) + if eE (oA p q) * eE (oA p q) = oA p q then 0 else 1
def lH : List Mv → Int → Option Int
 | [],n=>some n
 | m :: ms,n=>if oJ (pJ m.1 m.2) then lH ms (max n (pJ m.1 m.2)) else none
def gR (fine coarse : List T3) (ms : List Mv) : Int × Int :=
 if cX true fine ≠ 0 then (0,cX true fine)
 else if cX true coarse ≠ 0 then (0,cX true coarse)
 else if aU fine ≠ aU coarse then (0,30)
 else if iV fine coarse (aU fine) = true ∨ nJ fine coarse (aU fine) = false then (0,30)
 else if lK fine coarse ms (aU fine) = false then (0,31)
 else if kP fine coarse ms = false then (0,32)
 else match lH ms 0 with
  | some n=>(n,0)
  | none=>(0,3)
/-! ### What CheckOpen says -/
theorem qF {ts : List T3} (h : cX true ts = 0) : Az ts ∧ (bB ts).Nodup:=by
 unfold cX at h;split at h
 · cases h
 · rename_i h1
   split at h
   · cases h
   · rename_i h2
     refine ⟨fun t ht=>?_,?_⟩
     · cases hd : pW t with
       | false=>rfl
       | true=>exact absurd (List.any_eq_true.2 ⟨t,ht,hd⟩) h1
     · rw [xV] at h2
       exact Decidable.not_not.1 fun k=>h2 (decide_eq_true k)
theorem aaf {ts us : List T3} {ms : List Mv} (h : cX true ts ≠ 0) : gR ts us ms = (0,cX true ts):=by rw [gR,if_pos h]
/-! ### One far move -/
end Go.Lith
namespace Go.Proofs.YtfohfflkhpfjeaaGreatDoor
open Go.Proofs.Tryz
open Go.RowKit Go.Lith
set_option maxRecDepth 100000
attribute [local irreducible] wpList wpQuiet dY dO dN Code.wp
theorem Fa {ts : List T3} {N cap : Nat} {A : Option Addr} (w : World) (hT : fA w A N ts) (hN : N ≤ 300000) : eL prog 71 [.slice A N cap] w (OR 48 3 (fun xs=>∃ ps : List P3,xs = ps.flatMap pG ∧ Yx ps ∧ ∀ a,a ∈ ps ↔ a ∈ dZ ts) w):=by
 refine ⟨ae9,?_⟩;have m:=cF.refl w
 go_enter func71,ntmps71
 refine aF fun K1 k1=>wp_region_lit (aA (aD) (aG (k1 _ _ ?_)));refine aF fun K2 k2=>wp_region_lit ?_;simp only[zz];refine kL m ?_;clear m;intro q8 u m;have hD8:=cS.nil (K:=P3) (V:=Bool) pt Value.bool;refine aA (aD) (aG (k2 _ _ ?_));refine aF fun K3 k3=>aF fun K4 k4=>wp_region_lit (aA (aB) (aA (bA rfl bV rfl) ?_));simp only[zz];refine aA (aB) (aG (k4 _ _ ?_));refine wp_block ?_;simp only[zz];try simp only[Nat.zero_add,Nat.reduceAdd,Nat.reduceMul,Int.reduceToNat]
 refine bJ [11] [5,7,12,13,14,15,16,17,18,19,20,21,22,23] (fun n vs wl=>∃ (k : Nat) (es : Array MapEntry) (c : Nat),vs = [.int .i64 (k:Int)] ∧ cF w wl [mI q8 es c] ∧ (cS pt Value.bool (uI [] (dZ (ts.take k))) es c) ∧ (k ≤ N) ∧ (n = N - k)) ?_ ?_
 ·
  apply Exists.intro;simp only[zQ,zR,zD,zE];exact ⟨0,_,_,rfl,m,hD8,Nat.zero_le _,rfl⟩
 ·
  intro n vs wr hI u;clear m;obtain ⟨k,es,c,rfl,m,hD8,hk,hn⟩:=hI;simp only[zu,zF,zG];refine aF fun K5 k5=>wp_region_lit (aA (cO rfl rfl) (aG (k5 _ _ ?_)));refine aF fun K6 k6=>?_;simp only[zz];refine cC rfl (fun hc1=>?_) (fun hc1=>?_)
  ·
   obtain ⟨t,ht,_,a,rfl,hrow⟩:=hT.get (i:=k) (by omega);refine wp_skip (k6 _ _ ?_);refine aF fun K7 k7=>wp_block (aF fun K8 k8=>wp_region_lit (aA (aK bV aS rfl rfl (by omega) (by omega) (bY (Int.toNat_natCast _))) ?_));simp only[zz];refine aL rfl (((hrow.ext m.ext)).lies eF aS) ?_;simp only[zz];refine bH m kB rfl ?_;clear m;intro g2 u m;simp only[zz];refine aT m 0 rfl rfl rfl aS (dX rfl) rfl ?_;clear m;intro u m;simp only[zy,zx,bK,zF,zG,Nat.reduceAdd] at m;refine aG (k8 _ _ ?_);refine aF fun K9 k9=>wp_region_lit (aL rfl ((m.b 0 rfl).full eF aS) ?_);simp only[zz];refine aA (aB) (aG (k9 _ _ ?_));refine wp_block (wp_loop_rounds 4 (dP (aF fun K10 k10=>wp_region_lit (aA (bW (m:=0) (n:=3) rfl rfl (by decide)) (aG (k10 _ _ ?_))))));refine aF fun K11 k11=>cQ rfl (wp_skip (k11 _ _ ?_));refine aF fun K12 k12=>wp_block (aF fun K13 k13=>wp_region_lit (aA (kD rfl rfl) ?_));simp only[zz];refine bH m bU rfl ?_;clear m;intro g3 u m;simp only[zz];refine aT m 0 rfl rfl rfl aC (dX rfl) rfl ?_;clear m;intro u m;simp only[zy,zx,bK,zF,zG,Nat.reduceAdd] at m;refine aG (k13 _ _ ?_);refine wp_region_lit (aA (aB) ?_);simp only[zz];refine aL rfl ((m.b 0 rfl).full aJ aC) ?_;simp only[zz];refine oX m 2 Oz rfl rfl (fun m=>Qc (p:=t.a) m 2 rfl hD8) ?_;clear m;rintro v i u m ⟨rfl,es',c',rfl,hD'⟩;simp only[zF,zG] at m;simp only[zz];clear hD8;have hD8:=hD';clear hD';refine aG (k12 _ _ ?_);refine wp_region_lit (aA (aQ (m:=0) (n:=1) (r:=1) rfl rfl (by decide)) (aA (aB) (aG (aX (aF fun K14 k14=>wp_region_lit (aA (bW (m:=1) (n:=3) rfl rfl (by decide)) (aG (k14 _ _ ?_))))))));refine aF fun K15 k15=>cQ rfl (wp_skip (k15 _ _ ?_));refine aF fun K16 k16=>wp_block (aF fun K17 k17=>wp_region_lit (aA (kE rfl rfl) ?_));simp only[zz];refine bH m bU rfl ?_;clear m;intro g4 u m;simp only[zz];refine aT m 0 rfl rfl rfl aC (dX rfl) rfl ?_;clear m;intro u m;simp only[zy,zx,bK,zF,zG,Nat.reduceAdd] at m;refine aG (k17 _ _ ?_);refine wp_region_lit (aA (aB) ?_);simp only[zz];refine aL rfl ((m.b 0 rfl).full aJ aC) ?_;simp only[zz];refine oX m 3 Oz rfl rfl (fun m=>Qc (p:=t.b) m 3 rfl hD8) ?_;clear m;rintro v i u m ⟨rfl,es',c',rfl,hD'⟩;simp only[zF,zG] at m;simp only[zz];clear hD8;have hD8:=hD';clear hD';refine aG (k16 _ _ ?_);refine wp_region_lit (aA (aQ (m:=1) (n:=1) (r:=2) rfl rfl (by decide)) (aA (aB) (aG (aX (aF fun K18 k18=>wp_region_lit (aA (bW (m:=2) (n:=3) rfl rfl (by decide)) (aG (k18 _ _ ?_))))))));refine aF fun K19 k19=>cQ rfl (wp_skip (k19 _ _ ?_));refine aF fun K20 k20=>wp_block (aF fun K21 k21=>wp_region_lit (aA (kF rfl rfl) ?_));simp only[zz];refine bH m bU rfl ?_;clear m;intro g5 u m;simp only[zz];refine aT m 0 rfl rfl rfl aC (dX rfl) rfl ?_;clear m;intro u m;simp only[zy,zx,bK,zF,zG,Nat.reduceAdd] at m;refine aG (k21 _ _ ?_);refine wp_region_lit (aA (aB) ?_);simp only[zz];refine aL rfl ((m.b 0 rfl).full aJ aC) ?_;simp only[zz];refine oX m 4 Oz rfl rfl (fun m=>Qc (p:=t.c) m 4 rfl hD8) ?_;clear m;rintro v i u m ⟨rfl,es',c',rfl,hD'⟩;simp only[zF,zG] at m;simp only[zz];clear hD8;have hD8:=hD';clear hD';refine aG (k20 _ _ ?_);refine wp_region_lit (aA (aQ (m:=2) (n:=1) (r:=3) rfl rfl (by decide)) (aA (aB) (aG (aX (aF fun K22 k22=>wp_region_lit (aA (eM (m:=3) (n:=3) rfl rfl (by decide)) (aG (k22 _ _ ?_))))))));refine aF fun K23 k23=>iD rfl (wp_exit (k7 _ _ ?_));refine wp_region_lit ?_;simp only[zz];refine aA (aQ rfl rfl (aM (by omega) (by omega))) (aA (aB) (aG ?_));simp only[zz];simp only[Exit.inBlock,Exit.then];refine ⟨N - (k + 1),_,?_,rfl,?_,?_⟩
   · omega
   · simp only[zz,zv]
   ·
    simp only[zQ,zR,zD,zE];exact ⟨k + 1,_,_,rfl,(m.sel [false,false,false,false,true]),by rw [Pm ht];exact hD8,by omega,rfl⟩
  ·
   have hkN : k = N:=by omega
   rw [hkN,show ts.take N = ts from List.take_of_length_le (by rw [hT.len];exact Nat.le_refl _)] at hD8;refine wp_exit (k3 _ _ ?_);refine aF fun K24 k24=>wp_region_lit (aA (aB) ?_);simp only[zz];refine bE rfl rfl (Uw _ (m.p 0 rfl) hD8 (by have h1:=xS (dZ ts) [];have h2:=xT ts;have h3:=hT.len;simp only[List.length_nil] at h1;omega)) ?_;rintro v u e ⟨A9,n9,cap9,_,rfl,hN,ps,rfl,hps,hso⟩;replace m:=m.newO e hN;clear e hN;refine aA (aD) (aG (k24 _ _ ?_));refine wp_ret ?_;simp only[zz];try simp only[Exit.inBlock,Exit.then,if_true]
   refine bS rfl rfl ?_;try simp only[zD,zE]
   exact ⟨_,rfl,m.ext,_,_,_,_,rfl,(m.o 0 rfl),ps,rfl,Un (hps.nodup_iff.2 (Aw _ _ .nil)) hso,fun a=>by rw [hps.mem_iff,Hi];simp⟩
end Go.Proofs.YtfohfflkhpfjeaaGreatDoor
namespace Go.Proofs.YtfohfflkhpfjeaaGreatDoor
open Go.Proofs.Tryz
open Go.RowKit Go.Lith
set_option maxRecDepth 100000
attribute [local irreducible] wpList wpQuiet dY dO dN Code.wp
theorem nM : rB prog 57 ed:=by
 refine rB.agg (cs:=fun p=>#[.int .i64 p.1.x,.int .i64 p.1.y,.int .i64 p.1.z,.int .i64 p.2.x,.int .i64 p.2.y,.int .i64 p.2.z]) (fun _=>rfl) cH (fun e p=>?_) (fun p q=>?_) (fun p=>?_)
 ·
  refine rI.array (d:=9999) cH aC fun i hi=>?_;obtain rfl | rfl:=(by omega : i = 0 ∨ i = 1)
  ·
   refine ⟨_,fP aJ aC rfl,?_⟩;refine rI.struct (d:=9998) dW fun f hf=>?_;simp only[List.mem_cons,List.not_mem_nil,or_false] at hf;rcases hf with rfl | rfl | rfl
   · exact ⟨_,dR bZ rfl,rI.int (d:=9997) iT⟩
   · exact ⟨_,dR bZ rfl,rI.int (d:=9997) iT⟩
   · exact ⟨_,dR bZ rfl,rI.int (d:=9997) iT⟩
  ·
   refine ⟨_,fP aJ aC rfl,?_⟩;refine rI.struct (d:=9998) dW fun f hf=>?_;simp only[List.mem_cons,List.not_mem_nil,or_false] at hf;rcases hf with rfl | rfl | rfl
   · exact ⟨_,dR bZ rfl,rI.int (d:=9997) iT⟩
   · exact ⟨_,dR bZ rfl,rI.int (d:=9997) iT⟩
   · exact ⟨_,dR bZ rfl,rI.int (d:=9997) iT⟩
 · exact (Pg _).iff ⟨fun h=>Prod.ext (P3.eq (h.1) (h.2.1) (h.2.2.1)) (P3.eq (h.2.2.2.1) (h.2.2.2.2.1) (h.2.2.2.2.2)),fun h=>by subst h;simp only[and_self]⟩
 · simp [ed,Instr.sameBits]
theorem Fb {ts : List T3} {N cap : Nat} {A : Option Addr} (w : World) (hT : fA w A N ts) (hN : N ≤ 10000000) : eL prog 70 [.slice A N cap] w (fun v w'=>∃ g es c,v = .map (some g) ∧ cF w w' [mI g es c] ∧ cS ed Value.bool (gB [] (lL ts)) es c):=by
 refine ⟨ae8,?_⟩;have m:=cF.refl w
 go_enter func70,ntmps70
 refine aF fun K1 k1=>wp_region_lit (aA (aD) (aG (k1 _ _ ?_)));refine aF fun K2 k2=>wp_region_lit ?_;simp only[zz];refine kL m ?_;clear m;intro q8 u m;have hD8:=cS.nil (K:=E3) (V:=Bool) ed Value.bool;refine aA (aD) (aG (k2 _ _ ?_));refine aF fun K3 k3=>aF fun K4 k4=>wp_region_lit (aA (aB) (aA (bA rfl bV rfl) ?_));simp only[zz];refine aA (aB) (aG (k4 _ _ ?_));refine wp_block ?_;simp only[zz];try simp only[Nat.zero_add,Nat.reduceAdd,Nat.reduceMul,Int.reduceToNat]
 refine bJ [13] [5,7,9,14,15,16,17,18,19,20,21,22,23,24,25,26,27,28,29,30,31] (fun n vs wl=>∃ (k : Nat) (es : Array MapEntry) (c : Nat),vs = [.int .i64 (k:Int)] ∧ cF w wl [mI q8 es c] ∧ (cS ed Value.bool (gB [] (lL (ts.take k))) es c) ∧ (k ≤ N) ∧ (n = N - k)) ?_ ?_
 ·
  apply Exists.intro;simp only[zQ,zR,zD,zE];exact ⟨0,_,_,rfl,m,hD8,Nat.zero_le _,rfl⟩
 ·
  intro n vs wr hI u;clear m;obtain ⟨k,es8,c8,rfl,m,hD8,hk,hn⟩:=hI;simp only[zu,zF,zG];refine aF fun K5 k5=>wp_region_lit (aA (cO rfl rfl) (aG (k5 _ _ ?_)));refine aF fun K6 k6=>?_;simp only[zz];refine cC rfl (fun hc1=>?_) (fun hc1=>?_)
  ·
   obtain ⟨t,ht,_,a,rfl,hrow⟩:=hT.get (i:=k) (by omega);refine wp_skip (k6 _ _ ?_);refine aF fun K7 k7=>wp_block (aF fun K8 k8=>wp_region_lit (aA (aK bV aS rfl rfl (by omega) (by omega) (bY (Int.toNat_natCast _))) ?_));simp only[zz];refine aL rfl ((hrow.ext m.ext).lies eF aS) ?_;simp only[zz];refine bH m kB rfl ?_;clear m;intro g2 u m;simp only[zz];refine aT m 0 rfl rfl rfl aS (dX rfl) rfl ?_;clear m;intro u m;simp only[zy,zx,bK,zF,zG,Nat.reduceAdd] at m;refine aG (k8 _ _ ?_);refine aF fun K9 k9=>wp_region_lit (aL rfl ((m.b 0 rfl).full eF aS) ?_);simp only[zz];refine aA (aB) (aG (k9 _ _ ?_));refine wp_block (wp_loop_rounds 4 (dP (aF fun K10 k10=>wp_region_lit (aA (bW (m:=0) (n:=3) rfl rfl (by decide)) (aG (k10 _ _ ?_))))));refine aF fun K11 k11=>cQ rfl (wp_skip (k11 _ _ ?_));refine aF fun K12 k12=>wp_block (aF fun K13 k13=>wp_region_lit (aA (kD rfl rfl) ?_));simp only[zz];refine bH m bU rfl ?_;clear m;intro g3 u m;simp only[zz];refine aT m 0 rfl rfl rfl aC (dX rfl) rfl ?_;clear m;intro u m;simp only[zy,zx,bK,zF,zG,Nat.reduceAdd] at m;refine aG (k13 _ _ ?_);refine aF fun K14 k14=>wp_region_lit (aL rfl ((m.b 1 rfl).full eF aS) ?_);simp only[zz];refine aA (aB) (aG (k14 _ _ ?_));refine wp_block (wp_loop_rounds 4 (dP (aF fun K15 k15=>wp_region_lit (aA (bW (m:=0) (n:=3) rfl rfl (by decide)) (aG (k15 _ _ ?_))))));refine aF fun K16 k16=>cQ rfl (wp_skip (k16 _ _ ?_));refine aF fun K17 k17=>wp_block (aF fun K18 k18=>wp_region_lit (aA (kD rfl rfl) ?_));simp only[zz];refine bH m bU rfl ?_;clear m;intro g4 u m;simp only[zz];refine aT m 0 rfl rfl rfl aC (dX rfl) rfl ?_;clear m;intro u m;simp only[zy,zx,bK,zF,zG,Nat.reduceAdd] at m;refine aG (k18 _ _ ?_);refine wp_region_lit (aA (aB) ?_);simp only[zz];refine aL rfl ((m.b 1 rfl).full aJ aC) ?_;simp only[zz];refine aL rfl ((m.b 0 rfl).full aJ aC) ?_;simp only[zz];refine aA (cL rfl rfl) ?_;simp only[zz];refine fT (ek:=ed) (en:=Value.bool) (a:=(t.a,t.a)) (v:=true) m 3 rfl nY nM rfl rfl rfl hD8 ?_;clear m;intro es8 c8 u m hD';clear hD8;have hD8:=hD';clear hD';simp only[zF,zG] at m;refine aG (k17 _ _ ?_);refine wp_region_lit (aA (aQ (m:=0) (n:=1) (r:=1) rfl rfl (by decide)) (aA (aB) (aG (aX (aF fun K19 k19=>wp_region_lit (aA (bW (m:=1) (n:=3) rfl rfl (by decide)) (aG (k19 _ _ ?_))))))));refine aF fun K20 k20=>cQ rfl (wp_skip (k20 _ _ ?_));refine aF fun K21 k21=>wp_block (aF fun K22 k22=>wp_region_lit (aA (kE rfl rfl) ?_));simp only[zz];refine bH m bU rfl ?_;clear m;intro g5 u m;simp only[zz];refine aT m 0 rfl rfl rfl aC (dX rfl) rfl ?_;clear m;intro u m;simp only[zy,zx,bK,zF,zG,Nat.reduceAdd] at m;refine aG (k22 _ _ ?_);refine wp_region_lit (aA (aB) ?_);simp only[zz];refine aL rfl ((m.b 2 rfl).full aJ aC) ?_;simp only[zz];refine aL rfl ((m.b 0 rfl).full aJ aC) ?_;simp only[zz];refine aA (cL rfl rfl) ?_;simp only[zz];refine fT (ek:=ed) (en:=Value.bool) (a:=(t.a,t.b)) (v:=true) m 4 rfl nY nM rfl rfl rfl hD8 ?_;clear m;intro es8 c8 u m hD';clear hD8;have hD8:=hD';clear hD';simp only[zF,zG] at m;refine aG (k21 _ _ ?_);refine wp_region_lit (aA (aQ (m:=1) (n:=1) (r:=2) rfl rfl (by decide)) (aA (aB) (aG (aX (aF fun K23 k23=>wp_region_lit (aA (bW (m:=2) (n:=3) rfl rfl (by decide)) (aG (k23 _ _ ?_))))))));refine aF fun K24 k24=>cQ rfl (wp_skip (k24 _ _ ?_));refine aF fun K25 k25=>wp_block (aF fun K26 k26=>wp_region_lit (aA (kF rfl rfl) ?_));simp only[zz];refine bH m bU rfl ?_;clear m;intro g6 u m;simp only[zz];refine aT m 0 rfl rfl rfl aC (dX rfl) rfl ?_;clear m;intro u m;simp only[zy,zx,bK,zF,zG,Nat.reduceAdd] at m;refine aG (k26 _ _ ?_);refine wp_region_lit (aA (aB) ?_);simp only[zz];refine aL rfl ((m.b 3 rfl).full aJ aC) ?_;simp only[zz];refine aL rfl ((m.b 0 rfl).full aJ aC) ?_;simp only[zz];refine aA (cL rfl rfl) ?_;simp only[zz];refine fT (ek:=ed) (en:=Value.bool) (a:=(t.a,t.c)) (v:=true) m 5 rfl nY nM rfl rfl rfl hD8 ?_;clear m;intro es8 c8 u m hD';clear hD8;have hD8:=hD';clear hD';simp only[zF,zG] at m;refine aG (k25 _ _ ?_);refine wp_region_lit (aA (aQ (m:=2) (n:=1) (r:=3) rfl rfl (by decide)) (aA (aB) (aG (aX (aF fun K27 k27=>wp_region_lit (aA (eM (m:=3) (n:=3) rfl rfl (by decide)) (aG (k27 _ _ ?_))))))));refine aF fun K28 k28=>iD rfl (wp_exit (k12 _ _ ?_));refine wp_region_lit (aA (aQ (m:=0) (n:=1) (r:=1) rfl rfl (by decide)) ?_);simp only[zz];refine aA (aB) (aG (aX (aF fun K29 k29=>wp_region_lit (aA (bW (m:=1) (n:=3) rfl rfl (by decide)) (aG (k29 _ _ ?_))))));refine aF fun K30 k30=>cQ rfl (wp_skip (k30 _ _ ?_));refine aF fun K31 k31=>wp_block (aF fun K32 k32=>wp_region_lit (aA (kE rfl rfl) ?_));simp only[zz];refine bH m bU rfl ?_;clear m;intro g7 u m;simp only[zz];refine aT m 0 rfl rfl rfl aC (dX rfl) rfl ?_;clear m;intro u m;simp only[zy,zx,bK,zF,zG,Nat.reduceAdd] at m;refine aG (k32 _ _ ?_);refine aF fun K33 k33=>wp_region_lit (aL rfl ((m.b 5 rfl).full eF aS) ?_);simp only[zz];refine aA (aB) (aG (k33 _ _ ?_));refine wp_block (wp_loop_rounds 4 (dP (aF fun K34 k34=>wp_region_lit (aA (bW (m:=0) (n:=3) rfl rfl (by decide)) (aG (k34 _ _ ?_))))));refine aF fun K35 k35=>cQ rfl (wp_skip (k35 _ _ ?_));refine aF fun K36 k36=>wp_block (aF fun K37 k37=>wp_region_lit (aA (kD rfl rfl) ?_));simp only[zz];refine bH m bU rfl ?_;clear m;intro g8 u m;simp only[zz];refine aT m 0 rfl rfl rfl aC (dX rfl) rfl ?_;clear m;intro u m;simp only[zy,zx,bK,zF,zG,Nat.reduceAdd] at m;refine aG (k37 _ _ ?_);refine wp_region_lit (aA (aB) ?_);simp only[zz];refine aL rfl ((m.b 1 rfl).full aJ aC) ?_;simp only[zz];refine aL rfl ((m.b 0 rfl).full aJ aC) ?_;simp only[zz];refine aA (cL rfl rfl) ?_;simp only[zz];refine fT (ek:=ed) (en:=Value.bool) (a:=(t.b,t.a)) (v:=true) m 7 rfl nY nM rfl rfl rfl hD8 ?_;clear m;intro es8 c8 u m hD';clear hD8;have hD8:=hD';clear hD';simp only[zF,zG] at m;refine aG (k36 _ _ ?_);refine wp_region_lit (aA (aQ (m:=0) (n:=1) (r:=1) rfl rfl (by decide)) (aA (aB) (aG (aX (aF fun K38 k38=>wp_region_lit (aA (bW (m:=1) (n:=3) rfl rfl (by decide)) (aG (k38 _ _ ?_))))))));refine aF fun K39 k39=>cQ rfl (wp_skip (k39 _ _ ?_));refine aF fun K40 k40=>wp_block (aF fun K41 k41=>wp_region_lit (aA (kE rfl rfl) ?_));simp only[zz];refine bH m bU rfl ?_;clear m;intro g9 u m;simp only[zz];refine aT m 0 rfl rfl rfl aC (dX rfl) rfl ?_;clear m;intro u m;simp only[zy,zx,bK,zF,zG,Nat.reduceAdd] at m;refine aG (k41 _ _ ?_);refine wp_region_lit (aA (aB) ?_);simp only[zz];refine aL rfl ((m.b 2 rfl).full aJ aC) ?_;simp only[zz];refine aL rfl ((m.b 0 rfl).full aJ aC) ?_;simp only[zz];refine aA (cL rfl rfl) ?_;simp only[zz];refine fT (ek:=ed) (en:=Value.bool) (a:=(t.b,t.b)) (v:=true) m 8 rfl nY nM rfl rfl rfl hD8 ?_;clear m;intro es8 c8 u m hD';clear hD8;have hD8:=hD';clear hD';simp only[zF,zG] at m;refine aG (k40 _ _ ?_);refine wp_region_lit (aA (aQ (m:=1) (n:=1) (r:=2) rfl rfl (by decide)) (aA (aB) (aG (aX (aF fun K42 k42=>wp_region_lit (aA (bW (m:=2) (n:=3) rfl rfl (by decide)) (aG (k42 _ _ ?_))))))));refine aF fun K43 k43=>cQ rfl (wp_skip (k43 _ _ ?_));refine aF fun K44 k44=>wp_block (aF fun K45 k45=>wp_region_lit (aA (kF rfl rfl) ?_));simp only[zz];refine bH m bU rfl ?_;clear m;intro g10 u m;simp only[zz];refine aT m 0 rfl rfl rfl aC (dX rfl) rfl ?_;clear m;intro u m;simp only[zy,zx,bK,zF,zG,Nat.reduceAdd] at m;refine aG (k45 _ _ ?_);refine wp_region_lit (aA (aB) ?_);simp only[zz];refine aL rfl ((m.b 3 rfl).full aJ aC) ?_;simp only[zz];refine aL rfl ((m.b 0 rfl).full aJ aC) ?_;simp only[zz];refine aA (cL rfl rfl) ?_;simp only[zz];refine fT (ek:=ed) (en:=Value.bool) (a:=(t.b,t.c)) (v:=true) m 9 rfl nY nM rfl rfl rfl hD8 ?_;clear m;intro es8 c8 u m hD';clear hD8;have hD8:=hD';clear hD';simp only[zF,zG] at m;refine aG (k44 _ _ ?_);refine wp_region_lit (aA (aQ (m:=2) (n:=1) (r:=3) rfl rfl (by decide)) (aA (aB) (aG (aX (aF fun K46 k46=>wp_region_lit (aA (eM (m:=3) (n:=3) rfl rfl (by decide)) (aG (k46 _ _ ?_))))))));refine aF fun K47 k47=>iD rfl (wp_exit (k31 _ _ ?_));refine wp_region_lit (aA (aQ (m:=1) (n:=1) (r:=2) rfl rfl (by decide)) ?_);simp only[zz];refine aA (aB) (aG (aX (aF fun K48 k48=>wp_region_lit (aA (bW (m:=2) (n:=3) rfl rfl (by decide)) (aG (k48 _ _ ?_))))));refine aF fun K49 k49=>cQ rfl (wp_skip (k49 _ _ ?_));refine aF fun K50 k50=>wp_block (aF fun K51 k51=>wp_region_lit (aA (kF rfl rfl) ?_));simp only[zz];refine bH m bU rfl ?_;clear m;intro g11 u m;simp only[zz];refine aT m 0 rfl rfl rfl aC (dX rfl) rfl ?_;clear m;intro u m;simp only[zy,zx,bK,zF,zG,Nat.reduceAdd] at m;refine aG (k51 _ _ ?_);refine aF fun K52 k52=>wp_region_lit (aL rfl ((m.b 9 rfl).full eF aS) ?_);simp only[zz];refine aA (aB) (aG (k52 _ _ ?_));refine wp_block (wp_loop_rounds 4 (dP (aF fun K53 k53=>wp_region_lit (aA (bW (m:=0) (n:=3) rfl rfl (by decide)) (aG (k53 _ _ ?_))))));refine aF fun K54 k54=>cQ rfl (wp_skip (k54 _ _ ?_));refine aF fun K55 k55=>wp_block (aF fun K56 k56=>wp_region_lit (aA (kD rfl rfl) ?_));simp only[zz];refine bH m bU rfl ?_;clear m;intro g12 u m;simp only[zz];refine aT m 0 rfl rfl rfl aC (dX rfl) rfl ?_;clear m;intro u m;simp only[zy,zx,bK,zF,zG,Nat.reduceAdd] at m;refine aG (k56 _ _ ?_);refine wp_region_lit (aA (aB) ?_);simp only[zz];refine aL rfl ((m.b 1 rfl).full aJ aC) ?_;simp only[zz];refine aL rfl ((m.b 0 rfl).full aJ aC) ?_;simp only[zz];refine aA (cL rfl rfl) ?_;simp only[zz];refine fT (ek:=ed) (en:=Value.bool) (a:=(t.c,t.a)) (v:=true) m 11 rfl nY nM rfl rfl rfl hD8 ?_;clear m;intro es8 c8 u m hD';clear hD8;have hD8:=hD';clear hD';simp only[zF,zG] at m;refine aG (k55 _ _ ?_);refine wp_region_lit (aA (aQ (m:=0) (n:=1) (r:=1) rfl rfl (by decide)) (aA (aB) (aG (aX (aF fun K57 k57=>wp_region_lit (aA (bW (m:=1) (n:=3) rfl rfl (by decide)) (aG (k57 _ _ ?_))))))));refine aF fun K58 k58=>cQ rfl (wp_skip (k58 _ _ ?_));refine aF fun K59 k59=>wp_block (aF fun K60 k60=>wp_region_lit (aA (kE rfl rfl) ?_));simp only[zz];refine bH m bU rfl ?_;clear m;intro g13 u m;simp only[zz];refine aT m 0 rfl rfl rfl aC (dX rfl) rfl ?_;clear m;intro u m;simp only[zy,zx,bK,zF,zG,Nat.reduceAdd] at m;refine aG (k60 _ _ ?_);refine wp_region_lit (aA (aB) ?_);simp only[zz];refine aL rfl ((m.b 2 rfl).full aJ aC) ?_;simp only[zz];refine aL rfl ((m.b 0 rfl).full aJ aC) ?_;simp only[zz];refine aA (cL rfl rfl) ?_;simp only[zz];refine fT (ek:=ed) (en:=Value.bool) (a:=(t.c,t.b)) (v:=true) m 12 rfl nY nM rfl rfl rfl hD8 ?_;clear m;intro es8 c8 u m hD';clear hD8;have hD8:=hD';clear hD';simp only[zF,zG] at m;refine aG (k59 _ _ ?_);refine wp_region_lit (aA (aQ (m:=1) (n:=1) (r:=2) rfl rfl (by decide)) (aA (aB) (aG (aX (aF fun K61 k61=>wp_region_lit (aA (bW (m:=2) (n:=3) rfl rfl (by decide)) (aG (k61 _ _ ?_))))))));refine aF fun K62 k62=>cQ rfl (wp_skip (k62 _ _ ?_));refine aF fun K63 k63=>wp_block (aF fun K64 k64=>wp_region_lit (aA (kF rfl rfl) ?_));simp only[zz];refine bH m bU rfl ?_;clear m;intro g14 u m;simp only[zz];refine aT m 0 rfl rfl rfl aC (dX rfl) rfl ?_;clear m;intro u m;simp only[zy,zx,bK,zF,zG,Nat.reduceAdd] at m;refine aG (k64 _ _ ?_);refine wp_region_lit (aA (aB) ?_);simp only[zz];refine aL rfl ((m.b 3 rfl).full aJ aC) ?_;simp only[zz];refine aL rfl ((m.b 0 rfl).full aJ aC) ?_;simp only[zz];refine aA (cL rfl rfl) ?_;simp only[zz];refine fT (ek:=ed) (en:=Value.bool) (a:=(t.c,t.c)) (v:=true) m 13 rfl nY nM rfl rfl rfl hD8 ?_;clear m;intro es8 c8 u m hD';clear hD8;have hD8:=hD';clear hD';simp only[zF,zG] at m;refine aG (k63 _ _ ?_);refine wp_region_lit (aA (aQ (m:=2) (n:=1) (r:=3) rfl rfl (by decide)) (aA (aB) (aG (aX (aF fun K65 k65=>wp_region_lit (aA (eM (m:=3) (n:=3) rfl rfl (by decide)) (aG (k65 _ _ ?_))))))));refine aF fun K66 k66=>iD rfl (wp_exit (k50 _ _ ?_));refine wp_region_lit (aA (aQ (m:=2) (n:=1) (r:=3) rfl rfl (by decide)) ?_);simp only[zz];refine aA (aB) (aG (aX (aF fun K67 k67=>wp_region_lit (aA (eM (m:=3) (n:=3) rfl rfl (by decide)) (aG (k67 _ _ ?_))))));refine aF fun K68 k68=>iD rfl (wp_exit (k7 _ _ ?_));refine wp_region_lit ?_;simp only[zz];refine aA (aQ rfl rfl (aM (by omega) (by omega))) (aA (aB) (aG ?_));simp only[zz];simp only[Exit.inBlock,Exit.then];refine ⟨N - (k + 1),_,?_,rfl,?_,?_⟩
   · omega
   · simp only[zz,zv]
   ·
    simp only[zQ,zR,zD,zE];exact ⟨k + 1,_,_,rfl,(m.sel [false,false,false,false,false,false,false,false,false,false,false,false,false,true]),by rw [Pu ht,Mc];exact hD8,by omega,rfl⟩
  ·
   have hkN : k = N:=by omega
   rw [hkN,show ts.take N = ts from List.take_of_length_le (by rw [hT.len];exact Nat.le_refl _)] at hD8;refine wp_exit (k3 _ _ ?_);refine aF fun K69 k69=>wp_region_lit (aA (aB) (aA (aD) (aG (k69 _ _ ?_))));refine wp_ret ?_;simp only[zz];try simp only[Exit.inBlock,Exit.then,if_true]
   refine bS rfl rfl ?_;try simp only[zD,zE]
   exact ⟨_,rfl,m.ext,_,_,_,rfl,m,hD8⟩
theorem aag {ps : List P3} {N cap : Nat} {A : Option Addr} (w : World) (hL : oU uC 3 w A N ps) (hN : N ≤ 9223372036854775807) : eL prog 72 [.slice A N cap] w (fun v w'=>∃ g es c,v = .map (some g) ∧ cF w w' [mI g es c] ∧ cS pt Value.bool (gB [] ps) es c):=by
 refine ⟨afa,?_⟩;have m:=cF.refl w
 go_enter func72,ntmps72
 refine aF fun K1 k1=>wp_region_lit (aA (aD) (aG (k1 _ _ ?_)));refine aF fun K2 k2=>wp_region_lit ?_;simp only[zz];refine kL m ?_;clear m;intro q8 u m;have hD8:=cS.nil (K:=P3) (V:=Bool) pt Value.bool;refine aA (aD) (aG (k2 _ _ ?_));refine aF fun K3 k3=>aF fun K4 k4=>wp_region_lit (aA (aB) (aA (bA rfl kK rfl) ?_));simp only[zz];refine aA (aB) (aG (k4 _ _ ?_));refine wp_block ?_;simp only[zz];try simp only[Nat.zero_add,Nat.reduceAdd,Nat.reduceMul,Int.reduceToNat]
 refine bJ [9] [5,10,11,12,13,14,15] (fun n vs wl=>∃ (k : Nat) (es : Array MapEntry) (c : Nat),vs = [.int .i64 (k:Int)] ∧ cF w wl [mI q8 es c] ∧ (cS pt Value.bool (gB [] (ps.take k)) es c) ∧ (k ≤ N) ∧ (n = N - k)) ?_ ?_
 ·
  apply Exists.intro;simp only[zQ,zR,zD,zE];exact ⟨0,_,_,rfl,m,hD8,Nat.zero_le _,rfl⟩
 ·
  intro n vs wr hI u;clear m;obtain ⟨k,es8,c8,rfl,m,hD8,hk,hn⟩:=hI;simp only[zu,zF,zG];refine aF fun K5 k5=>wp_region_lit (aA (cO rfl rfl) (aG (k5 _ _ ?_)));refine aF fun K6 k6=>?_;simp only[zz];refine cC rfl (fun hc1=>?_) (fun hc1=>?_)
  ·
   obtain ⟨x,hx,a,rfl,hrow⟩:=hL.get (i:=k) (by omega);refine wp_skip (k6 _ _ ?_);refine aF fun K7 k7=>wp_block (aF fun K8 k8=>wp_region_lit (aA (aK kK aC rfl rfl (by omega) (by omega) (bY (Int.toNat_natCast _))) ?_));simp only[zz];refine aL rfl ((hrow.ext m.ext).lies aJ aC) ?_;simp only[zz];refine bH m bU rfl ?_;clear m;intro g2 u m;simp only[zz];refine aT m 0 rfl rfl rfl aC (dX rfl) rfl ?_;clear m;intro u m;simp only[zy,zx,bK,zF,zG,Nat.reduceAdd] at m;refine aG (k8 _ _ ?_);refine wp_region_lit (aA (aB) ?_);simp only[zz];refine aL rfl ((m.b 0 rfl).full aJ aC) ?_;simp only[zz];refine fT (ek:=pt) (en:=Value.bool) (a:=x) (v:=true) m 1 rfl nH iC rfl rfl rfl hD8 ?_;clear m;intro es8 c8 u m hD';clear hD8;have hD8:=hD';clear hD';simp only[zF,zG] at m;refine aG (k7 _ _ ?_);refine wp_region_lit (aA (aQ rfl rfl (aM (by omega) (by omega))) (aA (aB) (aG ?_)));simp only[zz];simp only[Exit.inBlock,Exit.then];refine ⟨N - (k + 1),_,?_,rfl,?_,?_⟩
   · omega
   · simp only[zz,zv]
   ·
    simp only[zQ,zR,zD,zE];exact ⟨k + 1,_,_,rfl,(m.sel [false,true]),by rw [dJ hx,mR];exact hD8,by omega,rfl⟩
  ·
   have hkN : k = N:=by omega
   rw [hkN,show ps.take N = ps from List.take_of_length_le (by rw [hL.len];exact Nat.le_refl _)] at hD8;refine wp_exit (k3 _ _ ?_);refine aF fun K9 k9=>wp_region_lit (aA (aB) (aA (aD) (aG (k9 _ _ ?_))));refine wp_ret ?_;simp only[zz];try simp only[Exit.inBlock,Exit.then,if_true]
   refine bS rfl rfl ?_;try simp only[zD,zE]
   exact ⟨_,rfl,m.ext,_,_,_,rfl,m,hD8⟩
theorem Vh {ts : List T3} {rim : List E3} {k : Nat} {e : E3} (h : rim[k]? = some e) : vY ts (rim.take (k + 1)) = vY ts (rim.take k) ++ [(e,sC ts e.1 ts.length e.2)]:=by
 rw [dJ h];simp [vY]
theorem aah {ts : List T3} {N cap : Nat} {A : Option Addr} {rim : List E3} {M cap2 : Nat} {A2 : Option Addr} (w : World) (hT : fA w A N ts) (hN : N ≤ 10000000) (hL : oU cB 6 w A2 M rim) (hM : M ≤ 100000000) (hdg : Az ts) (hnd : (bB ts).Nodup) (hrim : ∀ e ∈ rim,(e.2,e.1) ∉ bB ts) : eL prog 69 [.slice A N cap,.slice A2 M cap2] w (fun v w'=>∃ g es c,v = .map (some g) ∧ cF w w' [mI g es c] ∧ cS ed pt (mU [] (vY ts rim)) es c):=by
 refine ⟨ae7,?_⟩;have m:=cF.refl w
 go_enter func69,ntmps69
 refine aF fun K1 k1=>wp_region_lit (aA (aD) (aG (k1 _ _ ?_)));refine aF fun K2 k2=>wp_region_lit ?_;simp only[zz];refine kL m ?_;clear m;intro q8 u m;have hD8:=cS.nil (K:=E3) (V:=P3) ed pt;refine aA (aD) (aG (k2 _ _ ?_));refine aF fun K3 k3=>aF fun K4 k4=>wp_region_lit (aA (aB) (aA (bA rfl bV rfl) ?_));simp only[zz];refine aA (aB) (aG (k4 _ _ ?_));refine wp_block ?_;simp only[zz];try simp only[Nat.zero_add,Nat.reduceAdd,Nat.reduceMul,Int.reduceToNat]
 refine bJ [19] [7,8,9,20,21,22,23,24,25,26,27,28,29,30,31,32,33,34,35,36,37,38,39,40,41,42] (fun n vs wl=>∃ (k : Nat) (es : Array MapEntry) (c : Nat),vs = [.int .i64 (k:Int)] ∧ cF w wl [mI q8 es c] ∧ (cS ed pt (mU [] (jK (ts.take k))) es c) ∧ (k ≤ N) ∧ (n = N - k)) ?_ ?_
 ·
  apply Exists.intro;simp only[zQ,zR,zD,zE];exact ⟨0,_,_,rfl,m,hD8,Nat.zero_le _,rfl⟩
 ·
  intro n vs wr hI u;clear m;obtain ⟨k,es8,c8,rfl,m,hD8,hk,hn⟩:=hI;simp only[zu,zF,zG];refine aF fun K5 k5=>wp_region_lit (aA (cO rfl rfl) (aG (k5 _ _ ?_)));refine aF fun K6 k6=>?_;simp only[zz];refine cC rfl (fun hc1=>?_) (fun hc1=>?_)
  ·
   obtain ⟨t,ht,_,a,rfl,hrow⟩:=hT.get (i:=k) (by omega);refine wp_skip (k6 _ _ ?_);refine aF fun K7 k7=>wp_block (aF fun K8 k8=>wp_region_lit (aA (aK bV aS rfl rfl (by omega) (by omega) (bY (Int.toNat_natCast _))) ?_));simp only[zz];refine aL rfl ((hrow.ext m.ext).lies eF aS) ?_;simp only[zz];refine bH m kB rfl ?_;clear m;intro g2 u m;simp only[zz];refine aT m 0 rfl rfl rfl aS (dX rfl) rfl ?_;clear m;intro u m;simp only[zy,zx,bK,zF,zG,Nat.reduceAdd] at m;refine aG (k8 _ _ ?_);refine aF fun K9 k9=>wp_region_lit (aL rfl ((m.b 0 rfl).full eF aS) ?_);simp only[zz];refine aA (aB) (aG (k9 _ _ ?_));refine wp_block (wp_loop_rounds 4 (dP (aF fun K10 k10=>wp_region_lit (aA (bW (m:=0) (n:=3) rfl rfl (by decide)) (aG (k10 _ _ ?_))))));refine aF fun K11 k11=>cQ rfl (wp_skip (k11 _ _ ?_));refine aF fun K12 k12=>wp_block (aF fun K13 k13=>wp_region_lit (aA (aB) (aA (kD rfl rfl) ?_)));simp only[zz];refine bH m bU rfl ?_;clear m;intro g3 u m;refine aA (aD) ?_;simp only[zz];refine aT m 0 rfl rfl rfl aC (dX rfl) rfl ?_;clear m;intro u m;simp only[zy,zx,bK,zF,zG,Nat.reduceAdd] at m;refine aG (k13 _ _ ?_);refine gN m 13 aP (by kernel_rfl) ?_;simp only[zy];refine aI (aB) ?_;simp only[zz];refine ql rfl (fun u m=>((m.b 0 rfl).full aJ aC)) ?_;simp only[zz];refine aI (aB) (aI (aQ (m:=0) (n:=1) (r:=1) rfl rfl (by decide)) (aI (cE (m:=1) (n:=3) (r:=1) rfl rfl (by decide) (by decide)) (aI (aH aY aC rfl rfl (by decide) (by decide) rfl) ?_)));simp only[zz];refine ql rfl (fun u m=>((m.b 1 rfl).lies aJ aC rfl rfl)) ?_;simp only[zz,zy,Nat.zero_add,Nat.reduceAdd,Nat.reduceMul,Int.reduceToNat];refine aI (cL rfl rfl) (aI (aB) (aI (aQ (m:=0) (n:=2) (r:=2) rfl rfl (by decide)) (aI (cE (m:=2) (n:=3) (r:=2) rfl rfl (by decide) (by decide)) ?_)));simp only[zz];refine aI (aH aY aC rfl rfl (by decide) (by decide) rfl) ?_;simp only[zz];refine ql rfl (fun u m=>((m.b 1 rfl).lies aJ aC rfl rfl)) ?_;simp only[zz,zy,Nat.zero_add,Nat.reduceAdd,Nat.reduceMul,Int.reduceToNat];refine cP ?_;clear m;intro u m;refine fT (ek:=ed) (en:=pt) (a:=(t.a,t.b)) (v:=t.c) m 2 rfl tE nM rfl rfl rfl hD8 ?_;clear m;intro es8 c8 u m hD';clear hD8;have hD8:=hD';clear hD';simp only[zF,zG] at m;rw [← nZ] at hD8;refine aG (k12 _ _ ?_);refine wp_region_lit (aA (aQ (m:=0) (n:=1) (r:=1) rfl rfl (by decide)) (aA (aB) (aG (aX (aF fun K14 k14=>wp_region_lit (aA (bW (m:=1) (n:=3) rfl rfl (by decide)) (aG (k14 _ _ ?_))))))));refine aF fun K15 k15=>cQ rfl (wp_skip (k15 _ _ ?_));refine aF fun K16 k16=>wp_block (aF fun K17 k17=>wp_region_lit (aA (aB) ?_));simp only[zz];refine aA (kE rfl rfl) ?_;simp only[zz];refine bH m bU rfl ?_;clear m;intro g4 u m;refine aA (aD) ?_;simp only[zz];refine aT m 0 rfl rfl rfl aC (dX rfl) rfl ?_;clear m;intro u m;simp only[zy,zx,bK,zF,zG,Nat.reduceAdd] at m;refine aG (k17 _ _ ?_);refine gN m 13 aP (by kernel_rfl) ?_;simp only[zy];refine aI (aB) ?_;simp only[zz];refine ql rfl (fun u m=>((m.b 0 rfl).full aJ aC)) ?_;simp only[zz];refine aI (aB) (aI (aQ (m:=1) (n:=1) (r:=2) rfl rfl (by decide)) (aI (cE (m:=2) (n:=3) (r:=2) rfl rfl (by decide) (by decide)) (aI (aH aY aC rfl rfl (by decide) (by decide) rfl) ?_)));simp only[zz];refine ql rfl (fun u m=>((m.b 2 rfl).lies aJ aC rfl rfl)) ?_;simp only[zz,zy,Nat.zero_add,Nat.reduceAdd,Nat.reduceMul,Int.reduceToNat];refine aI (cL rfl rfl) (aI (aB) (aI (aQ (m:=1) (n:=2) (r:=3) rfl rfl (by decide)) (aI (cE (m:=3) (n:=3) (r:=0) rfl rfl (by decide) (by decide)) ?_)));simp only[zz];refine aI (aH aY aC rfl rfl (by decide) (by decide) rfl) ?_;simp only[zz];refine ql rfl (fun u m=>((m.b 2 rfl).lies aJ aC rfl rfl)) ?_;simp only[zz,zy,Nat.zero_add,Nat.reduceAdd,Nat.reduceMul,Int.reduceToNat];refine cP ?_;clear m;intro u m;refine fT (ek:=ed) (en:=pt) (a:=(t.b,t.c)) (v:=t.a) m 3 rfl tE nM rfl rfl rfl hD8 ?_;clear m;intro es8 c8 u m hD';clear hD8;have hD8:=hD';clear hD';simp only[zF,zG] at m;rw [← nZ] at hD8;refine aG (k16 _ _ ?_);refine wp_region_lit (aA (aQ (m:=1) (n:=1) (r:=2) rfl rfl (by decide)) (aA (aB) (aG (aX (aF fun K18 k18=>wp_region_lit (aA (bW (m:=2) (n:=3) rfl rfl (by decide)) (aG (k18 _ _ ?_))))))));refine aF fun K19 k19=>cQ rfl (wp_skip (k19 _ _ ?_));refine aF fun K20 k20=>wp_block (aF fun K21 k21=>wp_region_lit (aA (aB) ?_));simp only[zz];refine aA (kF rfl rfl) ?_;simp only[zz];refine bH m bU rfl ?_;clear m;intro g5 u m;refine aA (aD) ?_;simp only[zz];refine aT m 0 rfl rfl rfl aC (dX rfl) rfl ?_;clear m;intro u m;simp only[zy,zx,bK,zF,zG,Nat.reduceAdd] at m;refine aG (k21 _ _ ?_);refine gN m 13 aP (by kernel_rfl) ?_;simp only[zy];refine aI (aB) ?_;simp only[zz];refine ql rfl (fun u m=>((m.b 0 rfl).full aJ aC)) ?_;simp only[zz];refine aI (aB) (aI (aQ (m:=2) (n:=1) (r:=3) rfl rfl (by decide)) (aI (cE (m:=3) (n:=3) (r:=0) rfl rfl (by decide) (by decide)) (aI (aH aY aC rfl rfl (by decide) (by decide) rfl) ?_)));simp only[zz];refine ql rfl (fun u m=>((m.b 3 rfl).lies aJ aC rfl rfl)) ?_;simp only[zz,zy,Nat.zero_add,Nat.reduceAdd,Nat.reduceMul,Int.reduceToNat];refine aI (cL rfl rfl) (aI (aB) (aI (aQ (m:=2) (n:=2) (r:=4) rfl rfl (by decide)) (aI (cE (m:=4) (n:=3) (r:=1) rfl rfl (by decide) (by decide)) ?_)));simp only[zz];refine aI (aH aY aC rfl rfl (by decide) (by decide) rfl) ?_;simp only[zz];refine ql rfl (fun u m=>((m.b 3 rfl).lies aJ aC rfl rfl)) ?_;simp only[zz,zy,Nat.zero_add,Nat.reduceAdd,Nat.reduceMul,Int.reduceToNat];refine cP ?_;clear m;intro u m;refine fT (ek:=ed) (en:=pt) (a:=(t.c,t.a)) (v:=t.b) m 4 rfl tE nM rfl rfl rfl hD8 ?_;clear m;intro es8 c8 u m hD';clear hD8;have hD8:=hD';clear hD';simp only[zF,zG] at m;rw [← nZ] at hD8;refine aG (k20 _ _ ?_);refine wp_region_lit (aA (aQ (m:=2) (n:=1) (r:=3) rfl rfl (by decide)) (aA (aB) (aG (aX (aF fun K22 k22=>wp_region_lit (aA (eM (m:=3) (n:=3) rfl rfl (by decide)) (aG (k22 _ _ ?_))))))));refine aF fun K23 k23=>iD rfl (wp_exit (k7 _ _ ?_));refine wp_region_lit ?_;simp only[zz];refine aA (aQ rfl rfl (aM (by omega) (by omega))) (aA (aB) (aG ?_));simp only[zz];simp only[Exit.inBlock,Exit.then];refine ⟨N - (k + 1),_,?_,rfl,?_,?_⟩
   · omega
   · simp only[zz,zv]
   ·
    simp only[zQ,zR,zD,zE];exact ⟨k + 1,_,_,rfl,(m.sel [false,false,false,false,true]),by rw [Ef ht];simpa [List.append_assoc] using hD8,by omega,rfl⟩
  ·
   have hkN : k = N:=by omega
   rw [hkN,show ts.take N = ts from List.take_of_length_le (by rw [hT.len];exact Nat.le_refl _)] at hD8;refine wp_exit (k3 _ _ ?_);refine aF fun K24 k24=>wp_region_lit (kL m ?_);clear m;intro q9 u m;have hD9:=cS.nil (K:=E3) (V:=P3) ed pt;refine aA (aD) (aG (k24 _ _ ?_));refine aF fun K25 k25=>aF fun K26 k26=>wp_region_lit (aA (aB) (aA (bA rfl eU rfl) ?_));simp only[zz];refine aA (aB) (aG (k26 _ _ ?_));refine wp_block ?_;simp only[zz];try simp only[Nat.zero_add,Nat.reduceAdd,Nat.reduceMul,Int.reduceToNat]
   refine bJ [46] [12,13,14,15,47,48,49,50,51,52,53,54,55,56,57,58,59,60,61,62,63,64,65,66,67] (fun n vs wl=>∃ (k : Nat) (es : Array MapEntry) (c : Nat),vs = [.int .i64 (k:Int)] ∧ cF w wl [mI q9 es c,mI q8 es8 c8] ∧ (cS ed pt (mU [] (vY ts (rim.take k))) es c) ∧ (k ≤ M) ∧ (n = M - k)) ?_ ?_
   ·
    apply Exists.intro;simp only[zQ,zR,zD,zE];exact ⟨0,_,_,rfl,m,hD9,Nat.zero_le _,rfl⟩
   ·
    intro n vs wr hI u;clear m;obtain ⟨k,es9,c9,rfl,m,hD9,hk,hn⟩:=hI;simp only[zu,zF,zG];refine aF fun K27 k27=>wp_region_lit (aA (cO rfl rfl) (aG (k27 _ _ ?_)));refine aF fun K28 k28=>?_;simp only[zz];refine cC rfl (fun hc3=>?_) (fun hc3=>?_)
    ·
     obtain ⟨e,he,a,rfl,hrow2⟩:=hL.get (i:=k) (by omega);have hre:=hrim e (List.mem_of_getElem? he);refine wp_skip (k28 _ _ ?_);refine aF fun K29 k29=>wp_block (aF fun K30 k30=>wp_region_lit (aA (aK eU cK rfl rfl (by omega) (by omega) (bY (Int.toNat_natCast _))) ?_));simp only[zz];refine aL rfl (((hrow2.ext m.ext)).lies jR cK) ?_;simp only[zz];refine bH m qP rfl ?_;clear m;intro g3 u m;simp only[zz];refine aT m 0 rfl rfl rfl cK (dX rfl) rfl ?_;clear m;intro u m;simp only[zy,zx,bK,zF,zG,Nat.reduceAdd] at m;refine aG (k30 _ _ ?_);refine aF fun K31 k31=>wp_region_lit (aA (aH cH aC rfl rfl (by decide) (by decide) rfl) ?_);simp only[zz];refine aL rfl ((m.b 0 rfl).lies aJ aC rfl rfl) ?_;simp only[zz,zy,Nat.zero_add,Nat.reduceAdd,Nat.reduceMul,Int.reduceToNat];refine bH m bU rfl ?_;clear m;intro g4 u m;simp only[zz];refine aT m 0 rfl rfl rfl aC (dX rfl) rfl ?_;clear m;intro u m;simp only[zy,zx,bK,zF,zG,Nat.reduceAdd] at m;refine aG (k31 _ _ ?_);refine aF fun K32 k32=>wp_block ?_;try simp only[Nat.zero_add,Nat.reduceAdd,Nat.reduceMul,Int.reduceToNat]
     refine bJ [] [14,15,52,53,54,55,56,57,58,59,60,61,62,63] (fun n vs wl=>∃ (i : Nat) (z : P3),vs = [] ∧ cF w wl [bI g4 (uC z) 48,bI g3 (cB e) 57,mI q9 es9 c9,mI q8 es8 c8] ∧ (pH ts e.1 i e.2 = some z) ∧ (i ≤ ts.length) ∧ (n = ts.length + 1 - i)) ?_ ?_
     ·
      apply Exists.intro;simp only[zQ,zR,zD,zE];exact ⟨0,e.2,trivial,m,rfl,Nat.zero_le _,rfl⟩
     ·
      intro n vs wr hI u;clear m;obtain ⟨i,z,rfl,m,hit,hil,hn4⟩:=hI;simp only[zu,zF,zG];refine wp_block (aF fun K33 k33=>wp_region_lit (aA (aB) (aA (aH cH aC rfl rfl (by decide) (by decide) rfl) ?_)));simp only[zz];refine aL rfl ((m.b 1 rfl).lies aJ aC rfl rfl) ?_;simp only[zz,zy,Nat.zero_add,Nat.reduceAdd,Nat.reduceMul,Int.reduceToNat];refine aL rfl ((m.b 0 rfl).full aJ aC) ?_;simp only[zz];refine aA (cL rfl rfl) ?_;simp only[zz];refine fL (rZ (ek:=ed) (en:=pt) (k:=(e.1,z)) (v0:=⟨0,0,0⟩) tE bU nM rfl rfl (m.p 3 rfl) hD8) ?_;simp only[zz];refine aA (aB) (aA (bM rfl rfl) (aA (bM rfl rfl) ?_));simp only[zz];refine bH m bU rfl ?_;clear m;intro g5 u m;simp only[zz];refine aT m 0 rfl rfl rfl aC (dX rfl) rfl ?_;clear m;intro u m;simp only[zy,zx,bK,zF,zG,Nat.reduceAdd] at m;refine aA (aD) (aG (k33 _ _ ?_));refine aF fun K34 k34=>aF fun K35 k35=>wp_region_lit (aA (aB) (aA (fN rfl) (aG (k35 _ _ ?_))));simp only[zz];refine eD rfl (fun hc4=>?_) (fun hc4=>?_)
      ·
       have hyn : bP ts e.1 z = none:=by rw [← sB hnd];simpa using hc4
       have hend:=Zc i ts.length e.2 z hil hit hyn;refine wp_exit (k32 _ _ ?_);refine wp_region_lit (aA (aB) ?_);simp only[zz];refine aL rfl ((m.b 2 rfl).full jR cK) ?_;simp only[zz];refine aL rfl ((m.b 1 rfl).full aJ aC) ?_;simp only[zz];refine fT (ek:=ed) (en:=pt) (a:=e) (v:=z) m 3 rfl tE nM rfl rfl rfl hD9 ?_;clear m;intro es9 c9 u m hD';clear hD9;have hD9:=hD';clear hD';simp only[zF,zG] at m;refine aG (k29 _ _ ?_);refine wp_region_lit (aA (aQ rfl rfl (aM (by omega) (by omega))) (aA (aB) (aG ?_)));simp only[zz];simp only[Exit.inBlock,Exit.then];refine ⟨M - (k + 1),_,?_,rfl,?_,?_⟩
       · omega
       · simp only[zz,zv]
       ·
        simp only[zQ,zR,zD,zE];exact ⟨k + 1,_,_,rfl,(m.sel [false,false,false,true,true]),by rw [Vh he,nZ,hend];exact hD9,by omega,rfl⟩
      ·
       obtain ⟨y,hy⟩ : ∃ y,dG (mU [] (jK ts)) (e.1,z) = some y:=by
        cases h : dG (mU [] (jK ts)) (e.1,z) with
        | some y=>exact ⟨y,rfl⟩
        | none=>rw [h] at hc4;cases hc4
       have hya : bP ts e.1 z = some y:=by rw [← sB hnd];exact hy
       have hit2 : pH ts e.1 (i + 1) e.2 = some y:=by rw [uM,hit];exact hya
       have hil2:=abk hdg hnd hre hit2;rw [hy] at m;simp only[Option.getD_some] at m;refine wp_skip (k34 _ _ ?_);refine wp_region_lit (aL rfl ((m.b 0 rfl).full aJ aC) ?_);simp only[zz];refine aT m 1 rfl rfl rfl aC (dX rfl) rfl ?_;clear m;intro u m;simp only[zy,zx,bK,zF,zG,Nat.reduceAdd] at m;refine aG ?_;simp only[Exit.inBlock,Exit.then];refine ⟨ts.length + 1 - (i + 1),_,?_,rfl,?_,?_⟩
       · omega
       · simp only[zz,zv]
       ·
        simp only[zQ,zR,zD,zE];exact ⟨i + 1,y,trivial,(m.sel [false,true,true,true,true]),hit2,hil2,rfl⟩
    ·
     have hkN : k = M:=by omega
     rw [hkN,show rim.take M = rim from List.take_of_length_le (by rw [hL.len];exact Nat.le_refl _)] at hD9;refine wp_exit (k25 _ _ ?_);refine aF fun K36 k36=>wp_region_lit (aA (aB) (aA (aD) (aG (k36 _ _ ?_))));refine wp_ret ?_;simp only[zz];try simp only[Exit.inBlock,Exit.then,if_true]
     refine bS rfl rfl ?_;try simp only[zD,zE]
     exact ⟨_,rfl,m.ext,_,_,_,rfl,m.sel [true,false],hD9⟩
end Go.Proofs.YtfohfflkhpfjeaaGreatDoor
namespace Go.Proofs.YtfohfflkhpfjeaaGreatDoor
open Go.Proofs.Tryz
open Go.RowKit Go.Lith
set_option maxRecDepth 100000
attribute [local irreducible] wpList wpQuiet dY dO dN Code.wp
theorem aai {x y : E3} : (x.1.x = y.1.x ∧ x.1.y = y.1.y ∧ x.1.z = y.1.z ∧ x.2.x = y.2.x ∧ x.2.y = y.2.y ∧ x.2.z = y.2.z) ↔ x = y :=
 ⟨fun h=>Prod.ext (P3.eq h.1 h.2.1 h.2.2.1) (P3.eq h.2.2.2.1 h.2.2.2.2.1 h.2.2.2.2.2),fun h=>by rw [h];exact ⟨rfl,rfl,rfl,rfl,rfl,rfl⟩⟩
theorem Vi {K V : Type} [DecidableEq K] {D1 D2 : List (K × V)} (hk : D1.map (·.1) = D2.map (·.1)) (hn : (D1.map (·.1)).Nodup) (h : ∀ x ∈ D1,dG D2 x.1 = some x.2) : D1 = D2:=by
 apply List.ext_getElem?;intro i;have e:=congrArg (·[i]?) hk;simp only[List.getElem?_map] at e;cases h1 : D1[i]? with
 | none =>
  rw [h1] at e;cases h2 : D2[i]? with
  | none=>rfl
  | some y=>rw [h2] at e;cases e
 | some x =>
  rw [h1] at e;cases h2 : D2[i]? with
  | none=>rw [h2] at e;cases e
  | some y =>
   rw [h2] at e;have e' : x.1 = y.1:=Option.some.inj e;have hm:=h x (List.mem_of_getElem? h1);rw [e',mQ (v:=y.2) (by rw [← hk];exact hn) (List.mem_of_getElem? h2)] at hm;exact congrArg some (Prod.ext e' (Option.some.inj hm).symm)
theorem Vj {es fs : List E3} {N cap M cap2 : Nat} {A A2 : Option Addr} (w : World) (hL : oU cB 6 w A N es) (hL2 : oU cB 6 w A2 M fs) (hN : N ≤ 100000000) : eL prog 67 [.slice A N cap,.slice A2 M cap2] w (fun v _=>v = .bool (decide (es = fs))):=by
 refine ⟨ae5,?_⟩;have m:=cF.refl w;have e1:=hL.len;have e2:=hL2.len
 go_enter func67,ntmps67
 refine aF fun K1 k1=>wp_region_lit (aA (aD) (aG (k1 _ _ ?_)));refine aF fun K2 k2=>aF fun K3 k3=>wp_region_lit (aA (aB) (aA (bA rfl eU rfl) (aA (aB) ?_)));simp only[zz];refine aA (bA rfl eU rfl) (aA (kW rfl rfl) (aG (k3 _ _ ?_)));simp only[zz];refine cC rfl (fun hc1=>?_) (fun hc1=>?_)
 ·
  have hne : ¬ es = fs:=fun h=>hc1 (by rw [← e1,← e2,h]);refine aF fun K4 k4=>wp_region_lit (aA (aD) (aG (k4 _ _ ?_)));refine wp_ret ?_;simp only[zz];try simp only[Exit.inBlock,Exit.then,if_true]
  refine bS rfl rfl ?_;try simp only[zD,zE]
  exact ⟨_,rfl,m.ext,by rw [decide_eq_false hne]⟩
 ·
  refine wp_skip (k2 _ _ ?_);refine aF fun K5 k5=>aF fun K6 k6=>wp_region_lit (aA (aB) (aA (bA rfl eU rfl) (aA (aB) (aG (k6 _ _ ?_)))));refine wp_block ?_;simp only[zz];try simp only[Nat.zero_add,Nat.reduceAdd,Nat.reduceMul,Int.reduceToNat]
  refine bJ [13] [4,5,14,15,16,17,18,19,20,21,22,23,24,25] (fun n vs wl=>∃ (k : Nat),vs = [.int .i64 (k:Int)] ∧ cF w wl [] ∧ (es.take k = fs.take k) ∧ (k ≤ N) ∧ (n = N - k)) ?_ ?_
  ·
   apply Exists.intro;simp only[zQ,zR,zD,zE];exact ⟨0,rfl,m,rfl,Nat.zero_le _,rfl⟩
  ·
   intro n vs wr hI u;clear m;obtain ⟨k,rfl,m,heq,hk,hn⟩:=hI;simp only[zu,zF,zG];refine aF fun K7 k7=>wp_region_lit (aA (cO rfl rfl) (aG (k7 _ _ ?_)));refine aF fun K8 k8=>?_;simp only[zz];refine cC rfl (fun hc2=>?_) (fun hc2=>?_)
   ·
    obtain ⟨x,hx,a,rfl,hrow⟩:=hL.get (i:=k) (by omega);obtain ⟨y,hy,a2,rfl,hrow2⟩:=hL2.get (i:=k) (by omega);refine wp_skip (k8 _ _ ?_);refine aF fun K9 k9=>wp_block (aF fun K10 k10=>wp_region_lit (aA (aB) (aA (aD) (aG (k10 _ _ ?_)))));refine aF fun K11 k11=>?_;simp only[zz];refine mq m aP (by kernel_rfl) (aI (aB) (aI (aB) ?_));simp only[zz];refine aI (aK eU cK rfl rfl (by omega) (by omega) (bY (Int.toNat_natCast _))) ?_;simp only[zz];refine ql rfl (fun u m=>((hrow.ext m.ext).lies jR cK)) ?_;simp only[zz];refine aI (aB) (aI (aB) ?_);simp only[zz];refine aI (aK eU cK rfl rfl (by omega) (by omega) (bY (Int.toNat_natCast _))) ?_;simp only[zz];refine ql rfl (fun u m=>((hrow2.ext m.ext).lies jR cK)) ?_;simp only[zz];refine aI (Hd rfl rfl) (cP ?_);clear m;intro u m;refine k11 _ _ ?_;simp only[zz];refine cC rfl (fun hc3=>?_) (fun hc3=>?_)
    ·
     have hne : ¬ es = fs:=fun h=>hc3 (aai.2 (by subst h;exact Option.some.inj (hx.symm.trans hy)));refine aF fun K12 k12=>wp_region_lit (aA (aD) (aG (k12 _ _ ?_)));refine wp_ret ?_;simp only[zz];try simp only[Exit.inBlock,Exit.then,if_true]
     refine bS rfl rfl ?_;try simp only[zD,zE]
     exact ⟨_,rfl,m.ext,by rw [decide_eq_false hne]⟩
    ·
     obtain rfl:=aai.1 (Classical.not_not.1 hc3);refine wp_skip (k9 _ _ ?_);refine wp_region_lit (aA (aQ rfl rfl (aM (by omega) (by omega))) (aA (aB) (aG ?_)));simp only[zz];simp only[Exit.inBlock,Exit.then];refine ⟨N - (k + 1),_,?_,rfl,?_,?_⟩
     · omega
     · simp only[zz,zv]
     ·
      simp only[zQ,zR,zD,zE];exact ⟨k + 1,rfl,m,by rw [dJ hx,dJ hy,heq],by omega,rfl⟩
   ·
    have hall : es = fs:=by rw [List.take_of_length_le (by omega),List.take_of_length_le (by omega)] at heq;exact heq
    refine wp_exit (k5 _ _ ?_);refine aF fun K13 k13=>wp_region_lit (aA (aD) (aG (k13 _ _ ?_)));refine wp_ret ?_;simp only[zz];try simp only[Exit.inBlock,Exit.then,if_true]
    refine bS rfl rfl ?_;try simp only[zD,zE]
    exact ⟨_,rfl,m.ext,by rw [decide_eq_true hall]⟩
theorem abJ {g c g2 c2 : Nat} {es es2 : Array MapEntry} {D1 D2 : List (E3 × P3)} (w : World) (hM : kO w g es c) (hD : cS ed pt D1 es c) (hM2 : kO w g2 es2 c2) (hD2 : cS ed pt D2 es2 c2) (hk : D1.map (·.1) = D2.map (·.1)) (hnk : (D1.map (·.1)).Nodup) : eL prog 68 [.map (some g),.map (some g2)] w (fun v _=>v = .bool (decide (D1 = D2))):=by
 refine ⟨ae6,?_⟩;have m:=cF.refl w;have hl : D1.length = D2.length:=by simpa using congrArg List.length hk
 go_enter func68,ntmps68
 refine aF fun K1 k1=>wp_region_lit (aA (aD) (aG (k1 _ _ ?_)));refine aF fun K2 k2=>aF fun K3 k3=>wp_region_lit (aA (aB) ?_);simp only[zz];refine fL (Yr rfl tE rfl (hM.ext m.ext) hD) (aA (aB) ?_);simp only[zz];refine fL (Yr rfl tE rfl (hM2.ext m.ext) hD2) (aA (kW rfl rfl) (aG (k3 _ _ ?_)));simp only[zz];refine cC rfl (fun hc1=>?_) (fun hc1=>?_)
 ·
  exact absurd (congrArg (Nat.cast (R:=Int)) hl) hc1
 ·
  refine wp_skip (k2 _ _ ?_);refine aF fun K4 k4=>aF fun K5 k5=>wp_region_lit (aA (aB) ?_);simp only[zz];refine wM m tE rfl (hM.ext m.ext) ?_;clear m;intro r1 u m;refine aG (k5 _ _ ?_);refine wp_block ?_;simp only[zz];try simp only[Nat.zero_add,Nat.reduceAdd,Nat.reduceMul,Int.reduceToNat]
  refine bJ [] [4,5,6,7,8,16,17,18,19,20,21,22,23,24,25,26,27,28,29,30,31,32,33] (fun n vs wl=>∃ (dn rs : List (E3 × P3)) (sn : Array Nat),vs = [] ∧ cF w wl [iI r1 g c sn] ∧ (mF ed pt D1 es sn dn rs) ∧ (∀ x ∈ dn,dG D2 x.1 = some x.2) ∧ (n = rs.length)) ?_ ?_
  ·
   apply Exists.intro;simp only[zQ,zR,zD,zE];exact ⟨[],D1,#[],trivial,m,mF.start hD,fun _ h=>(by cases h),rfl⟩
  ·
   intro n vs wr hI u;clear m;obtain ⟨dn,rs,sn,rfl,m,hT,hall,hn⟩:=hI;simp only[zu,zF,zG];refine aF fun K6 k6=>wp_region_lit (Dv m 0 rfl rfl (hM.ext m.ext) hD hT ?_);clear m;intro bb kk vv sn u m hN;simp only[zF,zG] at m;refine aA (sW rfl) (aG (k6 _ _ ?_));refine aF fun K7 k7=>?_;simp only[zz];refine eD rfl (fun hc2=>?_) (fun hc2=>?_)
   ·
    obtain ⟨kp,kb,rs2,hp,hT2⟩:=Dy hc2 hN;have hin : (kp,kb) ∈ D1:=hT2.1.mem_iff.1 (by simp);refine wp_skip (k7 _ _ ?_);refine wp_block (aF fun K8 k8=>wp_region_lit (fL (sX rfl (m.r 0 rfl) (hM.ext m.ext) hD hT2) ?_));simp only[zz];refine aA (bM rfl rfl) (aA (bM rfl rfl) ?_);simp only[zz];refine bH m qP rfl ?_;clear m;intro g2 u m;simp only[zz];refine bH m bU rfl ?_;clear m;intro g3 u m;simp only[zz];refine aT m 1 rfl rfl rfl cK (dX rfl) rfl ?_;clear m;intro u m;simp only[zy,zx,bK,zF,zG,Nat.reduceAdd] at m;refine aT m 0 rfl rfl rfl aC (dX rfl) rfl ?_;clear m;intro u m;simp only[zy,zx,bK,zF,zG,Nat.reduceAdd] at m;refine aG (k8 _ _ ?_);refine aF fun K9 k9=>wp_region_lit (aA (aB) ?_);simp only[zz];refine aL rfl ((m.b 1 rfl).full jR cK) ?_;simp only[zz];refine fL (rZ (ek:=ed) (en:=pt) (k:=kp) (v0:=⟨0,0,0⟩) tE bU nM rfl rfl (hM2.ext m.ext) hD2) ?_;simp only[zz];refine aA (aB) (aA (bM rfl rfl) (aA (bM rfl rfl) ?_));simp only[zz];refine bH m bU rfl ?_;clear m;intro g4 u m;simp only[zz];refine aT m 0 rfl rfl rfl aC (dX rfl) rfl ?_;clear m;intro u m;simp only[zy,zx,bK,zF,zG,Nat.reduceAdd] at m;refine aA (aD) (aG (k9 _ _ ?_));refine aF fun K10 k10=>wp_region_lit (aA (aB) (aA (fN rfl) (aA (aB) ?_)));simp only[zz];refine nB rfl (fun hb=>cM rfl ((m.b 1 rfl).full aJ aC)) (nB rfl (fun hb=>cM rfl ((m.b 0 rfl).full aJ aC)) (fE rfl (fun hb=>fW (bO hb rfl) (bO hb rfl)) (aA (fQ rfl rfl rfl) (aG (k10 _ _ ?_)))));simp only[zz];refine eD rfl (fun hc3=>?_) (fun hc3=>?_)
    ·
     have hne : ¬ D1 = D2:=fun h=>by rw [← h,mQ hnk hin] at hc3;simp at hc3
     refine aF fun K11 k11=>wp_region_lit (aA (aD) (aG (k11 _ _ ?_)));refine wp_ret ?_;simp only[zz];try simp only[Exit.inBlock,Exit.then,if_true]
     refine bS rfl rfl ?_;try simp only[zD,zE]
     exact ⟨_,rfl,m.ext,by rw [decide_eq_false hne]⟩
    ·
     have hv : dG D2 kp = some kb:=by
      cases h : dG D2 kp with
      | none=>rw [h] at hc3;cases hc3
      | some y =>
       rw [h] at hc3;simp only[Option.isSome_some,Bool.not_true,Bool.false_or,Option.getD_some,decide_eq_false_iff_not,Classical.not_not] at hc3;rw [gK.1 hc3]
     refine wp_skip ?_;simp only[Exit.inBlock,Exit.then];refine ⟨rs2.length,_,?_,rfl,?_,?_⟩
     · rw [hn,hp.length_eq];exact Nat.lt_succ_self _
     · simp only[zz,zv]
     ·
      simp only[zQ,zR,zD,zE];exact ⟨dn ++ [(kp,kb)],rs2,_,trivial,(m.sel [false,false,false,true]),hT2,fun x hx=>(List.mem_append.1 hx).elim (hall x) fun hx=>by obtain rfl:=List.mem_singleton.1 hx;exact hv,rfl⟩
   ·
    obtain rfl:=Dx hc2 hN;have hsm : D1 = D2:=Vi hk hnk fun x hx=>hall x (hT.done.mem_iff.2 hx);refine wp_exit (k4 _ _ ?_);refine aF fun K12 k12=>wp_region_lit (aA (aD) (aG (k12 _ _ ?_)));refine wp_ret ?_;simp only[zz];try simp only[Exit.inBlock,Exit.then,if_true]
    refine bS rfl rfl ?_;try simp only[zD,zE]
    exact ⟨_,rfl,m.ext,by rw [decide_eq_true hsm]⟩
theorem abK {F G H R J : Value} {g1 q c : Nat} {es : Array MapEntry} {D : List (P3 × P3)} {p : P3} (w : World) (hB1 : gD w g1 [F,G,H,R,.map (some q),J] 73) (hM : kO w q es c) (hD : cS pt pt D es c) : eL prog 75 [.pointer (some ⟨g1,0,none⟩),pt p] w (fun v _=>v = pt ((dG D p).getD p)):=by
 refine ⟨afd,?_⟩;have m:=cF.refl w
 go_enter func75,ntmps75
 refine aF fun K1 k1=>wp_region_lit (eP m rfl ?_);clear m;intro g2 u m;simp only[zz];refine bH m bU rfl ?_;clear m;intro g3 u m;refine aG (k1 _ _ ?_);refine aF fun K2 k2=>aF fun K3 k3=>?_;simp only[zz];apply afO m (T1:=48)
 ·
  refine Qx m [true,true] (.take 0 (.take 1 (.take 2 (.take 3 (.take 4 (.two 5 (.take 6 (.take 7 (.take 8 (.one 9 (.one 10 (.take 11 .nil)))))) 9 (.one 5 (.take 6 (.take 7 (.take 8 (.one 10 (.take 11 .nil)))))))))))) aP (by kernel_rfl) (fun _ _ _ _ _ h=>by cases h.1) ?_;intro u m;refine eN (by simp only[zw];rfl) (aZ (aB) (dU (eN (by simp only[zw];rfl) (aZ (dB rfl) (dU (eN (by simp only[zw];rfl) (aZ (aO (c:=0) iZ rfl xK rfl rfl) (dU (eN (by simp only[zw];rfl) ?_)))))))));simp only[zz];refine cU rfl (fun u m=>((hB1.ext m.ext).lies1 Pb rfl)) ?_;simp only[zz];refine dU (eN (by simp only[zw];rfl) (cU rfl (fun u m=>((m.b 1 rfl).full aJ aC)) ?_));simp only[zz];refine dU ?_;refine Da (by simp only[zw];rfl) (by simp only[zw];rfl) ?_ ?_
  ·
   refine fL (rZ (ek:=pt) (en:=pt) (k:=p) (v0:=⟨0,0,0⟩) underlying71 bU iC rfl rfl (hM.ext m.ext) hD) ?_;simp only[zz];refine aG (⟨m,?_⟩);refine eN (by simp only[zw];rfl) (aZ (aB) (dU (eN (by simp only[zw];rfl) (aZ (bM rfl rfl) (dU (eN (by simp only[zw];rfl) (aZ (bM rfl rfl) (dU (jO (by simp only[zw];rfl) ?_)))))))));simp only[zz];refine bH m bU rfl ?_;clear m;intro g4 u m;refine aG (⟨m.sel [false,true,true],?_⟩);refine jO (by simp only[zw];rfl) ?_;simp only[zz];refine aT m 0 rfl rfl rfl aC (dX rfl) rfl ?_;clear m;intro u m;simp only[zy,zx,bK,zF,zG,Nat.reduceAdd] at m;refine aG (⟨m.sel [false,true,true],?_⟩);refine eN (by simp only[zw];rfl) (aZ (aD) (dU (tK ?_)));exact ⟨rfl,g4,rfl,m⟩
  ·
   refine bH m bU rfl ?_;clear m;intro g4 u m;refine aG (⟨m.sel [false,true,true],?_⟩);refine jO (by simp only[zw];rfl) ?_;simp only[zz];refine fL (rZ (ek:=pt) (en:=pt) (k:=p) (v0:=⟨0,0,0⟩) underlying71 bU iC rfl rfl (hM.ext m.ext) hD) ?_;simp only[zz];refine aG (⟨m.sel [false,true,true],?_⟩);refine eN (by simp only[zw];rfl) (aZ (aB) (dU (eN (by simp only[zw];rfl) (aZ (bM rfl rfl) (dU (eN (by simp only[zw];rfl) (aZ (bM rfl rfl) (dU (jO (by simp only[zw];rfl) ?_)))))))));simp only[zz];refine aT m 0 rfl rfl rfl aC (dX rfl) rfl ?_;clear m;intro u m;simp only[zy,zx,bK,zF,zG,Nat.reduceAdd] at m;refine aG (⟨m.sel [false,true,true],?_⟩);refine eN (by simp only[zw];rfl) (aZ (aD) (dU (tK ?_)));exact ⟨rfl,g4,rfl,m⟩
 intro g4 u m;try dsimp only
 refine k3 _ _ ?_;refine aF fun K4 k4=>wp_region_lit (aA (aB) (aG (k4 _ _ ?_)));simp only[zz];refine eD rfl (fun hc1=>?_) (fun hc1=>?_)
 ·
  obtain ⟨y,hy⟩ : ∃ y,dG D p = some y:=by
   cases h : dG D p with
   | some y=>exact ⟨y,rfl⟩
   | none=>rw [h] at hc1;cases hc1
  refine aF fun K5 k5=>wp_region_lit (aL rfl ((m.b 0 rfl).full aJ aC) ?_);simp only[zz];refine aT m 1 rfl rfl rfl aC (dX rfl) rfl ?_;clear m;intro u m;simp only[zy,zx,bK,zF,zG,Nat.reduceAdd] at m;refine aG (k5 _ _ ?_);refine wp_ret ?_;try simp only[Exit.inBlock,Exit.then,if_true]
  refine bS rfl ⟨_,rfl,((m.b 1 rfl).full aJ aC)⟩ ?_;try simp only[zD,zE]
  exact ⟨_,rfl,m.ext,by rw [hy];rfl⟩
 ·
  have hy : dG D p = none:=by
   cases h : dG D p with
   | none=>rfl
   | some y=>rw [h] at hc1;cases hc1
  refine wp_skip (k2 _ _ ?_);refine aF fun K6 k6=>wp_region_lit (aL rfl ((m.b 2 rfl).full aJ aC) ?_);simp only[zz];refine aT m 1 rfl rfl rfl aC (dX rfl) rfl ?_;clear m;intro u m;simp only[zy,zx,bK,zF,zG,Nat.reduceAdd] at m;refine aG (k6 _ _ ?_);refine wp_ret ?_;try simp only[Exit.inBlock,Exit.then,if_true]
  refine bS rfl ⟨_,rfl,((m.b 1 rfl).full aJ aC)⟩ ?_;try simp only[zD,zE]
  exact ⟨_,rfl,m.ext,by rw [hy];rfl⟩
end Go.Proofs.YtfohfflkhpfjeaaGreatDoor
namespace Go.Lith
open Go.RowKit
theorem afP {d k : Nat} (hd : d < 4294967296) (hk : k < 2) : IntKind.u64.wrap ((d : Int) * 2 ^ (min (32 * (k : Int)).toNat IntKind.u64.bits)) = ((d * 4294967296 ^ k : Nat) : Int):=by
 obtain rfl | rfl : k = 0 ∨ k = 1:=by omega
 · rw [gU];simp;omega
 · rw [gU]
   simp only[IntKind.bits];show ((d : Int) * 2 ^ 32) % 18446744073709551616 = _
   omega
theorem agl {s d k : Nat} (hs : s < 4294967296 ^ k) (hd : d < 4294967296) (hk : k < 2) : IntKind.u64.wrap ((BitVec.ofInt IntKind.u64.bits (s : Int) ||| BitVec.ofInt IntKind.u64.bits ((d * 4294967296 ^ k : Nat) : Int)).toNat : Int) = ((s + d * 4294967296 ^ k : Nat) : Int):=by
 rw [gU];show (((BitVec.ofInt 64 (s : Int) ||| BitVec.ofInt 64 ((d * 4294967296 ^ k : Nat) : Int)).toNat : Nat) : Int) % 18446744073709551616 = _
 rw [BitVec.toNat_or,BitVec.toNat_ofInt,BitVec.toNat_ofInt];obtain rfl | rfl : k = 0 ∨ k = 1:=by omega
 · obtain rfl : s = 0:=by omega
   have h1 : (((0 : Nat) : Int) % ((2 ^ 64 : Nat) : Int)).toNat = 0:=by simp
   have h2 : (((d * 4294967296 ^ 0 : Nat) : Int) % ((2 ^ 64 : Nat) : Int)).toNat = d:=by omega
   rw [h1,h2,Nat.zero_or];omega
 · have hs' : s < 2 ^ 32:=by omega
   have h1 : (((s : Nat) : Int) % ((2 ^ 64 : Nat) : Int)).toNat = s:=by omega
   have h2 : (((d * 4294967296 ^ 1 : Nat) : Int) % ((2 ^ 64 : Nat) : Int)).toNat = d <<< 32:=by rw [Nat.shiftLeft_eq];omega
   rw [h1,h2,Nat.or_comm,← Nat.shiftLeft_add_eq_or_of_lt hs' d,Nat.shiftLeft_eq];omega
theorem aaj {a : Int} {X : Nat} (h : X = a.natAbs) (hl : 2 < (digs 4294967296 X).length) : ¬ oJ a:=fun k=>by
 have h1 : X < 4294967296 ^ 2:=by have:=k.natAbs;rw [← h] at this;omega
 have h2:=dQ (B:=4294967296) (by omega) h1;omega
end Go.Lith
namespace Go.Proofs.YtfohfflkhpfjeaaGreatDoor
open Go.Proofs.Tryz
open Go.RowKit Go.Lith
set_option maxRecDepth 100000
attribute [local irreducible] wpList wpQuiet dY Code.wp
theorem Fc {l : List UInt8} (hl : l.length ≤ 1000000000000000) : iX prog 144 [.string (lG l),.int .u8 0] (.string (lG (iG l))):=by
 intro w;refine ⟨adc,?_⟩;have hX:=dK.refl w
 go_enter func144,ntmps144
 refine aF (fun K1 hK1=>wp_region_lit (aA (aD) ?_));simp only[zz];refine aG (hK1 _ _ ?_);refine aF (fun K2 hK2=>wp_block ?_);refine bJ [0] [5,6,7,8,9,10,11,12,13,14,15] (fun n vs wl=>∃ (k : List UInt8),vs = [.string (lG k)] ∧ (dK w wl) ∧ (iG k = iG l) ∧ (k.length ≤ 1000000000000000) ∧ (n = k.length)) ?_ ?_
 ·
  apply Exists.intro;simp only[zQ,zR,zD,zE];exact ⟨l,rfl,hX,rfl,hl,rfl⟩
 ·
  intro n vs wr hI u;obtain ⟨k,rfl,hX,hk,hl,hn⟩:=hI;have hsz:=wD k;simp only[zu,zF,zG];refine aF (fun K3 hK3=>aF (fun K4 hK4=>?_));by_cases hk0 : 0 < k.length
  ·
   obtain ⟨b,hb⟩ : ∃ b,k[0]? = some b:=⟨k[0],List.getElem?_eq_getElem hk0⟩
   refine wp_region_lit (aA (aB) (aA (pR rfl qH rfl) (aA (wB rfl rfl (by omega)) ?_)));simp only[zz];refine aA (aB) ?_;simp only[zz];refine bN rfl (aA (aB) ?_);simp only[zz];refine bN rfl ?_;refine aA ((nN qH rfl rfl (by omega) (by rw [Sy];exact hb))) ?_;simp only[zz];refine bN rfl (aA (aB) ?_);simp only[zz];refine bN rfl (aA (rJ rfl rfl) (aA (cJ rfl) ?_));simp only[zz];refine aG (hK4 _ _ ?_);refine cC rfl (fun hc1=>?_) (fun hc1=>?_)
   ·
    refine wp_skip ?_;refine hK3 _ _ (wp_block (wp_region_lit (aA (aB) (aA (We qH rfl rfl (by omega) (by omega)) (aA (aD) ?_)))));simp only[zz];refine aG ?_;rw [show (1 : Int).toNat = 1 from rfl,Of];simp only[Exit.inBlock,Exit.then];refine ⟨(k.drop 1).length,_,?_,rfl,?_,?_⟩
    · rw [List.length_drop];omega
    · simp only[zz,zv]
    ·
     simp only[zQ,zR,zD,zE];exact ⟨k.drop 1,rfl,hX,by rw [Og hb (by omega)];exact hk,by rw [List.length_drop];omega,rfl⟩
   ·
    refine wp_exit ?_;refine hK2 _ _ (aF (fun K5 hK5=>wp_region_lit (aA (aB) (aA (aD) ?_))));simp only[zz];refine aG (hK5 _ _ ?_);refine wp_ret ?_;try simp only[Exit.inBlock,Exit.then]
    refine bS rfl rfl ?_;try simp only[zD,zE]
    exact ⟨_,rfl,hX,by rw [← hk,Oh hb (by omega)]⟩
  ·
   obtain rfl : k = []:=List.eq_nil_of_length_eq_zero (by omega);refine wp_region_lit (aA (aB) (aA (pR rfl qH rfl) (aA (tQ rfl rfl (by omega)) ?_)));simp only[zz];refine aA (aB) ?_;simp only[zz];refine cN rfl ?_;simp only[zz];refine cN rfl ?_;simp only[zz];refine cN rfl ?_;simp only[zz];refine cN rfl ?_;simp only[zz];refine aA (cG rfl) ?_;simp only[zz];refine aG (hK4 _ _ ?_);refine iD rfl (wp_exit ?_);refine hK2 _ _ (aF (fun K6 hK6=>wp_region_lit (aA (aB) (aA (aD) ?_))));simp only[zz];refine aG (hK6 _ _ ?_);refine wp_ret ?_;try simp only[Exit.inBlock,Exit.then]
   refine bS rfl rfl ?_;try simp only[zD,zE]
   exact ⟨_,rfl,hX,by rw [← hk,Sz]⟩
theorem Qj {l : List UInt8} (hl : l.length ≤ 1000000000000000) : iX prog 138 [.string (lG l),.string ⟨#[0]⟩] (.string (lG (iG l))):=by
 intro w;refine ⟨ada,?_⟩;have hX:=dK.refl w;have hsz:=wD l
 go_enter func138,ntmps138
 refine aF (fun K1 hK1=>wp_region_lit (aA (aD) ?_));simp only[zz];refine aG (hK1 _ _ ?_);refine aF (fun K2 hK2=>aF (fun K3 hK3=>?_));by_cases hk0 : l = []
 ·
  subst hk0;refine wp_region_lit (aA (aB) (aA (fI (Oe qH rfl rfl) (show _ = Value.bool true by simp [lG])) (aA (aB) ?_)));simp only[zz];refine fM rfl ?_;simp only[zz];refine fM rfl ?_;simp only[zz];refine aA (cJ rfl) ?_;simp only[zz];refine aG (hK3 _ _ ?_);refine cQ rfl (aF (fun K4 hK4=>wp_region_lit (aA (aB) (aA (aD) ?_))));simp only[zz];refine aG (hK4 _ _ ?_);refine wp_ret ?_;try simp only[Exit.inBlock,Exit.then]
  refine bS rfl rfl ?_;try simp only[zD,zE]
  exact ⟨_,rfl,hX,rfl⟩
 ·
  refine wp_region_lit (aA (aB) (aA (fI (Oe qH rfl rfl) (show _ = Value.bool false by simp only[Ks,hk0,decide_false])) (aA (aB) ?_)));simp only[zz];refine bN rfl (aA (aB) ?_);simp only[zz];refine bN rfl (aA (fI (Oe qH rfl rfl) (show _ = Value.bool false by simp)) (aA (cG rfl) ?_));simp only[zz];refine aG (hK3 _ _ ?_);refine iD rfl (wp_skip ?_);refine hK2 _ _ (aF (fun K5 hK5=>aF (fun K6 hK6=>wp_region_lit (aA (aB) (aA (pR rfl qH rfl) (aA (qT rfl rfl rfl) ?_))))));simp only[zz];refine aA (aB) ?_;simp only[zz];refine bN rfl (aA (aB) ?_);simp only[zz];refine bN rfl (aA ((nN (b:=0) qH rfl rfl (by omega) rfl)) ?_);simp only[zz];refine bN rfl (aA (bW rfl rfl (by decide)) (aA (cJ rfl) ?_));simp only[zz];refine aG (hK6 _ _ ?_);refine cQ rfl (aF (fun K7 hK7=>wp_region_lit (aA (aB) (aA (aB) ?_))));simp only[zz];refine aA ((nN (b:=0) qH rfl rfl (by omega) rfl)) ?_;simp only[zz];refine uT rfl rfl (Fc hl) ?_;intro w1 hE;replace hX:=hX.trans hE;clear hE;simp only[zz];refine aA (aD) ?_;simp only[zz];refine aG (hK7 _ _ ?_);refine wp_ret ?_;try simp only[Exit.inBlock,Exit.then]
  refine bS rfl rfl ?_;try simp only[zD,zE]
  exact ⟨_,rfl,hX,rfl⟩
end Go.Proofs.YtfohfflkhpfjeaaGreatDoor
namespace Go.Proofs.YtfohfflkhpfjeaaGreatDoor
open Go.Proofs.Tryz
open Go.RowKit Go.Lith
set_option maxRecDepth 100000
attribute [local irreducible] wpList wpQuiet dY Code.wp
theorem rG {A : Option Addr} {xs : List Nat} {na cap : Nat} (w : World) (hS : dM w A na cap xs) : eL prog 132 [.slice A na cap] w (fun v _=>v = .slice A (trim xs).length cap):=by
 skip
 refine ⟨ac4,?_⟩;have hX:=dK.refl w;obtain rfl:=hS.eq;have hl:=hS.len;have hle:=hS.le
 go_enter func132,ntmps132
 refine aF (fun K1 hK1=>wp_region_lit (aA (aD) ?_));simp only[zz];refine aG (hK1 _ _ ?_);refine aF (fun K2 hK2=>wp_block ?_);refine bJ [0] [3,4,5,6,7,8,9,10,11,12,13,14,15,16,17,18,19] (fun n vs wl=>∃ (k : Nat),vs = [.slice A k cap] ∧ (dK w wl) ∧ (k ≤ xs.length) ∧ (trim (xs.take k) = trim xs) ∧ (n = k)) ?_ ?_
 ·
  apply Exists.intro;simp only[zQ,zR,zD,zE];exact ⟨xs.length,rfl,hX,Nat.le_refl _,by rw [List.take_length],rfl⟩
 ·
  intro n vs wr hI u;obtain ⟨k,rfl,hX,hk,ht,hn⟩:=hI;simp only[zu,zF,zG];refine aF (fun K3 hK3=>aF (fun K4 hK4=>?_));by_cases hk0 : 0 < k
  ·
   obtain ⟨a,rfl,hcell,hlt⟩:=(hS.ext hX).get (show k - 1 < xs.length by omega);refine wp_region_lit (aA (aB) (aA (bA rfl bD rfl) (aA (wB rfl rfl (by omega)) ?_)));simp only[zz];refine aA (aB) ?_;simp only[zz];refine bN rfl (aA (aB) ?_);simp only[zz];refine bN rfl (aA (aB) ?_);simp only[zz];refine bN rfl (aA (bA rfl bD rfl) ?_);simp only[zz];refine bN rfl (aA (eO rfl rfl (aM (by omega) (by omega))) ?_);simp only[zz];refine bN rfl (aA (aK bD bC rfl rfl (by omega) (by omega) (gF (show _ = k - 1 by omega))) ?_);simp only[zz];refine bN rfl (aL rfl (lies1 hcell eY) ?_);simp only[zz];refine bN rfl (aA (rJ rfl rfl) (aA (cJ rfl) ?_));simp only[zz];refine aG (hK4 _ _ ?_);refine cC rfl (fun hc1=>?_) (fun hc1=>?_)
   ·
    refine wp_skip ?_;refine hK3 _ _ (wp_block (wp_region_lit (aA (aB) (aA (aB) (aA (bA rfl bD rfl) ?_)))));simp only[zz];refine aA (eO rfl rfl (aM (by omega) (by omega))) (aA (kZ bD bC rfl rfl (show _ = k - 1 by omega) (by omega) (by omega)) (aA (aD) ?_));simp only[zz];refine aG ?_;simp only[Exit.inBlock,Exit.then];refine ⟨k - 1,_,?_,rfl,?_,?_⟩
    · omega
    · simp only[zz,zv]
    ·
     simp only[zQ,zR,zD,zE];exact ⟨k - 1,rfl,hX,by omega,Gj hk0 (by omega) hc1 ht,rfl⟩
   ·
    refine wp_exit ?_;refine hK2 _ _ (aF (fun K5 hK5=>wp_region_lit (aA (aB) (aA (aD) ?_))));simp only[zz];refine aG (hK5 _ _ ?_);refine wp_ret ?_;try simp only[Exit.inBlock,Exit.then]
    refine bS rfl rfl ?_;try simp only[zD,zE]
    exact ⟨_,rfl,hX,by rw [← Kj hk0 (by omega) hc1 ht]⟩
  ·
   obtain rfl : k = 0:=by omega
   refine wp_region_lit (aA (aB) (aA (bA rfl bD rfl) (aA (tQ rfl rfl (by omega)) ?_)));simp only[zz];refine aA (aB) ?_;simp only[zz];refine cN rfl ?_;simp only[zz];refine cN rfl ?_;simp only[zz];refine cN rfl ?_;simp only[zz];refine cN rfl ?_;simp only[zz];refine cN rfl ?_;simp only[zz];refine cN rfl ?_;simp only[zz];refine cN rfl ?_;simp only[zz];refine aA (cG rfl) ?_;simp only[zz];refine aG (hK4 _ _ ?_);refine iD rfl (wp_exit ?_);refine hK2 _ _ (aF (fun K6 hK6=>wp_region_lit (aA (aB) (aA (aD) ?_))));simp only[zz];refine aG (hK6 _ _ ?_);refine wp_ret ?_;try simp only[Exit.inBlock,Exit.then]
   refine bS rfl rfl ?_;try simp only[zD,zE]
   exact ⟨_,rfl,hX,by rw [← Kk ht]⟩
theorem Rr {A B : Option Addr} {xs ys : List Nat} {na nb ca cb : Nat} (w : World) (hS : dM w A na ca xs) (hR : dM w B nb cb ys) (tx : fS xs) (ty : fS ys) : eL prog 118 [.slice A na ca,.slice B nb cb] w (fun v _=>v = .int .i64 (Ij (val 4294967296 xs) (val 4294967296 ys))):=by
 skip
 refine ⟨acV,?_⟩;have hX:=dK.refl w;obtain rfl:=hS.eq;obtain rfl:=hR.eq;have hl:=hS.len;have hl2:=hR.len
 go_enter func118,ntmps118
 refine aF (fun K1 hK1=>wp_region_lit (aA (aD) ?_));simp only[zz];refine aG (hK1 _ _ ?_);refine aF (fun K2 hK2=>wp_block (aF (fun K3 hK3=>wp_region_lit (aA (aB) (aA (bA rfl bD rfl) (aA (aB) ?_))))));simp only[zz];refine aA (bA rfl bD rfl) (aA (cO rfl rfl) (aA (aD) ?_));simp only[zz];refine aG (hK3 _ _ ?_);refine cC rfl (fun hc1=>?_) (fun hc1=>?_)
 ·
  refine aF (fun K4 hK4=>wp_region_lit (aA (aD) ?_));simp only[zz];refine aG (hK4 _ _ ?_);refine wp_ret ?_;try simp only[Exit.inBlock,Exit.then]
  refine bS rfl rfl ?_;try simp only[zD,zE]
  exact ⟨_,rfl,hX,by rw [Ij,if_pos (jN (by omega) hS.digs hR.digs ty (by omega))]⟩
 ·
  refine aF (fun K5 hK5=>wp_region_lit (aA (aB) (aA (bA rfl bD rfl) (aA (aB) ?_))));simp only[zz];refine aA (bA rfl bD rfl) (aA (oE rfl rfl) (aA (aD) ?_));simp only[zz];refine aG (hK5 _ _ ?_);refine cC rfl (fun hc2=>?_) (fun hc2=>?_)
  ·
   refine aF (fun K6 hK6=>wp_region_lit (aA (aD) ?_));simp only[zz];refine aG (hK6 _ _ ?_);refine wp_ret ?_;try simp only[Exit.inBlock,Exit.then]
   refine bS rfl rfl ?_;try simp only[zD,zE]
   exact ⟨_,rfl,hX,by have:=jN (B:=4294967296) (by omega) hR.digs hS.digs tx (by omega);rw [Ij,if_neg (by omega),if_pos this]⟩
  ·
   refine wp_skip ?_;refine hK2 _ _ (aF (fun K7 hK7=>aF (fun K8 hK8=>wp_region_lit (aA (aB) (aA (bA rfl bD rfl) (aA (eO rfl rfl (aM (by omega) (by omega))) ?_))))));simp only[zz];refine aA (aD) ?_;simp only[zz];refine aG (hK8 _ _ ?_);refine wp_block (bJ [5] [4,21,22,23,24,25,26,27,28,29,30,31,32,33,34,35,36,37,38,39,40,41,42,43,44] (fun n vs wl=>∃ (k : Nat),vs = [.int .i64 ((k:Int) - 1)] ∧ (dK w wl) ∧ (k ≤ xs.length) ∧ (xs.drop k = ys.drop k) ∧ (n = k)) ?_ ?_)
   ·
    apply Exists.intro;simp only[zQ,zR,zD,zE];exact ⟨xs.length,rfl,hX,Nat.le_refl _,by rw [List.drop_length,show xs.length = ys.length by omega,List.drop_length],rfl⟩
   ·
    intro n vs wr hI u;obtain ⟨k,rfl,hX,hk,hd,hn⟩:=hI;simp only[zu,zF,zG];refine aF (fun K9 hK9=>aF (fun K10 hK10=>wp_region_lit (aA (aB) (aA (pP rfl rfl) ?_))));simp only[zz];refine aG (hK10 _ _ ?_);refine cC rfl (fun hc3=>?_) (fun hc3=>?_)
    ·
     refine wp_skip ?_;refine hK9 _ _ (aF (fun K11 hK11=>wp_block (wp_block (aF (fun K12 hK12=>?_)))));obtain ⟨a,rfl,hca,_⟩:=(hS.ext hX).get (show k - 1 < xs.length by omega);obtain ⟨b,rfl,hcb,_⟩:=(hR.ext hX).get (show k - 1 < ys.length by omega);refine iM aP (by kernel_rfl) (aI (aB) (aI (aB) (aI (aK bD bC rfl rfl (by omega) (by omega) (gF (show _ = k - 1 by omega))) ?_)));simp only[zz];refine iQ rfl (fun _ hE'=>(lies1 (hE'.cell hca) eY)) ?_;simp only[zz];refine aI (aB) (aI (aB) (aI (aK bD bC rfl rfl (by omega) (by omega) (gF (show _ = k - 1 by omega))) ?_));simp only[zz];refine iQ rfl (fun _ hE'=>(lies1 (hE'.cell hcb) eY)) ?_;simp only[zz];refine aI (cO rfl rfl) (aI (aD) ?_);simp only[zz];refine cP ?_;intro w1 hE;replace hX:=hX.trans hE;clear hE;refine hK12 _ _ (cC rfl (fun hc4=>?_) (fun hc4=>?_))
     ·
      refine aF (fun K13 hK13=>wp_region_lit (aA (aD) ?_));simp only[zz];refine aG (hK13 _ _ ?_);refine wp_ret ?_;try simp only[Exit.inBlock,Exit.then]
      refine bS rfl rfl ?_;try simp only[zD,zE]
      exact ⟨_,rfl,hX,by rw [Ij,if_pos (Wh hS.digs (by omega) (by omega) (by omega) hd hc4)]⟩
     ·
      refine aF (fun K14 hK14=>?_);have hca:=(hS.ext hX).at (show k - 1 < xs.length by omega);have hcb:=(hR.ext hX).at (show k - 1 < ys.length by omega);refine iM aP (by kernel_rfl) (aI (aB) (aI (aB) (aI (aK bD bC rfl rfl (by omega) (by omega) (gF (show _ = k - 1 by omega))) ?_)));simp only[zz];refine iQ rfl (fun _ hE'=>(lies1 (hE'.cell hca) eY)) ?_;simp only[zz];refine aI (aB) (aI (aB) (aI (aK bD bC rfl rfl (by omega) (by omega) (gF (show _ = k - 1 by omega))) ?_));simp only[zz];refine iQ rfl (fun _ hE'=>(lies1 (hE'.cell hcb) eY)) ?_;simp only[zz];refine aI (oE rfl rfl) (aI (aD) ?_);simp only[zz];refine cP ?_;intro w2 hE;replace hX:=hX.trans hE;clear hE;refine hK14 _ _ (cC rfl (fun hc5=>?_) (fun hc5=>?_))
      ·
       refine aF (fun K15 hK15=>wp_region_lit (aA (aD) ?_));simp only[zz];refine aG (hK15 _ _ ?_);refine wp_ret ?_;try simp only[Exit.inBlock,Exit.then]
       refine bS rfl rfl ?_;try simp only[zD,zE]
       exact ⟨_,rfl,hX,by have:=Wh hR.digs (by omega) (by omega) (by omega) hd.symm hc5;rw [Ij,if_neg (by omega),if_pos this]⟩
      ·
       refine wp_skip ?_;refine hK11 _ _ (wp_region_lit (aA (aB) (aA (eO rfl rfl (aM (by omega) (by omega))) (aA (aD) ?_))));simp only[zz];refine aG ?_;rw [show ((k:Int) - 1 - 1) = ((k - 1 : Nat) : Int) - 1 by omega];simp only[Exit.inBlock,Exit.then];refine ⟨k - 1,_,?_,rfl,?_,?_⟩
       · omega
       · simp only[zz,zv]
       ·
        simp only[zQ,zR,zD,zE];exact ⟨k - 1,rfl,hX,by omega,Sp (by omega) (by omega) (by omega) hd hc4 hc5,rfl⟩
    ·
     refine wp_exit ?_;refine hK7 _ _ (aF (fun K16 hK16=>wp_region_lit (aA (aD) ?_)));simp only[zz];refine aG (hK16 _ _ ?_);refine wp_ret ?_;try simp only[Exit.inBlock,Exit.then]
     refine bS rfl rfl ?_;try simp only[zD,zE]
     exact ⟨_,rfl,hX,by have h0 : k = 0:=(by omega);subst h0;simp only[List.drop_zero] at hd;rw [hd,Ij,if_neg (by omega),if_neg (by omega)]⟩
theorem ace {A B : Option Addr} {xs ys : List Nat} {na nb ca cb : Nat} (w : World) (hS : dM w A na ca xs) (hR : dM w B nb cb ys) (hlx : xs.length ≤ 1099511627776) (hly : ys.length ≤ 1099511627776) : eL prog 116 [.slice A na ca,.slice B nb cb] w (gI (val 4294967296 xs + val 4294967296 ys)):=by
 skip
 refine ⟨acT,?_⟩;have hX:=dK.refl w;obtain rfl:=hS.eq;obtain rfl:=hR.eq
 go_enter func116,ntmps116
 refine aF (fun K1 hK1=>wp_region_lit (aA (aD) ?_));simp only[zz];refine aG (hK1 _ _ ?_);refine aF (fun K2 hK2=>aF (fun K3 hK3=>wp_region_lit (aA (aB) (aA (bA rfl bD rfl) (aA (aB) ?_)))));simp only[zz];refine aA (bA rfl bD rfl) (aA (cO rfl rfl) ?_);simp only[zz];refine aG (hK3 _ _ ?_);refine cC rfl (fun hc1=>?_) (fun hc1=>?_)
 ·
  obtain ⟨qb,rfl⟩ : ∃ q,q = xs:=⟨_,rfl⟩
  obtain ⟨qa,rfl⟩ : ∃ q,q = ys:=⟨_,rfl⟩
  obtain ⟨Qb,rfl⟩ : ∃ q,q = A:=⟨_,rfl⟩
  obtain ⟨Qa,rfl⟩ : ∃ q,q = B:=⟨_,rfl⟩
  have hSa:=hR;have hSb:=hS;refine wp_region_lit (aA (aB) (aA (aB) (aA (aD) ?_)));simp only[zz];refine aA (aD) ?_;simp only[zz];refine aG (hK2 _ _ ?_);refine aF (fun K4 hK4=>wp_region_lit (aA (aB) (aA (bA rfl bD rfl) (aA (aQ rfl rfl (aM (by omega) (by omega))) ?_))));simp only[zz];refine jE bD lY rfl rfl rfl (show _ = qa.length + 1 by omega) (show _ = qa.length + 1 by omega) (by omega) (by omega) (by omega) (by omega) ?_;intro w1 g1 hE hg1 hB1;have hG1:=Nat.le_trans hX.size hg1;replace hX:=hX.trans hE;clear hE hg1;simp only[zz];refine aA (aD) ?_;simp only[zz];refine aG ?_;rw [fY] at hB1;refine hK4 _ _ (aF (fun K5 hK5=>wp_region_lit (aA (aD) ?_)));simp only[zz];refine aG (hK5 _ _ ?_);refine aF (fun K6 hK6=>aF (fun K7 hK7=>wp_region_lit (aA (aB) (aA (bA rfl bD rfl) (aA (aB) ?_)))));simp only[zz];refine aG (hK7 _ _ ?_);refine wp_block (bJ [6,22] [7,8,23,24,25,26,27,28,29,30,31,32,33,34,35,36,37,38,39,40,41,42,43,44,45,46,47,48] (fun n vs wl=>∃ (i c : Nat) (os : List Nat),vs = [.int .u64 (c:Int),.int .i64 (i:Int)] ∧ (dK w wl) ∧ (gD wl g1 (os.map kH) 126) ∧ (i ≤ qa.length) ∧ (os.length = qa.length + 1) ∧ (val 4294967296 os + 4294967296 ^ i * c = val 4294967296 (qa.take i) + val 4294967296 (qb.take i)) ∧ (os.drop i = List.replicate (qa.length + 1 - i) 0) ∧ (cZ 4294967296 os) ∧ (c ≤ 1) ∧ (n = qa.length - i)) ?_ ?_)
  ·
   apply Exists.intro;simp only[zQ,zR,zD,zE];exact ⟨0,0,List.replicate (qa.length + 1) 0,rfl,hX,hB1,by omega,by simp,by simp [eT,val],by simp,fun x hx=>by rw [List.eq_of_mem_replicate hx];decide,by omega,rfl⟩
  ·
   intro n vs wr hI u;obtain ⟨i,c,os,rfl,hX,hB1,hi,hlo,hv,hz,hd,hc,hn⟩:=hI;simp only[zu,zF,zG];refine aF (fun K8 hK8=>wp_region_lit (aA (cO rfl rfl) ?_));simp only[zz];refine aG (hK8 _ _ ?_);refine aF (fun K9 hK9=>?_);refine cC rfl (fun hc2=>?_) (fun hc2=>?_)
   ·
    refine wp_skip ?_;refine hK9 _ _ (aF (fun K10 hK10=>wp_block (aF (fun K11 hK11=>wp_region_lit (aA (aB) (aA (aD) ?_))))));simp only[zz];refine aG (hK11 _ _ ?_);refine aF (fun K12 hK12=>?_);obtain ⟨a,rfl,hca,hla⟩:=(hSa.ext hX).get (show i < qa.length by omega);refine wp_region_lit (aA (aB) (aA (aB) (aA (aK bD bC rfl rfl (by omega) (by omega) (gF (Int.toNat_natCast _))) ?_)));simp only[zz];refine aL rfl (lies1 hca eY) ?_;simp only[zz];refine aA (aB) (aA (aQ rfl rfl (eW (by omega) (by omega))) (aA (aD) ?_));simp only[zz];refine aG (hK12 _ _ ?_);refine aF (fun K13 hK13=>aF (fun K14 hK14=>wp_region_lit (aA (aB) (aA (aB) (aA (bA rfl bD rfl) ?_)))));simp only[zz];refine aA (cO rfl rfl) ?_;simp only[zz];refine aG (hK14 _ _ ?_);refine cC rfl (fun hc3=>?_) (fun hc3=>?_)
    ·
     obtain ⟨b,rfl,hcb,hlb⟩:=(hSb.ext hX).get (show i < qb.length by omega);refine wp_region_lit (aA (aB) (aA (aB) (aA (aB) ?_)));simp only[zz];refine aA (aK bD bC rfl rfl (by omega) (by omega) (gF (Int.toNat_natCast _))) ?_;simp only[zz];refine aL rfl (lies1 hcb eY) ?_;simp only[zz];refine aA (aQ rfl rfl (eW (by omega) (by omega))) (aA (aD) ?_);simp only[zz];refine aG ?_;obtain ⟨s,hs⟩ : ∃ s : Nat,(s : Int) = ↑qa[i] + ↑c + ↑qb[i]:=⟨qa[i] + c + qb[i],by omega⟩
     rw [← hs];have hs2 : s = qa[i] + c + qb[i]?.getD 0:=by rw [List.getElem?_eq_getElem (by omega)];simp;omega
     have hyb : qb[i]?.getD 0 < 4294967296:=by rw [List.getElem?_eq_getElem (by omega)];exact hlb
     refine hK13 _ _ ?_;refine wp_region_lit (aA (aB) (aA (aB) (aA (aB) ?_)));simp only[zz];refine aA (rK rfl rfl (oG (by omega) (by omega))) (aA (aB) (aA (qJ rfl rfl (by omega) (Gk (by omega))) ?_));simp only[zz];refine aA (aK bD bC rfl rfl (by omega) (by omega) (eZ (Int.toNat_natCast _))) ?_;simp only[zz];refine dA rfl (by simp only[zz];rfl) (by exact bC) hB1 (by simp;omega) (by simp [Value.oneCell']) ?_;clear hB1;intro w2 hC hB1;replace hX:=hX.chg hC hG1;clear hC;rw [show ((s:Int) % 4294967296) = ((s % 4294967296 : Nat) : Int) by omega,fV (by omega)] at hB1;refine aA (aD) ?_;simp only[zz];refine aG (hK10 _ _ ?_);refine wp_region_lit (aA (aQ rfl rfl (aM (by omega) (by omega))) (aA (aB) ?_));simp only[zz];refine aG ?_;obtain ⟨r1,r2,r3,r4⟩:=uV (by omega) hlo hv hz hd hc hs2 hla hyb;rw [show ((i:Int) + 1) = ((i + 1 : Nat) : Int) by omega,show ((s:Int) / 4294967296) = ((s / 4294967296 : Nat) : Int) by omega];simp only[Exit.inBlock,Exit.then];refine ⟨qa.length - (i + 1),_,?_,rfl,?_,?_⟩
     · omega
     · simp only[zz,zv]
     ·
      simp only[zQ,zR,zD,zE];exact ⟨i + 1,s / 4294967296,os.set i (s % 4294967296),rfl,hX,hB1,by omega,by simpa using hlo,r1,r2,r3,r4,rfl⟩
    ·
     obtain ⟨s,hs⟩ : ∃ s : Nat,(s : Int) = ↑qa[i] + ↑c:=⟨qa[i] + c,by omega⟩
     rw [← hs];have hs2 : s = qa[i] + c + qb[i]?.getD 0:=by rw [List.getElem?_eq_none (by omega)];simp;omega
     have hyb : qb[i]?.getD 0 < 4294967296:=by rw [List.getElem?_eq_none (by omega)];decide
     refine wp_skip ?_;refine hK13 _ _ (wp_region_lit (aA (aB) (aA (aB) (aA (aB) ?_))));simp only[zz];refine aA (rK rfl rfl (oG (by omega) (by omega))) (aA (aB) (aA (qJ rfl rfl (by omega) (Gk (by omega))) ?_));simp only[zz];refine aA (aK bD bC rfl rfl (by omega) (by omega) (eZ (Int.toNat_natCast _))) ?_;simp only[zz];refine dA rfl (by simp only[zz];rfl) (by exact bC) hB1 (by simp;omega) (by simp [Value.oneCell']) ?_;clear hB1;intro w2 hC hB1;replace hX:=hX.chg hC hG1;clear hC;rw [show ((s:Int) % 4294967296) = ((s % 4294967296 : Nat) : Int) by omega,fV (by omega)] at hB1;refine aA (aD) ?_;simp only[zz];refine aG (hK10 _ _ ?_);refine wp_region_lit (aA (aQ rfl rfl (aM (by omega) (by omega))) (aA (aB) ?_));simp only[zz];refine aG ?_;obtain ⟨r1,r2,r3,r4⟩:=uV (by omega) hlo hv hz hd hc hs2 hla hyb;rw [show ((i:Int) + 1) = ((i + 1 : Nat) : Int) by omega,show ((s:Int) / 4294967296) = ((s / 4294967296 : Nat) : Int) by omega];simp only[Exit.inBlock,Exit.then];refine ⟨qa.length - (i + 1),_,?_,rfl,?_,?_⟩
     · omega
     · simp only[zz,zv]
     ·
      simp only[zQ,zR,zD,zE];exact ⟨i + 1,s / 4294967296,os.set i (s % 4294967296),rfl,hX,hB1,by omega,by simpa using hlo,r1,r2,r3,r4,rfl⟩
   ·
    refine wp_exit ?_;refine hK6 _ _ (aF (fun K15 hK15=>?_));obtain rfl : i = qa.length:=by omega
    refine wp_region_lit (aA (aB) (aA (aB) (aA (bA rfl bD rfl) ?_)));simp only[zz];refine aA (aB) (aA (aK bD bC rfl rfl (by omega) (by omega) (eZ (Int.toNat_natCast _))) ?_);simp only[zz];refine dA rfl (by simp only[zz];rfl) (by exact bC) hB1 (by simp;omega) (by simp [Value.oneCell']) ?_;clear hB1;intro w2 hC hB1;replace hX:=hX.chg hC hG1;clear hC;rw [fV (by omega)] at hB1;refine aG (hK15 _ _ ?_);refine aF (fun K16 hK16=>wp_region_lit (aA (aB) ?_));simp only[zz];refine bE rfl rfl (rG _ (hB1.nat (hd.set (show c < 4294967296 by omega)) (by simp;omega) (by omega))) ?_;rintro v w3 hE rfl;replace hB1:=hB1.ext hE;replace hX:=hX.trans hE;clear hE;simp only[zz];refine aA (aD) ?_;simp only[zz];refine aG (hK16 _ _ ?_);refine wp_ret ?_;try simp only[Exit.inBlock,Exit.then]
    refine bS rfl rfl ?_;try simp only[zD,zE]
    exact ⟨_,rfl,hX,by first | exact gI.of_trim (hB1.nat (hd.set (show c < 4294967296 by omega)) (by simp;omega) (by omega)) (Bo (by omega) hlo hv hz) | (rw [Nat.add_comm];exact gI.of_trim (hB1.nat (hd.set (show c < 4294967296 by omega)) (by simp;omega) (by omega)) (Bo (by omega) hlo hv hz))⟩
 ·
  obtain ⟨qa,rfl⟩ : ∃ q,q = xs:=⟨_,rfl⟩
  obtain ⟨qb,rfl⟩ : ∃ q,q = ys:=⟨_,rfl⟩
  obtain ⟨Qa,rfl⟩ : ∃ q,q = A:=⟨_,rfl⟩
  obtain ⟨Qb,rfl⟩ : ∃ q,q = B:=⟨_,rfl⟩
  have hSa:=hS;have hSb:=hR;refine wp_skip (hK2 _ _ ?_);refine aF (fun K17 hK17=>wp_region_lit (aA (aB) (aA (bA rfl bD rfl) (aA (aQ rfl rfl (aM (by omega) (by omega))) ?_))));simp only[zz];refine jE bD lY rfl rfl rfl (show _ = qa.length + 1 by omega) (show _ = qa.length + 1 by omega) (by omega) (by omega) (by omega) (by omega) ?_;intro w1 g1 hE hg1 hB1;have hG1:=Nat.le_trans hX.size hg1;replace hX:=hX.trans hE;clear hE hg1;simp only[zz];refine aA (aD) ?_;simp only[zz];refine aG ?_;rw [fY] at hB1;refine hK17 _ _ (aF (fun K18 hK18=>wp_region_lit (aA (aD) ?_)));simp only[zz];refine aG (hK18 _ _ ?_);refine aF (fun K19 hK19=>aF (fun K20 hK20=>wp_region_lit (aA (aB) (aA (bA rfl bD rfl) (aA (aB) ?_)))));simp only[zz];refine aG (hK20 _ _ ?_);refine wp_block (bJ [6,22] [7,8,23,24,25,26,27,28,29,30,31,32,33,34,35,36,37,38,39,40,41,42,43,44,45,46,47,48] (fun n vs wl=>∃ (i c : Nat) (os : List Nat),vs = [.int .u64 (c:Int),.int .i64 (i:Int)] ∧ (dK w wl) ∧ (gD wl g1 (os.map kH) 126) ∧ (i ≤ qa.length) ∧ (os.length = qa.length + 1) ∧ (val 4294967296 os + 4294967296 ^ i * c = val 4294967296 (qa.take i) + val 4294967296 (qb.take i)) ∧ (os.drop i = List.replicate (qa.length + 1 - i) 0) ∧ (cZ 4294967296 os) ∧ (c ≤ 1) ∧ (n = qa.length - i)) ?_ ?_)
  ·
   apply Exists.intro;simp only[zQ,zR,zD,zE];exact ⟨0,0,List.replicate (qa.length + 1) 0,rfl,hX,hB1,by omega,by simp,by simp [eT,val],by simp,fun x hx=>by rw [List.eq_of_mem_replicate hx];decide,by omega,rfl⟩
  ·
   intro n vs wr hI u;obtain ⟨i,c,os,rfl,hX,hB1,hi,hlo,hv,hz,hd,hc,hn⟩:=hI;simp only[zu,zF,zG];refine aF (fun K21 hK21=>wp_region_lit (aA (cO rfl rfl) ?_));simp only[zz];refine aG (hK21 _ _ ?_);refine aF (fun K22 hK22=>?_);refine cC rfl (fun hc2=>?_) (fun hc2=>?_)
   ·
    refine wp_skip ?_;refine hK22 _ _ (aF (fun K23 hK23=>wp_block (aF (fun K24 hK24=>wp_region_lit (aA (aB) (aA (aD) ?_))))));simp only[zz];refine aG (hK24 _ _ ?_);refine aF (fun K25 hK25=>?_);obtain ⟨a,rfl,hca,hla⟩:=(hSa.ext hX).get (show i < qa.length by omega);refine wp_region_lit (aA (aB) (aA (aB) (aA (aK bD bC rfl rfl (by omega) (by omega) (gF (Int.toNat_natCast _))) ?_)));simp only[zz];refine aL rfl (lies1 hca eY) ?_;simp only[zz];refine aA (aB) (aA (aQ rfl rfl (eW (by omega) (by omega))) (aA (aD) ?_));simp only[zz];refine aG (hK25 _ _ ?_);refine aF (fun K26 hK26=>aF (fun K27 hK27=>wp_region_lit (aA (aB) (aA (aB) (aA (bA rfl bD rfl) ?_)))));simp only[zz];refine aA (cO rfl rfl) ?_;simp only[zz];refine aG (hK27 _ _ ?_);refine cC rfl (fun hc3=>?_) (fun hc3=>?_)
    ·
     obtain ⟨b,rfl,hcb,hlb⟩:=(hSb.ext hX).get (show i < qb.length by omega);refine wp_region_lit (aA (aB) (aA (aB) (aA (aB) ?_)));simp only[zz];refine aA (aK bD bC rfl rfl (by omega) (by omega) (gF (Int.toNat_natCast _))) ?_;simp only[zz];refine aL rfl (lies1 hcb eY) ?_;simp only[zz];refine aA (aQ rfl rfl (eW (by omega) (by omega))) (aA (aD) ?_);simp only[zz];refine aG ?_;obtain ⟨s,hs⟩ : ∃ s : Nat,(s : Int) = ↑qa[i] + ↑c + ↑qb[i]:=⟨qa[i] + c + qb[i],by omega⟩
     rw [← hs];have hs2 : s = qa[i] + c + qb[i]?.getD 0:=by rw [List.getElem?_eq_getElem (by omega)];simp;omega
     have hyb : qb[i]?.getD 0 < 4294967296:=by rw [List.getElem?_eq_getElem (by omega)];exact hlb
     refine hK26 _ _ ?_;refine wp_region_lit (aA (aB) (aA (aB) (aA (aB) ?_)));simp only[zz];refine aA (rK rfl rfl (oG (by omega) (by omega))) (aA (aB) (aA (qJ rfl rfl (by omega) (Gk (by omega))) ?_));simp only[zz];refine aA (aK bD bC rfl rfl (by omega) (by omega) (eZ (Int.toNat_natCast _))) ?_;simp only[zz];refine dA rfl (by simp only[zz];rfl) (by exact bC) hB1 (by simp;omega) (by simp [Value.oneCell']) ?_;clear hB1;intro w2 hC hB1;replace hX:=hX.chg hC hG1;clear hC;rw [show ((s:Int) % 4294967296) = ((s % 4294967296 : Nat) : Int) by omega,fV (by omega)] at hB1;refine aA (aD) ?_;simp only[zz];refine aG (hK23 _ _ ?_);refine wp_region_lit (aA (aQ rfl rfl (aM (by omega) (by omega))) (aA (aB) ?_));simp only[zz];refine aG ?_;obtain ⟨r1,r2,r3,r4⟩:=uV (by omega) hlo hv hz hd hc hs2 hla hyb;rw [show ((i:Int) + 1) = ((i + 1 : Nat) : Int) by omega,show ((s:Int) / 4294967296) = ((s / 4294967296 : Nat) : Int) by omega];simp only[Exit.inBlock,Exit.then];refine ⟨qa.length - (i + 1),_,?_,rfl,?_,?_⟩
     · omega
     · simp only[zz,zv]
     ·
      simp only[zQ,zR,zD,zE];exact ⟨i + 1,s / 4294967296,os.set i (s % 4294967296),rfl,hX,hB1,by omega,by simpa using hlo,r1,r2,r3,r4,rfl⟩
    ·
     obtain ⟨s,hs⟩ : ∃ s : Nat,(s : Int) = ↑qa[i] + ↑c:=⟨qa[i] + c,by omega⟩
     rw [← hs];have hs2 : s = qa[i] + c + qb[i]?.getD 0:=by rw [List.getElem?_eq_none (by omega)];simp;omega
     have hyb : qb[i]?.getD 0 < 4294967296:=by rw [List.getElem?_eq_none (by omega)];decide
     refine wp_skip ?_;refine hK26 _ _ (wp_region_lit (aA (aB) (aA (aB) (aA (aB) ?_))));simp only[zz];refine aA (rK rfl rfl (oG (by omega) (by omega))) (aA (aB) (aA (qJ rfl rfl (by omega) (Gk (by omega))) ?_));simp only[zz];refine aA (aK bD bC rfl rfl (by omega) (by omega) (eZ (Int.toNat_natCast _))) ?_;simp only[zz];refine dA rfl (by simp only[zz];rfl) (by exact bC) hB1 (by simp;omega) (by simp [Value.oneCell']) ?_;clear hB1;intro w2 hC hB1;replace hX:=hX.chg hC hG1;clear hC;rw [show ((s:Int) % 4294967296) = ((s % 4294967296 : Nat) : Int) by omega,fV (by omega)] at hB1;refine aA (aD) ?_;simp only[zz];refine aG (hK23 _ _ ?_);refine wp_region_lit (aA (aQ rfl rfl (aM (by omega) (by omega))) (aA (aB) ?_));simp only[zz];refine aG ?_;obtain ⟨r1,r2,r3,r4⟩:=uV (by omega) hlo hv hz hd hc hs2 hla hyb;rw [show ((i:Int) + 1) = ((i + 1 : Nat) : Int) by omega,show ((s:Int) / 4294967296) = ((s / 4294967296 : Nat) : Int) by omega];simp only[Exit.inBlock,Exit.then];refine ⟨qa.length - (i + 1),_,?_,rfl,?_,?_⟩
     · omega
     · simp only[zz,zv]
     ·
      simp only[zQ,zR,zD,zE];exact ⟨i + 1,s / 4294967296,os.set i (s % 4294967296),rfl,hX,hB1,by omega,by simpa using hlo,r1,r2,r3,r4,rfl⟩
   ·
    refine wp_exit ?_;refine hK19 _ _ (aF (fun K28 hK28=>?_));obtain rfl : i = qa.length:=by omega
    refine wp_region_lit (aA (aB) (aA (aB) (aA (bA rfl bD rfl) ?_)));simp only[zz];refine aA (aB) (aA (aK bD bC rfl rfl (by omega) (by omega) (eZ (Int.toNat_natCast _))) ?_);simp only[zz];refine dA rfl (by simp only[zz];rfl) (by exact bC) hB1 (by simp;omega) (by simp [Value.oneCell']) ?_;clear hB1;intro w2 hC hB1;replace hX:=hX.chg hC hG1;clear hC;rw [fV (by omega)] at hB1;refine aG (hK28 _ _ ?_);refine aF (fun K29 hK29=>wp_region_lit (aA (aB) ?_));simp only[zz];refine bE rfl rfl (rG _ (hB1.nat (hd.set (show c < 4294967296 by omega)) (by simp;omega) (by omega))) ?_;rintro v w3 hE rfl;replace hB1:=hB1.ext hE;replace hX:=hX.trans hE;clear hE;simp only[zz];refine aA (aD) ?_;simp only[zz];refine aG (hK29 _ _ ?_);refine wp_ret ?_;try simp only[Exit.inBlock,Exit.then]
    refine bS rfl rfl ?_;try simp only[zD,zE]
    exact ⟨_,rfl,hX,by first | exact gI.of_trim (hB1.nat (hd.set (show c < 4294967296 by omega)) (by simp;omega) (by omega)) (Bo (by omega) hlo hv hz) | (rw [Nat.add_comm];exact gI.of_trim (hB1.nat (hd.set (show c < 4294967296 by omega)) (by simp;omega) (by omega)) (Bo (by omega) hlo hv hz))⟩
theorem aak {A B : Option Addr} {xs ys : List Nat} {na nb ca cb : Nat} (w : World) (hS : dM w A na ca xs) (hR : dM w B nb cb ys) (hle : ys.length ≤ xs.length) (hge : val 4294967296 ys ≤ val 4294967296 xs) (hlx : xs.length ≤ 1099511627776) : eL prog 121 [.slice A na ca,.slice B nb cb] w (fun v w'=>gI (val 4294967296 xs - val 4294967296 ys) v w' ∧ rM w v):=by
 skip
 refine ⟨acY,?_⟩;have hX:=dK.refl w;obtain rfl:=hS.eq;obtain rfl:=hR.eq
 go_enter func121,ntmps121
 refine aF (fun K1 hK1=>wp_region_lit (aA (aD) ?_));simp only[zz];refine aG (hK1 _ _ ?_);refine aF (fun K2 hK2=>wp_region_lit (aA (aB) (aA (bA rfl bD rfl) ?_)));simp only[zz];refine jE bD lY rfl rfl rfl (Int.toNat_natCast _) (Int.toNat_natCast _) (by omega) (by omega) (by omega) (by omega) ?_;intro w1 g1 hE hg1 hB1;have hG1:=Nat.le_trans hX.size hg1;replace hX:=hX.trans hE;clear hE hg1;simp only[zz];refine aA (aD) ?_;simp only[zz];refine aG ?_;rw [fY] at hB1;refine hK2 _ _ (aF (fun K3 hK3=>wp_region_lit (aA (aD) ?_)));simp only[zz];refine aG (hK3 _ _ ?_);refine aF (fun K4 hK4=>aF (fun K5 hK5=>wp_region_lit (aA (aB) (aA (bA rfl bD rfl) (aA (aB) ?_)))));simp only[zz];refine aG (hK5 _ _ ?_);refine wp_block (bJ [6,14] [7,8,15,16,17,18,19,20,21,22,23,24,25,26,27,28,29,30,31,32,33,34,35,36,37,38,39,40] (fun n vs wl=>∃ (i c : Nat) (os : List Nat),vs = [.int .u64 (c:Int),.int .i64 (i:Int)] ∧ (dK w wl) ∧ (gD wl g1 (os.map kH) 126) ∧ (i ≤ xs.length) ∧ (os.length = xs.length) ∧ (val 4294967296 os + val 4294967296 (ys.take i) = val 4294967296 (xs.take i) + 4294967296 ^ i * c) ∧ (os.drop i = List.replicate (xs.length - i) 0) ∧ (cZ 4294967296 os) ∧ (c ≤ 1) ∧ (n = xs.length - i)) ?_ ?_)
 ·
  apply Exists.intro;simp only[zQ,zR,zD,zE];exact ⟨0,0,List.replicate xs.length 0,rfl,hX,hB1,by omega,by simp,by simp [eT,val],by simp,fun x hx=>by rw [List.eq_of_mem_replicate hx];decide,by omega,rfl⟩
 ·
  intro n vs wr hI u;obtain ⟨i,c,os,rfl,hX,hB1,hi,hlo,hv,hz,hd,hc,hn⟩:=hI;simp only[zu,zF,zG];refine aF (fun K6 hK6=>wp_region_lit (aA (cO rfl rfl) ?_));simp only[zz];refine aG (hK6 _ _ ?_);refine aF (fun K7 hK7=>?_);refine cC rfl (fun hc1=>?_) (fun hc1=>?_)
  ·
   refine wp_skip ?_;refine hK7 _ _ (aF (fun K8 hK8=>wp_block (aF (fun K9 hK9=>wp_region_lit (aA (aB) (aA (aD) ?_))))));simp only[zz];refine aG (hK9 _ _ ?_);refine aF (fun K10 hK10=>?_);obtain ⟨a,rfl,hca,hla⟩:=(hS.ext hX).get (show i < xs.length by omega);refine wp_region_lit (aA (aB) (aA (aB) (aA (aK bD bC rfl rfl (by omega) (by omega) (gF (Int.toNat_natCast _))) ?_)));simp only[zz];refine aL rfl (lies1 hca eY) ?_;simp only[zz];refine aA (aB) (aA (eO rfl rfl (gU _)) (aA (aD) ?_));simp only[zz];refine aG (hK10 _ _ ?_);refine aF (fun K11 hK11=>aF (fun K12 hK12=>wp_region_lit (aA (aB) (aA (aB) (aA (bA rfl bD rfl) ?_)))));simp only[zz];refine aA (cO rfl rfl) ?_;simp only[zz];refine aG (hK12 _ _ ?_);refine cC rfl (fun hc2=>?_) (fun hc2=>?_)
   ·
    obtain ⟨b,rfl,hcb,hlb⟩:=(hR.ext hX).get (show i < ys.length by omega);refine wp_region_lit (aA (aB) (aA (aB) (aA (aB) ?_)));simp only[zz];refine aA (aK bD bC rfl rfl (by omega) (by omega) (gF (Int.toNat_natCast _))) ?_;simp only[zz];refine aL rfl (lies1 hcb eY) ?_;simp only[zz];refine aA (eO rfl rfl (gU _)) (aA (aD) ?_);simp only[zz];refine aG ?_;obtain ⟨s,hs⟩ : ∃ s : Nat,(s : Int) = ((↑xs[i] - ↑c) % 18446744073709551616 - ↑ys[i]) % 18446744073709551616:=⟨(((↑xs[i] - ↑c) % 18446744073709551616 - ↑ys[i]) % 18446744073709551616 : Int).toNat,by omega⟩
    rw [← hs];have hs2 : (s : Int) = ((xs[i] : Nat) - (c : Nat) - (ys[i]?.getD 0 : Nat) : Int) % 18446744073709551616:=by rw [List.getElem?_eq_getElem (by omega)];simp only[Option.getD_some];omega
    have hyb : ys[i]?.getD 0 < 4294967296:=by rw [List.getElem?_eq_getElem (by omega)];exact hlb
    refine hK11 _ _ ?_;have hs64 : s < 18446744073709551616:=by omega
    refine wp_region_lit (aA (aB) (aA (aB) (aA (aB) ?_)));simp only[zz];refine aA (rK rfl rfl (oG (by omega) (by omega))) (aA (aB) (aA (qJ rfl rfl (by omega) (ab1 (by omega))) ?_));simp only[zz];refine aA (aK bD bC rfl rfl (by omega) (by omega) (eZ (Int.toNat_natCast _))) ?_;simp only[zz];refine dA rfl (by simp only[zz];rfl) (by exact bC) hB1 (by simp;omega) (by simp [Value.oneCell']) ?_;clear hB1;intro w2 hC hB1;replace hX:=hX.chg hC hG1;clear hC;rw [show ((s:Int) % 4294967296) = ((s % 4294967296 : Nat) : Int) by omega,fV (by omega)] at hB1;refine aA (aD) ?_;simp only[zz];refine aG (hK8 _ _ ?_);refine wp_region_lit (aA (aQ rfl rfl (aM (by omega) (by omega))) (aA (aB) ?_));simp only[zz];refine aG ?_;obtain ⟨r1,r2,r3,r4⟩:=Gl (by omega) hlo hv hz hd hc hs2 hla hyb;rw [show ((i:Int) + 1) = ((i + 1 : Nat) : Int) by omega,show ((s:Int) / 9223372036854775808) = ((s / 9223372036854775808 : Nat) : Int) by omega];simp only[Exit.inBlock,Exit.then];refine ⟨xs.length - (i + 1),_,?_,rfl,?_,?_⟩
    · omega
    · simp only[zz,zv]
    ·
     simp only[zQ,zR,zD,zE];exact ⟨i + 1,s / 9223372036854775808,os.set i (s % 4294967296),rfl,hX,hB1,by omega,by simpa using hlo,r1,r2,r3,r4,rfl⟩
   ·
    obtain ⟨s,hs⟩ : ∃ s : Nat,(s : Int) = (↑xs[i] - ↑c) % 18446744073709551616:=⟨((↑xs[i] - ↑c) % 18446744073709551616 : Int).toNat,by omega⟩
    rw [← hs];have hs2 : (s : Int) = ((xs[i] : Nat) - (c : Nat) - (ys[i]?.getD 0 : Nat) : Int) % 18446744073709551616:=by rw [List.getElem?_eq_none (by omega)];simp only[Option.getD_none];omega
    have hyb : ys[i]?.getD 0 < 4294967296:=by rw [List.getElem?_eq_none (by omega)];decide
    refine wp_skip ?_;refine hK11 _ _ ?_;have hs64 : s < 18446744073709551616:=by omega
    refine wp_region_lit (aA (aB) (aA (aB) (aA (aB) ?_)));simp only[zz];refine aA (rK rfl rfl (oG (by omega) (by omega))) (aA (aB) (aA (qJ rfl rfl (by omega) (ab1 (by omega))) ?_));simp only[zz];refine aA (aK bD bC rfl rfl (by omega) (by omega) (eZ (Int.toNat_natCast _))) ?_;simp only[zz];refine dA rfl (by simp only[zz];rfl) (by exact bC) hB1 (by simp;omega) (by simp [Value.oneCell']) ?_;clear hB1;intro w2 hC hB1;replace hX:=hX.chg hC hG1;clear hC;rw [show ((s:Int) % 4294967296) = ((s % 4294967296 : Nat) : Int) by omega,fV (by omega)] at hB1;refine aA (aD) ?_;simp only[zz];refine aG (hK8 _ _ ?_);refine wp_region_lit (aA (aQ rfl rfl (aM (by omega) (by omega))) (aA (aB) ?_));simp only[zz];refine aG ?_;obtain ⟨r1,r2,r3,r4⟩:=Gl (by omega) hlo hv hz hd hc hs2 hla hyb;rw [show ((i:Int) + 1) = ((i + 1 : Nat) : Int) by omega,show ((s:Int) / 9223372036854775808) = ((s / 9223372036854775808 : Nat) : Int) by omega];simp only[Exit.inBlock,Exit.then];refine ⟨xs.length - (i + 1),_,?_,rfl,?_,?_⟩
    · omega
    · simp only[zz,zv]
    ·
     simp only[zQ,zR,zD,zE];exact ⟨i + 1,s / 9223372036854775808,os.set i (s % 4294967296),rfl,hX,hB1,by omega,by simpa using hlo,r1,r2,r3,r4,rfl⟩
  ·
   refine wp_exit ?_;refine hK4 _ _ (aF (fun K13 hK13=>?_));obtain rfl : i = xs.length:=by omega
   refine wp_region_lit (aA (aB) ?_);simp only[zz];refine bE rfl rfl (rG _ (hB1.nat hd (by omega) (by omega))) ?_;rintro v w2 hE rfl;replace hB1:=hB1.ext hE;replace hX:=hX.trans hE;clear hE;simp only[zz];refine aA (aD) ?_;simp only[zz];refine aG (hK13 _ _ ?_);refine wp_ret ?_;try simp only[Exit.inBlock,Exit.then]
   refine bS rfl rfl ?_;try simp only[zD,zE]
   exact ⟨_,rfl,hX,gI.of_trim (hB1.nat hd (n:=xs.length) (by omega) (by omega)) (aaK hle hlo hd hv hge),rM.of_blk hG1⟩
theorem aal {A B : Option Addr} {xs ys : List Nat} {na nb ca cb : Nat} (w : World) (hS : dM w A na ca xs) (hR : dM w B nb cb ys) (hlx : xs.length ≤ 1099511627776) (hly : ys.length ≤ 1099511627776) : eL prog 120 [.slice A na ca,.slice B nb cb] w (gI (val 4294967296 xs * val 4294967296 ys)):=by
 skip
 refine ⟨acX,?_⟩;have hX:=dK.refl w;obtain rfl:=hS.eq;obtain rfl:=hR.eq
 go_enter func120,ntmps120
 refine aF (fun K1 hK1=>wp_region_lit (aA (aD) ?_));simp only[zz];refine aG (hK1 _ _ ?_);refine aF (fun K2 hK2=>wp_region_lit (aA (aB) (aA (bA rfl bD rfl) (aA (aB) ?_))));simp only[zz];refine aA (bA rfl bD rfl) (aA (aQ rfl rfl (aM (by omega) (by omega))) ?_);simp only[zz];refine jE bD lY rfl rfl rfl (show _ = xs.length + ys.length by omega) (show _ = xs.length + ys.length by omega) (by omega) (by omega) (by omega) (by omega) ?_;intro w1 g1 hE hg1 hB1;have hG1:=Nat.le_trans hX.size hg1;replace hX:=hX.trans hE;clear hE hg1;simp only[zz];refine aA (aD) ?_;simp only[zz];refine aG ?_;rw [fY] at hB1;refine hK2 _ _ (aF (fun K3 hK3=>aF (fun K4 hK4=>wp_region_lit (aA (aB) (aA (bA rfl bD rfl) (aA (aB) ?_))))));simp only[zz];refine aG (hK4 _ _ ?_);refine wp_block (bJ [20] [6,7,8,9,10,11,21,22,23,24,25,26,27,28,29,30,31,32,33,34,35,36,37,38,39,40,41,42,43,44,45,46,47,48,49,50,51,52,53,54,55,56,57,58,59,60,61] (fun n vs wl=>∃ (i : Nat) (os : List Nat),vs = [.int .i64 (i:Int)] ∧ (dK w wl) ∧ (gD wl g1 (os.map kH) 126) ∧ (i ≤ xs.length) ∧ (os.length = xs.length + ys.length) ∧ (val 4294967296 os = val 4294967296 (xs.take i) * val 4294967296 ys) ∧ (os.drop (i + ys.length) = List.replicate (xs.length - i) 0) ∧ (cZ 4294967296 os) ∧ (n = xs.length - i)) ?_ ?_)
 ·
  apply Exists.intro;simp only[zQ,zR,zD,zE];exact ⟨0,List.replicate (xs.length + ys.length) 0,rfl,hX,hB1,by omega,by simp,by rw [eT,List.take_zero];simp only[val,Nat.zero_mul],by rw [List.drop_replicate];congr 1;omega,fun x hx=>by rw [List.eq_of_mem_replicate hx];decide,rfl⟩
 ·
  intro n vs wr hI u;obtain ⟨i,os,rfl,hX,hB1,hi,hlo,hv,hz,hd,hn⟩:=hI;simp only[zu,zF,zG];refine aF (fun K5 hK5=>wp_region_lit (aA (cO rfl rfl) ?_));simp only[zz];refine aG (hK5 _ _ ?_);refine aF (fun K6 hK6=>?_);refine cC rfl (fun hc1=>?_) (fun hc1=>?_)
  ·
   refine wp_skip ?_;refine hK6 _ _ (aF (fun K7 hK7=>wp_block (aF (fun K8 hK8=>?_))));obtain ⟨a,rfl,hca,hla⟩:=(hS.ext hX).get (show i < xs.length by omega);refine wp_region_lit (aA (aB) (aA (aK bD bC rfl rfl (by omega) (by omega) (gF (Int.toNat_natCast _))) ?_));simp only[zz];refine aL rfl (lies1 hca eY) ?_;simp only[zz];refine aA (aD) (aA (aD) ?_);simp only[zz];refine aG (hK8 _ _ ?_);refine aF (fun K9 hK9=>wp_region_lit (aA (aD) ?_));simp only[zz];refine aG (hK9 _ _ ?_);refine aF (fun K10 hK10=>aF (fun K11 hK11=>wp_region_lit (aA (aB) (aA (bA rfl bD rfl) (aA (aB) ?_)))));simp only[zz];refine aG (hK11 _ _ ?_);refine wp_block (bJ [8,27] [9,10,11,28,29,30,31,32,33,34,35,36,37,38,39,40,41,42,43,44,45,46,47,48,49,50,51,52,53] (fun n vs wl=>∃ (k c : Nat) (os : List Nat),vs = [.int .u64 (c:Int),.int .i64 (k:Int)] ∧ (dK w wl) ∧ (gD wl g1 (os.map kH) 126) ∧ (k ≤ ys.length) ∧ (os.length = xs.length + ys.length) ∧ (val 4294967296 os + 4294967296 ^ (i + k) * c = val 4294967296 (xs.take i) * val 4294967296 ys + 4294967296 ^ i * (xs[i] * val 4294967296 (ys.take k))) ∧ (os.drop (i + ys.length) = List.replicate (xs.length - i) 0) ∧ (cZ 4294967296 os) ∧ (c < 4294967296) ∧ (n = ys.length - k)) ?_ ?_)
   ·
    apply Exists.intro;simp only[zQ,zR,zD,zE];exact ⟨0,0,os,rfl,hX,hB1,by omega,hlo,by rw [List.take_zero,hv];simp only[val,Nat.mul_zero],hz,hd,by omega,rfl⟩
   ·
    intro n vs wr hI u;obtain ⟨k,c,os,rfl,hX,hB1,hk,hlo,hv2,hz,hd,hc,hn2⟩:=hI;simp only[zu,zF,zG];refine aF (fun K12 hK12=>wp_region_lit (aA (cO rfl rfl) ?_));simp only[zz];refine aG (hK12 _ _ ?_);refine aF (fun K13 hK13=>?_);refine cC rfl (fun hc2=>?_) (fun hc2=>?_)
    ·
     refine wp_skip ?_;refine hK13 _ _ (aF (fun K14 hK14=>wp_block (aF (fun K15 hK15=>?_))));obtain ⟨b,rfl,hcb,hlb⟩:=(hR.ext hX).get (show k < ys.length by omega);refine wp_region_lit (aA (aB) (aA (aK bD bC rfl rfl (by omega) (by omega) (gF (Int.toNat_natCast _))) ?_));simp only[zz];refine aL rfl (lies1 hcb eY) ?_;simp only[zz];refine aA (aD) (aA (aD) ?_);simp only[zz];refine aG (hK15 _ _ ?_);refine aF (fun K16 hK16=>?_);have hco:=hB1.word (show i + k < os.length by omega);have hlo2:=hd.get (List.getElem?_eq_getElem (show i + k < os.length by omega));obtain ⟨hm0,hm1⟩:=aaM hla hlb;refine wp_region_lit (aA (aB) (aA (aB) (aA (aB) ?_)));simp only[zz];refine aA (aQ rfl rfl (aM (by omega) (by omega))) (aA (aK bD bC rfl rfl (by omega) (by omega) (eZ (show _ = i + k by omega))) ?_);simp only[zz];refine aL rfl (lies1 hco eY) ?_;simp only[zz];refine aA (aB) (aA (aB) (aA (fF rfl rfl (eW (by omega) (by omega))) ?_));simp only[zz];refine aA (aQ rfl rfl (eW (by omega) (by omega))) (aA (aB) (aA (aQ rfl rfl (eW (by omega) (by omega))) ?_));simp only[zz];refine aA (aD) ?_;simp only[zz];refine aG ?_;obtain ⟨s,hs⟩ : ∃ s : Nat,s = os[i + k] + xs[i] * ys[k] + c:=⟨_,rfl⟩
     have hsI : (↑os[i + k] + ↑xs[i] * ↑ys[k] + ↑c : Int) = (s : Int):=by rw [hs];simp
     rw [hsI];have hs64 : s < 18446744073709551616:=by omega
     refine hK16 _ _ ?_;refine wp_region_lit (aA (aB) (aA (aB) (aA (aB) ?_)));simp only[zz];refine aA (aQ rfl rfl (aM (by omega) (by omega))) (aA (aB) (aA (rK rfl rfl (oG (by omega) (by omega))) ?_));simp only[zz];refine aA (aB) (aA (qJ rfl rfl (by omega) (Gk (by omega))) (aA (aK bD bC rfl rfl (by omega) (by omega) (eZ (show _ = i + k by omega))) ?_));simp only[zz];refine dA rfl (by simp only[zz];rfl) (by exact bC) hB1 (by simp;omega) (by simp [Value.oneCell']) ?_;clear hB1;intro w2 hC hB1;replace hX:=hX.chg hC hG1;clear hC;rw [show ((s:Int) % 4294967296) = ((s % 4294967296 : Nat) : Int) by omega,fV (by omega)] at hB1;refine aA (aD) ?_;simp only[zz];refine aG (hK14 _ _ ?_);refine wp_region_lit (aA (aQ rfl rfl (aM (by omega) (by omega))) (aA (aB) ?_));simp only[zz];refine aG ?_;have r1:=Sq (by omega) (by omega) hlo hv2 hs;rw [show ((k:Int) + 1) = ((k + 1 : Nat) : Int) by omega,show ((s:Int) / 4294967296) = ((s / 4294967296 : Nat) : Int) by omega];simp only[Exit.inBlock,Exit.then];refine ⟨ys.length - (k + 1),_,?_,rfl,?_,?_⟩
     · omega
     · simp only[zz,zv]
     ·
      simp only[zQ,zR,zD,zE];exact ⟨k + 1,s / 4294967296,os.set (i + k) (s % 4294967296),rfl,hX,hB1,by omega,by simpa using hlo,r1,by rw [oH (by omega)];exact hz,hd.set (by omega),by omega,rfl⟩
    ·
     refine wp_exit ?_;refine hK10 _ _ ?_;obtain rfl : k = ys.length:=by omega
     refine wp_region_lit (aA (aB) (aA (aB) (aA (aB) ?_)));simp only[zz];refine aA (bA rfl bD rfl) (aA (aQ rfl rfl (aM (by omega) (by omega))) (aA (aB) ?_));simp only[zz];refine aA (aK bD bC rfl rfl (by omega) (by omega) (eZ (show _ = i + ys.length by omega))) ?_;simp only[zz];refine dA rfl (by simp only[zz];rfl) (by exact bC) hB1 (by simp;omega) (by simp [Value.oneCell']) ?_;clear hB1;intro w2 hC hB1;replace hX:=hX.chg hC hG1;clear hC;rw [fV (by omega)] at hB1;refine aG (hK7 _ _ ?_);refine wp_region_lit (aA (aQ rfl rfl (aM (by omega) (by omega))) (aA (aB) ?_));simp only[zz];refine aG ?_;obtain ⟨r1,r2⟩:=aaL (by omega) hlo hv2 hz;rw [show ((i:Int) + 1) = ((i + 1 : Nat) : Int) by omega];simp only[Exit.inBlock,Exit.then];refine ⟨xs.length - (i + 1),_,?_,rfl,?_,?_⟩
     · omega
     · simp only[zz,zv]
     ·
      simp only[zQ,zR,zD,zE];exact ⟨i + 1,os.set (i + ys.length) c,rfl,hX,hB1,by omega,by simpa using hlo,r1,r2,hd.set (by omega),rfl⟩
  ·
   refine wp_exit ?_;refine hK3 _ _ (aF (fun K17 hK17=>?_));obtain rfl : i = xs.length:=by omega
   refine wp_region_lit (aA (aB) ?_);simp only[zz];refine bE rfl rfl (rG _ (hB1.nat hd (by omega) (by omega))) ?_;rintro v w2 hE rfl;replace hB1:=hB1.ext hE;replace hX:=hX.trans hE;clear hE;simp only[zz];refine aA (aD) ?_;simp only[zz];refine aG (hK17 _ _ ?_);refine wp_ret ?_;try simp only[Exit.inBlock,Exit.then]
   refine bS rfl rfl ?_;try simp only[zD,zE]
   exact ⟨_,rfl,hX,gI.of_trim (hB1.nat hd (n:=xs.length + ys.length) (by omega) (by omega)) (by rw [hv,List.take_length])⟩
end Go.Proofs.YtfohfflkhpfjeaaGreatDoor
