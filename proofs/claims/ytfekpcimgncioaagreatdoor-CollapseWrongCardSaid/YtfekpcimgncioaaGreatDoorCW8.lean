/-
 Texts of one claim, laid together: K22, K23, Mono, K24, K25, Trav, K27, K28, Maps2, K29, K34, Open5.
-/
import Derived.RunT
import Derived.Test.YtfekpcimgncioaaGreatDoorCW7
set_option maxHeartbeats 8000000
set_option linter.unusedSimpArgs false
set_option linter.unusedVariables false
set_option linter.unusedSectionVars false
namespace Go.Proofs.YtfekpcimgncioaaGreatDoor
open Go.Proofs.Tryz
open Go.RowKit Go.Lith
set_option maxRecDepth 100000
attribute [local irreducible] wpList wpQuiet dB bL cE Code.wp
theorem Vg {a b : List Int} {k : Nat} (ha : a.length = 10) (hb : b.length = 10) (hA : yL k a) (hB : yL k b) (hk : k ≤ 900000) : eQ prog 61 [qV a,qV b] (qV (wN a b)):=by
 intro w;refine ⟨ajf,?_⟩;have m:=Mem.refl w
 go_enter func61,ntmps61
 refine aD fun K1 k1=>wp_region_lit (cB m rfl ?_);clear m;intro g1 u m;simp only[zz];refine cB m rfl ?_;clear m;intro g2 u m;simp only[zz];refine bA m vW rfl ?_;clear m;intro g3 u m;refine aF (k1 _ _ ?_);try clear k1 K1
 refine aD fun K2 k2=>aD fun K3 k3=>wp_region_lit (aA (aB) (aF (k3 _ _ ?_)));try clear k3 K3
 refine wp_block ?_;simp only[zz];try simp only[Nat.zero_add,Nat.reduceAdd,Nat.reduceMul,Int.reduceToNat]
 refine bT [6] [5,7,8,9,10,11,12,13,14,15,16,17,18] (fun n vs wl=>∃ (i : Nat),vs = [.int .i64 (i:Int)] ∧ Mem w wl [bI g3 [.bool false,.string ⟨#[]⟩,.bool false,.string ⟨#[]⟩,.bool false,.string ⟨#[]⟩,.bool false,.string ⟨#[]⟩,.bool false,.string ⟨#[]⟩,.bool false,.string ⟨#[]⟩,.bool false,.string ⟨#[]⟩,.bool false,.string ⟨#[]⟩,.bool false,.string ⟨#[]⟩,.bool false,.string ⟨#[]⟩] 97,bI g2 (qC b) 97,bI g1 (qC (qP a b i)) 97] ∧ (i ≤ 10) ∧ (n = 10 - i)) ?_ ?_
 · skip
   apply Exists.intro;simp only[zQ,zR,zD,zE];exact ⟨0,rfl,m,Nat.zero_le _,rfl⟩
 · intro n vs wr hI u
   clear m;obtain ⟨i,rfl,m,hi,hn⟩:=hI;simp only[zu,zF,zG];refine aD fun K4 k4=>wp_region_lit (aA (cW rfl rfl) (aF (k4 _ _ ?_)));try clear k4 K4
   refine aD fun K5 k5=>?_;simp only[zz];refine cG rfl (fun hc1=>?_) (fun hc1=>?_)
   · skip
     have hi : i < 10:=by omega
     obtain ⟨x,hx0⟩ : ∃ x,a[i]? = some x:=⟨_,Ny ha hi⟩
     obtain ⟨y,hy⟩ : ∃ y,b[i]? = some y:=⟨_,Ny hb hi⟩
     have hx:=aj5 ha hb hi hx0;refine wp_skip (k5 _ _ ?_);try clear k5 K5
     refine aD fun K6 k6=>wp_block (aD fun K7 k7=>wp_region_lit (aA (aB) (aA (aG) (aF (k7 _ _ ?_)))));try clear k7 K7
     simp only[zz];refine eA m 9 aM (by kernel_rfl) ?_;simp only[zy];refine aK (aB) (aK (aB) ?_);simp only[zz];refine aK (aH Dp aP rfl rfl (by omega) (by omega) (lQ (Int.toNat_natCast _))) ?_;simp only[zz];refine ql rfl (fun u m=>(show hG _ _ _ _ (W x) from (vN (m.b 2 rfl) hx).lies bN aP)) ?_;simp only[zz];refine aK (aB) ?_;simp only[zz];refine aK (aH Dp aP rfl rfl (by omega) (by omega) (lQ (Int.toNat_natCast _))) ?_;simp only[zz];refine ql rfl (fun u m=>(show hG _ _ _ _ (W y) from (vN (m.b 1 rfl) hy).lies bN aP)) ?_;simp only[zz];refine gV rfl rfl (La ((hA.at hx0).mono (by omega)) ((hB.at hy).mono (by omega))) ?_;simp only[zz];refine aK (aH Dp aP rfl rfl (by omega) (by omega) (lQ (Int.toNat_natCast _))) (bZ ?_);clear m;intro u m;simp only[zz];refine aT m 2 rfl rfl rfl aP (by have h1:=vM (qP a b i);have h2:=acX ha hb (show i ≤ 10 by omega);simp only[List.length_cons,List.length_nil];omega) rfl ?_;clear m;intro u m;simp only[zF,zG] at m;rw [show bB (qC (qP a b i)) (i * 2) [.bool (iG (x + y)),.string (nE (x + y))] = qC (qP a b (i + 1)) from (Nv (x:=x + y) (by rw [acX ha hb (by omega)];omega)).trans (by rw [aim ha hb hi hx0 hy])] at m;refine aF (k6 _ _ ?_);try clear k6 K6
     refine wp_region_lit (aA (aU rfl rfl (aV (by omega) (by omega))) (aA (aB) (aF ?_)));simp only[zz];simp only[Exit.inBlock,Exit.then];refine ⟨10 - (i + 1),_,?_,rfl,?_,?_⟩
     · omega
     · simp only[zz,zv]
     · simp only[zQ,zR,zD,zE]
       exact ⟨i + 1,rfl,m,by omega,rfl⟩
   · skip
     obtain rfl : i = 10:=by omega
     rw [ail ha hb] at m;refine wp_exit (k2 _ _ ?_);try clear k2 K2
     refine aD fun K8 k8=>wp_region_lit (aJ rfl (rF (m.b 2 rfl) sP iE (by simp only[iT ha hb])) ?_);simp only[zz];refine wI (n:=20) m 0 rfl rfl rfl (by rw [iT ha hb]) rfl iE ?_;clear m;intro u m;simp only[zF,zG] at m;refine aF (k8 _ _ ?_);try clear k8 K8
     refine wp_ret ?_;try simp only[Exit.inBlock,Exit.then,if_true]
     refine bE rfl ⟨_,rfl,(rF (m.b 0 rfl) sP iE (by simp only[iT ha hb]))⟩ ?_;try simp only[zD,zE]
     exact ⟨_,rfl,m.ext,rfl⟩
theorem akE {t : T3} [IT t] : eQ prog 182 [tr t] (qV [t.normal.x,t.normal.y,t.normal.z,0 - t.normal.x * t.a.x - t.normal.y * t.a.y - t.normal.z * t.a.z]):=by
 intro w;refine ⟨agw,?_⟩;have m:=Mem.refl w
 go_enter func182,ntmps182
 refine aD fun K1 k1=>wp_region_lit (cB m rfl ?_);clear m;intro g1 u m;simp only[zz];refine bA m uR rfl ?_;clear m;intro g2 u m;refine aF (k1 _ _ ?_);try clear k1 K1
 refine aD fun K2 k2=>wp_region_lit ?_;simp only[zz];refine aJ rfl ((m.b 1 rfl).full bR aR) ?_;simp only[zz];refine dH m rfl rfl (Hr (t:=t)) ?_;clear m;intro u m;simp only[zz];refine bA m Pg rfl ?_;clear m;intro g3 u m;simp only[zz];refine aT m 0 rfl rfl rfl Ck (cU rfl) rfl ?_;clear m;intro u m;simp only[zy,zx,bB,zF,zG,Nat.reduceAdd] at m;refine aF (k2 _ _ ?_);try clear k2 K2
 refine aD fun K3 k3=>wp_region_lit (aA (aH xQ aP rfl rfl (by decide) (by decide) rfl) ?_);simp only[zz];refine aJ rfl ((m.b 0 rfl).lies bN aP rfl rfl) ?_;simp only[zz,zy,Nat.zero_add,Nat.reduceAdd,Nat.reduceMul,Int.reduceToNat];refine aA (aH xQ aP rfl rfl (by decide) (by decide) rfl) ?_;simp only[zz];refine aJ rfl ((m.b 0 rfl).lies bN aP rfl rfl) ?_;simp only[zz,zy,Nat.zero_add,Nat.reduceAdd,Nat.reduceMul,Int.reduceToNat];refine aA (aH xQ aP rfl rfl (by decide) (by decide) rfl) ?_;simp only[zz];refine aJ rfl ((m.b 0 rfl).lies bN aP rfl rfl) ?_;simp only[zz,zy,Nat.zero_add,Nat.reduceAdd,Nat.reduceMul,Int.reduceToNat];refine aA (Ai rfl rfl rfl) ?_;simp only[zz];refine bA m uR rfl ?_;clear m;intro g4 u m;simp only[zz];refine aT m 0 rfl rfl rfl oP (cU rfl) rfl ?_;clear m;intro u m;simp only[zy,zx,bB,zF,zG,Nat.reduceAdd] at m;refine aF (k3 _ _ ?_);try clear k3 K3
 refine aD fun K4 k4=>aD fun K5 k5=>wp_region_lit (aA (aH bD aC rfl rfl (by decide) (by decide) rfl) (aA (aL (c:=0) dL rfl aO rfl rfl) ?_));simp only[zz];refine aJ rfl ((m.b 3 rfl).lies1 aX rfl) ?_;simp only[zz];refine aA (aH bD aC rfl rfl (by decide) (by decide) rfl) (aA (aL (c:=0) dL rfl aO rfl rfl) ?_);simp only[zz];refine aJ rfl ((m.b 3 rfl).lies1 aX rfl) ?_;simp only[zz];refine aA (aH bD aC rfl rfl (by decide) (by decide) rfl) (aA (aL (c:=0) dL rfl aO rfl rfl) ?_);simp only[zz];refine aJ rfl ((m.b 3 rfl).lies1 aX rfl) ?_;simp only[zz];refine aA (dP rfl rfl rfl) (aA (aB) (aF (k5 _ _ ?_)));try clear k5 K5
 refine wp_block (wp_loop_rounds 4 (bU (aD fun K6 k6=>wp_region_lit (aA (bF (m:=0) (n:=3) rfl rfl (by decide)) (aF (k6 _ _ ?_))))));try clear k6 K6
 refine aD fun K7 k7=>bK rfl (wp_skip (k7 _ _ ?_));try clear k7 K7
 refine aD fun K8 k8=>wp_block (aD fun K9 k9=>wp_region_lit (aA (aB) ?_));simp only[zz];refine aA (gN rfl rfl) (aA (aG) (aA (aG) (aF (k9 _ _ ?_))));try clear k9 K9
 simp only[zz];refine eA m 10 aM (by kernel_rfl) ?_;simp only[zy];refine aK (aH nH aP rfl rfl (by decide) (by decide) rfl) ?_;simp only[zz];refine ql rfl (fun u m=>(aeJ ((m.b 0 rfl).lies bN aP rfl rfl))) ?_;simp only[zz];refine aK (aB) (aK (aH xQ aP rfl rfl (by decide) (by decide) rfl) ?_);simp only[zz];refine ql rfl (fun u m=>((m.b 1 rfl).lies bN aP rfl rfl)) ?_;simp only[zz,zy,Nat.zero_add,Nat.reduceAdd,Nat.reduceMul,Int.reduceToNat];refine aK (aB) ?_;simp only[zz];refine gV rfl rfl (lZ Iw.h) ?_;simp only[zz];refine gV rfl rfl (nT Bw.up Bw.up) ?_;simp only[zz];refine gV rfl rfl (xK Bw.up Bw.up) (aK (aH nH aP rfl rfl (by decide) (by decide) rfl) (bZ ?_));clear m;intro u m;simp only[zz];refine aT m 0 rfl rfl rfl aP (cU rfl) rfl ?_;clear m;intro u m;simp only[zy,zx,bB,zF,zG,Nat.reduceAdd] at m;refine aF (k8 _ _ ?_);try clear k8 K8
 refine wp_region_lit (aA (aU (m:=0) (n:=1) (r:=1) rfl rfl (by decide)) (aA (aB) (aF (aQ (aD fun K10 k10=>wp_region_lit (aA (bF (m:=1) (n:=3) rfl rfl (by decide)) (aF (k10 _ _ ?_))))))));try clear k10 K10
 refine aD fun K11 k11=>bK rfl (wp_skip (k11 _ _ ?_));try clear k11 K11
 refine aD fun K12 k12=>wp_block (aD fun K13 k13=>wp_region_lit (aA (aB) ?_));simp only[zz];refine aA (gP rfl rfl) (aA (aG) (aA (aG) (aF (k13 _ _ ?_))));try clear k13 K13
 simp only[zz];refine eA m 10 aM (by kernel_rfl) ?_;simp only[zy];refine aK (aH nH aP rfl rfl (by decide) (by decide) rfl) ?_;simp only[zz];refine ql rfl (fun u m=>((m.b 0 rfl).lies bN aP rfl rfl)) ?_;simp only[zz,zy,Nat.zero_add,Nat.reduceAdd,Nat.reduceMul,Int.reduceToNat];refine aK (aB) (aK (aH xQ aP rfl rfl (by decide) (by decide) rfl) ?_);simp only[zz];refine ql rfl (fun u m=>((m.b 1 rfl).lies bN aP rfl rfl)) ?_;simp only[zz,zy,Nat.zero_add,Nat.reduceAdd,Nat.reduceMul,Int.reduceToNat];refine aK (aB) ?_;simp only[zz];refine gV rfl rfl (lZ Iw.h) ?_;simp only[zz];refine gV rfl rfl (nT Bw.up Bw.up) ?_;simp only[zz];refine gV rfl rfl (xK Bw.up Bw.up) (aK (aH nH aP rfl rfl (by decide) (by decide) rfl) (bZ ?_));clear m;intro u m;simp only[zz];refine aT m 0 rfl rfl rfl aP (cU rfl) rfl ?_;clear m;intro u m;simp only[zy,zx,bB,zF,zG,Nat.reduceAdd] at m;refine aF (k12 _ _ ?_);try clear k12 K12
 refine wp_region_lit (aA (aU (m:=1) (n:=1) (r:=2) rfl rfl (by decide)) (aA (aB) (aF (aQ (aD fun K14 k14=>wp_region_lit (aA (bF (m:=2) (n:=3) rfl rfl (by decide)) (aF (k14 _ _ ?_))))))));try clear k14 K14
 refine aD fun K15 k15=>bK rfl (wp_skip (k15 _ _ ?_));try clear k15 K15
 refine aD fun K16 k16=>wp_block (aD fun K17 k17=>wp_region_lit (aA (aB) ?_));simp only[zz];refine aA (gQ rfl rfl) (aA (aG) (aA (aG) (aF (k17 _ _ ?_))));try clear k17 K17
 simp only[zz];refine eA m 10 aM (by kernel_rfl) ?_;simp only[zy];refine aK (aH nH aP rfl rfl (by decide) (by decide) rfl) ?_;simp only[zz];refine ql rfl (fun u m=>((m.b 0 rfl).lies bN aP rfl rfl)) ?_;simp only[zz,zy,Nat.zero_add,Nat.reduceAdd,Nat.reduceMul,Int.reduceToNat];refine aK (aB) (aK (aH xQ aP rfl rfl (by decide) (by decide) rfl) ?_);simp only[zz];refine ql rfl (fun u m=>((m.b 1 rfl).lies bN aP rfl rfl)) ?_;simp only[zz,zy,Nat.zero_add,Nat.reduceAdd,Nat.reduceMul,Int.reduceToNat];refine aK (aB) ?_;simp only[zz];refine gV rfl rfl (lZ Iw.h) ?_;simp only[zz];refine gV rfl rfl (nT Bw.up Bw.up) ?_;simp only[zz];refine gV rfl rfl (xK Bw.up Bw.up) (aK (aH nH aP rfl rfl (by decide) (by decide) rfl) (bZ ?_));clear m;intro u m;simp only[zz];refine aT m 0 rfl rfl rfl aP (cU rfl) rfl ?_;clear m;intro u m;simp only[zy,zx,bB,zF,zG,Nat.reduceAdd] at m;refine aF (k16 _ _ ?_);try clear k16 K16
 refine wp_region_lit (aA (aU (m:=2) (n:=1) (r:=3) rfl rfl (by decide)) (aA (aB) (aF (aQ (aD fun K18 k18=>wp_region_lit (aA (dM (m:=3) (n:=3) rfl rfl (by decide)) (aF (k18 _ _ ?_))))))));try clear k18 K18
 refine aD fun K19 k19=>gA rfl (wp_exit (k4 _ _ ?_));try clear k4 K4
 refine aD fun K20 k20=>wp_region_lit ?_;simp only[zz];refine aJ rfl ((m.b 0 rfl).full Mi oP) ?_;simp only[zz];refine aT m 2 rfl rfl rfl oP (cU rfl) rfl ?_;clear m;intro u m;simp only[zy,zx,bB,zF,zG,Nat.reduceAdd] at m;refine aF (k20 _ _ ?_);try clear k20 K20
 refine wp_ret ?_;try simp only[Exit.inBlock,Exit.then,if_true]
 refine bE rfl ⟨_,rfl,((m.b 2 rfl).full Mi oP)⟩ ?_;try simp only[zD,zE]
 exact ⟨_,rfl,m.ext,rfl⟩
def aj8 (f : FuncId) (caps : Array Value) (w0 : World) (is : List It) (k : Nat) (J : Nat → It) : Prop :=
 ∀ n u,n < 10 → Mem w0 u (is.set k (J n)) → tQ prog f ([.int .i64 (n : Int),.int .i64 (eI n : Int),.int .i64 (eJ n : Int)] ++ caps.toList) u fun _ w'=>Mem w0 w' (is.set k (J (n + 1)))
theorem ac2 {w0 w : World} {is : List It} {f : FuncId} {caps : Array Value} {J : Nat → It} (m : Mem w0 w is) (k : Nat) (hk : is[k]? = some (J 0)) (hc : aj8 f caps w0 is k J) : Calls prog 119 [.func (.func f) #[] caps].toArray w fun e w'=>∃ v i,e = .returned v ∧ Mem w0 w' (is.set k i) ∧ (v = .tuple #[] ∧ i = J 10):=by
 replace m:=(show Mem w0 w (is.set k (J 0)) by rw [Gt hk];exact m)
 go_enter func119,ntmps119
 refine aD fun K1 k1=>wp_region_lit (aA (aG) (aF (k1 _ _ ?_)));try clear k1 K1
 refine aD fun K2 k2=>wp_region_lit (aA (aB) (aF (k2 _ _ ?_)));try clear k2 K2
 refine wp_block (wp_loop_rounds 5 (bU (aD fun K3 k3=>wp_region_lit (aA (bF (m:=0) (n:=4) rfl rfl (by decide)) (aF (k3 _ _ ?_))))));try clear k3 K3
 refine aD fun K4 k4=>bK rfl (wp_skip (k4 _ _ ?_));try clear k4 K4
 refine aD fun K5 k5=>wp_block (aD fun K6 k6=>wp_region_lit (aA (aB) ?_));simp only[zz];refine aA (aG) (aF (k6 _ _ ?_));try clear k6 K6
 refine aD fun K7 k7=>wp_region_lit (aA (aB) (aA (aG) (aF (k7 _ _ ?_))));try clear k7 K7
 refine wp_block (wp_loop_rounds 5 (bU (aD fun K8 k8=>aD fun K9 k9=>wp_region_lit (aA (aB) ?_))));simp only[zz];refine aA (bF (m:=0) (n:=4) rfl rfl (by decide)) (aF (k9 _ _ ?_));try clear k9 K9
 refine bK rfl (wp_skip (k8 _ _ ?_));try clear k8 K8
 refine aD fun K10 k10=>wp_block (aD fun K11 k11=>wp_region_lit (aA (aB) (aA (aB) (aA (aB) ?_))));simp only[zz];refine aA (aB) ?_;simp only[zz];refine jL rfl rfl (hc 0 _ (by decide) m) ?_;clear m;rintro v u m;refine aF (k11 _ _ ?_);try clear k11 K11
 refine wp_region_lit (aA (aB) (aA (aU (m:=0) (n:=1) (r:=1) rfl rfl (by decide)) (aA (aG) ?_)));simp only[zz];refine aF (k10 _ _ ?_);try clear k10 K10
 refine wp_region_lit (aA (aB) (aA (aU (m:=0) (n:=1) (r:=1) rfl rfl (by decide)) (aA (aG) (aF (aQ (aD fun K12 k12=>aD fun K13 k13=>wp_region_lit (aA (aB) ?_)))))));simp only[zz];refine aA (bF (m:=1) (n:=4) rfl rfl (by decide)) (aF (k13 _ _ ?_));try clear k13 K13
 refine bK rfl (wp_skip (k12 _ _ ?_));try clear k12 K12
 refine aD fun K14 k14=>wp_block (aD fun K15 k15=>wp_region_lit (aA (aB) (aA (aB) (aA (aB) ?_))));simp only[zz];refine aA (aB) ?_;simp only[zz];refine jL rfl rfl (hc 1 _ (by decide) m) ?_;clear m;rintro v u m;refine aF (k15 _ _ ?_);try clear k15 K15
 refine wp_region_lit (aA (aB) (aA (aU (m:=1) (n:=1) (r:=2) rfl rfl (by decide)) (aA (aG) ?_)));simp only[zz];refine aF (k14 _ _ ?_);try clear k14 K14
 refine wp_region_lit (aA (aB) (aA (aU (m:=1) (n:=1) (r:=2) rfl rfl (by decide)) (aA (aG) (aF (aQ (aD fun K16 k16=>aD fun K17 k17=>wp_region_lit (aA (aB) ?_)))))));simp only[zz];refine aA (bF (m:=2) (n:=4) rfl rfl (by decide)) (aF (k17 _ _ ?_));try clear k17 K17
 refine bK rfl (wp_skip (k16 _ _ ?_));try clear k16 K16
 refine aD fun K18 k18=>wp_block (aD fun K19 k19=>wp_region_lit (aA (aB) (aA (aB) (aA (aB) ?_))));simp only[zz];refine aA (aB) ?_;simp only[zz];refine jL rfl rfl (hc 2 _ (by decide) m) ?_;clear m;rintro v u m;refine aF (k19 _ _ ?_);try clear k19 K19
 refine wp_region_lit (aA (aB) (aA (aU (m:=2) (n:=1) (r:=3) rfl rfl (by decide)) (aA (aG) ?_)));simp only[zz];refine aF (k18 _ _ ?_);try clear k18 K18
 refine wp_region_lit (aA (aB) (aA (aU (m:=2) (n:=1) (r:=3) rfl rfl (by decide)) (aA (aG) (aF (aQ (aD fun K20 k20=>aD fun K21 k21=>wp_region_lit (aA (aB) ?_)))))));simp only[zz];refine aA (bF (m:=3) (n:=4) rfl rfl (by decide)) (aF (k21 _ _ ?_));try clear k21 K21
 refine bK rfl (wp_skip (k20 _ _ ?_));try clear k20 K20
 refine aD fun K22 k22=>wp_block (aD fun K23 k23=>wp_region_lit (aA (aB) (aA (aB) (aA (aB) ?_))));simp only[zz];refine aA (aB) ?_;simp only[zz];refine jL rfl rfl (hc 3 _ (by decide) m) ?_;clear m;rintro v u m;refine aF (k23 _ _ ?_);try clear k23 K23
 refine wp_region_lit (aA (aB) (aA (aU (m:=3) (n:=1) (r:=4) rfl rfl (by decide)) (aA (aG) ?_)));simp only[zz];refine aF (k22 _ _ ?_);try clear k22 K22
 refine wp_region_lit (aA (aB) (aA (aU (m:=3) (n:=1) (r:=4) rfl rfl (by decide)) (aA (aG) (aF (aQ (aD fun K24 k24=>aD fun K25 k25=>wp_region_lit (aA (aB) ?_)))))));simp only[zz];refine aA (dM (m:=4) (n:=4) rfl rfl (by decide)) (aF (k25 _ _ ?_));try clear k25 K25
 refine gA rfl (wp_exit (k5 _ _ ?_));try clear k5 K5
 refine wp_region_lit (aA (aU (m:=0) (n:=1) (r:=1) rfl rfl (by decide)) (aA (aB) (aF (aQ (aD fun K26 k26=>wp_region_lit (aA (bF (m:=1) (n:=4) rfl rfl (by decide)) ?_))))));simp only[zz];refine aF (k26 _ _ ?_);try clear k26 K26
 refine aD fun K27 k27=>bK rfl (wp_skip (k27 _ _ ?_));try clear k27 K27
 refine aD fun K28 k28=>wp_block (aD fun K29 k29=>wp_region_lit (aA (aB) (aA (aG) (aF (k29 _ _ ?_)))));try clear k29 K29
 refine aD fun K30 k30=>wp_region_lit (aA (aB) (aA (aG) ?_));simp only[zz];refine aF (k30 _ _ ?_);try clear k30 K30
 refine wp_block (wp_loop_rounds 4 (bU (aD fun K31 k31=>aD fun K32 k32=>wp_region_lit (aA (aB) (aA (bF (m:=1) (n:=4) rfl rfl (by decide)) (aF (k32 _ _ ?_)))))));try clear k32 K32
 refine bK rfl (wp_skip (k31 _ _ ?_));try clear k31 K31
 refine aD fun K33 k33=>wp_block (aD fun K34 k34=>wp_region_lit (aA (aB) (aA (aB) ?_)));simp only[zz];refine aA (aB) (aA (aB) ?_);simp only[zz];refine jL rfl rfl (hc 4 _ (by decide) m) ?_;clear m;rintro v u m;refine aF (k34 _ _ ?_);try clear k34 K34
 refine wp_region_lit (aA (aB) (aA (aU (m:=4) (n:=1) (r:=5) rfl rfl (by decide)) (aA (aG) ?_)));simp only[zz];refine aF (k33 _ _ ?_);try clear k33 K33
 refine wp_region_lit (aA (aB) (aA (aU (m:=1) (n:=1) (r:=2) rfl rfl (by decide)) (aA (aG) (aF (aQ (aD fun K35 k35=>aD fun K36 k36=>wp_region_lit (aA (aB) ?_)))))));simp only[zz];refine aA (bF (m:=2) (n:=4) rfl rfl (by decide)) (aF (k36 _ _ ?_));try clear k36 K36
 refine bK rfl (wp_skip (k35 _ _ ?_));try clear k35 K35
 refine aD fun K37 k37=>wp_block (aD fun K38 k38=>wp_region_lit (aA (aB) (aA (aB) (aA (aB) ?_))));simp only[zz];refine aA (aB) ?_;simp only[zz];refine jL rfl rfl (hc 5 _ (by decide) m) ?_;clear m;rintro v u m;refine aF (k38 _ _ ?_);try clear k38 K38
 refine wp_region_lit (aA (aB) (aA (aU (m:=5) (n:=1) (r:=6) rfl rfl (by decide)) (aA (aG) ?_)));simp only[zz];refine aF (k37 _ _ ?_);try clear k37 K37
 refine wp_region_lit (aA (aB) (aA (aU (m:=2) (n:=1) (r:=3) rfl rfl (by decide)) (aA (aG) (aF (aQ (aD fun K39 k39=>aD fun K40 k40=>wp_region_lit (aA (aB) ?_)))))));simp only[zz];refine aA (bF (m:=3) (n:=4) rfl rfl (by decide)) (aF (k40 _ _ ?_));try clear k40 K40
 refine bK rfl (wp_skip (k39 _ _ ?_));try clear k39 K39
 refine aD fun K41 k41=>wp_block (aD fun K42 k42=>wp_region_lit (aA (aB) (aA (aB) (aA (aB) ?_))));simp only[zz];refine aA (aB) ?_;simp only[zz];refine jL rfl rfl (hc 6 _ (by decide) m) ?_;clear m;rintro v u m;refine aF (k42 _ _ ?_);try clear k42 K42
 refine wp_region_lit (aA (aB) (aA (aU (m:=6) (n:=1) (r:=7) rfl rfl (by decide)) (aA (aG) ?_)));simp only[zz];refine aF (k41 _ _ ?_);try clear k41 K41
 refine wp_region_lit (aA (aB) (aA (aU (m:=3) (n:=1) (r:=4) rfl rfl (by decide)) (aA (aG) (aF (aQ (aD fun K43 k43=>aD fun K44 k44=>wp_region_lit (aA (aB) ?_)))))));simp only[zz];refine aA (dM (m:=4) (n:=4) rfl rfl (by decide)) (aF (k44 _ _ ?_));try clear k44 K44
 refine gA rfl (wp_exit (k28 _ _ ?_));try clear k28 K28
 refine wp_region_lit (aA (aU (m:=1) (n:=1) (r:=2) rfl rfl (by decide)) (aA (aB) (aF (aQ (aD fun K45 k45=>wp_region_lit (aA (bF (m:=2) (n:=4) rfl rfl (by decide)) ?_))))));simp only[zz];refine aF (k45 _ _ ?_);try clear k45 K45
 refine aD fun K46 k46=>bK rfl (wp_skip (k46 _ _ ?_));try clear k46 K46
 refine aD fun K47 k47=>wp_block (aD fun K48 k48=>wp_region_lit (aA (aB) (aA (aG) (aF (k48 _ _ ?_)))));try clear k48 K48
 refine aD fun K49 k49=>wp_region_lit (aA (aB) (aA (aG) ?_));simp only[zz];refine aF (k49 _ _ ?_);try clear k49 K49
 refine wp_block (wp_loop_rounds 3 (bU (aD fun K50 k50=>aD fun K51 k51=>wp_region_lit (aA (aB) (aA (bF (m:=2) (n:=4) rfl rfl (by decide)) (aF (k51 _ _ ?_)))))));try clear k51 K51
 refine bK rfl (wp_skip (k50 _ _ ?_));try clear k50 K50
 refine aD fun K52 k52=>wp_block (aD fun K53 k53=>wp_region_lit (aA (aB) (aA (aB) ?_)));simp only[zz];refine aA (aB) (aA (aB) ?_);simp only[zz];refine jL rfl rfl (hc 7 _ (by decide) m) ?_;clear m;rintro v u m;refine aF (k53 _ _ ?_);try clear k53 K53
 refine wp_region_lit (aA (aB) (aA (aU (m:=7) (n:=1) (r:=8) rfl rfl (by decide)) (aA (aG) ?_)));simp only[zz];refine aF (k52 _ _ ?_);try clear k52 K52
 refine wp_region_lit (aA (aB) (aA (aU (m:=2) (n:=1) (r:=3) rfl rfl (by decide)) (aA (aG) (aF (aQ (aD fun K54 k54=>aD fun K55 k55=>wp_region_lit (aA (aB) ?_)))))));simp only[zz];refine aA (bF (m:=3) (n:=4) rfl rfl (by decide)) (aF (k55 _ _ ?_));try clear k55 K55
 refine bK rfl (wp_skip (k54 _ _ ?_));try clear k54 K54
 refine aD fun K56 k56=>wp_block (aD fun K57 k57=>wp_region_lit (aA (aB) (aA (aB) (aA (aB) ?_))));simp only[zz];refine aA (aB) ?_;simp only[zz];refine jL rfl rfl (hc 8 _ (by decide) m) ?_;clear m;rintro v u m;refine aF (k57 _ _ ?_);try clear k57 K57
 refine wp_region_lit (aA (aB) (aA (aU (m:=8) (n:=1) (r:=9) rfl rfl (by decide)) (aA (aG) ?_)));simp only[zz];refine aF (k56 _ _ ?_);try clear k56 K56
 refine wp_region_lit (aA (aB) (aA (aU (m:=3) (n:=1) (r:=4) rfl rfl (by decide)) (aA (aG) (aF (aQ (aD fun K58 k58=>aD fun K59 k59=>wp_region_lit (aA (aB) ?_)))))));simp only[zz];refine aA (dM (m:=4) (n:=4) rfl rfl (by decide)) (aF (k59 _ _ ?_));try clear k59 K59
 refine gA rfl (wp_exit (k47 _ _ ?_));try clear k47 K47
 refine wp_region_lit (aA (aU (m:=2) (n:=1) (r:=3) rfl rfl (by decide)) (aA (aB) (aF (aQ (aD fun K60 k60=>wp_region_lit (aA (bF (m:=3) (n:=4) rfl rfl (by decide)) ?_))))));simp only[zz];refine aF (k60 _ _ ?_);try clear k60 K60
 refine aD fun K61 k61=>bK rfl (wp_skip (k61 _ _ ?_));try clear k61 K61
 refine aD fun K62 k62=>wp_block (aD fun K63 k63=>wp_region_lit (aA (aB) (aA (aG) (aF (k63 _ _ ?_)))));try clear k63 K63
 refine aD fun K64 k64=>wp_region_lit (aA (aB) (aA (aG) ?_));simp only[zz];refine aF (k64 _ _ ?_);try clear k64 K64
 refine wp_block (wp_loop_rounds 2 (bU (aD fun K65 k65=>aD fun K66 k66=>wp_region_lit (aA (aB) (aA (bF (m:=3) (n:=4) rfl rfl (by decide)) (aF (k66 _ _ ?_)))))));try clear k66 K66
 refine bK rfl (wp_skip (k65 _ _ ?_));try clear k65 K65
 refine aD fun K67 k67=>wp_block (aD fun K68 k68=>wp_region_lit (aA (aB) (aA (aB) ?_)));simp only[zz];refine aA (aB) (aA (aB) ?_);simp only[zz];refine jL rfl rfl (hc 9 _ (by decide) m) ?_;clear m;rintro v u m;refine aF (k68 _ _ ?_);try clear k68 K68
 refine wp_region_lit (aA (aB) (aA (aU (m:=9) (n:=1) (r:=10) rfl rfl (by decide)) (aA (aG) ?_)));simp only[zz];refine aF (k67 _ _ ?_);try clear k67 K67
 refine wp_region_lit (aA (aB) (aA (aU (m:=3) (n:=1) (r:=4) rfl rfl (by decide)) (aA (aG) (aF (aQ (aD fun K69 k69=>aD fun K70 k70=>wp_region_lit (aA (aB) ?_)))))));simp only[zz];refine aA (dM (m:=4) (n:=4) rfl rfl (by decide)) (aF (k70 _ _ ?_));try clear k70 K70
 refine gA rfl (wp_exit (k62 _ _ ?_));try clear k62 K62
 refine wp_region_lit (aA (aU (m:=3) (n:=1) (r:=4) rfl rfl (by decide)) (aA (aB) (aF (aQ (aD fun K71 k71=>wp_region_lit (aA (dM (m:=4) (n:=4) rfl rfl (by decide)) ?_))))));simp only[zz];refine aF (k71 _ _ ?_);try clear k71 K71
 refine aD fun K72 k72=>gA rfl (wp_exit ?_);try simp only[Exit.inBlock,Exit.then,if_true]
 exact Jw rfl (⟨_,J 10,rfl,m,rfl,rfl⟩)
theorem aj9 {w0 w : World} {K : It} {g3 g4 g5 n : Nat} {a b c d : Int} {k : Nat} (m : Mem w0 w [bI g3 (qC (qF a b c d n)) 97,bI g5 (wC 2) 95,bI g4 (qC [a,b,c,d]) 229,K]) (hn : n < 10) (hp : yL k [a,b,c,d]) (hk : k ≤ 400000) : tQ prog 183 [.int .i64 (n : Int),.int .i64 (eI n : Int),.int .i64 (eJ n : Int),.pointer (some ⟨g4,0,none⟩),.pointer (some ⟨g3,0,none⟩),.pointer (some ⟨g5,0,none⟩)] w fun _ w'=>Mem w0 w' [bI g3 (qC (qF a b c d (n + 1))) 97,bI g5 (wC 2) 95,bI g4 (qC [a,b,c,d]) 229,K]:=by
 refine ⟨agx,?_⟩;have hi:=acY hn;have hj:=acZ hn;have hx:=afm a b c d hi;have hy:=afm a b c d hj;have hlq:=ain a b c d (show n ≤ 10 by omega);have hpr:=Ve hp rfl hn;have h2b : Bd 2 (2 : Int):=by unfold Bd;decide
 go_enter func183,ntmps183
 refine aD fun K1 k1=>?_;refine eA m 9 aM (by kernel_rfl) ?_;simp only[zy];refine aK (aB) (aK (aB) ?_);simp only[zz];refine aK (aH nH aP rfl rfl (by omega) (by omega) (lQ (Int.toNat_natCast _))) ?_;simp only[zz];refine ql rfl (fun u m=>(show hG _ _ _ _ (W ([a,b,c,d].getD (eI n) 0)) from (vN (m.b 2 rfl) hx).lies bN aP)) ?_;simp only[zz];refine aK (aB) ?_;simp only[zz];refine aK (aH nH aP rfl rfl (by omega) (by omega) (lQ (Int.toNat_natCast _))) ?_;simp only[zz];refine ql rfl (fun u m=>(show hG _ _ _ _ (W ([a,b,c,d].getD (eJ n) 0)) from (vN (m.b 2 rfl) hy).lies bN aP)) ?_;simp only[zz];refine gV rfl rfl (nT ((hp.at hx).mono (by omega)) ((hp.at hy).mono (by omega))) ?_;simp only[zz];refine aK (aH Dp aP rfl rfl (by omega) (by omega) (lQ (Int.toNat_natCast _))) (bZ ?_);clear m;intro u m;simp only[zz];refine aT m 0 rfl rfl rfl aP (by have h1:=vM (qF a b c d n);have h2:=hlq;simp only[List.length_cons,List.length_nil];omega) rfl ?_;clear m;intro u m;simp only[zF,zG] at m;rw [show bB (qC (qF a b c d n)) (n * 2) [.bool (iG ([a,b,c,d].getD (eI n) 0 * [a,b,c,d].getD (eJ n) 0)),.string (nE ([a,b,c,d].getD (eI n) 0 * [a,b,c,d].getD (eJ n) 0))] = qC ((qF a b c d n).set n (Li [a,b,c,d] n)) from Nv (by omega)] at m;refine aF (k1 _ _ ?_);try clear k1 K1
 refine aD fun K2 k2=>wp_region_lit (aA (aB) (aA (aB) (aA (jJ rfl rfl) (aF (k2 _ _ ?_)))));try clear k2 K2
 simp only[zz];refine cG rfl (fun hc1=>?_) (fun hc1=>?_)
 · skip
   have hq : ((qF a b c d n).set n (Li [a,b,c,d] n))[n]? = some (Li [a,b,c,d] n):=by rw [List.getElem?_set_self (by omega)]
   have hst:=ac0 (a:=a) (b:=b) (c:=c) (d:=d) hn;rw [if_neg (by omega)] at hst;refine eA m 7 aM (by kernel_rfl) ?_;simp only[zy];refine aK (aB) (aK (aB) ?_);simp only[zz];refine aK (aH Dp aP rfl rfl (by omega) (by omega) (lQ (Int.toNat_natCast _))) ?_;simp only[zz];refine ql rfl (fun u m=>(show hG _ _ _ _ (W (Li [a,b,c,d] n)) from (vN (m.b 0 rfl) hq).lies bN aP)) ?_;simp only[zz];refine ql rfl (fun u m=>(show hG _ _ _ _ (W 2) from (m.b 1 rfl).lies bN aP rfl rfl)) ?_;simp only[zz];refine gV rfl rfl (nT (hpr.mono (by omega)) (h2b.mono (by omega))) ?_;simp only[zz];refine aK (aH Dp aP rfl rfl (by omega) (by omega) (lQ (Int.toNat_natCast _))) (bZ ?_);clear m;intro u m;simp only[zz];refine aT m 0 rfl rfl rfl aP (by have h1:=vM ((qF a b c d n).set n (Li [a,b,c,d] n));have h2:=(List.length_set : ((qF a b c d n).set n (Li [a,b,c,d] n)).length = _);simp only[List.length_cons,List.length_nil];omega) rfl ?_;clear m;intro u m;simp only[zF,zG] at m;rw [show bB (qC ((qF a b c d n).set n (Li [a,b,c,d] n))) (n * 2) [.bool (iG (Li [a,b,c,d] n * 2)),.string (nE (Li [a,b,c,d] n * 2))] = qC (((qF a b c d n).set n (Li [a,b,c,d] n)).set n (Li [a,b,c,d] n * 2)) from Nv (by rw [List.length_set];omega)] at m;refine aF ?_;try simp only[Exit.inBlock,Exit.then,if_true]
   exact Jw rfl (⟨_,rfl,by rw [hst] at m;exact m⟩)
 · skip
   have hst:=ac0 (a:=a) (b:=b) (c:=c) (d:=d) hn;rw [if_pos (by omega),List.set_set] at hst;refine wp_skip ?_;try simp only[Exit.inBlock,Exit.then,if_true]
   exact Jw rfl (⟨_,rfl,by rw [hst] at m;exact m⟩)
end Go.Proofs.YtfekpcimgncioaaGreatDoor
namespace Go.Proofs.YtfekpcimgncioaaGreatDoor
open Go.Proofs.Tryz
open Go.RowKit Go.Lith
set_option maxRecDepth 100000
attribute [local irreducible] wpList wpQuiet dB bL cE Code.wp
theorem zw0 : [Value.bool false,Value.string ⟨#[]⟩] = wC 0:=by unfold wC;rw [Cb];rfl
theorem zq0 : ([.bool false,.string ⟨#[]⟩,.bool false,.string ⟨#[]⟩,.bool false,.string ⟨#[]⟩,.bool false,.string ⟨#[]⟩,.bool false,.string ⟨#[]⟩,.bool false,.string ⟨#[]⟩,.bool false,.string ⟨#[]⟩,.bool false,.string ⟨#[]⟩,.bool false,.string ⟨#[]⟩,.bool false,.string ⟨#[]⟩] : List Value) = qC q0:=by unfold qC q0;simp only[List.flatMap_cons,List.flatMap_nil,← zw0];rfl
theorem zqV : (Value.agg #[.bool false,.string ⟨#[]⟩,.bool false,.string ⟨#[]⟩,.bool false,.string ⟨#[]⟩,.bool false,.string ⟨#[]⟩,.bool false,.string ⟨#[]⟩,.bool false,.string ⟨#[]⟩,.bool false,.string ⟨#[]⟩,.bool false,.string ⟨#[]⟩,.bool false,.string ⟨#[]⟩,.bool false,.string ⟨#[]⟩]) = qV q0:=by unfold qV;rw [← zq0]
theorem Xn {n : Int} (h1 : iG n = false) (h2 : nE n = ⟨#[]⟩) : n = 0:=aiI (by rw [Lx];unfold W;rw [h1,h2])
theorem akF (t : T3) : 0 - t.normal.x * t.a.x - t.normal.y * t.a.y - t.normal.z * t.a.z = -((nR t.a t.b t.c).dot t.a):=by
 show 0 - (nR t.a t.b t.c).x * t.a.x - (nR t.a t.b t.c).y * t.a.y - (nR t.a t.b t.c).z * t.a.z = _
 generalize nR t.a t.b t.c = n;unfold P3.dot
 grind
theorem Vh (t : T3) : qPr t.normal.x t.normal.y t.normal.z (0 - t.normal.x * t.a.x - t.normal.y * t.a.y - t.normal.z * t.a.z) = qOf t:=by rw [akF];rfl
theorem afo {t : T3} [IT t] : yL 300 [t.normal.x,t.normal.y,t.normal.z,0 - t.normal.x * t.a.x - t.normal.y * t.a.y - t.normal.z * t.a.z]:=fun x hx=>by
 simp only[List.mem_cons,List.not_mem_nil,or_false] at hx;rcases hx with rfl | rfl | rfl | rfl
 · exact (Bw.up : Bd 300 t.normal.x)
 · exact (Bw.up : Bd 300 t.normal.y)
 · exact (Bw.up : Bd 300 t.normal.z)
 · exact (Bw.up : Bd 300 (0 - t.normal.x * t.a.x - t.normal.y * t.a.y - t.normal.z * t.a.z))
theorem ac3 {t : T3} [IT t] : yL 602 (qOf t):=by rw [← Vh];exact aj7 afo
theorem qO (t : T3) : (qOf t).length = 10:=rfl
theorem aka : yL 1 q0:=fun x hx=>by
 simp only[q0,List.mem_cons,List.not_mem_nil,or_false] at hx;rcases hx with rfl | rfl | rfl | rfl | rfl | rfl | rfl | rfl | rfl | rfl <;> (unfold Bd;decide)
theorem Bq {ts : List T3} {k : Nat} {t : T3} {p : P3} (h : ts[k]? = some t) : rA (ts.take (k + 1)) p = if t.has p then wN (rA (ts.take k) p) (qOf t) else rA (ts.take k) p:=by
 unfold rA;rw [cQ h,List.filter_append,List.foldl_append];cases hh : t.has p <;> simp [hh]
theorem tH {ts : List T3} {p : P3} : ∀ k,k ≤ ts.length → (rA (ts.take k) p).length = 10
 | 0,_=>rfl
 | k + 1,hk=>by
  rw [Bq (List.getElem?_eq_getElem (by omega))];split
  · exact iT (tH k (by omega)) (qO _)
  · exact tH k (by omega)
theorem Nz {ts : List T3} {p : P3} (hI : ∀ t ∈ ts,IT t) : ∀ k,k ≤ ts.length → yL (602 + k) (rA (ts.take k) p)
 | 0,_=>aka.mono (by omega)
 | k + 1,hk=>by
  rw [Bq (List.getElem?_eq_getElem (by omega))];split
  · haveI:=hI _ (List.getElem_mem (by omega : k < ts.length))
    exact Fg (Nz hI k (by omega)) (ac3.mono (by show 602 ≤ 602 + k;omega))
  · exact (Nz hI k (by omega)).mono (by omega)
theorem akb {t : T3} [IT t] : eQ prog 117 [tr t] (qV (qOf t)):=by
 intro w;refine ⟨af5,?_⟩;have m:=Mem.refl w
 go_enter func117,ntmps117
 refine aD fun K1 k1=>wp_region_lit (cB m rfl ?_);clear m;intro g1 u m;simp only[zz];refine bA m vW rfl ?_;clear m;intro g2 u m;refine aF (k1 _ _ ?_);try clear k1 K1
 refine aD fun K2 k2=>wp_region_lit ?_;simp only[zz];refine bA m vW rfl ?_;clear m;intro g3 u m;refine aF (k2 _ _ ?_);try clear k2 K2
 refine aD fun K3 k3=>wp_region_lit ?_;simp only[zz];refine aJ rfl ((m.b 2 rfl).full bR aR) ?_;simp only[zz];refine dH m rfl rfl (akE (t:=t)) ?_;clear m;intro u m;simp only[zz];refine bA m uR rfl ?_;clear m;intro g4 u m;simp only[zz];refine wI (n:=8) m 0 rfl rfl rfl rfl rfl oP ?_;clear m;intro u m;simp only[zF,zG] at m;refine aF (k3 _ _ ?_);try clear k3 K3
 refine aD fun K4 k4=>aD fun K5 k5=>wp_region_lit (aJ rfl (rF (m.b 0 rfl) Mi oP rfl) ?_);simp only[zz];refine aA (Ml) (aA (Tn rfl rfl) (aF (k5 _ _ ?_)));try clear k5 K5
 simp only[zz];refine cG rfl (fun hc1=>?_) (fun hc1=>?_)
 · skip
   refine aD fun K6 k6=>?_;rw [zq0] at m;refine wp_region_lit (aJ rfl (rF (m.b 1 rfl) sP iE (by first | rw [qO] | rfl)) ?_);simp only[zz];refine wI (n:=20) m 2 rfl rfl rfl rfl rfl iE ?_;clear m;intro u m;simp only[zF,zG] at m;refine aF (k6 _ _ ?_);try clear k6 K6
   refine wp_ret ?_;try simp only[Exit.inBlock,Exit.then,if_true]
   refine bE rfl ⟨_,rfl,(rF (m.b 2 rfl) sP iE (by first | rw [qO] | rfl))⟩ ?_;try simp only[zD,zE]
   exact ⟨_,rfl,m.ext,by rw [← Vh,Xn hc1.2.2.2.2.2.2.1 hc1.2.2.2.2.2.2.2,Xn hc1.1 hc1.2.1,Xn hc1.2.2.1 hc1.2.2.2.1,Xn hc1.2.2.2.2.1 hc1.2.2.2.2.2.1];rfl⟩
 · skip
   refine wp_skip (k4 _ _ ?_);try clear k4 K4
   refine aD fun K7 k7=>wp_region_lit (dH m rfl rfl (lZ (n:=2) (by constructor <;> decide)) ?_);clear m;intro u m;simp only[zz];refine bA m gM rfl ?_;clear m;intro g5 u m;simp only[zz];refine aT m 0 rfl rfl rfl aP (cU rfl) rfl ?_;clear m;intro u m;simp only[zy,zx,bB,zF,zG,Nat.reduceAdd] at m;refine aF (k7 _ _ ?_);try clear k7 K7
   refine aD fun K8 k8=>?_;rw [zq0] at m;refine wp_region_lit (aA (eZ) ?_);simp only[zz,List.map_toArray,List.map_cons,List.map_nil];replace m:=m.pull 1 rfl;simp only[dW,dX,zF,zG] at m;replace m:=m.pull 1 rfl;simp only[dW,dX,zF,zG] at m;replace m:=m.pull 2 rfl;simp only[dW,dX,zF,zG] at m;replace m:=m.pack3;refine jG m 0 aa1 rfl rfl (fun m=>ac2 (J:=fun n=>bI g3 (qC (qF (t.normal.x) (t.normal.y) (t.normal.z) (0 - t.normal.x * t.a.x - t.normal.y * t.a.y - t.normal.z * t.a.z) n)) 97) m 0 rfl (fun n u hn mu=>aj9 (k:=300) mu hn afo (by decide))) ?_;clear m;rintro v i u m ⟨rfl,rfl⟩;simp only[zF,zG] at m;simp only[zz];replace m:=m.unpack3;rw [aj6,Vh] at m;refine aF (k8 _ _ ?_);try clear k8 K8
   refine aD fun K9 k9=>wp_region_lit (aJ rfl (rF (m.b 0 rfl) sP iE (by first | rw [qO] | rfl)) ?_);simp only[zz];refine wI (n:=20) m 3 rfl rfl rfl (by rw [qO]) rfl iE ?_;clear m;intro u m;simp only[zF,zG] at m;refine aF (k9 _ _ ?_);try clear k9 K9
   refine wp_ret ?_;try simp only[Exit.inBlock,Exit.then,if_true]
   refine bE rfl ⟨_,rfl,(rF (m.b 3 rfl) sP iE (by first | rw [qO] | rfl))⟩ ?_;try simp only[zD,zE]
   exact ⟨_,rfl,m.ext,rfl⟩
theorem akc {w0 w : World} {K : It} {g1 g4 g5 n : Nat} {q x : List Int} {k : Nat} (m : Mem w0 w [bI g5 (wC (atS q x n)) 95,bI g4 (qC x) 168,bI g1 (qC q) 97,K]) (hn : n < 10) (hq : yL k q) (hl : q.length = 10) (hx : yL 64 x) (hxl : x.length = 4) (hk : k ≤ 900000) : tQ prog 120 [.int .i64 (n : Int),.int .i64 (eI n : Int),.int .i64 (eJ n : Int),.pointer (some ⟨g5,0,none⟩),.pointer (some ⟨g1,0,none⟩),.pointer (some ⟨g4,0,none⟩)] w fun _ w'=>Mem w0 w' [bI g5 (wC (atS q x (n + 1))) 95,bI g4 (qC x) 168,bI g1 (qC q) 97,K]:=by
 refine ⟨af7,?_⟩;have hi:=acY hn;have hj:=acZ hn;have hx1 : x[eI n]? = some (x.getD (eI n) 0):=by rw [List.getD_eq_getElem?_getD,List.getElem?_eq_getElem (by omega : eI n < x.length)];rfl
 have hx2 : x[eJ n]? = some (x.getD (eJ n) 0):=by rw [List.getD_eq_getElem?_getD,List.getElem?_eq_getElem (by omega : eJ n < x.length)];rfl
 have hq1:=Ny hl hn;have hp1 : Bd 128 (x.getD (eI n) 0 * x.getD (eJ n) 0):=Ve hx hxl hn;have hs1:=Vf hq hl hx hxl n (by omega);have hm1:=(hq.at hq1).mul hp1
 go_enter func120,ntmps120
 refine eA m 13 aM (by kernel_rfl) ?_;simp only[zy];refine ql rfl (fun u m=>(show hG _ _ _ _ (W (atS q x n)) from (m.b 0 rfl).lies bN aP rfl rfl)) ?_;simp only[zz];refine aK (aB) ?_;simp only[zz];refine aK (aH Dp aP rfl rfl (by omega) (by omega) (lQ (Int.toNat_natCast _))) ?_;simp only[zz];refine ql rfl (fun u m=>(show hG _ _ _ _ (W (q.getD n 0)) from (vN (m.b 2 rfl) hq1).lies bN aP)) ?_;simp only[zz];refine aK (aB) ?_;simp only[zz];refine aK (aH underlying168 aP rfl rfl (by omega) (by omega) (lQ (Int.toNat_natCast _))) ?_;simp only[zz];refine ql rfl (fun u m=>(show hG _ _ _ _ (W (x.getD (eI n) 0)) from (vN (m.b 1 rfl) hx1).lies bN aP)) ?_;simp only[zz];refine aK (aB) ?_;simp only[zz];refine aK (aH underlying168 aP rfl rfl (by omega) (by omega) (lQ (Int.toNat_natCast _))) ?_;simp only[zz];refine ql rfl (fun u m=>(show hG _ _ _ _ (W (x.getD (eJ n) 0)) from (vN (m.b 1 rfl) hx2).lies bN aP)) ?_;simp only[zz];refine gV rfl rfl (nT ((hx.at hx1).mono (by omega)) ((hx.at hx2).mono (by omega))) ?_;simp only[zz];refine gV rfl rfl (nT ((hq.at hq1).mono (by omega)) (hp1.mono (by omega))) ?_;simp only[zz];refine gV rfl rfl (La (hs1.mono (by omega)) (hm1.mono (by omega))) (bZ ?_);clear m;intro u m;simp only[zz];refine aT m 0 rfl rfl rfl aP (by simp [wC]) rfl ?_;clear m;intro u m;simp only[zF,zG] at m;rw [Rr (by rfl)] at m;refine aF ?_;try simp only[Exit.inBlock,Exit.then,if_true]
 exact Jw rfl (⟨_,rfl,m⟩)
theorem akd {q : List Int} {p : P3} {k : Nat} [I3 p] (hq : yL k q) (hl : q.length = 10) (hk : k ≤ 900000) : eQ prog 60 [qV q,pt p] (W (qAt q p)):=by
 intro w;refine ⟨aje,?_⟩;have m:=Mem.refl w
 go_enter func60,ntmps60
 refine aD fun K1 k1=>wp_region_lit (cB m rfl ?_);clear m;intro g1 u m;simp only[zz];refine cB m rfl ?_;clear m;intro g2 u m;simp only[zz];refine bA m gM rfl ?_;clear m;intro g3 u m;refine aF (k1 _ _ ?_);try clear k1 K1
 refine aD fun K2 k2=>?_;simp only[zz];refine tM 12 [0,1,2,3,4,5,6,7,8,9,10] [⟨11,5,168,[.bool false,.string ⟨#[]⟩,.bool false,.string ⟨#[]⟩,.bool false,.string ⟨#[]⟩,.bool false,.string ⟨#[]⟩]⟩] aM (by kernel_rfl) (al1 ⟨_,_,_,rfl,by kernel_rfl,_,Pf,rfl⟩) (ol:=?_) ?hol ?_
 case hol=>simp only[zw,zQ,zR];try rfl
 intro u e;replace m:=m.ext' e;clear e;refine wW (aL (c:=0) dL rfl aO rfl rfl) ?_;simp only[zz];refine pG rfl (fun u e=>(((m.ext' e).b 1 rfl).lies1 aX rfl)) ?_;simp only[zz];refine vU rfl rfl (lZ Iw.h) (wW (aL (c:=0) dL rfl aO rfl rfl) ?_);simp only[zz];refine pG rfl (fun u e=>(((m.ext' e).b 1 rfl).lies1 aX rfl)) ?_;simp only[zz];refine vU rfl rfl (lZ Iw.h) (wW (aL (c:=0) dL rfl aO rfl rfl) ?_);simp only[zz];refine pG rfl (fun u e=>(((m.ext' e).b 1 rfl).lies1 aX rfl)) ?_;simp only[zz];refine vU rfl rfl (lZ Iw.h) ?_;simp only[zz];refine vU rfl rfl (lZ (n:=1) (by constructor <;> decide)) (wW (wK rfl rfl rfl rfl) (aeZ ?_));simp only[zz];refine mf1 m ?_;clear m;intro g4 u m;simp only[zJ,zK,zF,zG];refine aT m 0 rfl rfl rfl Ym (cU rfl) rfl ?_;clear m;intro u m;simp only[zy,zx,bB,zF,zG,Nat.reduceAdd] at m;refine aF (k2 _ _ ?_);try clear k2 K2
 refine aD fun K3 k3=>wp_region_lit (bA m gM rfl ?_);clear m;intro g5 u m;refine aF (k3 _ _ ?_);try clear k3 K3
 refine aD fun K4 k4=>?_;simp only[zz];rw [zw0] at m;refine wp_region_lit (aA (eZ) ?_);simp only[zz,List.map_toArray,List.map_cons,List.map_nil];replace m:=m.pull 4 rfl;simp only[dW,dX,zF,zG] at m;replace m:=m.pull 2 rfl;simp only[dW,dX,zF,zG] at m;replace m:=m.pull 2 rfl;simp only[dW,dX,zF,zG] at m;replace m:=m.pack3;refine jG m 0 aa1 rfl rfl (fun m=>ac2 (J:=fun n=>bI g5 (wC (atS q [p.x,p.y,p.z,1] n)) 95) m 0 rfl (fun n u hn mu=>akc mu hn hq hl (bd4 inferInstance) rfl hk)) ?_;clear m;rintro v i u m ⟨rfl,rfl⟩;simp only[zF,zG] at m;simp only[zz];replace m:=m.unpack3;rw [ac1 hl] at m;refine aF (k4 _ _ ?_);try clear k4 K4
 refine aD fun K5 k5=>wp_region_lit (aJ rfl ((m.b 0 rfl).full bN aP) ?_);simp only[zz];refine aT m 3 rfl rfl rfl aP (cU rfl) rfl ?_;clear m;intro u m;simp only[zy,zx,bB,zF,zG,Nat.reduceAdd] at m;refine aF (k5 _ _ ?_);try clear k5 K5
 refine wp_ret ?_;try simp only[Exit.inBlock,Exit.then,if_true]
 refine bE rfl ⟨_,rfl,((m.b 3 rfl).full bN aP)⟩ ?_;try simp only[zD,zE]
 exact ⟨_,rfl,m.ext,rfl⟩
theorem afp {t : T3} {x : P3} : (decide (t.a.x = x.x ∧ t.a.y = x.y ∧ t.a.z = x.z) || decide (t.b.x = x.x ∧ t.b.y = x.y ∧ t.b.z = x.z) || decide (t.c.x = x.x ∧ t.c.y = x.y ∧ t.c.z = x.z)) = t.has x:=by
 have e : ∀ p q : P3,(p.x = q.x ∧ p.y = q.y ∧ p.z = q.z) ↔ q = p:=fun p q=>⟨fun h=>(P3.eq h.1 h.2.1 h.2.2).symm,fun h=>by rw [h];exact ⟨rfl,rfl,rfl⟩⟩
 rw [Bool.eq_iff_iff,lX];simp only[Bool.or_eq_true,decide_eq_true_eq,e,or_assoc]
theorem aio {ts : List T3} {N cap : Nat} {A : Option Addr} {p : P3} (w : World) (hT : bY w A N ts) (hN : N ≤ 800000) : eG prog 58 [.slice A N cap,pt p] w (fun v _=>v = qV (rA ts p)):=by
 refine ⟨ajc,?_⟩;have m:=Mem.refl w;have htl:=hT.len
 go_enter func58,ntmps58
 refine aD fun K1 k1=>wp_region_lit (cB m rfl ?_);clear m;intro g1 u m;simp only[zz];refine bA m vW rfl ?_;clear m;intro g2 u m;refine aF (k1 _ _ ?_);try clear k1 K1
 refine aD fun K2 k2=>wp_region_lit ?_;simp only[zz];refine bA m vW rfl ?_;clear m;intro g3 u m;refine aF (k2 _ _ ?_);try clear k2 K2
 refine aD fun K3 k3=>aD fun K4 k4=>wp_region_lit (aA (aB) (aA (bH rfl bQ rfl) (aA (aB) ?_)));simp only[zz];refine aF (k4 _ _ ?_);try clear k4 K4
 refine wp_block ?_;try simp only[Nat.zero_add,Nat.reduceAdd,Nat.reduceMul,Int.reduceToNat]
 refine bT [10] [7,11,12,13,14,15,16,17,18,19,20,21,22,23,24,25,26,27,28,29,30,31,32,33,34] (fun n vs wl=>∃ (k : Nat),vs = [.int .i64 (k:Int)] ∧ Mem w wl [bI g3 (qC (rA (ts.take k) p)) 97,bI g2 [.bool false,.string ⟨#[]⟩,.bool false,.string ⟨#[]⟩,.bool false,.string ⟨#[]⟩,.bool false,.string ⟨#[]⟩,.bool false,.string ⟨#[]⟩,.bool false,.string ⟨#[]⟩,.bool false,.string ⟨#[]⟩,.bool false,.string ⟨#[]⟩,.bool false,.string ⟨#[]⟩,.bool false,.string ⟨#[]⟩] 97,bI g1 [.int .i64 p.x,.int .i64 p.y,.int .i64 p.z] 30] ∧ (k ≤ N) ∧ (n = N - k)) ?_ ?_
 · rw [show ([.bool false,.string ⟨#[]⟩,.bool false,.string ⟨#[]⟩,.bool false,.string ⟨#[]⟩,.bool false,.string ⟨#[]⟩,.bool false,.string ⟨#[]⟩,.bool false,.string ⟨#[]⟩,.bool false,.string ⟨#[]⟩,.bool false,.string ⟨#[]⟩,.bool false,.string ⟨#[]⟩,.bool false,.string ⟨#[]⟩] : List Value) = qC (rA (ts.take 0) p) from zq0] at m
   apply Exists.intro;simp only[zQ,zR,zD,zE];exact ⟨0,rfl,m,Nat.zero_le _,rfl⟩
 · intro n vs wr hI u
   clear m;obtain ⟨k,rfl,m,hk,hn⟩:=hI;simp only[zu,zF,zG];refine aD fun K5 k5=>wp_region_lit (aA (cW rfl rfl) (aF (k5 _ _ ?_)));try clear k5 K5
   refine aD fun K6 k6=>?_;simp only[zz];refine cG rfl (fun hc1=>?_) (fun hc1=>?_)
   · skip
     obtain ⟨t,ht,hti,a,rfl,hrow⟩:=hT.get (i:=k) (by omega);have hql:=tH (ts:=ts) (p:=p) k (by omega);have hqb:=Nz (p:=p) hT.it k (by omega);refine wp_skip (k6 _ _ ?_);try clear k6 K6
     refine aD fun K7 k7=>wp_block (aD fun K8 k8=>wp_region_lit (aA (aN bQ aR rfl rfl (by omega) (by omega) (dC (Int.toNat_natCast _))) ?_));simp only[zz];refine aJ rfl ((hrow.ext m.ext).lies bR aR) ?_;simp only[zz];refine bA m fP rfl ?_;clear m;intro g4 u m;simp only[zz];refine aT m 0 rfl rfl rfl aR (cU rfl) rfl ?_;clear m;intro u m;simp only[zy,zx,bB,zF,zG,Nat.reduceAdd] at m;refine aF (k8 _ _ ?_);try clear k8 K8
     refine aD fun K9 k9=>wp_region_lit (aA (aH bD aC rfl rfl (by decide) (by decide) rfl) ?_);simp only[zz];refine aJ rfl ((m.b 0 rfl).lies aI aC rfl rfl) ?_;simp only[zz,zy,Nat.zero_add,Nat.reduceAdd,Nat.reduceMul,Int.reduceToNat];refine aJ rfl ((m.b 3 rfl).full aI aC) ?_;simp only[zz];refine aA (cV rfl rfl) (aA (aB) (fU rfl (fun hb=>aH bD aC rfl rfl (by decide) (by decide) rfl) ?_));simp only[zz];refine eW rfl (fun hb=>bJ (bW hb rfl) ((m.b 0 rfl).lies aI aC rfl rfl)) ?_;simp only[zz,zy,Nat.zero_add,Nat.reduceAdd,Nat.reduceMul,Int.reduceToNat];refine eW rfl (fun hb=>bJ rfl ((m.b 3 rfl).full aI aC)) (fU rfl (fun hb=>cV (bW hb rfl) (bW hb rfl)) (aA (fH rfl rfl rfl) (aA (aB) (fU rfl (fun hb=>aH bD aC rfl rfl (by decide) (by decide) rfl) ?_))));simp only[zz];refine eW rfl (fun hb=>bJ (bW hb rfl) ((m.b 0 rfl).lies aI aC rfl rfl)) ?_;simp only[zz,zy,Nat.zero_add,Nat.reduceAdd,Nat.reduceMul,Int.reduceToNat];refine eW rfl (fun hb=>bJ rfl ((m.b 3 rfl).full aI aC)) (fU rfl (fun hb=>cV (bW hb rfl) (bW hb rfl)) (aA (fH rfl rfl rfl) (aF (k9 _ _ ?_))));try clear k9 K9
     simp only[zz];refine eD rfl (fun hc2=>?_) (fun hc2=>?_)
     · skip
       rw [afp] at hc2;have hst:=Bq (p:=p) ht;rw [if_pos hc2] at hst;refine eA m 4 aM (by kernel_rfl) ?_;simp only[zy];refine ql rfl (fun u m=>(rF (m.b 1 rfl) sP iE (by first | rw [hqN] | rw [tH _ (by omega)]))) ?_;simp only[zz];refine ql rfl (fun u m=>((m.b 0 rfl).full bR aR)) ?_;simp only[zz];refine gV rfl rfl (akb (t:=t)) ?_;simp only[zz];refine gV rfl rfl (Vg hql (qO t) hqb (ac3.mono (by omega)) (by omega)) (bZ ?_);clear m;intro u m;simp only[zz];refine wI (n:=20) m 1 rfl rfl rfl (by rw [iT hql (qO t)]) (by rw [vM,hql]) iE ?_;clear m;intro u m;simp only[zF,zG] at m;refine aF (k7 _ _ ?_);try clear k7 K7
       refine wp_region_lit (aA (aU rfl rfl (aV (by omega) (by omega))) (aA (aB) (aF ?_)));simp only[zz];rw [← hst] at m;simp only[Exit.inBlock,Exit.then];refine ⟨N - (k + 1),_,?_,rfl,?_,?_⟩
       · omega
       · simp only[zz,zv]
       · simp only[zQ,zR,zD,zE]
         exact ⟨k + 1,rfl,(m.sel [false,true,true,true]),by omega,rfl⟩
     · skip
       rw [afp] at hc2;have hst:=Bq (p:=p) ht;rw [if_neg (by rw [hc2];exact Bool.false_ne_true)] at hst;refine wp_skip (k7 _ _ ?_);try clear k7 K7
       refine wp_region_lit (aA (aU rfl rfl (aV (by omega) (by omega))) (aA (aB) (aF ?_)));simp only[zz];rw [← hst] at m;simp only[Exit.inBlock,Exit.then];refine ⟨N - (k + 1),_,?_,rfl,?_,?_⟩
       · omega
       · simp only[zz,zv]
       · simp only[zQ,zR,zD,zE]
         exact ⟨k + 1,rfl,(m.sel [false,true,true,true]),by omega,rfl⟩
   · skip
     obtain rfl : N = k:=by omega
     rw [show ts.take N = ts from List.take_of_length_le (by omega)] at m;have hqN : (rA ts p).length = 10:=by have:=tH (ts:=ts) (p:=p) N (by omega);rwa [List.take_of_length_le (by omega)] at this
     refine wp_exit (k3 _ _ ?_);try clear k3 K3
     refine aD fun K10 k10=>wp_region_lit (aJ rfl (rF (m.b 0 rfl) sP iE (by first | rw [hqN] | rw [tH _ (by omega)])) ?_);simp only[zz];refine wI (n:=20) m 1 rfl rfl rfl (by rw [hqN]) rfl iE ?_;clear m;intro u m;simp only[zF,zG] at m;refine aF (k10 _ _ ?_);try clear k10 K10
     refine wp_ret ?_;try simp only[Exit.inBlock,Exit.then,if_true]
     refine bE rfl ⟨_,rfl,(rF (m.b 1 rfl) sP iE (by rw [hqN]))⟩ ?_;try simp only[zD,zE]
     exact ⟨_,rfl,m.ext,rfl⟩
end Go.Proofs.YtfekpcimgncioaaGreatDoor
set_option linter.unusedSectionVars false
namespace Go.Lith
open Go
theorem Vi {P : Program} {w : World} {at_ : Addr} {u : TypeId} {k : Addr} {v : Value} {b : Bool} {r : World × List Addr} (h : w.viewStore P at_ u k v b = .ok r) : r.1.drawn = w.drawn:=by
 unfold World.viewStore at h;simp only[bind,Except.bind,pure,Except.pure,throw] at h
 repeat' split at h
 all_goals first | (cases h;done) | (cases h;rfl) | skip
theorem aar {P : Program} {w : World} {x : Addr} {v : Value} {b : Bool} {r : World × List Addr} (h : w.farStore P x v b = .ok r) : r.1.drawn = w.drawn:=by
 unfold World.farStore at h;split at h
 · split at h
   · rename_i hv
     cases h;exact Vi hv
   · cases h
 · cases h
theorem Oa (w : World) (x : Addr) (n : Nat) : (w.freeze x n).drawn = w.drawn:=by
 unfold World.freeze;split <;> rfl
theorem aas {α : Type} (s : Ask α) : ∀ w : World,w.drawn ≤ (w.ask s).2.drawn:=by
 induction s with
 | done a=>intro w;exact Nat.le_refl _
 | ask what range k ih =>
  intro w;simp only[World.ask];split
  · exact ih _ w
  · exact Nat.le_trans (Nat.le_succ _) (ih _ { w with drawn:=w.drawn + 1 })
theorem aat (w : World) (c : Sys) : w.drawn ≤ (w.sys c).2.drawn:=by
 have h:=aas (Kernel.perform c w.os) w;unfold World.sys;split
 · exact Nat.le_refl _
 · rename_i e
   rw [e] at h;exact h
def okR {α : Type} (d : Nat) : Result α → Prop
 | .ok _ w=>d ≤ w.drawn
 | .halt _ w=>d ≤ w.drawn
theorem okR.mono {α : Type} {d e : Nat} (h : e ≤ d) : ∀ {r : Result α},okR d r → okR e r
 | .ok _ _,k=>Nat.le_trans h k
 | .halt _ _,k=>Nat.le_trans h k
theorem Fh {P : Program} {α : Type} (s : Sem α) : ∀ w : World,okR w.drawn (s.run P w):=by
 induction s with
 | pure _=>intro w;exact Nat.le_refl _
 | load m x k ih =>
  intro w;simp only[Sem.run];split
  · exact ih _ _
  · split
    · exact ih _ _
    · exact Nat.le_refl _
 | store m x v k ih =>
  intro w;have key : okR w.drawn (match w.cell? x with
   | some _=>if w.frozen? x then Result.halt (.unsupported (.unsafePointer "a write to bytes that a string shares")) w else k.run P (w.setCell x v)
   | none=>match w.farStore P x v (m == Mode.atomic) with
    | .ok (w,_)=>k.run P w
    | .error h=>.halt h w):=by
   split
   · split
     · exact Nat.le_refl _
     · exact ih (w.setCell x v)
   · split
     · rename_i hf
       exact okR.mono (Nat.le_of_eq (aar hf).symm) (ih _)
     · exact Nat.le_refl _
  cases v <;> simp only[Sem.run] <;> first | exact Nat.le_refl _ | exact key
 | new o k ih=>intro w;exact ih _ { w with heap:=w.heap.push o }
 | shape r k ih=>intro w;exact ih _ _
 | freeze x n k ih=>intro w;exact okR.mono (Nat.le_of_eq (Oa w x n).symm) (ih _)
 | frozen x k ih=>intro w;exact ih _ _
 | getObj r k ih =>
  intro w;simp only[Sem.run];split
  · exact Nat.le_refl _
  · exact ih _ _
  · exact Nat.le_refl _
 | setObj r o k ih =>
  intro w;simp only[Sem.run];split
  · exact Nat.le_refl _
  · exact ih { w with heap:=w.heap.setIfInBounds r o }
  · exact Nat.le_refl _
 | choose q k ih =>
  intro w;simp only[Sem.run];split
  · exact ih _ _
  · exact okR.mono (Nat.le_succ _) (ih _ { w with drawn:=w.drawn + 1 })
 | sys c k ih=>intro w;exact okR.mono (aat w c) (ih _ _)
 | program k ih=>intro w;exact ih _ _
 | mark m k ih=>intro w;exact ih _
 | halt x=>intro w;exact Nat.le_refl _
theorem Rs {P : Program} {α : Type} {s : Sem α} {w : World} {es : Array Event} {r : Result α} {es' : Array Event} (h : s.runT P w es = (r,es')) : okR w.drawn r:=by
 have:=Sem.runT_fst P s w es;rw [h] at this;rw [show r = s.run P w from this];exact Fh s w
theorem fQ {P : Program} {α : Type} {s : Sem α} {w : World} {r : Result α} (h : s.run P w = r) : okR w.drawn r:=h ▸ Fh s w
theorem kW {P : Program} {α : Type} {s : Sem α} {w : World} {es : Array Event} {r : Result α} (h : (s.runT P w es).1 = r) : okR w.drawn r:=by
 rw [Sem.runT_fst] at h;exact fQ h
def Ob (d : Nat) : GStep → Prop
 | .go _ w _ | .comm _ _ _ _ w _ | .spawn _ _ w _ | .count _ w _ | .timer _ _ w _ | .alone _ _ w _ | .newcoro _ _ _ w _ | .coroswitch _ _ _ w _ | .collect _ w _ | .watch _ w _=>d ≤ w.drawn
 | .ended _ _ _=>True
theorem sC {d : Nat} {es : Array Event} {g : GStep} (h : Ob d g) : Ob d (g.after es):=by cases g <;> exact h
theorem aeK {α : Type} {d : Nat} {x : GStep} {f : α → GStep} (h1 : Ob d x) (h2 : ∀ a,Ob d (f a)) : ∀ o : Option α,Ob d (o.elim x f)
 | none=>h1
 | some a=>h2 a
section
variable {P : Program} {d : Nat} {w : World} (hw : d ≤ w.drawn)
include hw
theorem Vj (fd : Nat) (t : ByteArray) (o : Outcome) : Ob d (endWith w fd t o):=by
 unfold endWith;dsimp only
 repeat' split
 all_goals trivial
theorem If (fr : Frame) (cs : List Frame) (dy : Option Dying) (m : String) : Ob d (endFatal P fr cs dy m w):=by
 unfold endFatal;dsimp only;split
 · rename_i h
   exact Nat.le_trans hw (fQ h)
 · trivial
 · trivial
theorem Ei (fr : Frame) (v : Value) : Ob d (endPrinting P fr v w):=by
 unfold endPrinting;dsimp only;split
 · exact hw
 · trivial
theorem Dg (main : Bool) (fr : Frame) (cs : List Frame) (dy : Option Dying) (v : Value) : Ob d (doReturn P main fr cs dy v w):=by
 unfold doReturn
 repeat' (first | exact hw | trivial | split)
theorem Rt (fr : Frame) (cs : List Frame) (dy : Option Dying) (g : Nat) : Ob d (early P fr cs dy g w):=by
 have n : ∀ w : World,d ≤ w.drawn → Ob d (match w.heap[g]? with
  | some (.pending c elem)=>GStep.go { frame:=fr,callers:=cs,status:=.running,dying:=dy } { w with heap:=w.heap.setIfInBounds g (.cells c elem) }
  | _=>.ended (.stuck "early: the variable does not wait" (fr.pos P)) w):=fun w hw=>by
  split
  · exact hw
  · trivial
 unfold early;dsimp only
 repeat' (first | exact n _ hw | exact hw | trivial | exact Nat.le_trans hw (fQ (r:=.ok _ _) (by assumption)) | (rename_i w1 h1 x1 c1 e1 h2;exact Nat.le_trans hw (fQ h1)) | split)
theorem Ig (b : Bool) (fr : Frame) (cs : List Frame) (dy : Option Dying) (s : Sem Next) : Ob d (stepG.apply P b fr cs dy s w):=by
 unfold stepG.apply;dsimp only;have hr : okR w.drawn (if b = true then s.runT P w #[] else (s.run P w,#[])).1:=by
  split
  · rw [Sem.runT_fst];exact Fh s w
  · exact Fh s w
 generalize (if b = true then s.runT P w #[] else (s.run P w,#[])) = r at hr;obtain ⟨r,es⟩:=r;refine sC ?_;cases r with
 | ok n u =>
  have hu : d ≤ u.drawn:=Nat.le_trans hw hr;cases n
  all_goals dsimp only
  all_goals repeat' (first | exact hu | trivial | exact throw_ok hu _ _ | split)
 | halt x u =>
  have hu : d ≤ u.drawn:=Nat.le_trans hw hr;cases x
  all_goals dsimp only
  all_goals repeat' (first | exact hu | trivial | exact throw_ok hu _ _ | exact If hu _ _ _ _ | exact Rt hu _ _ _ _ | (rename_i e;cases e;done) | (rename_i e;cases e;exact hu) | (rename_i e;cases e;exact If hu _ _ _ _) | (rename_i e;cases e;exact Rt hu _ _ _ _) | split)
theorem aeL (b : Bool) (fr : Frame) (cs : List Frame) (dy : Option Dying) : Ob d (stepG.oper P b fr cs dy w):=by
 unfold stepG.oper
 repeat' (first | trivial | exact Ig hw _ _ _ _ _ | split)
theorem aeM (main b : Bool) (fr : Frame) (cs : List Frame) (dy : Option Dying) : Ob d (stepG.exec P main b fr cs dy w):=by
 unfold stepG.exec;dsimp only
 repeat' (first | exact hw | trivial | exact Ig hw _ _ _ _ _ | exact aeL hw _ _ _ _ | (with_reducible refine sC ?_) | exact Nat.le_trans hw (kW (r:=.ok _ _) (by assumption)) | exact Nat.le_trans hw (kW (r:=.halt _ _) (by assumption)) | exact Nat.le_trans hw (fQ (r:=.ok _ _) (by assumption)) | exact Dg (Nat.le_trans hw (kW (r:=.ok _ _) (by assumption))) _ _ _ _ _ | exact Ig (Nat.le_trans hw (kW (r:=.ok _ _) (by assumption))) _ _ _ _ _ | refine aeK ?_ (fun _=>?_) _ | split)
theorem Ru (fr : Frame) (cs : List Frame) (dy : Option Dying) (x : Deferred) : Ob d (callDeferred P fr cs dy x w):=by
 unfold callDeferred;dsimp only
 repeat' (first | exact hw | trivial | (with_reducible refine sC ?_) | exact Nat.le_trans hw (kW (r:=.ok _ _) (by assumption)) | exact Nat.le_trans hw (kW (r:=.halt _ _) (by assumption)) | exact throw_ok (Nat.le_trans hw (kW (r:=.halt _ _) (by assumption))) _ _ | exact If (Nat.le_trans hw (kW (r:=.halt _ _) (by assumption))) _ _ _ _ | split)
theorem aav (main : Bool) (fr : Frame) (cs : List Frame) (dy : Option Dying) : Ob d (unwind P main fr cs dy w):=by
 unfold unwind;dsimp only
 repeat' (first | exact hw | trivial | (with_reducible refine sC ?_) | exact Ru hw _ _ _ _ | exact Dg hw _ _ _ _ _ | exact Ei hw _ _ | exact Nat.le_trans hw (kW (r:=.ok _ _) (by assumption)) | exact Nat.le_trans hw (fQ (r:=.ok _ _) (by assumption)) | exact Dg (Nat.le_trans hw (kW (r:=.ok _ _) (by assumption))) _ _ _ _ _ | split)
theorem Vk (fr : Frame) (x : Dying) (f : Fatal) : Ob d (writeOn P fr x f w):=by
 unfold writeOn;dsimp only
 repeat' (first | exact hw | trivial | exact Nat.le_trans hw (Rs (r:=.ok _ _) (by assumption)) | exact Nat.le_trans hw (Rs (r:=.halt _ _) (by assumption)) | split)
theorem aip (fr : Frame) (x : Dying) : Ob d (die P fr x w):=by
 unfold die;dsimp only
 repeat' (first | exact hw | trivial | (with_reducible refine sC ?_) | exact Vk hw _ _ _ | exact Vj hw _ _ _ | exact Nat.le_trans hw (kW (r:=.ok _ _) (by assumption)) | exact Nat.le_trans hw (fQ (r:=.ok _ _) (by assumption)) | exact Ei (Nat.le_trans hw (kW (r:=.halt _ _) (by assumption))) _ _ | split)
theorem ac4 (main : Bool) (g : Goroutine) (b : Bool) : Ob d (stepG P main g w b):=by
 unfold stepG;dsimp only
 repeat' (first | exact aip hw _ _ | exact aeM hw _ _ _ _ _ | exact aav hw _ _ _ _ | split)
end
def okS (d : Nat) : Stepped → Prop
 | .next m=>d ≤ m.world.drawn
 | _=>True
section
variable {P : Program} {d : Nat} {w : World} (hw : d ≤ w.drawn)
include hw
theorem Vl {rest : Rest} {cases : Array CommCase} {u : World} (h : waitingAt rest cases w = some u) : d ≤ u.drawn:=by
 unfold waitingAt at h;split at h
 · split at h
   · cases h;exact hw
   · cases h
 · cases h;exact hw
theorem aeN (rest : Rest) (gs : Array Goroutine) (i : Nat) (g : Goroutine) (cases : Array CommCase) (bl : Bool) (sh : CommShape) : okS d (communicate P rest gs i g cases bl sh w).1:=by
 unfold communicate;dsimp only
 repeat' (first | exact hw | trivial | exact Vl hw (by assumption) | split)
 all_goals dsimp only[okS]
 all_goals first | exact Nat.le_trans hw (fQ (r:=.ok _ _) (by assumption)) | exact Nat.le_trans (Nat.le_trans hw (fQ (r:=.ok _ _) (by assumption))) (fQ (r:=.ok _ _) (by assumption)) | exact Nat.le_trans (Nat.le_trans hw (fQ (r:=.ok _ _) (by assumption))) (fQ (r:=.halt _ _) (by assumption))
theorem Xo (gs : Array Goroutine) (rest : Rest) : okS d (look P gs rest w):=by
 unfold look;dsimp only
 repeat' (first | exact hw | trivial | split)
 all_goals dsimp only[okS]
 all_goals exact Nat.le_trans hw (fQ (r:=.ok _ _) (by assumption))
end
theorem ac5 {P : Program} (m : Machine) (k : Nat) : okS m.world.drawn (serve P m k):=by
 unfold serve;dsimp only
 repeat' (first | exact Nat.le_refl _ | trivial | split)
theorem Lj (m : Machine) (k : Nat) (t : Timer) (a b : Nat) : m.world.drawn ≤ (retime m k t a b).2.world.drawn:=by
 unfold retime;dsimp only;split
 · unfold drain
   split <;> exact Nat.le_refl _
 · exact Nat.le_refl _
theorem Rv {m m' : Machine} {v : Value} {var : Addr} {f : Nat → Timer → Value × Machine} (hf : ∀ k t,m.world.drawn ≤ (f k t).2.world.drawn) {m0 : Machine} (h : timerOp.named m0 var f = .ok (v,m')) : m.world.drawn ≤ m'.world.drawn:=by
 unfold timerOp.named at h;split at h
 · rename_i k _
   have:=hf k (m0.rest.timers.getD k default);cases hh : f k (m0.rest.timers.getD k default) with
   | mk a b =>
    rw [hh] at h this;cases h;exact this
 · cases h
theorem Vm {m m' : Machine} {op : TimerOp} {v : Value} (h : timerOp m op = .ok (v,m')) : m.world.drawn ≤ m'.world.drawn:=by
 unfold timerOp at h;cases op with
 | new t =>
  dsimp only at h
  repeat' (first | (cases h;done) | (cases h;exact Nat.le_refl _) | split at h)
 | stop var=>exact Rv (fun k t=>Lj m k t _ _) h
 | reset var when period =>
  dsimp only at h;split at h
  · rename_i m1 hm
    have h1 : m.world.drawn ≤ m1.world.drawn:=by
     unfold timerOp.opened at hm
     repeat' (first | (cases hm;done) | (cases hm;exact Nat.le_refl _) | split at hm)
    exact Rv (fun k t=>Nat.le_trans h1 (Lj m1 k t _ _)) h
  · cases h
 | deadline ctx read write when=>cases h;exact Nat.le_refl _
theorem aiq (P : Program) (m : Machine) (i : Nat) (b : Bool) : okS m.world.drawn (runT P m i b).1:=by
 unfold runT;dsimp only;have h:=ac4 (P:=P) (Nat.le_refl m.world.drawn) (i == 0) (m.gs.swapAt! i { (default : Goroutine) with status:=.finished }).1 b;generalize stepG P (i == 0) (m.gs.swapAt! i { (default : Goroutine) with status:=.finished }).1 m.world b = s at h;cases s
 all_goals dsimp only
 all_goals repeat' (first | exact h | trivial | exact aeN h _ _ _ _ _ _ _ | exact Xo h _ _ | split)
 all_goals exact Nat.le_trans h (Vm (by assumption))
def okM (d : Nat) : Move → Prop
 | .goroutine m _=>d ≤ m.world.drawn
 | .machine s _=>okS d s
theorem okS.mono {d e : Nat} (h : e ≤ d) : ∀ {s : Stepped},okS d s → okS e s
 | .next _,k=>Nat.le_trans h k
 | .ended _ _,_=>trivial
theorem Oc {P : Program} {d : Nat} (rs : List Nat) (m : Machine) (hw : d ≤ m.world.drawn) : okM d (match (choose (.sched rs.length)).run P m.world with
 | .halt _ w=>.machine (.ended (.stuck "sched" "") w)
 | .ok k world =>
  if rs.length ≤ 1 then .goroutine { m with world } (rs.getD k 0) else
  match (choose (.extern "sched.slice" 65536)).run P world with
  | .halt _ w=>.machine (.ended (.stuck "sched.slice" "") w)
  | .ok n world=>.goroutine { m with world,rest:={ m.rest with slice:=if n = 0 then none else some (rs.getD k 0,n) } } (rs.getD k 0)):=by
 repeat' (first | trivial | split)
 all_goals dsimp only[okM]
 all_goals first | exact Nat.le_trans hw (fQ (r:=.ok _ _) (by assumption)) | exact Nat.le_trans (Nat.le_trans hw (fQ (r:=.ok _ _) (by assumption))) (fQ (r:=.ok _ _) (by assumption))
theorem Ih {P : Program} {d : Nat} {m : Machine} (hw : d ≤ m.world.drawn) : okM d (askOn P m):=by
 unfold askOn;dsimp only;split
 · trivial
 · rename_i k w1 h1
   have hw1 : d ≤ w1.drawn:=Nat.le_trans hw (fQ h1);split
   · exact okS.mono hw1 (ac5 { m with world:=w1 } _)
   · split
     · split
       · exact hw1
       · split
         · exact hw1
         · split <;> trivial
     · split
       · exact Oc _ { m with world:=w1 } hw1
       · split
         · trivial
         · rename_i w2 h2
           exact Oc _ { m with world:=w2 } (Nat.le_trans hw1 (fQ h2))
         · rename_i w2 h2
           exact Nat.le_trans hw1 (fQ h2)
         · rename_i w2 h2
           exact Oc _ (({ m with world:=w2 } : Machine).advanceTo _) (Nat.le_trans hw1 (fQ h2))
theorem ac6 {P : Program} {d : Nat} {m : Machine} (hw : d ≤ m.world.drawn) : okM d (ask P m):=by
 unfold ask;split
 · split
   · trivial
   · rename_i w1 h1
     have hw1 : d ≤ w1.drawn:=Nat.le_trans hw (fQ h1);have hl:=Xo (P:=P) hw1 m.gs m.rest;split
     · rename_i m2 h2
       rw [h2] at hl;exact Ih hl
     · rename_i e he
       cases hq : look P m.gs m.rest w1 with
       | next m2=>exact absurd hq (he m2)
       | ended o w2=>trivial
   · rename_i w1 h1 _
     exact Ih (m:={ m with world:=w1 }) (show d ≤ w1.drawn from Nat.le_trans hw (fQ (r:=.ok _ _) (by assumption)))
 · exact Ih hw
theorem aeO {P : Program} {m : Machine} : okM m.world.drawn (move P m):=by
 unfold move;split
 · split
   · exact Nat.le_refl _
   · trivial
 · split
   · split
     · exact Nat.le_refl _
     · exact ac6 (m:={ m with rest:={ m.rest with slice:=none } }) (Nat.le_refl _)
   · exact ac6 (Nat.le_refl _)
theorem aeP {P : Program} {m m' : Machine} (h : step P m = .next m') : m.world.drawn ≤ m'.world.drawn:=by
 have h1:=aeO (P:=P) (m:=m);have h2 : okS m.world.drawn (step P m):=by
  unfold step stepT;split
  · rename_i m1 i hm
    rw [hm] at h1;exact okS.mono h1 (aiq P m1 i _)
  · rename_i s ops hm
    rw [hm] at h1;exact h1
 rw [h] at h2;exact h2
theorem Rw {P : Program} {m m' : Machine} (h : Steps P m m') : m.world.drawn ≤ m'.world.drawn:=by
 obtain ⟨n,hn⟩:=h
 induction n generalizing m with
 | zero=>cases hn;exact Nat.le_refl _
 | succ n ih =>
  simp only[runN] at hn;split at hn
  · rename_i m1 h1
    exact Nat.le_trans (aeP h1) (ih hn)
  · rename_i e he
    cases hq : step P m with
    | next m2=>exact absurd hq (he m2)
    | ended o w2=>rw [hq] at hn;cases hn
theorem Rx {P : Program} {f : FuncId} {args : Array Value} {w : World} {R : Ending → World → Prop} (hR : ∀ w',¬ R .outgrown w') (h : Calls P f args w R) : Calls P f args w fun e w'=>R e w' ∧ w.drawn ≤ w'.drawn:=fun cs=>by
 obtain ⟨e,w',fr,hr,hc,hf,hl⟩:=h cs;refine ⟨e,w',fr,⟨hr,?_⟩,hc,hf,hl⟩;cases e with
 | returned v=>exact Rw hc
 | panicked c=>exact Rw hc
 | outgrown=>exact absurd hr (hR w')
theorem eQ.g {P : Program} {f : FuncId} {args : List Value} {v : Value} (h : eQ P f args v) : nP P f args v:=fun w =>
 ⟨(h w).1,(Rx (fun _ ⟨_,e,_⟩=>(by cases e)) (h w).2).mono fun _ _ ⟨⟨u,he,hX,hv⟩,hd⟩=>⟨u,he,⟨hX,hd⟩,hv⟩⟩
end Go.Lith
namespace Go.Proofs.YtfekpcimgncioaaGreatDoor
open Go.Proofs.Tryz
open Go.RowKit Go.Lith
set_option maxRecDepth 100000
attribute [local irreducible] wpList wpQuiet dB bL cE Code.wp
def oL (c : iV) : List Value:=[.int .i64 c.u.x,.int .i64 c.u.y,.int .i64 c.u.z,.int .i64 c.v.x,.int .i64 c.v.y,.int .i64 c.v.z,.bool (iG c.c),.string (nE c.c)]
def Vn (c : iV) : Value:=.agg (oL c).toArray
theorem aeQ (c : iV) : ∀ v ∈ oL c,v.oneCell' = true:=fun v h=>by
 simp only[oL,List.mem_cons,List.not_mem_nil,or_false] at h;rcases h with rfl | rfl | rfl | rfl | rfl | rfl | rfl | rfl <;> rfl
def ac7 (a b : iV) : Int:=if cA (a.c - b.c) = 0 then if mC a.u b.u = 0 then mC a.v b.v else mC a.u b.u else cA (a.c - b.c)
theorem Br (a b : iV) : (ac7 a b < 0) ↔ a.Lt b:=by
 unfold ac7 iV.Lt;have h0 : cA (a.c - b.c) = 0 ↔ a.c = b.c:=by rw [fG];omega
 have h1 : cA (a.c - b.c) < 0 ↔ a.c < b.c:=by
  have:=Pa (n:=a.c - b.c);omega
 by_cases h : a.c = b.c
 · rw [if_pos (h0.2 h)]
   by_cases g : a.u = b.u
   · rw [if_pos (kE.2 g),jB]
     simp [h,g,P3.lt_irrefl]
   · rw [if_neg fun k=>g (kE.1 k),jB]
     simp [h,g]
 · rw [if_neg fun k=>h (h0.1 k),h1]
   simp [h]
abbrev ac8 : Type:={ c : iV // Bd 900000 c.c }
instance : Inhabited ac8:=⟨⟨⟨⟨0,0,0⟩,⟨0,0,0⟩,0⟩,Es _⟩⟩
theorem ac9 : Go.Sort.SWO (Go.Proofs.ltOf fun a b : ac8=>ac7 a.1 b.1) where
 irrefl a:=by simp only[Go.Proofs.ltOf,decide_eq_false_iff_not,Br];exact iV.lt_irrefl a.1
 trans x y z h1 h2:=by
  simp only[Go.Proofs.ltOf,decide_eq_true_eq,Br] at *
  exact iV.lt_trans h1 h2
 ntrans x y z h1 h2:=by
  simp only[Go.Proofs.ltOf,decide_eq_false_iff_not,Br] at *
  intro h;rcases iV.lt_tri y.1 x.1 with k | k | k
  · exact h2 (iV.lt_trans k h)
  · exact h2 (by rw [k];exact h)
  · exact h1 k
theorem aeR {p q : iV} (hp : Bd 900000 p.c) (hq : Bd 900000 q.c) : nP prog 64 [Vn p,Vn q] (.int .i64 (ac7 p q)):=by
 intro w;refine ⟨aji,?_⟩;have m:=fS.refl w
 go_enter func64,ntmps64
 refine aD fun K1 k1=>wp_region_lit (kX m rfl ?_);clear m;intro g1 u m;simp only[zz];refine kX m rfl ?_;clear m;intro g2 u m;refine aA (aG) (aF (k1 _ _ ?_));try clear k1 K1
 refine aD fun K2 k2=>?_;simp only[zz];refine Gf m 15 aM (by kernel_rfl) ?_;simp only[zy];refine aK (aL (c:=1) iJ rfl aP rfl rfl) ?_;simp only[zz];refine Ik rfl (fun u m=>((m.b 1 rfl).lies bN aP rfl rfl)) ?_;simp only[zz,zy,Nat.zero_add,Nat.reduceAdd,Nat.reduceMul,Int.reduceToNat];refine aK (aL (c:=1) iJ rfl aP rfl rfl) ?_;simp only[zz];refine Ik rfl (fun u m=>((m.b 0 rfl).lies bN aP rfl rfl)) ?_;simp only[zz,zy,Nat.zero_add,Nat.reduceAdd,Nat.reduceMul,Int.reduceToNat];refine yW rfl rfl ((ajS (a:=p.c) (b:=q.c) hp hq).g) (aK (aL (c:=2) iJ rfl aC rfl rfl) ?_);simp only[zz];refine Ik rfl (fun u m=>((m.b 1 rfl).lies aI aC rfl rfl)) ?_;simp only[zz,zy,Nat.zero_add,Nat.reduceAdd,Nat.reduceMul,Int.reduceToNat];refine aK (aL (c:=2) iJ rfl aC rfl rfl) ?_;simp only[zz];refine Ik rfl (fun u m=>((m.b 0 rfl).lies aI aC rfl rfl)) ?_;simp only[zz,zy,Nat.zero_add,Nat.reduceAdd,Nat.reduceMul,Int.reduceToNat];refine yW rfl rfl (Ho (p:=p.u) (q:=q.u)) (aK (aL (c:=2) iJ rfl aC rfl rfl) ?_);simp only[zz];refine Ik rfl (fun u m=>((m.b 1 rfl).lies aI aC rfl rfl)) ?_;simp only[zz,zy,Nat.zero_add,Nat.reduceAdd,Nat.reduceMul,Int.reduceToNat];refine aK (aL (c:=2) iJ rfl aC rfl rfl) ?_;simp only[zz];refine Ik rfl (fun u m=>((m.b 0 rfl).lies aI aC rfl rfl)) ?_;simp only[zz,zy,Nat.zero_add,Nat.reduceAdd,Nat.reduceMul,Int.reduceToNat];refine yW rfl rfl (Ho (p:=p.v) (q:=q.v)) (bZ ?_);clear m;intro u m;simp only[zz];refine Qv m xH (z:=.int .i64 0) (by kernel_rfl) rfl rfl rfl rfl rfl rfl rfl ?_;clear m;intro g3 u m;simp only[zz];refine Nd m rfl rfl (ab6 _ (m.b 0 rfl)) ?_;clear m;intro u m;refine aA (aG) (aF (k2 _ _ ?_));try clear k2 K2
 refine wp_ret ?_;simp only[zz];try simp only[Exit.inBlock,Exit.then,if_true]
 refine bE rfl rfl ?_;try simp only[zD,zE]
 exact ⟨_,rfl,m.ext,rfl⟩
theorem aeS {w0 w : World} {is : List It} {A : Option Addr} {n cap : Nat} {xs : List iV} (hb : ∀ c ∈ xs,Bd 900000 c.c) (m : Mem w0 w is) (k : Nat) (hi : is[k]? = some (oI 112 8 A n cap (xs.flatMap oL))) (hsz : n < 4611686018427387904) :
 Calls prog 123 [.slice A n cap,.func (.func 64) #[] #[]].toArray w fun e w'=>∃ v i,e = .returned v ∧ Mem w0 w' (is.set k i) ∧ (v = .tuple #[] ∧ ∃ ys : List iV,i = oI 112 8 A n cap (ys.flatMap oL) ∧ ys.Perm xs ∧ ys.Pairwise fun a b=>¬ b.Lt a):=by
 have e0 : (xs.attachWith (fun c=>Bd 900000 c.c) hb).map (·.1) = xs:=List.attachWith_map_subtype_val ..;have e1 : ∀ L : List ac8,L.flatMap (fun c=>oL c.1) = (L.map (·.1)).flatMap oL:=fun L=>by rw [List.flatMap_map]
 have hi' : is[k]? = some (oI 112 8 A n cap ((xs.attachWith (fun c=>Bd 900000 c.c) hb).flatMap fun c=>oL c.1)):=by rw [e1,e0];exact hi
 refine (uV (α:=ac8) (enc:=fun c=>oL c.1) Tryz.sort123 (fun w=>nZ vY w) (fun w=>dQ iQ w) (fun _=>rfl) (by decide) (fun x=>aeQ x.1) (fun a b=>ac7 a.1 b.1) ac9 (fun x y=>aeR x.2 y.2) m k hi' hsz).mono ?_;rintro e w' ⟨v,i,h1,h2,h3,ys,h4,h5,h6⟩;refine ⟨v,i,h1,h2,h3,ys.map (·.1),by rw [h4,e1],?_,?_⟩
 · have:=h5.map (fun c : ac8=>c.1)
   rwa [e0] at this
 · rw [List.pairwise_map]
   exact h6.imp fun h=>by simpa [Go.Proofs.ltOf,Br] using h
theorem air {g50 g90 ga gf N cap ca cf : Nat} {A : Option Addr} {ea ef : Array MapEntry} {D : List (P3 × Hd)} {F : List (P3 × Bool)} {ts : List T3} {c : iV} [I3 c.u] [I3 c.v] (w : World) (hB50 : fF w g50 [.pointer (some ⟨g90,0,none⟩)] 88) (hS : Bo 109 w g90 ga gf A N cap ea ef ca cf D ts) (hT : bY w A N ts) (hD : Ia ea ef ca cf D F ts) (hnd : ∀ t ∈ ts,t.nd = true) (hN : ts.length ≤ 1000000) : eG prog 65 [Vn c,.pointer (some ⟨g50,0,none⟩)] w (fun v _=>v = .bool (dA ts c.u c.v)):=by
 refine ⟨ajj,?_⟩;have m:=Mem.refl w
 go_enter func65,ntmps65
 refine aD fun K1 k1=>wp_region_lit (cB m rfl ?_);clear m;intro g1 u m;refine aA (aG) (aF (k1 _ _ ?_));try clear k1 K1
 refine aD fun K2 k2=>wp_region_lit ?_;simp only[zz];refine aJ rfl ((hB50.ext m.ext).lies1 xR rfl) ?_;simp only[zz];refine aA (aL (c:=2) iJ rfl aC rfl rfl) ?_;simp only[zz];refine aJ rfl ((m.b 0 rfl).lies aI aC rfl rfl) ?_;simp only[zz,zy,Nat.zero_add,Nat.reduceAdd,Nat.reduceMul,Int.reduceToNat];refine aA (aL (c:=2) iJ rfl aC rfl rfl) ?_;simp only[zz];refine aJ rfl ((m.b 0 rfl).lies aI aC rfl rfl) ?_;simp only[zz,zy,Nat.zero_add,Nat.reduceAdd,Nat.reduceMul,Int.reduceToNat];refine eE m rfl rfl (Lh (p:=c.u) (q:=c.v) _ (hS.ext m.ext) hD (hT.ext m.ext) hnd hN) ?_;clear m;rintro v u m rfl;refine aA (aG) (aF (k2 _ _ ?_));try clear k2 K2
 refine wp_ret ?_;simp only[zz];try simp only[Exit.inBlock,Exit.then,if_true]
 refine bE rfl rfl ?_;try simp only[zD,zE]
 exact ⟨_,rfl,m.ext,rfl⟩
theorem ada {g50 g90 ga gf N cap ca cf : Nat} {A : Option Addr} {ea ef : Array MapEntry} {D : List (P3 × Hd)} {F : List (P3 × Bool)} {ts : List T3} {cs : List iV} {n1 c1 : Nat} {A1 : Option Addr} (w : World) (hB50 : fF w g50 [.pointer (some ⟨g90,0,none⟩)] 88) (hS : Bo 109 w g90 ga gf A N cap ea ef ca cf D ts) (hT : bY w A N ts) (hD : Ia ea ef ca cf D F ts) (hnd : ∀ t ∈ ts,t.nd = true) (hN : ts.length ≤ 1000000) (hL : Ek oL 8 w A1 n1 cs) (hI : ∀ c ∈ cs,I3 c.u ∧ I3 c.v) (hn1 : n1 ≤ 100000000) : eG prog 124 [.slice A1 n1 c1,.func (.func 65) #[] #[.pointer (some ⟨g50,0,none⟩)]] w (fun v _=>∃ k : Int,v = .int .i64 k ∧ ((k < 0 ∧ ∀ c ∈ cs,dA ts c.u c.v = false) ∨ ∃ (j : Nat) (c : iV),k = j ∧ j < n1 ∧ cs[j]? = some c ∧ dA ts c.u c.v = true ∧ ∀ (i : Nat) (d : iV),i < j → cs[i]? = some d → dA ts d.u d.v = false)):=by
 refine ⟨agb,?_⟩;have m:=Mem.refl w;have hcl:=hL.len
 go_enter func124,ntmps124
 refine aD fun K1 k1=>wp_region_lit (aA (aG) (aF (k1 _ _ ?_)));try clear k1 K1
 refine aD fun K2 k2=>aD fun K3 k3=>wp_region_lit (aA (aB) (aA (bH rfl Gn rfl) (aA (aB) ?_)));simp only[zz];refine aF (k3 _ _ ?_);try clear k3 K3
 refine wp_block ?_;try simp only[Nat.zero_add,Nat.reduceAdd,Nat.reduceMul,Int.reduceToNat]
 refine bT [8] [4,5,9,10,11,12,13,14,15,16,17,18] (fun n vs wl=>∃ (k : Nat),vs = [.int .i64 (k:Int)] ∧ Mem w wl [] ∧ (∀ (j : Nat) (d : iV),j < k → cs[j]? = some d → dA ts d.u d.v = false) ∧ (k ≤ n1) ∧ (n = n1 - k)) ?_ ?_
 · skip
   apply Exists.intro;simp only[zQ,zR,zD,zE];exact ⟨0,rfl,m,(fun j r h=>by omega),Nat.zero_le _,rfl⟩
 · intro n vs wr hI u
   clear m;obtain ⟨k,rfl,m,hq0,hk,hn2⟩:=hI;simp only[zu,zF,zG];refine aD fun K4 k4=>wp_region_lit (aA (cW rfl rfl) (aF (k4 _ _ ?_)));try clear k4 K4
   refine aD fun K5 k5=>?_;simp only[zz];refine cG rfl (fun hc1=>?_) (fun hc1=>?_)
   · skip
     obtain ⟨c,hc,a1,rfl,hrow⟩:=hL.get (i:=k) (by omega);refine wp_skip (k5 _ _ ?_);try clear k5 K5
     refine aD fun K6 k6=>wp_block (aD fun K7 k7=>wp_region_lit (aA (aB) (aA (aG) (aF (k7 _ _ ?_)))));try clear k7 K7
     refine aD fun K8 k8=>wp_region_lit (aA (aB) (aA (aB) ?_));simp only[zz];refine aA (aB) ?_;simp only[zz];refine aA (aN Gn iQ rfl rfl (by omega) (by omega) (dC (Int.toNat_natCast _))) ?_;simp only[zz];refine aJ rfl ((hrow.ext m.ext).lies vY iQ) ?_;simp only[zz];refine eE m rfl rfl ((haveI:=(hI c (List.mem_of_getElem? hc)).1;haveI:=(hI c (List.mem_of_getElem? hc)).2;air (c:=c) _ (hB50.ext m.ext) (hS.ext m.ext) (hT.ext m.ext) hD hnd hN)) ?_;clear m;rintro v u m rfl;refine aF (k8 _ _ ?_);try clear k8 K8
     simp only[zz];refine eD rfl (fun hc2=>?_) (fun hc2=>?_)
     · skip
       refine aD fun K9 k9=>wp_region_lit (aA (aB) (aA (aG) (aF (k9 _ _ ?_))));try clear k9 K9
       refine wp_ret ?_;simp only[zz];try simp only[Exit.inBlock,Exit.then,if_true]
       refine bE rfl rfl ?_;try simp only[zD,zE]
       exact ⟨_,rfl,m.ext,k,rfl,.inr ⟨k,c,rfl,by omega,hc,hc2,fun i d hi hd=>hq0 i d hi hd⟩⟩
     · skip
       refine wp_skip (k6 _ _ ?_);try clear k6 K6
       refine wp_region_lit (aA (aU rfl rfl (aV (by omega) (by omega))) (aA (aB) (aF ?_)));simp only[zz];simp only[Exit.inBlock,Exit.then];refine ⟨n1 - (k + 1),_,?_,rfl,?_,?_⟩
       · omega
       · simp only[zz,zv]
       · simp only[zQ,zR,zD,zE]
         exact ⟨k + 1, rfl, m, (fun j r2 hj h1 => by
          rcases Nat.lt_or_ge j k with h | h
          · exact hq0 j r2 h h1
          · obtain rfl : j = k:=by omega
            rw [hc] at h1;cases h1;exact hc2),by omega,rfl⟩
   · skip
     obtain rfl : n1 = k:=by omega
     refine wp_exit (k2 _ _ ?_);try clear k2 K2
     refine aD fun K10 k10=>wp_region_lit (aA (aG) (aF (k10 _ _ ?_)));try clear k10 K10
     refine wp_ret ?_;simp only[zz];try simp only[Exit.inBlock,Exit.then,if_true]
     refine bE rfl rfl ?_;try simp only[zD,zE]
     exact ⟨_,rfl,m.ext,-1,rfl,.inl ⟨by decide,fun c hc=>by obtain ⟨j,hj⟩:=List.mem_iff_getElem?.1 hc;exact hq0 j c (by have:=(List.getElem?_eq_some_iff.1 hj).1;omega) hj⟩⟩
end Go.Proofs.YtfekpcimgncioaaGreatDoor
namespace Go.Proofs.YtfekpcimgncioaaGreatDoor
open Go.Proofs.Tryz
open Go.RowKit Go.Lith
set_option maxRecDepth 100000
attribute [local irreducible] wpList wpQuiet dB bL cE Code.wp
theorem ais {w0 w : World} {K R0 : It} {g50 g90 ga gf N cap ca cf : Nat} {A : Option Addr} {ea ef : Array MapEntry} {D : List (P3 × Hd)} {F : List (P3 × Bool)} {ts : List T3} {cs : List iV} {n1 c1 : Nat} {A1 : Option Addr} (m : Mem w0 w [oI 112 8 A1 n1 c1 (cs.flatMap oL),bI g50 [.pointer (some ⟨g90,0,none⟩)] 88,K,oI 39 9 A N cap (ts.flatMap aW),R0]) (hK : ∀ u,K.P u → Bo 109 u g90 ga gf A N cap ea ef ca cf D ts) (hD : Ia ea ef ca cf D F ts) (hnd : ∀ t ∈ ts,t.nd = true) (hIT : ∀ t ∈ ts,IT t) (hN : ts.length ≤ 1000000) (hI : ∀ c ∈ cs,I3 c.u ∧ I3 c.v) (hb : ∀ c ∈ cs,Bd 900000 c.c) (hn1 : n1 ≤ 100000000) : tQ prog 63 [.slice A1 n1 c1,.func (.func 64) #[] #[],.func (.func 65) #[] #[.pointer (some ⟨g50,0,none⟩)]] w fun v w'=>Mem w0 w' [bI g50 [.pointer (some ⟨g90,0,none⟩)] 88,K,oI 39 9 A N cap (ts.flatMap aW),R0] ∧ ((v = .tuple #[.agg #[.int .i64 0,.int .i64 0,.int .i64 0,.int .i64 0,.int .i64 0,.int .i64 0,.bool false,.string ⟨#[]⟩],.bool false] ∧ ∀ c ∈ cs,dA ts c.u c.v = false) ∨ ∃ (c : iV) (ys : List iV) (j : Nat),v = .tuple #[Vn c,.bool true] ∧ ys.Perm cs ∧ (ys.Pairwise fun a b=>¬ b.Lt a) ∧ ys[j]? = some c ∧ dA ts c.u c.v = true ∧ ∀ (i : Nat) (d : iV),i < j → ys[i]? = some d → dA ts d.u d.v = false):=by
 refine ⟨ajh,?_⟩
 go_enter func63,ntmps63
 refine aD fun K1 k1=>wp_region_lit (bA m Ab rfl ?_);clear m;intro g51 u m;refine aA (aG) (aF (k1 _ _ ?_));try clear k1 K1
 refine aD fun K2 k2=>wp_region_lit (aA (aB) (aA (aB) ?_));simp only[zz];refine jG m 1 aga rfl rfl (fun m=>aeS hb m 1 rfl (by omega)) ?_;clear m;rintro v i u m ⟨rfl,ys,rfl,hys,hso⟩;simp only[zF,zG] at m;refine aF (k2 _ _ ?_);try clear k2 K2
 refine aD fun K3 k3=>wp_region_lit (aA (aB) (aA (aB) ?_));simp only[zz];refine eE m rfl rfl (ada _ (m.b 2 rfl) (hK _ (m.get 3 rfl)) ((m.o 4 rfl).tris hIT) hD hnd hN ((m.o 1 rfl).lat (enc:=oL) (fun _=>rfl) (by decide)) (fun c hc=>hI c (hys.mem_iff.1 hc)) hn1) ?_;clear m;rintro v u m ⟨kk,rfl,hkk⟩;refine aA (aG) (aF (k3 _ _ ?_));try clear k3 K3
 refine aD fun K4 k4=>aD fun K5 k5=>wp_region_lit (aA (aB) (aA (cW rfl rfl) ?_));simp only[zz];refine aF (k5 _ _ ?_);try clear k5 K5
 refine cG rfl (fun hc1=>?_) (fun hc1=>?_)
 · skip
   refine aD fun K6 k6=>wp_region_lit (bA m Ab rfl ?_);clear m;intro g52 u m;refine aF (k6 _ _ ?_);try clear k6 K6
   refine aD fun K7 k7=>wp_region_lit ?_;simp only[zz];refine aJ rfl ((m.b 0 rfl).full vY iQ) ?_;simp only[zz];refine aT m 1 rfl rfl rfl iQ (cU rfl) rfl ?_;clear m;intro u m;simp only[zy,zx,bB,zF,zG,Nat.reduceAdd] at m;refine aA (aG) (aF (k7 _ _ ?_));try clear k7 K7
   refine wp_ret ?_;simp only[zz];try simp only[Exit.inBlock,Exit.then,if_true]
   refine uA rfl ⟨_,rfl,((m.b 1 rfl).full vY iQ)⟩ rfl ?_;try simp only[zD,zE]
   exact ⟨_,rfl,m.sel [false,false,false,true,true,true,true],.inl ⟨rfl,fun c hc=>(hkk.resolve_right (fun ⟨j,c2,e,_⟩=>by omega)).2 c (hys.mem_iff.2 hc)⟩⟩
 · skip
   obtain ⟨j,c,rfl,hj,hc,ha,hb4⟩:=hkk.resolve_left (fun h=>hc1 h.1);obtain ⟨c9,hc9,a1,hA1,hr5⟩:=((m.o 1 rfl).lat (enc:=oL) (fun _=>rfl) (by decide)).get (i:=j) (by omega);obtain rfl : c9 = c:=Option.some.inj (hc9.symm.trans hc);subst hA1;refine wp_skip (k4 _ _ ?_);try clear k4 K4
   refine aD fun K8 k8=>wp_region_lit (aA (aB) (aA (aB) ?_));simp only[zz];refine aA (aN Gn iQ rfl rfl (by omega) (by omega) (dC (Int.toNat_natCast _))) ?_;simp only[zz];refine aJ rfl (show hG _ _ _ _ (.agg #[.int .i64 c9.u.x,.int .i64 c9.u.y,.int .i64 c9.u.z,.int .i64 c9.v.x,.int .i64 c9.v.y,.int .i64 c9.v.z,.bool (iG c9.c),.string (nE c9.c)]) from hr5.lies vY iQ) ?_;simp only[zz];refine aT m 0 rfl rfl rfl iQ (cU rfl) rfl ?_;clear m;intro u m;simp only[zy,zx,bB,zF,zG,Nat.reduceAdd] at m;refine aA (aG) (aF (k8 _ _ ?_));try clear k8 K8
   refine wp_ret ?_;simp only[zz];try simp only[Exit.inBlock,Exit.then,if_true]
   refine uA rfl ⟨_,rfl,((m.b 0 rfl).full vY iQ)⟩ rfl ?_;try simp only[zD,zE]
   exact ⟨_,rfl,m.sel [false,false,true,true,true,true],.inr ⟨c9,ys,j,rfl,hys,hso,hc,ha,hb4⟩⟩
end Go.Proofs.YtfekpcimgncioaaGreatDoor
namespace Go.Lith
open Go.RowKit Go.ChangeMaps Go.MapKept
section
variable {K V : Type} [DecidableEq K] {P : Program} {T M E ty : TypeId} {ek : K → Value} {ev : V → Value} {w w0 : World} {g c : Nat} {es : Array MapEntry} {D : List (K × V)} {is : List It}
def nW (ek : K → Value) (ev : V → Value) (D : List (K × V)) (es : Array MapEntry) (seen : Array Nat) (dn rs : List (K × V)) : Prop :=
 (dn ++ rs).Perm D ∧ ∃ dE rE : List MapEntry,(∀ e ∈ dE,e.born ∈ seen.toList) ∧ (∀ e ∈ rE,e.born ∉ seen.toList) ∧ (dE ++ rE).Perm es.toList ∧ dE.map Jh = dn.map (fun x=>(ek x.1,ev x.2)) ∧ rE.map Jh = rs.map (fun x=>(ek x.1,ev x.2))
def sD (ek : K → Value) (ev : V → Value) (D : List (K × V)) (es : Array MapEntry) (seen : Array Nat) (dn : List (K × V)) (k : K) (v : V) (rs : List (K × V)) : Prop :=
 nW ek ev D es seen (dn ++ [(k,v)]) rs ∧ ∃ (e : MapEntry) (s : Array Nat),e ∈ es.toList ∧ Jh e = (ek k,ev v) ∧ seen = s.push e.born
theorem nW.start (hD : bP ek ev D es c) : nW ek ev D es #[] [] D:=⟨List.Perm.refl _,[],es.toList,fun _ h=>(by cases h),fun _ _ h=>(by cases h),List.Perm.refl _,rfl,hD.cells⟩
theorem nW.done {seen : Array Nat} {dn : List (K × V)} (h : nW ek ev D es seen dn []) : dn.Perm D:=by simpa using h.1
def aeT (ek : K → Value) (ev : V → Value) (D : List (K × V)) (es : Array MapEntry) (dn rs : List (K × V)) (b : Bool) (seen' : Array Nat) : Prop :=
 (b = false ∧ rs = []) ∨ (b = true ∧ ∃ k v rs',rs.Perm ((k,v) :: rs') ∧ sD ek ev D es seen' dn k v rs')
theorem aax {r : Nat} {seen : Array Nat} {dn rs : List (K × V)} (hI : mZ w r g c seen c) (hM : gC w g es c) (hD : bP ek ev D es c) (hT : nW ek ev D es seen dn rs) :
 ∃ b kv vv seen' w1,(w1 = w ∨ w1 = w.drew) ∧ (Instr.next (.pointer (some ⟨r,0,none⟩)) false ty).run P w = .ok (xG b kv vv) (setBlock w1 r (.mapIter (some g) c seen' c)) ∧ aeT ek ev D es dn rs b seen':=by
 obtain ⟨hp,dE,rE,h1,h1',h2,h3,h4⟩:=hT;have hnd : ((dE ++ rE).map (·.born)).Nodup:=(h2.map (·.born)).nodup_iff.2 hD.nd;have hleft : ∀ e,e ∈ (leftOf es seen).toList ↔ e ∈ rE:=fun e=>by
  unfold leftOf;simp only[Array.toList_filter,List.mem_filter,Bool.not_eq_true',Array.contains_eq_mem,decide_eq_false_iff_not];rw [← Array.mem_toList_iff (xs:=seen),← h2.mem_iff,List.mem_append];constructor
  · rintro ⟨h | h,hn⟩
    · exact absurd (h1 e h) hn
    · exact h
  · intro h
    exact ⟨.inr h,h1' e h⟩
 rcases run_next_at (P:=P) w ty r g c c seen es c hI hM hD.born (Nat.le_refl _) with ⟨h0,hr⟩ | ⟨e,he,w1,hw1,hr⟩
 · refine ⟨false,default,default,seen,w,.inl rfl,?_,.inl ⟨rfl,?_⟩⟩
   · rw [hr]
     have : setBlock w r (.mapIter (some g) c seen c) = w:=by
      unfold setBlock;have hlt:=(Array.getElem?_eq_some_iff.1 hI).1;have : w.heap.setIfInBounds r (.mapIter (some g) c seen c) = w.heap:=by
       apply Array.ext_getElem?;intro i;rw [Array.getElem?_setIfInBounds];split
       · rename_i e;subst e;exact hI.symm
       · rfl
      rw [this]
     rw [this];rfl
   · cases rs with
     | nil=>rfl
     | cons x rs =>
      cases rE with
      | nil=>simp at h4
      | cons e rE =>
       have:=(hleft e).2 (List.mem_cons_self ..);rw [Array.eq_empty_of_size_eq_zero h0] at this;simp at this
 · obtain ⟨s,t,rfl⟩:=List.append_of_mem ((hleft e).1 he)
   rw [List.map_append,List.map_cons] at h4;obtain ⟨rs1,rs2,rfl,e1,e2⟩:=List.map_eq_append_iff.1 h4.symm;obtain ⟨x,rs3,rfl,e3,e4⟩:=List.map_eq_cons_iff.1 e2;obtain ⟨k,v⟩:=x;have hmid : (dE ++ [e] ++ (s ++ t)).Perm (dE ++ (s ++ e :: t)):=by
    simp only[List.append_assoc,List.cons_append,List.nil_append];exact List.Perm.append_left _ List.perm_middle.symm
   have hnd' : ((dE ++ [e] ++ (s ++ t)).map (·.born)).Nodup:=(hmid.map _).nodup_iff.2 hnd;rw [List.map_append,List.nodup_append] at hnd';refine ⟨true,e.key,e.val,seen.push e.born,w1,hw1,hr,.inr ⟨rfl,k,v,rs1 ++ rs3,List.perm_middle,⟨?_,dE ++ [e],s ++ t,?_,?_,?_,?_,?_⟩,e,seen,h2.mem_iff.1 (by simp),by rw [← e3],rfl⟩⟩
   · refine List.Perm.trans ?_ hp
     simp only[List.append_assoc,List.cons_append,List.nil_append];exact List.Perm.append_left _ List.perm_middle.symm
   · intro x hx
     rw [Array.toList_push];rcases List.mem_append.1 hx with hx | hx
     · exact List.mem_append_left _ (h1 x hx)
     · rw [List.mem_singleton.1 hx];exact List.mem_append_right _ (List.mem_singleton.2 rfl)
   · intro x hx hm
     rw [Array.toList_push] at hm;rcases List.mem_append.1 hm with hm | hm
     · refine h1' x ?_ hm
       rcases List.mem_append.1 hx with h | h
       · exact List.mem_append_left _ h
       · exact List.mem_append_right _ (List.mem_cons_of_mem _ h)
     · refine hnd'.2.2 e.born (List.mem_map.2 ⟨e,by simp,rfl⟩) x.born (List.mem_map.2 ⟨x,hx,rfl⟩) (List.mem_singleton.1 hm).symm
   · exact hmid.trans h2
   · simp only[List.map_append,h3,List.map_cons,List.map_nil]
     rw [← e3]
   · simp [e1,e4]
theorem Vo {r : Nat} {seen : Array Nat} {dn rs : List (K × V)} {k : K} {v : V} (hI : mZ w r g c seen c) (hM : gC w g es c) (hD : bP ek ev D es c) (hT : sD ek ev D es seen dn k v rs) :
 (Instr.entry (.pointer (some ⟨r,0,none⟩))).run P w = .ok (.tuple #[ek k,ev v]) w:=by
 obtain ⟨_,e,s,hm,he,rfl⟩:=hT;have:=run_entry_at (P:=P) w r g c _ es c e hI hM hm hD.nd;rw [this];simp only[Jh,Prod.mk.injEq] at he;rw [he.1,he.2]
theorem adb (w : World) (kt : nK P T ek) {a b : K} (h : ek a = ek b) : a = b:=by
 have h1:=kt.eq a b w;have h2:=kt.eq a a w;rw [← h,h2] at h1
 injection h1 with h1
 simpa using h1.symm
theorem Dh {α : Type} : ∀ {l : List α} {p : Nat} {x : α},l[p]? = some x → l.Perm (x :: l.eraseIdx p)
 | [],_,_,h=>by simp at h
 | y :: l,0,x,h=>by simp at h;subst h;exact .refl _
 | y :: l,p + 1,x,h=>by
  have:=Dh (l:=l) (p:=p) (by simpa using h);exact (this.cons y).trans (.swap ..)
theorem Di {α : Type} : ∀ {l : List α} {p : Nat} {x y : α},l[p]? = some x → (l.set p y).Perm (y :: l.eraseIdx p)
 | [],_,_,_,h=>by simp at h
 | z :: l,0,x,y,h=>.refl _
 | z :: l,p + 1,x,y,h=>by
  have:=Di (l:=l) (p:=p) (y:=y) (x:=x) (by simpa using h);exact (this.cons z).trans (.swap ..)
theorem Ii {D : List (K × V)} (hn : (D.map (·.1)).Nodup) {p q : Nat} {k : K} {v u : V} (hp : D[p]? = some (k,v)) (hq : D[q]? = some (k,u)) : p = q:=by
 have h1 : (D.map (·.1))[p]? = some k:=by simp [hp]
 have h2 : (D.map (·.1))[q]? = some k:=by simp [hq]
 obtain ⟨a1,a2⟩:=List.getElem?_eq_some_iff.1 h1;obtain ⟨b1,b2⟩:=List.getElem?_eq_some_iff.1 h2;exact (List.getElem_inj hn).1 (a2.trans b2.symm)
theorem sD.at (kt : nK P T ek) (w : World) {seen : Array Nat} {dn rs : List (K × V)} {k : K} {v : V} (hD : bP ek ev D es c) (hn : (D.map (·.1)).Nodup) (hT : sD ek ev D es seen dn k v rs) :
 ∃ (p : Nat) (e : MapEntry) (dE rE : List MapEntry),mE D k 0 = some (p,v) ∧ D[p]? = some (k,v) ∧ es.toList[p]? = some e ∧ (dn ++ rs).Perm (D.eraseIdx p) ∧ (dE ++ rE).Perm (es.toList.eraseIdx p) ∧ e.born ∈ seen.toList ∧
  (∀ e ∈ dE,e.born ∈ seen.toList) ∧ (∀ e ∈ rE,e.born ∉ seen.toList) ∧ dE.map Jh = dn.map (fun x=>(ek x.1,ev x.2)) ∧ rE.map Jh = rs.map (fun x=>(ek x.1,ev x.2)):=by
 obtain ⟨⟨hp,dE,rE,h1,h1',h2,h3,h4⟩,_⟩:=hT;have hmem : (k,v) ∈ D:=hp.mem_iff.1 (by simp);have hg:=qH hn hmem;cases hf : mE D k 0 with
 | none=>rw [(mK D k 0 hf).1] at hg;cases hg
 | some q =>
  obtain ⟨j,v'⟩:=q;obtain ⟨p,rfl,hpp,h0,_,_⟩:=jR D k 0 j v' hf;rw [Nat.zero_add] at hf ⊢;obtain rfl : v' = v:=by rw [h0] at hg;exact Option.some.inj hg
  rw [List.map_append,List.map_cons,List.map_nil] at h3;obtain ⟨d1,d2,rfl,e1,e2⟩:=List.map_eq_append_iff.1 h3;obtain ⟨e,d3,rfl,e3,e4⟩:=List.map_eq_cons_iff.1 e2;obtain rfl : d3 = []:=by simpa using e4
  have hm : e ∈ es.toList:=h2.mem_iff.1 (by simp);obtain ⟨q,hq⟩:=List.mem_iff_getElem?.1 hm;have hqD : ∃ u,D[q]? = some (k,u):=by
   have h5:=congrArg (fun L=>L[q]?) hD.cells;simp only[List.getElem?_map,hq,Option.map_some,e3] at h5;cases h6 : D[q]? with
   | none=>rw [h6] at h5;cases h5
   | some x =>
    rw [h6] at h5;simp only[Option.map_some,Option.some.injEq,Prod.mk.injEq] at h5;obtain ⟨a,u⟩:=x;obtain rfl : k = a:=adb w kt h5.1;exact ⟨u,rfl⟩
  obtain ⟨u,hu⟩:=hqD;obtain rfl:=Ii hn hpp hu;refine ⟨p,e,d1,rE,rfl,hpp,hq,?_,?_,h1 e (by simp),fun x hx=>h1 x (List.mem_append_left _ hx),h1',e1,h4⟩
  · have : ((k,v') :: (dn ++ rs)).Perm ((k,v') :: D.eraseIdx p):=by
     refine (?_ : List.Perm _ _).trans (hp.trans (Dh hpp));rw [List.append_assoc];exact List.perm_middle.symm
    exact (List.perm_cons _).1 this
  · have : (e :: (d1 ++ rE)).Perm (e :: es.toList.eraseIdx p):=by
     refine (?_ : List.Perm _ _).trans (h2.trans (Dh hq));rw [List.append_assoc];exact List.perm_middle.symm
    exact (List.perm_cons _).1 this
theorem Ry {T2 : TypeId} {seen : Array Nat} {dn rs : List (K × V)} {k : K} {v : V} (hu : P.underlying M = some (.map T E)) (kt : nK P T ek) (hM : gC w g es c) (hD : bP ek ev D es c) (hn : (D.map (·.1)).Nodup) (hT : sD ek ev D es seen dn k v rs) :
 ∃ es',(Builtin.delete_ #[M,T2] ty #[.map (some g),ek k]).run P w = .ok (.tuple #[]) (setBlock w g (.map es' c)) ∧ bP ek ev (uT D k) es' c ∧ nW ek ev (uT D k) es' seen dn rs:=by
 unfold gC at hM;obtain ⟨p,e,dE,rE,hf,hp,he,hd,hE,_,h1,h1',h3,h4⟩:=hT.at kt w hD hn;obtain ⟨p',e0,_,_,_,hm⟩:=jR D k 0 p v hf;rw [Nat.zero_add] at e0;subst e0;refine ⟨es.eraseIdxIfInBounds p,?_,hm ▸ hD.erase p,hm ▸ hd,dE,rE,h1,h1',?_,h3,h4⟩
 · simp [Builtin.delete_,run_underlying hu,getObj,Sem.run,hM,kt.chk,pN kt k w hD,hf,run_setObj_map _ hM,setBlock]
 · have e2 : (es.eraseIdxIfInBounds p).toList = es.toList.eraseIdx p:=by
    by_cases h : p < es.size
    · simp [Array.eraseIdxIfInBounds,h]
    · simp only[Array.eraseIdxIfInBounds,h,dite_false]
      exact (List.eraseIdx_of_length_le (by simpa using Nat.le_of_not_lt h)).symm
   rw [e2];exact hE
theorem Rz {seen : Array Nat} {dn rs : List (K × V)} {k : K} {v : V} (hu : P.underlying M = some (.map T E)) (kt : nK P T ek) (hM : gC w g es c) (hD : bP ek ev D es c) (hn : (D.map (·.1)).Nodup) (hT : sD ek ev D es seen dn k v rs) (u : V) :
 ∃ es',(Instr.mapUpdate M (.map (some g)) (ek k) (ev u)).run P w = .ok () (setBlock w g (.map es' c)) ∧ bP ek ev (eO D k u) es' c ∧ nW ek ev (eO D k u) es' seen (dn ++ [(k,u)]) rs:=by
 unfold gC at hM;obtain ⟨p,e,dE,rE,hf,hp,he,hd,hE,hb,h1,h1',h3,h4⟩:=hT.at kt w hD hn;obtain ⟨p',e0,_,_,hm,_⟩:=jR D k 0 p v hf;rw [Nat.zero_add] at e0;subst e0;have hk : e.key = ek k:=by
  have h2:=congrArg (fun L=>L[p]?) hD.cells;simp only[List.getElem?_map,hp,he,Option.map_some,Jh,Option.some.injEq,Prod.mk.injEq] at h2;exact h2.1
 have hes : es[p]? = some e:=by rw [← Array.getElem?_toList];exact he
 have hk' : ((es[p]?).map (·.key)).getD (ek k) = ek k:=by rw [hes];exact hk
 refine ⟨es.modify p fun e=>{ e with key:=ek k,val:=ev u },?_,hm u ▸ hD.set hp u,hm u ▸ ?_,dE ++ [{ e with key:=ek k,val:=ev u }],rE,?_,h1',?_,?_,h4⟩
 · simp only[Instr.mapUpdate,Sem.run_bind,run_underlying hu,Result.andThen,getObj,Sem.run,hM,Sem.run_pure,kt.chk,pN kt k w hD,hf,Option.map_some,hk',Instr.keyThatStays,kt.bits,if_true]
   exact run_setObj_map _ hM
 · rw [List.append_assoc]
   refine List.perm_middle.trans (((hd.cons (k,u))).trans (Di hp).symm)
 · intro x hx
   rcases List.mem_append.1 hx with hx | hx
   · exact h1 x hx
   · rw [List.mem_singleton.1 hx];exact hb
 · have e2 : (es.modify p fun e=>{ e with key:=ek k,val:=ev u }).toList = es.toList.set p { e with key:=ek k,val:=ev u }:=by
    rw [Array.toList_modify];apply List.ext_getElem?;intro j;rw [List.getElem?_modify,List.getElem?_set];by_cases h : p = j
    · subst h
      have:=(List.getElem?_eq_some_iff.1 he).1;rw [he];simp [this];simpa using this
    · simp [h]
   rw [e2,List.append_assoc];exact List.perm_middle.trans ((hE.cons _).trans (Di he).symm)
 · simp [h3,Jh]
theorem sD.stay {seen : Array Nat} {dn rs : List (K × V)} {k : K} {v : V} (hT : sD ek ev D es seen dn k v rs) : nW ek ev D es seen (dn ++ [(k,v)]) rs:=hT.1
variable {ds : List Deferred} {l : List Value} {x y z : Operand} {ops : Array Oper} {Q : Exit → Act → World → Prop} {rest : List Oper} {d : Nat} {pos : String} {after : Array Edge}
theorem adc {r : Nat} {seen : Array Nat} {dn rs : List (K × V)} (m : Mem w0 w is) (k : Nat) (hk : is[k]? = some (iI r g c seen)) (hx : Go.Lith.ev l x = .pointer (some ⟨r,0,none⟩)) (hM : gC w g es c) (hD : bP ek ev D es c) (hT : nW ek ev D es seen dn rs)
 (h : ∀ b kv vv seen' u,Mem w0 u (is.set k (iI r g c seen')) → aeT ek ev D es dn rs b seen' → wpList P ops Q rest (Fr (l.set d (xG b kv vv)) ds) u) :
 wpList P ops Q (Oper.mk (some d) (.next x false) ty pos after none :: rest) (Fr l ds) w:=by
 have hI:=m.r k hk;obtain ⟨b,kv,vv,seen',w1,hw1,hr,hN⟩:=aax (P:=P) (ty:=ty) hI hM hD hT;refine jN (w':=setBlock w1 r (.mapIter (some g) c seen' c)) (v:=xG b kv vv) (fun o ho hty=>by simp [execOp,ho,cM,hx,hty,hr]) (h b kv vv seen' _ ?_ hN);have e1 : w1.heap = w.heap ∧ w1.os = w.os ∧ w1.tape = w.tape ∧ w1.output = w.output:=by rcases hw1 with rfl | rfl <;> exact ⟨rfl,rfl,rfl,rfl⟩
 refine m.put k hk e1.2.1 e1.2.2.1 e1.2.2.2 (by simp [setBlock,e1.1]) (fun b' _ hne=>?_) ?_ (.inl fun _ h=>h)
 · have : b' ≠ r:=fun e=>hne (by rw [e];rfl)
   simp only[setBlock,e1.1];exact Array.getElem?_setIfInBounds_ne (Ne.symm this)
 · exact gT (w:=w1) (o:=.mapIter (some g) c seen c) (by rw [e1.1];exact hI)
theorem Sa {r : Nat} {seen : Array Nat} {dn rs : List (K × V)} {k : K} {v : V} (hx : Go.Lith.ev l x = .pointer (some ⟨r,0,none⟩)) (hI : mZ w r g c seen c) (hM : gC w g es c) (hD : bP ek ev D es c) (hT : sD ek ev D es seen dn k v rs) :
 tX P l (.entry x) ty (.tuple #[ek k,ev v]) w:=fun o ho _=>by
 have:=Vo (P:=P) hI hM hD hT;simp [execOp,ho,cM,hx,this]
theorem ade {a : K} {va : V} {T2 : TypeId} {seen : Array Nat} {dn rs : List (K × V)} (m : Mem w0 w is) (k : Nat) (hk : is[k]? = some (mI g es c)) (hu : P.underlying M = some (.map T E)) (kt : nK P T ek) (hx : Go.Lith.ev l x = .map (some g)) (hy : Go.Lith.ev l y = ek a) (hD : bP ek ev D es c)
 (hn : (D.map (·.1)).Nodup) (hT : sD ek ev D es seen dn a va rs) {a0 : Array TypeId} (ha : a0 = #[M,T2])
 (h : ∀ es' u,Mem w0 u (is.set k (mI g es' c)) → bP ek ev (uT D a) es' c → nW ek ev (uT D a) es' seen dn rs → wpList P ops Q rest (Fr l ds) u) : wpList P ops Q (Oper.mk none (.call { callee:=.builtin .delete,args:=#[x,y],argTypes:=a0 }) ty pos after none :: rest) (Fr l ds) w:=by
 subst ha;have hM:=m.p k hk;have hC:=fun es' c'=>lV (w:=w) (g:=g) (.map es' c');refine aeo fun o ho=>?_;obtain ⟨es',hr,hD',hT'⟩:=Ry (T2:=T2) (ty:=o.type) hu kt hM hD hn hT;exact ⟨.tuple #[],setBlock w g (.map es' c),by simp [execOp,ho,resolve,invoke,builtin,cM,hx,hy,hr],h es' _ (m.put k hk (hC es' c).os (hC es' c).tape (hC es' c).output (by rw [(hC es' c).size];exact Nat.le_refl _) (fun b _ hne=>(hC es' c).block b fun e=>hne (by rw [e];rfl)) (gT hM) (.inl fun _ h=>h)) hD' hT'⟩
theorem adf {v va : V} {a : K} {seen : Array Nat} {dn rs : List (K × V)} (m : Mem w0 w is) (k : Nat) (hk : is[k]? = some (mI g es c)) (hu : P.underlying M = some (.map T E)) (kt : nK P T ek) (hx : Go.Lith.ev l x = .map (some g)) (hy : Go.Lith.ev l y = ek a) (hz : Go.Lith.ev l z = ev v) (hD : bP ek ev D es c)
 (hn : (D.map (·.1)).Nodup) (hT : sD ek ev D es seen dn a va rs)
 (h : ∀ es' u,Mem w0 u (is.set k (mI g es' c)) → bP ek ev (eO D a v) es' c → nW ek ev (eO D a v) es' seen (dn ++ [(a,v)]) rs → wpList P ops Q rest (Fr l ds) u) : wpList P ops Q (Oper.mk none (.mapUpdate M x y z) ty pos after none :: rest) (Fr l ds) w:=by
 have hM:=m.p k hk;obtain ⟨es',hr,hD',hT'⟩:=Rz hu kt hM hD hn hT v;have hC:=lV (w:=w) (g:=g) (.map es' c);refine yP (w':=setBlock w g (.map es' c)) (fun o ho=>by simp [execOp,ho,cM,hx,hy,hz,hr]) (h es' _ ?_ hD' hT');exact m.put k hk hC.os hC.tape hC.output (by rw [hC.size];exact Nat.le_refl _) (fun b _ hne=>hC.block b fun e=>hne (by rw [e];rfl)) (gT hM) (.inl fun _ h=>h)
end
end Go.Lith
namespace Go.Proofs.YtfekpcimgncioaaGreatDoor
open Go.Proofs.Tryz
open Go.RowKit Go.Lith
set_option maxRecDepth 100000
attribute [local irreducible] wpList wpQuiet dB bL cE Code.wp
theorem adg : nK prog 56 ed:=by
 refine nK.agg (cs:=fun p=>#[.int .i64 p.1.x,.int .i64 p.1.y,.int .i64 p.1.z,.int .i64 p.2.x,.int .i64 p.2.y,.int .i64 p.2.z]) (fun _=>rfl) tO (fun e p=>?_) (fun p q=>?_) (fun p=>?_)
 · refine rG.array (d:=9999) tO aC fun i hi=>?_
   obtain rfl | rfl:=(by omega : i = 0 ∨ i = 1)
   · refine ⟨_,cR aI aC rfl,?_⟩
     refine rG.struct (d:=9998) dL fun f hf=>?_;simp only[List.mem_cons,List.not_mem_nil,or_false] at hf;rcases hf with rfl | rfl | rfl
     · exact ⟨_,cT aX rfl,rG.int (d:=9997) gB⟩
     · exact ⟨_,cT aX rfl,rG.int (d:=9997) gB⟩
     · exact ⟨_,cT aX rfl,rG.int (d:=9997) gB⟩
   · refine ⟨_,cR aI aC rfl,?_⟩
     refine rG.struct (d:=9998) dL fun f hf=>?_;simp only[List.mem_cons,List.not_mem_nil,or_false] at hf;rcases hf with rfl | rfl | rfl
     · exact ⟨_,cT aX rfl,rG.int (d:=9997) gB⟩
     · exact ⟨_,cT aX rfl,rG.int (d:=9997) gB⟩
     · exact ⟨_,cT aX rfl,rG.int (d:=9997) gB⟩
 · exact (abn _).iff ⟨fun h=>Prod.ext (P3.eq (h.1) (h.2.1) (h.2.2.1)) (P3.eq (h.2.2.2.1) (h.2.2.2.2.1) (h.2.2.2.2.2)),fun h=>by subst h;simp only[and_self]⟩
 · simp [ed,Instr.sameBits]
theorem akf : iL prog 95 (W 0):=by rw [Lx];exact gM
theorem Xp : iL prog 97 (qV q0):=by rw [← zqV];exact vW
def mB (D : List (E3 × Int)) (Q : P3 → List Int) : Prop:=∀ k v,cK D k = some v → v = nS Q k.1 k.2
theorem mB.put {D : List (E3 × Int)} {Q : P3 → List Int} (h : mB D Q) (p q : P3) : mB (eO D (p,q) (nS Q p q)) Q:=fun k v hv=>by
 rw [jD] at hv;split at hv
 · rename_i e;cases e;cases hv;rfl
 · exact h k v hv
structure QOK (Dq : List (P3 × List Int)) (Q : P3 → List Int) (B : Nat) : Prop where
 get : ∀ x,(cK Dq x).getD q0 = Q x
 len : ∀ x,(Q x).length = 10
 bd : ∀ x,yL B (Q x)
theorem ait {w0 w : World} {R0 : It} {g60 g61 q60 q61 c60 c61 B : Nat} {es60 es61 : Array MapEntry} {Dc : List (E3 × Int)} {Dq : List (P3 × List Int)} {Q : P3 → List Int} {p q : P3} [I3 p] [I3 q] (m : Mem w0 w [bI g60 [.map (some q60)] 100,bI g61 [.map (some q61)] 93,mI q60 es60 c60,mI q61 es61 c61,R0]) (hD60 : bP ed W Dc es60 c60) (hD61 : bP pt qV Dq es61 c61) (hC : mB Dc Q) (hnC : (Dc.map (·.1)).Nodup) (hQ : QOK Dq Q B) (hB : B ≤ 800000) : tQ prog 59 [pt p,pt q,.pointer (some ⟨g60,0,none⟩),.pointer (some ⟨g61,0,none⟩)] w fun v w'=>∃ (es : Array MapEntry) (c : Nat) (D : List (E3 × Int)),v = W (nS Q p q) ∧ Mem w0 w' [bI g60 [.map (some q60)] 100,bI g61 [.map (some q61)] 93,mI q60 es c,mI q61 es61 c61,R0] ∧ bP ed W D es c ∧ mB D Q ∧ (D.map (·.1)).Nodup:=by
 refine ⟨ajd,?_⟩;obtain rfl : (fun x=>(cK Dq x).getD q0) = Q:=funext hQ.get;have hlp : ((cK Dq p).getD q0).length = 10:=hQ.len p;have hlq : ((cK Dq q).getD q0).length = 10:=hQ.len q;have hbp : yL B ((cK Dq p).getD q0):=hQ.bd p;have hbq : yL B ((cK Dq q).getD q0):=hQ.bd q
 go_enter func59,ntmps59
 refine aD fun K1 k1=>wp_region_lit (cB m rfl ?_);clear m;intro g71 u m;simp only[zz];refine cB m rfl ?_;clear m;intro g72 u m;simp only[zz];refine bA m gM rfl ?_;clear m;intro g73 u m;refine aF (k1 _ _ ?_);try clear k1 K1
 refine aD fun K2 k2=>wp_region_lit ?_;simp only[zz];refine aJ rfl ((m.b 3 rfl).lies1 Mf rfl) ?_;simp only[zz];refine aJ rfl ((m.b 2 rfl).full aI aC) ?_;simp only[zz];refine aJ rfl ((m.b 1 rfl).full aI aC) ?_;simp only[zz];refine aA (fI rfl rfl) ?_;simp only[zz];refine eY (Kn (ek:=ed) (en:=W) (k:=(p,q)) (v0:=0) underlying100 akf adg rfl rfl (m.p 5 rfl) hD60) ?_;simp only[zz];refine aA (aB) (aA (bC rfl rfl) (aA (bC rfl rfl) ?_));simp only[zz];refine bA m gM rfl ?_;clear m;intro g74 u m;simp only[zz];refine aT m 0 rfl rfl rfl aP (cU rfl) rfl ?_;clear m;intro u m;simp only[zy,zx,bB,zF,zG,Nat.reduceAdd] at m;refine aA (aG) (aF (k2 _ _ ?_));try clear k2 K2
 refine aD fun K3 k3=>aD fun K4 k4=>wp_region_lit (aA (aB) (aA (fR rfl) (aF (k4 _ _ ?_))));try clear k4 K4
 simp only[zz];refine eD rfl (fun hc1=>?_) (fun hc1=>?_)
 · skip
   refine aD fun K5 k5=>?_;refine eA m 9 aM (by kernel_rfl) ?_;simp only[zy];refine ql rfl (fun u m=>((m.b 5 rfl).lies1 Cj rfl)) ?_;simp only[zz];refine ql rfl (fun u m=>((m.b 3 rfl).full aI aC)) ?_;simp only[zz];refine gZ (fun u m=>dV (ek:=pt) (en:=qV) (k:=p) (v0:=q0) Gp Xp fD rfl rfl (m.p 7 rfl) hD61) ?_;simp only[zz];refine ql rfl (fun u m=>((m.b 5 rfl).lies1 Cj rfl)) ?_;simp only[zz];refine ql rfl (fun u m=>((m.b 2 rfl).full aI aC)) ?_;simp only[zz];refine gZ (fun u m=>dV (ek:=pt) (en:=qV) (k:=q) (v0:=q0) Gp Xp fD rfl rfl (m.p 7 rfl) hD61) ?_;simp only[zz];refine gV rfl rfl (Vg hlp hlq hbp hbq (by omega)) ?_;simp only[zz];refine ql rfl (fun u m=>((m.b 2 rfl).full aI aC)) ?_;simp only[zz];refine gV rfl rfl (akd (Fg hbp hbq) (iT hlp hlq) (by omega)) (bZ ?_);clear m;intro u m;simp only[zz];refine aT m 0 rfl rfl rfl aP (cU rfl) rfl ?_;clear m;intro u m;simp only[zy,zx,bB,zF,zG,Nat.reduceAdd] at m;refine aF (k5 _ _ ?_);try clear k5 K5
   refine wp_region_lit (aJ rfl ((m.b 4 rfl).lies1 Mf rfl) ?_);simp only[zz];refine aJ rfl ((m.b 3 rfl).full aI aC) ?_;simp only[zz];refine aJ rfl ((m.b 2 rfl).full aI aC) ?_;simp only[zz];refine aA (fI rfl rfl) ?_;simp only[zz];refine aJ rfl ((m.b 0 rfl).full bN aP) ?_;simp only[zz];refine kD (ek:=ed) (en:=W) (a:=(p,q)) (v:=(nS (fun x=>(cK Dq x).getD q0) p q)) m 6 rfl underlying100 adg rfl rfl rfl hD60 ?_;clear m;intro es60 c60 u m hD';clear hD60;have hD60:=hD';clear hD';simp only[zF,zG] at m;refine aF (k3 _ _ ?_);try clear k3 K3
   refine aD fun K6 k6=>wp_region_lit (aJ rfl ((m.b 0 rfl).full bN aP) ?_);simp only[zz];refine aT m 1 rfl rfl rfl aP (cU rfl) rfl ?_;clear m;intro u m;simp only[zy,zx,bB,zF,zG,Nat.reduceAdd] at m;refine aF (k6 _ _ ?_);try clear k6 K6
   refine wp_ret ?_;try simp only[Exit.inBlock,Exit.then,if_true]
   refine bE rfl ⟨_,rfl,((m.b 1 rfl).full bN aP)⟩ ?_;try simp only[zD,zE]
   exact ⟨_,rfl,_,_,_,rfl,m.sel [false,false,false,false,true,true,true,true,true],hD60,hC.put p q,pM hnC _ _⟩
 · skip
   obtain ⟨y,hy⟩ : ∃ y,cK Dc (p,q) = some y:=Option.isSome_iff_exists.1 (by simpa using hc1);obtain rfl:=hC _ _ hy;simp only[hy,Option.getD_some] at m;refine wp_skip (k3 _ _ ?_);try clear k3 K3
   refine aD fun K7 k7=>wp_region_lit (aJ rfl ((m.b 0 rfl).full bN aP) ?_);simp only[zz];refine aT m 1 rfl rfl rfl aP (cU rfl) rfl ?_;clear m;intro u m;simp only[zy,zx,bB,zF,zG,Nat.reduceAdd] at m;refine aF (k7 _ _ ?_);try clear k7 K7
   refine wp_ret ?_;try simp only[Exit.inBlock,Exit.then,if_true]
   refine bE rfl ⟨_,rfl,((m.b 1 rfl).full bN aP)⟩ ?_;try simp only[zD,zE]
   exact ⟨_,rfl,_,_,_,rfl,m.sel [false,false,false,false,true,true,true,true,true],hD60,hC,hnC⟩
theorem adh {K V : Type} [DecidableEq K] {ek : K → Value} {ev : V → Value} {D dn rs : List (K × V)} {es : Array MapEntry} {b : Bool} {sn : Array Nat} (hb : b = false) (h : aeT ek ev D es dn rs b sn) : rs = []:=by
 rcases h with ⟨_,h⟩ | ⟨h,_⟩
 · exact h
 · rw [h] at hb;cases hb
theorem adi {K V : Type} [DecidableEq K] {ek : K → Value} {ev : V → Value} {D dn rs : List (K × V)} {es : Array MapEntry} {b : Bool} {sn : Array Nat} (hb : b = true) (h : aeT ek ev D es dn rs b sn) : ∃ k v rs',rs.Perm ((k,v) :: rs') ∧ sD ek ev D es sn dn k v rs':=by
 rcases h with ⟨h,_⟩ | ⟨_,h⟩
 · rw [h] at hb;cases hb
 · exact h
theorem aeV (a b : P3) : decide (a.x = b.x ∧ a.y = b.y ∧ a.z = b.z) = decide (a = b):=decide_eq_decide.2 ⟨fun h=>P3.eq h.1 h.2.1 h.2.2,fun h=>by rw [h];exact ⟨rfl,rfl,rfl⟩⟩
def adj (v : P3) (k : E3) : Bool:=decide (k.1 = v) || decide (k.2 = v)
theorem adk {k : E3} {x : Int} {cc : iV} {g16 : Nat} (w : World) (hB16 : fF w g16 (oL cc) 112) : eG prog 67 [ed k,W x,.pointer (some ⟨g16,0,none⟩)] w (fun v _=>v = .bool (adj cc.v k)):=by
 refine ⟨ajl,?_⟩;have m:=Mem.refl w
 go_enter func67,ntmps67
 refine aD fun K1 k1=>wp_region_lit (cB m rfl ?_);clear m;intro g1 u m;simp only[zz];refine cB m rfl ?_;clear m;intro g2 u m;refine aA (aG) (aF (k1 _ _ ?_));try clear k1 K1
 refine aD fun K2 k2=>wp_region_lit (aA (aH tO aC rfl rfl (by decide) (by decide) rfl) ?_);simp only[zz];refine aJ rfl ((m.b 1 rfl).lies aI aC rfl rfl) ?_;simp only[zz,zy,Nat.zero_add,Nat.reduceAdd,Nat.reduceMul,Int.reduceToNat];refine aA (aL (c:=2) iJ rfl aC rfl rfl) ?_;simp only[zz];refine aJ rfl ((hB16.ext m.ext).lies aI aC rfl rfl) ?_;simp only[zz,zy,Nat.zero_add,Nat.reduceAdd,Nat.reduceMul,Int.reduceToNat];refine aA (cV rfl rfl) (aA (aB) (fU rfl (fun hb=>aH tO aC rfl rfl (by decide) (by decide) rfl) ?_));simp only[zz];refine eW rfl (fun hb=>bJ (bW hb rfl) ((m.b 1 rfl).lies aI aC rfl rfl)) ?_;simp only[zz,zy,Nat.zero_add,Nat.reduceAdd,Nat.reduceMul,Int.reduceToNat];refine fU rfl (fun hb=>aL (c:=2) iJ rfl aC rfl rfl) ?_;simp only[zz];refine eW rfl (fun hb=>bJ (bW hb rfl) ((hB16.ext m.ext).lies aI aC rfl rfl)) ?_;simp only[zz,zy,Nat.zero_add,Nat.reduceAdd,Nat.reduceMul,Int.reduceToNat];refine fU rfl (fun hb=>cV (bW hb rfl) (bW hb rfl)) (aA (fH rfl rfl rfl) (aA (aG) (aF (k2 _ _ ?_))));try clear k2 K2
 refine wp_ret ?_;simp only[zz];try simp only[Exit.inBlock,Exit.then,if_true]
 refine bE rfl rfl ?_;try simp only[zD,zE]
 exact ⟨_,rfl,m.ext,by rw [aeV,aeV];rfl⟩
theorem adl {w0 w : World} {R0 : It} {g16 q60 c60 : Nat} {es60 : Array MapEntry} {D0 : List (E3 × Int)} {cc : iV} (m : Mem w0 w [mI q60 es60 c60,bI g16 (oL cc) 112,R0]) (hD60 : bP ed W D0 es60 c60) (hn0 : (D0.map (·.1)).Nodup) : tQ prog 66 [.map (some q60),.func (.func 67) #[] #[.pointer (some ⟨g16,0,none⟩)]] w fun v w'=>∃ (es : Array MapEntry) (D : List (E3 × Int)),v = .tuple #[] ∧ Mem w0 w' [mI q60 es c60,bI g16 (oL cc) 112,R0] ∧ bP ed W D es c60 ∧ (D.map (·.1)).Nodup ∧ ∀ k v,cK D k = some v → cK D0 k = some v ∧ adj cc.v k = false:=by
 refine ⟨ajk,?_⟩
 go_enter func66,ntmps66
 refine aD fun K1 k1=>wp_region_lit (aA (aB) ?_);simp only[zz];refine qY m underlying100 rfl (m.p 0 rfl) ?_;clear m;intro r1 u m;refine aF (k1 _ _ ?_);try clear k1 K1
 refine wp_block ?_;simp only[zz];try simp only[Nat.zero_add,Nat.reduceAdd,Nat.reduceMul,Int.reduceToNat]
 refine bT [] [4,5,8,9,10,11,12,13,14,15,16,17,18] (fun n vs wl=>∃ (D dn rs : List (E3 × Int)) (sn : Array Nat) (es : Array MapEntry),vs = [] ∧ Mem w0 wl [iI r1 q60 c60 sn,mI q60 es c60,bI g16 (oL cc) 112,R0] ∧ (bP ed W D es c60) ∧ ((D.map (·.1)).Nodup) ∧ (nW ed W D es sn dn rs) ∧ (∀ x ∈ dn,adj cc.v x.1 = false) ∧ (∀ k v,cK D k = some v → cK D0 k = some v) ∧ (n = rs.length)) ?_ ?_
 · skip
   apply Exists.intro;simp only[zQ,zR,zD,zE];exact ⟨D0,[],D0,#[],es60,trivial,m,hD60,hn0,nW.start hD60,(fun x h=>(by cases h)),(fun _ _ h=>h),rfl⟩
 · intro n vs wr hI u
   clear m;obtain ⟨D,dn,rs,sn,es60,rfl,m,hD60,hnD,hT,hb0,hs0,hn⟩:=hI;simp only[zu,zF,zG];refine aD fun K2 k2=>wp_region_lit (adc m 0 rfl rfl (m.p 1 rfl) hD60 hT ?_);clear m;intro bb kk vv sn u m hN;simp only[zF,zG] at m;refine aA (lW rfl) (aF (k2 _ _ ?_));try clear k2 K2
   refine aD fun K3 k3=>?_;simp only[zz];refine eD rfl (fun hc1=>?_) (fun hc1=>?_)
   · skip
     obtain ⟨kp,kb,rs2,hp,hT2⟩:=adi hc1 hN;refine wp_skip (k3 _ _ ?_);try clear k3 K3
     refine wp_block (aD fun K4 k4=>wp_region_lit (eY (Sa rfl (m.r 0 rfl) (m.p 1 rfl) hD60 hT2) ?_));simp only[zz];refine aA (bC rfl rfl) (aA (bC rfl rfl) ?_);simp only[zz];refine bA m vV rfl ?_;clear m;intro g72 u m;simp only[zz];refine bA m gM rfl ?_;clear m;intro g73 u m;simp only[zz];refine aT m 1 rfl rfl rfl iD (cU rfl) rfl ?_;clear m;intro u m;simp only[zy,zx,bB,zF,zG,Nat.reduceAdd] at m;refine aT m 0 rfl rfl rfl aP (cU rfl) rfl ?_;clear m;intro u m;simp only[zy,zx,bB,zF,zG,Nat.reduceAdd] at m;refine aF (k4 _ _ ?_);try clear k4 K4
     refine aD fun K5 k5=>wp_region_lit (aA (aB) ?_);simp only[zz];refine aJ rfl ((m.b 1 rfl).full Ci iD) ?_;simp only[zz];refine aJ rfl ((m.b 0 rfl).full bN aP) ?_;simp only[zz];refine eE m rfl rfl (adk (k:=kp) (x:=kb) _ (m.b 4 rfl)) ?_;clear m;rintro v u m rfl;refine aF (k5 _ _ ?_);try clear k5 K5
     simp only[zz];refine eD rfl (fun hc2=>?_) (fun hc2=>?_)
     · skip
       refine wp_region_lit (aA (aB) ?_);simp only[zz];refine aJ rfl ((m.b 1 rfl).full Ci iD) ?_;simp only[zz];refine ade (ek:=ed) (ev:=W) (a:=kp) m 3 rfl underlying100 adg rfl rfl hD60 hnD hT2 rfl ?_;clear m;intro es60 u m hD' hT';clear hD60;have hD60:=hD';clear hD';simp only[zF,zG] at m;refine aF ?_;simp only[Exit.inBlock,Exit.then];refine ⟨rs2.length,_,?_,rfl,?_,?_⟩
       · rw [hn,hp.length_eq];exact Nat.lt_succ_self _
       · simp only[zz,zv]
       · simp only[zQ,zR,zD,zE]
         exact ⟨uT D kp,dn,rs2,_,_,trivial,(m.sel [false,false,true,true,true,true]),hD60,Tr hnD kp,hT',hb0,(fun k v h=>hs0 k v (by rw [Kl _ _ hnD] at h;split at h;cases h;exact h)),rfl⟩
     · skip
       refine wp_skip ?_;simp only[Exit.inBlock,Exit.then];refine ⟨rs2.length,_,?_,rfl,?_,?_⟩
       · rw [hn,hp.length_eq];exact Nat.lt_succ_self _
       · simp only[zz,zv]
       · simp only[zQ,zR,zD,zE]
         exact ⟨D,dn ++ [(kp,kb)],rs2,_,_,trivial,(m.sel [false,false,true,true,true,true]),hD60,hnD,hT2.stay,(fun x hx=>(List.mem_append.1 hx).elim (hb0 x) fun h=>(by rw [List.mem_singleton.1 h];exact hc2)),hs0,rfl⟩
   · skip
     obtain rfl:=adh hc1 hN;refine wp_exit ?_;try simp only[Exit.inBlock,Exit.then,if_true]
     exact Jw rfl (⟨_,rfl,_,D,rfl,m.sel [false,true,true,true],hD60,hnD,fun k v h=>⟨hs0 k v h,hb0 (k,v) (hT.done.mem_iff.2 (uU h))⟩⟩)
end Go.Proofs.YtfekpcimgncioaaGreatDoor
namespace Go.Proofs.YtfekpcimgncioaaGreatDoor
open Go.Proofs.Tryz
open Go.RowKit Go.Lith
set_option maxRecDepth 100000
attribute [local irreducible] wpList wpQuiet dB bL cE Code.wp
theorem aeW {B : Nat} {Q : P3 → List Int} (hl : ∀ x,(Q x).length = 10) (hb : ∀ x,yL B (Q x)) (hB : B ≤ 800000) (u : P3) {v : P3} (hv : I3 v) : Bd 900000 (nS Q u v):=by
 unfold nS;rw [← ac1 (iT (hl u) (hl v))];exact (Vf (Fg (hb u) (hb v)) (iT (hl u) (hl v)) (bd4 hv) rfl 10 (Nat.le_refl _)).mono (by omega)
theorem QOK.upd {Dq : List (P3 × List Int)} {Q : P3 → List Int} {B : Nat} (h : QOK Dq Q B) (u v : P3) : QOK (eO Dq v (wN (Q u) (Q v))) (Mz Q u v) (B + 1) where
 get x:=by
  rw [jD];unfold Mz;by_cases e : v = x
  · rw [if_pos e,if_pos e.symm];rfl
  · rw [if_neg e,if_neg fun k=>e k.symm];exact h.get x
 len x:=by
  unfold Mz;split
  · exact iT (h.len u) (h.len v)
  · exact h.len x
 bd x:=by
  unfold Mz;split
  · exact Fg (h.bd u) (h.bd v)
  · exact (h.bd x).mono (Nat.le_succ B)
theorem QOK.mono {Dq : List (P3 × List Int)} {Q : P3 → List Int} {B C : Nat} (h : QOK Dq Q B) (hB : B ≤ C) : QOK Dq Q C:=⟨h.get,h.len,fun x=>(h.bd x).mono hB⟩
theorem mB.upd {D D1 : List (E3 × Int)} {Q : P3 → List Int} {u v : P3} (h : mB D Q) (h1 : ∀ k x,cK D1 k = some x → cK D k = some x ∧ adj v k = false) : mB D1 (Mz Q u v):=fun k x hx=>by
 obtain ⟨h2,h3⟩:=h1 k x hx;rw [h k x h2];simp only[adj,Bool.or_eq_false_iff,decide_eq_false_iff_not] at h3;unfold nS Mz;rw [if_neg h3.1,if_neg h3.2]
theorem mB.nil (Q : P3 → List Int) : mB [] Q:=fun _ _ h=>by cases h
/-! ### The quadrics of the corners -/
def Bt (l : List T3) (S : List P3) (Dq : List (P3 × List Int)) : Prop:=∀ x,(cK Dq x).getD q0 = if x ∈ S then rA l x else q0
theorem Bt.nil (l : List T3) : Bt l [] []:=fun _=>rfl
theorem Bt.put {l : List T3} {ps : List P3} {k : Nat} {p : P3} {Dq : List (P3 × List Int)} (h : Bt l (ps.take k) Dq) (hp : ps[k]? = some p) : Bt l (ps.take (k + 1)) (eO Dq p (rA l p)):=fun x=>by
 rw [jD,cQ hp];by_cases e : p = x
 · subst e
   rw [if_pos rfl,if_pos (List.mem_append_right _ (List.mem_singleton.2 rfl))];rfl
 · rw [if_neg e,h x]
   have : x ∈ ps.take k ++ [p] ↔ x ∈ ps.take k:=by
    rw [List.mem_append,List.mem_singleton];exact ⟨fun h=>h.resolve_right fun k=>e k.symm,.inl⟩
   simp only[this]
theorem adm {l : List T3} {p : P3} (h : p ∉ dF l) : rA l p = q0:=by
 unfold rA;rw [List.filter_eq_nil_iff.2 fun t ht hp=>h (rW ht hp)];rfl
theorem Bt.ok {l : List T3} {ps : List P3} {Dq : List (P3 × List Int)} (h : Bt l ps Dq) (hps : ∀ a,a ∈ ps ↔ a ∈ dF l) (hI : ∀ t ∈ l,IT t) : QOK Dq (rA l) (602 + l.length) where
 get x:=by
  rw [h x];split
  · rfl
  · rename_i e;rw [adm fun k=>e ((hps x).2 k)]
 len x:=by have:=tH (ts:=l) (p:=x) l.length (Nat.le_refl _);rwa [List.take_length] at this
 bd x:=by have:=Nz (p:=x) hI l.length (Nat.le_refl _);rwa [List.take_length] at this
theorem Fi {l : List T3} (hI : ∀ t ∈ l,IT t) {p : P3} (h : p ∈ dF l) : I3 p:=by
 obtain ⟨t,ht,hp⟩:=List.mem_flatMap.1 (show p ∈ l.flatMap fun t=>[t.a,t.b,t.c] from h);have:=hI t ht;simp only[List.mem_cons,List.not_mem_nil,or_false] at hp;rcases hp with rfl | rfl | rfl
 · exact this.a
 · exact this.b
 · exact this.c
theorem Vp {l : List T3} {p q : P3} (h : Mw l p q = true) : p ∈ dF l ∧ q ∈ dF l:=by
 simp only[Mw,Bool.and_eq_true,aby,List.any_eq_true] at h;obtain ⟨_,t,ht,h⟩:=h;exact ⟨rW ht h.1,rW ht h.2⟩
/-! ### Candidates -/
def wR (l : List T3) (Q : P3 → List Int) (S : List P3) (cs : List iV) : Prop:=∀ d,d ∈ cs ↔ d.u ∈ S ∧ Sj (cS l) d.u = false ∧ Mw l d.u d.v = true ∧ d.c = nS Q d.u d.v
def Vq (l : List T3) (Q : P3 → List Int) (S : List P3) (p : P3) (S2 : List P3) (cs : List iV) : Prop:=∀ d,d ∈ cs ↔ (d.u ∈ S ∧ Sj (cS l) d.u = false ∧ Mw l d.u d.v = true ∧ d.c = nS Q d.u d.v) ∨ (d.u = p ∧ d.v ∈ S2 ∧ d.c = nS Q d.u d.v)
theorem wR.nil (l : List T3) (Q : P3 → List Int) : wR l Q [] []:=fun d=>by simp
theorem wR.skip {l : List T3} {Q : P3 → List Int} {S : List P3} {cs : List iV} {p : P3} (h : wR l Q S cs) (hb : Sj (cS l) p = true) : wR l Q (S ++ [p]) cs:=fun d=>by
 rw [h d];constructor
 · rintro ⟨h1,h2⟩;exact ⟨List.mem_append_left _ h1,h2⟩
 · rintro ⟨h1,h2,h3⟩
   rcases List.mem_append.1 h1 with h1 | h1
   · exact ⟨h1,h2,h3⟩
   · rw [List.mem_singleton.1 h1,hb] at h2;cases h2
theorem wR.start {l : List T3} {Q : P3 → List Int} {S : List P3} {cs : List iV} (h : wR l Q S cs) (p : P3) : Vq l Q S p [] cs:=fun d=>by rw [h d];simp
theorem Vq.put {l : List T3} {Q : P3 → List Int} {S S2 : List P3} {cs : List iV} {p q : P3} (h : Vq l Q S p S2 cs) : Vq l Q S p (S2 ++ [q]) (cs ++ [⟨p,q,nS Q p q⟩]):=fun d=>by
 rw [List.mem_append,h d,List.mem_append,List.mem_singleton,List.mem_singleton];constructor
 · rintro ((h1 | ⟨h1,h2,h3⟩) | rfl)
   · exact .inl h1
   · exact .inr ⟨h1,.inl h2,h3⟩
   · exact .inr ⟨rfl,.inr rfl,rfl⟩
 · rintro (h1 | ⟨h1,h2 | h2,h3⟩)
   · exact .inl (.inl h1)
   · exact .inl (.inr ⟨h1,h2,h3⟩)
   · refine .inr ?_
     obtain ⟨du,dv,dc⟩:=d;simp only at h1 h2 h3;subst h1;subst h2;subst h3;rfl
theorem Vq.done {l : List T3} {Q : P3 → List Int} {S S2 : List P3} {cs : List iV} {p : P3} (h : Vq l Q S p S2 cs) (hb : Sj (cS l) p = false) (hS : ∀ x,x ∈ S2 ↔ Mw l p x = true) : wR l Q (S ++ [p]) cs:=fun d=>by
 rw [h d,List.mem_append,List.mem_singleton];constructor
 · rintro (⟨h1,h2⟩ | ⟨h1,h2,h3⟩)
   · exact ⟨.inl h1,h2⟩
   · rw [hS] at h2;subst h1;exact ⟨.inr rfl,hb,h2,h3⟩
 · rintro ⟨h1 | h1,h2,h3,h4⟩
   · exact .inl ⟨h1,h2,h3,h4⟩
   · refine .inr ⟨h1,?_,h4⟩;rw [hS,← h1];exact h3
theorem wR.all {l : List T3} {Q : P3 → List Int} {S : List P3} {cs : List iV} (h : wR l Q S cs) (hS : ∀ x,x ∈ S ↔ x ∈ dF l) (d : iV) : d ∈ cs ↔ d ∈ Ug l Q:=by
 rw [h d,ad9,hS];exact ⟨fun h=>h.2,fun h=>⟨(Vp h.2.1).1,h⟩⟩
/-! ### The moves -/
def vO (S : List P3) (u v : P3) (D : List Mv) : List Mv:=D.map fun e=>(e.1,if e.1 ∈ S then xX u v e.2 else e.2)
theorem Sb (u v : P3) (D : List Mv) : vO [] u v D = D:=by simp [vO]
theorem wJ (S : List P3) (u v : P3) (D : List Mv) : (vO S u v D).map (·.1) = D.map (·.1):=by simp [vO,Function.comp_def]
theorem adn {S : List P3} {u v : P3} {D : List Mv} (h : ∀ e ∈ D,e.1 ∈ S) : eO (vO S u v D) u v = toF D u v:=by
 unfold vO toF;rw [List.map_congr_left fun e he=>by rw [if_pos (h e he)]]
theorem Sc {K V : Type} [DecidableEq K] : ∀ {D : List (K × V)} {k : K} {x : V},(D.map (·.1)).Nodup → k ∈ D.map (·.1) → eO D k x = D.map fun e=>(e.1,if e.1 = k then x else e.2)
 | [],_,_,_,h=>by cases h
 | e :: D,k,x,hn,h=>by
  rw [List.map_cons,List.nodup_cons] at hn;by_cases hk : e.1 = k
  · subst hk
    have : ∀ f ∈ D,((f.1,if f.1 = e.1 then x else f.2) : K × V) = f:=fun f hf=>by
     rw [if_neg fun k : f.1 = e.1=>hn.1 (by rw [← k];exact List.mem_map_of_mem (f:=fun x : K × V=>x.1) hf)]
    simp only[eO,List.map_cons,if_pos];rw [List.map_congr_left this,List.map_id']
  · have h2 : k ∈ D.map (·.1):=by
     rcases List.mem_cons.1 h with h | h
     · exact absurd h.symm hk
     · exact h
    simp only[eO,List.map_cons,if_neg hk];rw [Sc hn.2 h2]
theorem ado {S : List P3} {u v k x : P3} {D : List Mv} (hn : (D.map (·.1)).Nodup) (hk : (k,x) ∈ vO S u v D) (hS : k ∉ S) (hx : x = u) : eO (vO S u v D) k v = vO (S ++ [k]) u v D:=by
 have hk1 : k ∈ (vO S u v D).map (·.1):=List.mem_map_of_mem (f:=(·.1)) hk;rw [Sc (by rw [wJ];exact hn) hk1];unfold vO at hk ⊢;obtain ⟨e,he,h⟩:=List.mem_map.1 hk;cases h;rw [if_neg hS] at hx;rw [List.map_map];refine List.map_congr_left fun f hf=>?_;simp only[Function.comp_apply];by_cases hfe : f.1 = e.1
 · have : f = e:=by
    obtain ⟨i,hi⟩:=List.mem_iff_getElem?.1 hf;obtain ⟨j,hj⟩:=List.mem_iff_getElem?.1 he;have h1 : i = j:=Ii hn (k:=e.1) (v:=f.2) (u:=e.2) (by rw [hi,← hfe]) hj;rw [h1,hj] at hi;exact (Option.some.inj hi).symm
   subst this;rw [if_pos rfl,if_pos (List.mem_append_right S (List.mem_singleton.2 rfl))];unfold xX;rw [if_pos hx]
 · rw [if_neg hfe]
   have : f.1 ∈ S ++ [e.1] ↔ f.1 ∈ S:=by simp [hfe]
   simp only[this]
theorem aay {S : List P3} {u v k x : P3} {D : List Mv} (hn : (D.map (·.1)).Nodup) (hk : (k,x) ∈ vO S u v D) (hS : k ∉ S) (hx : x ≠ u) : vO S u v D = vO (S ++ [k]) u v D:=by
 unfold vO at hk ⊢;obtain ⟨e,he,h⟩:=List.mem_map.1 hk;cases h;rw [if_neg hS] at hx;refine List.map_congr_left fun f hf=>?_;by_cases hfe : f.1 = e.1
 · have : f = e:=by
    obtain ⟨i,hi⟩:=List.mem_iff_getElem?.1 hf;obtain ⟨j,hj⟩:=List.mem_iff_getElem?.1 he;have h1 : i = j:=Ii hn (k:=e.1) (v:=f.2) (u:=e.2) (by rw [hi,← hfe]) hj;rw [h1,hj] at hi;exact (Option.some.inj hi).symm
   subst this;rw [if_neg hS,if_pos (List.mem_append_right S (List.mem_singleton.2 rfl))];unfold xX;rw [if_neg hx]
 · have : f.1 ∈ S ++ [e.1] ↔ f.1 ∈ S:=by simp [hfe]
   simp only[this]
theorem adp {V : Type} {ek : P3 → Value} {ev : V → Value} {D dn rs : List (P3 × V)} {es : Array MapEntry} {sn : Array Nat} {k : P3} {x : V} (hn : (D.map (·.1)).Nodup) (h : sD ek ev D es sn dn k x rs) : k ∉ dn.map (·.1) ∧ (k,x) ∈ D:=by
 have hp:=h.1.1;refine ⟨fun hk=>?_,hp.mem_iff.1 (by simp)⟩;have h1:=(hp.map (·.1)).nodup_iff.2 hn;simp only[List.map_append,List.map_cons,List.map_nil,List.append_assoc] at h1;exact (List.nodup_append.1 h1).2.2 k hk k (by simp) rfl
theorem aiu {D : List Mv} (hn : (D.map (·.1)).Nodup) (u v : P3) : ((toF D u v).map (·.1)).Nodup:=by
 unfold toF;exact pM (by rw [List.map_map];exact hn) u v
theorem aaz {l : List T3} {want : Int} {Q : P3 → List Int} {D : List Mv} {c : iV} (hw : 0 ≤ want) (h : ¬ (l.length : Int) ≤ want) (hb : xJ l Q = some c) :
 mF l.length want l Q D = mF (wM l c.u c.v).length want (wM l c.u c.v) (Mz Q c.u c.v) (toF D c.u c.v):=by
 have h1:=rY hb;obtain ⟨n,hn⟩ : ∃ n,l.length = n + 1:=⟨l.length - 1,by omega⟩
 rw [hn]
 conv=>lhs;unfold mF
 rw [if_neg h,hb];exact Kx n _ want _ _ _ (by omega) (Nat.le_refl _) hw
theorem Sd {l : List T3} {want : Int} {Q : P3 → List Int} {D : List Mv} (h : (l.length : Int) ≤ want ∨ xJ l Q = none) : mF l.length want l Q D = (l,D):=by
 rcases h with h | h
 · exact Qn h
 · cases hl : l.length with
   | zero=>rfl
   | succ n =>
    unfold mF;split
    · rfl
    · rw [h]
theorem aiv {w0 w : World} {K R0 : It} {g50 g90 ga gf N cap ca cf : Nat} {A : Option Addr} {ea ef : Array MapEntry} {D : List (P3 × Hd)} {F : List (P3 × Bool)} {ts : List T3} {cs : List iV} {n1 c1 : Nat} {A1 : Option Addr} {Q : P3 → List Int} {B : Nat} (m : Mem w0 w [oI 112 8 A1 n1 c1 (cs.flatMap oL),bI g50 [.pointer (some ⟨g90,0,none⟩)] 88,K,oI 39 9 A N cap (ts.flatMap aW),R0]) (hK : ∀ u,K.P u → Bo 109 u g90 ga gf A N cap ea ef ca cf D ts) (hD : Ia ea ef ca cf D F ts) (hnd : ∀ t ∈ ts,t.nd = true) (hIT : ∀ t ∈ ts,IT t) (hN : ts.length ≤ 1000000) (hl : ∀ x,(Q x).length = 10) (hb : ∀ x,yL B (Q x)) (hB : B ≤ 800000) (hC : wR ts Q (D.map (·.1)) cs) (hn1 : n1 ≤ 100000000) :
 tQ prog 63 [.slice A1 n1 c1,.func (.func 64) #[] #[],.func (.func 65) #[] #[.pointer (some ⟨g50,0,none⟩)]] w fun v w'=>∃ (c : iV) (b : Bool),v = .tuple #[Vn c,.bool b] ∧ Mem w0 w' [bI g50 [.pointer (some ⟨g90,0,none⟩)] 88,K,oI 39 9 A N cap (ts.flatMap aW),R0] ∧ ((b = false ∧ xJ ts Q = none) ∨ (b = true ∧ xJ ts Q = some c ∧ I3 c.u ∧ I3 c.v)):=by
 have hall:=hC.all (fun x=>hD.k x);have hI : ∀ c ∈ cs,I3 c.u ∧ I3 c.v:=fun c hc=>by
  have:=Vp ((hC c).1 hc).2.2.1;exact ⟨Fi hIT this.1,Fi hIT this.2⟩
 refine (ais m hK hD hnd hIT hN hI (fun c hc=>by rw [((hC c).1 hc).2.2.2];exact aeW hl hb hB c.u (hI c hc).2) hn1).mono ?_;rintro v w' ⟨h1,⟨rfl,h2⟩ | ⟨c,ys,j,rfl,hys,hso,hc,ha,hq⟩⟩
 · exact ⟨⟨⟨0,0,0⟩,⟨0,0,0⟩,0⟩,false,by simp only[Vn,oL,Cb];rfl,h1,.inl ⟨rfl,Uj hall h2⟩⟩
 · refine ⟨c,true,rfl,h1,.inr ⟨rfl,Ui (fun d=>by rw [hys.mem_iff];exact hall d) hso hc ha hq,hI c (hys.mem_iff.1 (List.mem_of_getElem? hc))⟩⟩
end Go.Proofs.YtfekpcimgncioaaGreatDoor
namespace Go.Proofs.YtfekpcimgncioaaGreatDoor
open Go.Proofs.Tryz
open Go.RowKit Go.Lith
set_option maxRecDepth 100000
attribute [local irreducible] wpList wpQuiet dB bL cE Code.wp
theorem Vr {ts : List T3} {N cap : Nat} {A : Option Addr} (w : World) (hT : bY w A N ts) (hN : N ≤ 300000) : eG prog 57 [.slice A N cap] w (OR 30 3 (fun xs=>∃ ps : List P3,xs = ps.flatMap eX ∧ pO ps ∧ ∀ a,a ∈ ps ↔ a ∈ dF ts) w):=by
 refine ⟨ajb,?_⟩;have m:=Mem.refl w
 go_enter func57,ntmps57
 refine aD fun K1 k1=>wp_region_lit (aA (aG) (aF (k1 _ _ ?_)));refine aD fun K2 k2=>wp_region_lit ?_;simp only[zz];refine jA m ?_;clear m;intro q8 u m;have hD8:=bP.nil (K:=P3) (V:=Bool) pt Value.bool;refine aA (aG) (aF (k2 _ _ ?_));refine aD fun K3 k3=>aD fun K4 k4=>wp_region_lit (aA (aB) (aA (bH rfl bQ rfl) ?_));simp only[zz];refine aA (aB) (aF (k4 _ _ ?_));refine wp_block ?_;simp only[zz];try simp only[Nat.zero_add,Nat.reduceAdd,Nat.reduceMul,Int.reduceToNat]
 refine bT [11] [5,7,12,13,14,15,16,17,18,19,20,21,22,23] (fun n vs wl=>∃ (k : Nat) (es : Array MapEntry) (c : Nat),vs = [.int .i64 (k:Int)] ∧ Mem w wl [mI q8 es c] ∧ (bP pt Value.bool (uW [] (dF (ts.take k))) es c) ∧ (k ≤ N) ∧ (n = N - k)) ?_ ?_
 ·
  apply Exists.intro;simp only[zQ,zR,zD,zE];exact ⟨0,_,_,rfl,m,hD8,Nat.zero_le _,rfl⟩
 ·
  intro n vs wr hI u;clear m;obtain ⟨k,es,c,rfl,m,hD8,hk,hn⟩:=hI;simp only[zu,zF,zG];refine aD fun K5 k5=>wp_region_lit (aA (cW rfl rfl) (aF (k5 _ _ ?_)));refine aD fun K6 k6=>?_;simp only[zz];refine cG rfl (fun hc1=>?_) (fun hc1=>?_)
  ·
   obtain ⟨t,ht,_,a,rfl,hrow⟩:=hT.get (i:=k) (by omega);refine wp_skip (k6 _ _ ?_);refine aD fun K7 k7=>wp_block (aD fun K8 k8=>wp_region_lit (aA (aN bQ aR rfl rfl (by omega) (by omega) (dC (Int.toNat_natCast _))) ?_));simp only[zz];refine aJ rfl (((hrow.ext m.ext)).lies bR aR) ?_;simp only[zz];refine bA m fP rfl ?_;clear m;intro g2 u m;simp only[zz];refine aT m 0 rfl rfl rfl aR (cU rfl) rfl ?_;clear m;intro u m;simp only[zy,zx,bB,zF,zG,Nat.reduceAdd] at m;refine aF (k8 _ _ ?_);refine aD fun K9 k9=>wp_region_lit (aJ rfl ((m.b 0 rfl).full bR aR) ?_);simp only[zz];refine aA (aB) (aF (k9 _ _ ?_));refine wp_block (wp_loop_rounds 4 (bU (aD fun K10 k10=>wp_region_lit (aA (bF (m:=0) (n:=3) rfl rfl (by decide)) (aF (k10 _ _ ?_))))));refine aD fun K11 k11=>bK rfl (wp_skip (k11 _ _ ?_));refine aD fun K12 k12=>wp_block (aD fun K13 k13=>wp_region_lit (aA (oE rfl rfl) ?_));simp only[zz];refine bA m bO rfl ?_;clear m;intro g3 u m;simp only[zz];refine aT m 0 rfl rfl rfl aC (cU rfl) rfl ?_;clear m;intro u m;simp only[zy,zx,bB,zF,zG,Nat.reduceAdd] at m;refine aF (k13 _ _ ?_);refine wp_region_lit (aA (aB) ?_);simp only[zz];refine aJ rfl ((m.b 0 rfl).full aI aC) ?_;simp only[zz];refine jG m 2 Tb rfl rfl (fun m=>Uk (p:=t.a) m 2 rfl hD8) ?_;clear m;rintro v i u m ⟨rfl,es',c',rfl,hD'⟩;simp only[zF,zG] at m;simp only[zz];clear hD8;have hD8:=hD';clear hD';refine aF (k12 _ _ ?_);refine wp_region_lit (aA (aU (m:=0) (n:=1) (r:=1) rfl rfl (by decide)) (aA (aB) (aF (aQ (aD fun K14 k14=>wp_region_lit (aA (bF (m:=1) (n:=3) rfl rfl (by decide)) (aF (k14 _ _ ?_))))))));refine aD fun K15 k15=>bK rfl (wp_skip (k15 _ _ ?_));refine aD fun K16 k16=>wp_block (aD fun K17 k17=>wp_region_lit (aA (oF rfl rfl) ?_));simp only[zz];refine bA m bO rfl ?_;clear m;intro g4 u m;simp only[zz];refine aT m 0 rfl rfl rfl aC (cU rfl) rfl ?_;clear m;intro u m;simp only[zy,zx,bB,zF,zG,Nat.reduceAdd] at m;refine aF (k17 _ _ ?_);refine wp_region_lit (aA (aB) ?_);simp only[zz];refine aJ rfl ((m.b 0 rfl).full aI aC) ?_;simp only[zz];refine jG m 3 Tb rfl rfl (fun m=>Uk (p:=t.b) m 3 rfl hD8) ?_;clear m;rintro v i u m ⟨rfl,es',c',rfl,hD'⟩;simp only[zF,zG] at m;simp only[zz];clear hD8;have hD8:=hD';clear hD';refine aF (k16 _ _ ?_);refine wp_region_lit (aA (aU (m:=1) (n:=1) (r:=2) rfl rfl (by decide)) (aA (aB) (aF (aQ (aD fun K18 k18=>wp_region_lit (aA (bF (m:=2) (n:=3) rfl rfl (by decide)) (aF (k18 _ _ ?_))))))));refine aD fun K19 k19=>bK rfl (wp_skip (k19 _ _ ?_));refine aD fun K20 k20=>wp_block (aD fun K21 k21=>wp_region_lit (aA (oG rfl rfl) ?_));simp only[zz];refine bA m bO rfl ?_;clear m;intro g5 u m;simp only[zz];refine aT m 0 rfl rfl rfl aC (cU rfl) rfl ?_;clear m;intro u m;simp only[zy,zx,bB,zF,zG,Nat.reduceAdd] at m;refine aF (k21 _ _ ?_);refine wp_region_lit (aA (aB) ?_);simp only[zz];refine aJ rfl ((m.b 0 rfl).full aI aC) ?_;simp only[zz];refine jG m 4 Tb rfl rfl (fun m=>Uk (p:=t.c) m 4 rfl hD8) ?_;clear m;rintro v i u m ⟨rfl,es',c',rfl,hD'⟩;simp only[zF,zG] at m;simp only[zz];clear hD8;have hD8:=hD';clear hD';refine aF (k20 _ _ ?_);refine wp_region_lit (aA (aU (m:=2) (n:=1) (r:=3) rfl rfl (by decide)) (aA (aB) (aF (aQ (aD fun K22 k22=>wp_region_lit (aA (dM (m:=3) (n:=3) rfl rfl (by decide)) (aF (k22 _ _ ?_))))))));refine aD fun K23 k23=>gA rfl (wp_exit (k7 _ _ ?_));refine wp_region_lit ?_;simp only[zz];refine aA (aU rfl rfl (aV (by omega) (by omega))) (aA (aB) (aF ?_));simp only[zz];simp only[Exit.inBlock,Exit.then];refine ⟨N - (k + 1),_,?_,rfl,?_,?_⟩
   · omega
   · simp only[zz,zv]
   ·
    simp only[zQ,zR,zD,zE];exact ⟨k + 1,_,_,rfl,(m.sel [false,false,false,false,true]),by rw [Tu ht];exact hD8,by omega,rfl⟩
  ·
   have hkN : k = N:=by omega
   rw [hkN,show ts.take N = ts from List.take_of_length_le (by rw [hT.len];exact Nat.le_refl _)] at hD8;refine wp_exit (k3 _ _ ?_);refine aD fun K24 k24=>wp_region_lit (aA (aB) ?_);simp only[zz];refine cD rfl rfl (Zs _ (m.p 0 rfl) hD8 (by have h1:=As (dF ts) [];have h2:=oJ ts;have h3:=hT.len;simp only[List.length_nil] at h1;omega)) ?_;rintro v u e ⟨A9,n9,cap9,_,rfl,hN,ps,rfl,hps,hso⟩;replace m:=m.newO e hN;clear e hN;refine aA (aG) (aF (k24 _ _ ?_));refine wp_ret ?_;simp only[zz];try simp only[Exit.inBlock,Exit.then,if_true]
   refine bE rfl rfl ?_;try simp only[zD,zE]
   exact ⟨_,rfl,m.ext,_,_,_,_,rfl,(m.o 0 rfl),ps,rfl,Ze (hps.nodup_iff.2 (Dv _ _ .nil)) hso,fun a=>by rw [hps.mem_iff,Ko];simp⟩
end Go.Proofs.YtfekpcimgncioaaGreatDoor
namespace Go.Proofs.YtfekpcimgncioaaGreatDoor
open Go.Proofs.Tryz
open Go.RowKit Go.Lith
set_option maxRecDepth 100000
attribute [local irreducible] wpList wpQuiet dB bL cE Code.wp
theorem pW {l : List T3} (h : ∀ t ∈ l,IT t) : ∀ t ∈ cX l,IT t:=fun t ht=>by
 obtain ⟨s,hs,rfl⟩:=Cv.1 ht;have:=h s hs;unfold kJ;split
 · exact ⟨this.c,this.a,this.b⟩
 · split
   · exact ⟨this.b,this.c,this.a⟩
   · exact this
theorem Lk {ks : List P3} {a : P3} : a ∈ (fB [] ks).map (·.1) ↔ a ∈ ks:=by rw [pQ];simp
theorem aaA {ps : List P3} {l : List T3} (h : pO ps) (hm : ∀ a,a ∈ ps ↔ a ∈ dF l) : ps.length ≤ 3 * l.length:=by
 have hn : ps.Nodup:=List.Pairwise.imp (fun {a b} (h : P3.Lt a b) (e : a = b)=>P3.lt_irrefl b (by rw [e] at h;exact h)) h;have h1:=List.Nodup.length_le_of_subset hn (l₂:=dF l) fun x hx=>(hm x).1 hx;rw [oJ] at h1;omega
theorem wR.perm {l : List T3} {Q : P3 → List Int} {dn D : List (P3 × Hd)} {cs : List iV} (h : wR l Q (dn.map (·.1)) cs) (hp : dn.Perm D) : wR l Q (D.map (·.1)) cs:=fun d=>by rw [h d,(hp.map (·.1)).mem_iff]
theorem afq {D : List Mv} {k : Nat} {p : P3} (h : (tP (D.map (·.1)))[k]? = some p) : (jS D)[k]? = some (p,(cK D p).getD ⟨0,0,0⟩):=by
 have hm : p ∈ D.map (·.1):=(mO _).mem_iff.1 (List.mem_of_getElem? h);obtain ⟨y,hy⟩ : ∃ y,cK D p = some y:=by
  cases hg : cK D p with
  | some y=>exact ⟨y,rfl⟩
  | none=>exact absurd hm (lI.1 hg)
 unfold jS;rw [List.getElem?_map,h,hy];simp [hy]
theorem Ll {ea ef : Array MapEntry} {ca cf : Nat} {D : List (P3 × Hd)} {F : List (P3 × Bool)} {l : List T3} (h : Ia ea ef ca cf D F l) : D.length ≤ 3 * l.length:=by
 have h1:=List.Nodup.length_le_of_subset h.nk (l₂:=dF l) fun x hx=>(h.k x).1 hx;rw [List.length_map,oJ] at h1;omega
theorem aeX (D : List Mv) (u v : P3) : (toF D u v).length ≤ D.length + 1:=by
 have:=qI (D.map fun e=>(e.1,xX u v e.2)) u v;rwa [List.length_map] at this
theorem oW {ts : List T3} {want : Int} {l : List T3} {D : List Mv} (h0 : eV true (cX ts) = 0) (h : mF (cX ts).length want (cX ts) (rA (cX ts)) [] = (l,D)) : qN ts want = (l,jS D):=by
 unfold qN;rw [if_neg (by rw [h0];simp),h]
theorem Vs {ts : List T3} {want : Int} (h : ¬ eV true (cX ts) = 0) : qN ts want = (cX ts,[]):=by unfold qN;rw [if_pos h]
theorem yM {ts : List T3} {N cap : Nat} {A : Option Addr} {want : Int} (w : World) (hT0 : bY w A N ts) (hN : N ≤ 2000) (hw : 0 ≤ want) : eG prog 24 [.slice A N cap,.int .i64 want] w (fun v w'=>∃ A1 n1 c1 A2 n2 c2,v = .tuple #[.slice A1 n1 c1,.slice A2 n2 c2] ∧ n1 = (qN ts want).1.length ∧ n2 = (qN ts want).2.length ∧ Mem w w' [oI 55 6 A2 n2 c2 ((qN ts want).2.flatMap dT),oI 39 9 A1 n1 c1 ((qN ts want).1.flatMap aW)]):=by
 refine ⟨aiX,?_⟩;have m:=Mem.refl w;have htl:=hT0.len;have hcl:=oU ts;have hit : ∀ t ∈ cX ts,IT t:=pW hT0.it;have hN2 : (cX ts).length ≤ 2000:=by omega
 go_enter func24,ntmps24
 refine aD fun K1 k1=>wp_region_lit (aA (aG) (aA (aG) (aF (k1 _ _ ?_))));try clear k1 K1
 refine aD fun K2 k2=>wp_region_lit (aA (aB) ?_);simp only[zz];refine cD rfl rfl (Qz _ (hT0.ext m.ext) (by omega)) ?_;rintro v u e ⟨A1,cap1,n1,hn1,rfl,hN⟩;replace m:=m.newO e hN;clear e hN;obtain rfl : n1 = (cX ts).length:=by rw [hcl];exact hn1
 refine aA (aG) (aF (k2 _ _ ?_));try clear k2 K2
 refine aD fun K3 k3=>aD fun K4 k4=>wp_region_lit (aA (aB) ?_);simp only[zz];refine eE m rfl rfl (tA _ ((m.o 0 rfl).tris hit) (by omega)) ?_;clear m;rintro v u m rfl;refine aA (jJ rfl rfl) (aF (k4 _ _ ?_));try clear k4 K4
 simp only[zz];refine cG rfl (fun hc1=>?_) (fun hc1=>?_)
 · skip
   refine aD fun K5 k5=>wp_region_lit (aA (aB) (aA (aG) (aA (aG) (aF ?_))));simp only[zz];replace m:=m.nilO 55 6;refine k5 _ _ ?_;try clear k5 K5
   refine wp_ret ?_;try simp only[Exit.inBlock,Exit.then,if_true]
   refine uA rfl rfl rfl ?_;try simp only[zD,zE]
   exact ⟨_,rfl,m.ext,_,_,_,_,_,_,rfl,by rw [Vs hc1],by rw [Vs hc1];rfl,by rw [Vs hc1];exact m.sel [true,true]⟩
 · skip
   have hc0 : eV true (cX ts) = 0:=by omega
   have hnd:=Ie hc0;refine wp_skip (k3 _ _ ?_);try clear k3 K3
   refine aD fun K6 k6=>wp_region_lit (jA m ?_);clear m;intro q61 u m;have hD61:=bP.nil (K:=P3) (V:=List Int) pt qV;simp only[zz];refine bA m adR rfl ?_;clear m;intro g2 u m;simp only[zz];refine cH m 0 rfl rfl rfl abe (cU rfl) ⟨rfl,rfl⟩ ?_;clear m;intro u m;simp only[zz,zy,zx,bB,Nat.reduceAdd] at m;refine aF (k6 _ _ ?_);try clear k6 K6
   refine aD fun K7 k7=>aD fun K8 k8=>wp_region_lit (aA (aB) ?_);simp only[zz];refine cD rfl rfl (Vr _ ((m.o 2 rfl).tris hit) (by omega)) ?_;rintro v u e ⟨A3,n3,cap3,_,rfl,hN,ps,rfl,hso,hmem⟩;replace m:=m.newO e hN;clear e hN;obtain rfl : ps.length = n3:=by have:=(m.o 0 rfl).own.1;rw [abq] at this;omega
   have hpl : ps.length ≤ 10000000:=by have h1:=aaA hso hmem;omega
   refine aA (bH rfl dS rfl) (aA (aB) (aF (k8 _ _ ?_)));try clear k8 K8
   refine wp_block ?_;simp only[zz];try simp only[Nat.zero_add,Nat.reduceAdd,Nat.reduceMul,Int.reduceToNat]
   refine bT [33] [8,34,35,36,37,38,39,40,41,42] (fun n vs wl=>∃ (k : Nat) (es : Array MapEntry) (c : Nat) (Dq : List (P3 × List Int)),vs = [.int .i64 (k:Int)] ∧ Mem w wl [oI 30 3 A3 ps.length cap3 (ps.flatMap eX),bI g2 [.map (some q61)] 93,mI q61 es c,oI 39 9 A1 (cX ts).length cap1 ((cX ts).flatMap aW)] ∧ (bP pt qV Dq es c) ∧ (Bt (cX ts) (ps.take k) Dq) ∧ (k ≤ ps.length) ∧ (n = ps.length - k)) ?_ ?_
   · skip
     apply Exists.intro;simp only[zQ,zR,zD,zE];exact ⟨0,_,_,[],rfl,m,hD61,Bt.nil _,Nat.zero_le _,rfl⟩
   · intro n vs wr hI u
     clear m;obtain ⟨k,es61,c61,Dq,rfl,m,hD61,hq1,hk,hn⟩:=hI;simp only[zu,zF,zG];refine aD fun K9 k9=>wp_region_lit (aA (cW rfl rfl) (aF (k9 _ _ ?_)));try clear k9 K9
     refine aD fun K10 k10=>?_;simp only[zz];refine cG rfl (fun hc2=>?_) (fun hc2=>?_)
     · skip
       obtain ⟨p,hp,a3,hA3,hr3⟩:=((m.o 0 rfl).lat (enc:=eX) (fun _=>rfl) (by decide)).get (i:=k) (by omega);subst hA3;refine wp_skip (k10 _ _ ?_);try clear k10 K10
       refine aD fun K11 k11=>wp_block (aD fun K12 k12=>wp_region_lit (aA (aN dS aC rfl rfl (by omega) (by omega) (dC (Int.toNat_natCast _))) ?_));simp only[zz];refine aJ rfl (show hG _ _ _ _ (pt p) from hr3.lies aI aC) ?_;simp only[zz];refine bA m bO rfl ?_;clear m;intro g3 u m;simp only[zz];refine aT m 0 rfl rfl rfl aC (cU rfl) rfl ?_;clear m;intro u m;simp only[zy,zx,bB,zF,zG,Nat.reduceAdd] at m;refine aF (k12 _ _ ?_);try clear k12 K12
       refine mh m [true,true,true,false,true] [(2,true),(0,true),(1,true),(3,true),(4,false),(5,false)] aM (by kernel_rfl) (cN (fun _ _ _ _ _ h=>h)) (ol:=?_) ?hol ?_
       case hol=>simp only[zw,zQ,zR];try rfl
       clear m;intro u m;refine aS (aB) ?_;simp only[zz];refine cI rfl (fun u m=>((m.b 2 rfl).lies1 Cj rfl)) ?_;simp only[zz];refine cI rfl (fun u m=>((m.b 0 rfl).full aI aC)) ?_;simp only[zz];refine cI rfl (fun u m=>((m.b 0 rfl).full aI aC)) ?_;simp only[zz];refine cJ (eE m rfl rfl (aio (p:=p) _ ((m.o 4 rfl).tris hit) (by omega)) ?_);clear m;rintro v u m rfl;refine aF (⟨m.sel [true,true,true,false,true],?_⟩);refine cJ ?_;simp only[zz];refine kD (ek:=pt) (en:=qV) (a:=p) (v:=(rA (cX ts) p)) m 3 rfl Gp fD rfl rfl rfl hD61 ?_;clear m;intro es61 c61 u m hD';clear hD61;have hD61:=hD';clear hD';simp only[zF,zG] at m;refine aF (⟨m.sel [true,true,true,false,true],?_⟩);refine aY (k11 _ _ ?_);try clear k11 K11
       refine wp_region_lit (aA (aU rfl rfl (aV (by omega) (by omega))) (aA (aB) (aF ?_)));simp only[zz];simp only[Exit.inBlock,Exit.then];refine ⟨ps.length - (k + 1),_,?_,rfl,?_,?_⟩
       · omega
       · simp only[zz,zv]
       · simp only[zQ,zR,zD,zE]
         exact ⟨k + 1,_,_,_,rfl,(m.sel [false,true,true,true,true]),hD61,hq1.put hp,by omega,rfl⟩
     · skip
       obtain rfl : k = ps.length:=by omega
       rw [List.take_of_length_le (Nat.le_refl _)] at hq1;have hQ:=hq1.ok hmem hit;refine wp_exit (k7 _ _ ?_);try clear k7 K7
       refine aD fun K13 k13=>wp_region_lit (jA m ?_);clear m;intro q62 u m;have hD62:=bP.nil (K:=P3) (V:=P3) pt pt;refine aA (aG) (aF (k13 _ _ ?_));try clear k13 K13
       refine aD fun K14 k14=>wp_region_lit ?_;simp only[zz];refine jA m ?_;clear m;intro q60 u m;have hD60:=bP.nil (K:=E3) (V:=Int) ed W;simp only[zz];refine bA m abf rfl ?_;clear m;intro g5 u m;simp only[zz];refine cH m 0 rfl rfl rfl Yl (cU rfl) ⟨rfl,rfl⟩ ?_;clear m;intro u m;simp only[zz,zy,zx,bB,Nat.reduceAdd] at m;refine aF (k14 _ _ ?_);try clear k14 K14
       refine aD fun K15 k15=>wp_region_lit (aA (eZ) ?_);simp only[zz,List.map_toArray,List.map_cons,List.map_nil];refine aA (aG) (aF (k15 _ _ ?_));try clear k15 K15
       refine aD fun K16 k16=>wp_block ?_;simp only[zz];try simp only[Nat.zero_add,Nat.reduceAdd,Nat.reduceMul,Int.reduceToNat]
       refine bT [0] [12,13,14,15,16,17,18,19,46,47,48,49,50,51,52,53,54,55,56,57,58,59,60,61,62,63,64,65,66,67,68,69,70,71,72,73,74,75,76,77,78,79,80,81,82,83,84,85,86,87,88,89,90,91,92,93,94,95,96,97,98,99,100,101,102,103,104,105,106,107,108,109,110,111,112,113,114,115,116,117,118,119,120,121,122,123,124,125,126,127,128,129,130,131,132,133] (fun n vs wl=>∃ (l : List T3) (Q : P3 → List Int) (A1 : Option Addr) (cap1 : Nat) (es60 es61 es62 : Array MapEntry) (c60 c61 c62 : Nat) (Dc : List (E3 × Int)) (Dq : List (P3 × List Int)) (Dm : List Mv),vs = [.slice A1 l.length cap1] ∧ Mem w wl [bI g5 [.map (some q60)] 100,mI q60 es60 c60,mI q62 es62 c62,bI g2 [.map (some q61)] 93,mI q61 es61 c61,oI 39 9 A1 l.length cap1 (l.flatMap aW)] ∧ (bP ed W Dc es60 c60) ∧ (mB Dc Q) ∧ ((Dc.map (·.1)).Nodup) ∧ (bP pt qV Dq es61 c61) ∧ (bP pt pt Dm es62 c62) ∧ (QOK Dq Q (602 + 2 * (cX ts).length - l.length)) ∧ (∀ t ∈ l,IT t) ∧ (∀ t ∈ l,t.nd = true) ∧ ((Dm.map (·.1)).Nodup) ∧ (mF (cX ts).length want (cX ts) (rA (cX ts)) [] = mF l.length want l Q Dm) ∧ (l.length + Dm.length ≤ (cX ts).length) ∧ (n = l.length)) ?_ ?_
       · skip
         apply Exists.intro;simp only[zQ,zR,zD,zE];exact ⟨(cX ts),(rA (cX ts)),_,_,_,_,_,_,_,_,[],_,[],rfl,(m.sel [true,true,true,false,true,true,true]),hD60,mB.nil _,List.nodup_nil,hD61,hD62,hQ.mono (by omega),hit,hnd,List.nodup_nil,rfl,(by simp),rfl⟩
       · intro n vs wr hI u
         clear m;obtain ⟨l,Q,A1,cap1,es60,es61,es62,c60,c61,c62,Dc,Dq,Dm,rfl,m,hD60,hC,hnC,hD61,hD62,hQ,hit,hnd,hnM,hS,hle,hn⟩:=hI;simp only[zu,zF,zG];refine aD fun K17 k17=>aD fun K18 k18=>wp_region_lit (aA (aB) (aA (bH rfl bQ rfl) (aA (aB) (aA (lD rfl rfl) ?_))));simp only[zz];refine aF (k18 _ _ ?_);try clear k18 K18
         refine cG rfl (fun hc3=>?_) (fun hc3=>?_)
         · skip
           refine wp_skip (k17 _ _ ?_);try clear k17 K17
           refine wp_block (aD fun K19 k19=>wp_region_lit (aA (aB) ?_));simp only[zz];refine cD rfl rfl (acT _ ((m.o 5 rfl).tris hit) hnd (by omega)) ?_;rintro v u e ⟨g90,ga,gf,ea,ef,ca,cf,D,F,K,rfl,hM,hK,hSD⟩;replace m:=m.plus hM;clear hM e;simp only[List.cons_append,List.nil_append] at m;simp only[zz];refine bA m adQ rfl ?_;clear m;intro g6 u m;simp only[zz];refine cH m 0 rfl rfl rfl uQ (cU rfl) ⟨rfl,rfl⟩ ?_;clear m;intro u m;simp only[zz,zy,zx,bB,Nat.reduceAdd] at m;refine aF (k19 _ _ ?_);try clear k19 K19
           refine aD fun K20 k20=>wp_region_lit (aA (aG) (aF ?_));simp only[zz];replace m:=m.nilO 112 8;refine k20 _ _ ?_;try clear k20 K20
           refine aD fun K21 k21=>aD fun K22 k22=>wp_region_lit (aJ rfl ((m.b 1 rfl).lies1 xR rfl) ?_);simp only[zz];refine aA (bS rfl) (aA (aL (c:=0) pK rfl vX rfl rfl) ?_);simp only[zz];refine aJ rfl (((hK _ (m.get 2 rfl)).b).lies1 Mg rfl) ?_;simp only[zz];refine qY m underlying106 rfl ((hK _ (m.get 2 rfl)).a) ?_;clear m;intro r1 u m;refine aF (k22 _ _ ?_);try clear k22 K22
           refine wp_block ?_;simp only[zz];try simp only[Nat.zero_add,Nat.reduceAdd,Nat.reduceMul,Int.reduceToNat]
           refine bT [13] [14,15,57,58,59,60,61,62,63,64,65,66,67,68,69,70,71,72,73,74,75,76,77,78,79,80,81,82,83,84] (fun n vs wl=>∃ (dn rs : List (P3 × Hd)) (sn : Array Nat) (cs : List iV) (A9 : Option Addr) (cap9 : Nat) (es60 : Array MapEntry) (c60 : Nat) (Dc : List (E3 × Int)),vs = [.slice A9 cs.length cap9] ∧ Mem w wl [iI r1 ga ca sn,oI 112 8 A9 cs.length cap9 (cs.flatMap oL),bI g6 [.pointer (some ⟨g90,0,none⟩)] 88,K,bI g5 [.map (some q60)] 100,mI q60 es60 c60,mI q62 es62 c62,bI g2 [.map (some q61)] 93,mI q61 es61 c61,oI 39 9 A1 l.length cap1 (l.flatMap aW)] ∧ (bP ed W Dc es60 c60) ∧ (mB Dc Q) ∧ ((Dc.map (·.1)).Nodup) ∧ (kU pt Hd.v D ea sn dn rs) ∧ (wR l Q (dn.map (·.1)) cs) ∧ (cs.length ≤ dn.length * 6000) ∧ (n = rs.length)) ?_ ?_
           · skip
             apply Exists.intro;simp only[zQ,zR,zD,zE];exact ⟨[],D,#[],[],_,_,_,_,_,rfl,m,hD60,hC,hnC,(kU.start hSD.a),(wR.nil _ _),(Nat.zero_le _),rfl⟩
           · intro n vs wr hI u
             clear m;obtain ⟨dn,rs,sn,cs,A9,cap9,es60,c60,Dc,rfl,m,hD60,hC,hnC,hT,hCs,hcl3,hn3⟩:=hI;simp only[zu,zF,zG];refine aD fun K23 k23=>wp_region_lit (Dt m 0 rfl rfl ((hK _ (m.get 3 rfl)).a) hSD.a hT ?_);clear m;intro bb kk vv sn u m hN;simp only[zF,zG] at m;refine aA (lW rfl) (aF (k23 _ _ ?_));try clear k23 K23
             refine aD fun K24 k24=>?_;simp only[zz];refine eD rfl (fun hc4=>?_) (fun hc4=>?_)
             · skip
               obtain ⟨kp,kb,rs2,hp2,hT2⟩:=Aq hc4 hN;have hkp : kp ∈ D.map (·.1):=List.mem_map_of_mem (f:=(·.1)) (hT2.1.mem_iff.1 (by simp) : (kp,kb) ∈ D);have hTl:=hT2.len;have hkeys:=Ll hSD;rw [List.length_append,List.length_cons,List.length_nil] at hTl;refine wp_skip (k24 _ _ ?_);try clear k24 K24
               refine wp_block (aD fun K25 k25=>wp_region_lit (eY (oH rfl (m.r 0 rfl) ((hK _ (m.get 3 rfl)).a) hSD.a hT2) ?_));simp only[zz];refine aA (bC rfl rfl) ?_;simp only[zz];refine bA m bO rfl ?_;clear m;intro g8 u m;simp only[zz];refine aT m 0 rfl rfl rfl aC (cU rfl) rfl ?_;clear m;intro u m;simp only[zy,zx,bB,zF,zG,Nat.reduceAdd] at m;refine aF (k25 _ _ ?_);try clear k25 K25
               refine aD fun K26 k26=>aD fun K27 k27=>mq m aM (by kernel_rfl) (ql rfl (fun u m=>((m.b 3 rfl).lies1 xR rfl)) ?_);simp only[zz];refine aK (bS rfl) (aK (aL (c:=0) pK rfl gW rfl rfl) ?_);simp only[zz];refine ql rfl (fun u m=>(((hK _ (m.get 4 rfl)).b).lies1 lT rfl)) ?_;simp only[zz];refine ql rfl (fun u m=>((m.b 0 rfl).full aI aC)) ?_;simp only[zz];refine gZ (fun u m=>dV (ek:=pt) (en:=Value.bool) (k:=kp) (v0:=false) kI kY fD rfl rfl ((hK _ (m.get 4 rfl)).f) hSD.f) ?_;simp only[zz];refine bZ ?_;clear m;intro u m;refine k27 _ _ ?_;try clear k27 K27
               refine eD rfl (fun hc5=>?_) (fun hc5=>?_)
               · skip
                 rw [hSD.b] at hc5;refine wp_exit ?_;simp only[Exit.inBlock,Exit.then];refine ⟨rs2.length,_,?_,rfl,?_,?_⟩
                 · rw [hn3,hp2.length_eq];exact Nat.lt_succ_self _
                 · simp only[zz,zv]
                 · simp only[zQ,zR,zD,zE]
                   exact ⟨dn ++ [(kp,kb)],rs2,_,cs,_,_,_,_,_,rfl,(m.sel [false,true,true,true,true,true,true,true,true,true,true]),hD60,hC,hnC,hT2,(by rw [List.map_append];exact hCs.skip hc5),(by rw [List.length_append];simp only[List.length_cons,List.length_nil];omega),rfl⟩
               · skip
                 rw [hSD.b] at hc5;refine wp_skip (k26 _ _ ?_);try clear k26 K26
                 refine aD fun K28 k28=>wp_region_lit (aJ rfl ((m.b 3 rfl).lies1 xR rfl) ?_);simp only[zz];refine aJ rfl ((m.b 0 rfl).full aI aC) ?_;simp only[zz];refine cD rfl rfl (Nj (p:=kp) _ ((hK _ (m.get 4 rfl)).b) ((hK _ (m.get 4 rfl)).a) hSD.a ((hK _ (m.get 4 rfl)).t) (by omega)) ?_;rintro v u e ⟨qx,esx,cx,rfl,hM,hDx⟩;replace m:=m.plus hM;clear hM e;simp only[List.cons_append,List.nil_append] at m;simp only[zz];refine qY m kI rfl (m.p 0 rfl) ?_;clear m;intro r2 u m;refine aF (k28 _ _ ?_);try clear k28 K28
                 refine wp_block ?_;simp only[zz];try simp only[Nat.zero_add,Nat.reduceAdd,Nat.reduceMul,Int.reduceToNat]
                 refine bT [13] [15,71,72,73,74,75,76,77,78,79,80,81,82,83,84] (fun n vs wl=>∃ (dn2 rs2 : List (P3 × Bool)) (sn2 : Array Nat) (cs : List iV) (A9 : Option Addr) (cap9 : Nat) (es60 : Array MapEntry) (c60 : Nat) (Dc : List (E3 × Int)),vs = [.slice A9 cs.length cap9] ∧ Mem w wl [iI r2 qx cx sn2,mI qx esx cx,bI g8 [.int .i64 kp.x,.int .i64 kp.y,.int .i64 kp.z] 30,iI r1 ga ca sn,oI 112 8 A9 cs.length cap9 (cs.flatMap oL),bI g6 [.pointer (some ⟨g90,0,none⟩)] 88,K,bI g5 [.map (some q60)] 100,mI q60 es60 c60,mI q62 es62 c62,bI g2 [.map (some q61)] 93,mI q61 es61 c61,oI 39 9 A1 l.length cap1 (l.flatMap aW)] ∧ (bP ed W Dc es60 c60) ∧ (mB Dc Q) ∧ ((Dc.map (·.1)).Nodup) ∧ (kU pt Value.bool (fB [] (kF l kp)) esx sn2 dn2 rs2) ∧ (Vq l Q (dn.map (·.1)) kp (dn2.map (·.1)) cs) ∧ (cs.length ≤ dn.length * 6000 + dn2.length) ∧ (n = rs2.length)) ?_ ?_
                 · skip
                   apply Exists.intro;simp only[zQ,zR,zD,zE];exact ⟨[],_,#[],cs,_,_,_,_,_,rfl,m,hD60,hC,hnC,(kU.start hDx),(hCs.start kp),(by simp only[List.length_nil];omega),rfl⟩
                 · intro n vs wr hI u
                   clear m;obtain ⟨dn2,rs3,sn2,cs,A9,cap9,es60,c60,Dc,rfl,m,hD60,hC,hnC,hT3,hCi,hcl4,hn4⟩:=hI;simp only[zu,zF,zG];refine aD fun K29 k29=>wp_region_lit (Dt m 0 rfl rfl (m.p 1 rfl) hDx hT3 ?_);clear m;intro bb kk vv sn u m hN;simp only[zF,zG] at m;refine aA (lW rfl) (aF (k29 _ _ ?_));try clear k29 K29
                   refine aD fun K30 k30=>?_;simp only[zz];refine eD rfl (fun hc6=>?_) (fun hc6=>?_)
                   · skip
                     obtain ⟨kq,kv,rs4,hp4,hT4⟩:=Aq hc6 hN;have hnb : Mw l kp kq = true:=nD.1 (Lk.1 (List.mem_map_of_mem (f:=(·.1)) (hT4.1.mem_iff.1 (by simp) : (kq,kv) ∈ fB [] (kF l kp))));have hT4l:=hT4.len;have hal:=lJ (kF l kp) [];have hbl:=Ib l kp;rw [List.length_append,List.length_cons,List.length_nil] at hT4l;rw [List.length_nil] at hal;refine wp_skip (k30 _ _ ?_);try clear k30 K30
                     refine wp_block (aD fun K31 k31=>wp_region_lit (eY (oH rfl (m.r 0 rfl) (m.p 1 rfl) hDx hT4) ?_));simp only[zz];refine aA (bC rfl rfl) ?_;simp only[zz];refine bA m bO rfl ?_;clear m;intro g10 u m;simp only[zz];refine aT m 0 rfl rfl rfl aC (cU rfl) rfl ?_;clear m;intro u m;simp only[zy,zx,bB,zF,zG,Nat.reduceAdd] at m;refine aF (k31 _ _ ?_);try clear k31 K31
                     replace m:=m.pull 12 rfl;simp only[dW,dX,zF,zG] at m;replace m:=m.pull 10 rfl;simp only[dW,dX,zF,zG] at m;replace m:=m.pull 12 rfl;simp only[dW,dX,zF,zG] at m;replace m:=m.pull 11 rfl;simp only[dW,dX,zF,zG] at m;refine mh m [true,true,false,true,true,true,true,true,true,false,true,true,true,true] [(0,true),(3,true),(1,true),(2,true),(4,true),(5,true),(6,false),(7,true),(8,false),(9,false),(10,true)] aM (by kernel_rfl) (cN (fun _ _ _ _ _ h=>h)) (ol:=?_) ?hol ?_
                     case hol=>simp only[zw,zQ,zR];try rfl
                     clear m;intro u m;refine aS (aB) (aS (aB) ?_);simp only[zz];refine cI rfl (fun u m=>((m.b 6 rfl).full aI aC)) ?_;simp only[zz];refine cI rfl (fun u m=>((m.b 3 rfl).full aI aC)) ?_;simp only[zz];refine cI rfl (fun u m=>((m.b 6 rfl).full aI aC)) ?_;simp only[zz];refine cI rfl (fun u m=>((m.b 3 rfl).full aI aC)) ?_;simp only[zz];refine cJ ?_;replace m:=m.pack4;refine jL rfl rfl ((haveI:=Fi hit ((hSD.k kp).1 hkp);haveI:=Fi hit (Vp hnb).2;ait (p:=kp) (q:=kq) m hD60 hD61 hC hnC hQ (by omega))) ?_;clear m;rintro v u ⟨es60,c60,Dc,rfl,m,hD60,hC,hnC⟩;simp only[zz];replace m:=m.unpack4;refine aF (⟨m.sel [true,true,false,true,true,true,true,true,true,false,true,true,true,true],?_⟩);refine aS (Ah rfl rfl rfl) (cJ ?_);simp only[zz];refine To rfl ?_;intro u g11 e hg hB;replace m:=m.newB e hg hB;clear e hg hB;refine aF (⟨m.sel [false,true,true,false,true,true,true,true,true,true,false,true,true,true,true],?_⟩);refine cJ ?_;simp only[zz];refine dD m 10 rfl rfl Gn adS rfl (by decide) rfl rfl rfl (m.b 0 rfl).rowsO (jZ rfl) (by omega) (by omega) ?_;clear m;intro A9 cap9 u m;simp only[zF,zG] at m;rw [show cs.flatMap oL ++ _ = (cs ++ [⟨kp,kq,nS Q kp kq⟩] : List iV).flatMap oL by rw [List.flatMap_append];rfl] at m;have hll : cs.length + 1 = (cs ++ [⟨kp,kq,nS Q kp kq⟩] : List iV).length:=by simp
                     rw [hll] at m;rw [hll];refine aF (⟨m.sel [false,true,true,false,true,true,true,true,true,true,false,true,true,true,true],?_⟩);refine aS (aG) (aY ?_);simp only[zz];replace m:=m.pull 14 rfl;simp only[dW,dX,zF,zG] at m;replace m:=m.pull 5 rfl;simp only[dW,dX,zF,zG] at m;replace m:=m.pull 4 rfl;simp only[dW,dX,zF,zG] at m;replace m:=m.pull 14 rfl;simp only[dW,dX,zF,zG] at m;replace m:=m.pull 6 rfl;simp only[dW,dX,zF,zG] at m;replace m:=m.pull 6 rfl;simp only[dW,dX,zF,zG] at m;replace m:=m.pull 14 rfl;simp only[dW,dX,zF,zG] at m;replace m:=m.pull 14 rfl;simp only[dW,dX,zF,zG] at m;replace m:=m.pull 14 rfl;simp only[dW,dX,zF,zG] at m;replace m:=m.pull 14 rfl;simp only[dW,dX,zF,zG] at m;replace m:=m.pull 14 rfl;simp only[dW,dX,zF,zG] at m;replace m:=m.pull 14 rfl;simp only[dW,dX,zF,zG] at m;replace m:=m.pull 14 rfl;simp only[dW,dX,zF,zG] at m;replace m:=m.pull 14 rfl;simp only[dW,dX,zF,zG] at m;simp only[Exit.inBlock,Exit.then];refine ⟨rs4.length,_,?_,rfl,?_,?_⟩
                     · rw [hn4,hp4.length_eq];exact Nat.lt_succ_self _
                     · simp only[zz,zv]
                     · simp only[zQ,zR,zD,zE]
                       exact ⟨dn2 ++ [(kq,kv)],rs4,_,(cs ++ [iV.mk kp kq (nS Q kp kq)]),_,_,_,_,_,rfl,(m.sel [false,true,true,true,true,true,true,true,true,true,true,true,true,true,false]),hD60,hC,hnC,hT4,(by rw [List.map_append];exact hCi.put),(by rw [List.length_append,List.length_append];simp only[List.length_cons,List.length_nil];omega),rfl⟩
                   · skip
                     obtain rfl:=An hc6 hN;have hT3l:=hT3.len;have hal:=lJ (kF l kp) [];have hbl:=Ib l kp;rw [List.length_nil] at hal hT3l;replace hCi:=hCi.done hc5 (fun x=>by rw [← nD];exact ((hT3.done.map (·.1)).mem_iff).trans Lk);refine wp_exit ?_;simp only[Exit.inBlock,Exit.then];refine ⟨rs2.length,_,?_,rfl,?_,?_⟩
                     · rw [hn3,hp2.length_eq];exact Nat.lt_succ_self _
                     · simp only[zz,zv]
                     · simp only[zQ,zR,zD,zE]
                       exact ⟨dn ++ [(kp,kb)],rs2,_,cs,_,_,_,_,_,rfl,(m.sel [false,false,false,true,true,true,true,true,true,true,true,true,true]),hD60,hC,hnC,hT2,(by rw [List.map_append];exact hCi),(by rw [List.length_append];simp only[List.length_cons,List.length_nil] at hal ⊢;omega),rfl⟩
             · skip
               obtain rfl:=An hc4 hN;have hTl:=hT.len;have hkeys:=Ll hSD;rw [List.length_nil] at hTl;have hdn:=hT.done;replace hCs:=hCs.perm hdn;refine wp_exit (k21 _ _ ?_);try clear k21 K21
               refine aD fun K32 k32=>wp_region_lit (aA (aB) ?_);simp only[zz];refine aA (eZ) ?_;simp only[zz,List.map_toArray,List.map_cons,List.map_nil];replace m:=m.pull 9 rfl;simp only[dW,dX,zF,zG] at m;replace m:=m.pull 4 rfl;simp only[dW,dX,zF,zG] at m;replace m:=m.pull 4 rfl;simp only[dW,dX,zF,zG] at m;replace m:=m.pull 4 rfl;simp only[dW,dX,zF,zG] at m;replace m:=m.pack4;refine jL rfl rfl (aiv m hK hSD hnd hit (by omega) hQ.len hQ.bd (by omega) hCs (by omega)) ?_;clear m;rintro v u ⟨c,bb,rfl,m,hbest⟩;simp only[zz];replace m:=m.unpack3;refine aA (aB) ?_;simp only[zz];refine aA (bC (v:=Vn c) rfl rfl) ?_;simp only[zz];refine aA (bC (v:=.bool bb) rfl rfl) ?_;simp only[zz];refine bA m Ab rfl ?_;clear m;intro g8 u m;simp only[zz];refine aT m 0 rfl rfl rfl iQ (cU rfl) rfl ?_;clear m;intro u m;simp only[zy,zx,bB,zF,zG,Nat.reduceAdd] at m;refine aA (aG) (aF (k32 _ _ ?_));try clear k32 K32
               refine aD fun K33 k33=>aD fun K34 k34=>wp_region_lit (aA (aB) (aA (fR rfl) (aF (k34 _ _ ?_))));try clear k34 K34
               simp only[zz];refine eD rfl (fun hc7=>?_) (fun hc7=>?_)
               · skip
                 have hend:=Sd (l:=l) (want:=want) (Q:=Q) (D:=Dm) (.inr (hbest.resolve_right (fun h=>by rw [h.1] at hc7;cases hc7)).2);refine wp_exit (k16 _ _ ?_);try clear k16 K16
                 refine aD fun K35 k35=>wp_region_lit (aA (aG) (aF ?_));simp only[zz];replace m:=m.nilO 55 6;refine k35 _ _ ?_;try clear k35 K35
                 refine aD fun K36 k36=>aD fun K37 k37=>wp_region_lit (aA (aB) ?_);simp only[zz];refine cD rfl rfl (acA (q:=q62) _) ?_;rintro v u e ⟨g9,rfl,hg,hB⟩;replace m:=m.newB e hg hB;clear e hg hB;simp only[zz];refine cD rfl rfl (Rl _ aa3 (Ef (m.p 9 rfl) hD62 (m.b 0 rfl)) (fun xs h=>by rw [h.length_eq,List.length_map];exact Nat.le_refl _) (by omega)) ?_;rintro v u e ⟨xs,ys,⟨A22,cap22,n22,hn22,rfl,hN⟩,hxs,hys,hso⟩;replace m:=m.newO e hN;clear e hN;obtain rfl : n22 = Dm.length:=by rw [hn22,hxs.length_eq,List.length_map]
                 obtain rfl : ys = tP (Dm.map (·.1)):=Hs hnM (hys.trans hxs) hso;refine aA (bH rfl dS rfl) (aA (aB) (aF (k37 _ _ ?_)));try clear k37 K37
                 refine wp_block ?_;simp only[zz];try simp only[Nat.zero_add,Nat.reduceAdd,Nat.reduceMul,Int.reduceToNat]
                 refine bT [20,138] [22,139,140,141,142,143,144,145,146,147,148,149,150] (fun n vs wl=>∃ (k : Nat) (A20 : Option Addr) (cap20 : Nat),vs = [.slice A20 k cap20,.int .i64 (k:Int)] ∧ Mem w wl [oI 30 3 A22 Dm.length cap22 ((tP (Dm.map (·.1))).flatMap eX),oI 55 6 A20 k cap20 (((jS Dm).take k).flatMap dT),oI 39 9 A1 l.length cap1 (l.flatMap aW),mI q62 es62 c62] ∧ (k ≤ Dm.length) ∧ (n = Dm.length - k)) ?_ ?_
                 · skip
                   apply Exists.intro;simp only[zQ,zR,zD,zE];exact ⟨0,_,_,rfl,(m.sel [true,false,true,false,false,false,true,false,false,false,true,false,false]),Nat.zero_le _,rfl⟩
                 · intro n vs wr hI u
                   clear m;obtain ⟨k,A20,cap20,rfl,m,hk,hn6⟩:=hI;simp only[zu,zF,zG];refine aD fun K38 k38=>wp_region_lit (aA (cW rfl rfl) (aF (k38 _ _ ?_)));try clear k38 K38
                   refine aD fun K39 k39=>?_;simp only[zz];refine cG rfl (fun hc10=>?_) (fun hc10=>?_)
                   · skip
                     obtain ⟨k9,hk9,a9,hA9,hr9⟩:=((m.o 0 rfl).lat (enc:=eX) (fun _=>rfl) (by decide)).get (i:=k) (by omega);subst hA9;have hmv:=afq hk9;refine wp_skip (k39 _ _ ?_);try clear k39 K39
                     refine aD fun K40 k40=>wp_block (aD fun K41 k41=>wp_region_lit (aA (aN dS aC rfl rfl (by omega) (by omega) (dC (Int.toNat_natCast _))) ?_));simp only[zz];refine aJ rfl (show hG _ _ _ _ (pt k9) from hr9.lies aI aC) ?_;simp only[zz];refine bA m bO rfl ?_;clear m;intro g10 u m;simp only[zz];refine aT m 0 rfl rfl rfl aC (cU rfl) rfl ?_;clear m;intro u m;simp only[zy,zx,bB,zF,zG,Nat.reduceAdd] at m;refine aF (k41 _ _ ?_);try clear k41 K41
                     refine mh m [true,true,false,true,true] [(0,true),(2,true),(1,true),(3,true),(4,false),(5,true),(6,false),(7,false),(8,true)] aM (by kernel_rfl) (cN (fun _ _ _ _ _ h=>h)) (ol:=?_) ?hol ?_
                     case hol=>simp only[zw,zQ,zR];try rfl
                     clear m;intro u m;refine aS (aB) (aS (aB) ?_);simp only[zz];refine cI rfl (fun u m=>((m.b 0 rfl).full aI aC)) ?_;simp only[zz];refine cI rfl (fun u m=>((m.b 0 rfl).full aI aC)) ?_;simp only[zz];refine cJ (eY (dV (ek:=pt) (en:=pt) (k:=k9) (v0:=⟨0,0,0⟩) Gq bO fD rfl rfl (m.p 4 rfl) hD62) ?_);simp only[zz];refine aF (⟨m.sel [true,true,false,true,true],?_⟩);refine aS (pL rfl rfl) (cJ ?_);simp only[zz];refine Cm rfl ?_;intro u g11 e hg hB;replace m:=m.newB e hg hB;clear e hg hB;refine aF (⟨m.sel [false,true,true,false,true,true],?_⟩);refine cJ ?_;simp only[zz];refine dD m 3 rfl rfl xB aba rfl (by decide) rfl rfl rfl (m.b 0 rfl).rowsO (jZ rfl) (by omega) (by omega) ?_;clear m;intro A20 cap20 u m;simp only[zF,zG] at m;rw [show ((jS Dm).take k).flatMap dT ++ _ = ((jS Dm).take (k + 1)).flatMap dT by rw [cQ hmv,List.flatMap_append];rfl] at m;refine aF (⟨m.sel [false,true,true,false,true,true],?_⟩);refine aS (aG) (aY (k40 _ _ ?_));try clear k40 K40
                     refine wp_region_lit ?_;simp only[zz];refine aA (aU rfl rfl (aV (by omega) (by omega))) (aA (aB) (aF ?_));simp only[zz];simp only[Exit.inBlock,Exit.then];refine ⟨Dm.length - (k + 1),_,?_,rfl,?_,?_⟩
                     · omega
                     · simp only[zz,zv]
                     · simp only[zQ,zR,zD,zE]
                       exact ⟨k + 1,_,_,rfl,(m.sel [false,false,true,true,true,true]),by omega,rfl⟩
                   · skip
                     obtain rfl : k = Dm.length:=by omega
                     rw [show (jS Dm).take Dm.length = jS Dm from List.take_of_length_le (by rw [wD];exact Nat.le_refl _)] at m;refine wp_exit (k36 _ _ ?_);try clear k36 K36
                     refine aD fun K42 k42=>wp_region_lit (aA (aB) (aA (aB) (aA (aG) (aA (aG) ?_))));simp only[zz];refine aF (k42 _ _ ?_);try clear k42 K42
                     refine wp_ret ?_;try simp only[Exit.inBlock,Exit.then,if_true]
                     refine uA rfl rfl rfl ?_;try simp only[zD,zE]
                     exact ⟨_,rfl,m.ext,_,_,_,_,_,_,rfl,by rw [oW hc0 (hS.trans hend)],by rw [oW hc0 (hS.trans hend)];exact (wD _).symm,by rw [oW hc0 (hS.trans hend)];exact m.sel [false,true,true,false]⟩
               · skip
                 obtain ⟨rfl,hbs,hbI⟩:=hbest.resolve_left (fun h=>by rw [h.1] at hc7;cases hc7);have hlu : ((cK Dq c.u).getD q0).length = 10:=by rw [hQ.get];exact hQ.len _
                 have hbu : yL (602 + 2 * (cX ts).length - l.length) ((cK Dq c.u).getD q0):=by rw [hQ.get];exact hQ.bd _
                 have hlv : ((cK Dq c.v).getD q0).length = 10:=by rw [hQ.get];exact hQ.len _
                 have hbv : yL (602 + 2 * (cX ts).length - l.length) ((cK Dq c.v).getD q0):=by rw [hQ.get];exact hQ.bd _
                 refine wp_skip (k33 _ _ ?_);try clear k33 K33
                 refine aD fun K43 k43=>wp_region_lit (aA (aB) (aA (aL (c:=2) iJ rfl aC rfl rfl) ?_));simp only[zz];refine aJ rfl ((m.b 0 rfl).lies aI aC rfl rfl) ?_;simp only[zz,zy,Nat.zero_add,Nat.reduceAdd,Nat.reduceMul,Int.reduceToNat];refine aA (aL (c:=2) iJ rfl aC rfl rfl) ?_;simp only[zz];refine aJ rfl ((m.b 0 rfl).lies aI aC rfl rfl) ?_;simp only[zz,zy,Nat.zero_add,Nat.reduceAdd,Nat.reduceMul,Int.reduceToNat];refine cD rfl rfl ((haveI:=hbI.1;haveI:=hbI.2;yA (p:=c.u) (q:=c.v) _ ((m.o 3 rfl).tris hit) (by omega))) ?_;rintro v u e ⟨A21,cap21,n21,hn21,rfl,hN⟩;replace m:=m.newO e hN;clear e hN;subst hn21;refine aA (aG) ?_;simp only[zz];replace m:=(m.pull 0 rfl).mv 3 rfl;simp only[dW,dX,zF,zG] at m;refine aF (k43 _ _ ?_);try clear k43 K43
                 refine aD fun K44 k44=>?_;refine eA m 12 aM (by kernel_rfl) ?_;simp only[zy];refine ql rfl (fun u m=>((m.b 8 rfl).lies1 Cj rfl)) ?_;simp only[zz];refine aK (aL (c:=2) iJ rfl aC rfl rfl) ?_;simp only[zz];refine ql rfl (fun u m=>((m.b 0 rfl).lies aI aC rfl rfl)) ?_;simp only[zz,zy,Nat.zero_add,Nat.reduceAdd,Nat.reduceMul,Int.reduceToNat];refine ql rfl (fun u m=>((m.b 8 rfl).lies1 Cj rfl)) ?_;simp only[zz];refine aK (aL (c:=2) iJ rfl aC rfl rfl) ?_;simp only[zz];refine ql rfl (fun u m=>((m.b 0 rfl).lies aI aC rfl rfl)) ?_;simp only[zz,zy,Nat.zero_add,Nat.reduceAdd,Nat.reduceMul,Int.reduceToNat];refine gZ (fun u m=>dV (ek:=pt) (en:=qV) (k:=c.u) (v0:=q0) Gp Xp fD rfl rfl (m.p 9 rfl) hD61) ?_;simp only[zz];refine ql rfl (fun u m=>((m.b 8 rfl).lies1 Cj rfl)) ?_;simp only[zz];refine aK (aL (c:=2) iJ rfl aC rfl rfl) ?_;simp only[zz];refine ql rfl (fun u m=>((m.b 0 rfl).lies aI aC rfl rfl)) ?_;simp only[zz,zy,Nat.zero_add,Nat.reduceAdd,Nat.reduceMul,Int.reduceToNat];refine gZ (fun u m=>dV (ek:=pt) (en:=qV) (k:=c.v) (v0:=q0) Gp Xp fD rfl rfl (m.p 9 rfl) hD61) ?_;simp only[zz];refine gV rfl rfl (Vg hlu hlv hbu hbv (by omega)) (bZ ?_);clear m;intro u m;simp only[zz];refine kD (ek:=pt) (en:=qV) (a:=c.v) (v:=(wN ((cK Dq c.u).getD q0) ((cK Dq c.v).getD q0))) m 9 rfl Gp fD rfl rfl rfl hD61 ?_;clear m;intro es61 c61 u m hD';clear hD61;have hD61:=hD';clear hD';simp only[zF,zG] at m;rw [hQ.get,hQ.get] at hD61;refine aF (k44 _ _ ?_);try clear k44 K44
                 refine aD fun K45 k45=>wp_region_lit (aJ rfl ((m.b 5 rfl).lies1 Mf rfl) ?_);simp only[zz];refine aA (eZ) ?_;simp only[zz,List.map_toArray,List.map_cons,List.map_nil];replace m:=m.pull 0 rfl;simp only[dW,dX,zF,zG] at m;replace m:=m.pull 6 rfl;simp only[dW,dX,zF,zG] at m;replace m:=m.pack2;refine jL rfl rfl (adl m hD60 hnC) ?_;clear m;rintro v u ⟨es60,Dc2,rfl,m,hD60,hnC2,hdel⟩;simp only[zz];replace m:=m.unpack2;refine aF (k45 _ _ ?_);try clear k45 K45
                 refine aD fun K46 k46=>aD fun K47 k47=>wp_region_lit (aA (aB) ?_);simp only[zz];refine qY m Gq rfl (m.p 7 rfl) ?_;clear m;intro r3 u m;refine aF (k47 _ _ ?_);try clear k47 K47
                 refine wp_block ?_;simp only[zz];try simp only[Nat.zero_add,Nat.reduceAdd,Nat.reduceMul,Int.reduceToNat]
                 refine bT [] [18,19,116,117,118,119,120,121,122,123,124,125,126,127,128] (fun n vs wl=>∃ (dn rs : List Mv) (sn : Array Nat) (es62 : Array MapEntry),vs = [] ∧ Mem w wl [iI r3 q62 c62 sn,mI q60 es60 c60,bI g8 (oL c) 112,oI 39 9 A21 (wM l c.u c.v).length cap21 ((wM l c.u c.v).flatMap aW),bI g5 [.map (some q60)] 100,mI q62 es62 c62,bI g2 [.map (some q61)] 93,mI q61 es61 c61] ∧ (bP pt pt (vO (dn.map (·.1)) c.u c.v Dm) es62 c62) ∧ (nW pt pt (vO (dn.map (·.1)) c.u c.v Dm) es62 sn dn rs) ∧ (n = rs.length)) ?_ ?_
                 · skip
                   apply Exists.intro;simp only[zQ,zR,zD,zE];exact ⟨[],Dm,#[],_,trivial,(m.sel [true,true,true,false,false,true,false,true,true,true,true]),(by rw [List.map_nil,Sb];exact hD62),(by rw [List.map_nil,Sb];exact nW.start hD62),rfl⟩
                 · intro n vs wr hI u
                   clear m;obtain ⟨dn,rs,sn,es62,rfl,m,hD62,hT5,hn5⟩:=hI;simp only[zu,zF,zG];refine aD fun K48 k48=>wp_region_lit (adc m 0 rfl rfl (m.p 5 rfl) hD62 hT5 ?_);clear m;intro bb kk vv sn u m hN;simp only[zF,zG] at m;refine aA (lW rfl) (aF (k48 _ _ ?_));try clear k48 K48
                   refine aD fun K49 k49=>?_;simp only[zz];refine eD rfl (fun hc8=>?_) (fun hc8=>?_)
                   · skip
                     obtain ⟨kp,kb,rs2,hp2,hT6⟩:=adi hc8 hN;obtain ⟨hnew,hmm⟩:=adp (by rw [wJ];exact hnM) hT6;refine wp_skip (k49 _ _ ?_);try clear k49 K49
                     refine wp_block (aD fun K50 k50=>wp_region_lit (eY (Sa rfl (m.r 0 rfl) (m.p 5 rfl) hD62 hT6) ?_));simp only[zz];refine aA (bC rfl rfl) (aA (bC rfl rfl) ?_);simp only[zz];refine bA m bO rfl ?_;clear m;intro g10 u m;simp only[zz];refine bA m bO rfl ?_;clear m;intro g11 u m;simp only[zz];refine aT m 1 rfl rfl rfl aC (cU rfl) rfl ?_;clear m;intro u m;simp only[zy,zx,bB,zF,zG,Nat.reduceAdd] at m;refine aT m 0 rfl rfl rfl aC (cU rfl) rfl ?_;clear m;intro u m;simp only[zy,zx,bB,zF,zG,Nat.reduceAdd] at m;refine aF (k50 _ _ ?_);try clear k50 K50
                     refine aD fun K51 k51=>wp_region_lit (aJ rfl ((m.b 0 rfl).full aI aC) ?_);simp only[zz];refine aA (aL (c:=2) iJ rfl aC rfl rfl) ?_;simp only[zz];refine aJ rfl ((m.b 4 rfl).lies aI aC rfl rfl) ?_;simp only[zz,zy,Nat.zero_add,Nat.reduceAdd,Nat.reduceMul,Int.reduceToNat];refine aA (cV rfl rfl) (aF (k51 _ _ ?_));try clear k51 K51
                     simp only[zz];refine eD rfl (fun hc9=>?_) (fun hc9=>?_)
                     · skip
                       rw [aeV,decide_eq_true_eq] at hc9;have hup:=ado hnM hmm hnew hc9;refine wp_region_lit (aA (aB) ?_);simp only[zz];refine aJ rfl ((m.b 1 rfl).full aI aC) ?_;simp only[zz];refine aA (aL (c:=2) iJ rfl aC rfl rfl) ?_;simp only[zz];refine aJ rfl ((m.b 4 rfl).lies aI aC rfl rfl) ?_;simp only[zz,zy,Nat.zero_add,Nat.reduceAdd,Nat.reduceMul,Int.reduceToNat];refine adf (ek:=pt) (ev:=pt) (a:=kp) (v:=c.v) m 7 rfl Gq fD rfl rfl rfl hD62 (by rw [wJ];exact hnM) hT6 ?_;clear m;intro es62 u m hD' hT';clear hD62;have hD62:=hD';clear hD';simp only[zF,zG] at m;refine aF ?_;rw [hup] at hD62 hT';simp only[Exit.inBlock,Exit.then];refine ⟨rs2.length,_,?_,rfl,?_,?_⟩
                       · rw [hn5,hp2.length_eq];exact Nat.lt_succ_self _
                       · simp only[zz,zv]
                       · simp only[zQ,zR,zD,zE]
                         exact ⟨dn ++ [(kp,c.v)],rs2,_,_,trivial,(m.sel [false,false,true,true,true,true,true,true,true,true]),(by rw [List.map_append];exact hD62),(by rw [List.map_append];exact hT'),rfl⟩
                     · skip
                       rw [aeV,decide_eq_false_iff_not] at hc9;have hup:=aay (v:=c.v) hnM hmm hnew hc9;refine wp_skip ?_;have hT7:=hT6.stay;rw [hup] at hD62 hT7;simp only[Exit.inBlock,Exit.then];refine ⟨rs2.length,_,?_,rfl,?_,?_⟩
                       · rw [hn5,hp2.length_eq];exact Nat.lt_succ_self _
                       · simp only[zz,zv]
                       · simp only[zQ,zR,zD,zE]
                         exact ⟨dn ++ [(kp,kb)],rs2,_,_,trivial,(m.sel [false,false,true,true,true,true,true,true,true,true]),(by rw [List.map_append];exact hD62),(by rw [List.map_append];exact hT7),rfl⟩
                   · skip
                     obtain rfl:=adh hc8 hN;have hdn:=hT5.done;have hall : ∀ e ∈ Dm,e.1 ∈ dn.map (·.1):=fun e he=>(hdn.map (·.1)).mem_iff.2 (by rw [wJ];exact List.mem_map_of_mem he);refine wp_exit (k46 _ _ ?_);try clear k46 K46
                     refine wp_region_lit (aA (aB) (aA (aL (c:=2) iJ rfl aC rfl rfl) ?_));simp only[zz];refine aJ rfl ((m.b 2 rfl).lies aI aC rfl rfl) ?_;simp only[zz,zy,Nat.zero_add,Nat.reduceAdd,Nat.reduceMul,Int.reduceToNat];refine aA (aL (c:=2) iJ rfl aC rfl rfl) ?_;simp only[zz];refine aJ rfl ((m.b 2 rfl).lies aI aC rfl rfl) ?_;simp only[zz,zy,Nat.zero_add,Nat.reduceAdd,Nat.reduceMul,Int.reduceToNat];refine kD (ek:=pt) (en:=pt) (a:=c.u) (v:=c.v) m 5 rfl Gq fD rfl rfl rfl hD62 ?_;clear m;intro es62 c62 u m hD';clear hD62;have hD62:=hD';clear hD';simp only[zF,zG] at m;rw [adn hall] at hD62;refine aF ?_;replace m:=m.pull 3 rfl;simp only[dW,dX,zF,zG] at m;replace m:=m.pull 7 rfl;simp only[dW,dX,zF,zG] at m;replace m:=m.pull 7 rfl;simp only[dW,dX,zF,zG] at m;replace m:=m.pull 7 rfl;simp only[dW,dX,zF,zG] at m;replace m:=m.pull 5 rfl;simp only[dW,dX,zF,zG] at m;replace m:=m.pull 7 rfl;simp only[dW,dX,zF,zG] at m;simp only[Exit.inBlock,Exit.then];refine ⟨(wM l c.u c.v).length,_,?_,rfl,?_,?_⟩
                     · have:=rY hbs;omega
                     · simp only[zz,zv]
                     · simp only[zQ,zR,zD,zE]
                       exact ⟨(wM l c.u c.v),(Mz Q c.u c.v),_,_,_,_,_,_,_,_,_,_,(toF Dm c.u c.v),rfl,(m.sel [true,true,true,true,true,true,false,false]),hD60,(hC.upd hdel),hnC2,hD61,hD62,((hQ.upd c.u c.v).mono (by have:=rY hbs;omega)),(pW (Wx hbI.2 hit)),(ahr l c.u c.v),(aiu hnM _ _),(hS.trans (aaz hw (by omega) hbs)),(by have:=rY hbs;have:=aeX Dm c.u c.v;omega),rfl⟩
         · skip
           have hend:=Sd (l:=l) (want:=want) (Q:=Q) (D:=Dm) (.inl (by omega));refine wp_exit (k16 _ _ ?_);try clear k16 K16
           refine aD fun K52 k52=>wp_region_lit (aA (aG) (aF ?_));simp only[zz];replace m:=m.nilO 55 6;refine k52 _ _ ?_;try clear k52 K52
           refine aD fun K53 k53=>aD fun K54 k54=>wp_region_lit (aA (aB) ?_);simp only[zz];refine cD rfl rfl (acA (q:=q62) _) ?_;rintro v u e ⟨g6,rfl,hg,hB⟩;replace m:=m.newB e hg hB;clear e hg hB;simp only[zz];refine cD rfl rfl (Rl _ aa3 (Ef (m.p 4 rfl) hD62 (m.b 0 rfl)) (fun xs h=>by rw [h.length_eq,List.length_map];exact Nat.le_refl _) (by omega)) ?_;rintro v u e ⟨xs,ys,⟨A22,cap22,n22,hn22,rfl,hN⟩,hxs,hys,hso⟩;replace m:=m.newO e hN;clear e hN;obtain rfl : n22 = Dm.length:=by rw [hn22,hxs.length_eq,List.length_map]
           obtain rfl : ys = tP (Dm.map (·.1)):=Hs hnM (hys.trans hxs) hso;refine aA (bH rfl dS rfl) (aA (aB) (aF (k54 _ _ ?_)));try clear k54 K54
           refine wp_block ?_;simp only[zz];try simp only[Nat.zero_add,Nat.reduceAdd,Nat.reduceMul,Int.reduceToNat]
           refine bT [20,138] [22,139,140,141,142,143,144,145,146,147,148,149,150] (fun n vs wl=>∃ (k : Nat) (A20 : Option Addr) (cap20 : Nat),vs = [.slice A20 k cap20,.int .i64 (k:Int)] ∧ Mem w wl [oI 30 3 A22 Dm.length cap22 ((tP (Dm.map (·.1))).flatMap eX),oI 55 6 A20 k cap20 (((jS Dm).take k).flatMap dT),mI q62 es62 c62,oI 39 9 A1 l.length cap1 (l.flatMap aW)] ∧ (k ≤ Dm.length) ∧ (n = Dm.length - k)) ?_ ?_
           · skip
             apply Exists.intro;simp only[zQ,zR,zD,zE];exact ⟨0,_,_,rfl,(m.sel [true,false,true,false,false,true,false,false,true]),Nat.zero_le _,rfl⟩
           · intro n vs wr hI u
             clear m;obtain ⟨k,A20,cap20,rfl,m,hk,hn6⟩:=hI;simp only[zu,zF,zG];refine aD fun K55 k55=>wp_region_lit (aA (cW rfl rfl) (aF (k55 _ _ ?_)));try clear k55 K55
             refine aD fun K56 k56=>?_;simp only[zz];refine cG rfl (fun hc10=>?_) (fun hc10=>?_)
             · skip
               obtain ⟨k9,hk9,a9,hA9,hr9⟩:=((m.o 0 rfl).lat (enc:=eX) (fun _=>rfl) (by decide)).get (i:=k) (by omega);subst hA9;have hmv:=afq hk9;refine wp_skip (k56 _ _ ?_);try clear k56 K56
               refine aD fun K57 k57=>wp_block (aD fun K58 k58=>wp_region_lit (aA (aN dS aC rfl rfl (by omega) (by omega) (dC (Int.toNat_natCast _))) ?_));simp only[zz];refine aJ rfl (show hG _ _ _ _ (pt k9) from hr9.lies aI aC) ?_;simp only[zz];refine bA m bO rfl ?_;clear m;intro g7 u m;simp only[zz];refine aT m 0 rfl rfl rfl aC (cU rfl) rfl ?_;clear m;intro u m;simp only[zy,zx,bB,zF,zG,Nat.reduceAdd] at m;refine aF (k58 _ _ ?_);try clear k58 K58
               refine mh m [true,true,false,true,true] [(0,true),(2,true),(1,true),(3,true),(4,false),(5,true),(6,false),(7,false),(8,true)] aM (by kernel_rfl) (cN (fun _ _ _ _ _ h=>h)) (ol:=?_) ?hol ?_
               case hol=>simp only[zw,zQ,zR];try rfl
               clear m;intro u m;refine aS (aB) (aS (aB) ?_);simp only[zz];refine cI rfl (fun u m=>((m.b 0 rfl).full aI aC)) ?_;simp only[zz];refine cI rfl (fun u m=>((m.b 0 rfl).full aI aC)) ?_;simp only[zz];refine cJ (eY (dV (ek:=pt) (en:=pt) (k:=k9) (v0:=⟨0,0,0⟩) Gq bO fD rfl rfl (m.p 3 rfl) hD62) ?_);simp only[zz];refine aF (⟨m.sel [true,true,false,true,true],?_⟩);refine aS (pL rfl rfl) (cJ ?_);simp only[zz];refine Cm rfl ?_;intro u g8 e hg hB;replace m:=m.newB e hg hB;clear e hg hB;refine aF (⟨m.sel [false,true,true,false,true,true],?_⟩);refine cJ ?_;simp only[zz];refine dD m 3 rfl rfl xB aba rfl (by decide) rfl rfl rfl (m.b 0 rfl).rowsO (jZ rfl) (by omega) (by omega) ?_;clear m;intro A20 cap20 u m;simp only[zF,zG] at m;rw [show ((jS Dm).take k).flatMap dT ++ _ = ((jS Dm).take (k + 1)).flatMap dT by rw [cQ hmv,List.flatMap_append];rfl] at m;refine aF (⟨m.sel [false,true,true,false,true,true],?_⟩);refine aS (aG) (aY (k57 _ _ ?_));try clear k57 K57
               refine wp_region_lit ?_;simp only[zz];refine aA (aU rfl rfl (aV (by omega) (by omega))) (aA (aB) (aF ?_));simp only[zz];simp only[Exit.inBlock,Exit.then];refine ⟨Dm.length - (k + 1),_,?_,rfl,?_,?_⟩
               · omega
               · simp only[zz,zv]
               · simp only[zQ,zR,zD,zE]
                 exact ⟨k + 1,_,_,rfl,(m.sel [false,false,true,true,true,true]),by omega,rfl⟩
             · skip
               obtain rfl : k = Dm.length:=by omega
               rw [show (jS Dm).take Dm.length = jS Dm from List.take_of_length_le (by rw [wD];exact Nat.le_refl _)] at m;refine wp_exit (k53 _ _ ?_);try clear k53 K53
               refine aD fun K59 k59=>wp_region_lit (aA (aB) (aA (aB) (aA (aG) (aA (aG) ?_))));simp only[zz];refine aF (k59 _ _ ?_);try clear k59 K59
               refine wp_ret ?_;try simp only[Exit.inBlock,Exit.then,if_true]
               refine uA rfl rfl rfl ?_;try simp only[zD,zE]
               exact ⟨_,rfl,m.ext,_,_,_,_,_,_,rfl,by rw [oW hc0 (hS.trans hend)],by rw [oW hc0 (hS.trans hend)];exact (wD _).symm,by rw [oW hc0 (hS.trans hend)];exact m.sel [false,true,false,true]⟩
end Go.Proofs.YtfekpcimgncioaaGreatDoor
namespace Go.Proofs.YtfekpcimgncioaaGreatDoor
open Go.Proofs.Tryz
open Go.RowKit Go.Lith
set_option maxRecDepth 100000
attribute [local irreducible] wpList wpQuiet dB bL cE Code.wp
theorem tI {P : Program} {f : FuncId} {args : List Value} {w : World} {v v' : Value} (h : eG P f args w fun u _=>u = v) (e : v = v') : eG P f args w fun u _=>u = v':=e ▸ h
theorem Ij {p : P3} (h : (-1000 ≤ p.x ∧ p.x ≤ 1000) ∧ (-1000 ≤ p.y ∧ p.y ≤ 1000) ∧ (-1000 ≤ p.z ∧ p.z ≤ 1000)) : I3 p:=⟨by unfold tU;omega,by unfold tU;omega,by unfold tU;omega⟩
instance sx3 : I3 (⟨10,0,0⟩ : P3):=Ij (by decide)
instance sy3 : I3 (⟨0,10,0⟩ : P3):=Ij (by decide)
instance sz3 : I3 (⟨-10,0,0⟩ : P3):=Ij (by decide)
instance sa3 : I3 (⟨0,0,0⟩ : P3):=Ij (by decide)
instance sb3 : I3 (⟨9,0,0⟩ : P3):=Ij (by decide)
instance sc3 : I3 (⟨0,9,0⟩ : P3):=Ij (by decide)
instance sd3 : I3 (⟨0,0,9⟩ : P3):=Ij (by decide)
theorem Fj : ∀ t ∈ wO,IT t:=pW abV
def s1T : List T3:=[⟨⟨0,0,0⟩,⟨0,9,0⟩,⟨9,0,0⟩⟩,⟨⟨0,0,0⟩,⟨9,0,0⟩,⟨0,0,9⟩⟩,⟨⟨9,0,0⟩,⟨0,9,0⟩,⟨0,0,9⟩⟩,⟨⟨0,9,0⟩,⟨0,0,0⟩,⟨0,0,9⟩⟩]
def s2T : List T3:=[⟨⟨0,0,0⟩,⟨9,0,0⟩,⟨0,9,0⟩⟩]
theorem aki : ∀ t ∈ s1T,IT t:=fun t ht=>by
 simp only[s1T,List.mem_cons,List.not_mem_nil,or_false] at ht;rcases ht with rfl | rfl | rfl | rfl
 · exact ⟨sa3,sc3,sb3⟩
 · exact ⟨sa3,sb3,sd3⟩
 · exact ⟨sb3,sc3,sd3⟩
 · exact ⟨sc3,sa3,sd3⟩
theorem akj : ∀ t ∈ s2T,IT t:=fun t ht=>by
 simp only[s2T,List.mem_cons,List.not_mem_nil,or_false] at ht;subst ht;exact ⟨sa3,sb3,sc3⟩
theorem aiw : Ic wO ⟨10,0,0⟩ ⟨0,10,0⟩ = true:=by rw [Ic,Zr,aea];decide
theorem aix : Ic wO ⟨10,0,0⟩ ⟨-10,0,0⟩ = false:=by rw [Ic,aeb,Bool.and_false]
theorem akH : Ic s1T ⟨0,0,0⟩ ⟨9,0,0⟩ = false:=by kernel_rfl
theorem akI : (wM s2T ⟨0,0,0⟩ ⟨9,0,0⟩).length = 0:=by kernel_rfl
theorem aiy : (qN wO 7).1.length = 6:=congrArg Prod.fst Qs
theorem aiz : (qN wO 7).2 = [(⟨-10,0,0⟩,⟨0,-10,0⟩)]:=congrArg Prod.snd Qs
theorem adq  : eQ prog 14 [] (.bool true):=by
 intro w;refine ⟨aiR,?_⟩;have m:=Mem.refl w
 go_enter func14,ntmps14
 refine aD fun K1 k1=>wp_region_lit (aA (aG) (aF (k1 _ _ ?_)));try clear k1 K1
 refine aD fun K2 k2=>wp_region_lit ?_;simp only[zz];refine cD rfl rfl (ahB _) ?_;rintro v u e ⟨A1,cap1,n1,rfl,rfl,hN⟩;replace m:=m.newO e hN;clear e hN;refine aA (aG) (aF (k2 _ _ ?_));try clear k2 K2
 refine aD fun K3 k3=>wp_region_lit (aA (kB rfl) ?_);simp only[zz];refine bA m bO rfl ?_;clear m;intro g1 u m;simp only[zz];refine aT m 0 rfl rfl rfl aC (cU rfl) rfl ?_;clear m;intro u m;simp only[zy,zx,bB,zF,zG,Nat.reduceAdd] at m;refine aF (k3 _ _ ?_);try clear k3 K3
 refine aD fun K4 k4=>wp_region_lit (aA (aB) ?_);simp only[zz];refine aJ rfl ((m.b 0 rfl).full aI aC) ?_;simp only[zz];refine aA (kC rfl) ?_;simp only[zz];refine eE m rfl rfl (tI (wH (ts:=wO) (p:=⟨10,0,0⟩) (q:=⟨0,10,0⟩) _ ((m.o 1 rfl).tris Fj) (by decide)) (by rw [aiw])) ?_;clear m;rintro v u m rfl;refine aA (aB) (bM rfl (aA (aB) (bM rfl ?_)));simp only[zz];refine aJ rfl ((m.b 0 rfl).full aI aC) ?_;simp only[zz];refine bM rfl (aA (kB rfl) (bM rfl ?_));simp only[zz];refine eE m rfl rfl (tI (wH (ts:=wO) (p:=⟨10,0,0⟩) (q:=⟨-10,0,0⟩) _ ((m.o 1 rfl).tris Fj) (by decide)) (by rw [aix])) ?_;clear m;rintro v u m rfl;refine bM rfl (aA (fR rfl) (aA (eK rfl) (aA (aB) ?_)));simp only[zz];refine bM rfl (aA (aB) (bM rfl ?_));simp only[zz];refine aJ rfl ((m.b 0 rfl).full aI aC) ?_;simp only[zz];refine bM rfl (aA (kC rfl) (bM rfl ?_));simp only[zz];refine cD rfl rfl (yA (ts:=wO) (p:=⟨10,0,0⟩) (q:=⟨0,10,0⟩) _ ((m.o 1 rfl).tris Fj) (by decide)) ?_;rintro v u e ⟨A2,cap2,n2,hn2,rfl,hN⟩;replace m:=m.newO e hN;clear e hN;obtain rfl : n2 = 6:=by rw [hn2];exact aec
 refine bM rfl (aA (bH rfl bQ rfl) (bM rfl (aA (qQ rfl rfl (rfl)) (aA (eK rfl) ?_))));simp only[zz];refine aA (aG) (aF (k4 _ _ ?_));try clear k4 K4
 refine aD fun K5 k5=>wp_region_lit (aA (Pi) ?_);simp only[zz];refine bA m bO rfl ?_;clear m;intro g2 u m;simp only[zz];refine aT m 0 rfl rfl rfl aC (cU rfl) rfl ?_;clear m;intro u m;simp only[zy,zx,bB,zF,zG,Nat.reduceAdd] at m;refine aF (k5 _ _ ?_);try clear k5 K5
 refine aD fun K6 k6=>wp_region_lit (aA (kB rfl) ?_);simp only[zz];refine bA m bO rfl ?_;clear m;intro g3 u m;simp only[zz];refine aT m 0 rfl rfl rfl aC (cU rfl) rfl ?_;clear m;intro u m;simp only[zy,zx,bB,zF,zG,Nat.reduceAdd] at m;refine aF (k6 _ _ ?_);try clear k6 K6
 refine aD fun K7 k7=>wp_region_lit (aA (kC rfl) ?_);simp only[zz];refine bA m bO rfl ?_;clear m;intro g4 u m;simp only[zz];refine aT m 0 rfl rfl rfl aC (cU rfl) rfl ?_;clear m;intro u m;simp only[zy,zx,bB,zF,zG,Nat.reduceAdd] at m;refine aF (k7 _ _ ?_);try clear k7 K7
 refine aD fun K8 k8=>wp_region_lit (aA (sQ rfl) ?_);simp only[zz];refine bA m bO rfl ?_;clear m;intro g5 u m;simp only[zz];refine aT m 0 rfl rfl rfl aC (cU rfl) rfl ?_;clear m;intro u m;simp only[zy,zx,bB,zF,zG,Nat.reduceAdd] at m;refine aF (k8 _ _ ?_);try clear k8 K8
 refine aD fun K9 k9=>wp_region_lit (aJ rfl ((m.b 3 rfl).full aI aC) ?_);simp only[zz];refine aJ rfl ((m.b 1 rfl).full aI aC) ?_;simp only[zz];refine aJ rfl ((m.b 2 rfl).full aI aC) ?_;simp only[zz];refine aA (cO rfl rfl rfl) ?_;simp only[zz];refine aJ rfl ((m.b 3 rfl).full aI aC) ?_;simp only[zz];refine aJ rfl ((m.b 2 rfl).full aI aC) ?_;simp only[zz];refine aJ rfl ((m.b 0 rfl).full aI aC) ?_;simp only[zz];refine aA (cO rfl rfl rfl) ?_;simp only[zz];refine aJ rfl ((m.b 2 rfl).full aI aC) ?_;simp only[zz];refine aJ rfl ((m.b 1 rfl).full aI aC) ?_;simp only[zz];refine aJ rfl ((m.b 0 rfl).full aI aC) ?_;simp only[zz];refine aA (cO rfl rfl rfl) ?_;simp only[zz];refine aJ rfl ((m.b 1 rfl).full aI aC) ?_;simp only[zz];refine aJ rfl ((m.b 3 rfl).full aI aC) ?_;simp only[zz];refine aJ rfl ((m.b 0 rfl).full aI aC) ?_;simp only[zz];refine aA (cO rfl rfl rfl) ?_;simp only[zz];refine Yw rfl rfl rfl rfl ?_;intro u g6 e hg hB;replace m:=m.newB e hg hB;clear e hg hB;simp only[zz];replace m:=m.own 0 rfl (n:=4) (c:=9) rfl (cU rfl);simp only[zG] at m;refine aJ rfl ((m.b 4 rfl).full aI aC) ?_;simp only[zz];refine aJ rfl ((m.b 3 rfl).full aI aC) ?_;simp only[zz];refine eE m rfl rfl (tI (wH (ts:=s1T) (p:=⟨0,0,0⟩) (q:=⟨9,0,0⟩) _ (((m.o 0 rfl).as (show _ = s1T.flatMap aW from rfl)).tris aki) (by decide)) (by rw [akH])) ?_;clear m;rintro v u m rfl;refine aA (fR rfl) (aA (aB) (bM rfl ?_));simp only[zz];refine aJ rfl ((m.b 4 rfl).full aI aC) ?_;simp only[zz];refine bM rfl (aJ rfl ((m.b 3 rfl).full aI aC) ?_);simp only[zz];refine bM rfl (aJ rfl ((m.b 2 rfl).full aI aC) ?_);simp only[zz];refine bM rfl (aA (cO rfl rfl rfl) (bM rfl ?_));simp only[zz];refine eT rfl ?_;intro u g7 e hg hB;replace m:=m.newB e hg hB;clear e hg hB;simp only[zz];replace m:=m.own 0 rfl (n:=1) (c:=9) rfl (cU rfl);simp only[zG] at m;refine bM rfl (aJ rfl ((m.b 5 rfl).full aI aC) ?_);simp only[zz];refine bM rfl (aJ rfl ((m.b 4 rfl).full aI aC) ?_);simp only[zz];refine bM rfl (cD rfl rfl (yA (ts:=s2T) (p:=⟨0,0,0⟩) (q:=⟨9,0,0⟩) _ (((m.o 0 rfl).as (show _ = s2T.flatMap aW from rfl)).tris akj) (by decide)) ?_);rintro v u e ⟨A5,cap5,n5,hn5,rfl,hN⟩;replace m:=m.newO e hN;clear e hN;obtain rfl : n5 = 0:=by rw [hn5];exact akI
 refine bM rfl (aA (bH rfl bQ rfl) (bM rfl (aA (qQ rfl rfl (rfl)) (aA (eK rfl) ?_))));simp only[zz];refine aA (aG) (aF (k9 _ _ ?_));try clear k9 K9
 refine aD fun K10 k10=>wp_region_lit (aA (aB) ?_);simp only[zz];refine cD rfl rfl (yM (ts:=wO) (want:=7) _ ((m.o 9 rfl).tris Fj) (by decide) (by decide)) ?_;rintro v u e ⟨A7,n7,c7,A8,n8,c8,rfl,hn7,hn8,hM⟩;replace m:=m.plus hM;clear hM e;simp only[List.cons_append,List.nil_append] at m;obtain rfl : n7 = 6:=hn7.trans aiy;rw [aiz] at hn8 m;obtain rfl : n8 = 1:=hn8;refine aA (aB) (aA (bC rfl rfl) (aA (bC rfl rfl) ?_));simp only[zz];refine aA (aG) (aA (aG) (aF (k10 _ _ ?_)));try clear k10 K10
 refine aD fun K11 k11=>wp_region_lit (aA (aB) (aA (aB) ?_));simp only[zz];refine bM rfl (aA (aB) (aA (eK rfl) (aA (aB) (bM rfl (aA (aB) ?_)))));simp only[zz];refine bM rfl (aA (bH rfl bQ rfl) (bM rfl (aA (qQ rfl rfl (rfl)) (aA (eK rfl) (aA (aB) ?_)))));simp only[zz];refine bM rfl (aA (aB) (bM rfl (aA (kB rfl) (bM rfl (aA (kC rfl) (bM rfl (aA (pL rfl rfl) ?_)))))));simp only[zz];refine bM rfl (Cm rfl ?_);intro u g8 e hg hB;replace m:=m.newB e hg hB;clear e hg hB;simp only[zz];replace m:=m.own 0 rfl (n:=1) (c:=6) rfl (cU rfl);simp only[zG] at m;refine bM rfl (eE m rfl rfl (tI (abR (xs:=[(⟨-10,0,0⟩,⟨0,-10,0⟩)]) (ys:=[(⟨-10,0,0⟩,⟨0,-10,0⟩)]) _ ((m.o 1 rfl).lat ed6 (by decide)) (((m.o 0 rfl).as (show _ = ([(⟨-10,0,0⟩,⟨0,-10,0⟩)] : List E3).flatMap dT from rfl)).lat ed6 (by decide)) (by decide)) (by rw [decide_eq_true rfl])) ?_);clear m;rintro v u m rfl;refine aA (eK rfl) (aA (aG) (aF (k11 _ _ ?_)));try clear k11 K11
 refine wp_ret ?_;simp only[zz];try simp only[Exit.inBlock,Exit.then,if_true]
 refine bE rfl rfl ?_;try simp only[zD,zE]
 exact ⟨_,rfl,m.ext,rfl⟩
end Go.Proofs.YtfekpcimgncioaaGreatDoor
namespace Go.Lith
open Go.RowKit Go.ChangeShapes
variable {H : Type} {enc : TypeId × Value → H} {P : Program} {w : World} {base : Nat} {spare : Nat → Bool} {held : Bool}
theorem Se {v : Value} {A : Option Addr} {len cap : Nat} (h : v.cells.toList = [.slice A len cap]) (hv : ∀ cs,v ≠ .agg cs) : v = .slice A len cap:=by
 cases v <;> first | (exact absurd rfl (hv _)) | (simp [Value.cells] at h;done) | (simpa [Value.cells] using h)
theorem Sf {r : Reach} {b0 n : Nat} {t e : TypeId} {v : Value} {d : DataW H} {p : List MemPlace} (hu : P.underlying t = some (.slice e)) (hi : pH P n e = true) (hc : P.cellsOf e = 9) (hv : Value.okWide P w r b0 t v) (h : DataW.Trod enc P w base spare held t v d p) :
 ∃ (A : Option Addr) (len cap : Nat) (ts : List T3),v = .slice A len cap ∧ bY w A len ts:=by
 obtain ⟨fuel,hf⟩:=h;obtain ⟨A,len,cap,ts,e,_,_,_,h1⟩:=Yg hu hi hc hf;refine ⟨A,len,cap,ts,Se e fun cs hcs=>?_,h1⟩;unfold Value.okWide at hv;rw [hu] at hv;subst hcs;simp [Cell.okWide,Cell.ok,hu] at hv
end Go.Lith
