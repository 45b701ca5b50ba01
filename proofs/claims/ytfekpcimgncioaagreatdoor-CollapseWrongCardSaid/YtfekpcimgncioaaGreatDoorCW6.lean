/-
 Texts of one claim, laid together: K7, Guard2, K8, K9, K10, K11, Kt, K16, Round, Sides, LoopF, Seq, K26, Near2, Ifc, Tch1, K12, K13.
-/
import Derived.RangeFuncNested
import Derived.OrdersIn
import Derived.RangeFuncCalls
import Derived.RangeFuncBox
import Derived.Stop.Asserts
import Derived.Test.YtfekpcimgncioaaGreatDoorCW5
set_option maxHeartbeats 8000000
set_option linter.unusedSimpArgs false
set_option linter.unusedVariables false
set_option linter.unusedSectionVars false
namespace Go.Proofs.YtfekpcimgncioaaGreatDoor
open Go.Proofs.Tryz
open Go.RowKit Go.Lith
set_option maxRecDepth 100000
attribute [local irreducible] wpList wpQuiet dB bL cE Code.wp
theorem nM (m n : Int) : (if n < m then n else m) = min m n:=by omega
theorem nN (m n : Int) : (if m < n then n else m) = max m n:=by omega
theorem Rb {t : T3} : eQ prog 173 [tr t] (.agg #[.int .i64 (xY t 0),.int .i64 (xY t 1),.int .i64 (xY t 2),.int .i64 (xZ t 0),.int .i64 (xZ t 1),.int .i64 (xZ t 2)]):=by
 intro w;refine ⟨agr,?_⟩;have m:=Mem.refl w
 go_enter func173,ntmps173
 refine aD fun K1 k1=>wp_region_lit (cB m rfl ?_);clear m;intro g1 u m;simp only[zz];refine bA m Ac rfl ?_;clear m;intro g2 u m;refine aF (k1 _ _ ?_);try clear k1 K1
 refine aD fun K2 k2=>wp_region_lit (aA (aH bD aC rfl rfl (by decide) (by decide) rfl) (aA (aL (c:=0) dL rfl aO rfl rfl) ?_));simp only[zz];refine aJ rfl ((m.b 1 rfl).lies1 aX rfl) ?_;simp only[zz];refine aA (aH bD aC rfl rfl (by decide) (by decide) rfl) (aA (aL (c:=0) dL rfl aO rfl rfl) ?_);simp only[zz];refine aJ rfl ((m.b 1 rfl).lies1 aX rfl) ?_;simp only[zz];refine aA (aH bD aC rfl rfl (by decide) (by decide) rfl) (aA (aL (c:=0) dL rfl aO rfl rfl) ?_);simp only[zz];refine aJ rfl ((m.b 1 rfl).lies1 aX rfl) ?_;simp only[zz];refine aA (dP rfl rfl rfl) (aA (aH bD aC rfl rfl (by decide) (by decide) rfl) (aA (aL (c:=0) dL rfl aO rfl rfl) ?_));simp only[zz];refine aJ rfl ((m.b 1 rfl).lies1 aX rfl) ?_;simp only[zz];refine aA (aH bD aC rfl rfl (by decide) (by decide) rfl) (aA (aL (c:=0) dL rfl aO rfl rfl) ?_);simp only[zz];refine aJ rfl ((m.b 1 rfl).lies1 aX rfl) ?_;simp only[zz];refine aA (aH bD aC rfl rfl (by decide) (by decide) rfl) (aA (aL (c:=0) dL rfl aO rfl rfl) ?_);simp only[zz];refine aJ rfl ((m.b 1 rfl).lies1 aX rfl) ?_;simp only[zz];refine aA (dP rfl rfl rfl) (aA (En rfl rfl) ?_);simp only[zz];refine bA m Ac rfl ?_;clear m;intro g3 u m;simp only[zz];refine aT m 0 rfl rfl rfl oO (cU rfl) rfl ?_;clear m;intro u m;simp only[zy,zx,bB,zF,zG,Nat.reduceAdd] at m;refine aF (k2 _ _ ?_);try clear k2 K2
 refine aD fun K3 k3=>aD fun K4 k4=>wp_region_lit (aA (Uv bD aC rfl rfl rfl (by decide) (by decide) rfl) (aA (bH rfl dS rfl) (aA (aB) (aF (k4 _ _ ?_)))));try clear k4 K4
 refine wp_block (wp_loop_rounds 3 (bU (aD fun K5 k5=>wp_region_lit (aA (bF (m:=0) (n:=2) rfl rfl (by decide)) ?_))));simp only[zz];refine aF (k5 _ _ ?_);try clear k5 K5
 refine aD fun K6 k6=>bK rfl (wp_skip (k6 _ _ ?_));try clear k6 K6
 refine aD fun K7 k7=>wp_block (aD fun K8 k8=>wp_region_lit (aA (aN dS aC rfl rfl (by decide) (by omega) rfl) ?_));simp only[zz];refine aJ rfl ((m.b 2 rfl).lies aI aC rfl rfl) ?_;simp only[zz,zy,Nat.zero_add,Nat.reduceAdd,Nat.reduceMul,Int.reduceToNat];refine bA m bO rfl ?_;clear m;intro g4 u m;simp only[zz];refine aT m 0 rfl rfl rfl aC (cU rfl) rfl ?_;clear m;intro u m;simp only[zy,zx,bB,zF,zG,Nat.reduceAdd] at m;refine aF (k8 _ _ ?_);try clear k8 K8
 refine aD fun K9 k9=>wp_region_lit (aA (aL (c:=0) dL rfl aO rfl rfl) ?_);simp only[zz];refine aJ rfl ((m.b 0 rfl).lies1 aX rfl) ?_;simp only[zz];refine aA (aL (c:=0) dL rfl aO rfl rfl) ?_;simp only[zz];refine aJ rfl ((m.b 0 rfl).lies1 aX rfl) ?_;simp only[zz];refine aA (aL (c:=0) dL rfl aO rfl rfl) ?_;simp only[zz];refine aJ rfl ((m.b 0 rfl).lies1 aX rfl) ?_;simp only[zz];refine aA (dP rfl rfl rfl) (aA (aB) (aF (k9 _ _ ?_)));try clear k9 K9
 refine wp_block (wp_loop_rounds 4 (bU (aD fun K10 k10=>wp_region_lit (aA (bF (m:=0) (n:=3) rfl rfl (by decide)) (aF (k10 _ _ ?_))))));try clear k10 K10
 refine aD fun K11 k11=>bK rfl (wp_skip (k11 _ _ ?_));try clear k11 K11
 refine aD fun K12 k12=>wp_block (aD fun K13 k13=>wp_region_lit (aA (aB) ?_));simp only[zz];refine aA (gN rfl rfl) (aA (aG) (aA (aG) (aF (k13 _ _ ?_))));try clear k13 K13
 simp only[zz];refine iM m 1 [] [46,47,48,49,50,51,52,53,54,55,56,57,58,59,60,61,62,63] (fun vs i=>vs = [] ∧ i = bI g3 [.int .i64 (min (t.a.x) t.b.x),.int .i64 (t.a.y),.int .i64 (t.a.z),.int .i64 (max (t.a.x) t.b.x),.int .i64 (t.a.y),.int .i64 (t.a.z)] 222) ?_ ?_
 · skip
   refine wX m [true,false,true,true] (.take 0 (.take 1 (.take 2 (.take 3 (.take 4 (.take 6 (.take 8 (.take 9 (.take 10 (.take 12 (.take 14 (.take 17 (.two 5 (.take 7 (.one 11 (.take 13 (.take 15 (.one 16 (.take 18 (.one 19 .nil))))))) 11 (.take 13 (.one 5 (.take 7 (.take 15 (.one 16 (.take 18 (.one 19 .nil)))))))))))))))))))) aM (by kernel_rfl) (cN (fun _ _ _ _ _ h=>h)) ?_;clear m;intro u m;refine aZ (by simp only[zw];rfl) (aS (aB) (aY (aZ (by simp only[zw];rfl) (aS (aB) (aY (aZ (by simp only[zw];rfl) (aS (aB) (aY (aZ (by simp only[zw];rfl) (aS (aL (c:=2) dR rfl bV rfl rfl) ?_))))))))));simp only[zz];refine aY (aZ (by simp only[zw];rfl) (aS (aH cP aO rfl rfl (by decide) (by decide) rfl) (aY (aZ (by simp only[zw];rfl) (aS (aB) (aY (aZ (by simp only[zw];rfl) (aS (aB) (aY (aZ (by simp only[zw];rfl) (aS (aL (c:=2) dR rfl bV rfl rfl) ?_)))))))))));simp only[zz];refine aY (aZ (by simp only[zw];rfl) (aS (aH cP aO rfl rfl (by decide) (by decide) rfl) (aY (aZ (by simp only[zw];rfl) (aS (aB) (aY (aZ (by simp only[zw];rfl) (aS (aL (c:=2) dR rfl bV rfl rfl) (aY (aZ (by simp only[zw];rfl) (aS (aL (c:=2) dR rfl bV rfl rfl) ?_)))))))))));simp only[zz];refine aY ?_;refine wV (by simp only[zw];rfl) (by simp only[zw];rfl) ?_ ?_
   · skip
     refine aJ rfl ((m.b 1 rfl).lies1 aX rfl) ?_;simp only[zz];refine aF (⟨m.sel [true,false,true,true],?_⟩);refine aZ (by simp only[zw];rfl) (aS (tK rfl rfl (nM _ _)) (aY (dZ (by simp only[zw];rfl) ?_)));simp only[zz];refine aJ rfl ((m.b 1 rfl).lies1 aX rfl) ?_;simp only[zz];refine aF (⟨m.sel [true,false,true,true],?_⟩);refine aZ (by simp only[zw];rfl) (aS (jK rfl rfl (nN _ _)) (aY (aZ (by simp only[zw];rfl) (aS (aH cP aO rfl rfl (by decide) (by decide) rfl) (aY (dZ (by simp only[zw];rfl) ?_))))));simp only[zz];refine cH m 1 rfl rfl rfl aO (cU rfl) ⟨rfl,rfl⟩ ?_;clear m;intro u m;simp only[zz,zy,zx,bB,Nat.reduceAdd] at m;refine aF (⟨m.sel [true,false,true,true],?_⟩);refine aZ (by simp only[zw];rfl) (aS (aH cP aO rfl rfl (by decide) (by decide) rfl) (aY (dZ (by simp only[zw];rfl) ?_)));simp only[zz];refine cH m 1 rfl rfl rfl aO (cU rfl) ⟨rfl,rfl⟩ ?_;clear m;intro u m;simp only[zz,zy,zx,bB,Nat.reduceAdd] at m;refine aF (⟨m.sel [true,false,true,true],?_⟩);refine lH ?_;simp only[Exit.inBlock,Exit.then];refine ⟨_,_,rfl,?_,m,?_⟩
     · simp only[zz,zv]
     · simp only[zQ,zR,zD,zE]
       exact ⟨trivial,rfl⟩
   · skip
     refine aJ rfl ((m.b 1 rfl).lies1 aX rfl) ?_;simp only[zz];refine aF (⟨m.sel [true,false,true,true],?_⟩);refine aZ (by simp only[zw];rfl) (aS (jK rfl rfl (nN _ _)) (aY (dZ (by simp only[zw];rfl) ?_)));simp only[zz];refine aJ rfl ((m.b 1 rfl).lies1 aX rfl) ?_;simp only[zz];refine aF (⟨m.sel [true,false,true,true],?_⟩);refine aZ (by simp only[zw];rfl) (aS (tK rfl rfl (nM _ _)) (aY (aZ (by simp only[zw];rfl) (aS (aH cP aO rfl rfl (by decide) (by decide) rfl) (aY (dZ (by simp only[zw];rfl) ?_))))));simp only[zz];refine cH m 1 rfl rfl rfl aO (cU rfl) ⟨rfl,rfl⟩ ?_;clear m;intro u m;simp only[zz,zy,zx,bB,Nat.reduceAdd] at m;refine aF (⟨m.sel [true,false,true,true],?_⟩);refine aZ (by simp only[zw];rfl) (aS (aH cP aO rfl rfl (by decide) (by decide) rfl) (aY (dZ (by simp only[zw];rfl) ?_)));simp only[zz];refine cH m 1 rfl rfl rfl aO (cU rfl) ⟨rfl,rfl⟩ ?_;clear m;intro u m;simp only[zz,zy,zx,bB,Nat.reduceAdd] at m;refine aF (⟨m.sel [true,false,true,true],?_⟩);refine lH ?_;simp only[Exit.inBlock,Exit.then];refine ⟨_,_,rfl,?_,m,?_⟩
     · simp only[zz,zv]
     · simp only[zQ,zR,zD,zE]
       exact ⟨trivial,rfl⟩
 · intro vs i wr m hI u
   obtain ⟨rfl,rfl⟩:=hI;simp only[zF,zG] at m;simp only[zu,zF,zG];refine k12 _ _ ?_;try clear k12 K12
   refine wp_region_lit (aA (aU (m:=0) (n:=1) (r:=1) rfl rfl (by decide)) (aA (aB) (aF (aQ (aD fun K14 k14=>wp_region_lit (aA (bF (m:=1) (n:=3) rfl rfl (by decide)) (aF (k14 _ _ ?_))))))));try clear k14 K14
   refine aD fun K15 k15=>bK rfl (wp_skip (k15 _ _ ?_));try clear k15 K15
   refine aD fun K16 k16=>wp_block (aD fun K17 k17=>wp_region_lit (aA (aB) ?_));simp only[zz];refine aA (gP rfl rfl) (aA (aG) (aA (aG) (aF (k17 _ _ ?_))));try clear k17 K17
   simp only[zz];refine iM m 1 [] [46,47,48,49,50,51,52,53,54,55,56,57,58,59,60,61,62,63] (fun vs i=>vs = [] ∧ i = bI g3 [.int .i64 (min (t.a.x) t.b.x),.int .i64 (min (t.a.y) t.b.y),.int .i64 (t.a.z),.int .i64 (max (t.a.x) t.b.x),.int .i64 (max (t.a.y) t.b.y),.int .i64 (t.a.z)] 222) ?_ ?_
   · skip
     refine wX m [true,false,true,true] (.take 0 (.take 1 (.take 2 (.take 3 (.take 4 (.take 6 (.take 8 (.take 9 (.take 10 (.take 12 (.take 14 (.take 17 (.two 5 (.take 7 (.one 11 (.take 13 (.take 15 (.one 16 (.take 18 (.one 19 .nil))))))) 11 (.take 13 (.one 5 (.take 7 (.take 15 (.one 16 (.take 18 (.one 19 .nil)))))))))))))))))))) aM (by kernel_rfl) (cN (fun _ _ _ _ _ h=>h)) ?_;clear m;intro u m;refine aZ (by simp only[zw];rfl) (aS (aB) (aY (aZ (by simp only[zw];rfl) (aS (aB) (aY (aZ (by simp only[zw];rfl) (aS (aB) (aY (aZ (by simp only[zw];rfl) (aS (aL (c:=2) dR rfl bV rfl rfl) ?_))))))))));simp only[zz];refine aY (aZ (by simp only[zw];rfl) (aS (aH cP aO rfl rfl (by decide) (by decide) rfl) (aY (aZ (by simp only[zw];rfl) (aS (aB) (aY (aZ (by simp only[zw];rfl) (aS (aB) (aY (aZ (by simp only[zw];rfl) (aS (aL (c:=2) dR rfl bV rfl rfl) ?_)))))))))));simp only[zz];refine aY (aZ (by simp only[zw];rfl) (aS (aH cP aO rfl rfl (by decide) (by decide) rfl) (aY (aZ (by simp only[zw];rfl) (aS (aB) (aY (aZ (by simp only[zw];rfl) (aS (aL (c:=2) dR rfl bV rfl rfl) (aY (aZ (by simp only[zw];rfl) (aS (aL (c:=2) dR rfl bV rfl rfl) ?_)))))))))));simp only[zz];refine aY ?_;refine wV (by simp only[zw];rfl) (by simp only[zw];rfl) ?_ ?_
     · skip
       refine aJ rfl ((m.b 1 rfl).lies1 aX rfl) ?_;simp only[zz];refine aF (⟨m.sel [true,false,true,true],?_⟩);refine aZ (by simp only[zw];rfl) (aS (tK rfl rfl (nM _ _)) (aY (dZ (by simp only[zw];rfl) ?_)));simp only[zz];refine aJ rfl ((m.b 1 rfl).lies1 aX rfl) ?_;simp only[zz];refine aF (⟨m.sel [true,false,true,true],?_⟩);refine aZ (by simp only[zw];rfl) (aS (jK rfl rfl (nN _ _)) (aY (aZ (by simp only[zw];rfl) (aS (aH cP aO rfl rfl (by decide) (by decide) rfl) (aY (dZ (by simp only[zw];rfl) ?_))))));simp only[zz];refine cH m 1 rfl rfl rfl aO (cU rfl) ⟨rfl,rfl⟩ ?_;clear m;intro u m;simp only[zz,zy,zx,bB,Nat.reduceAdd] at m;refine aF (⟨m.sel [true,false,true,true],?_⟩);refine aZ (by simp only[zw];rfl) (aS (aH cP aO rfl rfl (by decide) (by decide) rfl) (aY (dZ (by simp only[zw];rfl) ?_)));simp only[zz];refine cH m 1 rfl rfl rfl aO (cU rfl) ⟨rfl,rfl⟩ ?_;clear m;intro u m;simp only[zz,zy,zx,bB,Nat.reduceAdd] at m;refine aF (⟨m.sel [true,false,true,true],?_⟩);refine lH ?_;simp only[Exit.inBlock,Exit.then];refine ⟨_,_,rfl,?_,m,?_⟩
       · simp only[zz,zv]
       · simp only[zQ,zR,zD,zE]
         exact ⟨trivial,rfl⟩
     · skip
       refine aJ rfl ((m.b 1 rfl).lies1 aX rfl) ?_;simp only[zz];refine aF (⟨m.sel [true,false,true,true],?_⟩);refine aZ (by simp only[zw];rfl) (aS (jK rfl rfl (nN _ _)) (aY (dZ (by simp only[zw];rfl) ?_)));simp only[zz];refine aJ rfl ((m.b 1 rfl).lies1 aX rfl) ?_;simp only[zz];refine aF (⟨m.sel [true,false,true,true],?_⟩);refine aZ (by simp only[zw];rfl) (aS (tK rfl rfl (nM _ _)) (aY (aZ (by simp only[zw];rfl) (aS (aH cP aO rfl rfl (by decide) (by decide) rfl) (aY (dZ (by simp only[zw];rfl) ?_))))));simp only[zz];refine cH m 1 rfl rfl rfl aO (cU rfl) ⟨rfl,rfl⟩ ?_;clear m;intro u m;simp only[zz,zy,zx,bB,Nat.reduceAdd] at m;refine aF (⟨m.sel [true,false,true,true],?_⟩);refine aZ (by simp only[zw];rfl) (aS (aH cP aO rfl rfl (by decide) (by decide) rfl) (aY (dZ (by simp only[zw];rfl) ?_)));simp only[zz];refine cH m 1 rfl rfl rfl aO (cU rfl) ⟨rfl,rfl⟩ ?_;clear m;intro u m;simp only[zz,zy,zx,bB,Nat.reduceAdd] at m;refine aF (⟨m.sel [true,false,true,true],?_⟩);refine lH ?_;simp only[Exit.inBlock,Exit.then];refine ⟨_,_,rfl,?_,m,?_⟩
       · simp only[zz,zv]
       · simp only[zQ,zR,zD,zE]
         exact ⟨trivial,rfl⟩
   · intro vs i wr m hI u
     obtain ⟨rfl,rfl⟩:=hI;simp only[zF,zG] at m;simp only[zu,zF,zG];refine k16 _ _ ?_;try clear k16 K16
     refine wp_region_lit (aA (aU (m:=1) (n:=1) (r:=2) rfl rfl (by decide)) (aA (aB) (aF (aQ (aD fun K18 k18=>wp_region_lit (aA (bF (m:=2) (n:=3) rfl rfl (by decide)) (aF (k18 _ _ ?_))))))));try clear k18 K18
     refine aD fun K19 k19=>bK rfl (wp_skip (k19 _ _ ?_));try clear k19 K19
     refine aD fun K20 k20=>wp_block (aD fun K21 k21=>wp_region_lit (aA (aB) ?_));simp only[zz];refine aA (gQ rfl rfl) (aA (aG) (aA (aG) (aF (k21 _ _ ?_))));try clear k21 K21
     simp only[zz];refine iM m 1 [] [46,47,48,49,50,51,52,53,54,55,56,57,58,59,60,61,62,63] (fun vs i=>vs = [] ∧ i = bI g3 [.int .i64 (min (t.a.x) t.b.x),.int .i64 (min (t.a.y) t.b.y),.int .i64 (min (t.a.z) t.b.z),.int .i64 (max (t.a.x) t.b.x),.int .i64 (max (t.a.y) t.b.y),.int .i64 (max (t.a.z) t.b.z)] 222) ?_ ?_
     · skip
       refine wX m [true,false,true,true] (.take 0 (.take 1 (.take 2 (.take 3 (.take 4 (.take 6 (.take 8 (.take 9 (.take 10 (.take 12 (.take 14 (.take 17 (.two 5 (.take 7 (.one 11 (.take 13 (.take 15 (.one 16 (.take 18 (.one 19 .nil))))))) 11 (.take 13 (.one 5 (.take 7 (.take 15 (.one 16 (.take 18 (.one 19 .nil)))))))))))))))))))) aM (by kernel_rfl) (cN (fun _ _ _ _ _ h=>h)) ?_;clear m;intro u m;refine aZ (by simp only[zw];rfl) (aS (aB) (aY (aZ (by simp only[zw];rfl) (aS (aB) (aY (aZ (by simp only[zw];rfl) (aS (aB) (aY (aZ (by simp only[zw];rfl) (aS (aL (c:=2) dR rfl bV rfl rfl) ?_))))))))));simp only[zz];refine aY (aZ (by simp only[zw];rfl) (aS (aH cP aO rfl rfl (by decide) (by decide) rfl) (aY (aZ (by simp only[zw];rfl) (aS (aB) (aY (aZ (by simp only[zw];rfl) (aS (aB) (aY (aZ (by simp only[zw];rfl) (aS (aL (c:=2) dR rfl bV rfl rfl) ?_)))))))))));simp only[zz];refine aY (aZ (by simp only[zw];rfl) (aS (aH cP aO rfl rfl (by decide) (by decide) rfl) (aY (aZ (by simp only[zw];rfl) (aS (aB) (aY (aZ (by simp only[zw];rfl) (aS (aL (c:=2) dR rfl bV rfl rfl) (aY (aZ (by simp only[zw];rfl) (aS (aL (c:=2) dR rfl bV rfl rfl) ?_)))))))))));simp only[zz];refine aY ?_;refine wV (by simp only[zw];rfl) (by simp only[zw];rfl) ?_ ?_
       · skip
         refine aJ rfl ((m.b 1 rfl).lies1 aX rfl) ?_;simp only[zz];refine aF (⟨m.sel [true,false,true,true],?_⟩);refine aZ (by simp only[zw];rfl) (aS (tK rfl rfl (nM _ _)) (aY (dZ (by simp only[zw];rfl) ?_)));simp only[zz];refine aJ rfl ((m.b 1 rfl).lies1 aX rfl) ?_;simp only[zz];refine aF (⟨m.sel [true,false,true,true],?_⟩);refine aZ (by simp only[zw];rfl) (aS (jK rfl rfl (nN _ _)) (aY (aZ (by simp only[zw];rfl) (aS (aH cP aO rfl rfl (by decide) (by decide) rfl) (aY (dZ (by simp only[zw];rfl) ?_))))));simp only[zz];refine cH m 1 rfl rfl rfl aO (cU rfl) ⟨rfl,rfl⟩ ?_;clear m;intro u m;simp only[zz,zy,zx,bB,Nat.reduceAdd] at m;refine aF (⟨m.sel [true,false,true,true],?_⟩);refine aZ (by simp only[zw];rfl) (aS (aH cP aO rfl rfl (by decide) (by decide) rfl) (aY (dZ (by simp only[zw];rfl) ?_)));simp only[zz];refine cH m 1 rfl rfl rfl aO (cU rfl) ⟨rfl,rfl⟩ ?_;clear m;intro u m;simp only[zz,zy,zx,bB,Nat.reduceAdd] at m;refine aF (⟨m.sel [true,false,true,true],?_⟩);refine lH ?_;simp only[Exit.inBlock,Exit.then];refine ⟨_,_,rfl,?_,m,?_⟩
         · simp only[zz,zv]
         · simp only[zQ,zR,zD,zE]
           exact ⟨trivial,rfl⟩
       · skip
         refine aJ rfl ((m.b 1 rfl).lies1 aX rfl) ?_;simp only[zz];refine aF (⟨m.sel [true,false,true,true],?_⟩);refine aZ (by simp only[zw];rfl) (aS (jK rfl rfl (nN _ _)) (aY (dZ (by simp only[zw];rfl) ?_)));simp only[zz];refine aJ rfl ((m.b 1 rfl).lies1 aX rfl) ?_;simp only[zz];refine aF (⟨m.sel [true,false,true,true],?_⟩);refine aZ (by simp only[zw];rfl) (aS (tK rfl rfl (nM _ _)) (aY (aZ (by simp only[zw];rfl) (aS (aH cP aO rfl rfl (by decide) (by decide) rfl) (aY (dZ (by simp only[zw];rfl) ?_))))));simp only[zz];refine cH m 1 rfl rfl rfl aO (cU rfl) ⟨rfl,rfl⟩ ?_;clear m;intro u m;simp only[zz,zy,zx,bB,Nat.reduceAdd] at m;refine aF (⟨m.sel [true,false,true,true],?_⟩);refine aZ (by simp only[zw];rfl) (aS (aH cP aO rfl rfl (by decide) (by decide) rfl) (aY (dZ (by simp only[zw];rfl) ?_)));simp only[zz];refine cH m 1 rfl rfl rfl aO (cU rfl) ⟨rfl,rfl⟩ ?_;clear m;intro u m;simp only[zz,zy,zx,bB,Nat.reduceAdd] at m;refine aF (⟨m.sel [true,false,true,true],?_⟩);refine lH ?_;simp only[Exit.inBlock,Exit.then];refine ⟨_,_,rfl,?_,m,?_⟩
         · simp only[zz,zv]
         · simp only[zQ,zR,zD,zE]
           exact ⟨trivial,rfl⟩
     · intro vs i wr m hI u
       obtain ⟨rfl,rfl⟩:=hI;simp only[zF,zG] at m;simp only[zu,zF,zG];refine k20 _ _ ?_;try clear k20 K20
       refine wp_region_lit (aA (aU (m:=2) (n:=1) (r:=3) rfl rfl (by decide)) (aA (aB) (aF (aQ (aD fun K22 k22=>wp_region_lit (aA (dM (m:=3) (n:=3) rfl rfl (by decide)) (aF (k22 _ _ ?_))))))));try clear k22 K22
       refine aD fun K23 k23=>gA rfl (wp_exit (k7 _ _ ?_));try clear k7 K7
       refine wp_region_lit (aA (aU (m:=0) (n:=1) (r:=1) rfl rfl (by decide)) ?_);simp only[zz];refine aA (aB) (aF (aQ (aD fun K24 k24=>wp_region_lit (aA (bF (m:=1) (n:=2) rfl rfl (by decide)) (aF (k24 _ _ ?_))))));try clear k24 K24
       refine aD fun K25 k25=>bK rfl (wp_skip (k25 _ _ ?_));try clear k25 K25
       refine aD fun K26 k26=>wp_block (aD fun K27 k27=>wp_region_lit ?_);simp only[zz];refine aA (aN dS aC rfl rfl (by decide) (by omega) rfl) ?_;simp only[zz];refine aJ rfl ((m.b 3 rfl).lies aI aC rfl rfl) ?_;simp only[zz,zy,Nat.zero_add,Nat.reduceAdd,Nat.reduceMul,Int.reduceToNat];refine bA m bO rfl ?_;clear m;intro g5 u m;simp only[zz];refine aT m 0 rfl rfl rfl aC (cU rfl) rfl ?_;clear m;intro u m;simp only[zy,zx,bB,zF,zG,Nat.reduceAdd] at m;refine aF (k27 _ _ ?_);try clear k27 K27
       refine aD fun K28 k28=>wp_region_lit (aA (aL (c:=0) dL rfl aO rfl rfl) ?_);simp only[zz];refine aJ rfl ((m.b 0 rfl).lies1 aX rfl) ?_;simp only[zz];refine aA (aL (c:=0) dL rfl aO rfl rfl) ?_;simp only[zz];refine aJ rfl ((m.b 0 rfl).lies1 aX rfl) ?_;simp only[zz];refine aA (aL (c:=0) dL rfl aO rfl rfl) ?_;simp only[zz];refine aJ rfl ((m.b 0 rfl).lies1 aX rfl) ?_;simp only[zz];refine aA (dP rfl rfl rfl) (aA (aB) (aF (k28 _ _ ?_)));try clear k28 K28
       refine wp_block (wp_loop_rounds 4 (bU (aD fun K29 k29=>wp_region_lit (aA (bF (m:=0) (n:=3) rfl rfl (by decide)) (aF (k29 _ _ ?_))))));try clear k29 K29
       refine aD fun K30 k30=>bK rfl (wp_skip (k30 _ _ ?_));try clear k30 K30
       refine aD fun K31 k31=>wp_block (aD fun K32 k32=>wp_region_lit (aA (aB) ?_));simp only[zz];refine aA (gN rfl rfl) (aA (aG) (aA (aG) (aF (k32 _ _ ?_))));try clear k32 K32
       simp only[zz];refine iM m 2 [] [46,47,48,49,50,51,52,53,54,55,56,57,58,59,60,61,62,63] (fun vs i=>vs = [] ∧ i = bI g3 [.int .i64 (min (min (t.a.x) t.b.x) t.c.x),.int .i64 (min (t.a.y) t.b.y),.int .i64 (min (t.a.z) t.b.z),.int .i64 (max (max (t.a.x) t.b.x) t.c.x),.int .i64 (max (t.a.y) t.b.y),.int .i64 (max (t.a.z) t.b.z)] 222) ?_ ?_
       · skip
         refine wX m [true,true,false,true,true] (.take 0 (.take 1 (.take 2 (.take 3 (.take 4 (.take 6 (.take 8 (.take 9 (.take 10 (.take 12 (.take 14 (.take 17 (.two 5 (.take 7 (.one 11 (.take 13 (.take 15 (.one 16 (.take 18 (.one 19 .nil))))))) 11 (.take 13 (.one 5 (.take 7 (.take 15 (.one 16 (.take 18 (.one 19 .nil)))))))))))))))))))) aM (by kernel_rfl) (cN (fun _ _ _ _ _ h=>h)) ?_;clear m;intro u m;refine aZ (by simp only[zw];rfl) (aS (aB) (aY (aZ (by simp only[zw];rfl) (aS (aB) (aY (aZ (by simp only[zw];rfl) (aS (aB) (aY (aZ (by simp only[zw];rfl) (aS (aL (c:=2) dR rfl bV rfl rfl) ?_))))))))));simp only[zz];refine aY (aZ (by simp only[zw];rfl) (aS (aH cP aO rfl rfl (by decide) (by decide) rfl) (aY (aZ (by simp only[zw];rfl) (aS (aB) (aY (aZ (by simp only[zw];rfl) (aS (aB) (aY (aZ (by simp only[zw];rfl) (aS (aL (c:=2) dR rfl bV rfl rfl) ?_)))))))))));simp only[zz];refine aY (aZ (by simp only[zw];rfl) (aS (aH cP aO rfl rfl (by decide) (by decide) rfl) (aY (aZ (by simp only[zw];rfl) (aS (aB) (aY (aZ (by simp only[zw];rfl) (aS (aL (c:=2) dR rfl bV rfl rfl) (aY (aZ (by simp only[zw];rfl) (aS (aL (c:=2) dR rfl bV rfl rfl) ?_)))))))))));simp only[zz];refine aY ?_;refine wV (by simp only[zw];rfl) (by simp only[zw];rfl) ?_ ?_
         · skip
           refine aJ rfl ((m.b 2 rfl).lies1 aX rfl) ?_;simp only[zz];refine aF (⟨m.sel [true,true,false,true,true],?_⟩);refine aZ (by simp only[zw];rfl) (aS (tK rfl rfl (nM _ _)) (aY (dZ (by simp only[zw];rfl) ?_)));simp only[zz];refine aJ rfl ((m.b 2 rfl).lies1 aX rfl) ?_;simp only[zz];refine aF (⟨m.sel [true,true,false,true,true],?_⟩);refine aZ (by simp only[zw];rfl) (aS (jK rfl rfl (nN _ _)) (aY (aZ (by simp only[zw];rfl) (aS (aH cP aO rfl rfl (by decide) (by decide) rfl) (aY (dZ (by simp only[zw];rfl) ?_))))));simp only[zz];refine cH m 2 rfl rfl rfl aO (cU rfl) ⟨rfl,rfl⟩ ?_;clear m;intro u m;simp only[zz,zy,zx,bB,Nat.reduceAdd] at m;refine aF (⟨m.sel [true,true,false,true,true],?_⟩);refine aZ (by simp only[zw];rfl) (aS (aH cP aO rfl rfl (by decide) (by decide) rfl) (aY (dZ (by simp only[zw];rfl) ?_)));simp only[zz];refine cH m 2 rfl rfl rfl aO (cU rfl) ⟨rfl,rfl⟩ ?_;clear m;intro u m;simp only[zz,zy,zx,bB,Nat.reduceAdd] at m;refine aF (⟨m.sel [true,true,false,true,true],?_⟩);refine lH ?_;simp only[Exit.inBlock,Exit.then];refine ⟨_,_,rfl,?_,m,?_⟩
           · simp only[zz,zv]
           · simp only[zQ,zR,zD,zE]
             exact ⟨trivial,rfl⟩
         · skip
           refine aJ rfl ((m.b 2 rfl).lies1 aX rfl) ?_;simp only[zz];refine aF (⟨m.sel [true,true,false,true,true],?_⟩);refine aZ (by simp only[zw];rfl) (aS (jK rfl rfl (nN _ _)) (aY (dZ (by simp only[zw];rfl) ?_)));simp only[zz];refine aJ rfl ((m.b 2 rfl).lies1 aX rfl) ?_;simp only[zz];refine aF (⟨m.sel [true,true,false,true,true],?_⟩);refine aZ (by simp only[zw];rfl) (aS (tK rfl rfl (nM _ _)) (aY (aZ (by simp only[zw];rfl) (aS (aH cP aO rfl rfl (by decide) (by decide) rfl) (aY (dZ (by simp only[zw];rfl) ?_))))));simp only[zz];refine cH m 2 rfl rfl rfl aO (cU rfl) ⟨rfl,rfl⟩ ?_;clear m;intro u m;simp only[zz,zy,zx,bB,Nat.reduceAdd] at m;refine aF (⟨m.sel [true,true,false,true,true],?_⟩);refine aZ (by simp only[zw];rfl) (aS (aH cP aO rfl rfl (by decide) (by decide) rfl) (aY (dZ (by simp only[zw];rfl) ?_)));simp only[zz];refine cH m 2 rfl rfl rfl aO (cU rfl) ⟨rfl,rfl⟩ ?_;clear m;intro u m;simp only[zz,zy,zx,bB,Nat.reduceAdd] at m;refine aF (⟨m.sel [true,true,false,true,true],?_⟩);refine lH ?_;simp only[Exit.inBlock,Exit.then];refine ⟨_,_,rfl,?_,m,?_⟩
           · simp only[zz,zv]
           · simp only[zQ,zR,zD,zE]
             exact ⟨trivial,rfl⟩
       · intro vs i wr m hI u
         obtain ⟨rfl,rfl⟩:=hI;simp only[zF,zG] at m;simp only[zu,zF,zG];refine k31 _ _ ?_;try clear k31 K31
         refine wp_region_lit (aA (aU (m:=0) (n:=1) (r:=1) rfl rfl (by decide)) (aA (aB) (aF (aQ (aD fun K33 k33=>wp_region_lit (aA (bF (m:=1) (n:=3) rfl rfl (by decide)) (aF (k33 _ _ ?_))))))));try clear k33 K33
         refine aD fun K34 k34=>bK rfl (wp_skip (k34 _ _ ?_));try clear k34 K34
         refine aD fun K35 k35=>wp_block (aD fun K36 k36=>wp_region_lit (aA (aB) ?_));simp only[zz];refine aA (gP rfl rfl) (aA (aG) (aA (aG) (aF (k36 _ _ ?_))));try clear k36 K36
         simp only[zz];refine iM m 2 [] [46,47,48,49,50,51,52,53,54,55,56,57,58,59,60,61,62,63] (fun vs i=>vs = [] ∧ i = bI g3 [.int .i64 (min (min (t.a.x) t.b.x) t.c.x),.int .i64 (min (min (t.a.y) t.b.y) t.c.y),.int .i64 (min (t.a.z) t.b.z),.int .i64 (max (max (t.a.x) t.b.x) t.c.x),.int .i64 (max (max (t.a.y) t.b.y) t.c.y),.int .i64 (max (t.a.z) t.b.z)] 222) ?_ ?_
         · skip
           refine wX m [true,true,false,true,true] (.take 0 (.take 1 (.take 2 (.take 3 (.take 4 (.take 6 (.take 8 (.take 9 (.take 10 (.take 12 (.take 14 (.take 17 (.two 5 (.take 7 (.one 11 (.take 13 (.take 15 (.one 16 (.take 18 (.one 19 .nil))))))) 11 (.take 13 (.one 5 (.take 7 (.take 15 (.one 16 (.take 18 (.one 19 .nil)))))))))))))))))))) aM (by kernel_rfl) (cN (fun _ _ _ _ _ h=>h)) ?_;clear m;intro u m;refine aZ (by simp only[zw];rfl) (aS (aB) (aY (aZ (by simp only[zw];rfl) (aS (aB) (aY (aZ (by simp only[zw];rfl) (aS (aB) (aY (aZ (by simp only[zw];rfl) (aS (aL (c:=2) dR rfl bV rfl rfl) ?_))))))))));simp only[zz];refine aY (aZ (by simp only[zw];rfl) (aS (aH cP aO rfl rfl (by decide) (by decide) rfl) (aY (aZ (by simp only[zw];rfl) (aS (aB) (aY (aZ (by simp only[zw];rfl) (aS (aB) (aY (aZ (by simp only[zw];rfl) (aS (aL (c:=2) dR rfl bV rfl rfl) ?_)))))))))));simp only[zz];refine aY (aZ (by simp only[zw];rfl) (aS (aH cP aO rfl rfl (by decide) (by decide) rfl) (aY (aZ (by simp only[zw];rfl) (aS (aB) (aY (aZ (by simp only[zw];rfl) (aS (aL (c:=2) dR rfl bV rfl rfl) (aY (aZ (by simp only[zw];rfl) (aS (aL (c:=2) dR rfl bV rfl rfl) ?_)))))))))));simp only[zz];refine aY ?_;refine wV (by simp only[zw];rfl) (by simp only[zw];rfl) ?_ ?_
           · skip
             refine aJ rfl ((m.b 2 rfl).lies1 aX rfl) ?_;simp only[zz];refine aF (⟨m.sel [true,true,false,true,true],?_⟩);refine aZ (by simp only[zw];rfl) (aS (tK rfl rfl (nM _ _)) (aY (dZ (by simp only[zw];rfl) ?_)));simp only[zz];refine aJ rfl ((m.b 2 rfl).lies1 aX rfl) ?_;simp only[zz];refine aF (⟨m.sel [true,true,false,true,true],?_⟩);refine aZ (by simp only[zw];rfl) (aS (jK rfl rfl (nN _ _)) (aY (aZ (by simp only[zw];rfl) (aS (aH cP aO rfl rfl (by decide) (by decide) rfl) (aY (dZ (by simp only[zw];rfl) ?_))))));simp only[zz];refine cH m 2 rfl rfl rfl aO (cU rfl) ⟨rfl,rfl⟩ ?_;clear m;intro u m;simp only[zz,zy,zx,bB,Nat.reduceAdd] at m;refine aF (⟨m.sel [true,true,false,true,true],?_⟩);refine aZ (by simp only[zw];rfl) (aS (aH cP aO rfl rfl (by decide) (by decide) rfl) (aY (dZ (by simp only[zw];rfl) ?_)));simp only[zz];refine cH m 2 rfl rfl rfl aO (cU rfl) ⟨rfl,rfl⟩ ?_;clear m;intro u m;simp only[zz,zy,zx,bB,Nat.reduceAdd] at m;refine aF (⟨m.sel [true,true,false,true,true],?_⟩);refine lH ?_;simp only[Exit.inBlock,Exit.then];refine ⟨_,_,rfl,?_,m,?_⟩
             · simp only[zz,zv]
             · simp only[zQ,zR,zD,zE]
               exact ⟨trivial,rfl⟩
           · skip
             refine aJ rfl ((m.b 2 rfl).lies1 aX rfl) ?_;simp only[zz];refine aF (⟨m.sel [true,true,false,true,true],?_⟩);refine aZ (by simp only[zw];rfl) (aS (jK rfl rfl (nN _ _)) (aY (dZ (by simp only[zw];rfl) ?_)));simp only[zz];refine aJ rfl ((m.b 2 rfl).lies1 aX rfl) ?_;simp only[zz];refine aF (⟨m.sel [true,true,false,true,true],?_⟩);refine aZ (by simp only[zw];rfl) (aS (tK rfl rfl (nM _ _)) (aY (aZ (by simp only[zw];rfl) (aS (aH cP aO rfl rfl (by decide) (by decide) rfl) (aY (dZ (by simp only[zw];rfl) ?_))))));simp only[zz];refine cH m 2 rfl rfl rfl aO (cU rfl) ⟨rfl,rfl⟩ ?_;clear m;intro u m;simp only[zz,zy,zx,bB,Nat.reduceAdd] at m;refine aF (⟨m.sel [true,true,false,true,true],?_⟩);refine aZ (by simp only[zw];rfl) (aS (aH cP aO rfl rfl (by decide) (by decide) rfl) (aY (dZ (by simp only[zw];rfl) ?_)));simp only[zz];refine cH m 2 rfl rfl rfl aO (cU rfl) ⟨rfl,rfl⟩ ?_;clear m;intro u m;simp only[zz,zy,zx,bB,Nat.reduceAdd] at m;refine aF (⟨m.sel [true,true,false,true,true],?_⟩);refine lH ?_;simp only[Exit.inBlock,Exit.then];refine ⟨_,_,rfl,?_,m,?_⟩
             · simp only[zz,zv]
             · simp only[zQ,zR,zD,zE]
               exact ⟨trivial,rfl⟩
         · intro vs i wr m hI u
           obtain ⟨rfl,rfl⟩:=hI;simp only[zF,zG] at m;simp only[zu,zF,zG];refine k35 _ _ ?_;try clear k35 K35
           refine wp_region_lit (aA (aU (m:=1) (n:=1) (r:=2) rfl rfl (by decide)) (aA (aB) (aF (aQ (aD fun K37 k37=>wp_region_lit (aA (bF (m:=2) (n:=3) rfl rfl (by decide)) (aF (k37 _ _ ?_))))))));try clear k37 K37
           refine aD fun K38 k38=>bK rfl (wp_skip (k38 _ _ ?_));try clear k38 K38
           refine aD fun K39 k39=>wp_block (aD fun K40 k40=>wp_region_lit (aA (aB) ?_));simp only[zz];refine aA (gQ rfl rfl) (aA (aG) (aA (aG) (aF (k40 _ _ ?_))));try clear k40 K40
           simp only[zz];refine iM m 2 [] [46,47,48,49,50,51,52,53,54,55,56,57,58,59,60,61,62,63] (fun vs i=>vs = [] ∧ i = bI g3 [.int .i64 (min (min (t.a.x) t.b.x) t.c.x),.int .i64 (min (min (t.a.y) t.b.y) t.c.y),.int .i64 (min (min (t.a.z) t.b.z) t.c.z),.int .i64 (max (max (t.a.x) t.b.x) t.c.x),.int .i64 (max (max (t.a.y) t.b.y) t.c.y),.int .i64 (max (max (t.a.z) t.b.z) t.c.z)] 222) ?_ ?_
           · skip
             refine wX m [true,true,false,true,true] (.take 0 (.take 1 (.take 2 (.take 3 (.take 4 (.take 6 (.take 8 (.take 9 (.take 10 (.take 12 (.take 14 (.take 17 (.two 5 (.take 7 (.one 11 (.take 13 (.take 15 (.one 16 (.take 18 (.one 19 .nil))))))) 11 (.take 13 (.one 5 (.take 7 (.take 15 (.one 16 (.take 18 (.one 19 .nil)))))))))))))))))))) aM (by kernel_rfl) (cN (fun _ _ _ _ _ h=>h)) ?_;clear m;intro u m;refine aZ (by simp only[zw];rfl) (aS (aB) (aY (aZ (by simp only[zw];rfl) (aS (aB) (aY (aZ (by simp only[zw];rfl) (aS (aB) (aY (aZ (by simp only[zw];rfl) (aS (aL (c:=2) dR rfl bV rfl rfl) ?_))))))))));simp only[zz];refine aY (aZ (by simp only[zw];rfl) (aS (aH cP aO rfl rfl (by decide) (by decide) rfl) (aY (aZ (by simp only[zw];rfl) (aS (aB) (aY (aZ (by simp only[zw];rfl) (aS (aB) (aY (aZ (by simp only[zw];rfl) (aS (aL (c:=2) dR rfl bV rfl rfl) ?_)))))))))));simp only[zz];refine aY (aZ (by simp only[zw];rfl) (aS (aH cP aO rfl rfl (by decide) (by decide) rfl) (aY (aZ (by simp only[zw];rfl) (aS (aB) (aY (aZ (by simp only[zw];rfl) (aS (aL (c:=2) dR rfl bV rfl rfl) (aY (aZ (by simp only[zw];rfl) (aS (aL (c:=2) dR rfl bV rfl rfl) ?_)))))))))));simp only[zz];refine aY ?_;refine wV (by simp only[zw];rfl) (by simp only[zw];rfl) ?_ ?_
             · skip
               refine aJ rfl ((m.b 2 rfl).lies1 aX rfl) ?_;simp only[zz];refine aF (⟨m.sel [true,true,false,true,true],?_⟩);refine aZ (by simp only[zw];rfl) (aS (tK rfl rfl (nM _ _)) (aY (dZ (by simp only[zw];rfl) ?_)));simp only[zz];refine aJ rfl ((m.b 2 rfl).lies1 aX rfl) ?_;simp only[zz];refine aF (⟨m.sel [true,true,false,true,true],?_⟩);refine aZ (by simp only[zw];rfl) (aS (jK rfl rfl (nN _ _)) (aY (aZ (by simp only[zw];rfl) (aS (aH cP aO rfl rfl (by decide) (by decide) rfl) (aY (dZ (by simp only[zw];rfl) ?_))))));simp only[zz];refine cH m 2 rfl rfl rfl aO (cU rfl) ⟨rfl,rfl⟩ ?_;clear m;intro u m;simp only[zz,zy,zx,bB,Nat.reduceAdd] at m;refine aF (⟨m.sel [true,true,false,true,true],?_⟩);refine aZ (by simp only[zw];rfl) (aS (aH cP aO rfl rfl (by decide) (by decide) rfl) (aY (dZ (by simp only[zw];rfl) ?_)));simp only[zz];refine cH m 2 rfl rfl rfl aO (cU rfl) ⟨rfl,rfl⟩ ?_;clear m;intro u m;simp only[zz,zy,zx,bB,Nat.reduceAdd] at m;refine aF (⟨m.sel [true,true,false,true,true],?_⟩);refine lH ?_;simp only[Exit.inBlock,Exit.then];refine ⟨_,_,rfl,?_,m,?_⟩
               · simp only[zz,zv]
               · simp only[zQ,zR,zD,zE]
                 exact ⟨trivial,rfl⟩
             · skip
               refine aJ rfl ((m.b 2 rfl).lies1 aX rfl) ?_;simp only[zz];refine aF (⟨m.sel [true,true,false,true,true],?_⟩);refine aZ (by simp only[zw];rfl) (aS (jK rfl rfl (nN _ _)) (aY (dZ (by simp only[zw];rfl) ?_)));simp only[zz];refine aJ rfl ((m.b 2 rfl).lies1 aX rfl) ?_;simp only[zz];refine aF (⟨m.sel [true,true,false,true,true],?_⟩);refine aZ (by simp only[zw];rfl) (aS (tK rfl rfl (nM _ _)) (aY (aZ (by simp only[zw];rfl) (aS (aH cP aO rfl rfl (by decide) (by decide) rfl) (aY (dZ (by simp only[zw];rfl) ?_))))));simp only[zz];refine cH m 2 rfl rfl rfl aO (cU rfl) ⟨rfl,rfl⟩ ?_;clear m;intro u m;simp only[zz,zy,zx,bB,Nat.reduceAdd] at m;refine aF (⟨m.sel [true,true,false,true,true],?_⟩);refine aZ (by simp only[zw];rfl) (aS (aH cP aO rfl rfl (by decide) (by decide) rfl) (aY (dZ (by simp only[zw];rfl) ?_)));simp only[zz];refine cH m 2 rfl rfl rfl aO (cU rfl) ⟨rfl,rfl⟩ ?_;clear m;intro u m;simp only[zz,zy,zx,bB,Nat.reduceAdd] at m;refine aF (⟨m.sel [true,true,false,true,true],?_⟩);refine lH ?_;simp only[Exit.inBlock,Exit.then];refine ⟨_,_,rfl,?_,m,?_⟩
               · simp only[zz,zv]
               · simp only[zQ,zR,zD,zE]
                 exact ⟨trivial,rfl⟩
           · intro vs i wr m hI u
             obtain ⟨rfl,rfl⟩:=hI;simp only[zF,zG] at m;simp only[zu,zF,zG];refine k39 _ _ ?_;try clear k39 K39
             refine wp_region_lit (aA (aU (m:=2) (n:=1) (r:=3) rfl rfl (by decide)) (aA (aB) (aF (aQ (aD fun K41 k41=>wp_region_lit (aA (dM (m:=3) (n:=3) rfl rfl (by decide)) (aF (k41 _ _ ?_))))))));try clear k41 K41
             refine aD fun K42 k42=>gA rfl (wp_exit (k26 _ _ ?_));try clear k26 K26
             refine wp_region_lit (aA (aU (m:=1) (n:=1) (r:=2) rfl rfl (by decide)) ?_);simp only[zz];refine aA (aB) (aF (aQ (aD fun K43 k43=>wp_region_lit (aA (dM (m:=2) (n:=2) rfl rfl (by decide)) (aF (k43 _ _ ?_))))));try clear k43 K43
             refine aD fun K44 k44=>gA rfl (wp_exit (k3 _ _ ?_));try clear k3 K3
             refine aD fun K45 k45=>wp_region_lit ?_;simp only[zz];refine aJ rfl ((m.b 2 rfl).full Mh oO) ?_;simp only[zz];refine aT m 3 rfl rfl rfl oO (cU rfl) rfl ?_;clear m;intro u m;simp only[zy,zx,bB,zF,zG,Nat.reduceAdd] at m;refine aF (k45 _ _ ?_);try clear k45 K45
             refine wp_ret ?_;try simp only[Exit.inBlock,Exit.then,if_true]
             refine bE rfl ⟨_,rfl,((m.b 3 rfl).full Mh oO)⟩ ?_;try simp only[zD,zE]
             exact ⟨_,rfl,m.ext,rfl⟩
end Go.Proofs.YtfekpcimgncioaaGreatDoor
namespace Go.Lith
open Go.RowKit
section
variable {P : Program} {ops : Array Oper} {Q : Exit → Act → World → Prop} {rest : List Oper} {d j : Nat} {ty : TypeId} {pos : String} {after : Array Edge} {v : Value} {b : Bool} {ds : List Deferred} {l : List Value} {w w0 : World} {is : List It}
variable {f : FuncId} {fo : Operand} {xs : Array Operand} {args : List Value} {first cap : Array Value} {a0 : Array TypeId}
end
section
variable {P : Program} {ops : Array Oper} {Q : Act → Prop} {rest : List Oper} {d j : Nat} {ty : TypeId} {pos : String} {after : Array Edge} {v : Value} {b : Bool} {ds : List Deferred} {l : List Value} {w0 : World} {is : List It}
variable {f : FuncId} {fo : Operand} {xs : Array Operand} {args : List Value} {first cap : Array Value} {a0 : Array TypeId}
end
/-! ### Rows of edges and moves -/
end Go.Lith
namespace Go.Proofs.YtfekpcimgncioaaGreatDoor
open Go.Proofs.Tryz
open Go.RowKit Go.Lith
set_option maxRecDepth 100000
attribute [local irreducible] wpList wpQuiet dB bL cE Code.wp
theorem aad {g90 g91 ga gf gx gy N cap cx cy cf nm cm no co nr cr : Nat} {A Am Ao Ar : Option Addr} {ex ey ef : Array MapEntry} {X Y F : List (P3 × Bool)} {ts : List T3} {p q : P3} (w : World) (hB91 : fF w g91 [.pointer (some ⟨g90,0,none⟩),.int .i64 p.x,.int .i64 p.y,.int .i64 p.z,.int .i64 q.x,.int .i64 q.y,.int .i64 q.z,.map (some gx),.map (some gy),.slice Am nm cm,.slice Ao no co,.slice Ar nr cr] 218) (hB90 : fF w g90 [.slice A N cap,.map (some ga),.map (some gf)] 109) (hMx : gC w gx ex cx) (hDx : bP pt Value.bool X ex cx) (hMf : gC w gf ef cf) (hDf : bP pt Value.bool F ef cf) : eG prog 100 [.pointer (some ⟨g91,0,none⟩)] w (fun v _=>v = .bool ((cK X q).getD false && !(cK F p).getD false)):=by
 refine ⟨afU,?_⟩;have m:=Mem.refl w
 go_enter func100,ntmps100
 refine aD fun K1 k1=>wp_region_lit (aA (aG) (aF (k1 _ _ ?_)));try clear k1 K1
 refine aD fun K2 k2=>?_;simp only[zz];refine mq m aM (by kernel_rfl) (aK (aB) (aK (bS rfl) (aK (aL (c:=0) fA rfl gW rfl rfl) ?_)));simp only[zz];refine ql rfl (fun u m=>((hB91.ext m.ext).lies1 lT rfl)) ?_;simp only[zz];refine aK (aB) (aK (bS rfl) (aK (aL (c:=2) fA rfl aC rfl rfl) ?_));simp only[zz];refine ql rfl (fun u m=>((hB91.ext m.ext).lies aI aC rfl rfl)) ?_;simp only[zz,zy,Nat.zero_add,Nat.reduceAdd,Nat.reduceMul,Int.reduceToNat];refine gZ (fun u m=>dV (ek:=pt) (en:=Value.bool) (k:=q) (v0:=false) kI kY fD rfl rfl (hMx.ext m.ext) hDx) ?_;simp only[zz];refine aK (aB) (dJ rfl (fun hb=>aB) (dJ rfl (fun hb=>bS (bW hb rfl)) (dJ rfl (fun hb=>aL (c:=0) fA rfl uQ (bW hb rfl) rfl) ?_)));simp only[zz];refine eL rfl (fun hb u m=>bJ (bW hb rfl) ((hB91.ext m.ext).lies1 xR rfl)) (dJ rfl (fun hb=>bS (bW hb rfl)) (dJ rfl (fun hb=>aL (c:=0) pK rfl gW (bW hb rfl) rfl) ?_));simp only[zz];refine eL rfl (fun hb u m=>bJ (bW hb rfl) ((hB90.ext m.ext).lies1 lT rfl)) (dJ rfl (fun hb=>aB) (dJ rfl (fun hb=>bS (bW hb rfl)) (dJ rfl (fun hb=>aL (c:=2) fA rfl aC (bW hb rfl) rfl) ?_)));simp only[zz];refine eL rfl (fun hb u m=>bJ (bW hb rfl) ((hB91.ext m.ext).lies aI aC rfl rfl)) ?_;simp only[zz,zy,Nat.zero_add,Nat.reduceAdd,Nat.reduceMul,Int.reduceToNat];refine eL rfl (fun hb u m=>dV (ek:=pt) (en:=Value.bool) (k:=p) (v0:=false) kI kY fD (bW hb rfl) (bW hb rfl) (hMf.ext m.ext) hDf) ?_;simp only[zz];refine dJ rfl (fun hb=>fR (bW hb rfl)) (aK (eS rfl rfl rfl) (aK (aG) (bZ ?_)));clear m;intro u m;refine k2 _ _ ?_;try clear k2 K2
 refine wp_ret ?_;simp only[zz];try simp only[Exit.inBlock,Exit.then,if_true]
 refine bE rfl rfl ?_;try simp only[zD,zE]
 exact ⟨_,rfl,m.ext,rfl⟩
def yC (Y : List (P3 × Bool)) (dn : List (P3 × Bool)) : Nat:=((dn.map (·.1)).filter fun k=>(cK Y k).getD false).length
theorem ahV {Y dn : List (P3 × Bool)} {k : P3} {b : Bool} (h : (cK Y k).getD false = true) : yC Y (dn ++ [(k,b)]) = yC Y dn + 1:=by
 unfold yC;rw [List.map_append,List.filter_append,List.length_append];simp [h]
theorem ahW {Y dn : List (P3 × Bool)} {k : P3} {b : Bool} (h : (cK Y k).getD false = false) : yC Y (dn ++ [(k,b)]) = yC Y dn:=by
 unfold yC;rw [List.map_append,List.filter_append,List.length_append];simp [h]
theorem Wy (Y dn : List (P3 × Bool)) : yC Y dn ≤ dn.length:=by
 unfold yC;have:=List.length_filter_le (fun k=>(cK Y k).getD false) (dn.map (·.1));rwa [List.length_map] at this
theorem aae {Y dn D : List (P3 × Bool)} (h : dn.Perm D) : yC Y dn = yC Y D:=by
 unfold yC;exact ((h.map Prod.fst).filter _).length_eq
theorem aaf {g90 g91 ga gf gx gy N cap cx cy cf nm cm no co nr cr : Nat} {A Am Ao Ar : Option Addr} {ex ey ef : Array MapEntry} {X Y F : List (P3 × Bool)} {ts : List T3} {p q : P3} (w : World) (hB91 : fF w g91 [.pointer (some ⟨g90,0,none⟩),.int .i64 p.x,.int .i64 p.y,.int .i64 p.z,.int .i64 q.x,.int .i64 q.y,.int .i64 q.z,.map (some gx),.map (some gy),.slice Am nm cm,.slice Ao no co,.slice Ar nr cr] 218) (hB90 : fF w g90 [.slice A N cap,.map (some ga),.map (some gf)] 109) (hMx : gC w gx ex cx) (hDx : bP pt Value.bool X ex cx) (hMy : gC w gy ey cy) (hDy : bP pt Value.bool Y ey cy) (hXl : X.length ≤ 100000000) : eG prog 101 [.pointer (some ⟨g91,0,none⟩)] w (fun v _=>v = .bool (decide (yC Y X = 2))):=by
 refine ⟨afV,?_⟩;have m:=Mem.refl w
 go_enter func101,ntmps101
 refine aD fun K1 k1=>wp_region_lit (aA (aG) (aF (k1 _ _ ?_)));try clear k1 K1
 refine aD fun K2 k2=>wp_region_lit (aA (aG) (aF (k2 _ _ ?_)));try clear k2 K2
 refine aD fun K3 k3=>aD fun K4 k4=>wp_region_lit (aA (aB) (aA (bS rfl) ?_));simp only[zz];refine aA (aL (c:=0) fA rfl gW rfl rfl) ?_;simp only[zz];refine aJ rfl ((hB91.ext m.ext).lies1 lT rfl) ?_;simp only[zz];refine qY m kI rfl (hMx.ext m.ext) ?_;clear m;intro r1 u m;refine aF (k4 _ _ ?_);try clear k4 K4
 refine wp_block ?_;simp only[zz];try simp only[Nat.zero_add,Nat.reduceAdd,Nat.reduceMul,Int.reduceToNat]
 refine bT [3] [4,10,11,12,13,14,15,16,17,18,19,20,21] (fun n vs wl=>∃ (dn rs : List (P3 × Bool)) (sn : Array Nat) (cc : Nat),vs = [.int .i64 (cc : Int)] ∧ Mem w wl [iI r1 gx cx sn] ∧ (kU pt Value.bool X ex sn dn rs) ∧ (cc = yC Y dn) ∧ (n = rs.length)) ?_ ?_
 · skip
   apply Exists.intro;simp only[zQ,zR,zD,zE];exact ⟨[],X,#[],0,rfl,m,kU.start hDx,rfl,rfl⟩
 · intro n vs wr hI u
   clear m;obtain ⟨dn,rs,sn,cc,rfl,m,hT,hcc0,hn⟩:=hI;have hlen:=hT.len;simp only[zu,zF,zG];refine aD fun K5 k5=>wp_region_lit (Dt m 0 rfl rfl (hMx.ext m.ext) hDx hT ?_);clear m;intro bb kk vv sn u m hN;simp only[zF,zG] at m;refine aA (lW rfl) (aF (k5 _ _ ?_));try clear k5 K5
   refine aD fun K6 k6=>?_;simp only[zz];refine eD rfl (fun hc1=>?_) (fun hc1=>?_)
   · skip
     obtain ⟨kp,kb,rs2,hp,hT2⟩:=Aq hc1 hN;refine wp_skip (k6 _ _ ?_);try clear k6 K6
     refine wp_block (aD fun K7 k7=>wp_region_lit (eY (oH rfl (m.r 0 rfl) (hMx.ext m.ext) hDx hT2) ?_));simp only[zz];refine aA (bC rfl rfl) ?_;simp only[zz];refine bA m bO rfl ?_;clear m;intro g2 u m;simp only[zz];refine aT m 0 rfl rfl rfl aC (cU rfl) rfl ?_;clear m;intro u m;simp only[zy,zx,bB,zF,zG,Nat.reduceAdd] at m;refine aF (k7 _ _ ?_);try clear k7 K7
     refine aD fun K8 k8=>mq m aM (by kernel_rfl) (aK (aB) (aK (bS rfl) (aK (aL (c:=0) fA rfl gW rfl rfl) ?_)));simp only[zz];refine ql rfl (fun u m=>((hB91.ext m.ext).lies1 lT rfl)) ?_;simp only[zz];refine ql rfl (fun u m=>((m.b 0 rfl).full aI aC)) ?_;simp only[zz];refine gZ (fun u m=>dV (ek:=pt) (en:=Value.bool) (k:=kp) (v0:=false) kI kY fD rfl rfl (hMy.ext m.ext) hDy) ?_;simp only[zz];refine bZ ?_;clear m;intro u m;refine k8 _ _ ?_;try clear k8 K8
     refine eD rfl (fun hc2=>?_) (fun hc2=>?_)
     · skip
       refine wp_region_lit (aA (aB) (aA (aU rfl rfl (aV (by have:=Wy Y dn;omega) (by have:=Wy Y dn;omega))) (aA (aG) (aF ?_))));simp only[zz];simp only[Exit.inBlock,Exit.then];refine ⟨rs2.length,_,?_,rfl,?_,?_⟩
       · rw [hn,hp.length_eq];exact Nat.lt_succ_self _
       · simp only[zz,zv]
       · simp only[zQ,zR,zD,zE]
         exact ⟨dn ++ [(kp,kb)],rs2,_,cc + 1,rfl,(m.sel [false,true]),hT2,by rw [ahV hc2,hcc0],rfl⟩
     · skip
       refine wp_skip ?_;simp only[Exit.inBlock,Exit.then];refine ⟨rs2.length,_,?_,rfl,?_,?_⟩
       · rw [hn,hp.length_eq];exact Nat.lt_succ_self _
       · simp only[zz,zv]
       · simp only[zQ,zR,zD,zE]
         exact ⟨dn ++ [(kp,kb)],rs2,_,cc,rfl,(m.sel [false,true]),hT2,by rw [ahW hc2,hcc0],rfl⟩
   · skip
     obtain rfl:=An hc1 hN;have hcc:=aae (Y:=Y) hT.done;refine wp_exit (k3 _ _ ?_);try clear k3 K3
     refine aD fun K9 k9=>wp_region_lit (aA (aB) (aA (tY rfl rfl) (aA (aG) (aF (k9 _ _ ?_)))));try clear k9 K9
     refine wp_ret ?_;simp only[zz];try simp only[Exit.inBlock,Exit.then,if_true]
     refine bE rfl rfl ?_;try simp only[zD,zE]
     exact ⟨_,rfl,m.ext,by rw [← hcc,← hcc0];exact congrArg Value.bool (decide_eq_decide.2 (by omega))⟩
end Go.Proofs.YtfekpcimgncioaaGreatDoor
namespace Go.Proofs.YtfekpcimgncioaaGreatDoor
open Go.Proofs.Tryz
open Go.RowKit Go.Lith
set_option maxRecDepth 100000
attribute [local irreducible] wpList wpQuiet dB bL cE Code.wp
def aag (F Y : List (P3 × Bool)) (q k : P3) : Bool:=decide (¬ (k.x = q.x ∧ k.y = q.y ∧ k.z = q.z)) && (cK F k).getD false && !(cK Y k).getD false
def Nn (X Y F : List (P3 × Bool)) (q : P3) : Bool:=!(cK F q).getD false || (X.map Prod.fst).all fun k=>!aag F Y q k
theorem ahX {X Y F : List (P3 × Bool)} {q : P3} (h : (!(cK F q).getD false) = true) : Nn X Y F q = true:=by unfold Nn;rw [h];rfl
theorem aeu {X Y F : List (P3 × Bool)} {q k : P3} {b : Bool} {dn rs : List (P3 × Bool)} (h : (!(cK F q).getD false) = false) (hp : (dn ++ [(k,b)] ++ rs).Perm X) (hb : aag F Y q k = true) : Nn X Y F q = false:=by
 unfold Nn;rw [h,Bool.false_or,List.all_eq_false];refine ⟨k,List.mem_map.2 ⟨(k,b),hp.mem_iff.1 (by simp),rfl⟩,by rw [hb];decide⟩
theorem acj {X Y F : List (P3 × Bool)} {q : P3} {dn : List (P3 × Bool)} (hp : dn.Perm X) (hb : ∀ x ∈ dn,aag F Y q x.1 = false) : Nn X Y F q = true:=by
 unfold Nn;rw [Bool.or_eq_true];refine .inr (List.all_eq_true.2 fun k hk=>?_);obtain ⟨x,hx,rfl⟩:=List.mem_map.1 hk;rw [hb x (hp.mem_iff.2 hx)];rfl
theorem ack {g90 g91 ga gf gx gy N cap cx cy cf nm cm no co nr cr : Nat} {A Am Ao Ar : Option Addr} {ex ey ef : Array MapEntry} {X Y F : List (P3 × Bool)} {ts : List T3} {p q : P3} (w : World) (hB91 : fF w g91 [.pointer (some ⟨g90,0,none⟩),.int .i64 p.x,.int .i64 p.y,.int .i64 p.z,.int .i64 q.x,.int .i64 q.y,.int .i64 q.z,.map (some gx),.map (some gy),.slice Am nm cm,.slice Ao no co,.slice Ar nr cr] 218) (hB90 : fF w g90 [.slice A N cap,.map (some ga),.map (some gf)] 109) (hMx : gC w gx ex cx) (hDx : bP pt Value.bool X ex cx) (hMy : gC w gy ey cy) (hDy : bP pt Value.bool Y ey cy) (hMf : gC w gf ef cf) (hDf : bP pt Value.bool F ef cf) : eG prog 103 [.pointer (some ⟨g91,0,none⟩)] w (fun v _=>v = .bool (Nn X Y F q)):=by
 refine ⟨afX,?_⟩;have m:=Mem.refl w
 go_enter func103,ntmps103
 refine aD fun K1 k1=>wp_region_lit (aA (aG) (aF (k1 _ _ ?_)));try clear k1 K1
 refine aD fun K2 k2=>aD fun K3 k3=>?_;simp only[zz];refine mq m aM (by kernel_rfl) (aK (aB) (aK (bS rfl) (aK (aL (c:=0) fA rfl uQ rfl rfl) ?_)));simp only[zz];refine ql rfl (fun u m=>((hB91.ext m.ext).lies1 xR rfl)) ?_;simp only[zz];refine aK (bS rfl) (aK (aL (c:=0) pK rfl gW rfl rfl) ?_);simp only[zz];refine ql rfl (fun u m=>((hB90.ext m.ext).lies1 lT rfl)) ?_;simp only[zz];refine aK (aB) (aK (bS rfl) (aK (aL (c:=2) fA rfl aC rfl rfl) ?_));simp only[zz];refine ql rfl (fun u m=>((hB91.ext m.ext).lies aI aC rfl rfl)) ?_;simp only[zz,zy,Nat.zero_add,Nat.reduceAdd,Nat.reduceMul,Int.reduceToNat];refine gZ (fun u m=>dV (ek:=pt) (en:=Value.bool) (k:=q) (v0:=false) kI kY fD rfl rfl (hMf.ext m.ext) hDf) ?_;simp only[zz];refine aK (fR rfl) (bZ ?_);clear m;intro u m;refine k3 _ _ ?_;try clear k3 K3
 simp only[zz];refine eD rfl (fun hc1=>?_) (fun hc1=>?_)
 · skip
   refine aD fun K4 k4=>wp_region_lit (aA (aG) (aF (k4 _ _ ?_)));try clear k4 K4
   refine wp_ret ?_;simp only[zz];try simp only[Exit.inBlock,Exit.then,if_true]
   refine bE rfl rfl ?_;try simp only[zD,zE]
   exact ⟨_,rfl,m.ext,by rw [ahX hc1]⟩
 · skip
   refine wp_skip (k2 _ _ ?_);try clear k2 K2
   refine aD fun K5 k5=>aD fun K6 k6=>wp_region_lit (aA (aB) (aA (bS rfl) (aA (aL (c:=0) fA rfl gW rfl rfl) ?_)));simp only[zz];refine aJ rfl ((hB91.ext m.ext).lies1 lT rfl) ?_;simp only[zz];refine qY m kI rfl (hMx.ext m.ext) ?_;clear m;intro r1 u m;refine aF (k6 _ _ ?_);try clear k6 K6
   refine wp_block ?_;simp only[zz];try simp only[Nat.zero_add,Nat.reduceAdd,Nat.reduceMul,Int.reduceToNat]
   refine bT [] [2,3,22,23,24,25,26,27,28,29,30,31,32,33,34,35,36,37,38,39,40,41,42,43,44,45,46,47,48,49,50,51] (fun n vs wl=>∃ (dn rs : List (P3 × Bool)) (sn : Array Nat),vs = [] ∧ Mem w wl [iI r1 gx cx sn] ∧ (kU pt Value.bool X ex sn dn rs) ∧ (∀ x ∈ dn,aag F Y q x.1 = false) ∧ (n = rs.length)) ?_ ?_
   · skip
     apply Exists.intro;simp only[zQ,zR,zD,zE];exact ⟨[],X,#[],trivial,m,kU.start hDx,(fun x h=>(by cases h)),rfl⟩
   · intro n vs wr hI u
     clear m;obtain ⟨dn,rs,sn,rfl,m,hT,hb0,hn⟩:=hI;simp only[zu,zF,zG];refine aD fun K7 k7=>wp_region_lit (Dt m 0 rfl rfl (hMx.ext m.ext) hDx hT ?_);clear m;intro bb kk vv sn u m hN;simp only[zF,zG] at m;refine aA (lW rfl) (aF (k7 _ _ ?_));try clear k7 K7
     refine aD fun K8 k8=>?_;simp only[zz];refine eD rfl (fun hc2=>?_) (fun hc2=>?_)
     · skip
       obtain ⟨kp,kb,rs2,hp,hT2⟩:=Aq hc2 hN;refine wp_skip (k8 _ _ ?_);try clear k8 K8
       refine wp_block (aD fun K9 k9=>wp_region_lit (eY (oH rfl (m.r 0 rfl) (hMx.ext m.ext) hDx hT2) ?_));simp only[zz];refine aA (bC rfl rfl) ?_;simp only[zz];refine bA m bO rfl ?_;clear m;intro g2 u m;simp only[zz];refine aT m 0 rfl rfl rfl aC (cU rfl) rfl ?_;clear m;intro u m;simp only[zy,zx,bB,zF,zG,Nat.reduceAdd] at m;refine aF (k9 _ _ ?_);try clear k9 K9
       refine aD fun K10 k10=>mq m aM (by kernel_rfl) (ql rfl (fun u m=>((m.b 0 rfl).full aI aC)) ?_);simp only[zz];refine aK (aB) (aK (bS rfl) (aK (aL (c:=2) fA rfl aC rfl rfl) ?_));simp only[zz];refine ql rfl (fun u m=>((hB91.ext m.ext).lies aI aC rfl rfl)) ?_;simp only[zz,zy,Nat.zero_add,Nat.reduceAdd,Nat.reduceMul,Int.reduceToNat];refine aK (gE rfl rfl) (aK (aB) (dJ rfl (fun hb=>aB) (dJ rfl (fun hb=>bS (bW hb rfl)) ?_)));simp only[zz];refine dJ rfl (fun hb=>aL (c:=0) fA rfl uQ (bW hb rfl) rfl) ?_;simp only[zz];refine eL rfl (fun hb u m=>bJ (bW hb rfl) ((hB91.ext m.ext).lies1 xR rfl)) (dJ rfl (fun hb=>bS (bW hb rfl)) (dJ rfl (fun hb=>aL (c:=0) pK rfl gW (bW hb rfl) rfl) ?_));simp only[zz];refine eL rfl (fun hb u m=>bJ (bW hb rfl) ((hB90.ext m.ext).lies1 lT rfl)) (eL rfl (fun hb u m=>bJ rfl ((m.b 0 rfl).full aI aC)) (eL rfl (fun hb u m=>dV (ek:=pt) (en:=Value.bool) (k:=kp) (v0:=false) kI kY fD (bW hb rfl) (bW hb rfl) (hMf.ext m.ext) hDf) ?_));simp only[zz];refine aK (eS rfl rfl rfl) (aK (aB) (dJ rfl (fun hb=>aB) (dJ rfl (fun hb=>bS (bW hb rfl)) ?_)));simp only[zz];refine dJ rfl (fun hb=>aL (c:=0) fA rfl gW (bW hb rfl) rfl) ?_;simp only[zz];refine eL rfl (fun hb u m=>bJ (bW hb rfl) ((hB91.ext m.ext).lies1 lT rfl)) (eL rfl (fun hb u m=>bJ rfl ((m.b 0 rfl).full aI aC)) (eL rfl (fun hb u m=>dV (ek:=pt) (en:=Value.bool) (k:=kp) (v0:=false) kI kY fD (bW hb rfl) (bW hb rfl) (hMy.ext m.ext) hDy) ?_));simp only[zz];refine dJ rfl (fun hb=>fR (bW hb rfl)) (aK (eS rfl rfl rfl) (bZ ?_));clear m;intro u m;refine k10 _ _ ?_;try clear k10 K10
       simp only[zz];refine eD rfl (fun hc3=>?_) (fun hc3=>?_)
       · skip
         refine aD fun K11 k11=>wp_region_lit (aA (aG) (aF (k11 _ _ ?_)));try clear k11 K11
         refine wp_ret ?_;simp only[zz];try simp only[Exit.inBlock,Exit.then,if_true]
         refine bE rfl rfl ?_;try simp only[zD,zE]
         exact ⟨_,rfl,m.ext,by rw [aeu hc1 hT2.1 hc3]⟩
       · skip
         refine wp_skip ?_;simp only[Exit.inBlock,Exit.then];refine ⟨rs2.length,_,?_,rfl,?_,?_⟩
         · rw [hn,hp.length_eq];exact Nat.lt_succ_self _
         · simp only[zz,zv]
         · simp only[zQ,zR,zD,zE]
           exact ⟨dn ++ [(kp,kb)],rs2,_,trivial,(m.sel [false,true]),hT2,(fun x hx=>(List.mem_append.1 hx).elim (hb0 x) fun h=>(by rw [List.mem_singleton.1 h];exact hc3)),rfl⟩
     · skip
       obtain rfl:=An hc2 hN;refine wp_exit (k5 _ _ ?_);try clear k5 K5
       refine aD fun K12 k12=>wp_region_lit (aA (aG) (aF (k12 _ _ ?_)));try clear k12 K12
       refine wp_ret ?_;simp only[zz];try simp only[Exit.inBlock,Exit.then,if_true]
       refine bE rfl rfl ?_;try simp only[zD,zE]
       exact ⟨_,rfl,m.ext,by rw [acj hT.done hb0]⟩
end Go.Proofs.YtfekpcimgncioaaGreatDoor
namespace Go.Proofs.YtfekpcimgncioaaGreatDoor
open Go.Proofs.Tryz
open Go.RowKit Go.Lith
set_option maxRecDepth 100000
attribute [local irreducible] wpList wpQuiet dB bL cE Code.wp
theorem yD {t : T3} : decide (cA t.normal.x = 0 ∧ cA t.normal.y = 0 ∧ cA t.normal.z = 0) = kG t:=by
 unfold kG;refine decide_eq_decide.2 ?_;rw [fG,fG,fG];show (nR t.a t.b t.c).x = 0 ∧ (nR t.a t.b t.c).y = 0 ∧ (nR t.a t.b t.c).z = 0 ↔ _
 unfold Ex;generalize nR t.a t.b t.c = n;by_cases h1 : n.x = 0 <;> by_cases h2 : n.y = 0 <;> by_cases h3 : n.z = 0 <;> simp [h1,h2,h3]
def aah (o t : T3) : Bool:=!kG t && decide (abG o t = 1)
def Uw (os ms : List T3) : Bool:=(os.zip ms).all fun x=>aah x.1 x.2
theorem acl {os ms : List T3} {k : Nat} {x : T3 × T3} : (os.zip ms)[k]? = some x ↔ os[k]? = some x.1 ∧ ms[k]? = some x.2:=by
 obtain ⟨a,b⟩:=x;rw [List.getElem?_zip_eq_some]
theorem aev {os ms : List T3} {k : Nat} {o t : T3} (ho : os[k]? = some o) (ht : ms[k]? = some t) (h : (kG t || decide (¬ abG o t = 1)) = true) : Uw os ms = false:=by
 unfold Uw;rw [List.all_eq_false];refine ⟨(o,t),List.mem_of_getElem? (acl.2 ⟨ho,ht⟩),?_⟩;unfold aah;cases hf : kG t <;> rw [hf] at h <;> simp at h ⊢;exact h
theorem acm {os ms : List T3} (h : ∀ (j : Nat) (o t : T3),os[j]? = some o → ms[j]? = some t → aah o t = true) : Uw os ms = true:=by
 unfold Uw;rw [List.all_eq_true];intro x hx;obtain ⟨j,hj⟩:=List.mem_iff_getElem?.1 hx;obtain ⟨h1,h2⟩:=acl.1 hj;exact h j _ _ h1 h2
theorem ajW {o t : T3} (h : (kG t || decide (¬ abG o t = 1)) = false) : aah o t = true:=by
 unfold aah;cases hf : kG t <;> rw [hf] at h <;> simp at h ⊢;exact h
theorem Ux {g90 g91 ga gf gx gy N cap cx cy cf nm cm no co nr cr : Nat} {A Am Ao Ar : Option Addr} {ex ey ef : Array MapEntry} {X Y F : List (P3 × Bool)} {ts : List T3} {p q : P3} {ms os : List T3} (w : World) (hB91 : fF w g91 [.pointer (some ⟨g90,0,none⟩),.int .i64 p.x,.int .i64 p.y,.int .i64 p.z,.int .i64 q.x,.int .i64 q.y,.int .i64 q.z,.map (some gx),.map (some gy),.slice Am nm cm,.slice Ao no co,.slice Ar nr cr] 218) (hB90 : fF w g90 [.slice A N cap,.map (some ga),.map (some gf)] 109) (hTm : bY w Am nm ms) (hTo : bY w Ao no os) (hno : no = nm) (hN : nm ≤ 10000000) : eG prog 104 [.pointer (some ⟨g91,0,none⟩)] w (fun v _=>v = .bool (Uw os ms)):=by
 refine ⟨afY,?_⟩;have m:=Mem.refl w;subst hno
 go_enter func104,ntmps104
 refine aD fun K1 k1=>wp_region_lit (aA (aG) (aF (k1 _ _ ?_)));try clear k1 K1
 refine aD fun K2 k2=>aD fun K3 k3=>wp_region_lit (aA (aB) (aA (bS rfl) (aA (aL (c:=0) fA rfl dU rfl rfl) ?_)));simp only[zz];refine aJ rfl ((hB91.ext m.ext).lies1 nI rfl) ?_;simp only[zz];refine aA (bH rfl bQ rfl) (aA (aB) (aF (k3 _ _ ?_)));try clear k3 K3
 refine wp_block ?_;simp only[zz];try simp only[Nat.zero_add,Nat.reduceAdd,Nat.reduceMul,Int.reduceToNat]
 refine bT [10] [2,3,4,11,12,13,14,15,16,17,18,19,20,21,22,23,24,25,26,27,28,29] (fun n vs wl=>∃ (k : Nat),vs = [.int .i64 (k:Int)] ∧ Mem w wl [] ∧ (∀ (j : Nat) (o t : T3),j < k → os[j]? = some o → ms[j]? = some t → aah o t = true) ∧ (k ≤ no) ∧ (n = no - k)) ?_ ?_
 · skip
   apply Exists.intro;simp only[zQ,zR,zD,zE];exact ⟨0,rfl,m,(fun j o t h=>by omega),Nat.zero_le _,rfl⟩
 · intro n vs wr hI u
   clear m;obtain ⟨k,rfl,m,hu0,hk,hn⟩:=hI;simp only[zu,zF,zG];refine aD fun K4 k4=>wp_region_lit (aA (cW rfl rfl) (aF (k4 _ _ ?_)));try clear k4 K4
   refine aD fun K5 k5=>?_;simp only[zz];refine cG rfl (fun hc1=>?_) (fun hc1=>?_)
   · skip
     obtain ⟨t,ht,hti,a,rfl,hrow⟩:=hTm.get (i:=k) (by omega);obtain ⟨o,ho,hoi,a2,rfl,hrow2⟩:=hTo.get (i:=k) (by omega);refine wp_skip (k5 _ _ ?_);try clear k5 K5
     refine aD fun K6 k6=>wp_block (aD fun K7 k7=>wp_region_lit (aA (aB) ?_));simp only[zz];refine aA (aN bQ aR rfl rfl (by omega) (by omega) (dC (Int.toNat_natCast _))) ?_;simp only[zz];refine aJ rfl ((hrow.ext m.ext).lies bR aR) ?_;simp only[zz];refine bA m fP rfl ?_;clear m;intro g1 u m;refine aA (aG) ?_;simp only[zz];refine aT m 0 rfl rfl rfl aR (cU rfl) rfl ?_;clear m;intro u m;simp only[zy,zx,bB,zF,zG,Nat.reduceAdd] at m;refine aF (k7 _ _ ?_);try clear k7 K7
     refine aD fun K8 k8=>mq m aM (by kernel_rfl) (ql rfl (fun u m=>((m.b 0 rfl).full bR aR)) ?_);simp only[zz];refine gV rfl rfl (Nm (t:=t)) (aK (aB) (fL rfl (fun hb=>aB) (fL rfl (fun hb=>bS (bW hb rfl)) ?_)));simp only[zz];refine fL rfl (fun hb=>aL (c:=0) fA rfl dU (bW hb rfl) rfl) ?_;simp only[zz];refine lS rfl (fun hb u m=>bJ (bW hb rfl) ((hB91.ext m.ext).lies1 nI rfl)) (fL rfl (fun hb=>aB) ?_);simp only[zz];refine fL rfl (fun hb=>aN bQ aR (bW hb rfl) (bW hb rfl) (by omega) (by omega) (dC (Int.toNat_natCast _))) ?_;simp only[zz];refine lS rfl (fun hb u m=>bJ (bW hb rfl) ((hrow2.ext m.ext).lies bR aR)) (lS rfl (fun hb u m=>bJ rfl ((m.b 0 rfl).full bR aR)) (Wc rfl rfl (fun hb=>by simp only[List.toList_toArray,List.map_cons,List.map_nil,zA,zB,zC,zD,zE,hb,iZ];rfl) (fun hb=>ach (t:=o) (r:=t)) (fL rfl (fun hb=>jJ (bW hb rfl) rfl) (aK (fH rfl rfl rfl) (bZ ?_)))));clear m;intro u m;refine k8 _ _ ?_;try clear k8 K8
     simp only[zz];refine eD rfl (fun hc2=>?_) (fun hc2=>?_)
     · skip
       rw [yD] at hc2;refine aD fun K9 k9=>wp_region_lit (aA (aG) (aF (k9 _ _ ?_)));try clear k9 K9
       refine wp_ret ?_;simp only[zz];try simp only[Exit.inBlock,Exit.then,if_true]
       refine bE rfl rfl ?_;try simp only[zD,zE]
       exact ⟨_,rfl,m.ext,by rw [aev ho ht hc2]⟩
     · skip
       rw [yD] at hc2;refine wp_skip (k6 _ _ ?_);try clear k6 K6
       refine wp_region_lit (aA (aU rfl rfl (aV (by omega) (by omega))) (aA (aB) (aF ?_)));simp only[zz];simp only[Exit.inBlock,Exit.then];refine ⟨no - (k + 1),_,?_,rfl,?_,?_⟩
       · omega
       · simp only[zz,zv]
       · simp only[zQ,zR,zD,zE]
         exact ⟨k + 1, rfl, (m.sel [false]), (fun j o2 t2 hj h1 h2 => by
          rcases Nat.lt_or_ge j k with h | h
          · exact hu0 j o2 t2 h h1 h2
          · obtain rfl : j = k:=by omega
            rw [ho] at h1;rw [ht] at h2;cases h1;cases h2;exact ajW hc2),by omega,rfl⟩
   · skip
     refine wp_exit (k2 _ _ ?_);try clear k2 K2
     refine aD fun K10 k10=>wp_region_lit (aA (aG) (aF (k10 _ _ ?_)));try clear k10 K10
     refine wp_ret ?_;simp only[zz];try simp only[Exit.inBlock,Exit.then,if_true]
     refine bE rfl rfl ?_;try simp only[zD,zE]
     exact ⟨_,rfl,m.ext,by rw [acm fun j o t h1 h2=>hu0 j o t (by have:=(List.getElem?_eq_some_iff.1 h1).1;have:=hTo.len;omega) h1 h2]⟩
end Go.Proofs.YtfekpcimgncioaaGreatDoor
namespace Go.Proofs.YtfekpcimgncioaaGreatDoor
open Go.Proofs.Tryz
open Go.RowKit Go.Lith
set_option maxRecDepth 100000
attribute [local irreducible] wpList wpQuiet dB bL cE Code.wp
theorem aai {w : World} {A : Option Addr} {N : Nat} {ts : List T3} (h : bY w A N ts) (hA : A.isNone = true) : ts = []:=by
 cases A with
 | some a=>cases hA
 | none =>
  cases ts with
  | nil=>rfl
  | cons t ts =>
   obtain ⟨a,e,_⟩:=h.row 0 t rfl;cases e
theorem acn {ts : List T3} {N cap : Nat} {A : Option Addr} (w : World) (hT : bY w A N ts) (hN : N ≤ 10000000) : eG prog 169 [.slice A N cap] w (SL 39 9 (ts.flatMap aW) ts.length w):=by
 refine ⟨agn,?_⟩;have m:=Mem.refl w;have htl:=hT.len
 go_enter func169,ntmps169
 refine aD fun K1 k1=>wp_region_lit (aA (aG) (aF (k1 _ _ ?_)));try clear k1 K1
 refine aD fun K2 k2=>aD fun K3 k3=>wp_region_lit (aA (aB) (aA (Om bQ rfl rfl) (aF (k3 _ _ ?_))));try clear k3 K3
 simp only[zz];refine eD rfl (fun hc1=>?_) (fun hc1=>?_)
 · skip
   obtain rfl:=aai hT hc1;refine aD fun K4 k4=>wp_region_lit (aA (aG) (aF (k4 _ _ ?_)));try clear k4 K4
   refine wp_ret ?_;simp only[zz];try simp only[Exit.inBlock,Exit.then,if_true]
   refine bE rfl rfl ?_;try simp only[zD,zE]
   exact ⟨_,rfl,m.ext,⟨none,0,0,rfl,rfl,Ow.nil _ _ _ _⟩⟩
 · skip
   refine wp_skip (k2 _ _ ?_);try clear k2 K2
   refine aD fun K5 k5=>wp_region_lit (On bQ (c:=9) (by kernel_rfl)  ?_);intro u g1 e hg hB;replace m:=m.newB e hg hB;clear e hg hB;simp only[zz];replace m:=m.own 0 rfl (n:=0) (c:=9) rfl (cU rfl);simp only[zG] at m;refine aA (aB) ?_;simp only[zz];refine dD m 0 rfl rfl bQ iK rfl (by decide) rfl rfl (by rw [yV,hT.len]) (bY.cells (hT.ext m.ext)) (Ge _) (by omega) (by omega) ?_;clear m;intro A5 cap5 u m;simp only[zF,zG] at m;simp only[Nat.zero_add,List.nil_append] at m ⊢;refine aA (aG) (aF (k5 _ _ ?_));try clear k5 K5
   refine wp_ret ?_;simp only[zz];try simp only[Exit.inBlock,Exit.then,if_true]
   refine bE rfl rfl ?_;try simp only[zD,zE]
   exact ⟨_,rfl,m.ext,⟨_,_,_,htl.symm,rfl,(m.o 0 rfl)⟩⟩
end Go.Proofs.YtfekpcimgncioaaGreatDoor
namespace Go.Lith
open Go.RowKit
theorem Hs {l ys : List P3} (hn : l.Nodup) (h : ys.Perm l) (hs : ys.Pairwise fun a b=>¬ b.Lt a) : ys = tP l:=by
 have h1 : ys.Pairwise P3.Lt:=(hs.and (h.nodup_iff.2 hn)).imp fun {a b} k=>by
  rcases P3.lt_tri a b with e | e | e
  · exact e
  · exact absurd e k.2
  · exact absurd e k.1
 exact xS P3.lt_irrefl (fun _ _ _=>P3.lt_trans) h1 (Bc hn) fun p=>by rw [h.mem_iff,(mO l).mem_iff]
def kT (t : T3) : T3:=match Hh t with
 | [a,b,c]=>⟨a,b,c⟩
 | _=>t
theorem No (t : T3) : Hh t = [(kT t).a,(kT t).b,(kT t).c]:=by
 have h : (Hh t).length = 3:=(mO _).length_eq;unfold kT;generalize Hh t = L at h;rcases L with _ | ⟨a,_ | ⟨b,_ | ⟨c,_ | ⟨d,L⟩⟩⟩⟩ <;> simp only[List.length_cons,List.length_nil] at h <;> first | omega | rfl
theorem aco {s t : T3} : kT s = kT t ↔ Hh s = Hh t:=by
 rw [No s,No t];constructor
 · intro h;rw [h]
 · intro h
   simp only[List.cons.injEq,and_true] at h;obtain ⟨a,b,c⟩:=h;cases hs : kT s;cases ht : kT t;simp only[hs,ht] at a b c;rw [a,b,c]
theorem Rc {l : List T3} : (l.map kT).Nodup ↔ (l.map Hh).Nodup:=by
 unfold List.Nodup;rw [List.pairwise_map,List.pairwise_map];exact ⟨fun h=>h.imp fun k e=>k (aco.2 e),fun h=>h.imp fun k e=>k (aco.1 e)⟩
theorem Ht {t : T3} (h : t.nd = true) : [t.a,t.b,t.c].Nodup:=by
 obtain ⟨h1,h2,h3⟩:=(Cr (t:=t)).1 h;simp only[List.nodup_cons,List.mem_cons,List.not_mem_nil,or_false,not_or,not_false_eq_true,List.nodup_nil,and_true];exact ⟨⟨h1,fun e=>h3 e.symm⟩,h2⟩
theorem ahY {L : List T3} {k : Nat} {t : T3} (ht : L[k]? = some t) (h : kT t ∈ (L.take k).map kT) : decide ((L.map Hh).Nodup) = false:=by
 rw [decide_eq_false_iff_not,← Rc];intro hn;obtain ⟨s,hs,e⟩:=List.mem_map.1 h;obtain ⟨j,hj⟩:=List.mem_iff_getElem?.1 hs;rw [List.getElem?_take] at hj;split at hj
 · rename_i hjk
   have h1 : (L.map kT)[j]? = some (kT t):=by rw [List.getElem?_map,hj];exact congrArg some e
   have h2 : (L.map kT)[k]? = some (kT t):=by rw [List.getElem?_map,ht];rfl
   obtain ⟨a1,a2⟩:=List.getElem?_eq_some_iff.1 h1;obtain ⟨b1,b2⟩:=List.getElem?_eq_some_iff.1 h2;have:=(List.getElem_inj hn).1 (a2.trans b2.symm);omega
 · cases hj
theorem aew {L : List T3} {k : Nat} {t : T3} (ht : L[k]? = some t) (hn : ((L.take k).map kT).Nodup) (h : kT t ∉ (L.take k).map kT) : ((L.take (k + 1)).map kT).Nodup:=by
 rw [cQ ht,List.map_append];exact List.nodup_append.2 ⟨hn,by simp,fun a ha b hb e=>h (by rw [List.mem_singleton.1 hb] at e;exact e ▸ ha)⟩
end Go.Lith
namespace Go.Proofs.YtfekpcimgncioaaGreatDoor
open Go.Proofs.Tryz
open Go.RowKit Go.Lith
set_option maxRecDepth 100000
attribute [local irreducible] wpList wpQuiet dB bL cE Code.wp
theorem acp {w : World} {A : Option Addr} {N : Nat} {ps : List P3} (h : Ek eX 3 w A N ps) (hA : A.isNone = true) : ps = []:=by
 cases A with
 | some a=>cases hA
 | none =>
  cases ps with
  | nil=>rfl
  | cons t ts =>
   obtain ⟨a,e,_⟩:=h.row 0 t rfl;cases e
theorem akD {w : World} {g : Nat} {t : T3} {T : TypeId} (h : fF w g (aW t) T) : Ek eX 3 w (some ⟨g,0,none⟩) 3 [t.a,t.b,t.c]:=⟨rfl,fun i x hx=>by
 refine ⟨⟨g,0,none⟩,rfl,?_⟩;rcases i with _ | _ | _ | i <;> simp at hx <;> subst hx
 · exact (h.row 0).take 3
 · exact (h.row 3).take 3
 · exact (h.row 6).take 3⟩
theorem acq {ps : List P3} {N cap : Nat} {A : Option Addr} (w : World) (hT : Ek eX 3 w A N ps) (hN : N ≤ 10000000) : eG prog 170 [.slice A N cap] w (SL 30 3 (ps.flatMap eX) ps.length w):=by
 refine ⟨ago,?_⟩;have m:=Mem.refl w;have htl:=hT.len
 go_enter func170,ntmps170
 refine aD fun K1 k1=>wp_region_lit (aA (aG) (aF (k1 _ _ ?_)));try clear k1 K1
 refine aD fun K2 k2=>aD fun K3 k3=>wp_region_lit (aA (aB) (aA (Om dS rfl rfl) (aF (k3 _ _ ?_))));try clear k3 K3
 simp only[zz];refine eD rfl (fun hc1=>?_) (fun hc1=>?_)
 · skip
   obtain rfl:=acp hT hc1;refine aD fun K4 k4=>wp_region_lit (aA (aG) (aF (k4 _ _ ?_)));try clear k4 K4
   refine wp_ret ?_;simp only[zz];try simp only[Exit.inBlock,Exit.then,if_true]
   refine bE rfl rfl ?_;try simp only[zD,zE]
   exact ⟨_,rfl,m.ext,⟨none,0,0,rfl,rfl,Ow.nil _ _ _ _⟩⟩
 · skip
   refine wp_skip (k2 _ _ ?_);try clear k2 K2
   refine aD fun K5 k5=>wp_region_lit (On dS (c:=3) (by kernel_rfl)  ?_);intro u g1 e hg hB;replace m:=m.newB e hg hB;clear e hg hB;simp only[zz];replace m:=m.own 0 rfl (n:=0) (c:=3) rfl (cU rfl);simp only[zG] at m;refine aA (aB) ?_;simp only[zz];refine dD m 0 rfl rfl dS nJ rfl (by decide) rfl rfl (by rw [show (ps.flatMap mW).length = ps.length * 3 from abq,hT.len]) ((hT.ext m.ext).cells El (by decide)) (Gi _) (by omega) (by omega) ?_;clear m;intro A5 cap5 u m;simp only[zF,zG] at m;simp only[Nat.zero_add,List.nil_append] at m ⊢;refine aA (aG) (aF (k5 _ _ ?_));try clear k5 K5
   refine wp_ret ?_;simp only[zz];try simp only[Exit.inBlock,Exit.then,if_true]
   refine bE rfl rfl ?_;try simp only[zD,zE]
   exact ⟨_,rfl,m.ext,⟨_,_,_,htl.symm,rfl,(m.o 0 rfl)⟩⟩
theorem Wz {w0 w : World} {is : List It} {A : Option Addr} {n cap : Nat} {xs : List P3} (m : Mem w0 w is) (k : Nat) (hi : is[k]? = some (oI 30 3 A n cap (xs.flatMap eX))) (hsz : n < 4611686018427387904) :
 Calls prog 128 [.slice A n cap,.func (.func 70) #[] #[]].toArray w fun e w'=>∃ v i,e = .returned v ∧ Mem w0 w' (is.set k i) ∧ (v = .tuple #[] ∧ ∃ ys : List P3,i = oI 30 3 A n cap (ys.flatMap eX) ∧ ys.Perm xs ∧ ys.Pairwise fun a b=>¬ b.Lt a) :=
 (uV (enc:=eX) Tryz.sort128 (fun w=>nZ aI w) (fun w=>dQ aC w) (fun _=>rfl) (by decide) Du mC Pv (fun x y=>Ho) m k hi hsz).mono (by
  rintro e w' ⟨v,i,h1,h2,h3,ys,h4,h5,h6⟩;exact ⟨v,i,h1,h2,h3,ys,h4,h5,h6.imp fun h=>by simpa [Go.Proofs.ltOf,jB] using h⟩)
theorem afd : nK prog 38 tr:=by
 refine nK.agg (cs:=fun p=>#[.int .i64 p.a.x,.int .i64 p.a.y,.int .i64 p.a.z,.int .i64 p.b.x,.int .i64 p.b.y,.int .i64 p.b.z,.int .i64 p.c.x,.int .i64 p.c.y,.int .i64 p.c.z]) (fun _=>rfl) underlying38 (fun e p=>?_) (fun p q=>?_) (fun p=>?_)
 · refine rG.array (d:=9999) underlying38 aC fun i hi=>?_
   obtain rfl | rfl | rfl:=(by omega : i = 0 ∨ i = 1 ∨ i = 2)
   · refine ⟨_,cR aI aC rfl,?_⟩
     refine rG.struct (d:=9998) dL fun f hf=>?_;simp only[List.mem_cons,List.not_mem_nil,or_false] at hf;rcases hf with rfl | rfl | rfl
     · exact ⟨_,cT aX rfl,rG.int (d:=9997) gB⟩
     · exact ⟨_,cT aX rfl,rG.int (d:=9997) gB⟩
     · exact ⟨_,cT aX rfl,rG.int (d:=9997) gB⟩
   · refine ⟨_,cR aI aC rfl,?_⟩
     refine rG.struct (d:=9998) dL fun f hf=>?_;simp only[List.mem_cons,List.not_mem_nil,or_false] at hf;rcases hf with rfl | rfl | rfl
     · exact ⟨_,cT aX rfl,rG.int (d:=9997) gB⟩
     · exact ⟨_,cT aX rfl,rG.int (d:=9997) gB⟩
     · exact ⟨_,cT aX rfl,rG.int (d:=9997) gB⟩
   · refine ⟨_,cR aI aC rfl,?_⟩
     refine rG.struct (d:=9998) dL fun f hf=>?_;simp only[List.mem_cons,List.not_mem_nil,or_false] at hf;rcases hf with rfl | rfl | rfl
     · exact ⟨_,cT aX rfl,rG.int (d:=9997) gB⟩
     · exact ⟨_,cT aX rfl,rG.int (d:=9997) gB⟩
     · exact ⟨_,cT aX rfl,rG.int (d:=9997) gB⟩
 · exact (ahk _).iff ⟨fun h=>Hc (P3.eq (h.1) (h.2.1) (h.2.2.1)) (P3.eq (h.2.2.2.1) (h.2.2.2.2.1) (h.2.2.2.2.2.1)) (P3.eq (h.2.2.2.2.2.2.1) (h.2.2.2.2.2.2.2.1) (h.2.2.2.2.2.2.2.2)),fun h=>by subst h;simp only[and_self]⟩
 · simp [tr,Instr.sameBits]
theorem aaj {g90 g91 ga gf gx gy N cap cx cy cf nm cm no co nr cr : Nat} {A Am Ao Ar : Option Addr} {ex ey ef : Array MapEntry} {X Y F : List (P3 × Bool)} {ts : List T3} {p q : P3} {ms rs : List T3} (w : World) (hB91 : fF w g91 [.pointer (some ⟨g90,0,none⟩),.int .i64 p.x,.int .i64 p.y,.int .i64 p.z,.int .i64 q.x,.int .i64 q.y,.int .i64 q.z,.map (some gx),.map (some gy),.slice Am nm cm,.slice Ao no co,.slice Ar nr cr] 218) (hB90 : fF w g90 [.slice A N cap,.map (some ga),.map (some gf)] 109) (hTm : bY w Am nm ms) (hTr : bY w Ar nr rs) (hnd : ∀ t ∈ ms ++ rs,t.nd = true) (hN : nm + nr ≤ 10000000) : eG prog 102 [.pointer (some ⟨g91,0,none⟩)] w (fun v _=>v = .bool (decide (((ms ++ rs).map Hh).Nodup))):=by
 refine ⟨afW,?_⟩;have m:=Mem.refl w;have htm:=hTm.len;have htr:=hTr.len;have hit : ∀ t ∈ ms ++ rs,IT t:=fun t ht=>(List.mem_append.1 ht).elim (hTm.it t) (hTr.it t)
 go_enter func102,ntmps102
 refine aD fun K1 k1=>wp_region_lit (aA (aG) (aF (k1 _ _ ?_)));try clear k1 K1
 refine aD fun K2 k2=>wp_region_lit ?_;simp only[zz];refine jA m ?_;clear m;intro q8 u m;have hD8:=bP.nil (K:=T3) (V:=Bool) tr Value.bool;refine aA (aG) (aF (k2 _ _ ?_));try clear k2 K2
 refine aD fun K3 k3=>aD fun K4 k4=>?_;simp only[zz];refine mh m [true] [(0,true),(1,true),(2,true),(5,true),(6,true),(7,true),(11,true),(3,true),(8,true),(4,false),(9,false),(10,true)] aM (by kernel_rfl) (cN (fun _ _ _ _ _ h=>h)) (ol:=?_) ?hol ?_
 case hol=>simp only[zw,zQ,zR];try rfl
 clear m;intro u m;refine aS (aB) (aS (bS rfl) (aS (aL (c:=0) fA rfl dU rfl rfl) (aS (aB) ?_)));simp only[zz];refine aS (bS rfl) (aS (aL (c:=0) fA rfl dU rfl rfl) (aS (aB) ?_));simp only[zz];refine cI rfl (fun u m=>((hB91.ext m.ext).lies1 nI rfl)) ?_;simp only[zz];refine cI rfl (fun u m=>((hB91.ext m.ext).lies1 nI rfl)) ?_;simp only[zz];refine cJ (cD rfl rfl (acn (ts:=ms) _ (hTm.ext m.ext) (by omega)) ?_);rintro v u e ⟨A5,cap5,n5,hn5,rfl,hN⟩;replace m:=m.newO e hN;clear e hN;refine aF (⟨m.sel [false,true],?_⟩);refine cJ ?_;simp only[zz];refine dD m 0 rfl rfl bQ iK rfl (by decide) rfl rfl (by rw [yV,hTr.len]) (bY.cells (hTr.ext m.ext)) (Ge _) (by omega) (by omega) ?_;clear m;intro A5 cap5 u m;simp only[zF,zG] at m;rw [← List.flatMap_append] at m;refine aF (⟨m.sel [false,true],?_⟩);refine aS (bH rfl bQ rfl) (aY (k4 _ _ ?_));try clear k4 K4
 refine wp_block ?_;simp only[zz];try simp only[Nat.zero_add,Nat.reduceAdd,Nat.reduceMul,Int.reduceToNat]
 refine bT [20] [2,5,6,7,21,22,23,24,25,26,27,28,29,30,31,32,33,34,35,36,37] (fun n vs wl=>∃ (k : Nat) (es : Array MapEntry) (c : Nat),vs = [.int .i64 (k:Int)] ∧ Mem w wl [oI 39 9 A5 (n5 + nr) cap5 ((ms ++ rs).flatMap aW),mI q8 es c] ∧ (bP tr Value.bool (fB [] (((ms ++ rs).take k).map kT)) es c) ∧ ((((ms ++ rs).take k).map kT).Nodup) ∧ (k ≤ n5 + nr) ∧ (n = n5 + nr - k)) ?_ ?_
 · skip
   apply Exists.intro;simp only[zQ,zR,zD,zE];exact ⟨0,_,_,rfl,m,hD8,List.nodup_nil,Nat.zero_le _,rfl⟩
 · intro n vs wr hI u
   clear m;obtain ⟨k,es8,c8,rfl,m,hD8,hu,hk,hn⟩:=hI;simp only[zu,zF,zG];refine aD fun K5 k5=>wp_region_lit (aA (cW rfl rfl) (aF (k5 _ _ ?_)));try clear k5 K5
   refine aD fun K6 k6=>?_;simp only[zz];refine cG rfl (fun hc1=>?_) (fun hc1=>?_)
   · skip
     obtain ⟨t,ht,hti,a,hA5,hr5⟩:=((m.o 0 rfl).tris hit).get (i:=k) (by omega);subst hA5;refine wp_skip (k6 _ _ ?_);try clear k6 K6
     refine aD fun K7 k7=>wp_block (aD fun K8 k8=>wp_region_lit (aA (aN bQ aR rfl rfl (by omega) (by omega) (dC (Int.toNat_natCast _))) ?_));simp only[zz];refine aJ rfl (hr5.lies bR aR) ?_;simp only[zz];refine bA m fP rfl ?_;clear m;intro g2 u m;simp only[zz];refine aT m 0 rfl rfl rfl aR (cU rfl) rfl ?_;clear m;intro u m;simp only[zy,zx,bB,zF,zG,Nat.reduceAdd] at m;refine aF (k8 _ _ ?_);try clear k8 K8
     refine aD fun K9 k9=>wp_region_lit (aA (aci bD aC rfl) (aA (aG) (aF (k9 _ _ ?_))));try clear k9 K9
     refine aD fun K10 k10=>wp_region_lit (aA (aB) ?_);simp only[zz];refine cD rfl rfl (acq (ps:=[t.a,t.b,t.c]) _ (akD (m.b 0 rfl)) (by decide)) ?_;rintro v u e ⟨A6,cap6,n6,hn6,rfl,hN⟩;replace m:=m.newO e hN;clear e hN;obtain rfl : n6 = 3:=hn6;refine aA (aG) (aF (k10 _ _ ?_));try clear k10 K10
     refine aD fun K11 k11=>wp_region_lit (aA (aB) ?_);simp only[zz];refine jG m 0 Tc rfl rfl (fun m=>Wz m 0 rfl (by decide)) ?_;clear m;rintro v i u m ⟨rfl,ys,rfl,hys,hso⟩;simp only[zF,zG] at m;simp only[zz];obtain rfl : ys = [(kT t).a,(kT t).b,(kT t).c]:=by rw [← No];exact Hs (Ht (hnd t (List.mem_of_getElem? ht))) hys hso
     obtain ⟨g6,rfl⟩:=(m.o 0 rfl).some (by decide);refine aF (k11 _ _ ?_);try clear k11 K11
     refine aD fun K12 k12=>wp_region_lit (aA (aB) ?_);simp only[zz];refine aA (aac underlying38 rfl (by decide)) ?_;simp only[zz];refine aJ rfl (show hG _ _ _ _ (tr (kT t)) from (m.o 0 rfl).rows.lies Te zZ) ?_;simp only[zz];refine bA m adO rfl ?_;clear m;intro g3 u m;simp only[zz];refine aT m 0 rfl rfl rfl zZ (cU rfl) rfl ?_;clear m;intro u m;simp only[zy,zx,bB,zF,zG,Nat.reduceAdd] at m;refine aF (k12 _ _ ?_);try clear k12 K12
     refine aD fun K13 k13=>aD fun K14 k14=>wp_region_lit (aA (aB) ?_);simp only[zz];refine aJ rfl ((m.b 0 rfl).full Te zZ) ?_;simp only[zz];refine eY (dV (ek:=tr) (en:=Value.bool) (k:=kT t) (v0:=false) underlying219 kY afd rfl rfl (m.p 4 rfl) hD8) ?_;simp only[zz];refine aF (k14 _ _ ?_);try clear k14 K14
     refine eD rfl (fun hc2=>?_) (fun hc2=>?_)
     · skip
       rw [nA,decide_eq_true_eq] at hc2;refine aD fun K15 k15=>wp_region_lit (aA (aG) (aF (k15 _ _ ?_)));try clear k15 K15
       refine wp_ret ?_;simp only[zz];try simp only[Exit.inBlock,Exit.then,if_true]
       refine bE rfl rfl ?_;try simp only[zD,zE]
       exact ⟨_,rfl,m.ext,by rw [ahY ht hc2]⟩
     · skip
       rw [nA,decide_eq_false_iff_not] at hc2;refine wp_skip (k13 _ _ ?_);try clear k13 K13
       refine wp_region_lit (aA (aB) ?_);simp only[zz];refine aJ rfl ((m.b 0 rfl).full Te zZ) ?_;simp only[zz];refine kD (ek:=tr) (en:=Value.bool) (a:=kT t) (v:=true) m 4 rfl underlying219 afd rfl rfl rfl hD8 ?_;clear m;intro es8 c8 u m hD';clear hD8;have hD8:=hD';clear hD';simp only[zF,zG] at m;rw [← jE] at hD8;refine aF (k7 _ _ ?_);try clear k7 K7
       refine wp_region_lit (aA (aU rfl rfl (aV (by omega) (by omega))) (aA (aB) (aF ?_)));simp only[zz];simp only[Exit.inBlock,Exit.then];refine ⟨n5 + nr - (k + 1),_,?_,rfl,?_,?_⟩
       · omega
       · simp only[zz,zv]
       · simp only[zQ,zR,zD,zE]
         exact ⟨k + 1,_,_,rfl,(m.sel [false,false,false,true,true]),by rw [cQ ht,List.map_append];exact hD8,aew ht hu hc2,by omega,rfl⟩
   · skip
     obtain rfl : k = n5 + nr:=by omega
     rw [show (ms ++ rs).take (n5 + nr) = (ms ++ rs) from List.take_of_length_le (by rw [List.length_append];omega)] at hu;refine wp_exit (k3 _ _ ?_);try clear k3 K3
     refine aD fun K16 k16=>wp_region_lit (aA (aG) (aF (k16 _ _ ?_)));try clear k16 K16
     refine wp_ret ?_;simp only[zz];try simp only[Exit.inBlock,Exit.then,if_true]
     refine bE rfl rfl ?_;try simp only[zD,zE]
     exact ⟨_,rfl,m.ext,by rw [decide_eq_true (Rc.1 hu)]⟩
end Go.Proofs.YtfekpcimgncioaaGreatDoor
namespace Go.Lith
open Go.RowKit
def Ee (o : Oper) : Bool:=match o.op with | .defer _=>false | _=>true
theorem acr {o : Oper} (h : Ee o = true) : ∀ c,o.op ≠ .defer c:=fun c e=>by unfold Ee at h;rw [e] at h;cases h
section
variable {P : Program} {Q : Exit → Act → World → Prop} {r n : Nat}
theorem Np {row : String} {args : Array Value} {w : World} {R : Value → World → Prop} (h : Rows P row args w R) : RowsIn (Fence.wide.inRound r) n P row args w R :=
 fun c cs _=>let ⟨v,w',q,s⟩:=h c cs;⟨v,w',q,stepsIn_wide.2 s⟩
theorem Jn {f : FuncId} {args : Array Value} {w : World} {R : Ending → World → Prop} (h : Calls P f args w R) : CallsIn (Fence.wide.inRound r) n P f args w R :=
 (callsIn_wide (n:=n)).2 h
theorem Oper.wpIn_of {o : Oper} {a : Act} {w : World} {K : Act → World → Prop} (hd : Ee o = true) (h : o.wp P a w K Q) : o.wpIn (Fence.wide.inRound r) n P a w K Q:=by
 unfold Oper.wp at h;refine ⟨fun _ _=>trivial,?_⟩;rw [Oper.semAt_eq _ _ _ (acr hd)];generalize (execOp a.eval o).run P w = z at *
 have h0 : (Fence.wide.inRound r).depth.isSome = true → 1 ≤ n:=fun h=>by cases h
 cases z with
 | ok x w'=>cases x <;> simp only[Oper.upon,Oper.uponIn] at h ⊢ <;> first | exact h | exact ⟨h0,Jn h⟩ | exact ⟨h0,Np h⟩ | exact h.elim
 | halt x w'=>cases x <;> simp only[Oper.upon,Oper.uponIn] at h ⊢ <;> exact h
theorem vF {ops : Array Oper} (hq : ¬ LetsOut Q) : ∀ (l : List Oper) (a : Act) (w : World),l.all Ee = true → wpList P ops Q l a w → wpListIn (Fence.wide.inRound r) n P ops Q l a w
 | [],a,w,_,h=>h
 | o :: l,a,w,hd,h=>by
  simp only[List.all_cons,Bool.and_eq_true] at hd;simp only[wpList] at h;simp only[wpListIn];split
  · rename_i hw
    rw [if_pos hw] at h;rcases h with h | ⟨_,h⟩
    · exact Oper.wpIn_of hd.1 (Oper.wp_mono (fun a w k=>vF hq l a w hd.2 k) h)
    · exact absurd h hq
  · rename_i hw
    rw [if_neg hw] at h;exact ⟨fun _ _=>trivial,vF hq l _ w hd.2 h⟩
theorem tD {md : Region.Mode} {ops : Array Oper} (hq : ¬ LetsOut Q) (hd : ∀ (i : Nat) (o : Oper),ops[i]? = some o → Ee o = true) : ∀ (f : Nat) (listed : Array Bool) (a : Act) (w : World),wpAny P md ops Q f listed a w → wpAnyIn (Fence.wide.inRound r) n P md ops Q f listed a w
 | 0,listed,a,w,h=>h
 | f + 1,listed,a,w,h=>by
  refine ⟨h.1,fun i hi=>?_⟩;have h2:=h.2 i hi;unfold wpOp at h2;unfold wpOpIn;split
  · rename_i hn
    simp only[hn] at h2;exact tD hq hd f _ a w h2
  · rename_i o ho
    simp only[ho] at h2;split
    · rename_i hw
      rw [if_pos hw] at h2;rcases h2 with h2 | ⟨_,h2⟩
      · exact Oper.wpIn_of (hd i o ho) (Oper.wp_mono (fun a w k=>tD hq hd f _ a w k) h2)
      · exact absurd h2 hq
    · rename_i hw
      rw [if_neg hw] at h2;exact ⟨fun _ _=>trivial,tD hq hd f _ _ w h2⟩
class xM (Q : Exit → Act → World → Prop) : Prop where
 h : ¬ LetsOut Q
instance {K : Act → World → Prop} [q : xM Q] : xM (Exit.then K Q):=⟨fun ⟨a,w,k⟩=>q.h ⟨a,w,k⟩⟩
instance {id : Nat} [q : xM Q] : xM (Exit.inBlock id Q):=⟨fun ⟨a,w,k⟩=>q.h ⟨a,w,k⟩⟩
instance {α : Type} {B : Nat} {Kp : World → World → Prop} {I : List α → World → Prop} {Ix : Code → List α → World → Prop} {xs : List α} {W : World} : xM (ownPostG B Kp I Ix xs W):=⟨fun ⟨_,_,k⟩=>k⟩
instance : xM (fun _ _ _=>False):=⟨fun ⟨_,_,k⟩=>k⟩
theorem cC {id : Nat} {l : List Oper} {a : Act} {w : World} [hq : xM Q] (h : wpList P l.toArray Q l a w) (hd : l.all Ee = true:=by rfl) : (Code.region id l.toArray false).wpIn (Fence.wide.inRound r) n P Q a w:=wpIn_region_lit (vF hq.h l a w hd h)
theorem kK {c1 c2 : Code} {a : Act} {w : World} (h : ∀ K : Act → World → Prop,(∀ a w,c2.wpIn (Fence.wide.inRound r) n P Q a w → K a w) → c1.wpIn (Fence.wide.inRound r) n P (Exit.then K Q) a w) : (Code.seq c1 c2).wpIn (Fence.wide.inRound r) n P Q a w:=wpIn_seq_k h
variable {l : List Value} {ds : List Deferred} {w : World} {c1 c2 : Code}
theorem tE {x : Operand} {b : Bool} (hx : ev l x = .bool b) (ht : b = true → c1.wpIn (Fence.wide.inRound r) n P Q (Fr l ds) w) (hf : b = false → c2.wpIn (Fence.wide.inRound r) n P Q (Fr l ds) w) : (Code.cond x c1 c2).wpIn (Fence.wide.inRound r) n P Q (Fr l ds) w:=by
 refine wpIn_cond (t:=b) (by rw [gH,cM];exact hx) ?_;cases b with
 | false=>exact hf rfl
 | true=>exact ht rfl
theorem lK {id : Nat} {c : Code} {a : Act} (h : c.wpIn (Fence.wide.inRound r) n P (Exit.inBlock id Q) a w) : (Code.block id c).wpIn (Fence.wide.inRound r) n P Q a w:=wpIn_block h
theorem acs {a : Act} (h : Q .normal a w) : Code.skip.wpIn (Fence.wide.inRound r) n P Q a w:=wpIn_skip h
theorem Fa {a : Act} (h : Q .ret a w) : Code.ret.wpIn (Fence.wide.inRound r) n P Q a w:=wpIn_ret h
theorem tT {C : World → Prop} {id : Nat} {a : Act} {l : List Oper} (k : Nat) (hq : ¬ LetsOut Q) (hd : l.all Ee = true) (hm : P.follows .mixedOrders = true) (hB : Region.lexTailB .any l.toArray k = true)
 (hC : C { w with drawn:=w.drawn + 1 })
 (h : wpQuiet P l.toArray C (fun a'=>∀ w',C w' → wpList P l.toArray Q (l.drop k) a' w') (l.take k) a) : (Code.region id l.toArray true).wpIn (Fence.wide.inRound r) n P Q a w:=by
 simp only[Region.lexTailB,Bool.and_eq_true,decide_eq_true_eq] at hB;obtain ⟨⟨⟨⟨hsel,hn⟩,hs⟩,hc⟩,hlex⟩:=hB;have hn' : k < l.length:=by simpa using hn
 have htl : (l.take k).length = k:=by simp;omega
 have hdl : (l.drop k).length = l.toArray.size - k:=by simp
 have inv0 : HeadInv .any l.toArray k (Array.replicate l.toArray.size false) :=
  ⟨by simp,fun j oj _ hl=>(by rw [getD_replicate_false] at hl;cases hl),fun t _ ht=>getD_in (by simpa using ht) (getD_replicate_false _ _)⟩
 have H:=sE (md:=.any) (g:=l.toArray.size - k) hsel hs hc hn (l.take k) 0 _ a (fun j hj=>by
  have hj' : j < k:=by rw [htl] at hj;exact hj
  simp [hj']) (by simpa using htl) inv0 (by rw [htl];exact hlex) h
 refine wpIn_region_any hm ?_;have:=oX (Q':=Q) (g:=l.toArray.size - k) (fun listed a' hL w' hw'=>by
  have:=wpAny_of_seq (md:=.any) (Q':=Q) (l.drop k) k listed a' w' (fun j=>by simp [List.getElem?_drop]) (by rw [hdl];exact hL.1) (hL.2 w' hw');rwa [hdl] at this) _ _ _ _ hC H
 rw [htl,show k + (l.toArray.size - k) = l.toArray.size by omega] at this;refine tD hq (fun i o ho=>?_) _ _ _ _ this;have hi : o ∈ l:=by rw [List.getElem?_toArray] at ho;exact List.mem_of_getElem? ho
 exact List.all_eq_true.1 hd o hi
structure RX (w w' : World) : Prop where
 os : w'.os = w.os
 tape : w'.tape = w.tape
 output : w'.output = w.output
 ko : KeepsOthers w w'
theorem RX.refl (w : World) : RX w w:=⟨rfl,rfl,rfl,KeepsOthers.refl w⟩
theorem RX.ext {W u u' : World} (h : RX W u) (e : eB u u') : RX W u':=⟨e.os.trans h.os,e.tape.trans h.tape,e.output.trans h.output,h.ko.trans ⟨e.size,fun k o hk _=>e.block hk⟩⟩
theorem RX.chg {W u u' : World} {g : Nat} {cs : List Value} {t : TypeId} (h : RX W u) (hB : fF u g cs t) (e : Chg u u' g) : RX W u' :=
 ⟨e.os.trans h.os,e.tape.trans h.tape,e.output.trans h.output,h.ko.trans ⟨Nat.le_of_eq e.size.symm,fun k o hk ho=>(e.block k fun hkg=>by
  subst hkg;rw [show u.heap[k]? = _ from hB] at hk;cases hk;cases ho).trans hk⟩⟩
structure iU (W w0 w : World) (is : List It) : Prop extends Mem w0 w is where
 rx : RX W w
theorem iU.start {w0 w : World} {is : List It} (m : Mem w0 w is) : iU w w0 w is:=⟨m,RX.refl w⟩
theorem iU.e {W w0 w w' : World} {is : List It} (m : iU W w0 w is) (e : eB w w') : iU W w0 w' is:=⟨m.ext' e,m.rx.ext e⟩
section
variable {W w0 : World} {is : List It} {ops : Array Oper} {rest : List Oper} {d : Nat} {ty T : TypeId} {pos : String} {after : Array Edge} {x y : Operand} {v : Value}
theorem Bg {cs : List Value} {z : Value} (m : iU W w0 w is) (hZ : iL P T z) (hv : z.cells = cs.toArray) (h : ∀ g u,iU W w0 u (bI g cs T :: is) → wpList P ops Q rest (Fr (l.set d (.pointer (some ⟨g,0,none⟩))) ds) u) :
 wpList P ops Q (Oper.mk (some d) (.alloc T) ty pos after none :: rest) (Fr l ds) w:=nX hZ hv fun u g e hg hB=>h g u ⟨m.toMem.newB e hg hB,m.rx.ext e⟩
theorem Xa {g off : Nat} {cs us : List Value} {t : TypeId} (m : iU W w0 w is) (k : Nat) (hk : is[k]? = some (bI g cs t)) (hx : ev l x = .pointer (some ⟨g,off,none⟩)) (hv : (ev l y).cells = us.toArray) (hc : dG P T us.length) (hfit : off + us.length ≤ cs.length) (h1 : (us.all (·.oneCell')) = true)
 (h : ∀ u,iU W w0 u (is.set k (bI g (bB cs off us) t)) → wpList P ops Q rest (Fr l ds) u) : wpList P ops Q (Oper.mk none (.store T x y) ty pos after none :: rest) (Fr l ds) w :=
 fE hx hv hc (m.b k hk) hfit (jZ h1) fun u hC hB=>h u ⟨m.put k hk hC.os hC.tape hC.output (by rw [hC.size];exact Nat.le_refl _) (fun b _ hne=>hC.block b fun e=>hne (by rw [e];rfl)) hB (.inl fun _ h=>h),m.rx.chg (m.b k hk) hC⟩
theorem vG {g off : Nat} {cs us : List Value} {t : TypeId} (m : iU W w0 w is) (k : Nat) (hk : is[k]? = some (bI g cs t)) (hx : ev l x = .pointer (some ⟨g,off,none⟩)) (hv : ev l y = .agg us.toArray) (hc : dG P T us.length) (hfit : off + us.length ≤ cs.length) (h1 : (us.all (·.oneCell')) = true)
 (h : ∀ u,iU W w0 u (is.set k (bI g (bB cs off us) t)) → wpList P ops Q rest (Fr l ds) u) : wpList P ops Q (Oper.mk none (.store T x y) ty pos after none :: rest) (Fr l ds) w:=Xa m k hk hx (by rw [hv];rfl) hc hfit h1 h
theorem fZ {g off : Nat} {cs : List Value} {v : Value} {t : TypeId} (m : iU W w0 w is) (k : Nat) (hk : is[k]? = some (bI g cs t)) (hx : ev l x = .pointer (some ⟨g,off,none⟩)) (hv : ev l y = v) (hc : dG P T 1) (hfit : off + 1 ≤ cs.length) (h1 : v.oneCell' = true ∧ v.cells = #[v])
 (h : ∀ u,iU W w0 u (is.set k (bI g (bB cs off [v]) t)) → wpList P ops Q rest (Fr l ds) u) : wpList P ops Q (Oper.mk none (.store T x y) ty pos after none :: rest) (Fr l ds) w:=Xa (us:=[v]) m k hk hx (by rw [hv];exact h1.2) hc hfit (by simp [h1.1]) h
theorem Fb {f : FuncId} {fo : Operand} {xs : Array Operand} {args : List Value} {first cap : Array Value} {a0 : Array TypeId} (m : iU W w0 w is) (hf : ev l fo = .func (.func f) first cap) (hxs : first.toList ++ xs.toList.map (ev l) ++ cap.toList = args) (hc : eQ P f args v)
 (h : ∀ u,iU W w0 u is → wpList P ops Q rest (Fr (l.set d v) ds) u) : wpList P ops Q (Oper.mk (some d) (.call { callee:=.value fo,args:=xs,argTypes:=a0 }) ty pos after none :: rest) (Fr l ds) w :=
 vP hf hxs hc fun u e=>h u (m.e e)
theorem rZ {id : Nat} {a : Act} {l : List Oper} [hq : xM Q] (m : iU W w0 w is) (k : Nat) (hm : P.follows .mixedOrders = true) (hB : Region.lexTailB .any l.toArray k = true)
 (h : wpQuiet P l.toArray (fun u=>iU W w0 u is) (fun a'=>∀ u,iU W w0 u is → wpList P l.toArray Q (l.drop k) a' u) (l.take k) a) (hd : l.all Ee = true:=by rfl) : (Code.region id l.toArray true).wpIn (Fence.wide.inRound r) n P Q a w :=
 tT (C:=fun u=>iU W w0 u is) k hq.h hd hm hB (m.e (eB.refl w).drawn) h
variable {Qq : Act → Prop}
theorem wP {a : Addr} (hx : ev l x = .pointer (some a)) (hv : ∀ u,iU W w0 u is → hG P u T a v) (h : wpQuiet P ops (fun u=>iU W w0 u is) Qq rest (Fr (l.set d v) ds)) : wpQuiet P ops (fun u=>iU W w0 u is) Qq (Oper.mk (some d) (.load T x) ty pos after none :: rest) (Fr l ds) :=
 gZ (fun u m=>bJ hx (hv u m)) h
theorem aak {f : FuncId} {fo : Operand} {xs : Array Operand} {args : List Value} {first cap : Array Value} {a0 : Array TypeId} (hf : ev l fo = .func (.func f) first cap) (hxs : first.toList ++ xs.toList.map (ev l) ++ cap.toList = args) (hc : eQ P f args v)
 (h : wpQuiet P ops (fun u=>iU W w0 u is) Qq rest (Fr (l.set d v) ds)) : wpQuiet P ops (fun u=>iU W w0 u is) Qq (Oper.mk (some d) (.call { callee:=.value fo,args:=xs,argTypes:=a0 }) ty pos after none :: rest) (Fr l ds):=by
 refine wpQuiet_step fun K hK=>?_;rw [if_pos (by simp [Region.wanted])];refine ⟨v,fun w' hw=>?_,?_⟩
 · unfold Oper.quietAt
   rw [gH,kM (hc w').1 hf hxs _ rfl];refine ⟨rfl,(hc w').2.mono ?_⟩;rintro e w'' ⟨u,rfl,hE,rfl⟩;exact ⟨rfl,hw.e hE⟩
 · show K ((Fr l ds).put (some d) v)
   rw [gI];exact hK _ h
end
end
/-! ### Within the fence that bars nothing: a head of quiet operations,then a tail that may yield -/
section
variable {P : Program} {Q : Exit → Act → World → Prop} {n : Nat} {C : World → Prop} {ops : Array Oper} {md : Region.Mode}
theorem Re {row : String} {args : Array Value} {w : World} {R : Value → World → Prop} (h : Rows P row args w R) : RowsIn Fence.wide n P row args w R :=
 fun c cs _=>let ⟨v,w',q,s⟩:=h c cs;⟨v,w',q,stepsIn_wide.2 s⟩
theorem Oper.wpIn_q {o : Oper} {a : Act} {w : World} {K : Act → World → Prop} (h : o.wp P a w K (fun _ _ _=>False)) : o.wpIn Fence.wide n P a w K Q:=by
 unfold Oper.wp at h;refine ⟨fun _ _=>trivial,?_⟩;show Oper.uponIn _ _ _ _ _ _ _ ((execOp a.eval o).run P w)
 generalize (execOp a.eval o).run P w = z at *
 have h0 : Fence.wide.depth.isSome = true → 1 ≤ n:=fun h=>by cases h
 cases z with
 | ok x w' =>
  cases x <;> simp only[Oper.upon,Oper.uponIn] at h ⊢ <;> first
   | exact h
   | exact ⟨h0,(callsIn_wide.2 h).mono fun e w'' k=>by cases e with | returned v=>exact k | panicked c=>exact k.elim | outgrown=>exact (k.elim fun _ k=>k.elim fun _ k=>k.elim)⟩
   | exact ⟨h0,Re h⟩
   | exact h.elim
 | halt x w'=>cases x <;> simp only[Oper.upon,Oper.uponIn] at h ⊢ <;> first | exact h | exact h.elim
theorem acu {i : Nat} {K : Act → World → Prop} {a : Act} {w : World} (h : wpOp P ops (fun _ _ _=>False) i K a w) : wpOpIn Fence.wide n P ops Q i K a w:=by
 unfold wpOp at h;unfold wpOpIn;split
 · rename_i hn
   simp only[hn] at h;exact h
 · rename_i o ho
   simp only[ho] at h;split
   · rename_i hw
     rw [if_pos hw] at h;rcases h with h | ⟨_,_,_,h⟩
     · exact Oper.wpIn_q h
     · exact h.elim
   · rename_i hw
     rw [if_neg hw] at h;exact ⟨fun _ _=>trivial,h⟩
theorem sA {k g : Nat} {L : Array Bool → Act → Prop} (hL : ∀ listed a,L listed a → ∀ w,C w → wpAnyIn Fence.wide n P md ops Q g listed a w) :
 ∀ (f : Nat) (listed : Array Bool) (a : Act) (w : World),C w → Bu P md ops C k L f listed a → wpAnyIn Fence.wide n P md ops Q (f + g) listed a w
 | 0,listed,a,w,hw,h=>by rw [Nat.zero_add];exact hL _ _ h w hw
 | f + 1,listed,a,w,hw,h=>by
  rw [show f + 1 + g = (f + g) + 1 by omega];exact ⟨fun h0=>absurd h0 h.1,fun i hi=>acu (wpOp_of_qOp hw (fun a' w' hw' h'=>sA hL f _ a' w' hw' h') (h.2 i hi).2)⟩
theorem vH : ∀ (l : List Oper) (k : Nat) (listed : Array Bool) (a : Act) (w : World),(∀ j,l[j]? = ops[k + j]?) →
 Region.seqB md ops l.length k listed = true → wpListIn Fence.wide n P ops Q l a w → wpAnyIn Fence.wide n P md ops Q l.length listed a w
 | [],_,_,_,_,_,hB,h=>⟨by simpa [Region.seqB] using hB,h⟩
 | o :: l,k,listed,a,w,hl,hB,h=>by
  have h0 : ops[k]? = some o:=by simpa using (hl 0).symm
  simp only[List.length_cons,Region.seqB,Bool.and_eq_true,decide_eq_true_eq] at hB;refine ⟨fun h1=>(by rw [hB.1] at h1;cases h1),fun i hi=>?_⟩;rw [hB.1] at hi;have hik : i = k:=by simpa using hi
  subst hik;have hw : wpOpIn Fence.wide n P ops Q i (wpListIn Fence.wide n P ops Q l) a w:=by unfold wpOpIn;simp only[h0];exact h
  exact wpOpIn_mono (fun a' w' h'=>vH l (i + 1) _ a' w' (fun j=>by have:=hl (j + 1);simpa [Nat.add_assoc,Nat.add_comm 1 j] using this) hB.2 h') hw
theorem tF {w : World} {id : Nat} {a : Act} {l : List Oper} (k : Nat) (hm : P.follows .mixedOrders = true) (hB : Region.lexTailB .any l.toArray k = true)
 (hC : C { w with drawn:=w.drawn + 1 })
 (h : wpQuiet P l.toArray C (fun a'=>∀ w',C w' → wpListIn Fence.wide n P l.toArray Q (l.drop k) a' w') (l.take k) a) : (Code.region id l.toArray true).wpIn Fence.wide n P Q a w:=by
 simp only[Region.lexTailB,Bool.and_eq_true,decide_eq_true_eq] at hB;obtain ⟨⟨⟨⟨hsel,hn⟩,hs⟩,hc⟩,hlex⟩:=hB;have hn' : k < l.length:=by simpa using hn
 have htl : (l.take k).length = k:=by simp;omega
 have hdl : (l.drop k).length = l.toArray.size - k:=by simp
 have inv0 : HeadInv .any l.toArray k (Array.replicate l.toArray.size false) :=
  ⟨by simp,fun j oj _ hl=>(by rw [getD_replicate_false] at hl;cases hl),fun t _ ht=>getD_in (by simpa using ht) (getD_replicate_false _ _)⟩
 have H:=sE (md:=.any) (g:=l.toArray.size - k) hsel hs hc hn (l.take k) 0 _ a (fun j hj=>by
  have hj' : j < k:=by rw [htl] at hj;exact hj
  simp [hj']) (by simpa using htl) inv0 (by rw [htl];exact hlex) h
 refine wpIn_region_any hm ?_;have:=sA (Q:=Q) (n:=n) (g:=l.toArray.size - k) (fun listed a' hL w' hw'=>by
  have:=vH (md:=.any) (Q:=Q) (n:=n) (l.drop k) k listed a' w' (fun j=>by simp [List.getElem?_drop]) (by rw [hdl];exact hL.1) (hL.2 w' hw');rwa [hdl] at this) _ _ _ _ hC H
 rw [htl,show k + (l.toArray.size - k) = l.toArray.size by omega] at this;exact this
theorem Fc {l : List Value} {ds : List Deferred} {w : World} {y d : Nat} {f : FuncId} {fo : Operand} {xs : Array Operand} {args : List Value} {a0 : Array TypeId} {ty : TypeId} {pos : String} {after : Array Edge} {rest : List Oper} {tmps : Array Value} {assign body : Code} {R : Ending → World → Prop}
 (hf : ev l fo = .func (.yield y) #[] #[]) (hxs : xs.toList.map (ev l) = args) (hy : (Instr.yield y args.toArray).run P w = .ok (.round y f tmps assign body) w) (hR : RoundIn Fence.wide (n - 1) P y f tmps assign body w R)
 (h : ∀ e w',R e w' → ∃ v,e = .returned v ∧ wpListIn Fence.wide n P ops Q rest (Fr (l.set d v) ds) w') :
 wpListIn Fence.wide n P ops Q (Oper.mk (some d) (.call { callee:=.value fo,args:=xs,argTypes:=a0 }) ty pos after none :: rest) (Fr l ds) w:=by
 refine wpListIn_plain rfl fun K hK=>?_;refine ⟨fun _ _=>trivial,?_⟩;have e : (Fr l ds).eval = ev l:=funext cM;have ea : args.toArray = #[] ++ xs.map (ev l) ++ #[]:=by
  rw [← hxs];apply Array.ext';simp
 have er : (execOp (Fr l ds).eval (Oper.mk (some d) (.call { callee:=.value fo,args:=xs,argTypes:=a0 }) ty pos after none)).run P w = .ok (.round y f tmps assign body) w:=by
  rw [ea] at hy;simp [execOp,resolve,e,hf,Deferred.ofValue,invoke] at hy ⊢;exact hy
 rw [show Oper.semAt Fence.wide.round = Oper.semAt none from rfl,Oper.semAt_none,er];refine ⟨fun (h : Fence.wide.depth.isSome = true)=>(by cases h),hR.mono fun e w' hr=>?_⟩;obtain ⟨v,rfl,hk⟩:=h e w' hr;exact hK _ _ (by rw [gI];exact hk)
theorem rB {l : List Value} {ds : List Deferred} {w : World} {d : Nat} {op : Op} {ty : TypeId} {pos : String} {after : Array Edge} {rest : List Oper} {v : Value} (hr : tX P l op ty v w) (h : wpListIn Fence.wide n P ops Q rest (Fr (l.set d v) ds) w) : wpListIn Fence.wide n P ops Q (Oper.mk (some d) op ty pos after none :: rest) (Fr l ds) w:=by
 refine wpListIn_plain rfl fun K hK=>?_;refine ⟨fun _ _=>trivial,?_⟩;rw [show Oper.semAt Fence.wide.round = Oper.semAt none from rfl,Oper.semAt_none,gH,hr _ rfl rfl];show K ((Fr l ds).put (some d) v) w
 rw [gI];exact hK _ _ h
end
theorem Fe {β : Type} (B : Nat) (g : β → Nat) (cs : β → List Value) (t : TypeId) : OwnFrom B fun s W=>fF W (g s) (cs s) t:=fun s X Y row hs hg hr=>by
 have hs' : X.heap[g s]? = some (.cells (cs s).toArray t (0,0)):=hs;show Y.heap[g s]? = _
 rw [grownBy_keeps_cells hg (fun r e=>(hr r e).2) hs' rfl];exact hs'
theorem Xb {β : Type} {B : Nat} {w : World} (h : w.heap.size ≤ B) : OwnFrom B fun (_ : β) W=>eB w W:=ownFrom_below (Nat.le_refl _) h
def aex (is : List It) : Prop:=∀ i ∈ is,∃ g cs t,i = bI g cs t
theorem Xc {β : Type} {B : Nat} {w : World} (F : β → List It) (hF : ∀ s,aex (F s)) (h : w.heap.size ≤ B) : OwnFrom B fun s W=>Mem w W (F s):=fun s W W' row hs hg hr=>by
 refine ⟨Xb (β:=Unit) h () W W' row hs.ext hg hr,fun i hi=>?_,hs.ge,hs.nd⟩;obtain ⟨g,cs,t,rfl⟩:=hF s i hi;exact Fe (β:=Unit) B (fun _=>g) (fun _=>cs) t () W W' row (hs.all _ hi) hg hr
end Go.Lith
namespace Go.Proofs.YtfekpcimgncioaaGreatDoor
open Go.Proofs.Tryz
open Go.RowKit Go.Lith
attribute [local go_sem] Oper.semAt_some
def afe (t : T3) (k : Nat) : Array Value:=#[pt (t.cor k),pt (t.cor ((k + 1) % 3))]
set_option maxRecDepth 100000 in
theorem aal (n : Nat) (hn : 1 ≤ n) (l Bs n₀ : Nat) (t : T3) (J Jx : List Nat → World → Prop)
 (hJd : ∀ s W,J s W → J s W.drew) (hY : ∀ pre x W,J pre W → pre.length < 3 → YieldAt Fence.wide (n - 1) prog l (afe t x) W fun e W' =>
  (e = .returned (.bool true) ∧ J (pre ++ [x]) W' ∧ jT n₀ Bs W W') ∨ (e = .returned (.bool false) ∧ Jx (pre ++ [x]) W'))
 (W : World) (hBs : fF W Bs (aW t) 39) (h0 : J [] W) :
 CallsIn Fence.wide n prog 337 #[.func (.yield l) #[] #[],.pointer (some ⟨Bs,0,none⟩)] W fun e W'=>(∃ v,e = .returned v) ∧
  ((∃ ys : List Nat,ys = [0,1,2] ∧ J ys W') ∨ (∃ pre,(∀ k ∈ pre,k < 3) ∧ Jx pre W')):=by
 refine callsIn_of_wp func337 rfl trivial ?_ rfl;simp only[ntmps337,List.size_toArray,List.length_cons,List.length_nil,Nat.reduceAdd,Nat.reduceSub,Array.replicate_succ,Array.replicate_zero,List.push_toArray,List.append_toArray,List.nil_append,List.cons_append]
 gi_wp2
 gi_loopw [4] (fun i wr=>∃ (k : Nat),k ≤ 3 ∧ i = .int .i64 (k : Int) ∧ J (List.range k) wr ∧ jT n₀ Bs W wr)
  (fun i _=>(3 - intOf i).toNat)
 case atStart=>exact ⟨0,by omega,rfl,h0,jT.refl _ _ _⟩
 case round =>
  obtain ⟨k,hk,rfl,hJs,hnx⟩:=hrel;have hB : fF wr Bs (aW t) 39:=hnx.2.trans hBs;have hD : fF wr.drew Bs (aW t) 39:=hB;have hk4 : k = 0 ∨ k = 1 ∨ k = 2 ∨ k = 3:=by omega
  rcases hk4 with rfl | rfl | rfl | rfl
  · obtain ⟨fn,tmps,assign,body,hy,hR⟩:=hY (List.range 0) 0 wr.drew (hJd _ _ hJs) (by decide)
    gi_wp2
    rename_i K1 hK1 K2 hK2;refine tF (C:=fun u=>u = wr.drew) 9 aM (by kernel_rfl) rfl ?_;simp only[zy];refine aK (aB) (aK (aB) (aK (aH bD aC rfl rfl (by decide) (by decide) rfl) ?_));simp only[zz,zy,Nat.zero_add,Nat.reduceAdd,Nat.reduceMul,Int.reduceToNat];refine gZ (fun u hu=>bJ rfl (hu ▸ (mP.cor (c:=0) (hD.row 0) (by decide)).lies aI aC)) ?_;simp only[zz];refine aK (aB) (aK (aU (m:=0) (n:=1) (r:=1) rfl rfl (by decide)) (aK (gD (m:=1) (n:=3) (r:=1) rfl rfl (by decide) (by decide)) ?_));simp only[zz];refine aK (aH bD aC rfl rfl (by decide) (by decide) rfl) ?_;simp only[zz,zy,Nat.zero_add,Nat.reduceAdd,Nat.reduceMul,Int.reduceToNat];refine gZ (fun u hu=>bJ rfl (hu ▸ (mP.cor (c:=1) (hD.row 0) (by decide)).lies aI aC)) ?_;simp only[zz];refine bZ ?_;rintro u rfl;try simp only[zy]
    refine Fc rfl rfl hy hR ?_;rintro e W3 (⟨rfl,hJ3,hk3⟩ | ⟨rfl,hJx3⟩)
    · refine ⟨_,rfl,?_⟩
      simp only[zz];refine rB (fR rfl _) (wpListIn_nil (hK2 _ _ ?_));simp only[zz,Bool.not_true]
      gi_wp2
      go_roundw
      case rel=>exact ⟨0 + 1,by decide,rfl,hJ3,hnx.trans ((show jT n₀ Bs wr wr.drew from ⟨(Below.refl _ _).drew,rfl⟩).trans hk3)⟩
      case measure=>simp [intOf]
    · refine ⟨_,rfl,?_⟩
      simp only[zz];refine rB (fR rfl _) (wpListIn_nil (hK2 _ _ ?_));simp only[zz,Bool.not_false]
      gi_wp2
      refine bodyPost_ret (results_none rfl _ _ _) rfl ?_;exact ⟨⟨_,rfl⟩,.inr ⟨_,by decide,hJx3⟩⟩
  · obtain ⟨fn,tmps,assign,body,hy,hR⟩:=hY (List.range 1) 1 wr.drew (hJd _ _ hJs) (by decide)
    gi_wp2
    rename_i K1 hK1 K2 hK2;refine tF (C:=fun u=>u = wr.drew) 9 aM (by kernel_rfl) rfl ?_;simp only[zy];refine aK (aB) (aK (aB) (aK (aH bD aC rfl rfl (by decide) (by decide) rfl) ?_));simp only[zz,zy,Nat.zero_add,Nat.reduceAdd,Nat.reduceMul,Int.reduceToNat];refine gZ (fun u hu=>bJ rfl (hu ▸ (mP.cor (c:=1) (hD.row 0) (by decide)).lies aI aC)) ?_;simp only[zz];refine aK (aB) (aK (aU (m:=1) (n:=1) (r:=2) rfl rfl (by decide)) (aK (gD (m:=2) (n:=3) (r:=2) rfl rfl (by decide) (by decide)) ?_));simp only[zz];refine aK (aH bD aC rfl rfl (by decide) (by decide) rfl) ?_;simp only[zz,zy,Nat.zero_add,Nat.reduceAdd,Nat.reduceMul,Int.reduceToNat];refine gZ (fun u hu=>bJ rfl (hu ▸ (mP.cor (c:=2) (hD.row 0) (by decide)).lies aI aC)) ?_;simp only[zz];refine bZ ?_;rintro u rfl;try simp only[zy]
    refine Fc rfl rfl hy hR ?_;rintro e W3 (⟨rfl,hJ3,hk3⟩ | ⟨rfl,hJx3⟩)
    · refine ⟨_,rfl,?_⟩
      simp only[zz];refine rB (fR rfl _) (wpListIn_nil (hK2 _ _ ?_));simp only[zz,Bool.not_true]
      gi_wp2
      go_roundw
      case rel=>exact ⟨1 + 1,by decide,rfl,hJ3,hnx.trans ((show jT n₀ Bs wr wr.drew from ⟨(Below.refl _ _).drew,rfl⟩).trans hk3)⟩
      case measure=>simp [intOf]
    · refine ⟨_,rfl,?_⟩
      simp only[zz];refine rB (fR rfl _) (wpListIn_nil (hK2 _ _ ?_));simp only[zz,Bool.not_false]
      gi_wp2
      refine bodyPost_ret (results_none rfl _ _ _) rfl ?_;exact ⟨⟨_,rfl⟩,.inr ⟨_,by decide,hJx3⟩⟩
  · obtain ⟨fn,tmps,assign,body,hy,hR⟩:=hY (List.range 2) 2 wr.drew (hJd _ _ hJs) (by decide)
    gi_wp2
    rename_i K1 hK1 K2 hK2;refine tF (C:=fun u=>u = wr.drew) 9 aM (by kernel_rfl) rfl ?_;simp only[zy];refine aK (aB) (aK (aB) (aK (aH bD aC rfl rfl (by decide) (by decide) rfl) ?_));simp only[zz,zy,Nat.zero_add,Nat.reduceAdd,Nat.reduceMul,Int.reduceToNat];refine gZ (fun u hu=>bJ rfl (hu ▸ (mP.cor (c:=2) (hD.row 0) (by decide)).lies aI aC)) ?_;simp only[zz];refine aK (aB) (aK (aU (m:=2) (n:=1) (r:=3) rfl rfl (by decide)) (aK (gD (m:=3) (n:=3) (r:=0) rfl rfl (by decide) (by decide)) ?_));simp only[zz];refine aK (aH bD aC rfl rfl (by decide) (by decide) rfl) ?_;simp only[zz,zy,Nat.zero_add,Nat.reduceAdd,Nat.reduceMul,Int.reduceToNat];refine gZ (fun u hu=>bJ rfl (hu ▸ (mP.cor (c:=0) (hD.row 0) (by decide)).lies aI aC)) ?_;simp only[zz];refine bZ ?_;rintro u rfl;try simp only[zy]
    refine Fc rfl rfl hy hR ?_;rintro e W3 (⟨rfl,hJ3,hk3⟩ | ⟨rfl,hJx3⟩)
    · refine ⟨_,rfl,?_⟩
      simp only[zz];refine rB (fR rfl _) (wpListIn_nil (hK2 _ _ ?_));simp only[zz,Bool.not_true]
      gi_wp2
      go_roundw
      case rel=>exact ⟨2 + 1,by decide,rfl,hJ3,hnx.trans ((show jT n₀ Bs wr wr.drew from ⟨(Below.refl _ _).drew,rfl⟩).trans hk3)⟩
      case measure=>simp [intOf]
    · refine ⟨_,rfl,?_⟩
      simp only[zz];refine rB (fR rfl _) (wpListIn_nil (hK2 _ _ ?_));simp only[zz,Bool.not_false]
      gi_wp2
      refine bodyPost_ret (results_none rfl _ _ _) rfl ?_;exact ⟨⟨_,rfl⟩,.inr ⟨_,by decide,hJx3⟩⟩
  · gi_wp2
    go_end0
    exact ⟨⟨_,rfl⟩,.inl ⟨_,rfl,hJs⟩⟩
end Go.Proofs.YtfekpcimgncioaaGreatDoor
namespace Go.Proofs.YtfekpcimgncioaaGreatDoor
open Go.Proofs.Tryz
open Go.RowKit Go.Lith
section
variable {w0 w : World} {is : List It}
def dI (D : Nat) (o : Obj) : It where
 own b:=some D = some b
 P w:=w.heap[D]? = some o
 lt w b h e:=by cases e;exact (Array.getElem?_eq_some_iff.1 h).1
 st w w' h _ k:=(k D rfl).trans h
theorem _root_.Go.Lith.Mem.putD {D : Nat} {o o' : Obj} (m : Mem w0 w is) (k : Nat) (hk : is[k]? = some (dI D o)) : Mem w0 (w.putObj D o') (is.set k (dI D o')):=by
 have hl : D < w.heap.size:=(dI D o).lt w D (m.get k hk) rfl;refine m.put k hk rfl rfl rfl (by show _ ≤ (w.heap.setIfInBounds D o').size;simp) (fun b _ hne=>World.putObj_heap_other (fun e=>hne (by rw [e];rfl))) ?_ (.inl fun _ h=>h);show (w.heap.setIfInBounds D o')[D]? = some o'
 simp [hl]
theorem _root_.Go.Lith.Mem.addD {D : Nat} {x : Option (List Deferred)} (m : Mem w0 w is) (hA : aex is) (h : w.heap[D]? = some (.deferred x)) (hge : w0.heap.size ≤ D) : Mem w0 w (dI D (.deferred x) :: is):=by
 refine ⟨m.ext,fun i hi=>?_,fun i hi b hb=>?_,List.pairwise_cons.2 ⟨fun j hj b h1 h2=>?_,m.nd⟩⟩
 · rcases List.mem_cons.1 hi with rfl | hi
   · exact h
   · exact m.all i hi
 · rcases List.mem_cons.1 hi with rfl | hi
   · cases hb;exact hge
   · exact m.ge i hi b hb
 · obtain ⟨g,cs,t,rfl⟩:=hA j hj
   cases h1;cases h2;have hB : w.heap[D]? = some (.cells cs.toArray t (0,0)):=m.all _ hj;rw [h] at hB;cases hB
theorem aff {P : Program} {l : List Value} {n : Nat} {fn : Func} {R : Ending → World → Prop} {w : World} (h : bodyPost P fn R .ret (Fr l) w) : bodyPostM Fence.wide n P fn R .ret (Fr l) w:=by
 obtain ⟨_,v,hv,hR⟩:=h;exact ⟨v,hv,hR⟩
theorem Rf {W u : World} {Bs : Nat} {cs : List Value} {t : TypeId} (rx : RX W u) (h1 : fF W Bs cs t) (h2 : fF u Bs cs t) : jT 0 Bs W u :=
 ⟨⟨rx.os,rx.tape,rx.output,rx.ko.size,fun k hk=>absurd hk (Nat.not_lt_zero _)⟩,(show u.heap[Bs]? = _ from h2).trans (show W.heap[Bs]? = _ from h1).symm⟩
theorem acv {g k : Nat} {c1 c2 : List Value} {T1 T2 : TypeId} (m : Mem w0 w is) (h1 : fF w g c1 T1) (h2 : fF w k c2 T2) (hgk : k ≠ g) (hg : ∀ o ∈ is.map (·.own),¬ o g) (hk : ∀ o ∈ is.map (·.own),¬ o k) (eg : w0.heap.size ≤ g) (ek : w0.heap.size ≤ k) : Mem w0 w (bI k c2 T2 :: bI g c1 T1 :: is):=by
 refine ⟨m.ext,fun i hi=>?_,fun i hi b hb=>?_,List.pairwise_cons.2 ⟨fun j hj b e1 e2=>?_,List.pairwise_cons.2 ⟨fun j hj b e1 e2=>?_,m.nd⟩⟩⟩
 · rcases List.mem_cons.1 hi with rfl | hi
   · exact h2
   · rcases List.mem_cons.1 hi with rfl | hi
     · exact h1
     · exact m.all i hi
 · rcases List.mem_cons.1 hi with rfl | hi
   · cases hb;exact ek
   · rcases List.mem_cons.1 hi with rfl | hi
     · cases hb;exact eg
     · exact m.ge i hi b hb
 · cases e1
   rcases List.mem_cons.1 hj with rfl | hj
   · cases e2;exact hgk rfl
   · exact hk _ (List.mem_map_of_mem hj) e2
 · cases e1
   exact hg _ (List.mem_map_of_mem hj) e2
theorem acw {g k : Nat} {c1 c2 : List Value} {T1 T2 : TypeId} (m : Mem w0 w (bI k c2 T2 :: bI g c1 T1 :: is)) : k ≠ g ∧ (∀ o ∈ is.map (·.own),¬ o g) ∧ (∀ o ∈ is.map (·.own),¬ o k) ∧ w0.heap.size ≤ g ∧ w0.heap.size ≤ k:=by
 obtain ⟨h1,h2⟩:=List.pairwise_cons.1 m.nd;obtain ⟨h3,_⟩:=List.pairwise_cons.1 h2;refine ⟨fun e=>h1 _ List.mem_cons_self k rfl (by rw [e];rfl),fun o ho h=>?_,fun o ho h=>?_,m.ge _ (List.mem_cons_of_mem _ List.mem_cons_self) g rfl,m.ge _ List.mem_cons_self k rfl⟩
 · obtain ⟨i,hi,rfl⟩:=List.mem_map.1 ho
   exact h3 i hi g rfl h
 · obtain ⟨i,hi,rfl⟩:=List.mem_map.1 ho
   exact h1 i (List.mem_cons_of_mem _ hi) k rfl h
theorem Rg {α : Type} {L : List Value} {go : Operand} {gf Bs N q1 q2 d1 d2 : Nat} {assign body : Code} {Q : Exit → Act → World → Prop} {P : Program} {S Sp : List α → Prop} {v1 v2 : α → Value} {c1 c2 : α → List Value} {T1 T2 tB : TypeId} {csB : List Value}
 (hf : ev L go = .func (.func gf) #[] #[.pointer (some ⟨Bs,0,none⟩)]) (he : Lith.Enters P gf) (hseq : SeqStopsK Fence.wide 3 P gf #[.pointer (some ⟨Bs,0,none⟩)] (fun x=>#[v1 x,v2 x]) (jT 0 Bs) S Sp N w)
 (I Ir : List α → List It) (J Jr : List α → Prop) (hA : ∀ pre,aex (I pre)) (hAr : ∀ pre,aex (Ir pre)) (hid : ∀ pre,(I pre).map (·.own) = (I []).map (·.own)) (hBs : ∀ pre,bI Bs csB tB ∈ I pre)
 (m : Mem w0 w (I [])) (hJ : J [])
 (hassign : ∀ (r : Nat) (pre : List α) (x : α) (W : World) (K : Act → World → Prop),iU W w0 W (I pre) → (∀ g k u,iU W w0 u (bI k (c2 x) T2 :: bI g (c1 x) T1 :: I pre) → K (Fr ((((L.set q1 (v1 x)).set q2 (v2 x)).set d1 (.pointer (some ⟨g,0,none⟩))).set d2 (.pointer (some ⟨k,0,none⟩)))) u) →
  assign.wpIn (Fence.wide.inRound r) 2 P (Exit.then K (fun _ _ _=>False)) (Fr ((L.set q1 (v1 x)).set q2 (v2 x))) W)
 (hbody : ∀ (r : Nat) (pre : List α) (x : α) (g k : Nat) (W : World) (Q' : Exit → Act → World → Prop) [xM Q'],J pre → pre.length < N → iU W w0 W (bI k (c2 x) T2 :: bI g (c1 x) T1 :: I pre) →
  (∀ a u,iU W w0 u (I (pre ++ [x])) → J (pre ++ [x]) → Q' .normal a u) → (∀ a u,iU W w0 u (Ir (pre ++ [x])) → Jr (pre ++ [x]) → Q' .ret a u) →
  body.wpIn (Fence.wide.inRound r) 2 P Q' (Fr ((((L.set q1 (v1 x)).set q2 (v2 x)).set d1 (.pointer (some ⟨g,0,none⟩))).set d2 (.pointer (some ⟨k,0,none⟩)))) W)
 (hdone : ∀ (D : Nat) (xs : List α) (u : World),S xs → J xs → Mem w0 u (dI D (.deferred (some [])) :: I xs) → Q .normal (Fr L [{ target:=.collected D,args:=#[] }]) u)
 (hstop : ∀ (D : Nat) (pre : List α) (u : World),Sp pre → Jr pre → Mem w0 u (dI D (.deferred (some [])) :: Ir pre) → Q .ret (Fr L [{ target:=.collected D,args:=#[] }]) u) :
 (Code.rangeFunc go #[q1,q2] assign body).wp P Q (Fr L) w:=by
 refine (wpIn_wide (n:=4)).1 ?_;have hsz:=m.ext.size;refine wpIn_rangeFunc_ownH (F:=Fence.wide) rfl (by omega) (gf:=gf) (lb:=#[.pointer (some ⟨Bs,0,none⟩)]) (by rw [cM];exact hf) trivial (fun args u=>nY he) hseq jT.trans
  (fun W l o o' hl ho hc _=>⟨⟨rfl,rfl,rfl,by show _ ≤ (W.heap.setIfInBounds l o').size;simp,fun k hk=>absurd hk (Nat.not_lt_zero _)⟩,World.putObj_heap_other (fun e=>by
   have hb:=(m.all _ (hBs [])).lt;omega)⟩) (Below.refl _ _) (fun _=>rfl)
  (fun pre W=>Mem w0 W (I pre) ∧ J pre) (fun c pre W=>Mem w0 W (Ir pre) ∧ (c = .ret ∧ Jr pre))
  (OwnFrom.and (Xc I hA hsz) (ownFrom_pure _ J)) (fun c=>OwnFrom.and (Xc Ir hAr hsz) (ownFrom_pure _ _)) ⟨m,hJ⟩
  (fun x a' W=>∃ g k,a' = Fr ((((L.set q1 (v1 x)).set q2 (v2 x)).set d1 (.pointer (some ⟨g,0,none⟩))).set d2 (.pointer (some ⟨k,0,none⟩))) ∧ fF W g (c1 x) T1 ∧ fF W k (c2 x) T2 ∧ k ≠ g ∧ (∀ o ∈ (I []).map (·.own),¬ o g) ∧ (∀ o ∈ (I []).map (·.own),¬ o k) ∧ w0.heap.size ≤ g ∧ w0.heap.size ≤ k)
  (fun x a' _ X Y row hs hg hr=>by
   obtain ⟨g,k,e,h1,h2,h3⟩:=hs;exact ⟨g,k,e,Fe (β:=Unit) _ (fun _=>g) (fun _=>c1 x) T1 () X Y row h1 hg hr,Fe (β:=Unit) _ (fun _=>k) (fun _=>c2 x) T2 () X Y row h2 hg hr,h3⟩)
  ?_ ?_ ?_ ?_
 · intro r pre x W K hI hK
   have e : ((#[q1,q2].zip #[v1 x,v2 x]).foldl (fun t (y : Tmp × Value)=>t.setIfInBounds y.1 y.2) (Fr L).tmps) = ((L.set q1 (v1 x)).set q2 (v2 x)).toArray:=by simp
   have:=hassign r pre x W K (iU.start hI.1) (fun g k u hm=>?_)
   · simp only at this ⊢
     rw [e];exact this
   · have hp:=acw hm.toMem
     rw [hid pre] at hp;have hI2 : Mem w0 u (I pre):=hm.toMem.tl.tl;exact hK _ _ (hm.rx.ko.from _) (Rf hm.rx (hI.1.all _ (hBs pre)) (hI2.all _ (hBs pre))) ⟨hI2,hI.2⟩ ⟨g,k,rfl,hm.all _ (List.mem_cons_of_mem _ List.mem_cons_self),hm.all _ List.mem_cons_self,hp⟩
 · rintro r pre x a' W _ _ ⟨hI,hJp⟩ ⟨g,k,rfl,h1,h2,h3,h4,h5,h6,h7⟩ hN
   rw [← hid pre] at h4 h5;refine hbody r pre x g k W _ hJp hN (iU.start (acv hI h1 h2 h3 h4 h5 h6 h7)) (fun a u hm hj=>?_) (fun a u hm hj=>?_)
   · exact ⟨hm.rx.ko.from _,Rf hm.rx (hI.all _ (hBs pre)) (hm.all _ (hBs _)),hm.toMem,hj⟩
   · exact ⟨hm.rx.ko.from _,hm.toMem,rfl,hj⟩
 · rintro D xs W hD hS ⟨hI,hj⟩ hd
   exact hdone D xs W hS hj (Lith.Mem.addD hI (hA xs) hd (Nat.le_trans hsz hD))
 · rintro D c pre W hD hsp ⟨hI,rfl,hj⟩ hd
   exact wpIn_ret (hstop D pre W hsp hj (Lith.Mem.addD hI (hAr pre) hd (Nat.le_trans hsz hD)))
end
end Go.Proofs.YtfekpcimgncioaaGreatDoor
namespace Go.Lith
open Go.RowKit Go.ChangeMaps Go.MapKept
theorem Rh {w u : World} (e : eB w u) : w.grownBy u none:=⟨e.os,e.tape,e.output,e.size,fun k hk _=>Below.block e k hk⟩
section
variable {K V : Type} [DecidableEq K] {P : Program} {T M E ty : TypeId} {ek : K → Value} {en : V → Value} {w : World} {g c r : Nat} {es : Array MapEntry} {D : List (K × V)}
variable {ds : List Deferred} {l : List Value} {x : Operand} {ops : Array Oper} {Q : Exit → Act → World → Prop} {rest : List Oper} {d : Nat} {pos : String} {after : Array Edge}
theorem aey {seen : Array Nat} {dn rs : List (K × V)} (hx : ev l x = .pointer (some ⟨r,0,none⟩)) (hI : mZ w r g c seen c) (hM : gC w g es c) (hD : bP ek en D es c) (hT : kU ek en D es seen dn rs)
 (h : ∀ b kv vv seen' u,w.grownBy u (some r) → gC u g es c → mZ u r g c seen' c → Nxt ek en D es dn rs b kv vv seen' → wpList P ops Q rest (Fr (l.set d (xG b kv vv)) ds) u) :
 wpList P ops Q (Oper.mk (some d) (.next x false) ty pos after none :: rest) (Fr l ds) w:=by
 obtain ⟨b,kv,vv,seen',w1,hw1,hr,hN⟩:=Km (P:=P) (ty:=ty) (s:=0) hI hM hD hT;have e1 : w1.heap = w.heap ∧ w1.os = w.os ∧ w1.tape = w.tape ∧ w1.output = w.output:=by rcases hw1 with rfl | rfl <;> exact ⟨rfl,rfl,rfl,rfl⟩
 have hgr : g ≠ r:=fun e=>by
  subst e;have h1 : w.heap[g]? = some (.map es c):=hM;rw [show w.heap[g]? = _ from hI] at h1;cases h1
 refine jN (w':=setBlock w1 r (.mapIter (some g) c seen' c)) (v:=xG b kv vv) (fun o ho hty=>by simp [execOp,ho,cM,hx,hty,hr]) (h b kv vv seen' _ ⟨e1.2.1,e1.2.2.1,e1.2.2.2,by simp [setBlock,e1.1],fun k _ hk=>?_⟩ ?_ ?_ hN)
 · simp only[setBlock,e1.1]
   exact Array.getElem?_setIfInBounds_ne fun e=>hk (by rw [e])
 · show (setBlock w1 r _).heap[g]? = _
   simp only[setBlock,e1.1];rw [Array.getElem?_setIfInBounds_ne (Ne.symm hgr)];exact hM
 · exact gT (w:=w1) (o:=.mapIter (some g) c seen c) (by rw [e1.1];exact hI)
end
def aez (is : List It) : Prop:=∀ i ∈ is,(∃ g cs t,i = bI g cs t) ∨ ∃ E c A n cap xs,i = oI E c A n cap xs
theorem ahZ {β : Type} (B : Nat) (E : TypeId) (c : Nat) (A : Option Addr) (n cap : Nat) (xs : List Value) : OwnFrom B fun (_ : β) W=>(oI E c A n cap xs).P W:=fun s X Y row hs hg hr=>by
 refine ⟨hs.1,?_⟩;rcases hs.2 with h | ⟨g,cap,cur,h1,h2,h3,h4⟩
 · exact .inl h
 · exact .inr ⟨g,cap,cur,h1,h2,by
    rw [grownBy_keeps_cells hg (fun r e=>(hr r e).2) h3 rfl];exact h3,h4⟩
theorem Ri {β : Type} {B : Nat} {w : World} (F : β → List It) (hF : ∀ s,aez (F s)) (h : w.heap.size ≤ B) : OwnFrom B fun s W=>Mem w W (F s):=fun s W W' row hs hg hr=>by
 refine ⟨Xb (β:=Unit) h () W W' row hs.ext hg hr,fun i hi=>?_,hs.ge,hs.nd⟩;rcases hF s i hi with ⟨g,cs,t,rfl⟩ | ⟨E,c,A,n,cap,xs,rfl⟩
 · exact Fe (β:=Unit) B (fun _=>g) (fun _=>cs) t () W W' row (hs.all _ hi) hg hr
 · exact ahZ (β:=Unit) B E c A n cap xs () W W' row (hs.all _ hi) hg hr
theorem Mem.addC {w0 w : World} {is : List It} {D : Nat} {x : Option (List Deferred)} (m : Mem w0 w is) (hA : aez is) (h : w.heap[D]? = some (.deferred x)) (hge : w0.heap.size ≤ D) : Mem w0 w (Go.Proofs.YtfekpcimgncioaaGreatDoor.dI D (.deferred x) :: is):=by
 refine ⟨m.ext,fun i hi=>?_,fun i hi b hb=>?_,List.pairwise_cons.2 ⟨fun j hj b h1 h2=>?_,m.nd⟩⟩
 · rcases List.mem_cons.1 hi with rfl | hi
   · exact h
   · exact m.all i hi
 · rcases List.mem_cons.1 hi with rfl | hi
   · cases hb;exact hge
   · exact m.ge i hi b hb
 · cases h1
   rcases hA j hj with ⟨g,cs,t,rfl⟩ | ⟨E,c,A,n,cap,xs,rfl⟩
   · cases h2
     have hB : w.heap[D]? = some (.cells cs.toArray t (0,0)):=m.all _ hj;rw [h] at hB;cases hB
   · have hP:=m.all _ hj
     rcases hP.2 with ⟨e,_⟩ | ⟨g,cap',cur,e,_,hg,_⟩
     · cases e;cases h2
     · cases e
       cases h2;rw [h] at hg;cases hg
theorem RX.wr {W u u' : World} {A : Option Addr} {w0 : World} {S : List (Option Nat)} {E : TypeId} {c n cap : Nat} {xs : List Value} (h : RX W u) (hO : Ow w0 u S E c A n cap xs) (e : Wr u u' A) : RX W u' :=
 ⟨e.os.trans h.os,e.tape.trans h.tape,e.output.trans h.output,h.ko.trans ⟨e.size,fun k o hk ho=>(e.block k (Array.getElem?_eq_some_iff.1 hk).1 fun hkA=>by
  rcases hO.cases with ⟨rfl,_⟩ | ⟨g,cur,rfl,_,hg,_⟩
  · cases hkA
  · cases hkA
    rw [hg] at hk;cases hk;cases ho).trans hk⟩⟩
section
variable {P : Program} {Q : Exit → Act → World → Prop} {W w0 w : World} {is : List It} {ops : Array Oper} {rest : List Oper} {d : Nat} {ty T : TypeId} {pos : String} {after : Array Edge} {x y : Operand} {l : List Value} {ds : List Deferred}
theorem acx {E : TypeId} {c n cap b nm mcap : Nat} {A B : Option Addr} {z : Value} {xs news : List Value} {a0 : Array TypeId} (m : iU W w0 w is) (k : Nat) (hk : is[k]? = some (oI E c A n cap xs)) (ha : a0 = #[T,T]) (hu : P.underlying T = some (.slice E)) (hi : (P.info? E).map (fun i=>(i.size,i.bytes,i.zero)) = some (c,b,some z)) (hz : z.cells.size = c) (hc : 0 < c)
 (hs : ev l x = .slice A n cap) (hx : ev l y = .slice B nm mcap) (hl : news.length = nm * c) (hrow : ∀ j u,news[j]? = some u → ∃ a,B = some a ∧ w.cell? (a.add j) = some u) (h1 : ∀ u ∈ news,u.oneCell' = true) (h63 : n + nm ≤ 9223372036854775807) (hbytes : (n + nm) * b ≤ 140737488355328)
 (h : ∀ A' cap' u,iU W w0 u (is.set k (oI E c A' (n + nm) cap' (xs ++ news))) → wpList P ops Q rest (Fr (l.set d (.slice A' (n + nm) cap')) ds) u) :
 wpList P ops Q (Oper.mk (some d) (.call { callee:=.builtin .append,args:=#[x,y],argTypes:=a0 }) ty pos after none :: rest) (Fr l ds) w :=
 Kd ha hu hi hz hc m.ext hs (m.o k hk) hx hl hrow h1 h63 hbytes fun A' cap' u hO hW hF=>h A' cap' u ⟨m.put k hk hW.os hW.tape hW.output hW.size (fun b hb hne=>hW.block b hb hne) (by
  refine ⟨hO.own.1,?_⟩;rcases hO.cases with ⟨rfl,e1,rfl,_⟩ | ⟨g,cur,rfl,_,h2,h3⟩
  · exact .inl ⟨by rw [e1],e1⟩
  · exact .inr ⟨g,cap',cur,rfl,Nat.zero_le _,h2,h3⟩) (by
  rcases hF with rfl | hF
  · exact .inl fun _ h=>h
  · exact .inr fun b hb=>by
     have e : Dj A' = some b:=hb;rw [hF] at e;cases e;exact Nat.le_refl _),m.rx.wr (m.o k hk) hW⟩
theorem Rj {W u : World} (h : RX W u) : KeepsWalks W u:=⟨h.ko.size,fun k o hk ho=>h.ko.same k o hk (by cases o <;> first | rfl | cases ho)⟩
theorem acy {α σ : Type} {L : List Value} {go : Operand} {gf Bs N q1 d1 : Nat} {assign body : Code} {S : List α → Prop} {v1 : α → Value} {c1 : α → List Value} {T1 : TypeId}
 (hf : ev L go = .func (.func gf) #[] #[.pointer (some ⟨Bs,0,none⟩)]) (he : Lith.Enters P gf) (hseq : SeqStopsK Fence.wide 3 P gf #[.pointer (some ⟨Bs,0,none⟩)] (fun x=>#[v1 x]) KeepsWalks S (fun _=>True) N w)
 (F : σ → List It) (R : List α → σ → Prop) (hF : ∀ s,aez (F s)) (hdet : ∀ W s s' pre pre',R pre s → R pre' s' → Mem w0 W (F s) → Mem w0 W (F s') → R pre s') {s0 : σ} (m : Mem w0 w (F s0)) (hR : R [] s0)
 (hassign : ∀ (r : Nat) (pre : List α) (x : α) (s : σ) (W : World) (K : Act → World → Prop),R pre s → iU W w0 W (F s) → (∀ g u,iU W w0 u (bI g (c1 x) T1 :: F s) → K (Fr ((L.set q1 (v1 x)).set d1 (.pointer (some ⟨g,0,none⟩)))) u) →
  assign.wpIn (Fence.wide.inRound r) 2 P (Exit.then K (fun _ _ _=>False)) (Fr (L.set q1 (v1 x))) W)
 (hbody : ∀ (r : Nat) (pre : List α) (x : α) (g : Nat) (s : σ) (W : World) (Q' : Exit → Act → World → Prop) [xM Q'],pre.length < N → R pre s → iU W w0 W (bI g (c1 x) T1 :: F s) →
  (∀ a u s',iU W w0 u (F s') → R (pre ++ [x]) s' → Q' .normal a u) → body.wpIn (Fence.wide.inRound r) 2 P Q' (Fr ((L.set q1 (v1 x)).set d1 (.pointer (some ⟨g,0,none⟩)))) W)
 (hdone : ∀ (D : Nat) (xs : List α) (s : σ) (u : World),S xs → R xs s → Mem w0 u (Go.Proofs.YtfekpcimgncioaaGreatDoor.dI D (.deferred (some [])) :: F s) → Q .normal (Fr L [{ target:=.collected D,args:=#[] }]) u) :
 (Code.rangeFunc go #[q1] assign body).wp P Q (Fr L) w:=by
 refine (wpIn_wide (n:=4)).1 ?_;have hsz:=m.ext.size;have own : OwnFrom w.heap.size fun (pre : List α) W=>∃ s,R pre s ∧ Mem w0 W (F s):=fun pre X Y row ⟨s,hs,hm⟩ hg hr=>⟨s,hs,Ri (β:=Unit) (fun _=>F s) (fun _=>hF s) hsz () X Y row hm hg hr⟩
 have allB : ∀ (g : Nat) (x : α) (s : σ),aez (bI g (c1 x) T1 :: F s):=fun g x s i hi=>by
  rcases List.mem_cons.1 hi with rfl | hi
  · exact .inl ⟨_,_,_,rfl⟩
  · exact hF s i hi
 refine wpIn_rangeFunc_ownH (F:=Fence.wide) rfl (by omega) (gf:=gf) (lb:=#[.pointer (some ⟨Bs,0,none⟩)]) (by rw [cM];exact hf) trivial (fun args u=>nY he) hseq KeepsWalks.trans
  (fun W l o o' _ ho _ hw=>KeepsWalks.putObj o' ho hw) (Below.refl _ _) (fun _=>rfl)
  (fun pre W=>∃ s,R pre s ∧ Mem w0 W (F s)) (fun _ _ _=>False)
  own (fun _ _ _ _ _ h _ _=>h) ⟨s0,hR,m⟩
  (fun x a' W=>∃ g s pre,a' = Fr ((L.set q1 (v1 x)).set d1 (.pointer (some ⟨g,0,none⟩))) ∧ R pre s ∧ Mem w0 W (bI g (c1 x) T1 :: F s))
  (fun x a' _ X Y row hs hg hr=>by
   obtain ⟨g,s,pre,e,h1,h2⟩:=hs;exact ⟨g,s,pre,e,h1,Ri (β:=Unit) (fun _=>bI g (c1 x) T1 :: F s) (fun _=>allB g x s) hsz () X Y row h2 hg hr⟩)
  ?_ ?_ ?_ ?_
 · rintro r pre x W K ⟨s,hs,hm⟩ hK
   have e : ((#[q1].zip #[v1 x]).foldl (fun t (y : Tmp × Value)=>t.setIfInBounds y.1 y.2) (Fr L).tmps) = (L.set q1 (v1 x)).toArray:=by simp
   have:=hassign r pre x s W K hs (iU.start hm) (fun g u hu=>hK _ _ (hu.rx.ko.from _) (Rj hu.rx) ⟨s,hs,hu.toMem.tl⟩ ⟨g,s,pre,rfl,hs,hu.toMem⟩);simp only at this ⊢;rw [e];exact this
 · rintro r pre x a' W _ _ ⟨s,hs,hm⟩ ⟨g,s',pre',rfl,hs',hm'⟩ hN
   have hd:=hdet W s s' pre pre' hs hs' hm hm'.tl;refine hbody r pre x g s' W _ hN hd (iU.start hm') (fun a u s2 hu h2=>?_);exact ⟨hu.rx.ko.from _,Rj hu.rx,s2,h2,hu.toMem⟩
 · rintro D xs W hD hS ⟨s,hs,hm⟩ hd
   exact hdone D xs s W hS hs (Lith.Mem.addC hm (hF s) hd (Nat.le_trans hsz hD))
 · rintro D c pre W hD hsp h hd
   exact h.elim
end
end Go.Lith
namespace Go.Proofs.YtfekpcimgncioaaGreatDoor
open Go.Proofs.Tryz
open Go.RowKit Go.Lith
set_option maxRecDepth 100000
attribute [local irreducible] wpList wpQuiet dB bL cE Code.wp
theorem acz {dp : Nat} (l Bs g c : Nat) {es : Array MapEntry} {D : List (P3 × P3)} (J Jx : List P3 → World → Prop) (W : World) (hJ : AbidesFrom W.heap.size J)
 (hY : ∀ pre x W1,J pre W1 → pre.length < D.length → YieldAt Fence.wide (dp - 1) prog l #[pt x] W1 fun e W'=>(e = .returned (.bool true) ∧ J (pre ++ [x]) W' ∧ KeepsWalks W1 W') ∨ (e = .returned (.bool false) ∧ Jx (pre ++ [x]) W'))
 (hM : gC W g es c) (hD : bP pt pt D es c) (hB : fF W Bs [.map (some g)] 99) (h0 : J [] W) :
 CallsIn Fence.wide dp prog 129 #[.func (.yield l) #[] #[],.pointer (some ⟨Bs,0,none⟩)] W fun e W'=>(∃ v,e = .returned v) ∧ ((∃ xs : List P3,xs.Perm (D.map (·.1)) ∧ J xs W') ∨ (∃ pre,True ∧ Jx pre W')):=by
 refine callsIn_of_wp func129 rfl trivial ?_ rfl;simp only[ntmps129,List.size_toArray,List.length_cons,List.length_nil,Nat.reduceAdd,Nat.reduceSub,Array.replicate_succ,Array.replicate_zero,List.push_toArray,List.append_toArray,List.nil_append,List.cons_append];refine wpIn_wide.2 ?_;refine aD fun K1 k1=>wp_region_lit (aJ rfl (hB.lies1 ahe rfl) ?_);simp only[zz];refine Wg Gq rfl hM fun w1 r e1 hr hI=>aF (k1 _ _ ?_);have hJ1 : J [] w1:=hJ [] W w1 none h0 (Rh e1) (fun _ h=>by cases h);have hM1:=hM.ext e1;clear h0 k1 K1;refine wp_block ?_;simp only[zz];refine bT [] [3,6,7,8,9,10,11,12,13] (fun n vs wl=>∃ (dn rs : List (P3 × P3)) (sn : Array Nat),vs = [] ∧ gC wl g es c ∧ mZ wl r g c sn c ∧ kU pt pt D es sn dn rs ∧ J (dn.map (·.1)) wl ∧ n = rs.length) ?_ ?_
 · apply Exists.intro
   simp only[zQ,zR,zD,zE];exact ⟨[],D,#[],trivial,hM1,hI,kU.start hD,hJ1,rfl⟩
 · intro n vs wr hL u
   obtain ⟨dn,rs,sn,rfl,hMw,hIw,hT,hJw,hn⟩:=hL;have hlen:=hT.len;simp only[zu,zF,zG];refine aD fun K5 k5=>wp_region_lit (aey rfl hIw hMw hD hT fun bb kk vv sn2 u1 hg1 hM2 hI2 hN=>?_);refine aA (lW rfl) (aF (k5 _ _ ?_));have hJ2 : J (dn.map (·.1)) u1:=hJ _ _ _ _ hJw hg1 (fun r' e=>by cases e;exact ⟨hr,_,hIw,rfl⟩);clear k5 K5;refine aD fun K6 k6=>?_;simp only[zz];refine eD rfl (fun hc1=>?_) (fun hc1=>?_)
   · obtain ⟨kp,kb,rs2,hp,hT2⟩:=Aq hc1 hN
     refine wp_skip (k6 _ _ ?_);clear k6 K6;refine wp_block (aD fun K7 k7=>wp_region_lit (eY (oH rfl hI2 hM2 hD hT2) ?_));simp only[zz];refine aA (bC rfl rfl) ?_;have m:=Mem.refl u1;simp only[zz];refine bA m bO rfl ?_;clear m;intro g2 u2 m;simp only[zz];refine aT m 0 rfl rfl rfl aC (cU rfl) rfl ?_;clear m;intro u3 m;simp only[zy,zx,bB,zF,zG,Nat.reduceAdd] at m;refine aF (k7 _ _ ?_);clear k7 K7;have hJ3 : J (dn.map (·.1)) u3:=hJ _ _ _ _ hJ2 (Rh m.ext) (fun _ h=>by cases h);have hM3:=hM2.ext m.ext;have hI3:=hI2.ext m.ext;have hB3:=m.b 0 rfl;obtain ⟨fn,tmps,asn,body,hy,hR⟩:=hY (dn.map (·.1)) kp u3 hJ3 (by have:=hp.length_eq;rw [List.length_map];simp only[List.length_cons] at this;omega);refine aD fun K8 k8=>(wpIn_wide (n:=dp)).1 (wpIn_region_lit (rB (aB _) ?_));simp only[zz];refine rB (bJ rfl (hB3.full aI aC)) ?_;simp only[zz];refine Fc (args:=[pt kp]) rfl rfl hy hR ?_;rintro e w4 (⟨rfl,hJ4,hk4⟩ | ⟨rfl,hJ4⟩)
     · refine ⟨_,rfl,rB (fR rfl _) (k8 _ _ ?_)⟩
       simp only[zz];refine gA rfl (wp_skip ?_);simp only[Exit.inBlock,Exit.then];refine ⟨rs2.length,_,?_,rfl,?_,?_⟩
       · rw [hn,hp.length_eq];exact Nat.lt_succ_self _
       · simp only[zz,zv]
       · simp only[zQ,zR,zD,zE]
         exact ⟨dn ++ [(kp,kb)],rs2,_,trivial,hk4.same g _ hM3 rfl,hk4.same r _ hI3 rfl,hT2,by rw [List.map_append];exact hJ4,rfl⟩
     · refine ⟨_,rfl,rB (fR rfl _) (k8 _ _ ?_)⟩
       simp only[zz];refine bK rfl (wp_ret ?_);simp only[Exit.inBlock,Exit.then];exact aiJ rfl ⟨⟨_,rfl⟩,.inr ⟨_,trivial,hJ4⟩⟩
   · obtain rfl:=An hc1 hN
     refine wp_exit ?_;simp only[Exit.inBlock,Exit.then,if_true];exact Jw rfl ⟨⟨_,rfl⟩,.inl ⟨dn.map (·.1),hT.done.map _,hJ2⟩⟩
theorem Ef {w : World} {Bs g c : Nat} {es : Array MapEntry} {D : List (P3 × P3)} (hM : gC w g es c) (hD : bP pt pt D es c) (hB : fF w Bs [.map (some g)] 99) :
 SeqStopsK Fence.wide 3 prog 129 #[.pointer (some ⟨Bs,0,none⟩)] (fun x : P3=>#[pt x]) KeepsWalks (fun xs=>xs.Perm (D.map (·.1))) (fun _=>True) D.length w:=fun l J Jx W hW hJ _ hY h0 =>
 acz l Bs g c J Jx W hJ hY ((hW.block g hM.lt).trans hM) hD ((hW.block Bs hB.lt).trans hB) h0
structure SlS where
 A : Option Addr
 n : Nat
 cap : Nat
 xs : List Value
theorem aeA {w0 W : World} {g : Nat} {s s' : SlS} {pre pre' : List P3} (h : s.n = pre.length ∧ s.xs = pre.flatMap mW) (h' : s'.n = pre'.length ∧ s'.xs = pre'.flatMap mW) (m : Mem w0 W [bI g [.slice s.A s.n s.cap] 65,oI 30 3 s.A s.n s.cap s.xs]) (m' : Mem w0 W [bI g [.slice s'.A s'.n s'.cap] 65,oI 30 3 s'.A s'.n s'.cap s'.xs]) : s'.n = pre.length ∧ s'.xs = pre.flatMap mW:=by
 obtain ⟨A,n,cap,xs⟩:=s;obtain ⟨A',n',cap',xs'⟩:=s';dsimp only at h h' m m' ⊢;have e : W.heap[g]? = _:=m.b 0 rfl;rw [show W.heap[g]? = _ from m'.b 0 rfl] at e;simp only[Option.some.injEq,Obj.cells.injEq,List.toArray_inj,List.cons.injEq,Value.slice.injEq,and_true] at e;obtain ⟨rfl,rfl,rfl⟩:=e;refine ⟨h.1,?_⟩;rcases (m.o 1 rfl).cases with ⟨rfl,_,_,hx⟩ | ⟨g1,cur,rfl,_,hg,_,_,_,hx⟩
 · rcases (m'.o 1 rfl).cases with ⟨_,_,_,hx'⟩ | ⟨g2,cur',e,_⟩
   · rw [hx',← h.2,hx]
   · cases e
 · rcases (m'.o 1 rfl).cases with ⟨e,_⟩ | ⟨g2,cur',e,_,hg',_,_,_,hx'⟩
   · cases e
   · cases e
     rw [hg] at hg';cases hg';rw [← hx',hx,h.2]
theorem acA {q : Nat} (w : World) : eG prog 69 [.map (some q)] w (fun v w'=>∃ g,v = .func (.func 129) #[] #[.pointer (some ⟨g,0,none⟩)] ∧ w.heap.size ≤ g ∧ fF w' g [.map (some q)] 99):=by
 refine ⟨ajn,?_⟩;have m:=Mem.refl w
 go_enter func69,ntmps69
 refine aD fun K1 k1=>wp_region_lit (ae0 m rfl rfl ?_);clear m;intro g1 u m;refine aA (aG) (aF (k1 _ _ ?_));try clear k1 K1
 refine aD fun K2 k2=>wp_region_lit ?_;simp only[zz];refine aA (eZ) ?_;simp only[zz,List.map_toArray,List.map_cons,List.map_nil];refine aA (aG) (aF (k2 _ _ ?_));try clear k2 K2
 refine wp_ret ?_;simp only[zz];try simp only[Exit.inBlock,Exit.then,if_true]
 refine bE rfl rfl ?_;try simp only[zD,zE]
 exact ⟨_,rfl,m.ext,g1,rfl,m.ge _ List.mem_cons_self g1 rfl,(m.b 0 rfl)⟩
theorem yE {α : Type} {n : Nat} {P : Program} {g : Nat} {lb : Array Value} {encs : α → Array Value} {Kp : World → World → Prop} {S Sp : List α → Prop} {N : Nat} {w u : World} (h : SeqStopsK Fence.wide n P g lb encs Kp S Sp N w) (e : eB w u) : SeqStopsK Fence.wide n P g lb encs Kp S Sp N u:=fun l J Jx W hW=>h l J Jx W (Below.trans e (Below.mono hW (Below.size e)))
theorem Rk {gf Bs N : Nat} {S : List P3 → Prop} (w : World) (he : Go.Lith.Enters prog gf) (hseq : SeqStopsK Fence.wide 3 prog gf #[.pointer (some ⟨Bs,0,none⟩)] (fun x : P3=>#[pt x]) KeepsWalks S (fun _=>True) N w) (hN : N ≤ 10000000) : eG prog 193 [.slice none 0 0,.func (.func gf) #[] #[.pointer (some ⟨Bs,0,none⟩)]] w (fun v w'=>∃ xs : List P3,SL 30 3 (xs.flatMap mW) xs.length w v w' ∧ S xs):=by
 refine ⟨agG,?_⟩;have m:=Mem.refl w;refine (callsIn_wide (n:=4)).1 (callsIn_of_wp_marks func193 rfl trivial ?_ rfl);simp only[ntmps193,List.size_toArray,List.length_cons,List.length_nil,Nat.reduceAdd,Nat.reduceSub,Array.replicate_succ,Array.replicate_zero,List.push_toArray,List.append_toArray,List.nil_append,List.cons_append];refine wpIn_wide.2 ?_;refine aD fun K1 k1=>wp_region_lit (ae0 m rfl rfl ?_);clear m;intro g1 u m;refine aA (aG) (aF (k1 _ _ ?_));try clear k1 K1
 refine aD fun K2 k2=>aD fun K3 k3=>?_;simp only[zz];replace m:=m.nilO 30 3;refine wp_region_lit (aA (aB) (aF (k3 _ _ ?_)));try clear k3 K3
 refine wp_block ?_;simp only[zz];replace m:=m.s01;refine acy (L:=_) (v1:=fun x=>pt x) (c1:=mW) (T1:=30) (d1:=5) rfl he (yE hseq m.ext) (fun s : SlS=>[bI g1 [.slice s.A s.n s.cap] 65,oI 30 3 s.A s.n s.cap s.xs]) (fun pre s=>s.n = pre.length ∧ s.xs = pre.flatMap mW) (fun s i hi=>?_) (fun W s s2 pre pre2 h h2 m1 m2=>aeA h h2 m1 m2) (s0:=⟨none,0,0,[]⟩) m ⟨rfl,rfl⟩ ?_ ?_ ?_
 · simp only[List.mem_cons,List.not_mem_nil,or_false] at hi;rcases hi with rfl | rfl;exact .inl ⟨_,_,_,rfl⟩;exact .inr ⟨_,_,_,_,_,_,rfl⟩
 · skip
   intro r pre x s W K hs m hK;try dsimp only at m hK ⊢
   simp only[zF,zG];refine cC (Bg m bO rfl ?_);clear m;intro g2 u m;simp only[zz];refine vG m 0 rfl rfl rfl aC (cU rfl) rfl ?_;clear m;intro u m;simp only[zy,zx,bB,zF,zG,Nat.reduceAdd] at m;exact aF (hK _ _ m)
 · skip
   rintro r pre x g5 ⟨A1,n1,cap1,xs1⟩ W Q' _ hNp ⟨hn1,hx1⟩ m hn;dsimp only at m hn hn1 hx1 ⊢;subst hx1
   · skip
     simp only[zF,zG];refine lK (cC (aJ rfl ((m.b 1 rfl).lies1 abd rfl) ?_));simp only[zz];refine aJ rfl ((m.b 0 rfl).full aI aC) ?_;simp only[zz];refine mJ rfl ?_;intro u g6 e hg hB;replace m : iU _ _ _ _:=⟨m.toMem.newB e hg hB,m.rx.ext e⟩;clear e hg hB;simp only[zz];refine acx m 3 rfl rfl dS nJ rfl (by decide) rfl rfl rfl (m.b 0 rfl).rowsO (jZ rfl) (by omega) (by omega) ?_;clear m;intro A1 cap1 u m;simp only[zF,zG] at m;rw [show pre.flatMap mW ++ _ = (pre ++ [x]).flatMap mW by rw [List.flatMap_append];rfl] at m;simp only[zz];refine fZ m 2 rfl rfl rfl abc (cU rfl) ⟨rfl,rfl⟩ ?_;clear m;intro u m;simp only[zz,zy,zx,bB,Nat.reduceAdd] at m;exact aF (hn _ _ ⟨A1,n1 + 1,cap1,(pre ++ [x]).flatMap mW⟩ ⟨m.toMem.sel [false,false,true,true],m.rx⟩ ⟨by simp [hn1],rfl⟩)
 rintro D xs ⟨A1,n1,cap1,xs1⟩ u hS ⟨hn1,hx1⟩ m;dsimp only at m hn1 hx1;subst hx1;refine k2 _ _ ?_;try clear k2 K2
 refine aD fun K4 k4=>wp_region_lit (aJ rfl ((m.b 1 rfl).lies1 abd rfl) ?_);simp only[zz];refine aA (aG) (aF (k4 _ _ ?_));try clear k4 K4
 refine wp_ret ?_;simp only[zz];try simp only[Exit.inBlock,Exit.then,if_true]
 refine Su (Sh.mk (m.get 0 rfl)) ?_;replace m:=m.putD (o':=.deferred none) 0 rfl;simp only[zF,zG] at m;refine bE rfl rfl ?_;try simp only[zD,zE]
 exact ⟨_,rfl,m.ext,xs,⟨A1,cap1,n1,hn1,rfl,(m.o 2 rfl)⟩,hS⟩
theorem Uy {gf Bs N : Nat} {S : List P3 → Prop} (w : World) (he : Go.Lith.Enters prog gf) (hseq : SeqStopsK Fence.wide 3 prog gf #[.pointer (some ⟨Bs,0,none⟩)] (fun x : P3=>#[pt x]) KeepsWalks S (fun _=>True) N w) (hN : N ≤ 10000000) : eG prog 127 [.func (.func gf) #[] #[.pointer (some ⟨Bs,0,none⟩)]] w (fun v w'=>∃ xs : List P3,SL 30 3 (xs.flatMap mW) xs.length w v w' ∧ S xs):=by
 refine ⟨agd,?_⟩;have m:=Mem.refl w
 go_enter func127,ntmps127
 refine aD fun K1 k1=>wp_region_lit (aA (aG) (aF (k1 _ _ ?_)));try clear k1 K1
 refine aD fun K2 k2=>wp_region_lit (aA (aB) ?_);simp only[zz];refine cD rfl rfl (Rk _ he (yE hseq m.ext) hN) ?_;rintro v u e ⟨xs,⟨A5,cap5,n5,hn5,rfl,hN⟩,hS⟩;replace m:=m.newO e hN;clear e hN;refine aA (aG) (aF (k2 _ _ ?_));try clear k2 K2
 refine wp_ret ?_;simp only[zz];try simp only[Exit.inBlock,Exit.then,if_true]
 refine bE rfl rfl ?_;try simp only[zD,zE]
 exact ⟨_,rfl,m.ext,xs,⟨_,_,_,hn5,rfl,(m.o 0 rfl)⟩,hS⟩
theorem Rl {gf Bs N : Nat} {S : List P3 → Prop} (w : World) (he : Go.Lith.Enters prog gf) (hseq : SeqStopsK Fence.wide 3 prog gf #[.pointer (some ⟨Bs,0,none⟩)] (fun x : P3=>#[pt x]) KeepsWalks S (fun _=>True) N w) (hS : ∀ xs,S xs → xs.length ≤ N) (hN : N ≤ 10000000) : eG prog 68 [.func (.func gf) #[] #[.pointer (some ⟨Bs,0,none⟩)],.func (.func 70) #[] #[]] w (fun v w'=>∃ xs ys : List P3,SL 30 3 (ys.flatMap eX) xs.length w v w' ∧ S xs ∧ ys.Perm xs ∧ ys.Pairwise fun a b=>¬ b.Lt a):=by
 refine ⟨ajm,?_⟩;have m:=Mem.refl w
 go_enter func68,ntmps68
 refine aD fun K1 k1=>wp_region_lit (aA (aG) (aF (k1 _ _ ?_)));try clear k1 K1
 refine aD fun K2 k2=>wp_region_lit (aA (aB) ?_);simp only[zz];refine cD rfl rfl (Uy _ he (yE hseq m.ext) hN) ?_;rintro v u e ⟨xs,⟨A5,cap5,n5,hn5,rfl,hN⟩,hSx⟩;replace m:=m.newO e hN;clear e hN;refine aA (aG) (aF (k2 _ _ ?_));try clear k2 K2
 refine aD fun K3 k3=>wp_region_lit (aA (aB) (aA (aB) ?_));simp only[zz];refine jG m 0 Tc rfl rfl (fun m=>Wz m 0 rfl (by have:=hS xs hSx;omega)) ?_;clear m;rintro v i u m ⟨rfl,ys,rfl,hys,hso⟩;simp only[zF,zG] at m;refine aF (k3 _ _ ?_);try clear k3 K3
 refine aD fun K4 k4=>wp_region_lit (aA (aB) (aA (aG) (aF (k4 _ _ ?_))));try clear k4 K4
 refine wp_ret ?_;simp only[zz];try simp only[Exit.inBlock,Exit.then,if_true]
 refine bE rfl rfl ?_;try simp only[zD,zE]
 exact ⟨_,rfl,m.ext,xs,ys,⟨_,_,_,hn5,rfl,(m.o 0 rfl)⟩,hSx,hys,hso⟩
end Go.Proofs.YtfekpcimgncioaaGreatDoor
namespace Go.Lith
open Go.RowKit
def yF (u : P3) : Nat:=if u.x ≠ 0 then 0 else if u.y ≠ 0 then 1 else 2
def Eg (a b c : Int) : Prop:=(0 ≤ a ∧ 0 ≤ b ∧ 0 ≤ c) ∨ (a ≤ 0 ∧ b ≤ 0 ∧ c ≤ 0)
/-! ### Corners -/
end Go.Lith
namespace Go.Lith
open Go.RowKit
section
variable {P : Program} {ds : List Deferred} {l : List Value} {x y : Operand} {T T' U t ty : TypeId} {v z : Value}
end
section
variable {P : Program} {ds : List Deferred} {l : List Value} {ty : TypeId} {v u : Value}
variable {ops : Array Oper} {Q : Exit → Act → World → Prop} {rest : List Oper} {d : Nat} {pos : String} {after : Array Edge} {w w0 : World} {is : List It}
end
section
variable {P : Program} {w0 : World} {is : List It} {l : List Value} {ty : TypeId} {u : Value}
variable {ops : Array Oper} {Q : Act → Prop} {rest : List Oper} {d : Nat} {pos : String} {after : Array Edge} {v : Value} {ds : List Deferred}
end
section
variable {P : Program} {l : List Value} {x y z : Operand} {ty : TypeId} {k : IntKind} {m n q r : Int}
theorem ah0 {a0 : Array TypeId} (hx : ev l x = .int k m) (hy : ev l y = .int k n) (hz : ev l z = .int k q) (hr : (if q < (if n < m then n else m) then q else if n < m then n else m) = r) : fC P l (.call { callee:=.builtin .min,args:=#[x,y,z],argTypes:=a0 }) ty (.int k r):=fun w o ho _=>by
 subst hr;simp [execOp,ho,resolve,invoke,builtin,Builtin.min_,Builtin.min2,cM,hx,hy,hz]
theorem ah1 {a0 : Array TypeId} (hx : ev l x = .int k m) (hy : ev l y = .int k n) (hz : ev l z = .int k q) (hr : (if (if m < n then n else m) < q then q else if m < n then n else m) = r) : fC P l (.call { callee:=.builtin .max,args:=#[x,y,z],argTypes:=a0 }) ty (.int k r):=fun w o ho _=>by
 subst hr;simp [execOp,ho,resolve,invoke,builtin,Builtin.max_,Builtin.max2,cM,hx,hy,hz]
end
end Go.Lith
namespace Go.Proofs.YtfekpcimgncioaaGreatDoor
open Go.Proofs.Tryz
open Go.RowKit Go.Lith
set_option maxRecDepth 100000
attribute [local irreducible] wpList wpQuiet dB bL cE Code.wp
def Nq (u : P3) : Int:=if u.x ≠ 0 then 0 else if u.y ≠ 0 then 1 else if u.z ≠ 0 then 2 else -1
theorem Bh {n : Int} : ¬ cA n = 0 ↔ n ≠ 0:=not_congr fG
theorem wG {n : Int} (h : ¬ ¬ cA n = 0) : ¬ n ≠ 0:=fun k=>h (Bh.2 k)
theorem acB {u : P3} (h : ¬ Z3 u) : Nq u = (yF u : Int):=by
 unfold Nq yF;unfold Z3 at h
 repeat' split
 all_goals first | rfl | (exfalso;omega)
theorem acC {u : P3} (h : Z3 u) : Nq u = -1:=by
 obtain ⟨h1,h2,h3⟩:=h;simp [Nq,h1,h2,h3]
class N4 (p : P3) : Prop where
 x : -549755813888 < p.x ∧ p.x < 549755813888
 y : -549755813888 < p.y ∧ p.y < 549755813888
 z : -549755813888 < p.z ∧ p.z < 549755813888
theorem N3.cross {u v : P3} (hu : N3 u) (hv : N3 v) : N4 (u.cross v):=by
 have h1:=tR hu.y hv.z;have h2:=tR hu.z hv.y;have h3:=tR hu.z hv.x;have h4:=tR hu.x hv.z;have h5:=tR hu.x hv.y;have h6:=tR hu.y hv.x;exact ⟨by simp only[P3.cross];omega,by simp only[P3.cross];omega,by simp only[P3.cross];omega⟩
theorem lM {a b : Int} (ha : -549755813888 < a ∧ a < 549755813888) (hb : b.natAbs < 524288) : -288230376151711744 < a * b ∧ a * b < 288230376151711744:=by
 have h : (a * b).natAbs ≤ 549755813887 * 524287:=by rw [Int.natAbs_mul];exact Nat.mul_le_mul (by omega) (by omega)
 omega
theorem Xd {u : P3} : eQ prog 304 [sg u] (.int .i64 (Nq u)):=by
 intro w;refine ⟨ag6,?_⟩;have m:=Mem.refl w
 go_enter func304,ntmps304
 refine aD fun K1 k1=>wp_region_lit (cB m rfl ?_);clear m;intro g1 u m;refine aA (aG) (aF (k1 _ _ ?_));refine aD fun K2 k2=>aD fun K3 k3=>wp_region_lit ?_;simp only[zz];refine aJ rfl ((m.b 0 rfl).full Ch bV) ?_;simp only[zz];refine aA (aB) (aF (k3 _ _ ?_));refine wp_block (wp_loop_rounds 4 (bU (aD fun K4 k4=>wp_region_lit (aA (bF (m:=0) (n:=3) rfl rfl (by decide)) (aF (k4 _ _ ?_))))));refine aD fun K5 k5=>bK rfl (wp_skip (k5 _ _ ?_));refine aD fun K6 k6=>wp_block (aD fun K7 k7=>wp_region_lit (aA (aB) (aA (gN rfl rfl) ?_)));simp only[zz];refine aA (aG) (aA (aG) (aF (k7 _ _ ?_)));refine aD fun K8 k8=>wp_region_lit (aA (aB) (aA (jJ rfl rfl) ?_));simp only[zz];refine aF (k8 _ _ ?_);refine cG rfl (fun hc2=>?_) (fun hc2=>?_)
 ·
  refine aD fun K9 k9=>wp_region_lit (aA (aB) (aA (aG) (aF (k9 _ _ ?_))));refine wp_ret ?_;simp only[zz];try simp only[Exit.inBlock,Exit.then,if_true]
  refine bE rfl rfl ?_;try simp only[zD,zE]
  exact ⟨_,rfl,m.ext,by rw [Nq,if_pos (Bh.1 hc2)]⟩
 ·
  have hq0:=hc2;refine wp_skip (k6 _ _ ?_);refine wp_region_lit (aA (aU (m:=0) (n:=1) (r:=1) rfl rfl (by decide)) (aA (aB) (aF (aQ (aD fun K10 k10=>wp_region_lit (aA (bF (m:=1) (n:=3) rfl rfl (by decide)) (aF (k10 _ _ ?_))))))));refine aD fun K11 k11=>bK rfl (wp_skip (k11 _ _ ?_));refine aD fun K12 k12=>wp_block (aD fun K13 k13=>wp_region_lit (aA (aB) ?_));simp only[zz];refine aA (gP rfl rfl) (aA (aG) (aA (aG) (aF (k13 _ _ ?_))));refine aD fun K14 k14=>wp_region_lit (aA (aB) ?_);simp only[zz];refine aA (jJ rfl rfl) (aF (k14 _ _ ?_));simp only[zz];refine cG rfl (fun hc2=>?_) (fun hc2=>?_)
  ·
   refine aD fun K15 k15=>wp_region_lit (aA (aB) (aA (aG) (aF (k15 _ _ ?_))));refine wp_ret ?_;simp only[zz];try simp only[Exit.inBlock,Exit.then,if_true]
   refine bE rfl rfl ?_;try simp only[zD,zE]
   exact ⟨_,rfl,m.ext,by rw [Nq,if_neg (wG hq0),if_pos (Bh.1 hc2)]⟩
  ·
   have hq1:=hc2;refine wp_skip (k12 _ _ ?_);refine wp_region_lit (aA (aU (m:=1) (n:=1) (r:=2) rfl rfl (by decide)) (aA (aB) (aF (aQ (aD fun K16 k16=>wp_region_lit (aA (bF (m:=2) (n:=3) rfl rfl (by decide)) (aF (k16 _ _ ?_))))))));refine aD fun K17 k17=>bK rfl (wp_skip (k17 _ _ ?_));refine aD fun K18 k18=>wp_block (aD fun K19 k19=>wp_region_lit (aA (aB) ?_));simp only[zz];refine aA (gQ rfl rfl) (aA (aG) (aA (aG) (aF (k19 _ _ ?_))));refine aD fun K20 k20=>wp_region_lit (aA (aB) ?_);simp only[zz];refine aA (jJ rfl rfl) (aF (k20 _ _ ?_));simp only[zz];refine cG rfl (fun hc2=>?_) (fun hc2=>?_)
   ·
    refine aD fun K21 k21=>wp_region_lit (aA (aB) (aA (aG) (aF (k21 _ _ ?_))));refine wp_ret ?_;simp only[zz];try simp only[Exit.inBlock,Exit.then,if_true]
    refine bE rfl rfl ?_;try simp only[zD,zE]
    exact ⟨_,rfl,m.ext,by rw [Nq,if_neg (wG hq0),if_neg (wG hq1),if_pos (Bh.1 hc2)]⟩
   ·
    have hq2:=hc2;refine wp_skip (k18 _ _ ?_);refine wp_region_lit (aA (aU (m:=2) (n:=1) (r:=3) rfl rfl (by decide)) (aA (aB) (aF (aQ (aD fun K22 k22=>wp_region_lit (aA (dM (m:=3) (n:=3) rfl rfl (by decide)) (aF (k22 _ _ ?_))))))));refine aD fun K23 k23=>gA rfl (wp_exit (k2 _ _ ?_));refine aD fun K24 k24=>wp_region_lit (aA (aG) ?_);simp only[zz];refine aF (k24 _ _ ?_);refine wp_ret ?_;try simp only[Exit.inBlock,Exit.then,if_true]
    refine bE rfl rfl ?_;try simp only[zD,zE]
    exact ⟨_,rfl,m.ext,by rw [Nq,if_neg (wG hq0),if_neg (wG hq1),if_neg (wG hq2)]⟩
theorem Nr {u v : P3} (hu : N4 u) (hv : N3 v) : eQ prog 308 [nv u,nv v] (.int .i64 (u.dot v)):=by
 intro w;refine ⟨aha,?_⟩;have m:=Mem.refl w
 go_enter func308,ntmps308
 refine aD fun K1 k1=>wp_region_lit (cB m rfl ?_);clear m;intro g1 u m;simp only[zz];refine cB m rfl ?_;clear m;intro g2 u m;refine aA (aG) (aF (k1 _ _ ?_));refine aD fun K2 k2=>wp_region_lit (aA (aH fY aO rfl rfl (by decide) (by decide) rfl) ?_);simp only[zz];refine aJ rfl ((m.b 1 rfl).lies1 aX rfl) ?_;simp only[zz];refine aA (aH fY aO rfl rfl (by decide) (by decide) rfl) ?_;simp only[zz];refine aJ rfl ((m.b 0 rfl).lies1 aX rfl) ?_;simp only[zz];refine aA (qA rfl rfl (aV (by have h1:=lM hu.x hv.x;have h2:=lM hu.y hv.y;have h3:=lM hu.z hv.z;omega) (by have h1:=lM hu.x hv.x;have h2:=lM hu.y hv.y;have h3:=lM hu.z hv.z;omega))) (aA (aH fY aO rfl rfl (by decide) (by decide) rfl) ?_);simp only[zz];refine aJ rfl ((m.b 1 rfl).lies1 aX rfl) ?_;simp only[zz];refine aA (aH fY aO rfl rfl (by decide) (by decide) rfl) ?_;simp only[zz];refine aJ rfl ((m.b 0 rfl).lies1 aX rfl) ?_;simp only[zz];refine aA (qA rfl rfl (aV (by have h1:=lM hu.x hv.x;have h2:=lM hu.y hv.y;have h3:=lM hu.z hv.z;omega) (by have h1:=lM hu.x hv.x;have h2:=lM hu.y hv.y;have h3:=lM hu.z hv.z;omega))) (aA (aU rfl rfl (aV (by have h1:=lM hu.x hv.x;have h2:=lM hu.y hv.y;have h3:=lM hu.z hv.z;omega) (by have h1:=lM hu.x hv.x;have h2:=lM hu.y hv.y;have h3:=lM hu.z hv.z;omega))) (aA (aH fY aO rfl rfl (by decide) (by decide) rfl) ?_));simp only[zz];refine aJ rfl ((m.b 1 rfl).lies1 aX rfl) ?_;simp only[zz];refine aA (aH fY aO rfl rfl (by decide) (by decide) rfl) ?_;simp only[zz];refine aJ rfl ((m.b 0 rfl).lies1 aX rfl) ?_;simp only[zz];refine aA (qA rfl rfl (aV (by have h1:=lM hu.x hv.x;have h2:=lM hu.y hv.y;have h3:=lM hu.z hv.z;omega) (by have h1:=lM hu.x hv.x;have h2:=lM hu.y hv.y;have h3:=lM hu.z hv.z;omega))) (aA (aU rfl rfl (aV (by have h1:=lM hu.x hv.x;have h2:=lM hu.y hv.y;have h3:=lM hu.z hv.z;omega) (by have h1:=lM hu.x hv.x;have h2:=lM hu.y hv.y;have h3:=lM hu.z hv.z;omega))) (aA (aG) (aF (k2 _ _ ?_))));refine wp_ret ?_;simp only[zz];try simp only[Exit.inBlock,Exit.then,if_true]
 refine bE rfl rfl ?_;try simp only[zD,zE]
 exact ⟨_,rfl,m.ext,rfl⟩
theorem pV {a b c d : P3} [I3 a] [I3 b] [I3 c] [I3 d] : eQ prog 243 [pt a,pt b,pt c,pt d] (.int .i64 (cA (((b.sub a).cross (c.sub a)).dot (d.sub a)))):=by
 intro w;refine ⟨agT,?_⟩;have m:=Mem.refl w
 go_enter func243,ntmps243
 refine aD fun K1 k1=>wp_region_lit (cB m rfl ?_);clear m;intro g1 u m;simp only[zz];refine cB m rfl ?_;clear m;intro g2 u m;simp only[zz];refine cB m rfl ?_;clear m;intro g3 u m;simp only[zz];refine cB m rfl ?_;clear m;intro g4 u m;refine aA (aG) (aF (k1 _ _ ?_));refine aD fun K2 k2=>aD fun K3 k3=>wp_region_lit ?_;simp only[zz];refine aJ rfl ((m.b 3 rfl).full aI aC) ?_;simp only[zz];refine aJ rfl ((m.b 2 rfl).full aI aC) ?_;simp only[zz];refine aJ rfl ((m.b 1 rfl).full aI aC) ?_;simp only[zz];refine aJ rfl ((m.b 0 rfl).full aI aC) ?_;simp only[zz];refine Kk rfl rfl rfl rfl ?_;intro u g5 e hg hB;replace m:=m.newB e hg hB;clear e hg hB;simp only[zz];refine eE m rfl rfl (Lb _ (m.b 0 rfl)) ?_;clear m;rintro v u m ⟨bo,rfl,hsm⟩;refine aF (k3 _ _ ?_);simp only[zz];refine jO rfl (fun hc1=>?_) (fun hc1=>?_)
 ·
  obtain ⟨_,_,_,_⟩:=hsm hc1;refine aD fun K4 k4=>mq m aM (by kernel_rfl) (ql rfl (fun u m=>((m.b 4 rfl).full aI aC)) ?_);simp only[zz];refine ql rfl (fun u m=>((m.b 3 rfl).full aI aC)) ?_;simp only[zz];refine gV rfl rfl (mA) ?_;simp only[zz];refine ql rfl (fun u m=>((m.b 4 rfl).full aI aC)) ?_;simp only[zz];refine ql rfl (fun u m=>((m.b 2 rfl).full aI aC)) ?_;simp only[zz];refine gV rfl rfl (mA) ?_;simp only[zz];refine gV rfl rfl (xL inferInstance inferInstance) ?_;simp only[zz];refine ql rfl (fun u m=>((m.b 4 rfl).full aI aC)) ?_;simp only[zz];refine ql rfl (fun u m=>((m.b 1 rfl).full aI aC)) ?_;simp only[zz];refine gV rfl rfl (mA) ?_;simp only[zz];refine gV rfl rfl (Nr (N3.cross inferInstance inferInstance) inferInstance) ?_;simp only[zz];refine gV rfl rfl (Nl) (aK (aG) (bZ ?_));clear m;intro u m;refine k4 _ _ (wp_ret ?_);simp only[zz];try simp only[Exit.inBlock,Exit.then,if_true]
  refine bE rfl rfl ?_;try simp only[zD,zE]
  exact ⟨_,rfl,m.ext,rfl⟩
 ·
  refine wp_skip (k2 _ _ ?_);refine aD fun K5 k5=>mq m aM (by kernel_rfl) (ql rfl (fun u m=>((m.b 4 rfl).full aI aC)) ?_);simp only[zz];refine ql rfl (fun u m=>((m.b 3 rfl).full aI aC)) ?_;simp only[zz];refine gV rfl rfl (jU) ?_;simp only[zz];refine ql rfl (fun u m=>((m.b 4 rfl).full aI aC)) ?_;simp only[zz];refine ql rfl (fun u m=>((m.b 2 rfl).full aI aC)) ?_;simp only[zz];refine gV rfl rfl (jU) ?_;simp only[zz];refine gV rfl rfl (tC Bv.of Bv.of) ?_;simp only[zz];refine ql rfl (fun u m=>((m.b 4 rfl).full aI aC)) ?_;simp only[zz];refine ql rfl (fun u m=>((m.b 1 rfl).full aI aC)) ?_;simp only[zz];refine gV rfl rfl (jU) ?_;simp only[zz];refine gV rfl rfl (Ed Bv.of Bv.of) ?_;simp only[zz];refine gV rfl rfl (Db Bw.up) (aK (aG) (bZ ?_));clear m;intro u m;refine k5 _ _ (wp_ret ?_);simp only[zz];try simp only[Exit.inBlock,Exit.then,if_true]
  refine bE rfl rfl ?_;try simp only[zD,zE]
  exact ⟨_,rfl,m.ext,rfl⟩
theorem sB {p q : P3} : eQ prog 305 [pt p,pt q] (.tuple #[pt (qK p q),pt (tV p q)]):=by
 intro w;refine ⟨ag7,?_⟩;have m:=Mem.refl w
 go_enter func305,ntmps305
 refine aD fun K1 k1=>wp_region_lit (cB m rfl ?_);clear m;intro g1 u m;simp only[zz];refine cB m rfl ?_;clear m;intro g2 u m;simp only[zz];refine bA m bO rfl ?_;clear m;intro g3 u m;simp only[zz];refine bA m bO rfl ?_;clear m;intro g4 u m;refine aF (k1 _ _ ?_);refine aD fun K2 k2=>aD fun K3 k3=>wp_region_lit ?_;simp only[zz];refine aJ rfl ((m.b 2 rfl).full aI aC) ?_;simp only[zz];refine aJ rfl ((m.b 3 rfl).full aI aC) ?_;simp only[zz];refine dH m rfl rfl (oK.pure) ?_;clear m;intro u m;refine aF (k3 _ _ ?_);simp only[zz];refine cG rfl (fun hc1=>?_) (fun hc1=>?_)
 ·
  refine aD fun K4 k4=>?_;refine mh m [false,false,true,true] [(0,true),(1,true),(2,false),(3,false)] aM (by kernel_rfl) (cN (fun _ _ _ _ _ h=>h)) (ol:=?_) ?hol ?_
  case hol=>simp only[zw,zQ,zR];try rfl
  clear m;intro u m;refine cI rfl (fun u m=>((m.b 0 rfl).full aI aC)) ?_;simp only[zz];refine cI rfl (fun u m=>((m.b 1 rfl).full aI aC)) ?_;simp only[zz];refine cJ (aT m 1 rfl rfl rfl aC (cU rfl) rfl ?_);clear m;intro u m;simp only[zy,zx,bB,zF,zG,Nat.reduceAdd] at m;refine aF (⟨m.sel [false,false,true,true],?_⟩);refine cJ (aT m 0 rfl rfl rfl aC (cU rfl) rfl ?_);clear m;intro u m;simp only[zy,zx,bB,zF,zG,Nat.reduceAdd] at m;refine aF (⟨m.sel [false,false,true,true],?_⟩);refine aY (k4 _ _ ?_);refine wp_ret ?_;try simp only[Exit.inBlock,Exit.then,if_true]
  refine uA rfl ⟨_,rfl,((m.b 1 rfl).full aI aC)⟩ ⟨_,rfl,((m.b 0 rfl).full aI aC)⟩ ?_;try simp only[zD,zE]
  exact ⟨_,rfl,m.ext,by rw [qK,tV,if_pos hc1,if_pos hc1];rfl⟩
 ·
  refine wp_skip (k2 _ _ ?_);refine aD fun K5 k5=>?_;refine mh m [false,false,true,true] [(0,true),(1,true),(2,false),(3,false)] aM (by kernel_rfl) (cN (fun _ _ _ _ _ h=>h)) (ol:=?_) ?hol ?_
  case hol=>simp only[zw,zQ,zR];try rfl
  clear m;intro u m;refine cI rfl (fun u m=>((m.b 1 rfl).full aI aC)) ?_;simp only[zz];refine cI rfl (fun u m=>((m.b 0 rfl).full aI aC)) ?_;simp only[zz];refine cJ (aT m 1 rfl rfl rfl aC (cU rfl) rfl ?_);clear m;intro u m;simp only[zy,zx,bB,zF,zG,Nat.reduceAdd] at m;refine aF (⟨m.sel [false,false,true,true],?_⟩);refine cJ (aT m 0 rfl rfl rfl aC (cU rfl) rfl ?_);clear m;intro u m;simp only[zy,zx,bB,zF,zG,Nat.reduceAdd] at m;refine aF (⟨m.sel [false,false,true,true],?_⟩);refine aY (k5 _ _ ?_);refine wp_ret ?_;try simp only[Exit.inBlock,Exit.then,if_true]
  refine uA rfl ⟨_,rfl,((m.b 1 rfl).full aI aC)⟩ ⟨_,rfl,((m.b 0 rfl).full aI aC)⟩ ?_;try simp only[zD,zE]
  exact ⟨_,rfl,m.ext,by rw [qK,tV,if_neg hc1,if_neg hc1];rfl⟩
instance (a b c : Int) : Decidable (Eg a b c):=inferInstanceAs (Decidable (_ ∨ _))
instance {p q : P3} [I3 p] [I3 q] : I3 (qK p q):=by unfold qK;split <;> assumption
instance {p q : P3} [I3 p] [I3 q] : I3 (tV p q):=by unfold tV;split <;> assumption
theorem aeB {a b c : Int} : (decide (0 ≤ (if c < (if b < a then b else a) then c else if b < a then b else a)) || decide ((if (if a < b then b else a) < c then c else if a < b then b else a) ≤ 0)) = decide (Eg a b c):=by
 unfold Eg;rw [← Bool.decide_or]
 congr 1
 apply propext;constructor
 ·
  intro h
  repeat' split at h
  all_goals omega
 ·
  intro h
  repeat' split
  all_goals omega
theorem aeC {a b c : Int} : eQ prog 307 [.agg #[.int .i64 a,.int .i64 b,.int .i64 c]] (.bool (decide (Eg a b c))):=by
 intro w;refine ⟨ag9,?_⟩;have m:=Mem.refl w
 go_enter func307,ntmps307
 refine aD fun K1 k1=>wp_region_lit (cB m rfl ?_);clear m;intro g1 u m;refine aA (aG) (aF (k1 _ _ ?_));refine aD fun K2 k2=>wp_region_lit (aA (aH cP aO rfl rfl (by decide) (by decide) rfl) ?_);simp only[zz];refine aJ rfl ((m.b 0 rfl).lies1 aX rfl) ?_;simp only[zz];refine aA (aH cP aO rfl rfl (by decide) (by decide) rfl) ?_;simp only[zz];refine aJ rfl ((m.b 0 rfl).lies1 aX rfl) ?_;simp only[zz];refine aA (aH cP aO rfl rfl (by decide) (by decide) rfl) ?_;simp only[zz];refine aJ rfl ((m.b 0 rfl).lies1 aX rfl) ?_;simp only[zz];refine aA (ah0 rfl rfl rfl rfl) (aA (tJ rfl rfl) (aA (aB) (fU rfl (fun hb=>aH cP aO rfl rfl (by decide) (by decide) rfl) ?_)));simp only[zz];refine eW rfl (fun hb=>bJ (bW hb rfl) ((m.b 0 rfl).lies1 aX rfl)) (fU rfl (fun hb=>aH cP aO rfl rfl (by decide) (by decide) rfl) ?_);simp only[zz];refine eW rfl (fun hb=>bJ (bW hb rfl) ((m.b 0 rfl).lies1 aX rfl)) (fU rfl (fun hb=>aH cP aO rfl rfl (by decide) (by decide) rfl) ?_);simp only[zz];refine eW rfl (fun hb=>bJ (bW hb rfl) ((m.b 0 rfl).lies1 aX rfl)) (fU rfl (fun hb=>ah1 (bW hb rfl) (bW hb rfl) (bW hb rfl) rfl) (fU rfl (fun hb=>aaD (bW hb rfl) rfl) (aA (fH rfl rfl rfl) (aA (aG) ?_))));simp only[zz];refine aF (k2 _ _ ?_);refine wp_ret ?_;try simp only[Exit.inBlock,Exit.then,if_true]
 refine bE rfl rfl ?_;try simp only[zD,zE]
 exact ⟨_,rfl,m.ext,by rw [← aeB]⟩
theorem Xe {t : T3} (w : World) : eG prog 303 [tr t] w (fun v w'=>∃ g,v = .func (.func 337) #[] #[.pointer (some ⟨g,0,none⟩)] ∧ w.heap.size ≤ g ∧ fF w' g (aW t) 39):=by
 refine ⟨ag5,?_⟩;have m:=Mem.refl w
 go_enter func303,ntmps303
 refine aD fun K1 k1=>wp_region_lit (cB m rfl ?_);clear m;intro g1 u m;refine aA (aG) (aF (k1 _ _ ?_));refine aD fun K2 k2=>wp_region_lit ?_;simp only[zz];refine aA (eZ) ?_;simp only[zz,List.map_toArray,List.map_cons,List.map_nil];refine aA (aG) (aF (k2 _ _ ?_));refine wp_ret ?_;simp only[zz];try simp only[Exit.inBlock,Exit.then,if_true]
 refine bE rfl rfl ?_;try simp only[zD,zE]
 exact ⟨_,rfl,m.ext,_,rfl,m.ge _ List.mem_cons_self _ rfl,(m.b 0 rfl)⟩
theorem Eh (n : Nat) (hn : 1 ≤ n) (Bs n₀ : Nat) (t : T3) (w : World) (hB : fF w Bs (aW t) 39) : SeqStopsK Fence.wide n prog 337 #[.pointer (some ⟨Bs,0,none⟩)] (fun x : Nat=>afe t x) (jT n₀ Bs) (fun ys=>ys = [0,1,2]) (fun pre=>∀ k ∈ pre,k < 3) 3 w:=fun l J Jx W hW hJ hJx hY h0 =>
 aal n hn l Bs n₀ t J Jx (fun s W h=>hJ s W _ none h ⟨rfl,rfl,rfl,Nat.le_refl _,fun _ _ _=>rfl⟩ (fun r e=>by cases e)) hY W ((hW.block Bs hB.lt).trans hB) h0
end Go.Proofs.YtfekpcimgncioaaGreatDoor
namespace Go.Proofs.YtfekpcimgncioaaGreatDoor
open Go.Proofs.Tryz
open Go.RowKit Go.Lith
set_option maxRecDepth 100000
attribute [local irreducible] wpList wpQuiet dB bL cE Code.wp
theorem vI {l : List Value} {ty : TypeId} {x y : Operand} {v : P3} {k : Nat} (hk : k < 3) (hx : ev l x = sg v) (hy : ev l y = .int .i64 (k : Int)) : fC prog l (.index 36 x y) ty (.int .i64 (cA (lA v k))):=by
 have h : k = 0 ∨ k = 1 ∨ k = 2:=by omega
 rcases h with rfl | rfl | rfl
 · exact gN hx hy
 · exact gP hx hy
 · exact gQ hx hy
theorem Xf (n : Int) : -1 ≤ cA n ∧ cA n ≤ 1:=by
 unfold cA;split
 · omega
 · split <;> omega
theorem Lc (m n : Int) : IntKind.i64.wrap (cA m * cA n) = cA m * cA n:=by
 have h1:=Xf m;have h2:=Xf n;have h3 : cA m = -1 ∨ cA m = 0 ∨ cA m = 1:=by omega
 rcases h3 with h | h | h <;> rw [h] <;> exact aV (by omega) (by omega)
theorem Rm {a b c d : P3} [I3 a] [I3 b] [I3 c] [I3 d] {g50 k : Nat} (w : World) (hB50 : fF w g50 [.int .i64 (k : Int)] 3) (hk : k < 3) : eG prog 338 [pt a,pt b,pt c,pt d,.pointer (some ⟨g50,0,none⟩)] w (fun v _=>v = .bool (decide (cA (lA (nR a b c) k) * cA (lA (nR a b d) k) ≤ 0))):=by
 refine ⟨ahc,?_⟩;have m:=Mem.refl w
 go_enter func338,ntmps338
 refine aD fun K1 k1=>wp_region_lit (cB m rfl ?_);clear m;intro g1 u m;simp only[zz];refine cB m rfl ?_;clear m;intro g2 u m;simp only[zz];refine cB m rfl ?_;clear m;intro g3 u m;simp only[zz];refine cB m rfl ?_;clear m;intro g4 u m;refine aA (aG) (aF (k1 _ _ ?_));try clear k1 K1
 refine aD fun K2 k2=>?_;simp only[zz];refine mq m aM (by kernel_rfl) (ql rfl (fun u m=>((m.b 3 rfl).full aI aC)) ?_);simp only[zz];refine ql rfl (fun u m=>((m.b 2 rfl).full aI aC)) ?_;simp only[zz];refine ql rfl (fun u m=>((m.b 3 rfl).full aI aC)) ?_;simp only[zz];refine ql rfl (fun u m=>((m.b 1 rfl).full aI aC)) ?_;simp only[zz];refine gV rfl rfl (mS (a:=a) (b:=b) (c:=a) (d:=c)) ?_;simp only[zz];refine ql rfl (fun u m=>((hB50.ext m.ext).lies1 aX rfl)) ?_;simp only[zz];refine aK ((vI (v:=nR a b c) hk rfl rfl)) ?_;simp only[zz];refine ql rfl (fun u m=>((m.b 3 rfl).full aI aC)) ?_;simp only[zz];refine ql rfl (fun u m=>((m.b 2 rfl).full aI aC)) ?_;simp only[zz];refine ql rfl (fun u m=>((m.b 3 rfl).full aI aC)) ?_;simp only[zz];refine ql rfl (fun u m=>((m.b 0 rfl).full aI aC)) ?_;simp only[zz];refine gV rfl rfl (mS (a:=a) (b:=b) (c:=a) (d:=d)) ?_;simp only[zz];refine ql rfl (fun u m=>((hB50.ext m.ext).lies1 aX rfl)) ?_;simp only[zz];refine aK ((vI (v:=nR a b d) hk rfl rfl)) (aK (qA rfl rfl (Lc _ _)) (aK (aaD rfl rfl) (aK (aG) ?_)));simp only[zz];refine bZ ?_;clear m;intro u m;refine k2 _ _ ?_;try clear k2 K2
 refine wp_ret ?_;try simp only[Exit.inBlock,Exit.then,if_true]
 refine bE rfl rfl ?_;try simp only[zD,zE]
 exact ⟨_,rfl,m.ext,rfl⟩
end Go.Proofs.YtfekpcimgncioaaGreatDoor
namespace Go.Proofs.YtfekpcimgncioaaGreatDoor
open Go.Proofs.Tryz
open Go.RowKit Go.Lith
set_option maxRecDepth 100000
attribute [local irreducible] wpList wpQuiet dB bL cE Code.wp
section
variable {P : Program} {ops : Array Oper} {Q : Exit → Act → World → Prop} {rest : List Oper} {d j : Nat} {ty : TypeId} {pos : String} {after : Array Edge} {v : Value} {b : Bool} {ds : List Deferred} {l : List Value} {w w0 : World} {is : List It}
variable {f : FuncId} {fo : Operand} {xs : Array Operand} {args : List Value} {first cap : Array Value} {a0 : Array TypeId}
theorem Xg (m : Mem w0 w is) (hw : yielded ops l.toArray j = some b) (hf : b = true → ev l fo = .func (.func f) first cap) (hxs : b = true → first.toList ++ xs.toList.map (ev l) ++ cap.toList = args) (hc : b = true → eG P f args w fun x _=>x = v)
 (h : ∀ u,Mem w0 u is → wpList P ops Q rest (Fr (l.set d (Il b v)) ds) u) : wpList P ops Q (Oper.mk (some d) (.call { callee:=.value fo,args:=xs,argTypes:=a0 }) ty pos after (some (j,true)) :: rest) (Fr l ds) w:=by
 cases b with
 | false=>simp only[wY] at h;exact dY hw (h w m)
 | true=>simp only[iZ] at h;exact bM hw (eE m (hf rfl) (hxs rfl) (hc rfl) fun x u m e=>by subst e;exact h u m)
end
theorem vJ {u : P3} (h : ¬ Z3 u) : yF u = Ex u ∧ Ex u < 3:=by
 unfold yF Ex;unfold Z3 at h;by_cases h1 : u.x = 0 <;> by_cases h2 : u.y = 0 <;> by_cases h3 : u.z = 0 <;> simp [h1,h2,h3] at h ⊢
theorem afg {u : P3} (h : Z3 u) : ¬ Ex u < 3:=by
 obtain ⟨h1,h2,h3⟩:=h;simp [Ex,h1,h2,h3]
theorem acD {a b : Int} : cA a * cA b ≤ 0 ↔ a * b ≤ 0:=by
 unfold cA;rcases Int.lt_trichotomy a 0 with ha | ha | ha <;> rcases Int.lt_trichotomy b 0 with hb | hb | hb
 · have:=Int.mul_pos_of_neg_of_neg ha hb
   simp [ha,hb];omega
 · simp [hb]
 · have:=Int.mul_neg_of_neg_of_pos ha hb
   have : ¬ b < 0:=by omega
   simp [ha,hb,this];omega
 · simp [ha]
 · simp [ha]
 · simp [ha]
 · have:=Int.mul_neg_of_pos_of_neg ha hb
   have : ¬ a < 0:=by omega
   simp [ha,hb,this];omega
 · simp [hb]
 · have:=Int.mul_pos ha hb
   have : ¬ a < 0:=by omega
   have : ¬ b < 0:=by omega
   simp [*]
def nU (p q r s : P3) : T3:=if qK p q = tV p q then ⟨qK r s,tV r s,qK p q⟩ else ⟨qK p q,tV p q,qK r s⟩
theorem Ld {p q : P3} (hp : I3 p) (hq : I3 q) : I3 (qK p q) ∧ I3 (tV p q):=by
 unfold qK tV;split
 · exact ⟨hq,hp⟩
 · exact ⟨hp,hq⟩
instance {p q r s : P3} [hp : I3 p] [hq : I3 q] [hr : I3 r] [hs : I3 s] : IT (nU p q r s):=by
 unfold nU;split
 · exact ⟨(Ld hr hs).1,(Ld hr hs).2,(Ld hp hq).1⟩
 · exact ⟨(Ld hp hq).1,(Ld hp hq).2,(Ld hr hs).1⟩
theorem ah2 {p q r s : P3} (h : (qK p q).x = (tV p q).x ∧ (qK p q).y = (tV p q).y ∧ (qK p q).z = (tV p q).z) : nU p q r s = ⟨qK r s,tV r s,qK p q⟩:=if_pos (P3.eq h.1 h.2.1 h.2.2)
theorem ah3 {p q r s : P3} (h : ¬ ((qK p q).x = (tV p q).x ∧ (qK p q).y = (tV p q).y ∧ (qK p q).z = (tV p q).z)) : nU p q r s = ⟨qK p q,tV p q,qK r s⟩:=if_neg fun e=>h (by rw [e];exact ⟨rfl,rfl,rfl⟩)
theorem afh (u : P3) : Ex u ≤ 3:=by
 unfold Ex;split
 · omega
 · split
   · omega
   · split <;> omega
theorem ajX {p q r s : P3} (h : Z3 (xV p q r s)) : (kG (nU p q r s) && !decide ((tV p q).Lt (qK r s)) && !decide ((tV r s).Lt (qK p q))) = iR p q r s:=by
 unfold iR;rw [if_neg (afg h)];unfold ajC
 congr 2
 unfold nU kG abB;split
 · refine decide_eq_decide.2 ?_
   have:=afh (nR (qK r s) (tV r s) (qK p q));simp only;omega
 · refine decide_eq_decide.2 ?_
   have:=afh (nR (qK p q) (tV p q) (qK r s));simp only;omega
theorem aeD {p q r s : P3} (h : ¬ Z3 (xV p q r s)) : (decide (cA (yN p q r s) = 0) && decide (cA (lA (nR p q r) (Ex (xV p q r s))) * cA (lA (nR p q s) (Ex (xV p q r s))) ≤ 0) && decide (cA (lA (nR r s p) (Ex (xV p q r s))) * cA (lA (nR r s q) (Ex (xV p q r s))) ≤ 0)) = iR p q r s:=by
 unfold iR;rw [if_pos (vJ h).2];simp only[acD,fG]
theorem Ff {p q r s : P3} [I3 p] [I3 q] [I3 r] [I3 s] : eQ prog 306 [pt p,pt q,pt r,pt s] (.bool (iR p q r s)):=by
 intro w;refine ⟨ag8,?_⟩;have m:=Mem.refl w
 go_enter func306,ntmps306
 refine aD fun K1 k1=>wp_region_lit (cB m rfl ?_);clear m;intro g1 u m;simp only[zz];refine cB m rfl ?_;clear m;intro g2 u m;simp only[zz];refine cB m rfl ?_;clear m;intro g3 u m;simp only[zz];refine cB m rfl ?_;clear m;intro g4 u m;refine aA (aG) (aF (k1 _ _ ?_));try clear k1 K1
 refine aD fun K2 k2=>wp_region_lit ?_;simp only[zz];refine aJ rfl ((m.b 3 rfl).full aI aC) ?_;simp only[zz];refine aJ rfl ((m.b 2 rfl).full aI aC) ?_;simp only[zz];refine aJ rfl ((m.b 1 rfl).full aI aC) ?_;simp only[zz];refine aJ rfl ((m.b 0 rfl).full aI aC) ?_;simp only[zz];refine dH m rfl rfl (mS (a:=p) (b:=q) (c:=r) (d:=s)) ?_;clear m;intro u m;simp only[zz];refine dH m rfl rfl (Xd (u:=xV p q r s)) ?_;clear m;intro u m;simp only[zz];refine bA m iP rfl ?_;clear m;intro g5 u m;simp only[zz];refine cH m 0 rfl rfl rfl aO (cU rfl) ⟨rfl,rfl⟩ ?_;clear m;intro u m;simp only[zz,zy,zx,bB,Nat.reduceAdd] at m;refine aF (k2 _ _ ?_);try clear k2 K2
 refine aD fun K3 k3=>aD fun K4 k4=>?_;by_cases hf : Z3 (xV p q r s)
 · skip
   rw [acC hf] at m;refine wp_region_lit (aJ rfl ((m.b 0 rfl).lies1 aX rfl) ?_);simp only[zz];refine aA (afw rfl rfl (by omega)) (aF (k4 _ _ ?_));try clear k4 K4
   refine gA rfl (wp_skip (k3 _ _ ?_));try clear k3 K3
   refine aD fun K5 k5=>wp_region_lit ?_;simp only[zz];refine aJ rfl ((m.b 4 rfl).full aI aC) ?_;simp only[zz];refine aJ rfl ((m.b 3 rfl).full aI aC) ?_;simp only[zz];refine dH m rfl rfl (sB (p:=p) (q:=q)) ?_;clear m;intro u m;refine aA (aB) (aA (bC rfl rfl) (aA (bC rfl rfl) ?_));simp only[zz];refine aT m 4 rfl rfl rfl aC (cU rfl) rfl ?_;clear m;intro u m;simp only[zy,zx,bB,zF,zG,Nat.reduceAdd] at m;refine aT m 3 rfl rfl rfl aC (cU rfl) rfl ?_;clear m;intro u m;simp only[zy,zx,bB,zF,zG,Nat.reduceAdd] at m;refine aF (k5 _ _ ?_);try clear k5 K5
   refine aD fun K6 k6=>wp_region_lit (aJ rfl ((m.b 2 rfl).full aI aC) ?_);simp only[zz];refine aJ rfl ((m.b 1 rfl).full aI aC) ?_;simp only[zz];refine dH m rfl rfl (sB (p:=r) (q:=s)) ?_;clear m;intro u m;refine aA (aB) (aA (bC rfl rfl) (aA (bC rfl rfl) ?_));simp only[zz];refine aT m 2 rfl rfl rfl aC (cU rfl) rfl ?_;clear m;intro u m;simp only[zy,zx,bB,zF,zG,Nat.reduceAdd] at m;refine aT m 1 rfl rfl rfl aC (cU rfl) rfl ?_;clear m;intro u m;simp only[zy,zx,bB,zF,zG,Nat.reduceAdd] at m;refine aF (k6 _ _ ?_);try clear k6 K6
   refine aD fun K7 k7=>wp_region_lit (aJ rfl ((m.b 4 rfl).full aI aC) ?_);simp only[zz];refine aJ rfl ((m.b 3 rfl).full aI aC) ?_;simp only[zz];refine aJ rfl ((m.b 2 rfl).full aI aC) ?_;simp only[zz];refine aA (cO rfl rfl rfl) ?_;simp only[zz];refine bA m fP rfl ?_;clear m;intro g6 u m;simp only[zz];refine aT m 0 rfl rfl rfl aR (cU rfl) rfl ?_;clear m;intro u m;simp only[zy,zx,bB,zF,zG,Nat.reduceAdd] at m;refine aF (k7 _ _ ?_);try clear k7 K7
   refine aD fun K8 k8=>aD fun K9 k9=>wp_region_lit (aJ rfl ((m.b 5 rfl).full aI aC) ?_);simp only[zz];refine aJ rfl ((m.b 4 rfl).full aI aC) ?_;simp only[zz];refine aA (cV rfl rfl) (aF (k9 _ _ ?_));try clear k9 K9
   simp only[zz];refine iM m 0 [] [62,63,64,65] (fun vs i=>vs = [] ∧ i = bI g6 [.int .i64 (nU p q r s).a.x,.int .i64 (nU p q r s).a.y,.int .i64 (nU p q r s).a.z,.int .i64 (nU p q r s).b.x,.int .i64 (nU p q r s).b.y,.int .i64 (nU p q r s).b.z,.int .i64 (nU p q r s).c.x,.int .i64 (nU p q r s).c.y,.int .i64 (nU p q r s).c.z] 39) ?_ ?_
   · skip
     refine cG rfl (fun hc2=>?_) (fun hc2=>?_)
     · skip
       refine wp_region_lit (aJ rfl ((m.b 3 rfl).full aI aC) ?_);simp only[zz];refine aJ rfl ((m.b 2 rfl).full aI aC) ?_;simp only[zz];refine aJ rfl ((m.b 5 rfl).full aI aC) ?_;simp only[zz];refine aA (cO rfl rfl rfl) ?_;simp only[zz];refine aT m 0 rfl rfl rfl aR (cU rfl) rfl ?_;clear m;intro u m;simp only[zy,zx,bB,zF,zG,Nat.reduceAdd] at m;refine aF ?_;simp only[Exit.inBlock,Exit.then];refine ⟨_,_,rfl,?_,m,?_⟩
       · simp only[zz,zv]
       · simp only[zQ,zR,zD,zE]
         exact ⟨trivial,by rw [ah2 hc2] <;> rfl⟩
     · skip
       refine wp_skip ?_;simp only[Exit.inBlock,Exit.then];refine ⟨_,_,rfl,?_,m,?_⟩
       · simp only[zz,zv]
       · simp only[zQ,zR,zD,zE]
         exact ⟨trivial,by rw [ah3 hc2] <;> rfl⟩
   · intro vs i wr m hI u
     obtain ⟨rfl,rfl⟩:=hI;simp only[zF,zG] at m;simp only[zu,zF,zG];refine k8 _ _ ?_;try clear k8 K8
     refine aD fun K10 k10=>wp_region_lit (aJ rfl ((m.b 0 rfl).full bR aR) ?_);simp only[zz];refine dH m rfl rfl (Nm (t:=nU p q r s)) ?_;clear m;intro u m;refine aA (aB) ?_;simp only[zz];refine gK rfl (fun hb=>bJ rfl ((m.b 4 rfl).full aI aC)) (gK rfl (fun hb=>bJ rfl ((m.b 3 rfl).full aI aC)) (Wb m rfl rfl (fun hb=>by simp only[List.toList_toArray,List.map_cons,List.map_nil,zA,zB,zC,zD,zE,hb,iZ];rfl) (fun hb=>(oK (p:=tV p q) (q:=qK r s)).pure) ?_));clear m;intro u m;refine jF rfl (fun hb=>fR (bW hb rfl)) (aA (eS rfl rfl rfl) (aA (aB) ?_));simp only[zz];refine gK rfl (fun hb=>bJ rfl ((m.b 2 rfl).full aI aC)) (gK rfl (fun hb=>bJ rfl ((m.b 5 rfl).full aI aC)) (Wb m rfl rfl (fun hb=>by simp only[List.toList_toArray,List.map_cons,List.map_nil,zA,zB,zC,zD,zE,hb,iZ];rfl) (fun hb=>(oK (p:=tV r s) (q:=qK p q)).pure) ?_));clear m;intro u m;refine jF rfl (fun hb=>fR (bW hb rfl)) (aA (eS rfl rfl rfl) (aA (aG) ?_));simp only[zz];refine aF (k10 _ _ ?_);try clear k10 K10
     refine wp_ret ?_;try simp only[Exit.inBlock,Exit.then,if_true]
     refine bE rfl rfl ?_;try simp only[zD,zE]
     exact ⟨_,rfl,m.ext,by rw [yD,ajX hf]⟩
 · skip
   rw [acB hf,(vJ hf).1] at m;refine wp_region_lit (aJ rfl ((m.b 0 rfl).lies1 aX rfl) ?_);simp only[zz];refine aA (afv rfl rfl (by omega)) (aF (k4 _ _ ?_));try clear k4 K4
   refine bK rfl (aD fun K11 k11=>wp_region_lit ?_);simp only[zz];refine aA (eZ) ?_;simp only[zz,List.map_toArray,List.map_cons,List.map_nil];refine aA (aG) (aF (k11 _ _ ?_));try clear k11 K11
   refine aD fun K12 k12=>wp_region_lit ?_;simp only[zz];refine aJ rfl ((m.b 4 rfl).full aI aC) ?_;simp only[zz];refine aJ rfl ((m.b 3 rfl).full aI aC) ?_;simp only[zz];refine aJ rfl ((m.b 2 rfl).full aI aC) ?_;simp only[zz];refine aJ rfl ((m.b 1 rfl).full aI aC) ?_;simp only[zz];refine dH m rfl rfl (pV (a:=p) (b:=q) (c:=r) (d:=s)) ?_;clear m;intro u m;refine aA (tY rfl rfl) (aA (aB) (jF rfl (fun hb=>aB) ?_));simp only[zz];refine gK rfl (fun hb=>bJ rfl ((m.b 4 rfl).full aI aC)) (gK rfl (fun hb=>bJ rfl ((m.b 3 rfl).full aI aC)) (gK rfl (fun hb=>bJ rfl ((m.b 2 rfl).full aI aC)) (gK rfl (fun hb=>bJ rfl ((m.b 1 rfl).full aI aC)) (Xg m rfl (fun hb=>bW hb rfl) (fun hb=>by simp only[List.toList_toArray,List.map_cons,List.map_nil,zA,zB,zC,zD,zE,hb,iZ];rfl) (fun hb=>Rm (a:=p) (b:=q) (c:=r) (d:=s) (k:=Ex (xV p q r s)) _ (m.b 0 rfl) (vJ hf).2) ?_))));clear m;intro u m;refine aA (eS rfl rfl rfl) (aA (aB) (jF rfl (fun hb=>aB) ?_));simp only[zz];refine gK rfl (fun hb=>bJ rfl ((m.b 2 rfl).full aI aC)) (gK rfl (fun hb=>bJ rfl ((m.b 1 rfl).full aI aC)) (gK rfl (fun hb=>bJ rfl ((m.b 4 rfl).full aI aC)) (gK rfl (fun hb=>bJ rfl ((m.b 3 rfl).full aI aC)) (Xg m rfl (fun hb=>bW hb rfl) (fun hb=>by simp only[List.toList_toArray,List.map_cons,List.map_nil,zA,zB,zC,zD,zE,hb,iZ];rfl) (fun hb=>Rm (a:=r) (b:=s) (c:=p) (d:=q) (k:=Ex (xV p q r s)) _ (m.b 0 rfl) (vJ hf).2) ?_))));clear m;intro u m;refine aA (eS rfl rfl rfl) (aA (aG) (aF (k12 _ _ ?_)));try clear k12 K12
   refine wp_ret ?_;simp only[zz];try simp only[Exit.inBlock,Exit.then,if_true]
   refine bE rfl rfl ?_;try simp only[zD,zE]
   exact ⟨_,rfl,m.ext,by rw [← aeD hf];rfl⟩
end Go.Proofs.YtfekpcimgncioaaGreatDoor
