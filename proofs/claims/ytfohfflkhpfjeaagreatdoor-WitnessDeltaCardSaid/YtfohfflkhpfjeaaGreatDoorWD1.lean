/-
 Texts of one claim, laid together: V7d, Join, JoinWitnessDelta.
-/
import Derived.OpenVars
import Derived.OpenShut
import Derived.WalkKit
import Derived.ProofKit
import Derived.Test.YtfohfflkhpfjeaaGreatDoorCards
import Derived.Test.YtfohfflkhpfjeaaGreatDoorTie
import Derived.Deep.DeepHandedRow
import Derived.Lib.LaidTab
import Derived.Test.YtfohfflkhpfjeaaGreatDoorD7
set_option maxHeartbeats 8000000
set_option linter.unusedSimpArgs false
set_option linter.unusedVariables false
set_option linter.unusedSectionVars false
namespace Go.Proofs.YtfohfflkhpfjeaaGreatDoor
open Go.Proofs.Tryz
open Go.RowKit Go.Lith
set_option maxRecDepth 100000
attribute [local irreducible] wpList wpQuiet dD cO cF Code.wp
theorem uY {ts : List T3} (h : ∀ t ∈ ts,IT t) (hl : ts.length ≤ 100000) : Bd 264 (jR uM ts):=Oj (m:=200) (fun u hu=>by haveI:=h u hu;exact Hd) (by omega)
theorem nF {fs gs : List T3} {N cap N2 cap2 : Nat} {A A2 : Option Addr} (w : World) (hT : dZ w A N fs) (hT2 : dZ w A2 N2 gs) (hN : N ≤ 100000) (hN2 : N2 ≤ 100000) : eE prog 26 [.slice A N cap,.slice A2 N2 cap2] w (fun v _=>v = W (jR uM fs - jR uM gs)):=by
 refine ⟨ac0,?_⟩;have m:=bS.refl w
 go_enter func26,ntmps26
 refine aC fun K1 k1=>wp_region_lit (aY m cL rfl ?_);clear m;intro g1 u m;refine aD (k1 _ _ ?_);refine aC fun K2 k2=>wp_region_lit (aA (aB) ?_);simp only[zz];refine fF m rfl rfl (Gk _ (hT.ext m.ext) (by omega)) ?_;clear m;rintro v u m rfl;refine aA (aB) ?_;simp only[zz];refine fF m rfl rfl (Gk _ (hT2.ext m.ext) (by omega)) ?_;clear m;rintro v u m rfl;simp only[zz];refine cW m rfl rfl (Dk (a:=jR uM fs) (b:=jR uM gs) ((uY hT.it (by have:=hT.len;omega)).mono (by decide)) ((uY hT2.it (by have:=hT2.len;omega)).mono (by decide))) ?_;clear m;intro u m;simp only[zz];refine aQ m 0 rfl rfl rfl aO (dH rfl) rfl ?_;clear m;intro u m;simp only[zy,zx,bB,zF,zG,Nat.reduceAdd] at m;refine aD (k2 _ _ ?_);refine wp_ret ?_;try simp only[Exit.inBlock,Exit.then,if_true]
 refine bP rfl ⟨_,rfl,((m.b 0 rfl).full bG aO)⟩ ?_;try simp only[zD,zE]
 exact ⟨_,rfl,m.ext,rfl⟩
theorem xI {fs gs : List T3} {N cap N2 cap2 : Nat} {A A2 : Option Addr} (w : World) (hT : dZ w A N fs) (hT2 : dZ w A2 N2 gs) (hN : N ≤ 100000) (hN2 : N2 ≤ 100000) : eE prog 27 [.slice A N cap,.slice A2 N2 cap2] w (fun v _=>v = W (jR uM fs - jR uM gs)):=by
 refine ⟨ac1,?_⟩;have m:=bS.refl w
 go_enter func27,ntmps27
 refine aC fun K1 k1=>wp_region_lit (aY m cL rfl ?_);clear m;intro g1 u m;refine aD (k1 _ _ ?_);refine aC fun K2 k2=>wp_region_lit (aA (aB) ?_);simp only[zz];refine fF m rfl rfl (Du _ (hT.ext m.ext) (by omega)) ?_;clear m;rintro v u m rfl;refine aA (aB) ?_;simp only[zz];refine fF m rfl rfl (Du _ (hT2.ext m.ext) (by omega)) ?_;clear m;rintro v u m rfl;simp only[zz];refine cW m rfl rfl (Xt (a:=jR uM fs) (b:=jR uM gs) ((uY hT.it (by have:=hT.len;omega)).mono (by decide)) ((uY hT2.it (by have:=hT2.len;omega)).mono (by decide))) ?_;clear m;intro u m;simp only[zz];refine aQ m 0 rfl rfl rfl aO (dH rfl) rfl ?_;clear m;intro u m;simp only[zy,zx,bB,zF,zG,Nat.reduceAdd] at m;refine aD (k2 _ _ ?_);refine wp_ret ?_;try simp only[Exit.inBlock,Exit.then,if_true]
 refine bP rfl ⟨_,rfl,((m.b 0 rfl).full bG aO)⟩ ?_;try simp only[zD,zE]
 exact ⟨_,rfl,m.ext,rfl⟩
theorem Dv {kind bits : Int} [Iw kind] [Iw bits] {HN Hc DN Dc : Nat} {HA DA : Option Addr} {zs : List Int} {qs : List Q4} {q0 q1 q2 : Int} [Iw q0] [Iw q1] [Iw q2] {t : T3} [IT t] (w : World) (hZ : nJ w HA HN zs) (hQ : uN q4C 4 w DA DN qs) (hI : ∀ q ∈ qs,IQ q) : eE prog 10 [.agg #[.int .i64 kind,.int .i64 bits,.slice HA HN Hc,.slice DA DN Dc],.agg #[.int .i64 q0,.int .i64 q1,.int .i64 q2],tr t] w (fun v _=>v = .bool true):=by
 refine ⟨acQ,?_⟩;have m:=bS.refl w
 go_enter func10,ntmps10
 refine aC fun K1 k1=>wp_region_lit (fA m rfl ?_);clear m;intro g1 u m;simp only[zz];refine fA m rfl ?_;clear m;intro g2 u m;simp only[zz];refine fA m rfl ?_;clear m;intro g3 u m;refine aA (aF) (aD (k1 _ _ ?_));refine aC fun K2 k2=>wp_region_lit ?_;simp only[zz];refine cW m rfl rfl (Ye) ?_;clear m;intro u m;refine aA (aF) (aD (k2 _ _ ?_));refine aC fun K3 k3=>wp_region_lit ?_;simp only[zz];refine aI rfl ((m.b 2 rfl).full abR Vr) ?_;simp only[zz];refine bE rfl rfl (acw _ (hZ.ext m.ext) (hQ.ext m.ext) hI) ?_;rintro v u e ⟨us,ms,A7,c7,A8,c8,A5,c5,i,rfl,hM,hi,hdv⟩;replace m:=m.plus hM;clear hM e;simp only[List.cons_append,List.nil_append] at m;have hs:=hdv.srf hi;have hs1:=hs.ul;have hs2:=hs.ll;have hs3:=hs.ml;refine aA (aB) (aA (bL rfl rfl) (aA (bL rfl rfl) ?_));simp only[zz];refine aA (bL rfl rfl) (aA (aF) (aA (aF) (aA (aF) ?_)));simp only[zz];refine aD (k3 _ _ ?_);refine aC fun K4 k4=>?_;refine Fc m [true,true,true,true,true,true] (.take 0 (.take 1 (.take 3 (.two 2 (.one 4 (.one 5 (.take 6 .nil))) 4 (.one 2 (.one 5 (.take 6 .nil))))))) aP (by kernel_rfl) (dB (fun _ _ _ _ _ h=>h)) ?_;clear m;intro u m;refine dR (by simp only[zw];rfl) (aW (aB) (dF (dR (by simp only[zw];rfl) ?_)));simp only[zz];refine bQ rfl (fun u m=>((m.b 4 rfl).full Vs sX)) ?_;simp only[zz];refine dF (dR (by simp only[zw];rfl) (bQ rfl (fun u m=>((m.b 3 rfl).full eJ aV)) ?_));simp only[zz];refine dF ?_;refine yL (by simp only[zw];rfl) (by simp only[zw];rfl) ?_ ?_
 ·
  refine bE rfl rfl (Gj (q0:=q0) (q1:=q1) (q2:=q2) _ ((m.o 1 rfl).tris (gY hs.um)) (by omega)) ?_;rintro v u e ⟨us11,⟨A11,c11,n11,hn11,rfl,hN⟩,hsub11,hle11⟩;replace m:=m.newO e hN;clear e hN;subst hn11;refine aD (⟨m.sel [false,true,true,true,true,true,true],?_⟩);refine eP (by simp only[zw];rfl) ?_;simp only[zz];refine uC rfl ?_;intro u g4 e hg hB;replace m:=m.newB e hg hB;clear e hg hB;refine aD (⟨m.sel [false,false,true,true,true,true,true,true],?_⟩);refine eP (by simp only[zw];rfl) ?_;simp only[zz];refine eC m 1 rfl rfl cC jZ rfl (by decide) rfl rfl rfl (m.b 0 rfl).rowsO (sA rfl) (by omega) (by omega) ?_;clear m;intro A11 cap11 u m;simp only[zF,zG] at m;rw [show us11.flatMap aX ++ _ = (us11 ++ [t]).flatMap aX by rw [List.flatMap_append];rfl] at m;have hll : us11.length + 1 = (us11 ++ [t]).length:=by simp
  rw [hll] at m;rw [hll];refine aD (⟨m.sel [false,false,true,true,true,true,true,true],?_⟩);refine dR (by simp only[zw];rfl) (aW (aF) (dF (nP ?_)));simp only[zz];have hIx : ∀ u ∈ us11 ++ [t],IT u:=fun u hu=>(List.mem_append.1 hu).elim (gY (fun x hx=>hs.um x (Lp hsub11 x hx)) u) fun h=>by obtain rfl:=List.mem_singleton.1 h;infer_instance
  have hxl : (us11 ++ [t]).length ≤ 1000:=by simp;omega
  have hbX:=uY hIx (by omega);have hbB:=uY (gY hs.lm) (by omega);have hbC:=uY (gY hs.um) (by omega);refine k4 _ _ ?_;refine aC fun K5 k5=>wp_region_lit (aA (aB) (aA (aB) ?_));simp only[zz];refine fF m rfl rfl (nF _ ((m.o 1 rfl).tris hIx) ((m.o 4 rfl).tris (gY hs.lm)) (by omega) (by omega)) ?_;clear m;rintro v u m rfl;simp only[zz];refine aY m cL rfl ?_;clear m;intro g5 u m;simp only[zz];refine aQ m 0 rfl rfl rfl aO (dH rfl) rfl ?_;clear m;intro u m;simp only[zy,zx,bB,zF,zG,Nat.reduceAdd] at m;refine aD (k5 _ _ ?_);refine aC fun K6 k6=>wp_region_lit (aA (aB) (aA (aB) ?_));simp only[zz];refine fF m rfl rfl (nF _ ((m.o 5 rfl).tris (gY hs.lm)) ((m.o 4 rfl).tris (gY hs.um)) (by omega) (by omega)) ?_;clear m;rintro v u m rfl;simp only[zz];refine aY m cL rfl ?_;clear m;intro g6 u m;simp only[zz];refine aQ m 0 rfl rfl rfl aO (dH rfl) rfl ?_;clear m;intro u m;simp only[zy,zx,bB,zF,zG,Nat.reduceAdd] at m;refine aD (k6 _ _ ?_);refine aC fun K7 k7=>wp_region_lit (aA (aB) (aA (aB) ?_));simp only[zz];refine fF m rfl rfl (nF _ ((m.o 3 rfl).tris hIx) ((m.o 5 rfl).tris (gY hs.um)) (by omega) (by omega)) ?_;clear m;rintro v u m rfl;simp only[zz];refine aY m cL rfl ?_;clear m;intro g7 u m;simp only[zz];refine aQ m 0 rfl rfl rfl aO (dH rfl) rfl ?_;clear m;intro u m;simp only[zy,zx,bB,zF,zG,Nat.reduceAdd] at m;refine aD (k7 _ _ ?_);refine aC fun K8 k8=>?_;refine mh m [true,true,true,true,true,true,true,true,true,true,true] [(0,true),(1,true),(3,true),(4,true),(2,true),(5,false),(6,true),(7,true),(8,true),(10,true),(11,true),(9,true),(12,false),(13,true),(14,true),(15,true),(16,true),(17,true),(19,true),(18,false),(20,true),(21,true),(22,true),(23,true),(24,true),(26,true),(25,false),(27,true),(28,true),(29,true)] aP (by kernel_rfl) (dB (fun _ _ _ _ _ h=>h)) (ol:=?_) ?hol ?_
  case hol=>simp only[zw,zQ,zR];try rfl
  clear m;intro u m;refine aW (aB) (aW (aB) (eV rfl (aW (aB) (eV rfl (aW (aB) ?_)))));simp only[zz];refine eV rfl (bQ rfl (fun u m=>((m.b 2 rfl).full bG aO)) ?_);simp only[zz];refine bU (bM rfl (fF m rfl rfl (xI _ ((m.o 4 rfl).tris hIx) ((m.o 7 rfl).tris (gY hs.lm)) (by omega) (by omega)) ?_));clear m;rintro v u m rfl;refine aD (⟨m,?_⟩);refine eV rfl (aW (xL (lG rfl rfl) (oU (decide_eq_true ⟨rfl,rfl⟩))) (aW (eF rfl) (aW (aB) ?_)));simp only[zz];refine eV rfl (aW (aB) (eV rfl (aW (aB) (eV rfl ?_))));simp only[zz];refine bQ rfl (fun u m=>((m.b 1 rfl).full bG aO)) ?_;simp only[zz];refine bU (bM rfl (fF m rfl rfl (xI _ ((m.o 7 rfl).tris (gY hs.lm)) ((m.o 6 rfl).tris (gY hs.um)) (by omega) (by omega)) ?_));clear m;rintro v u m rfl;refine aD (⟨m,?_⟩);refine eV rfl (aW (xL (lG rfl rfl) (oU (decide_eq_true ⟨rfl,rfl⟩))) (aW (eF rfl) (aW (aB) ?_)));simp only[zz];refine eV rfl (bQ rfl (fun u m=>((m.b 2 rfl).full bG aO)) ?_);simp only[zz];refine eV rfl (bQ rfl (fun u m=>((m.b 1 rfl).full bG aO)) ?_);simp only[zz];refine eV rfl (bQ rfl (fun u m=>((m.b 0 rfl).full bG aO)) ?_);simp only[zz];refine bU (bM rfl (cW m rfl rfl (yG (a:=jR uM (us11 ++ [t]) - jR uM (lY kind bits zs)) (b:=jR uM (lY kind bits zs) - jR uM us) ((hbX.sub hbB).mono (by decide)) ((hbB.sub hbC).mono (by decide))) ?_));clear m;intro u m;refine aD (⟨m,?_⟩);refine eV rfl (aW (xL (lG rfl rfl) (oU (decide_eq_true (Bn.2 (by omega))))) (aW (eF rfl) (aW (aB) ?_)));simp only[zz];refine eV rfl (aW (aB) (eV rfl (aW (aB) (eV rfl (aW (oZ) (bU (bM rfl ?_)))))));simp only[zz];refine fF m rfl rfl (nF _ ((m.o 4 rfl).tris hIx) ((m.o 4 rfl).tris hIx) (by omega) (by omega)) ?_;clear m;rintro v u m rfl;refine aD (⟨m,?_⟩);refine eV rfl (aW (xL (lG rfl rfl) (oU (decide_eq_true (by rw [Int.sub_self];exact ⟨rfl,xO⟩)))) (aW (eF rfl) (aW (aF) ?_)));simp only[zz];refine dF (k8 _ _ ?_);refine wp_ret ?_;try simp only[Exit.inBlock,Exit.then,if_true]
  refine bP rfl rfl ?_;try simp only[zD,zE]
  exact ⟨_,rfl,m.ext,rfl⟩
 ·
  refine uC rfl ?_;intro u g4 e hg hB;replace m:=m.newB e hg hB;clear e hg hB;refine aD (⟨m.sel [false,true,true,true,true,true,true],?_⟩);refine eP (by simp only[zw];rfl) ?_;simp only[zz];refine bE rfl rfl (Gj (q0:=q0) (q1:=q1) (q2:=q2) _ ((m.o 2 rfl).tris (gY hs.um)) (by omega)) ?_;rintro v u e ⟨us11,⟨A11,c11,n11,hn11,rfl,hN⟩,hsub11,hle11⟩;replace m:=m.newO e hN;clear e hN;subst hn11;refine aD (⟨m.sel [false,false,true,true,true,true,true,true],?_⟩);refine eP (by simp only[zw];rfl) ?_;simp only[zz];refine eC m 0 rfl rfl cC jZ rfl (by decide) rfl rfl rfl (m.b 1 rfl).rowsO (sA rfl) (by omega) (by omega) ?_;clear m;intro A11 cap11 u m;simp only[zF,zG] at m;rw [show us11.flatMap aX ++ _ = (us11 ++ [t]).flatMap aX by rw [List.flatMap_append];rfl] at m;have hll : us11.length + 1 = (us11 ++ [t]).length:=by simp
  rw [hll] at m;rw [hll];refine aD (⟨m.sel [false,false,true,true,true,true,true,true],?_⟩);refine dR (by simp only[zw];rfl) (aW (aF) (dF (nP ?_)));simp only[zz];have hIx : ∀ u ∈ us11 ++ [t],IT u:=fun u hu=>(List.mem_append.1 hu).elim (gY (fun x hx=>hs.um x (Lp hsub11 x hx)) u) fun h=>by obtain rfl:=List.mem_singleton.1 h;infer_instance
  have hxl : (us11 ++ [t]).length ≤ 1000:=by simp;omega
  have hbX:=uY hIx (by omega);have hbB:=uY (gY hs.lm) (by omega);have hbC:=uY (gY hs.um) (by omega);refine k4 _ _ ?_;refine aC fun K9 k9=>wp_region_lit (aA (aB) (aA (aB) ?_));simp only[zz];refine fF m rfl rfl (nF _ ((m.o 0 rfl).tris hIx) ((m.o 4 rfl).tris (gY hs.lm)) (by omega) (by omega)) ?_;clear m;rintro v u m rfl;simp only[zz];refine aY m cL rfl ?_;clear m;intro g5 u m;simp only[zz];refine aQ m 0 rfl rfl rfl aO (dH rfl) rfl ?_;clear m;intro u m;simp only[zy,zx,bB,zF,zG,Nat.reduceAdd] at m;refine aD (k9 _ _ ?_);refine aC fun K10 k10=>wp_region_lit (aA (aB) (aA (aB) ?_));simp only[zz];refine fF m rfl rfl (nF _ ((m.o 5 rfl).tris (gY hs.lm)) ((m.o 4 rfl).tris (gY hs.um)) (by omega) (by omega)) ?_;clear m;rintro v u m rfl;simp only[zz];refine aY m cL rfl ?_;clear m;intro g6 u m;simp only[zz];refine aQ m 0 rfl rfl rfl aO (dH rfl) rfl ?_;clear m;intro u m;simp only[zy,zx,bB,zF,zG,Nat.reduceAdd] at m;refine aD (k10 _ _ ?_);refine aC fun K11 k11=>wp_region_lit (aA (aB) (aA (aB) ?_));simp only[zz];refine fF m rfl rfl (nF _ ((m.o 2 rfl).tris hIx) ((m.o 5 rfl).tris (gY hs.um)) (by omega) (by omega)) ?_;clear m;rintro v u m rfl;simp only[zz];refine aY m cL rfl ?_;clear m;intro g7 u m;simp only[zz];refine aQ m 0 rfl rfl rfl aO (dH rfl) rfl ?_;clear m;intro u m;simp only[zy,zx,bB,zF,zG,Nat.reduceAdd] at m;refine aD (k11 _ _ ?_);refine aC fun K12 k12=>?_;refine mh m [true,true,true,true,true,true,true,true,true,true,true] [(0,true),(1,true),(3,true),(4,true),(2,true),(5,false),(6,true),(7,true),(8,true),(10,true),(11,true),(9,true),(12,false),(13,true),(14,true),(15,true),(16,true),(17,true),(19,true),(18,false),(20,true),(21,true),(22,true),(23,true),(24,true),(26,true),(25,false),(27,true),(28,true),(29,true)] aP (by kernel_rfl) (dB (fun _ _ _ _ _ h=>h)) (ol:=?_) ?hol ?_
  case hol=>simp only[zw,zQ,zR];try rfl
  clear m;intro u m;refine aW (aB) (aW (aB) (eV rfl (aW (aB) (eV rfl (aW (aB) ?_)))));simp only[zz];refine eV rfl (bQ rfl (fun u m=>((m.b 2 rfl).full bG aO)) ?_);simp only[zz];refine bU (bM rfl (fF m rfl rfl (xI _ ((m.o 3 rfl).tris hIx) ((m.o 7 rfl).tris (gY hs.lm)) (by omega) (by omega)) ?_));clear m;rintro v u m rfl;refine aD (⟨m,?_⟩);refine eV rfl (aW (xL (lG rfl rfl) (oU (decide_eq_true ⟨rfl,rfl⟩))) (aW (eF rfl) (aW (aB) ?_)));simp only[zz];refine eV rfl (aW (aB) (eV rfl (aW (aB) (eV rfl ?_))));simp only[zz];refine bQ rfl (fun u m=>((m.b 1 rfl).full bG aO)) ?_;simp only[zz];refine bU (bM rfl (fF m rfl rfl (xI _ ((m.o 7 rfl).tris (gY hs.lm)) ((m.o 6 rfl).tris (gY hs.um)) (by omega) (by omega)) ?_));clear m;rintro v u m rfl;refine aD (⟨m,?_⟩);refine eV rfl (aW (xL (lG rfl rfl) (oU (decide_eq_true ⟨rfl,rfl⟩))) (aW (eF rfl) (aW (aB) ?_)));simp only[zz];refine eV rfl (bQ rfl (fun u m=>((m.b 2 rfl).full bG aO)) ?_);simp only[zz];refine eV rfl (bQ rfl (fun u m=>((m.b 1 rfl).full bG aO)) ?_);simp only[zz];refine eV rfl (bQ rfl (fun u m=>((m.b 0 rfl).full bG aO)) ?_);simp only[zz];refine bU (bM rfl (cW m rfl rfl (yG (a:=jR uM (us11 ++ [t]) - jR uM (lY kind bits zs)) (b:=jR uM (lY kind bits zs) - jR uM us) ((hbX.sub hbB).mono (by decide)) ((hbB.sub hbC).mono (by decide))) ?_));clear m;intro u m;refine aD (⟨m,?_⟩);refine eV rfl (aW (xL (lG rfl rfl) (oU (decide_eq_true (Bn.2 (by omega))))) (aW (eF rfl) (aW (aB) ?_)));simp only[zz];refine eV rfl (aW (aB) (eV rfl (aW (aB) (eV rfl (aW (oZ) (bU (bM rfl ?_)))))));simp only[zz];refine fF m rfl rfl (nF _ ((m.o 3 rfl).tris hIx) ((m.o 3 rfl).tris hIx) (by omega) (by omega)) ?_;clear m;rintro v u m rfl;refine aD (⟨m,?_⟩);refine eV rfl (aW (xL (lG rfl rfl) (oU (decide_eq_true (by rw [Int.sub_self];exact ⟨rfl,xO⟩)))) (aW (eF rfl) (aW (aF) ?_)));simp only[zz];refine dF (k12 _ _ ?_);refine wp_ret ?_;try simp only[Exit.inBlock,Exit.then,if_true]
  refine bP rfl rfl ?_;try simp only[zD,zE]
  exact ⟨_,rfl,m.ext,rfl⟩
end Go.Proofs.YtfohfflkhpfjeaaGreatDoor
namespace Go.Lith
open Go.RowKit Go.ChangeShapes
variable {H : Type} {enc : TypeId × Value → H} {P : Program}
theorem yW (hl : laidOutB P = true) {W W' : World} (hb : cZ W W') {sp : Nat → Bool} :
 ∀ {ts : List TypeId} {vs : List Value} {ds : List (DataW H)} {ps : List MemPlace},(ts.all fun t=>P.readableRec t && decide (t < P.types.size)) = true → DataW.TrodAll enc P W 0 (fun _=>true) true ts vs ds ps → (∀ p ∈ ps,sp p.block = true) → DataW.TrodAll enc P W' 0 sp true ts vs ds ps
 | [],[],[],_,_,h,_=>h
 | [],[],_ :: _,_,_,h,_=>h.elim
 | [],_ :: _,_,_,_,h,_=>h.elim
 | _ :: _,[],_,_,_,h,_=>h.elim
 | _ :: _,_ :: _,[],_,_,h,_=>h.elim
 | t :: ts,v :: vs,d :: ds,ps,hv,h,hs=>by
  obtain ⟨p,q,⟨n,h1⟩,h2,e⟩:=h;subst e;simp only[List.all_cons,Bool.and_eq_true,decide_eq_true_eq] at hv;have hlt:=DataW.trod_lt n _ _ _ h1;exact ⟨p,q,⟨n,DataW.trod_stays (kids_book hl hv.1.1) (book_sized hv.1.1) (fun h=>by cases h) ⟨hv.1.2,book_self t⟩ h1 (fun x hx=>Below.same hb (hlt x hx)) (fun x hx=>hs x (by simp [hx]))⟩,
   yW hl hb (by simpa using hv.2) h2 (fun x hx=>hs x (by simp [hx])),rfl⟩
theorem Ls {f : Func} {s : ChangeSpec} {apart fresh handsOn again : Bool} {W W' : World} {args : Array Value} {t : TypeId} {ds gs : List (DataW H)} {before : List MemPlace}
 (hl : laidOutB P = true) (hps : (f.params.toList.all fun t=>P.readableRec t && decide (t < P.types.size)) = true) (hv : s.vars = []) (hr : f.resultTypes = #[t]) (hu : P.underlying t = some .bool)
 (hW : DataW.Whole enc P f.params.toList s.vars apart W args.toList ds gs before) (hfn : (s.fn H (ds ++ gs)).results = [.lit (.bool true)] ∧ (s.fn H (ds ++ gs)).args = ds ∧ (s.fn H (ds ++ gs)).vars = []) (hb : cZ W W') :
 s.post enc P f apart fresh handsOn again W args (.bool true) W':=by
 have hW0:=hW;obtain ⟨p,q,hA,hV,rfl,hz,hn⟩:=hW0;rw [hv] at hV;obtain ⟨rfl,rfl⟩:=trodVars_none hV;have hargs : ∀ sp : Nat → Bool,(∀ x ∈ p ++ [],sp x.block = true) → DataW.TrodAll enc P W' 0 sp true f.params.toList args.toList (s.fn H (ds ++ [])).args p:=fun sp hsp=>by
  rw [hfn.2.1];exact yW hl hb hps hA (fun x hx=>hsp x (by simp [hx]))
 have hvars : ∀ sp : Nat → Bool,DataW.TrodVars enc P W' sp s.vars (s.fn H (ds ++ [])).vars []:=fun sp=>by
  rw [hv,hfn.2.2];exact rfl
 have hres : ∀ (b : Nat) (sp : Nat → Bool) (hd : Bool),DataW.TrodAll enc P W' b sp hd f.resultTypes.toList ((Value.bool true).resultList f.resultTypes.size) (s.fn H (ds ++ [])).results []:=fun b sp hd=>by
  rw [hr,hfn.1];exact trodAll_cons_mk (shut_bool hu true) trodAll_mk0
 have hok : ∀ (j : Nat) (t : TypeId) (r : Value),f.resultTypes[j]? = some t → ((Value.bool true).resultList f.resultTypes.size)[j]? = some r → Value.okWide P W' .any 0 t r:=ok_one hr rfl (okWide_bool_mk hu _);have hlt : ∀ x ∈ p ++ [],x.block < W.heap.size:=hW.lt;have hold : ∀ x ∈ p ++ [],(fun b=>decide (b < W.heap.size)) x.block = true:=fun x hx=>by simpa using hlt x hx
 refine ⟨ds,[],p ++ [],[],p,[],hW,hres _ _ _,hargs _ hold,hvars _,Below.frame hb _,fun _=>?_⟩;refine ⟨hok,_,_,([] ++ p) ++ [],⟨[] ++ p,[],trodAll_append (hargs _ (fun _ _=>rfl)) (hres _ _ _),hvars _,rfl,?_,?_⟩,?_⟩
 · intro b off hp
   have h1 : MemPlace.cell b off ∈ p ++ []:=by simpa using hp
   rw [Below.frozen hb (p:=⟨b,off,none⟩) (hlt _ h1)];exact hz b off h1
 · intro ha
   simpa using hn ha
 · intro x hp _
   simpa using hp
end Go.Lith
namespace Go.Proofs.YtfohfflkhpfjeaaGreatDoor.witnessDelta
open Go.Proofs.Tryz
open Go.ChangeShapes Go.WideShapes Go.ChangeAt Go.RowKit Go.Lith
set_option maxRecDepth 100000
theorem own : ownKnob prog.godebug = none:=by kernel_rfl
theorem laidOut : laidOutB prog = true:=by kernel_rfl
theorem contract (H : Type) (enc : TypeId × Value → H) (W : World) (base : Nat) (args : Array Value) (ds gs : List (DataW H)) (before : List MemPlace)
 (hval : ∀ (j : Nat) t v,Tryz.f10.params[j]? = some t → args[j]? = some v → Value.okWide prog W .any base t v)
 (hW : DataW.Whole enc prog Tryz.f10.params.toList Rows.witnessDeltaSpec.vars false W args.toList ds gs before) :
 Calls prog 10 args W fun e W'=>∃ v,e = .returned v ∧ Rows.witnessDeltaSpec.post enc prog Tryz.f10 false true false false W args v W':=by
 have hW':=hW;obtain ⟨p,q,hA,hV,rfl,hfz,hnd⟩:=hW;rw [params10] at hA hval;obtain ⟨v0,vs0,d0,ds0,p0,q0,e0,rfl,rfl,h0,r0⟩:=trodAll_cons hA;obtain ⟨v1,vs1,d1,ds1,p1,q1,e1,rfl,rfl,h1,r1⟩:=trodAll_cons r0;obtain ⟨v2,vs2,d2,ds2,p2,q2,e2,rfl,rfl,h2,r2⟩:=trodAll_cons r1;obtain ⟨rfl,rfl,rfl⟩:=trodAll_nil r2;subst e2;subst e1;obtain rfl : args = #[v0,v1,v2]:=by cases args;simp_all
 obtain ⟨rfl,rfl⟩:=trodVars_none hV;obtain ⟨kind,bits,HA,DA,HN,Hc,DN,Dc,zs,qs,rfl,i0,i1,hZ,hQ,hI⟩:=Lr (n:=5) (tI:=3) (tH:=22) (tM:=23) (tT:=80) Fk (by kernel_rfl) (by kernel_rfl) (by kernel_rfl) (by kernel_rfl) bY (by kernel_rfl) wJ (by kernel_rfl) (by kernel_rfl) (by kernel_rfl) (hval 0 25 v0 rfl rfl) h0;obtain ⟨x10,x11,x12,y10,y11,y12,rfl⟩:=aaF Vs (n:=5) (by kernel_rfl) (by kernel_rfl) (hval 1 26 v1 rfl rfl) h1;obtain ⟨a2,ia2,rfl⟩:=Zf eJ (n:=5) (by kernel_rfl) (by kernel_rfl) (hval 2 53 v2 rfl rfl) h2;refine (Dv W hZ hQ hI).2.mono ?_;rintro e W' ⟨v,rfl,hE,rfl⟩;exact ⟨_,rfl,Ls laidOut (by kernel_rfl) rfl rfl Mq hW' ⟨rfl,rfl,rfl⟩ hE⟩
def accepts : List Value:=[128,191,160,191,128,159,144,191,128,143,0,0,0,0,0,0,0,0,0,0,0,0,0,0,0,0,0,0,0,0,0,0].map fun n=>.int .u8 n
def firsts : List Value:=Go.Pinned.utf8FirstZ.map fun (n : Nat)=>Value.int .u8 (n : Int)
def relaid (cs : List Value) : Obj → Obj
 | .cells _ t frozen=>.cells cs.toArray t frozen
 | o=>o
noncomputable def laidWorld (os : Os) : World :=
 { World.holding prog os ⟨#[],#[],[]⟩ with heap:=((World.holding prog os ⟨#[],#[],[]⟩).heap.modify 0 (relaid firsts)).modify 1 (relaid accepts) }
def inp : Array Value:=#[.agg #[.int .i64 0,.int .i64 0,.slice none 0 0,.slice none 0 0],.agg #[.int .i64 0,.int .i64 0,.int .i64 0],.agg #[.int .i64 0,.int .i64 0,.int .i64 0,.int .i64 0,.int .i64 0,.int .i64 0,.int .i64 0,.int .i64 0,.int .i64 0]]
theorem laid_met (os : Os) : laidMet prog Rows.witnessDeltaRow.laid ((laidWorld os).forCall (fun _ _=>0) ⟨#[],inp,[]⟩).memory :=
 laidMet_of_run' 8 (by kernel_rfl) (by kernel_rfl)
theorem reads (os : Os) {H : Type} (enc : TypeId × Value → H) : ∃ places,DataW.whole enc prog ((laidWorld os).forCall (fun _ _=>0) ⟨#[],inp,[]⟩).memory Tryz.f10.params.toList Rows.witnessDeltaSpec.vars false inp.toList 8 = some ([.agg [.lit (.int .i64 0),.lit (.int .i64 0),.nil,.nil],.agg [.lit (.int .i64 0),.lit (.int .i64 0),.lit (.int .i64 0)],.agg [.agg [.lit (.int .i64 0),.lit (.int .i64 0),.lit (.int .i64 0)],.agg [.lit (.int .i64 0),.lit (.int .i64 0),.lit (.int .i64 0)],.agg [.lit (.int .i64 0),.lit (.int .i64 0),.lit (.int .i64 0)]]],[],places) :=
 ⟨[],by kernel_rfl⟩
theorem lifted (os : Os) (started : os.Started) (H : Type) (enc : TypeId × Value → H) (F : Stop.Interp) :
 ReturnsInHanded {} checked os 10 .any ((OpenSpec.ofChange Rows.witnessDeltaSpec).preRow enc prog Tryz.f10 Rows.witnessDeltaRow.domain false Rows.witnessDeltaRow.laid) (((OpenSpec.ofChange Rows.witnessDeltaSpec).at F).post enc prog Tryz.f10 false true false false):=by
 obtain ⟨places,hx⟩:=reads os enc;refine returnsInHanded_of_row (C:=checked) (s:=OpenSpec.ofChange Rows.witnessDeltaSpec) own started (by kernel_rfl) func10
  (witness_row_at (enc:=enc) (C:=checked) false (laidWorld os) inp rfl (by kernel_rfl) (by kernel_rfl) (by kernel_rfl)
   (OpenSpec.preRow_of_cond 8 hx (by kernel_rfl) (fun k hk=>by cases hk) (by kernel_rfl) (laid_met os))) ?_
 intro W base args ds gs before hval hW _ _ _ hL _ _;exact contract H enc W base args ds gs before hval hW
theorem said : Rows.WitnessDeltaSaid :=
 OpenClaim.holds_of_cond 10 Tryz.f10 rfl rfl rfl rfl rfl rfl rfl ⟨rfl,rfl,rfl,rfl,rfl⟩ rfl rfl rfl rfl rfl (by kernel_rfl) func10 (by kernel_rfl)
  (of_decide_eq_true (by kernel_rfl)) (by unfold Func.isWrapper;first | (rw [if_pos (by decide +kernel)];kernel_rfl) | (rw [if_neg (by decide +kernel)];exact ⟨rfl,rfl⟩))
  (fun os started H enc _ F=>by rw [OpenClaim.pre_eq_preRow];exact lifted os started H enc F)
theorem plain (f : FuncId) (fn : Func) (hf : Tryz.pinned.checked.prog.funcNamed Rows.witnessDeltaRow.func = some f) (hfn : Tryz.pinned.checked.prog.funcs[f]? = some fn) :
 false = Tryz.pinned.checked.prog.looks [] ∧ ∀ (j : Nat) t,fn.params[j]? = some t → Tryz.pinned.checked.prog.wantsStandIn t = false:=by
 obtain rfl : f = 10:=Option.some.inj ((show prog.funcNamed Rows.witnessDeltaRow.func = some 10 by kernel_rfl).symm.trans hf) |>.symm
 obtain rfl : fn = Tryz.f10:=(Option.some.inj (func10.symm.trans hfn)).symm;refine ⟨by kernel_rfl,fun j t ht=>?_⟩;rw [params10] at ht;have hm : t ∈ [25,26,53]:=by simpa using Array.mem_of_getElem? ht
 have hall : ([25,26,53].all fun u=>!prog.wantsStandIn u) = true:=by kernel_rfl
 exact (show prog.wantsStandIn t = false by simpa using List.all_eq_true.1 hall t hm)
theorem card : Rows.WitnessDeltaCardSaid :=
 Claim7.holds_tied_plain_at .later [] _ _ _ _ said (fun _ h=>by cases h) (by kernel_rfl) (fun _ h=>by cases h) witnessDelta_row_tie rfl ⟨rfl,rfl⟩ (by kernel_rfl) rfl plain (by kernel_rfl)
end Go.Proofs.YtfohfflkhpfjeaaGreatDoor.witnessDelta
