/-
 Texts of one claim, laid together: RayC, Chk, RayX, RayD, RayW, RayZ, Join, Open3.
-/
import Derived.OpenVars
import Derived.OpenShut
import Derived.WalkKit
import Derived.ProofKit
import Derived.Test.YtimjandkmfcmiaaGreatDoorTO6
set_option maxHeartbeats 8000000
set_option linter.unusedSimpArgs false
set_option linter.unusedVariables false
set_option linter.unusedSectionVars false
namespace Go.Proofs.YtimjandkmfcmiaaGreatDoor
open Go.RowKit Go.Lith
set_option maxRecDepth 100000
attribute [local irreducible] wpList wpQuiet dV dK dI Code.wp
theorem oN {n : Int} (h : kW n) : IntKind.i64.wrap n = n:=aL h.1 h.2
theorem Ar {n : Nat} {T : List T3} {i : Nat} {l : List T3} {P : T3 → Prop} (h : ∀ t ∈ T,P t) (hl : (fD n 30 T)[i]? = some l) : ∀ t ∈ l,P t:=fun t ht=>h t (xE (List.mem_of_getElem? hl) t ht)
def Na (zs : List Int) (i n : Nat) : List Go.Value:=(List.range i).map (fun j=>.int .i64 (jP zs j)) ++ List.replicate (n - i) (.int .i64 0)
theorem Mz {zs : List Int} {i n : Nat} (h : i < n) : a8 (Na zs i n) i [.int .i64 (jP zs i)] = Na zs (i + 1) n:=by
 unfold a8 Na;rw [List.take_append_of_le_length (by simp),List.take_of_length_le (by simp),List.range_succ,List.map_append,List.append_assoc,List.append_assoc]
 congr 1
 rw [List.drop_append];simp only[List.length_map,List.length_range,List.length_cons,List.length_nil,List.map_cons,List.map_nil,List.cons_append,List.nil_append]
 congr 1
 rw [List.drop_of_length_le (by simp),List.nil_append,show i + (0 + 1) - i = 1 by omega,List.drop_replicate]
 congr 1
theorem Pu {zs : List Int} {i n : Nat} (h : i ≤ n) : (Na zs i n).length = n:=by
 simp [Na]; omega
theorem Pv {zs : List Int} {n : Nat} : Na zs n n = (gG n zs).map (Value.int .i64 ·):=by
 simp [Na,gG]
theorem M0 {n : Nat} : Na [] 0 n = (gG n []).map (Value.int .i64 ·):=by
 symm
 show (gG n []).map _ = [] ++ List.replicate (n - 0) _
 rw [List.nil_append,Nat.sub_zero];refine List.eq_replicate_iff.2 ⟨by simp [gG],fun b hb=>?_⟩;obtain ⟨z,hz,rfl⟩:=List.mem_map.1 hb;obtain ⟨i,_,rfl⟩:=List.mem_map.1 hz;rfl
theorem Ix {α : Type} (ts : List α) (m : Nat) : ts.take (min m ts.length) = ts.take m:=by
 rcases Nat.le_total m ts.length with h | h
 · rw [Nat.min_eq_left h]
 · rw [Nat.min_eq_right h,List.take_length,List.take_of_length_le h]
theorem Iy {α : Type} (ts : List α) (m : Nat) : ts.drop (min m ts.length) = ts.drop m:=by
 rcases Nat.le_total m ts.length with h | h
 · rw [Nat.min_eq_left h]
 · rw [Nat.min_eq_right h,List.drop_length,List.drop_of_length_le h]
theorem Iz {L : Cu} {A : Option Addr} {N cap m : Nat} {ts : List T3} (s : kV L ⟨A,N,cap⟩ ts) (hN : N = ts.length) : kV L ⟨A,min m N,cap⟩ (ts.take m):=by
 have:=s.take (k:=min m N) (Nat.min_le_right _ _);subst hN;rwa [Ix] at this
theorem I0 {L : Cu} {A : Option Addr} {N cap m : Nat} {ts : List T3} (s : kV L ⟨A,N,cap⟩ ts) (hN : N = ts.length) : kV L ⟨if cap = min m N then A else A.map (·.add (min m N * 9)),N - min m N,cap - min m N⟩ (ts.drop m):=by
 have:=s.drop (k:=min m N) (Nat.min_le_right _ _);subst hN;rwa [Iy] at this
theorem M1 {A : Option Addr} {ts : List T3} {n cap : Nat} (hn : n = ts.length) (hi : ∀ t ∈ ts,IT t) (hc : n ≤ cap) : kV [(A,ts.flatMap bV)] ⟨A,n,cap⟩ ts:=by
 subst hn;exact kV.one hi hc
theorem Pw (i n : Nat) : ((i : Int) * (i : Int) + (i : Int)).tmod (n : Int) = (((i * i + i) % n : Nat) : Int):=rfl
theorem Qu {t : T3} {v : P3} {b : Int} (h : Ek 200 t) (hv : (-b ≤ v.x ∧ v.x ≤ b) ∧ (-b ≤ v.y ∧ v.y ≤ b) ∧ (-b ≤ v.z ∧ v.z ≤ b)) (hb : b ≤ 49) : IT (t.sh v):=by
 obtain ⟨⟨a1,a2,a3⟩,⟨b1,b2,b3⟩,⟨c1,c2,c3⟩⟩:=h;refine ⟨⟨⟨?_,?_⟩,⟨?_,?_⟩,⟨?_,?_⟩⟩,⟨⟨?_,?_⟩,⟨?_,?_⟩,⟨?_,?_⟩⟩,⟨⟨?_,?_⟩,⟨?_,?_⟩,⟨?_,?_⟩⟩⟩ <;> (simp only[T3.sh,P3.sh]; omega)
theorem Px {n k : Nat} {l : List T3} : (fD n k l).flatten.length ≤ k * n:=by
 induction k generalizing l with
 | zero=>simp [fD]
 | succ k ih =>
  unfold fD;split
  · simp
  ·
   rw [List.flatten_cons,List.length_append,List.length_take,Nat.succ_mul];have:=ih (l:=l.drop n);omega
theorem Py {ts : List T3} {N cap : Nat} {A : Option Addr} {v : P3} (w : World) (hT : cJ w A N ts) (hI : ∀ t ∈ ts,IT (t.sh v)) (hN : N ≤ 100000) : gD Tryz.prog 24 [.slice A N cap,pt v] w (TS 58 (ts.map (T3.sh v)) w):=by
 refine ⟨T6,?_⟩;have m:=bU.refl w;have htl:=hT.len
 go_enter Tryz.func24,Tryz.ntmps24
 refine aF fun K1 k1=>wp_region_lit (dJ m rfl ?_);clear m; intro g1 u m;refine aA (aD) (aC (k1 _ _ ?_));refine aF fun K2 k2=>wp_region_lit (aA (aD) ?_);replace m:=m.nilO 58 9;refine aC (k2 _ _ ?_);refine aF fun K3 k3=>aF fun K4 k4=>wp_region_lit (aA (aD) ?_);simp only[ev,zD,zE,zF,zG];refine aC (k4 _ _ ?_);refine wp_block ?_;try simp only[Nat.zero_add,Nat.reduceAdd,Nat.reduceMul,Int.reduceToNat]
 refine cX [5,6] [7,8,9,10,11,12,13,14,15,16,17,18,19,20,21,22,23,24,25,26,27,28,29,30,31,32,33,34,35,36,37,38,39,40,41,42,43,44,45,46,47,48,49,50] (fun n vs wl=>∃ (k cap5 : Nat) (A5 : Option Addr),vs = [.slice A5 k cap5,.int .i64 (k:Int)] ∧ bU w wl [oI 58 9 A5 k cap5 (((ts.take k).map (T3.sh v)).flatMap bV),bI g1 [.int .i64 v.x,.int .i64 v.y,.int .i64 v.z] 56] ∧ (k ≤ N) ∧ (n = N - k)) ?_ ?_
 ·
  apply Exists.intro;simp only[zQ,zR,zD,zE];exact ⟨0,_,_,rfl,m,Nat.zero_le _,rfl⟩
 ·
  intro n vs wr hI u;clear m;obtain ⟨k,cap5,A5,rfl,m,hk,hn⟩:=hI;simp only[aK,aQ,aM,aP,zF,zG];refine aF fun K5 k5=>aF fun K6 k6=>wp_region_lit (aA (aB) (aA (aB) (aA (bM rfl Tryz.underlying48 rfl) (aA (dS rfl rfl) ?_))));simp only[ev,zD,zE,zF,zG];refine aC (k6 _ _ ?_);refine cK rfl (fun hc1=>?_) (fun hc1=>?_)
  ·
   obtain ⟨t,ht,_,a,rfl,hrow⟩:=hT.get (i:=k) (by omega);have hIt:=hI t (List.mem_of_getElem? ht);refine wp_skip (k5 _ _ ?_);refine aF fun K7 k7=>wp_block (aF fun K8 k8=>wp_region_lit (aA (aB) (aA (aB) ?_)));simp only[ev,zD,zE,zF,zG];refine aA (aT Tryz.underlying48 eS rfl rfl (by omega) (by omega) (vY (Int.toNat_natCast _))) ?_;simp only[ev,zD,zE,zF,zG];refine aI rfl ((hrow.ext m.ext).lies l5 eS) ?_;simp only[ev,zD,zE,zF,zG];refine bN m u5 rfl ?_;clear m; intro g2 u m;simp only[ev,zD,zE,zF,zG];refine aV m 0 rfl rfl rfl eS (b9 rfl) rfl ?_;clear m; intro u m; simp only[a8,zH,zI,zJ,zK,zL,zM,zN,zO,zP,zF,zG,Nat.reduceAdd] at m;refine aC (k8 _ _ ?_);refine aF fun K9 k9=>aF fun K10 k10=>wp_region_lit (aA (aD) (aC (k10 _ _ ?_)));refine wp_block (wp_loop_rounds 4 (dA (aF fun K11 k11=>aF fun K12 k12=>wp_region_lit (aA (aB) (aA (bR (m:=0) (n:=3) rfl rfl (by decide)) (aC (k12 _ _ ?_)))))));refine bS rfl (wp_skip (k11 _ _ ?_));refine aF fun K13 k13=>wp_block ?_;simp only[ev,zD,zE,zF,zG];refine dQ m 24 aU (by kernel_rfl) ?_;simp only[zH,zI,zJ,zK];refine aR (aB) (aR (aB) (aR (aJ Tryz.underlying58 aN rfl rfl (by decide) (by decide) rfl) (aR (aG (c:=0) Tryz.underlying56 rfl aO rfl rfl) ?_)));simp only[ev,zD,zE,zF,zG];refine ql rfl (fun u m=>((m.b 0 rfl).lies1 aZ rfl)) ?_;simp only[ev,zD,zE,zF,zG];refine aR (aG (c:=0) Tryz.underlying56 rfl aO rfl rfl) ?_;simp only[ev,zD,zE,zF,zG];refine ql rfl (fun u m=>((m.b 2 rfl).lies1 aZ rfl)) ?_;simp only[ev,zD,zE,zF,zG];refine aR (aX rfl rfl (oN (n:=t.a.x + v.x) hIt.a.x)) (aR (aB) (aR (aJ Tryz.underlying58 aN rfl rfl (by decide) (by decide) rfl) (aR (aG (c:=0) Tryz.underlying56 rfl aO rfl rfl) ?_)));simp only[ev,zD,zE,zF,zG];refine ql rfl (fun u m=>((m.b 0 rfl).lies1 aZ rfl)) ?_;simp only[ev,zD,zE,zF,zG];refine aR (aG (c:=0) Tryz.underlying56 rfl aO rfl rfl) ?_;simp only[ev,zD,zE,zF,zG];refine ql rfl (fun u m=>((m.b 2 rfl).lies1 aZ rfl)) ?_;simp only[ev,zD,zE,zF,zG];refine aR (aX rfl rfl (oN (n:=t.a.y + v.y) hIt.a.y)) (aR (aB) (aR (aJ Tryz.underlying58 aN rfl rfl (by decide) (by decide) rfl) (aR (aG (c:=0) Tryz.underlying56 rfl aO rfl rfl) ?_)));simp only[ev,zD,zE,zF,zG];refine ql rfl (fun u m=>((m.b 0 rfl).lies1 aZ rfl)) ?_;simp only[ev,zD,zE,zF,zG];refine aR (aG (c:=0) Tryz.underlying56 rfl aO rfl rfl) ?_;simp only[ev,zD,zE,zF,zG];refine ql rfl (fun u m=>((m.b 2 rfl).lies1 aZ rfl)) ?_;simp only[ev,zD,zE,zF,zG];refine aR (aX rfl rfl (oN (n:=t.a.z + v.z) hIt.a.z)) (aR (bL rfl rfl rfl) (aR (aJ Tryz.underlying58 aN rfl rfl (by decide) (by decide) rfl) (dW ?_)));clear m; intro u m;simp only[ev,zD,zE,zF,zG];refine aV m 0 rfl rfl rfl aN (b9 rfl) rfl ?_;clear m; intro u m; simp only[a8,zH,zI,zJ,zK,zL,zM,zN,zO,zP,zF,zG,Nat.reduceAdd] at m;refine aC (k13 _ _ ?_);refine wp_region_lit (aA (aB) (aA (aX (m:=0) (n:=1) (r:=1) rfl rfl (by decide)) (aA (aD) (aC (a7 (aF fun K14 k14=>aF fun K15 k15=>wp_region_lit (aA (aB) ?_)))))));simp only[ev,zD,zE,zF,zG];refine aA (bR (m:=1) (n:=3) rfl rfl (by decide)) (aC (k15 _ _ ?_));refine bS rfl (wp_skip (k14 _ _ ?_));refine aF fun K16 k16=>wp_block ?_;simp only[ev,zD,zE,zF,zG];refine dQ m 24 aU (by kernel_rfl) ?_;simp only[zH,zI,zJ,zK];refine aR (aB) (aR (aB) (aR (aJ Tryz.underlying58 aN rfl rfl (by decide) (by decide) rfl) (aR (aG (c:=0) Tryz.underlying56 rfl aO rfl rfl) ?_)));simp only[ev,zD,zE,zF,zG];refine ql rfl (fun u m=>((m.b 0 rfl).lies1 aZ rfl)) ?_;simp only[ev,zD,zE,zF,zG];refine aR (aG (c:=0) Tryz.underlying56 rfl aO rfl rfl) ?_;simp only[ev,zD,zE,zF,zG];refine ql rfl (fun u m=>((m.b 2 rfl).lies1 aZ rfl)) ?_;simp only[ev,zD,zE,zF,zG];refine aR (aX rfl rfl (oN (n:=t.b.x + v.x) hIt.b.x)) (aR (aB) (aR (aJ Tryz.underlying58 aN rfl rfl (by decide) (by decide) rfl) (aR (aG (c:=0) Tryz.underlying56 rfl aO rfl rfl) ?_)));simp only[ev,zD,zE,zF,zG];refine ql rfl (fun u m=>((m.b 0 rfl).lies1 aZ rfl)) ?_;simp only[ev,zD,zE,zF,zG];refine aR (aG (c:=0) Tryz.underlying56 rfl aO rfl rfl) ?_;simp only[ev,zD,zE,zF,zG];refine ql rfl (fun u m=>((m.b 2 rfl).lies1 aZ rfl)) ?_;simp only[ev,zD,zE,zF,zG];refine aR (aX rfl rfl (oN (n:=t.b.y + v.y) hIt.b.y)) (aR (aB) (aR (aJ Tryz.underlying58 aN rfl rfl (by decide) (by decide) rfl) (aR (aG (c:=0) Tryz.underlying56 rfl aO rfl rfl) ?_)));simp only[ev,zD,zE,zF,zG];refine ql rfl (fun u m=>((m.b 0 rfl).lies1 aZ rfl)) ?_;simp only[ev,zD,zE,zF,zG];refine aR (aG (c:=0) Tryz.underlying56 rfl aO rfl rfl) ?_;simp only[ev,zD,zE,zF,zG];refine ql rfl (fun u m=>((m.b 2 rfl).lies1 aZ rfl)) ?_;simp only[ev,zD,zE,zF,zG];refine aR (aX rfl rfl (oN (n:=t.b.z + v.z) hIt.b.z)) (aR (bL rfl rfl rfl) (aR (aJ Tryz.underlying58 aN rfl rfl (by decide) (by decide) rfl) (dW ?_)));clear m; intro u m;simp only[ev,zD,zE,zF,zG];refine aV m 0 rfl rfl rfl aN (b9 rfl) rfl ?_;clear m; intro u m; simp only[a8,zH,zI,zJ,zK,zL,zM,zN,zO,zP,zF,zG,Nat.reduceAdd] at m;refine aC (k16 _ _ ?_);refine wp_region_lit (aA (aB) (aA (aX (m:=1) (n:=1) (r:=2) rfl rfl (by decide)) (aA (aD) (aC (a7 (aF fun K17 k17=>aF fun K18 k18=>wp_region_lit (aA (aB) ?_)))))));simp only[ev,zD,zE,zF,zG];refine aA (bR (m:=2) (n:=3) rfl rfl (by decide)) (aC (k18 _ _ ?_));refine bS rfl (wp_skip (k17 _ _ ?_));refine aF fun K19 k19=>wp_block ?_;simp only[ev,zD,zE,zF,zG];refine dQ m 24 aU (by kernel_rfl) ?_;simp only[zH,zI,zJ,zK];refine aR (aB) (aR (aB) (aR (aJ Tryz.underlying58 aN rfl rfl (by decide) (by decide) rfl) (aR (aG (c:=0) Tryz.underlying56 rfl aO rfl rfl) ?_)));simp only[ev,zD,zE,zF,zG];refine ql rfl (fun u m=>((m.b 0 rfl).lies1 aZ rfl)) ?_;simp only[ev,zD,zE,zF,zG];refine aR (aG (c:=0) Tryz.underlying56 rfl aO rfl rfl) ?_;simp only[ev,zD,zE,zF,zG];refine ql rfl (fun u m=>((m.b 2 rfl).lies1 aZ rfl)) ?_;simp only[ev,zD,zE,zF,zG];refine aR (aX rfl rfl (oN (n:=t.c.x + v.x) hIt.c.x)) (aR (aB) (aR (aJ Tryz.underlying58 aN rfl rfl (by decide) (by decide) rfl) (aR (aG (c:=0) Tryz.underlying56 rfl aO rfl rfl) ?_)));simp only[ev,zD,zE,zF,zG];refine ql rfl (fun u m=>((m.b 0 rfl).lies1 aZ rfl)) ?_;simp only[ev,zD,zE,zF,zG];refine aR (aG (c:=0) Tryz.underlying56 rfl aO rfl rfl) ?_;simp only[ev,zD,zE,zF,zG];refine ql rfl (fun u m=>((m.b 2 rfl).lies1 aZ rfl)) ?_;simp only[ev,zD,zE,zF,zG];refine aR (aX rfl rfl (oN (n:=t.c.y + v.y) hIt.c.y)) (aR (aB) (aR (aJ Tryz.underlying58 aN rfl rfl (by decide) (by decide) rfl) (aR (aG (c:=0) Tryz.underlying56 rfl aO rfl rfl) ?_)));simp only[ev,zD,zE,zF,zG];refine ql rfl (fun u m=>((m.b 0 rfl).lies1 aZ rfl)) ?_;simp only[ev,zD,zE,zF,zG];refine aR (aG (c:=0) Tryz.underlying56 rfl aO rfl rfl) ?_;simp only[ev,zD,zE,zF,zG];refine ql rfl (fun u m=>((m.b 2 rfl).lies1 aZ rfl)) ?_;simp only[ev,zD,zE,zF,zG];refine aR (aX rfl rfl (oN (n:=t.c.z + v.z) hIt.c.z)) (aR (bL rfl rfl rfl) (aR (aJ Tryz.underlying58 aN rfl rfl (by decide) (by decide) rfl) (dW ?_)));clear m; intro u m;simp only[ev,zD,zE,zF,zG];refine aV m 0 rfl rfl rfl aN (b9 rfl) rfl ?_;clear m; intro u m; simp only[a8,zH,zI,zJ,zK,zL,zM,zN,zO,zP,zF,zG,Nat.reduceAdd] at m;refine aC (k19 _ _ ?_);refine wp_region_lit (aA (aB) (aA (aX (m:=2) (n:=1) (r:=3) rfl rfl (by decide)) (aA (aD) (aC (a7 (aF fun K20 k20=>aF fun K21 k21=>wp_region_lit (aA (aB) ?_)))))));simp only[ev,zD,zE,zF,zG];refine aA (eW (m:=3) (n:=3) rfl rfl (by decide)) (aC (k21 _ _ ?_));refine eM rfl (wp_exit (k9 _ _ ?_));refine wp_region_lit (aA (aB) ?_);simp only[ev,zD,zE,zF,zG];refine aI rfl ((m.b 0 rfl).full l5 eS) ?_;simp only[ev,zD,zE,zF,zG];refine y9 rfl ?_;intro u g3 e hg hB; replace m:=m.newB e hg hB; clear e hg hB;simp only[ev,zD,zE,zF,zG];refine dU m 2 rfl rfl Tryz.underlying48 oA rfl (by decide) rfl rfl rfl (m.b 0 rfl).rowsO (kB rfl) (by omega) (by omega) ?_;clear m; intro A5 cap5 u m; simp only[zF,zG] at m;refine aA (aD) (aC (k7 _ _ ?_));refine wp_region_lit (aA (aB) ?_);simp only[ev,zD,zE,zF,zG];refine aA (aX rfl rfl (aL (by omega) (by omega))) (aA (aD) (aC ?_));simp only[ev,zD,zE,zF,zG];simp only[Exit.inBlock,Exit.then];refine ⟨N - (k + 1),_,?_,rfl,?_,?_⟩
   · omega
   · simp only[zQ,zR,zD,zE,aK,aQ,aM,aP,zF,zG]
   ·
    simp only[zQ,zR,zD,zE];exact ⟨k + 1,_,_,rfl,((m.reO 2 rfl ((m.o 2 rfl).as (by rw [Iv ht,List.map_append,List.flatMap_append]; rfl))).sel [false,false,true,true]),by omega,rfl⟩
  ·
   obtain rfl : k = N:=by omega
   rw [show ts.take k = ts from List.take_of_length_le (by omega)] at m;refine wp_exit (k3 _ _ ?_);refine aF fun K22 k22=>wp_region_lit (aA (aB) (aA (aD) (aC (k22 _ _ ?_))));refine wp_ret ?_;simp only[ev,zD,zE,zF,zG];try simp only[Exit.inBlock,Exit.then,if_true]
   refine bT rfl rfl ?_;try simp only[zD,zE]
   exact ⟨_,rfl,m.ext,⟨_,_,_,by rw [List.length_map]; exact htl.symm,rfl,(m.o 0 rfl)⟩⟩
theorem F4 {kind bits : Int} [Iw kind] [Iw bits] {q : Nat} {r : e8} [IR r] {HA ZA PA : Option Addr} {HN Hc ZN Zc PN Pc : Nat} {hz zs : List Int} {ss : List P3} (w : World) (hH : cT w HA HN hz) (hZ : cT w ZA ZN zs) (hP : Am Tf 3 w PA PN ss) (hq : q < 256) : gD Tryz.prog 19 [.agg #[.int .i64 kind,.int .i64 bits,.slice HA HN Hc,.int .u8 (q : Int),.slice ZA ZN Zc,.int .i64 r.s.x,.int .i64 r.s.y,.int .i64 r.s.z,.int .i64 r.w,.int .i64 r.d.x,.int .i64 r.d.y,.int .i64 r.d.z,.slice PA PN Pc]] w (fun v w'=>∃ A n cap hs L,v = .slice A n cap ∧ n = hs.length ∧ bU w w' [oI 48 1 A n cap (hs.map Hd.v),lG L] ∧ yE L hs (fD (1 + q % 12) 30 (kU kind bits hz))):=by
 refine ⟨Ty,?_⟩;have m:=bU.refl w
 go_enter Tryz.func19,Tryz.ntmps19
 refine aF fun K1 k1=>wp_region_lit (dJ m rfl ?_);clear m; intro g1 u m;refine aA (aD) (aC (k1 _ _ ?_));refine aF fun K2 k2=>wp_region_lit (aA (aG (c:=0) Tryz.underlying28 rfl aO rfl rfl) ?_);simp only[ev,zD,zE,zF,zG];refine aI rfl ((m.b 0 rfl).lies1 aZ rfl) ?_;simp only[ev,zD,zE,zF,zG];refine aA (aG (c:=0) Tryz.underlying28 rfl aO rfl rfl) ?_;simp only[ev,zD,zE,zF,zG];refine aI rfl ((m.b 0 rfl).lies1 aZ rfl) ?_;simp only[ev,zD,zE,zF,zG];refine aA (aG (c:=0) Tryz.underlying28 rfl bK rfl rfl) ?_;simp only[ev,zD,zE,zF,zG];refine aI rfl ((m.b 0 rfl).lies1 d4 rfl) ?_;simp only[ev,zD,zE,zF,zG];refine bO rfl rfl (Tm (kind:=kind) (bits:=bits) _ (hH.ext m.ext)) ?_;rintro v u e ⟨A1,cap1,_,rfl,rfl,hN⟩; replace m:=m.newO e hN; clear e hN;refine aA (aD) (aC (k2 _ _ ?_));refine aF fun K3 k3=>?_;simp only[ev,zD,zE,zF,zG];have hle1:=(m.o 0 rfl).le;have hle2:=(m.o 0 rfl).max;replace m:=m.oR 0 rfl; simp only[zF,zG] at m;refine wp_region_lit (aA (aG (c:=0) Tryz.underlying28 rfl Nh rfl rfl) ?_);simp only[ev,zD,zE,zF,zG];refine aI rfl ((m.b 1 rfl).lies1 Vg rfl) ?_;simp only[ev,zD,zE,zF,zG];refine aA (dF rfl rfl (by omega) (show (q : Int).tmod 12 = ((q % 12 : Nat) : Int) from rfl)) (aA (dH Tryz.underlying3 Tryz.underlying5 rfl (aL (by omega) (by omega))) (aA (aX rfl rfl (show IntKind.i64.wrap (1 + ((q % 12 : Nat) : Int)) = ((1 + q % 12 : Nat) : Int) by rw [aL (by omega) (by omega)]; omega)) (aA (aD) ?_)));simp only[ev,zD,zE,zF,zG];refine aC (k3 _ _ ?_);refine aF fun K4 k4=>wp_region_lit (aA (aD) ?_);replace m:=m.nilO 48 1;refine aC (k4 _ _ ?_);refine aF fun K5 k5=>wp_block ?_;simp only[ev,zD,zE,zF,zG];try simp only[Nat.zero_add,Nat.reduceAdd,Nat.reduceMul,Int.reduceToNat]
 refine cX [3,5] [6,19,20,21,22,23,24,25,26,27,28,29,30,31,32,33,34,35,36,37,38,39] (fun n vs wl=>∃ (LA A5 : Option Addr) (Ln Lc n5 cap5 : Nat) (hs : List Hd) (xs : List (List T3)) (rest : List T3),vs = [.slice LA Ln Lc,.slice A5 n5 cap5] ∧ bU w wl [oI 48 1 A5 n5 cap5 (hs.map Hd.v),lG [(A1,(kU kind bits hz).flatMap bV)],bI g1 [.int .i64 kind,.int .i64 bits,.slice HA HN Hc,.int .u8 (q : Int),.slice ZA ZN Zc,.int .i64 r.s.x,.int .i64 r.s.y,.int .i64 r.s.z,.int .i64 r.w,.int .i64 r.d.x,.int .i64 r.d.y,.int .i64 r.d.z,.slice PA PN Pc] 28] ∧ (yE [(A1,(kU kind bits hz).flatMap bV)] hs xs) ∧ (kV [(A1,(kU kind bits hz).flatMap bV)] ⟨LA,Ln,Lc⟩ rest) ∧ (Ln = rest.length ∧ Ln ≤ 9223372036854775807) ∧ (fD (1 + q % 12) 30 (kU kind bits hz) = xs ++ fD (1 + q % 12) (30 - xs.length) rest) ∧ (xs.length ≤ 30) ∧ (n5 = hs.length) ∧ (n = 30 - xs.length)) ?_ ?_
 ·
  apply Exists.intro;simp only[zQ,zR,zD,zE];exact ⟨_,_,_,_,_,_,[],[],kU kind bits hz,rfl,m,yE.nil _,kV.one (fun t ht=>(wX t ht).it (by decide)) hle1,⟨rfl,by omega⟩,rfl,Nat.zero_le _,rfl,rfl⟩
 ·
  intro n vs wr hI u;clear m;obtain ⟨LA,A5,Ln,Lc,n5,cap5,hs,xs,rest,rfl,m,hcov,hsay,hrl,hch,hxl,hn5,hn⟩:=hI;simp only[aK,aQ,aM,aP,zF,zG];refine aF fun K6 k6=>aF fun K7 k7=>wp_region_lit (aA (aB) (aA (bM rfl Tryz.underlying48 rfl) (aA (gJ rfl rfl) (aA (aB) ?_))));simp only[ev,zD,zE,zF,zG];refine f0 rfl (fun hb=>aB) (f0 rfl (fun hb=>bM rfl Tryz.underlying29 (gI hb rfl)) (f0 rfl (fun hb=>dS (gI hb rfl) rfl) (aA (iU rfl rfl rfl) ?_)));simp only[ev,zD,zE,zF,zG];refine aC (k7 _ _ ?_);refine Gm rfl (fun hc1=>?_) (fun hc1=>?_)
  ·
   simp only[Bool.and_eq_true,decide_eq_true_eq] at hc1;have hlc : Ln ≤ Lc:=hsay.1;have hcl:=hcov.len;have hne : rest ≠ []:=fun e=>by rw [e] at hrl; simp only[List.length_nil] at hrl; omega
   have hs1:=Iz (m:=1 + q % 12) hsay hrl.1;have hs2:=I0 (m:=1 + q % 12) hsay hrl.1;refine wp_skip (k6 _ _ ?_);refine wp_block (aF fun K8 k8=>wp_region_lit (aA (aB) (aA (aB) (aA (bM rfl Tryz.underlying48 rfl) (aA (vR rfl rfl (Pi (a:=1 + q % 12) (b:=Ln))) ?_)))));simp only[ev,zD,zE,zF,zG];refine aA (aD) (aC (k8 _ _ ?_));refine aF fun K9 k9=>wp_region_lit (aA (aB) (aA (aB) (aA (aB) ?_)));simp only[ev,zD,zE,zF,zG];refine aA (lS Tryz.underlying48 eS rfl rfl (Int.toNat_natCast _) (by omega) (by omega)) ?_;simp only[ev,zD,zE,zF,zG];refine b7 Tryz.underlying29 (z:=.slice none 0 0) (by kernel_rfl) rfl rfl rfl ?_;intro u g2 e hg hB; replace m:=m.newB e hg hB; clear e hg hB;simp only[ev,zD,zE,zF,zG];refine dU m 1 rfl rfl Tryz.underlying29 Jm rfl (by decide) rfl rfl rfl (m.b 0 rfl).rowsO (kB rfl) (by omega) (by omega) ?_;clear m; intro A5 cap5 u m; simp only[zF,zG] at m;refine aA (aD) (aC (k9 _ _ ?_));refine wp_region_lit (aA (aB) (aA (aB) ?_));simp only[ev,zD,zE,zF,zG];refine aA (j6 Tryz.underlying48 eS rfl rfl (Int.toNat_natCast _) (by omega) (by omega) rfl) (aA (aD) (aC ?_));simp only[ev,zD,zE,zF,zG];simp only[Exit.inBlock,Exit.then];refine ⟨30 - (xs.length + 1),_,?_,rfl,?_,?_⟩
   · omega
   · simp only[zQ,zR,zD,zE,aK,aQ,aM,aP,zF,zG]
   ·
    simp only[zQ,zR,zD,zE];exact ⟨_,_,_,_,_,_,hs ++ [⟨LA,min (1 + q % 12) Ln,Lc⟩],xs ++ [rest.take (1 + q % 12)],rest.drop (1 + q % 12),rfl,((m.reO 1 rfl ((m.o 1 rfl).as (by rw [List.map_append]; rfl))).sel [false,true,true,true]),hcov.snoc hs1,hs2,⟨by rw [List.length_drop,← hrl.1]; omega,by omega⟩,by rw [hch,List.append_assoc,show 30 - xs.length = (30 - (xs ++ [rest.take (1 + q % 12)]).length) + 1 by (rw [List.length_append]; simp only[List.length_cons,List.length_nil]; omega),Eb hne]; rfl,by rw [List.length_append]; simp only[List.length_cons,List.length_nil]; omega,by rw [List.length_append,hn5]; rfl,by rw [List.length_append]; rfl⟩
  ·
   simp only[Bool.and_eq_false_iff,decide_eq_false_iff_not] at hc1;have hcl:=hcov.len;have hfin : fD (1 + q % 12) 30 (kU kind bits hz) = xs:=by
    rcases hc1 with h | h
    · rw [hch,List.eq_nil_of_length_eq_zero (l:=rest) (by omega),F1,List.append_nil]
    · rw [hch,show 30 - xs.length = 0 by omega]; exact List.append_nil _
   refine wp_exit (k5 _ _ ?_);refine aF fun K10 k10=>wp_region_lit (aA (aB) (aA (aD) (aC (k10 _ _ ?_))));refine wp_ret ?_;simp only[ev,zD,zE,zF,zG];try simp only[Exit.inBlock,Exit.then,if_true]
   refine bT rfl rfl ?_;try simp only[zD,zE]
   exact ⟨_,rfl,m.ext,_,_,_,hs,_,rfl,hn5,m.sel [true,true,false],by rw [hfin]; exact hcov⟩
theorem Eg {kind bits : Int} [Iw kind] [Iw bits] {q : Nat} {r : e8} [IR r] {HA ZA PA : Option Addr} {HN Hc ZN Zc PN Pc : Nat} {hz zs : List Int} {ss : List P3} {n0 : Nat} (w : World) (hH : cT w HA HN hz) (hZ : cT w ZA ZN zs) (hP : Am Tf 3 w PA PN ss) (hq : q < 256) (hn0 : n0 ≤ 30) : gD Tryz.prog 13 [.agg #[.int .i64 kind,.int .i64 bits,.slice HA HN Hc,.int .u8 (q : Int),.slice ZA ZN Zc,.int .i64 r.s.x,.int .i64 r.s.y,.int .i64 r.s.z,.int .i64 r.w,.int .i64 r.d.x,.int .i64 r.d.y,.int .i64 r.d.z,.slice PA PN Pc],.int .i64 (n0 : Int)] w (fun v w'=>∃ A cap,v = .slice A n0 cap ∧ Ow w w' [] 3 1 A n0 cap ((gG n0 zs).map (Value.int .i64 ·))):=by
 refine ⟨Tv,?_⟩;have m:=bU.refl w
 go_enter Tryz.func13,Tryz.ntmps13
 refine aF fun K1 k1=>wp_region_lit (dJ m rfl ?_);clear m; intro g1 u m;refine aA (aD) (aC (k1 _ _ ?_));refine aF fun K2 k2=>wp_region_lit (aA (aB) ?_);simp only[ev,zD,zE,zF,zG];refine iR Tryz.underlying22 iW rfl rfl rfl (Int.toNat_natCast _) (Int.toNat_natCast _) (by omega) (by omega) (by omega) (by omega) ?_;intro u g2 e hg hB; replace m:=m.newB e hg hB; clear e hg hB;refine aA (aD) (aC (k2 _ _ ?_));refine aF fun K3 k3=>aF fun K4 k4=>wp_region_lit (aA (aD) (aC (k4 _ _ ?_)));refine wp_block ?_;simp only[ev,zD,zE,zF,zG];try simp only[Nat.zero_add,Nat.reduceAdd,Nat.reduceMul,Int.reduceToNat]
 refine cX [6] [9,10,11,12,13,14,15,16,17,18,19,20,21,22,23,24,25,26,27,28,29,30,31,32,33,34,35,36,37] (fun n vs wl=>∃ (i : Nat),vs = [.int .i64 (i:Int)] ∧ bU w wl [bI g2 (Na zs i n0) 3,bI g1 [.int .i64 kind,.int .i64 bits,.slice HA HN Hc,.int .u8 (q : Int),.slice ZA ZN Zc,.int .i64 r.s.x,.int .i64 r.s.y,.int .i64 r.s.z,.int .i64 r.w,.int .i64 r.d.x,.int .i64 r.d.y,.int .i64 r.d.z,.slice PA PN Pc] 28] ∧ (i ≤ n0) ∧ (zs = [] → i = 0) ∧ (n = n0 - i)) ?_ ?_
 ·
  apply Exists.intro;simp only[zQ,zR,zD,zE];exact ⟨0,rfl,m,Nat.zero_le _,fun _=>rfl,rfl⟩
 ·
  intro n vs wr hI u;clear m;obtain ⟨i,rfl,m,hi,hzi,hn⟩:=hI;simp only[aK,aQ,aM,aP,zF,zG];refine aF fun K5 k5=>aF fun K6 k6=>wp_region_lit (aA (aB) (aA (aB) (aA (dS rfl rfl) (aA (aB) ?_))));simp only[ev,zD,zE,zF,zG];refine f0 rfl (fun hb=>aG (c:=0) Tryz.underlying28 rfl bK rfl rfl) ?_;simp only[ev,zD,zE,zF,zG];refine p4 rfl (fun hb=>jN (gI hb rfl) ((m.b 1 rfl).lies1 d4 rfl)) (f0 rfl (fun hb=>bM rfl Tryz.underlying22 (gI hb rfl)) (f0 rfl (fun hb=>gJ (gI hb rfl) rfl) (aA (iU rfl rfl rfl) (aC (k6 _ _ ?_)))));simp only[ev,zD,zE,zF,zG];refine Gm rfl (fun hc1=>?_) (fun hc1=>?_)
  ·
   simp only[Bool.and_eq_true,decide_eq_true_eq] at hc1;have hlen:=hZ.len;have hii : (0 : Int) ≤ (i : Int) * (i : Int) ∧ (i : Int) * (i : Int) ≤ 900:=by
    have : i * i ≤ 30 * 30:=Nat.mul_le_mul (by omega) (by omega);exact ⟨by exact_mod_cast Nat.zero_le _,by exact_mod_cast this⟩
   have hmod : (i * i + i) % ZN < ZN:=Nat.mod_lt _ (by omega);obtain ⟨z,hz,hz64,a,rfl,hcell⟩:=hZ.get (i:=(i * i + i) % ZN) hmod;have hzne : zs ≠ []:=fun e=>by rw [e] at hlen; simp only[List.length_nil] at hlen; omega
   refine wp_skip (k5 _ _ ?_);refine aF fun K7 k7=>wp_block ?_;refine dQ m 18 aU (by kernel_rfl) ?_;simp only[zH,zI,zJ,zK];refine aR (aB) (aR (aB) (aR (aG (c:=0) Tryz.underlying28 rfl bK rfl rfl) ?_));simp only[ev,zD,zE,zF,zG];refine ql rfl (fun u m=>((m.b 1 rfl).lies1 d4 rfl)) ?_;simp only[ev,zD,zE,zF,zG];refine aR (aB) (aR (aB) (aR (dX rfl rfl (aL (by omega) (by omega))) (aR (aB) ?_)));simp only[ev,zD,zE,zF,zG];refine aR (aX rfl rfl (aL (by omega) (by omega))) (aR (aG (c:=0) Tryz.underlying28 rfl bK rfl rfl) ?_);simp only[ev,zD,zE,zF,zG];refine ql rfl (fun u m=>((m.b 1 rfl).lies1 d4 rfl)) ?_;simp only[ev,zD,zE,zF,zG];refine aR (bM rfl Tryz.underlying22 rfl) ?_;simp only[ev,zD,zE,zF,zG];refine aR (dF rfl rfl (by omega) (Pw i ZN)) ?_;simp only[ev,zD,zE,zF,zG];refine aR (aT Tryz.underlying22 aO rfl rfl (Int.natCast_nonneg _) (by omega) (d7 (Int.toNat_natCast _))) ?_;simp only[ev,zD,zE,zF,zG];refine ql rfl (fun u m=>(Lith.lies1 (m.ext.cell hcell) aZ)) ?_;simp only[ev,zD,zE,zF,zG];refine aR (dF rfl rfl (by omega) rfl) (aR (jU rfl rfl rfl) ?_);simp only[ev,zD,zE,zF,zG];refine aR (aT Tryz.underlying22 aO rfl rfl (by omega) (by omega) (eF (Int.toNat_natCast _))) (dW ?_);clear m; intro u m;simp only[ev,zD,zE,zF,zG];refine cA m 0 rfl rfl rfl aO (by rw [Pu (by omega)]; show i + 1 ≤ n0; omega) ⟨rfl,rfl⟩ ?_;clear m; intro u m; simp only[ev,zD,zE,zF,zG] at m;rw [show (if z.tmod 50 < -1 then -1 else z.tmod 50) = jP zs i by rw [jP,if_neg hzne,hlen,hz]; rfl,Mz (by omega)] at m;refine aC (k7 _ _ ?_);refine wp_region_lit (aA (aB) ?_);simp only[ev,zD,zE,zF,zG];refine aA (aX rfl rfl (aL (by omega) (by omega))) (aA (aD) (aC ?_));simp only[ev,zD,zE,zF,zG];simp only[Exit.inBlock,Exit.then];refine ⟨n0 - (i + 1),_,?_,rfl,?_,?_⟩
   · omega
   · simp only[zQ,zR,zD,zE,aK,aQ,aM,aP,zF,zG]
   ·
    simp only[zQ,zR,zD,zE];exact ⟨i + 1,rfl,m,by omega,fun e=>absurd e hzne,rfl⟩
  ·
   simp only[Bool.and_eq_false_iff,decide_eq_false_iff_not] at hc1;have hlen:=hZ.len;have hend : Na zs i n0 = ((gG n0 zs).map (Value.int .i64 ·)):=by
    rcases hc1 with h | h
    ·
     obtain rfl : i = n0:=by omega
     exact Pv
    ·
     have e : zs = []:=List.eq_nil_of_length_eq_zero (by omega);rw [hzi e,e]; exact M0
   rw [hend] at m;refine wp_exit (k3 _ _ ?_);refine aF fun K8 k8=>wp_region_lit (aA (aB) (aA (aD) (aC (k8 _ _ ?_))));refine wp_ret ?_;simp only[ev,zD,zE,zF,zG];try simp only[Exit.inBlock,Exit.then,if_true]
   refine bT rfl rfl ?_;try simp only[zD,zE]
   exact ⟨_,rfl,m.ext,_,_,rfl,m.bo 0 rfl (by simp [gG]) (by simp only[maxLen]; omega)⟩
theorem Xf (ss : List P3) (z : Int) : z < 0 ∨ z = 0 ∨ (0 < z ∧ ss = []) ∨ (0 < z ∧ ss ≠ []):=by
 by_cases h : ss = []
 ·
  by_cases hz : 0 < z
  · exact .inr (.inr (.inl ⟨hz,h⟩))
  · omega
 ·
  by_cases hz : 0 < z
  · exact .inr (.inr (.inr ⟨hz,h⟩))
  · omega
theorem Pz {kind bits : Int} [Iw kind] [Iw bits] {q : Nat} {r : e8} [IR r] {HA ZA PA : Option Addr} {HN Hc ZN Zc PN Pc : Nat} {hz zs : List Int} {ss : List P3} (w : World) (hH : cT w HA HN hz) (hZ : cT w ZA ZN zs) (hP : Am Tf 3 w PA PN ss) (hq : q < 256) : gD Tryz.prog 12 [.agg #[.int .i64 kind,.int .i64 bits,.slice HA HN Hc,.int .u8 (q : Int),.slice ZA ZN Zc,.int .i64 r.s.x,.int .i64 r.s.y,.int .i64 r.s.z,.int .i64 r.w,.int .i64 r.d.x,.int .i64 r.d.y,.int .i64 r.d.z,.slice PA PN Pc]] w (fun v w'=>∃ A n cap hs L,v = .slice A n cap ∧ n = hs.length ∧ bU w w' [oI 48 1 A n cap (hs.map Hd.v),lG L] ∧ yE L hs (cY ss (gG (fD (1 + q % 12) 30 (kU kind bits hz)).length zs) (fD (1 + q % 12) 30 (kU kind bits hz)))):=by
 refine ⟨Tu,?_⟩;have m:=bU.refl w
 go_enter Tryz.func12,Tryz.ntmps12
 refine aF fun K1 k1=>wp_region_lit (dJ m rfl ?_);clear m; intro g1 u m;refine aA (aD) (aC (k1 _ _ ?_));refine aF fun K2 k2=>wp_region_lit ?_;simp only[ev,zD,zE,zF,zG];refine aI rfl ((m.b 0 rfl).full Bb rT) ?_;simp only[ev,zD,zE,zF,zG];refine bO rfl rfl (F4 (kind:=kind) (bits:=bits) (r:=r) _ (hH.ext m.ext) (hZ.ext m.ext) (hP.ext m.ext) hq) ?_;rintro v u e ⟨A7,n7,cap7,hs,L,rfl,hn7,hM,hcov⟩; replace m:=m.plus hM; clear hM e; simp only[List.cons_append,List.nil_append] at m;obtain ⟨F,hF⟩ : ∃ F,F = fD (1 + q % 12) 30 (kU kind bits hz):=⟨_,rfl⟩
 rw [← hF] at hcov;have hfl : F.length ≤ 30:=by rw [hF]; exact tY
 have hsm : ∀ (i : Nat) (l : List T3),F[i]? = some l → ∀ t ∈ l,Ek 200 t:=fun i l hl=>by rw [hF] at hl; exact Ar wX hl
 have hf12 : F.flatten.length ≤ 360:=by rw [hF]; exact Nat.le_trans Px (by omega)
 have hcl:=hcov.len;refine aA (aD) (aC (k2 _ _ ?_));refine aF fun K3 k3=>?_;simp only[ev,zD,zE,zF,zG];have e7 : n7 = F.length:=by omega
 subst e7;refine wp_region_lit (aI rfl ((m.b 2 rfl).full Bb rT) ?_);simp only[ev,zD,zE,zF,zG];refine aA (aB) (aA (bM rfl Tryz.underlying29 rfl) ?_);simp only[ev,zD,zE,zF,zG];refine bO rfl rfl (Eg (kind:=kind) (bits:=bits) (r:=r) (zs:=zs) (n0:=F.length) _ (hH.ext m.ext) (hZ.ext m.ext) (hP.ext m.ext) hq hfl) ?_;rintro v u e ⟨A8,cap8,rfl,hN⟩; replace m:=m.newO e hN; clear e hN;refine aA (aD) (aC (k3 _ _ ?_));refine aF fun K4 k4=>aF fun K5 k5=>wp_region_lit (aA (aD) (aC (k5 _ _ ?_)));refine wp_block ?_;simp only[ev,zD,zE,zF,zG];try simp only[Nat.zero_add,Nat.reduceAdd,Nat.reduceMul,Int.reduceToNat]
 refine cX [5] [6,7,14,15,16,17,18,19,20,21,22,23,24,25,26,27,28,29,30,31,32,33,34,35,36,37,38,39,40,41,42,43,44,45,46,47,48,49,50,51,52,53,54,55,56,57,58,59,60,61,62,63,64,65,66,67,68,69,70,71,72,73,74] (fun n vs wl=>∃ (i : Nat) (hs : List Hd) (L : Cu) (xs : List (List T3)),vs = [.int .i64 (i:Int)] ∧ bU w wl [oI 3 1 A8 F.length cap8 ((gG F.length zs).map (Value.int .i64 ·)),oI 48 1 A7 F.length cap7 (hs.map Hd.v),lG L,bI g1 [.int .i64 kind,.int .i64 bits,.slice HA HN Hc,.int .u8 (q : Int),.slice ZA ZN Zc,.int .i64 r.s.x,.int .i64 r.s.y,.int .i64 r.s.z,.int .i64 r.w,.int .i64 r.d.x,.int .i64 r.d.y,.int .i64 r.d.z,.slice PA PN Pc] 28] ∧ (yE L hs xs) ∧ (hs.length = F.length) ∧ (∀ j,j < i → xs[j]? = (cY ss (gG F.length zs) F)[j]?) ∧ (∀ j,i ≤ j → xs[j]? = F[j]?) ∧ (i ≤ F.length) ∧ (n = F.length - i)) ?_ ?_
 ·
  apply Exists.intro;simp only[zQ,zR,zD,zE];exact ⟨0,_,_,_,rfl,m,hcov,hcl,fun j h=>absurd h (Nat.not_lt_zero _),fun j _=>rfl,Nat.zero_le _,rfl⟩
 ·
  intro n vs wr hI u;clear m;obtain ⟨i,hs,L,xs,rfl,m,hcov,hhl,hlo,hhi,hi,hn⟩:=hI;have hcl:=hcov.len;simp only[aK,aQ,aM,aP,zF,zG];refine aF fun K6 k6=>aF fun K7 k7=>wp_region_lit (aA (aB) (aA (aB) (aA (bM rfl Tryz.underlying29 rfl) (aA (dS rfl rfl) ?_))));simp only[ev,zD,zE,zF,zG];refine aC (k7 _ _ ?_);refine cK rfl (fun hc1=>?_) (fun hc1=>?_)
  ·
   obtain ⟨g7,rfl⟩:=(m.o 1 rfl).some (by omega);obtain ⟨g8,rfl⟩:=(m.o 0 rfl).some (by omega);obtain ⟨⟨HB,Hn,Hcp⟩,hh⟩ : ∃ h,hs[i]? = some h:=⟨_,List.getElem?_eq_getElem (by omega)⟩
   obtain ⟨l,hl⟩ : ∃ l,F[i]? = some l:=⟨_,List.getElem?_eq_getElem (by omega)⟩
   have hh2 : (hs.map Hd.v)[i]? = some (.slice HB Hn Hcp):=by rw [List.getElem?_map,hh]; rfl
   have hbz : (((gG F.length zs).map (Value.int .i64 ·)))[i]? = some (.int .i64 (jP zs i)):=by rw [List.getElem?_map,Gy (by omega)]; rfl
   have hzb:=Cp zs i;have hx0 : xs[i]? = some l:=by rw [hhi i (Nat.le_refl _)]; exact hl
   have hsml:=hsm i l hl;refine wp_skip (k6 _ _ ?_);refine aF fun K8 k8=>wp_block (aF fun K9 k9=>aF fun K10 k10=>?_);rcases Xf ss (jP zs i) with hz0 | hz0 | ⟨hz0,hss⟩ | ⟨hz0,hss⟩
   ·
    have hsa : fL ss (jP zs i) i l = []:=if_pos hz0;have hnew : fL ss (eB (gG F.length zs) i) i l = []:=by rw [xG (by omega)]; exact hsa
    have hlo2 : ∀ j,j < i + 1 → (xs.set i [])[j]? = (cY ss (gG F.length zs) F)[j]?:=fun j hj=>by
     rcases Nat.lt_or_ge j i with h | h
     · rw [List.getElem?_set_ne (by omega)]; exact hlo j h
     ·
      obtain rfl : j = i:=by omega
      rw [kF hl,hnew]; rw [List.getElem?_set_self (by omega)]
    have hhi2 : ∀ j,i + 1 ≤ j → (xs.set i [])[j]? = F[j]?:=fun j hj=>by rw [List.getElem?_set_ne (by omega)]; exact hhi j (by omega)
    refine wp_region_lit (aA (aB) (aA (aB) ?_));simp only[ev,zD,zE,zF,zG];refine aA (aT Tryz.underlying22 aO rfl rfl (by omega) (by omega) (d7 (Int.toNat_natCast _))) ?_;simp only[ev,zD,zE,zF,zG];refine aI rfl (Lith.lies1 ((m.o 0 rfl).rows i _ hbz) aZ) ?_;simp only[ev,zD,zE,zF,zG];refine aA (bR rfl rfl (by omega)) (aC (k10 _ _ ?_));refine bS rfl (wp_region_lit (aA (aB) (aA (aB) ?_)));simp only[ev,zD,zE,zF,zG];refine aA (aT Tryz.underlying29 jV rfl rfl (by omega) (by omega) (eF (Int.toNat_natCast _))) ?_;simp only[ev,zD,zE,zF,zG];refine Gl m 1 rfl rfl rfl jV (by simp; omega) rfl ?_;clear m; intro u m; simp only[zF,zG] at m;simp only[ev,zD,zE,zF,zG] at m;rw [show ([.slice none 0 0] : List Go.Value) = [Hd.v ⟨none,0,0⟩] from rfl,Cv (by omega)] at m;refine aC (k9 _ _ ?_);refine aF fun K11 k11=>wp_region_lit (aA (aB) (aA (aB) ?_));simp only[ev,zD,zE,zF,zG];refine aA (aT Tryz.underlying22 aO rfl rfl (by omega) (by omega) (d7 (Int.toNat_natCast _))) ?_;simp only[ev,zD,zE,zF,zG];refine aI rfl (Lith.lies1 ((m.o 0 rfl).rows i _ hbz) aZ) ?_;simp only[ev,zD,zE,zF,zG];refine aA (iZ rfl rfl (by omega)) (aA (aB) (bD rfl (bD rfl ?_)));simp only[ev,zD,zE,zF,zG];refine bD rfl (bD rfl (aA (cU rfl) (aC (k11 _ _ ?_))));refine eM rfl (wp_skip (k8 _ _ ?_));refine wp_region_lit (aA (aB) ?_);simp only[ev,zD,zE,zF,zG];refine aA (aX rfl rfl (aL (by omega) (by omega))) (aA (aD) (aC ?_));simp only[ev,zD,zE,zF,zG];simp only[Exit.inBlock,Exit.then];refine ⟨F.length - (i + 1),_,?_,rfl,?_,?_⟩
    · omega
    · simp only[zQ,zR,zD,zE,aK,aQ,aM,aP,zF,zG]
    ·
     simp only[zQ,zR,zD,zE];exact ⟨i + 1,hs.set i ⟨none,0,0⟩,L,xs.set i [],rfl,m,hcov.set (kV.nil _),by rw [List.length_set]; exact hhl,hlo2,hhi2,by omega,rfl⟩
   ·
    have hsa : fL ss (jP zs i) i l = l:=by rw [fL,if_neg (by omega),if_neg (by omega)]
    have hnew : fL ss (eB (gG F.length zs) i) i l = l:=by rw [xG (by omega)]; exact hsa
    have hlo2 : ∀ j,j < i + 1 → (xs)[j]? = (cY ss (gG F.length zs) F)[j]?:=fun j hj=>by
     rcases Nat.lt_or_ge j i with h | h
     · exact hlo j h
     ·
      obtain rfl : j = i:=by omega
      rw [kF hl,hnew]; exact hx0
    have hhi2 : ∀ j,i + 1 ≤ j → (xs)[j]? = F[j]?:=fun j hj=>by exact hhi j (by omega)
    refine wp_region_lit (aA (aB) (aA (aB) ?_));simp only[ev,zD,zE,zF,zG];refine aA (aT Tryz.underlying22 aO rfl rfl (by omega) (by omega) (d7 (Int.toNat_natCast _))) ?_;simp only[ev,zD,zE,zF,zG];refine aI rfl (Lith.lies1 ((m.o 0 rfl).rows i _ hbz) aZ) ?_;simp only[ev,zD,zE,zF,zG];refine aA (eW rfl rfl (by omega)) (aC (k10 _ _ ?_));refine eM rfl (wp_skip (k9 _ _ ?_));refine aF fun K12 k12=>wp_region_lit (aA (aB) (aA (aB) ?_));simp only[ev,zD,zE,zF,zG];refine aA (aT Tryz.underlying22 aO rfl rfl (by omega) (by omega) (d7 (Int.toNat_natCast _))) ?_;simp only[ev,zD,zE,zF,zG];refine aI rfl (Lith.lies1 ((m.o 0 rfl).rows i _ hbz) aZ) ?_;simp only[ev,zD,zE,zF,zG];refine aA (iZ rfl rfl (by omega)) (aA (aB) (bD rfl (bD rfl ?_)));simp only[ev,zD,zE,zF,zG];refine bD rfl (bD rfl (aA (cU rfl) (aC (k12 _ _ ?_))));refine eM rfl (wp_skip (k8 _ _ ?_));refine wp_region_lit (aA (aB) ?_);simp only[ev,zD,zE,zF,zG];refine aA (aX rfl rfl (aL (by omega) (by omega))) (aA (aD) (aC ?_));simp only[ev,zD,zE,zF,zG];simp only[Exit.inBlock,Exit.then];refine ⟨F.length - (i + 1),_,?_,rfl,?_,?_⟩
    · omega
    · simp only[zQ,zR,zD,zE,aK,aQ,aM,aP,zF,zG]
    ·
     simp only[zQ,zR,zD,zE];exact ⟨i + 1,hs,L,xs,rfl,m,hcov,hhl,hlo2,hhi2,by omega,rfl⟩
   ·
    have hPN : PN = 0:=by rw [← hP.len,hss]; rfl
    have hsa : fL ss (jP zs i) i l = l:=by rw [fL,if_neg (by omega),if_neg (fun h=>h.2 hss)]
    have hnew : fL ss (eB (gG F.length zs) i) i l = l:=by rw [xG (by omega)]; exact hsa
    have hlo2 : ∀ j,j < i + 1 → (xs)[j]? = (cY ss (gG F.length zs) F)[j]?:=fun j hj=>by
     rcases Nat.lt_or_ge j i with h | h
     · exact hlo j h
     ·
      obtain rfl : j = i:=by omega
      rw [kF hl,hnew]; exact hx0
    have hhi2 : ∀ j,i + 1 ≤ j → (xs)[j]? = F[j]?:=fun j hj=>by exact hhi j (by omega)
    refine wp_region_lit (aA (aB) (aA (aB) ?_));simp only[ev,zD,zE,zF,zG];refine aA (aT Tryz.underlying22 aO rfl rfl (by omega) (by omega) (d7 (Int.toNat_natCast _))) ?_;simp only[ev,zD,zE,zF,zG];refine aI rfl (Lith.lies1 ((m.o 0 rfl).rows i _ hbz) aZ) ?_;simp only[ev,zD,zE,zF,zG];refine aA (eW rfl rfl (by omega)) (aC (k10 _ _ ?_));refine eM rfl (wp_skip (k9 _ _ ?_));refine aF fun K13 k13=>wp_region_lit (aA (aB) (aA (aB) ?_));simp only[ev,zD,zE,zF,zG];refine aA (aT Tryz.underlying22 aO rfl rfl (by omega) (by omega) (d7 (Int.toNat_natCast _))) ?_;simp only[ev,zD,zE,zF,zG];refine aI rfl (Lith.lies1 ((m.o 0 rfl).rows i _ hbz) aZ) ?_;simp only[ev,zD,zE,zF,zG];refine aA (l2 rfl rfl (by omega)) (aA (aB) (aW rfl (aA (aG (c:=0) Tryz.underlying28 rfl rS rfl rfl) (aW rfl ?_))));simp only[ev,zD,zE,zF,zG];refine aI rfl ((m.b 3 rfl).lies1 Ba rfl) ?_;simp only[ev,zD,zE,zF,zG];refine aW rfl (aA (bM rfl Tryz.underlying26 rfl) (aW rfl ?_));simp only[ev,zD,zE,zF,zG];refine aA (iZ rfl rfl (by omega)) (aA (cQ rfl) (aC (k13 _ _ ?_)));refine eM rfl (wp_skip (k8 _ _ ?_));refine wp_region_lit (aA (aB) ?_);simp only[ev,zD,zE,zF,zG];refine aA (aX rfl rfl (aL (by omega) (by omega))) (aA (aD) (aC ?_));simp only[ev,zD,zE,zF,zG];simp only[Exit.inBlock,Exit.then];refine ⟨F.length - (i + 1),_,?_,rfl,?_,?_⟩
    · omega
    · simp only[zQ,zR,zD,zE,aK,aQ,aM,aP,zF,zG]
    ·
     simp only[zQ,zR,zD,zE];exact ⟨i + 1,hs,L,xs,rfl,m,hcov,hhl,hlo2,hhi2,by omega,rfl⟩
   ·
    have hPN : 0 < PN:=by rw [← hP.len]; exact List.length_pos_iff.2 hss
    have hsa : fL ss (jP zs i) i l = l.map (T3.sh (oU ss (jP zs i) i)):=by rw [fL,if_neg (by omega),if_pos ⟨hz0,hss⟩]
    have hnew : fL ss (eB (gG F.length zs) i) i l = l.map (T3.sh (oU ss (jP zs i) i)):=by rw [xG (by omega)]; exact hsa
    have hlo2 : ∀ j,j < i + 1 → (xs.set i (l.map (T3.sh (oU ss (jP zs i) i))))[j]? = (cY ss (gG F.length zs) F)[j]?:=fun j hj=>by
     rcases Nat.lt_or_ge j i with h | h
     · rw [List.getElem?_set_ne (by omega)]; exact hlo j h
     ·
      obtain rfl : j = i:=by omega
      rw [kF hl,hnew]; rw [List.getElem?_set_self (by omega)]
    have hhi2 : ∀ j,i + 1 ≤ j → (xs.set i (l.map (T3.sh (oU ss (jP zs i) i))))[j]? = F[j]?:=fun j hj=>by rw [List.getElem?_set_ne (by omega)]; exact hhi j (by omega)
    have hmod : i % PN < PN:=Nat.mod_lt _ hPN;obtain ⟨p,hp,a,rfl,hrow⟩:=hP.get hmod;have hsv : oU ss (jP zs i) i = ⟨p.x.tmod ((jP zs i).tdiv 2 + 1),p.y.tmod ((jP zs i).tdiv 2 + 1),p.z.tmod ((jP zs i).tdiv 2 + 1)⟩:=by rw [oU,hP.len,hp]; rfl
    have hti : (jP zs i).tdiv 2 = jP zs i / 2:=Int.tdiv_eq_ediv_of_nonneg (by omega);have hll : l.length ≤ 360:=by have:=An hl; omega
    refine wp_region_lit (aA (aB) (aA (aB) ?_));simp only[ev,zD,zE,zF,zG];refine aA (aT Tryz.underlying22 aO rfl rfl (by omega) (by omega) (d7 (Int.toNat_natCast _))) ?_;simp only[ev,zD,zE,zF,zG];refine aI rfl (Lith.lies1 ((m.o 0 rfl).rows i _ hbz) aZ) ?_;simp only[ev,zD,zE,zF,zG];refine aA (eW rfl rfl (by omega)) (aC (k10 _ _ ?_));refine eM rfl (wp_skip (k9 _ _ ?_));refine aF fun K14 k14=>wp_region_lit (aA (aB) (aA (aB) ?_));simp only[ev,zD,zE,zF,zG];refine aA (aT Tryz.underlying22 aO rfl rfl (by omega) (by omega) (d7 (Int.toNat_natCast _))) ?_;simp only[ev,zD,zE,zF,zG];refine aI rfl (Lith.lies1 ((m.o 0 rfl).rows i _ hbz) aZ) ?_;simp only[ev,zD,zE,zF,zG];refine aA (l2 rfl rfl (by omega)) (aA (aB) (aW rfl (aA (aG (c:=0) Tryz.underlying28 rfl rS rfl rfl) (aW rfl ?_))));simp only[ev,zD,zE,zF,zG];refine aI rfl ((m.b 3 rfl).lies1 Ba rfl) ?_;simp only[ev,zD,zE,zF,zG];refine aW rfl (aA (bM rfl Tryz.underlying26 rfl) (aW rfl ?_));simp only[ev,zD,zE,zF,zG];refine aA (l2 rfl rfl (by omega)) (aA (cQ rfl) (aC (k14 _ _ ?_)));refine bS rfl (aF fun K15 k15=>?_);simp only[ev,zD,zE,zF,zG];refine eV 10 [0,1,2,3,4,5,6,7,8] [⟨9,6,56,[.int .i64 0,.int .i64 0,.int .i64 0]⟩] aU (by kernel_rfl) (Wm ⟨_,_,_,rfl,by kernel_rfl,_,e9,rfl⟩) (ol:=?_) ?hol ?_
    case hol=>simp only[zQ,zR,zS,zT,zU,zV]; try rfl
    intro u e; replace m:=m.ext' e; clear e;refine iE (aG (c:=0) Tryz.underlying28 rfl rS rfl rfl) ?_;simp only[ev,zD,zE,zF,zG];refine eT rfl (fun u e=>(((m.ext' e).b 3 rfl).lies1 Ba rfl)) ?_;simp only[ev,zD,zE,zF,zG];refine iE (aB) (iE (aG (c:=0) Tryz.underlying28 rfl rS rfl rfl) ?_);simp only[ev,zD,zE,zF,zG];refine eT rfl (fun u e=>(((m.ext' e).b 3 rfl).lies1 Ba rfl)) ?_;simp only[ev,zD,zE,zF,zG];refine iE (bM rfl Tryz.underlying26 rfl) ?_;simp only[ev,zD,zE,zF,zG];refine iE (dF rfl rfl (by omega) (show ((i : Int)).tmod (PN : Int) = ((i % PN : Nat) : Int) from rfl)) ?_;simp only[ev,zD,zE,zF,zG];refine iE (aT Tryz.underlying26 aN rfl rfl (Int.natCast_nonneg _) (by omega) (vY (Int.toNat_natCast _))) ?_;simp only[ev,zD,zE,zF,zG];refine eT rfl (fun u e=>(((hrow.ext (m.ext' e).ext)).lies bC aN)) ?_;simp only[ev,zD,zE,zF,zG];refine sI (Wu m ?_);clear m; intro g2 u m;simp only[zJ,zK,zF,zG];refine aV m 0 rfl rfl rfl aN (b9 rfl) rfl ?_;clear m; intro u m; simp only[a8,zH,zI,zJ,zK,zL,zM,zN,zO,zP,zF,zG,Nat.reduceAdd] at m;refine aC (k15 _ _ ?_);refine aF fun K16 k16=>wp_region_lit (aA (aB) (aA (aB) ?_));simp only[ev,zD,zE,zF,zG];refine aA (aT Tryz.underlying22 aO rfl rfl (by omega) (by omega) (d7 (Int.toNat_natCast _))) ?_;simp only[ev,zD,zE,zF,zG];refine aI rfl (Lith.lies1 ((m.o 1 rfl).rows i _ hbz) aZ) ?_;simp only[ev,zD,zE,zF,zG];refine aA (gS rfl rfl (by omega) (aL (by omega) (by omega))) (aA (aX rfl rfl (aL (by omega) (by omega))) (aA (aD) (aC (k16 _ _ ?_))));simp only[ev,zD,zE,zF,zG];refine mh m [true,true,false,true,true] [(0,true),(1,true),(2,true),(3,true),(4,true),(6,true),(8,true),(10,true),(12,true),(14,true),(16,true),(7,true),(9,true),(11,true),(13,true),(15,true),(17,true),(18,true),(5,false),(19,false),(20,true),(21,false)] aU (by kernel_rfl) (dN (fun _ _ _ _ _ h=>h)) (ol:=?_) ?hol ?_
    case hol=>simp only[zQ,zR,zS,zT,zU,zV]; try rfl
    clear m; intro u m;refine bQ (aB) (bQ (aB) (bQ (aB) (bQ (aB) ?_)));simp only[ev,zD,zE,zF,zG];refine bQ (aT Tryz.underlying29 jV rfl rfl (by omega) (by omega) (d7 (Int.toNat_natCast _))) (bQ (aG (c:=0) Tryz.underlying56 rfl aO rfl rfl) (bQ (aB) (bQ (aG (c:=0) Tryz.underlying56 rfl aO rfl rfl) ?_)));simp only[ev,zD,zE,zF,zG];refine bQ (aB) (bQ (aG (c:=0) Tryz.underlying56 rfl aO rfl rfl) (bQ (aB) ?_));simp only[ev,zD,zE,zF,zG];refine eQ rfl (fun u m=>((m.b 0 rfl).lies1 aZ rfl)) ?_;simp only[ev,zD,zE,zF,zG];refine bQ (dF rfl rfl (by omega) rfl) ?_;simp only[ev,zD,zE,zF,zG];refine eQ rfl (fun u m=>((m.b 0 rfl).lies1 aZ rfl)) ?_;simp only[ev,zD,zE,zF,zG];refine bQ (dF rfl rfl (by omega) rfl) ?_;simp only[ev,zD,zE,zF,zG];refine eQ rfl (fun u m=>((m.b 0 rfl).lies1 aZ rfl)) ?_;simp only[ev,zD,zE,zF,zG];refine bQ (dF rfl rfl (by omega) rfl) (bQ (bL rfl rfl rfl) (dZ ?_));simp only[ev,zD,zE,zF,zG];refine aI rfl (Lith.lies1 ((m.o 2 rfl).rows i _ hh2) Er) ?_;simp only[ev,zD,zE,zF,zG];refine aC ?_;refine ⟨m.sel [true,true,false,true,true],?_⟩;refine dZ (bO rfl rfl (Py (v:=⟨p.x.tmod ((jP zs i).tdiv 2 + 1),p.y.tmod ((jP zs i).tdiv 2 + 1),p.z.tmod ((jP zs i).tdiv 2 + 1)⟩) _ ((hcov.at_ i _ l hh hx0).2 _ (m.l 3 rfl)) (fun t ht=>by rw [← hsv]; exact Qu (hsml t ht) (Cq hz0 hzb.2) hzb.2) (by have:=((hcov.at_ i _ l hh hx0).2 _ (m.l 3 rfl)).len; simp only at this; omega)) ?_);rintro v u e ⟨A6,cap6,n6,hn6,rfl,hN⟩; replace m:=m.newO e hN; clear e hN;rw [← hsv] at m hn6;have hle6:=(m.o 0 rfl).le;refine aC ?_;refine ⟨m.sel [false,true,true,false,true,true],?_⟩;simp only[ev,zD,zE,zF,zG];refine bQ (aT Tryz.underlying29 jV rfl rfl (by omega) (by omega) (eF (Int.toNat_natCast _))) (dZ ?_);simp only[ev,zD,zE,zF,zG];refine Gl m 3 rfl rfl rfl jV (by simp; omega) rfl ?_;clear m; intro u m; simp only[zF,zG] at m;simp only[ev,zD,zE,zF,zG] at m;rw [show ([.slice A6 n6 cap6] : List Go.Value) = [Hd.v ⟨A6,n6,cap6⟩] from rfl,Cv (by omega)] at m;refine aC ?_;refine ⟨m.sel [false,true,true,false,true,true],?_⟩;refine cZ ?_;replace m:=m.oR 0 rfl; simp only[zF,zG] at m;replace m:=m.join 3 rfl; simp only[zF,zG] at m;refine k8 _ _ ?_;refine wp_region_lit (aA (aB) ?_);simp only[ev,zD,zE,zF,zG];refine aA (aX rfl rfl (aL (by omega) (by omega))) (aA (aD) (aC ?_));simp only[ev,zD,zE,zF,zG];simp only[Exit.inBlock,Exit.then];refine ⟨F.length - (i + 1),_,?_,rfl,?_,?_⟩
    · omega
    · simp only[zQ,zR,zD,zE,aK,aQ,aM,aP,zF,zG]
    ·
     simp only[zQ,zR,zD,zE];exact ⟨i + 1,hs.set i ⟨A6,n6,cap6⟩,[(A6,(l.map (T3.sh (oU ss (jP zs i) i))).flatMap bV)] ++ L,xs.set i (l.map (T3.sh (oU ss (jP zs i) i))),rfl,(m.sel [false,true,true,true,true]),(hcov.mono (fun e he=>List.mem_append_right _ he)).set ((M1 hn6 (fun t ht=>by obtain ⟨u,hu,rfl⟩:=List.mem_map.1 ht; exact Qu (hsml u hu) (Cq hz0 hzb.2) hzb.2) hle6).mono (fun e he=>List.mem_append_left _ he)),by rw [List.length_set]; exact hhl,hlo2,hhi2,by omega,rfl⟩
  ·
   have hxe : xs = cY ss (gG F.length zs) F:=by
    apply List.ext_getElem?;intro j;rcases Nat.lt_or_ge j i with h | h
    · exact hlo j h
    · rw [List.getElem?_eq_none (by omega),List.getElem?_eq_none (by rw [kE]; omega)]
   refine wp_exit (k4 _ _ ?_);refine aF fun K17 k17=>wp_region_lit (aA (aB) (aA (aD) (aC (k17 _ _ ?_))));refine wp_ret ?_;simp only[ev,zD,zE,zF,zG];try simp only[Exit.inBlock,Exit.then,if_true]
   refine bT rfl rfl ?_;try simp only[zD,zE]
   exact ⟨_,rfl,m.ext,_,_,_,hs,L,rfl,hhl.symm,m.sel [false,true,true,false],by rw [← hF,← hxe]; exact hcov⟩
end Go.Proofs.YtimjandkmfcmiaaGreatDoor
namespace Go.Lith
open Go.RowKit
/-! ### Points put into a sorted list -/
section
variable {α : Type} {p : α → Bool} {l : List α} {k : Nat}
def Wk (p : α → Bool) (l : List α) (k : Nat) : Prop:=∀ j x,j < k → l[j]? = some x → p x = true
theorem Wk.zero : Wk p l 0:=fun j _ hj=>by omega
theorem Wk.step {x : α} (h : Wk p l k) (hx : l[k]? = some x) (hp : p x = true) : Wk p l (k + 1):=fun j y hj hy=>by
 rcases Nat.lt_or_ge j k with h1 | h1
 · exact h j y h1 hy
 · obtain rfl : j = k:=by omega
   rw [hx] at hy;cases hy;exact hp
end
/-! ### The border -/
/-! ### Pinched corners -/
end Go.Lith
namespace Go.Proofs.YtimjandkmfcmiaaGreatDoor
open Go.RowKit Go.Lith
set_option maxRecDepth 100000
attribute [local irreducible] wpList wpQuiet dV dK dI Code.wp
theorem oO {m : Nat} : ∀ {xs : List (List T3)},(∀ l ∈ xs,l.length ≤ m) → xs.flatten.length ≤ xs.length * m
 | [],_=>Nat.zero_le _
 | l :: xs,h=>by
  rw [List.flatten_cons,List.length_append,List.length_cons,Nat.succ_mul];have h1:=h l (List.mem_cons_self ..);have h2:=oO (xs:=xs) fun y hy=>h y (List.mem_cons_of_mem _ hy);omega
theorem uR {ss : List P3} {b : Int} {i : Nat} {l : List T3} : (fL ss b i l).length ≤ l.length:=by
 unfold fL;split
 · exact Nat.zero_le _
 ·
  split
  · rw [List.length_map]; exact Nat.le_refl _
  · exact Nat.le_refl _
theorem As {ss : List P3} {bs : List Int} {F : List (List T3)} {x : List T3} (h : x ∈ cY ss bs F) : ∃ i l,F[i]? = some l ∧ x = fL ss (eB bs i) i l:=by
 obtain ⟨i,hi⟩:=List.mem_iff_getElem?.1 h;have hlt:=(List.getElem?_eq_some_iff.1 hi).1;rw [kE] at hlt;have hl : F[i]? = some F[i]:=List.getElem?_eq_getElem hlt;rw [kF hl] at hi;exact ⟨i,_,hl,(Option.some.inj hi).symm⟩
structure xK (F : List (List T3)) : Prop where
 len : F.length ≤ 30
 each : ∀ l ∈ F,l.length ≤ 12
 sm : ∀ (i : Nat) (l : List T3),F[i]? = some l → ∀ t ∈ l,Ek 200 t
theorem Eh {kind bits : Int} {hz : List Int} {q : Nat} : xK (fD (1 + q % 12) 30 (kU kind bits hz)) :=
 ⟨tY,fun l hl=>Nat.le_trans (xF hl) (by omega),fun i l hl=>Ar wX hl⟩
theorem xK.flat {F : List (List T3)} (f : xK F) : F.flatten.length ≤ 360:=by
 have h1:=oO f.each;have h2:=f.len;omega
theorem xK.it {F : List (List T3)} (f : xK F) : ∀ t ∈ F.flatten,IT t:=fun t ht=>by
 obtain ⟨l,hl,htl⟩:=List.mem_flatten.1 ht;obtain ⟨j,hj⟩:=List.mem_iff_getElem?.1 hl;exact (f.sm j l hj t htl).it (by decide)
theorem xK.shown {F : List (List T3)} (f : xK F) (ss : List P3) (bs : List Int) : (cY ss bs F).length ≤ 30 ∧ (∀ l ∈ cY ss bs F,l.length ≤ 300000) ∧ (cY ss bs F).flatten.length ≤ 360:=by
 have h1 : ∀ l ∈ cY ss bs F,l.length ≤ 12:=fun x hx=>by
  obtain ⟨i,l,hl,rfl⟩:=As hx;exact Nat.le_trans uR (f.each l (List.mem_of_getElem? hl))
 have h2:=oO h1;rw [kE] at h2 ⊢;have h3:=f.len;exact ⟨h3,fun l hl=>Nat.le_trans (h1 l hl) (by decide),by omega⟩
theorem M2 {n : Nat} {zs : List Int} : ∀ z ∈ gG n zs,kW z:=fun z hz=>by
 have:=S8 n zs z hz;exact ⟨by omega,by omega⟩
theorem Tn {n : Nat} {zs : List Int} : ∀ i,i < n → eB (gG n zs) i ≤ 49:=fun i hi=>by
 rw [xG hi];exact (Cp zs i).2
theorem xK.right {F : List (List T3)} (ss : List P3) (zs : List Int) (r : e8) : tT (cL r (cY ss (gG F.length zs) F) (gG F.length zs)) (bB r F.flatten):=(shows Tn).right r
end Go.Proofs.YtimjandkmfcmiaaGreatDoor
namespace Go.Proofs.YtimjandkmfcmiaaGreatDoor
open Go.RowKit Go.Lith
set_option maxRecDepth 100000
attribute [local irreducible] wpList wpQuiet dV dK dI Code.wp
theorem Cs.zero {bs : List Int} {fine xs : List (List T3)} : Cs [] bs bs fine xs xs:=⟨rfl,fun i h=>(by cases h),fun i _=>⟨rfl,rfl⟩⟩
theorem P0 {bs : List Int} {j : Nat} (h : j < bs.length) : eB (bs.set j 0) j = 0:=by
 rw [eB,List.getElem?_set_self h]; rfl
theorem M3 {bs : List Int} {j k : Nat} (h : j ≠ k) : eB (bs.set j 0) k = eB bs k:=by
 rw [eB,List.getElem?_set_ne h]; rfl
theorem Cs.step {os bs bs' : List Int} {fine xs xs' : List (List T3)} {i j : Nat} {l : List T3} (p : Cs (os.take i) bs bs' fine xs xs') (hi : os[i]? = some (j : Int)) (hl : fine[j]? = some l) (h1 : j < xs'.length) (h2 : j < bs'.length) :
 Cs (os.take (i + 1)) bs (bs'.set j 0) fine xs (xs'.set j l):=by
 rw [kC hi];refine ⟨by rw [List.length_set]; exact p.len,fun k hk=>?_,fun k hk=>?_⟩
 · by_cases e : j = k
   · subst e
     exact ⟨by rw [List.getElem?_set_self h1,hl],P0 h2⟩
   · have hk' : (k : Int) ∈ os.take i:=by
      rcases List.mem_append.1 hk with h | h
      · exact h
      · have:=List.mem_singleton.1 h; omega
     rw [List.getElem?_set_ne e,M3 e];exact p.on k hk'
 · have hk' : (k : Int) ∉ os.take i:=fun h=>hk (List.mem_append_left _ h)
   have e : j ≠ k:=fun e=>hk (List.mem_append_right _ (by rw [e]; exact List.mem_singleton.2 rfl));rw [List.getElem?_set_ne e,M3 e];exact p.off k hk'
theorem M4 {bs : List Int} {j : Nat} {z : Int} (h : j < bs.length) : a8 (bs.map (Value.int .i64 ·)) j [.int .i64 z] = (bs.set j z).map (Value.int .i64 ·):=by
 apply List.ext_getElem?;intro k;unfold a8;rw [List.getElem?_map,List.getElem?_set,List.append_assoc];rcases Nat.lt_trichotomy k j with hj | hj | hj
 · rw [List.getElem?_append_left (by rw [List.length_take,List.length_map]; omega),List.getElem?_take_of_lt hj,List.getElem?_map,if_neg (by omega)]
 · subst hj
   rw [List.getElem?_append_right (by rw [List.length_take]; omega),List.length_take,List.length_map,Nat.min_eq_left (by omega),Nat.sub_self,if_pos rfl,if_pos h];rfl
 · rw [List.getElem?_append_right (by rw [List.length_take,List.length_map]; omega),List.length_take,List.length_map,Nat.min_eq_left (by omega),if_neg (by omega),List.getElem?_append_right (by simp; omega),List.getElem?_drop,List.getElem?_map]
   congr 2
   simp;omega
theorem M5 {xs : List (List T3)} {j : Nat} {l : List T3} {P : List T3 → Prop} (h : ∀ x ∈ xs,P x) (hl : P l) : ∀ x ∈ xs.set j l,P x:=fun x hx=>by
 rcases List.mem_or_eq_of_mem_set hx with h' | rfl
 · exact h x h'
 · exact hl
theorem xK.shown12 {F : List (List T3)} (f : xK F) (ss : List P3) (bs : List Int) : ∀ l ∈ cY ss bs F,l.length ≤ 12:=fun x hx=>by
 obtain ⟨i,l,hl,rfl⟩:=As hx;exact Nat.le_trans uR (f.each l (List.mem_of_getElem? hl))
end Go.Proofs.YtimjandkmfcmiaaGreatDoor
namespace Go.Proofs.YtimjandkmfcmiaaGreatDoor
open Go.RowKit Go.Lith
set_option maxRecDepth 100000
attribute [local irreducible] wpList wpQuiet dV dK dI Code.wp
theorem w4 (z mo : Int) : (¬ 0 < z ∧ mo % 5 = 4) ∨ (¬ 0 < z ∧ ¬ mo % 5 = 4) ∨ (0 < z ∧ ¬ mo % 5 = 4) ∨ (0 < z ∧ mo % 5 = 4):=by omega
theorem M6 {l : List Int} {k : Nat} {y z : Int} (h : l[k]? = some y) : (decide (z ∈ l.take k) || decide (y = z)) = decide (z ∈ l.take (k + 1)):=by
 rw [kC h,← Bool.decide_or];refine decide_eq_decide.2 ?_;rw [List.mem_append,List.mem_singleton];exact or_congr Iff.rfl eq_comm
end Go.Proofs.YtimjandkmfcmiaaGreatDoor
namespace Go.Proofs.YtimjandkmfcmiaaGreatDoor
open Go.RowKit Go.Lith
set_option maxRecDepth 100000
attribute [local irreducible] wpList wpQuiet dV dK dI Code.wp
def dY (r : e8) : e8:=⟨⟨r.s.x.tmod 100000,r.s.y.tmod 100000,r.s.z.tmod 100000⟩,r.w.tmod 1000,r.d⟩
theorem pR {f x : Int} (hf : 1 ≤ f ∧ f ≤ 20) (hx : -100000 < x ∧ x < 100000) : -2000000 ≤ f * x ∧ f * x ≤ 2000000:=by
 constructor
 · have:=Int.mul_le_mul_of_nonneg_left (show (-100000 : Int) ≤ x by omega) (show 0 ≤ f by omega)
   omega
 · have:=Int.mul_le_mul_of_nonneg_left (show x ≤ 100000 by omega) (show 0 ≤ f by omega)
   omega
theorem F5 (r : e8) : (-100000 < (dY r).s.x ∧ (dY r).s.x < 100000) ∧ (-100000 < (dY r).s.y ∧ (dY r).s.y < 100000) ∧ (-100000 < (dY r).s.z ∧ (dY r).s.z < 100000) ∧ (-100000 < (dY r).w ∧ (dY r).w < 100000):=by
 have hw:=qN (n:=r.w) (m:=1000) (by decide);exact ⟨qN (by decide),qN (by decide),qN (by decide),by show -100000 < r.w.tmod 1000 ∧ r.w.tmod 1000 < 100000; omega⟩
theorem To {r : e8} [h : IR r] : IR (dY r):=by
 obtain ⟨h1,h2,h3,h4⟩:=F5 r;exact ⟨⟨⟨by omega,by omega⟩,⟨by omega,by omega⟩,⟨by omega,by omega⟩⟩,⟨by omega,by omega⟩,h.d⟩
theorem M7 {r : e8} [h : IR r] {f : Int} (hf : 1 ≤ f ∧ f ≤ 20) : IR ((dY r).times f):=by
 obtain ⟨h1,h2,h3,h4⟩:=F5 r;have k1:=pR hf h1;have k2:=pR hf h2;have k3:=pR hf h3;have k4:=pR hf h4;exact ⟨⟨show kW (f * (dY r).s.x) from ⟨by omega,by omega⟩,show kW (f * (dY r).s.y) from ⟨by omega,by omega⟩,show kW (f * (dY r).s.z) from ⟨by omega,by omega⟩⟩,show kW (f * (dY r).w) from ⟨by omega,by omega⟩,h.d⟩
def uZ (n : Nat) (b : Int) (i : Nat) : Nat:=(((i : Int) + b) % (n : Int)).toNat
theorem tE {n i : Nat} {b : Int} (hn : 0 < n) : ((i : Int) + b) % (n : Int) = ((uZ n b i : Nat) : Int):=by
 have:=Int.emod_nonneg ((i : Int) + b) (show (n : Int) ≠ 0 by omega);unfold uZ;omega
theorem Cz {n i : Nat} {b : Int} (hn : 0 < n) : uZ n b i < n:=by
 have h:=tE (i:=i) (b:=b) hn;have:=Int.emod_lt_of_pos ((i : Int) + b) (show (0 : Int) < n by omega);omega
theorem vK {n i : Nat} {b : Int} (hi : i < n) : uZ n (-b) (uZ n b i) = i:=by
 have hn : 0 < n:=by omega
 have h1:=tE (i:=i) (b:=b) hn;have h2:=tE (i:=uZ n b i) (b:=-b) hn;rw [← h1] at h2;have h3 : (((i : Int) + b) % (n : Int) + -b) % (n : Int) = (i : Int):=by
  rw [Int.emod_add_emod,Int.add_neg_cancel_right];exact Int.emod_eq_of_lt (by omega) (by omega)
 omega
theorem P4 {n : Nat} {b0 : Int} {bs cs : List Int} {xs ys : List (List T3)} (h1 : xs.length = n) (h2 : ys.length = n) (ha : ∀ j,j < n → ys[uZ n b0 j]? = xs[j]? ∧ cs[uZ n b0 j]? = bs[j]?) : yD n (uZ n b0) (uZ n (-b0)) bs cs xs ys:=by
 rcases Nat.eq_zero_or_pos n with h0 | hn
 · subst h0
   exact ⟨h1,h2,fun i h=>by omega,fun i h=>by omega,fun i h=>by omega,fun i h=>by omega,fun i h=>by omega,fun i h=>by omega⟩
 · refine ⟨h1,h2,fun i _=>Cz hn,fun i _=>Cz hn,fun i hi=>?_,fun i hi=>vK hi,fun i hi=>(ha i hi).1,fun i hi=>by rw [eB,(ha i hi).2]; rfl⟩
   have:=vK (b:=-b0) hi;rwa [Int.neg_neg] at this
theorem Qv {l : List Int} {i j : Nat} {u v : Int} (hp : l.Pairwise (· < ·)) (hij : i < j) (hu : l[i]? = some u) (hv : l[j]? = some v) : u < v:=by
 obtain ⟨h1,e1⟩:=List.getElem?_eq_some_iff.1 hu;obtain ⟨h2,e2⟩:=List.getElem?_eq_some_iff.1 hv;have:=List.pairwise_iff_getElem.1 hp i j h1 h2 hij;omega
theorem P5 {w : World} {g : Nat} {cs : List Go.Value} {t : TypeId} (hB : eU w g cs t) : s7 w (some ⟨g,0,none⟩) cs:=fun j u hj=>⟨_,rfl,by
 have:=hB.row 0 j u (by rw [List.drop_zero]; exact hj);exact this⟩
theorem P6 {L : Cu} (n : Nat) : yE L (List.replicate n ⟨none,0,0⟩) (List.replicate n []):=by
 refine ⟨by simp,fun i h l h1 h2=>?_⟩;obtain rfl:=List.eq_of_mem_replicate (List.mem_of_getElem? h1);obtain rfl:=List.eq_of_mem_replicate (List.mem_of_getElem? h2);exact kV.nil L
theorem P7 {n i : Nat} {b0 : Int} {bs cs : List Int} {xs ys : List (List T3)} {l : List T3} {z : Int} (hi : i < n) (hy : ys.length = n) (hc : cs.length = n) (hx : xs[i]? = some l) (hz : bs[i]? = some z) (ha : ∀ j,j < i → ys[uZ n b0 j]? = xs[j]? ∧ cs[uZ n b0 j]? = bs[j]?) :
 ∀ j,j < i + 1 → (ys.set (uZ n b0 i) l)[uZ n b0 j]? = xs[j]? ∧ (cs.set (uZ n b0 i) z)[uZ n b0 j]? = bs[j]?:=by
 intro j hj;have hn : 0 < n:=by omega
 have hl:=Cz (i:=i) (b:=b0) hn;rcases Nat.lt_or_ge j i with h | h
 · have hne : uZ n b0 i ≠ uZ n b0 j:=fun e=>by
    have h1:=vK (b:=b0) hi;rw [e,vK (by omega)] at h1;omega
   rw [List.getElem?_set_ne hne,List.getElem?_set_ne hne];exact ha j h
 · obtain rfl : j = i:=by omega
   rw [List.getElem?_set_self (by omega),List.getElem?_set_self (by omega),hx,hz];exact ⟨rfl,rfl⟩
theorem C0 {kind bits : Int} [Iw kind] [Iw bits] {q : Nat} {r : e8} [IR r] {HA ZA PA : Option Addr} {HN Hc ZN Zc PN Pc : Nat} {hz zs : List Int} {ss : List P3} {a1 : Int} [Iw a1] {fa : Int} (w : World) (hH : cT w HA HN hz) (hZ : cT w ZA ZN zs) (hP : Am Tf 3 w PA PN ss) (hq : q < 256) (hm : 0 ≤ fa ∧ fa < 256) : gD Tryz.prog 8 [.agg #[.int .i64 kind,.int .i64 bits,.slice HA HN Hc,.int .u8 (q : Int),.slice ZA ZN Zc,.int .i64 r.s.x,.int .i64 r.s.y,.int .i64 r.s.z,.int .i64 r.w,.int .i64 r.d.x,.int .i64 r.d.y,.int .i64 r.d.z,.slice PA PN Pc],.int .i64 a1,.int .u8 fa] w (fun v _=>v = .bool true):=by
 refine ⟨Ws,?_⟩;have m:=bU.refl w;obtain ⟨b0,hb0⟩ : ∃ b0,b0 = a1.tmod 1000:=⟨_,rfl⟩
 have hb1:=qN (n:=a1) (m:=1000) (by decide);rw [← hb0] at hb1;have hfd : fa.tmod 20 = fa % 20:=Int.tmod_eq_emod_of_nonneg hm.1;obtain ⟨fc,hfc⟩ : ∃ fc,fc = 1 + fa % 20:=⟨_,rfl⟩
 have hf20 : 1 ≤ fc ∧ fc ≤ 20:=by omega
 haveI : IR (dY r):=To;haveI : IR ((dY r).times fc):=M7 hf20;obtain ⟨hcx,hcy,hcz,hcw⟩:=F5 r;have hfx : -9223372036854775808 ≤ fc * r.s.x.tmod 100000 ∧ fc * r.s.x.tmod 100000 < 9223372036854775808:=by have h : -2000000 ≤ fc * r.s.x.tmod 100000 ∧ fc * r.s.x.tmod 100000 ≤ 2000000:=pR hf20 hcx; omega
 have hfy : -9223372036854775808 ≤ fc * r.s.y.tmod 100000 ∧ fc * r.s.y.tmod 100000 < 9223372036854775808:=by have h : -2000000 ≤ fc * r.s.y.tmod 100000 ∧ fc * r.s.y.tmod 100000 ≤ 2000000:=pR hf20 hcy; omega
 have hfz : -9223372036854775808 ≤ fc * r.s.z.tmod 100000 ∧ fc * r.s.z.tmod 100000 < 9223372036854775808:=by have h : -2000000 ≤ fc * r.s.z.tmod 100000 ∧ fc * r.s.z.tmod 100000 ≤ 2000000:=pR hf20 hcz; omega
 have hfw : -9223372036854775808 ≤ fc * r.w.tmod 1000 ∧ fc * r.w.tmod 1000 < 9223372036854775808:=by have h : -2000000 ≤ fc * r.w.tmod 1000 ∧ fc * r.w.tmod 1000 ≤ 2000000:=pR hf20 hcw; omega
 go_enter Tryz.func8,Tryz.ntmps8
 refine aF fun K1 k1=>wp_region_lit (dJ m rfl ?_);clear m; intro g1 u m;refine aA (aD) (aC (k1 _ _ ?_));try clear k1 K1
 refine aF fun K2 k2=>wp_region_lit ?_;simp only[zA,zB,zC,zD,zE,zF,zG];refine bH m rfl rfl (Mx) ?_;clear m; intro u m;refine aA (aD) (aC (k2 _ _ ?_));try clear k2 K2
 refine aF fun K3 k3=>wp_region_lit ?_;simp only[zA,zB,zC,zD,zE,zF,zG];refine aI rfl ((m.b 0 rfl).full Bb rT) ?_;simp only[zA,zB,zC,zD,zE,zF,zG];refine bO rfl rfl (Pz (kind:=kind) (bits:=bits) (r:=r) (zs:=zs) (ss:=ss) (hz:=hz) _ (hH.ext m.ext) (hZ.ext m.ext) (hP.ext m.ext) hq) ?_;rintro v u e ⟨A7,n7,cap7,hs,L,rfl,hn7,hM,hcov⟩; replace m:=m.plus hM; clear hM e; simp only[List.cons_append,List.nil_append] at m;obtain ⟨F,hF⟩ : ∃ F,F = fD (1 + q % 12) 30 (kU kind bits hz):=⟨_,rfl⟩
 have hfn : xK F:=by rw [hF]; exact Eh
 rw [← hF] at hcov;have hcl:=hcov.len;rw [kE] at hcl;have e7 : n7 = F.length:=hn7.trans hcl;subst e7;have hfs:=hfn.shown ss (gG F.length zs);have hfl:=hfn.len;refine aA (aD) (aC (k3 _ _ ?_));try clear k3 K3
 refine aF fun K4 k4=>wp_region_lit ?_;simp only[zA,zB,zC,zD,zE,zF,zG];refine aI rfl ((m.b 2 rfl).full Bb rT) ?_;simp only[zA,zB,zC,zD,zE,zF,zG];refine aA (aB) (aA (bM rfl Tryz.underlying29 rfl) ?_);simp only[zA,zB,zC,zD,zE,zF,zG];refine bO rfl rfl (Eg (n0:=F.length) (kind:=kind) (bits:=bits) (r:=r) (zs:=zs) (ss:=ss) (hz:=hz) _ (hH.ext m.ext) (hZ.ext m.ext) (hP.ext m.ext) hq hfl) ?_;rintro v u e ⟨A8,cap8,rfl,hN⟩; replace m:=m.newO e hN; clear e hN;refine aA (aD) (aC (k4 _ _ ?_));try clear k4 K4
 refine aF fun K5 k5=>wp_region_lit (aA (aB) (aA (bM rfl Tryz.underlying29 rfl) ?_));simp only[zA,zB,zC,zD,zE,zF,zG];refine aA (aD) (aC (k5 _ _ ?_));try clear k5 K5
 refine aF fun K6 k6=>wp_region_lit (aA (aB) ?_);simp only[zA,zB,zC,zD,zE,zF,zG];refine iR Tryz.underlying29 Jm rfl rfl rfl (Int.toNat_natCast _) (Int.toNat_natCast _) (by omega) (by omega) (by omega) (by omega) ?_;intro u g2 e hg hB; replace m:=m.newB e hg hB; clear e hg hB;refine aA (aD) (aC (k6 _ _ ?_));try clear k6 K6
 refine aF fun K7 k7=>wp_region_lit (aA (aB) ?_);simp only[zA,zB,zC,zD,zE,zF,zG];refine iR Tryz.underlying22 iW rfl rfl rfl (Int.toNat_natCast _) (Int.toNat_natCast _) (by omega) (by omega) (by omega) (by omega) ?_;intro u g3 e hg hB; replace m:=m.newB e hg hB; clear e hg hB;refine aA (aD) (aC (k7 _ _ ?_));try clear k7 K7
 refine aF fun K8 k8=>aF fun K9 k9=>wp_region_lit (aA (aD) (aC (k9 _ _ ?_)));try clear k9 K9
 refine wp_block ?_;simp only[zA,zB,zC,zD,zE,zF,zG];try simp only[Nat.zero_add,Nat.reduceAdd,Nat.reduceMul,Int.reduceToNat]
 refine cX [13] [14,36,37,38,39,40,41,42,43,44,45,46,47,48,49,50,51,52,53,54,55,56,57,58,59,60] (fun n vs wl=>∃ (i : Nat) (hsY : List Hd) (ys : List (List T3)) (cs : List Int),vs = [.int .i64 (i:Int)] ∧ bU w wl [bI g3 (cs.map (Value.int .i64 ·)) 3,bI g2 (hsY.map Hd.v) 48,oI 3 1 A8 F.length cap8 ((gG F.length zs).map (Value.int .i64 ·)),oI 48 1 A7 F.length cap7 (hs.map Hd.v),lG L,bI g1 [.int .i64 kind,.int .i64 bits,.slice HA HN Hc,.int .u8 (q : Int),.slice ZA ZN Zc,.int .i64 r.s.x,.int .i64 r.s.y,.int .i64 r.s.z,.int .i64 r.w,.int .i64 r.d.x,.int .i64 r.d.y,.int .i64 r.d.z,.slice PA PN Pc] 28] ∧ (yE L hsY ys) ∧ (hsY.length = F.length ∧ ys.length = F.length ∧ cs.length = F.length) ∧ (∀ j,j < i → ys[uZ F.length b0 j]? = (cY ss (gG F.length zs) F)[j]? ∧ cs[uZ F.length b0 j]? = (gG F.length zs)[j]?) ∧ (∀ z ∈ cs,kW z) ∧ (∀ l ∈ ys,l.length ≤ 12) ∧ (i ≤ F.length) ∧ (n = F.length - i)) ?_ ?_
 · skip
   apply Exists.intro;simp only[zQ,zR,zD,zE];exact ⟨0,List.replicate F.length ⟨none,0,0⟩,List.replicate F.length [],List.replicate F.length 0,rfl,((m.re 1 rfl (by rw [List.map_replicate]; exact (m.b 1 rfl))).re 0 rfl (by rw [List.map_replicate]; exact (m.b 0 rfl))),P6 _,⟨by simp,by simp,by simp⟩,fun j h=>absurd h (Nat.not_lt_zero _),fun z hz=>by rw [List.eq_of_mem_replicate hz]; exact ⟨by decide,by decide⟩,fun l hl=>by rw [List.eq_of_mem_replicate hl]; exact Nat.zero_le _,Nat.zero_le _,rfl⟩
 · intro n vs wr hI u
   clear m;obtain ⟨i,hsY,ys,cs,rfl,m,hcvY,hly,hat,hci,hy12,hi,hn⟩:=hI;simp only[aK,aQ,aM,aP,zF,zG];refine aF fun K10 k10=>aF fun K11 k11=>wp_region_lit (aA (aB) (aA (aB) (aA (dS rfl rfl) (aC (k11 _ _ ?_)))));try clear k11 K11
   simp only[zA,zB,zC,zD,zE,zF,zG];refine cK rfl (fun hc1=>?_) (fun hc1=>?_)
   · skip
     haveI : Iw ((i : Int) + b0):=⟨⟨by omega,by omega⟩⟩
     obtain ⟨g7o,rfl⟩:=(m.o 3 rfl).some (by omega);obtain ⟨g8o,rfl⟩:=(m.o 2 rfl).some (by omega);obtain ⟨z,hz⟩ : ∃ z,((gG F.length zs))[i]? = some z:=⟨_,List.getElem?_eq_getElem (by rw [Pk]; omega)⟩
     have hz2 : (((gG F.length zs).map (Value.int .i64 ·)))[i]? = some (.int .i64 z):=by rw [List.getElem?_map,hz]; rfl
     have hzm:=M2 z (List.mem_of_getElem? hz);obtain ⟨⟨HB,Hn,Hcp⟩,hh⟩ : ∃ h,hs[i]? = some h:=⟨_,List.getElem?_eq_getElem (by omega)⟩
     have hh2 : (hs.map Hd.v)[i]? = some (.slice HB Hn Hcp):=by rw [List.getElem?_map,hh]; rfl
     have hxl2:=kE ss (gG F.length zs) F;obtain ⟨l,hl⟩ : ∃ l,(cY ss (gG F.length zs) F)[i]? = some l:=⟨_,List.getElem?_eq_getElem (by omega)⟩
     have hsl:=Cz (i:=i) (b:=b0) (show 0 < F.length by omega);have hlm:=hfn.shown12 ss _ l (List.mem_of_getElem? hl);refine wp_skip (k10 _ _ ?_);try clear k10 K10
     refine aF fun K12 k12=>wp_block (aF fun K13 k13=>wp_region_lit (aA (aB) (aA (aB) ?_)));simp only[zA,zB,zC,zD,zE,zF,zG];refine aA (dF rfl rfl (by omega) hb0.symm) ?_;simp only[zA,zB,zC,zD,zE,zF,zG];refine aA (aX rfl rfl (aL (by omega) (by omega))) (aA (aB) ?_);simp only[zA,zB,zC,zD,zE,zF,zG];refine bH m rfl rfl (vJ (n:=(i : Int) + b0) (k:=(F.length : Int)) (by omega) (by omega)) ?_;clear m; intro u m;refine aA (aD) (aC (k13 _ _ ?_));try clear k13 K13
     refine aF fun K14 k14=>?_;simp only[zA,zB,zC,zD,zE,zF,zG];rw [tE (show 0 < F.length by omega)];refine wp_region_lit (aA (aB) (aA (aB) (aA (aB) (aA (aB) ?_))));simp only[zA,zB,zC,zD,zE,zF,zG];refine aA (aT Tryz.underlying29 jV rfl rfl (by omega) (by omega) (d7 (Int.toNat_natCast _))) ?_;simp only[zA,zB,zC,zD,zE,zF,zG];refine aI rfl (Lith.lies1 ((m.o 3 rfl).rows i _ hh2) Er) ?_;simp only[zA,zB,zC,zD,zE,zF,zG];refine aA (aT Tryz.underlying29 jV rfl rfl (Int.natCast_nonneg _) (by omega) (eF (Int.toNat_natCast _))) ?_;simp only[zA,zB,zC,zD,zE,zF,zG];refine cA m 1 rfl rfl rfl jV (by rw [List.length_map]; show uZ F.length b0 i + 1 ≤ _; omega) ⟨rfl,rfl⟩ ?_;clear m; intro u m; simp only[zA,zB,zC,zD,zE,zF,zG] at m;rw [show ([.slice HB Hn Hcp] : List Go.Value) = [Hd.v ⟨HB,Hn,Hcp⟩] from rfl,Cv (by omega)] at m;refine aC (k14 _ _ ?_);try clear k14 K14
     refine wp_region_lit (aA (aB) (aA (aB) (aA (aB) (aA (aB) ?_))));simp only[zA,zB,zC,zD,zE,zF,zG];refine aA (aT Tryz.underlying22 aO rfl rfl (by omega) (by omega) (d7 (Int.toNat_natCast _))) ?_;simp only[zA,zB,zC,zD,zE,zF,zG];refine aI rfl (Lith.lies1 ((m.o 2 rfl).rows i _ hz2) aZ) ?_;simp only[zA,zB,zC,zD,zE,zF,zG];refine aA (aT Tryz.underlying22 aO rfl rfl (Int.natCast_nonneg _) (by omega) (eF (Int.toNat_natCast _))) ?_;simp only[zA,zB,zC,zD,zE,zF,zG];refine cA m 0 rfl rfl rfl aO (by rw [List.length_map]; show uZ F.length b0 i + 1 ≤ _; omega) ⟨rfl,rfl⟩ ?_;clear m; intro u m; simp only[zA,zB,zC,zD,zE,zF,zG] at m;rw [M4 (by omega)] at m;refine aC (k12 _ _ ?_);try clear k12 K12
     refine wp_region_lit (aA (aB) ?_);simp only[zA,zB,zC,zD,zE,zF,zG];refine aA (aX rfl rfl (aL (by omega) (by omega))) (aA (aD) (aC ?_));simp only[zA,zB,zC,zD,zE,zF,zG];simp only[Exit.inBlock,Exit.then];refine ⟨F.length - (i + 1),_,?_,rfl,?_,?_⟩
     · omega
     · simp only[zQ,zR,zD,zE,aK,aQ,aM,aP,zF,zG]
     · simp only[zQ,zR,zD,zE]
       exact ⟨i + 1,hsY.set (uZ F.length b0 i) ⟨HB,Hn,Hcp⟩,ys.set (uZ F.length b0 i) l,cs.set (uZ F.length b0 i) z,rfl,m,hcvY.set (hcov.at_ i _ l hh hl),⟨by rw [List.length_set]; exact hly.1,by rw [List.length_set]; exact hly.2.1,by rw [List.length_set]; exact hly.2.2⟩,P7 (by omega) hly.2.1 hly.2.2 hl hz hat,fun y hy=>by rcases List.mem_or_eq_of_mem_set hy with h | rfl; exact hci y h; exact hzm,M5 hy12 hlm,by omega,rfl⟩
   · skip
     obtain rfl : i = F.length:=by omega
     have htn:=P4 (kE ss (gG F.length zs) F) hly.2.1 hat;refine wp_exit (k8 _ _ ?_);try clear k8 K8
     refine aF fun K15 k15=>wp_region_lit (aA (aG (c:=6) Tryz.underlying28 rfl eE rfl rfl) ?_);simp only[zA,zB,zC,zD,zE,zF,zG];refine aI rfl ((m.b 5 rfl).lies iN eE rfl rfl) ?_;simp only[zA,zB,zC,zD,zE,zF,zG,zH,zI,zJ,zK,Nat.zero_add,Nat.reduceAdd,Nat.reduceMul,Int.reduceToNat];refine bN m u4 rfl ?_;clear m; intro g4 u m;simp only[zA,zB,zC,zD,zE,zF,zG];refine aV m 0 rfl rfl rfl eE (b9 rfl) rfl ?_;clear m; intro u m; simp only[a8,zH,zI,zJ,zK,zL,zM,zN,zO,zP,zF,zG,Nat.reduceAdd] at m;refine aC (k15 _ _ ?_);try clear k15 K15
     refine aF fun K16 k16=>wp_region_lit (aA (aB) ?_);simp only[zA,zB,zC,zD,zE,zF,zG];refine aA (dF rfl rfl (by omega) hfd) (aA (dH Tryz.underlying3 Tryz.underlying5 rfl (aL (by omega) (by omega))) (aA (aX rfl rfl (show IntKind.i64.wrap (1 + fa % 20) = fc by rw [aL (by omega) (by omega)]; exact hfc.symm)) (aA (aD) ?_)));simp only[zA,zB,zC,zD,zE,zF,zG];refine aC (k16 _ _ ?_);try clear k16 K16
     refine aF fun K17 k17=>wp_region_lit (aA (aB) (aA (aG (c:=0) Tryz.underlying25 rfl aO rfl rfl) ?_));simp only[zA,zB,zC,zD,zE,zF,zG];refine aI rfl ((m.b 0 rfl).lies1 aZ rfl) ?_;simp only[zA,zB,zC,zD,zE,zF,zG];refine aA (dF rfl rfl (by omega) rfl) (aA (dX rfl rfl (aL hfx.1 hfx.2)) (aA (aG (c:=0) Tryz.underlying25 rfl aO rfl rfl) ?_));simp only[zA,zB,zC,zD,zE,zF,zG];refine cA m 0 rfl rfl rfl aO (b9 rfl) ⟨rfl,rfl⟩ ?_;clear m; intro u m; simp only[a8,zH,zI,zJ,zK,zL,zM,zN,zO,zP,zF,zG,Nat.reduceAdd] at m;refine aC (k17 _ _ ?_);try clear k17 K17
     refine aF fun K18 k18=>wp_region_lit (aA (aB) (aA (aG (c:=0) Tryz.underlying25 rfl aO rfl rfl) ?_));simp only[zA,zB,zC,zD,zE,zF,zG];refine aI rfl ((m.b 0 rfl).lies1 aZ rfl) ?_;simp only[zA,zB,zC,zD,zE,zF,zG];refine aA (dF rfl rfl (by omega) rfl) (aA (dX rfl rfl (aL hfy.1 hfy.2)) (aA (aG (c:=0) Tryz.underlying25 rfl aO rfl rfl) ?_));simp only[zA,zB,zC,zD,zE,zF,zG];refine cA m 0 rfl rfl rfl aO (b9 rfl) ⟨rfl,rfl⟩ ?_;clear m; intro u m; simp only[a8,zH,zI,zJ,zK,zL,zM,zN,zO,zP,zF,zG,Nat.reduceAdd] at m;refine aC (k18 _ _ ?_);try clear k18 K18
     refine aF fun K19 k19=>wp_region_lit (aA (aB) (aA (aG (c:=0) Tryz.underlying25 rfl aO rfl rfl) ?_));simp only[zA,zB,zC,zD,zE,zF,zG];refine aI rfl ((m.b 0 rfl).lies1 aZ rfl) ?_;simp only[zA,zB,zC,zD,zE,zF,zG];refine aA (dF rfl rfl (by omega) rfl) (aA (dX rfl rfl (aL hfz.1 hfz.2)) (aA (aG (c:=0) Tryz.underlying25 rfl aO rfl rfl) ?_));simp only[zA,zB,zC,zD,zE,zF,zG];refine cA m 0 rfl rfl rfl aO (b9 rfl) ⟨rfl,rfl⟩ ?_;clear m; intro u m; simp only[a8,zH,zI,zJ,zK,zL,zM,zN,zO,zP,zF,zG,Nat.reduceAdd] at m;refine aC (k19 _ _ ?_);try clear k19 K19
     refine aF fun K20 k20=>wp_region_lit (aA (aB) (aA (aG (c:=0) Tryz.underlying25 rfl aO rfl rfl) ?_));simp only[zA,zB,zC,zD,zE,zF,zG];refine aI rfl ((m.b 0 rfl).lies1 aZ rfl) ?_;simp only[zA,zB,zC,zD,zE,zF,zG];refine aA (dF rfl rfl (by omega) rfl) (aA (dX rfl rfl (aL hfw.1 hfw.2)) (aA (aG (c:=0) Tryz.underlying25 rfl aO rfl rfl) ?_));simp only[zA,zB,zC,zD,zE,zF,zG];refine cA m 0 rfl rfl rfl aO (b9 rfl) ⟨rfl,rfl⟩ ?_;clear m; intro u m; simp only[a8,zH,zI,zJ,zK,zL,zM,zN,zO,zP,zF,zG,Nat.reduceAdd] at m;refine aC (k20 _ _ ?_);try clear k20 K20
     refine aF fun K21 k21=>wp_region_lit (aA (aG (c:=6) Tryz.underlying28 rfl eE rfl rfl) ?_);simp only[zA,zB,zC,zD,zE,zF,zG];refine aI rfl ((m.b 6 rfl).lies iN eE rfl rfl) ?_;simp only[zA,zB,zC,zD,zE,zF,zG,zH,zI,zJ,zK,Nat.zero_add,Nat.reduceAdd,Nat.reduceMul,Int.reduceToNat];refine bN m u4 rfl ?_;clear m; intro g5 u m;simp only[zA,zB,zC,zD,zE,zF,zG];refine aV m 0 rfl rfl rfl eE (b9 rfl) rfl ?_;clear m; intro u m; simp only[a8,zH,zI,zJ,zK,zL,zM,zN,zO,zP,zF,zG,Nat.reduceAdd] at m;refine aC (k21 _ _ ?_);try clear k21 K21
     refine aF fun K22 k22=>wp_region_lit (aA (aG (c:=0) Tryz.underlying25 rfl aO rfl rfl) ?_);simp only[zA,zB,zC,zD,zE,zF,zG];refine aI rfl ((m.b 0 rfl).lies1 aZ rfl) ?_;simp only[zA,zB,zC,zD,zE,zF,zG];refine aA (dF rfl rfl (by omega) rfl) (aA (aG (c:=0) Tryz.underlying25 rfl aO rfl rfl) ?_);simp only[zA,zB,zC,zD,zE,zF,zG];refine cA m 0 rfl rfl rfl aO (b9 rfl) ⟨rfl,rfl⟩ ?_;clear m; intro u m; simp only[a8,zH,zI,zJ,zK,zL,zM,zN,zO,zP,zF,zG,Nat.reduceAdd] at m;refine aC (k22 _ _ ?_);try clear k22 K22
     refine aF fun K23 k23=>wp_region_lit (aA (aG (c:=0) Tryz.underlying25 rfl aO rfl rfl) ?_);simp only[zA,zB,zC,zD,zE,zF,zG];refine aI rfl ((m.b 0 rfl).lies1 aZ rfl) ?_;simp only[zA,zB,zC,zD,zE,zF,zG];refine aA (dF rfl rfl (by omega) rfl) (aA (aG (c:=0) Tryz.underlying25 rfl aO rfl rfl) ?_);simp only[zA,zB,zC,zD,zE,zF,zG];refine cA m 0 rfl rfl rfl aO (b9 rfl) ⟨rfl,rfl⟩ ?_;clear m; intro u m; simp only[a8,zH,zI,zJ,zK,zL,zM,zN,zO,zP,zF,zG,Nat.reduceAdd] at m;refine aC (k23 _ _ ?_);try clear k23 K23
     refine aF fun K24 k24=>wp_region_lit (aA (aG (c:=0) Tryz.underlying25 rfl aO rfl rfl) ?_);simp only[zA,zB,zC,zD,zE,zF,zG];refine aI rfl ((m.b 0 rfl).lies1 aZ rfl) ?_;simp only[zA,zB,zC,zD,zE,zF,zG];refine aA (dF rfl rfl (by omega) rfl) (aA (aG (c:=0) Tryz.underlying25 rfl aO rfl rfl) ?_);simp only[zA,zB,zC,zD,zE,zF,zG];refine cA m 0 rfl rfl rfl aO (b9 rfl) ⟨rfl,rfl⟩ ?_;clear m; intro u m; simp only[a8,zH,zI,zJ,zK,zL,zM,zN,zO,zP,zF,zG,Nat.reduceAdd] at m;refine aC (k24 _ _ ?_);try clear k24 K24
     refine aF fun K25 k25=>wp_region_lit (aA (aG (c:=0) Tryz.underlying25 rfl aO rfl rfl) ?_);simp only[zA,zB,zC,zD,zE,zF,zG];refine aI rfl ((m.b 0 rfl).lies1 aZ rfl) ?_;simp only[zA,zB,zC,zD,zE,zF,zG];refine aA (dF rfl rfl (by omega) rfl) (aA (aG (c:=0) Tryz.underlying25 rfl aO rfl rfl) ?_);simp only[zA,zB,zC,zD,zE,zF,zG];refine cA m 0 rfl rfl rfl aO (b9 rfl) ⟨rfl,rfl⟩ ?_;clear m; intro u m; simp only[a8,zH,zI,zJ,zK,zL,zM,zN,zO,zP,zF,zG,Nat.reduceAdd] at m;refine aC (k25 _ _ ?_);try clear k25 K25
     refine aF fun K26 k26=>wp_region_lit (aI rfl ((m.b 0 rfl).full iN eE) ?_);simp only[zA,zB,zC,zD,zE,zF,zG];refine aA (aB) (aA (aB) ?_);simp only[zA,zB,zC,zD,zE,zF,zG];refine bO rfl rfl (uQ (r:=(dY r)) (xs:=(cY ss (gG F.length zs) F)) (bs:=(gG F.length zs)) _ (m.lists hcov 5 6 rfl rfl) (G2 (m.o 4 rfl) M2) (by omega) (by omega) hfs.2.1) ?_;rintro v u e ⟨A9,n9,cap9,rfl,hna9,hN⟩; replace m:=m.newO e hN; clear e hN;simp only[zA,zB,zC,zD,zE,zF,zG];refine bN m mO rfl ?_;clear m; intro g6 u m;simp only[zA,zB,zC,zD,zE,zF,zG];refine aV m 0 rfl rfl rfl eR (b9 rfl) rfl ?_;clear m; intro u m; simp only[a8,zH,zI,zJ,zK,zL,zM,zN,zO,zP,zF,zG,Nat.reduceAdd] at m;refine aC (k26 _ _ ?_);try clear k26 K26
     refine aF fun K27 k27=>wp_region_lit (aI rfl ((m.b 3 rfl).full iN eE) ?_);simp only[zA,zB,zC,zD,zE,zF,zG];refine aA (aB) (aA (aB) ?_);simp only[zA,zB,zC,zD,zE,zF,zG];refine bO rfl rfl (uQ (r:=((dY r).times fc)) (xs:=ys) (bs:=cs) _ (hcvY.lists hly.1 (P5 (m.b 5 rfl)) (m.l 8 rfl)) (hly.2.2 ▸ jJ (m.b 4 rfl) rfl hci) (by omega) (by have:=oO hy12; rw [hly.2.1] at this; omega) (fun l hl=>Nat.le_trans (hy12 l hl) (by decide))) ?_;rintro v u e ⟨A3,n3,cap3,rfl,hna3,hN⟩; replace m:=m.newO e hN; clear e hN;simp only[zA,zB,zC,zD,zE,zF,zG];refine bN m mO rfl ?_;clear m; intro g7 u m;simp only[zA,zB,zC,zD,zE,zF,zG];refine aV m 0 rfl rfl rfl eR (b9 rfl) rfl ?_;clear m; intro u m; simp only[a8,zH,zI,zJ,zK,zL,zM,zN,zO,zP,zF,zG,Nat.reduceAdd] at m;refine aC (k27 _ _ ?_);try clear k27 K27
     refine aF fun K28 k28=>aF fun K29 k29=>?_;have htr:=F0 (Fy (r:=dY r) (show 0 < fc by omega)) htn;have hlen:=htr.2.2.2.2.1;have h9le:=(m.o 3 rfl).le;have h9max:=(m.o 3 rfl).max;have h3le:=(m.o 1 rfl).le;have h3max:=(m.o 1 rfl).max;refine wp_region_lit (aA (aG (c:=0) Tryz.underlying39 rfl bK rfl rfl) ?_);simp only[zA,zB,zC,zD,zE,zF,zG];refine aI rfl ((m.b 2 rfl).lies1 d4 rfl) ?_;simp only[zA,zB,zC,zD,zE,zF,zG];refine aA (bM rfl Tryz.underlying22 rfl) (aA (aG (c:=0) Tryz.underlying39 rfl bK rfl rfl) ?_);simp only[zA,zB,zC,zD,zE,zF,zG];refine aI rfl ((m.b 0 rfl).lies1 d4 rfl) ?_;simp only[zA,zB,zC,zD,zE,zF,zG];refine aA (bM rfl Tryz.underlying22 rfl) (aA (qQ rfl rfl (by omega)) (aC (k29 _ _ ?_)));try clear k29 K29
     refine eM rfl (wp_skip (k28 _ _ ?_));try clear k28 K28
     refine aF fun K30 k30=>aF fun K31 k31=>wp_region_lit (aA (aD) (aC (k31 _ _ ?_)));try clear k31 K31
     refine wp_block ?_;simp only[zA,zB,zC,zD,zE,zF,zG];try simp only[Nat.zero_add,Nat.reduceAdd,Nat.reduceMul,Int.reduceToNat]
     refine cX [20] [6,21,22,124,125,126,127,128,129,130,131,132,133,134,135,136,137,138,139,140,141,142,143,144,145,146,147,148,149,150,151,152,153,154,155,156,157,158,159,160,161,162,163,164,165,166,167,168,169,170,171,172,173,174,175,176,177,178,179,180,181,182,183,184,185,186,187,188,189,190] (fun n vs wl=>∃ (i : Nat),vs = [.int .i64 (i:Int)] ∧ bU w wl [bI g7 [.int .i64 (cL ((dY r).times fc) ys cs).kind,.bool (b8 ((cL ((dY r).times fc) ys cs).lo).num),.string (cW ((cL ((dY r).times fc) ys cs).lo).num),.bool (b8 (((cL ((dY r).times fc) ys cs).lo).den : Int)),.string (cW (((cL ((dY r).times fc) ys cs).lo).den : Int)),.bool (b8 ((cL ((dY r).times fc) ys cs).hi).num),.string (cW ((cL ((dY r).times fc) ys cs).hi).num),.bool (b8 (((cL ((dY r).times fc) ys cs).hi).den : Int)),.string (cW (((cL ((dY r).times fc) ys cs).hi).den : Int)),.bool (cL ((dY r).times fc) ys cs).sure,.slice A3 n3 cap3] 39,oI 3 1 A3 n3 cap3 ((cL ((dY r).times fc) ys cs).opn.map (Value.int .i64 ·)),bI g6 [.int .i64 (cL (dY r) (cY ss (gG F.length zs) F) (gG F.length zs)).kind,.bool (b8 ((cL (dY r) (cY ss (gG F.length zs) F) (gG F.length zs)).lo).num),.string (cW ((cL (dY r) (cY ss (gG F.length zs) F) (gG F.length zs)).lo).num),.bool (b8 (((cL (dY r) (cY ss (gG F.length zs) F) (gG F.length zs)).lo).den : Int)),.string (cW (((cL (dY r) (cY ss (gG F.length zs) F) (gG F.length zs)).lo).den : Int)),.bool (b8 ((cL (dY r) (cY ss (gG F.length zs) F) (gG F.length zs)).hi).num),.string (cW ((cL (dY r) (cY ss (gG F.length zs) F) (gG F.length zs)).hi).num),.bool (b8 (((cL (dY r) (cY ss (gG F.length zs) F) (gG F.length zs)).hi).den : Int)),.string (cW (((cL (dY r) (cY ss (gG F.length zs) F) (gG F.length zs)).hi).den : Int)),.bool (cL (dY r) (cY ss (gG F.length zs) F) (gG F.length zs)).sure,.slice A9 n9 cap9] 39,oI 3 1 A9 n9 cap9 ((cL (dY r) (cY ss (gG F.length zs) F) (gG F.length zs)).opn.map (Value.int .i64 ·))] ∧ (i ≤ n9) ∧ (n = n9 - i)) ?_ ?_
     · skip
       apply Exists.intro;simp only[zQ,zR,zD,zE];exact ⟨0,rfl,(m.sel [true,true,true,true,false,false,false,false,false,false,false,false]),Nat.zero_le _,rfl⟩
     · intro n vs wr hI u
       clear m;obtain ⟨i,rfl,m,hi,hn⟩:=hI;simp only[aK,aQ,aM,aP,zF,zG];refine aF fun K32 k32=>aF fun K33 k33=>wp_region_lit (aA (aB) (aA (aG (c:=0) Tryz.underlying39 rfl bK rfl rfl) ?_));simp only[zA,zB,zC,zD,zE,zF,zG];refine aI rfl ((m.b 2 rfl).lies1 d4 rfl) ?_;simp only[zA,zB,zC,zD,zE,zF,zG];refine aA (bM rfl Tryz.underlying22 rfl) (aA (dS rfl rfl) (aC (k33 _ _ ?_)));try clear k33 K33
       simp only[zA,zB,zC,zD,zE,zF,zG];refine cK rfl (fun hc3=>?_) (fun hc3=>?_)
       · skip
         have hn9 : 0 < n9:=by omega
         obtain ⟨g9,rfl⟩:=(m.o 3 rfl).some (by omega);obtain ⟨v,hv⟩ : ∃ v,(cL (dY r) (cY ss (gG F.length zs) F) (gG F.length zs)).opn[i]? = some v:=⟨_,List.getElem?_eq_getElem (by omega)⟩
         have hv2 : (((cL (dY r) (cY ss (gG F.length zs) F) (gG F.length zs)).opn.map (Value.int .i64 ·)))[i]? = some (.int .i64 v):=by rw [List.getElem?_map,hv]; rfl
         obtain ⟨kv,hkv,hkl,hvm⟩:=htr.2.2.2.2.2 v (List.mem_of_getElem? hv);have hsg:=tE (i:=kv) (b:=b0) (show 0 < F.length by omega);rw [← hkv] at hsg;rw [← hsg] at hvm;haveI : Iw (v + b0):=⟨⟨by omega,by omega⟩⟩
         refine wp_skip (k32 _ _ ?_);try clear k32 K32
         refine aF fun K34 k34=>wp_block (aF fun K35 k35=>wp_region_lit (aA (aD) (aC (k35 _ _ ?_))));try clear k35 K35
         refine aF fun K36 k36=>aF fun K37 k37=>wp_region_lit (aA (aD) (aC (k37 _ _ ?_)));try clear k37 K37
         refine wp_block ?_;simp only[zA,zB,zC,zD,zE,zF,zG];try simp only[Nat.zero_add,Nat.reduceAdd,Nat.reduceMul,Int.reduceToNat]
         refine cX [21,22] [131,132,133,134,135,136,137,138,139,140,141,142,143,144,145,146,147,148,149,150,151,152,153,154,155,156] (fun n vs wl=>∃ (k : Nat) (f : Bool),vs = [.bool f,.int .i64 (k:Int)] ∧ bU w wl [bI g7 [.int .i64 (cL ((dY r).times fc) ys cs).kind,.bool (b8 ((cL ((dY r).times fc) ys cs).lo).num),.string (cW ((cL ((dY r).times fc) ys cs).lo).num),.bool (b8 (((cL ((dY r).times fc) ys cs).lo).den : Int)),.string (cW (((cL ((dY r).times fc) ys cs).lo).den : Int)),.bool (b8 ((cL ((dY r).times fc) ys cs).hi).num),.string (cW ((cL ((dY r).times fc) ys cs).hi).num),.bool (b8 (((cL ((dY r).times fc) ys cs).hi).den : Int)),.string (cW (((cL ((dY r).times fc) ys cs).hi).den : Int)),.bool (cL ((dY r).times fc) ys cs).sure,.slice A3 n3 cap3] 39,oI 3 1 A3 n3 cap3 ((cL ((dY r).times fc) ys cs).opn.map (Value.int .i64 ·)),bI g6 [.int .i64 (cL (dY r) (cY ss (gG F.length zs) F) (gG F.length zs)).kind,.bool (b8 ((cL (dY r) (cY ss (gG F.length zs) F) (gG F.length zs)).lo).num),.string (cW ((cL (dY r) (cY ss (gG F.length zs) F) (gG F.length zs)).lo).num),.bool (b8 (((cL (dY r) (cY ss (gG F.length zs) F) (gG F.length zs)).lo).den : Int)),.string (cW (((cL (dY r) (cY ss (gG F.length zs) F) (gG F.length zs)).lo).den : Int)),.bool (b8 ((cL (dY r) (cY ss (gG F.length zs) F) (gG F.length zs)).hi).num),.string (cW ((cL (dY r) (cY ss (gG F.length zs) F) (gG F.length zs)).hi).num),.bool (b8 (((cL (dY r) (cY ss (gG F.length zs) F) (gG F.length zs)).hi).den : Int)),.string (cW (((cL (dY r) (cY ss (gG F.length zs) F) (gG F.length zs)).hi).den : Int)),.bool (cL (dY r) (cY ss (gG F.length zs) F) (gG F.length zs)).sure,.slice (some ⟨g9,0,none⟩) n9 cap9] 39,oI 3 1 (some ⟨g9,0,none⟩) n9 cap9 ((cL (dY r) (cY ss (gG F.length zs) F) (gG F.length zs)).opn.map (Value.int .i64 ·))] ∧ (f = decide ((v + b0) % (F.length : Int) ∈ (cL ((dY r).times fc) ys cs).opn.take k)) ∧ (k ≤ n3) ∧ (n = n3 - k)) ?_ ?_
         · skip
           apply Exists.intro;simp only[zQ,zR,zD,zE];exact ⟨0,false,rfl,m,by simp,Nat.zero_le _,rfl⟩
         · intro n vs wr hI u
           clear m;obtain ⟨k,f,rfl,m,hf,hk,hn⟩:=hI;simp only[aK,aQ,aM,aP,zF,zG];refine aF fun K38 k38=>aF fun K39 k39=>wp_region_lit (aA (aB) (aA (aG (c:=0) Tryz.underlying39 rfl bK rfl rfl) ?_));simp only[zA,zB,zC,zD,zE,zF,zG];refine aI rfl ((m.b 0 rfl).lies1 d4 rfl) ?_;simp only[zA,zB,zC,zD,zE,zF,zG];refine aA (bM rfl Tryz.underlying22 rfl) (aA (dS rfl rfl) (aC (k39 _ _ ?_)));try clear k39 K39
           simp only[zA,zB,zC,zD,zE,zF,zG];refine cK rfl (fun hc4=>?_) (fun hc4=>?_)
           · skip
             obtain ⟨g3o,rfl⟩:=(m.o 1 rfl).some (by omega);obtain ⟨y,hy⟩ : ∃ y,(cL ((dY r).times fc) ys cs).opn[k]? = some y:=⟨_,List.getElem?_eq_getElem (by omega)⟩
             have hy2 : (((cL ((dY r).times fc) ys cs).opn.map (Value.int .i64 ·)))[k]? = some (.int .i64 y):=by rw [List.getElem?_map,hy]; rfl
             refine wp_skip (k38 _ _ ?_);try clear k38 K38
             refine aF fun K40 k40=>wp_block (mq m aU (by kernel_rfl) (aR (aB) (aR (aB) (mD rfl (fun hb=>aG (c:=0) Tryz.underlying39 rfl bK rfl rfl) ?_))));simp only[zA,zB,zC,zD,zE,zF,zG];refine sP rfl (fun hb u m=>jN (gI hb rfl) ((m.b 0 rfl).lies1 d4 rfl)) (mD rfl (fun hb=>aB) ?_);simp only[zA,zB,zC,zD,zE,zF,zG];refine mD rfl (fun hb=>aT Tryz.underlying22 aO (gI hb rfl) (gI hb rfl) (by omega) (by omega) (d7 (Int.toNat_natCast _))) ?_;simp only[zA,zB,zC,zD,zE,zF,zG];refine sP rfl (fun hb u m=>jN (gI hb rfl) (Lith.lies1 ((m.o 1 rfl).rows k _ hy2) aZ)) (mD rfl (fun hb=>aG (c:=0) Tryz.underlying39 rfl bK rfl rfl) ?_);simp only[zA,zB,zC,zD,zE,zF,zG];refine sP rfl (fun hb u m=>jN (gI hb rfl) ((m.b 2 rfl).lies1 d4 rfl)) (mD rfl (fun hb=>aB) ?_);simp only[zA,zB,zC,zD,zE,zF,zG];refine mD rfl (fun hb=>aT Tryz.underlying22 aO (gI hb rfl) (gI hb rfl) (by omega) (by omega) (d7 (Int.toNat_natCast _))) ?_;simp only[zA,zB,zC,zD,zE,zF,zG];refine sP rfl (fun hb u m=>jN (gI hb rfl) (Lith.lies1 ((m.o 3 rfl).rows i _ hv2) aZ)) (mD rfl (fun hb=>aB) ?_);simp only[zA,zB,zC,zD,zE,zF,zG];refine mD rfl (fun hb=>dF (gI hb rfl) rfl (by omega) hb0.symm) ?_;simp only[zA,zB,zC,zD,zE,zF,zG];refine mD rfl (fun hb=>aX (gI hb rfl) (gI hb rfl) (aL (by omega) (by omega))) (mD rfl (fun hb=>aB) ?_);simp only[zA,zB,zC,zD,zE,zF,zG];refine Ou rfl rfl (fun hb=>by simp only[List.toList_toArray,List.map_cons,List.map_nil,zA,zB,zC,zD,zE,hb,uI]; rfl) (fun hb=>vJ (n:=v + b0) (k:=(F.length : Int)) (by omega) (by omega)) (mD rfl (fun hb=>lZ (gI hb rfl) (gI hb rfl)) (aR (Dw rfl rfl rfl) (aR (aD) ?_)));simp only[zA,zB,zC,zD,zE,zF,zG];refine dW ?_;clear m; intro u m;refine k40 _ _ ?_;try clear k40 K40
             refine wp_region_lit (aA (aB) ?_);simp only[zA,zB,zC,zD,zE,zF,zG];refine aA (aX rfl rfl (aL (by omega) (by omega))) (aA (aD) (aC ?_));simp only[zA,zB,zC,zD,zE,zF,zG];simp only[Exit.inBlock,Exit.then];refine ⟨n3 - (k + 1),_,?_,rfl,?_,?_⟩
             · omega
             · simp only[zQ,zR,zD,zE,aK,aQ,aM,aP,zF,zG]
             · simp only[zQ,zR,zD,zE]
               exact ⟨k + 1,_,rfl,m,by rw [hf]; exact M6 hy,by omega,rfl⟩
           · skip
             have hft : f = true:=by rw [hf,List.take_of_length_le (by omega)]; exact decide_eq_true hvm
             refine wp_exit (k36 _ _ ?_);try clear k36 K36
             refine aF fun K41 k41=>?_;rcases Nat.eq_zero_or_pos i with hi0 | hi0
             · skip
               refine mq m aU (by kernel_rfl) (aR (aB) ?_);simp only[zA,zB,zC,zD,zE,zF,zG];refine aR (qR (gX rfl) (iA (show (!f) = false by rw [hft]; rfl))) (aR (aB) (d9 rfl (aR (aB) (d9 rfl (aR (iZ rfl rfl (by omega)) ?_)))));simp only[zA,zB,zC,zD,zE,zF,zG];refine d9 rfl (aR (aB) (iP rfl (iP rfl (iP rfl ?_))));simp only[zA,zB,zC,zD,zE,zF,zG];refine iP rfl (iP rfl (iP rfl (iP rfl ?_)));simp only[zA,zB,zC,zD,zE,zF,zG];refine iP rfl (iP rfl (iP rfl (iP rfl ?_)));simp only[zA,zB,zC,zD,zE,zF,zG];refine iP rfl (iP rfl (jK rfl (jK rfl ?_)));simp only[zA,zB,zC,zD,zE,zF,zG];refine jK rfl (jK rfl (jK rfl (jK rfl ?_)));simp only[zA,zB,zC,zD,zE,zF,zG];refine jK rfl (jK rfl (jK rfl (jK rfl ?_)));simp only[zA,zB,zC,zD,zE,zF,zG];refine jK rfl (jK rfl (iP rfl (d9 rfl (aR (cU rfl) ?_))));simp only[zA,zB,zC,zD,zE,zF,zG];refine aR (cU rfl) (dW ?_);clear m; intro u m;refine k41 _ _ ?_;try clear k41 K41
               refine eM rfl (wp_skip (k34 _ _ ?_));try clear k34 K34
               refine wp_region_lit (aA (aB) ?_);simp only[zA,zB,zC,zD,zE,zF,zG];refine aA (aX rfl rfl (aL (by omega) (by omega))) (aA (aD) (aC ?_));simp only[zA,zB,zC,zD,zE,zF,zG];simp only[Exit.inBlock,Exit.then];refine ⟨n9 - (i + 1),_,?_,rfl,?_,?_⟩
               · omega
               · simp only[zQ,zR,zD,zE,aK,aQ,aM,aP,zF,zG]
               · simp only[zQ,zR,zD,zE]
                 exact ⟨i + 1,rfl,m,by omega,rfl⟩
             · skip
               obtain ⟨u,hu⟩ : ∃ u,(cL (dY r) (cY ss (gG F.length zs) F) (gG F.length zs)).opn[i - 1]? = some u:=⟨_,List.getElem?_eq_getElem (by omega)⟩
               have hu2 : (((cL (dY r) (cY ss (gG F.length zs) F) (gG F.length zs)).opn.map (Value.int .i64 ·)))[i - 1]? = some (.int .i64 u):=by rw [List.getElem?_map,hu]; rfl
               obtain ⟨s1,hs1⟩ : ∃ u,(cL ((dY r).times fc) ys cs).opn[i]? = some u:=⟨_,List.getElem?_eq_getElem (by omega)⟩
               have hs2 : (((cL ((dY r).times fc) ys cs).opn.map (Value.int .i64 ·)))[i]? = some (.int .i64 s1):=by rw [List.getElem?_map,hs1]; rfl
               obtain ⟨t1,ht1⟩ : ∃ u,(cL ((dY r).times fc) ys cs).opn[i - 1]? = some u:=⟨_,List.getElem?_eq_getElem (by omega)⟩
               have ht2 : (((cL ((dY r).times fc) ys cs).opn.map (Value.int .i64 ·)))[i - 1]? = some (.int .i64 t1):=by rw [List.getElem?_map,ht1]; rfl
               have hlt1:=Qv (Ml (dY r) (cY ss (gG F.length zs) F) (gG F.length zs)).1 (show i - 1 < i by omega) hu hv;have hlt2:=Qv (Ml ((dY r).times fc) ys cs).1 (show i - 1 < i by omega) ht1 hs1;obtain ⟨g3o,rfl⟩:=(m.o 1 rfl).some (by omega);refine mq m aU (by kernel_rfl) (aR (aB) ?_);simp only[zA,zB,zC,zD,zE,zF,zG];refine aR (qR (gX rfl) (iA (show (!f) = false by rw [hft]; rfl))) (aR (aB) (d9 rfl (aR (aB) (d9 rfl (aR (l2 rfl rfl (by omega)) ?_)))));simp only[zA,zB,zC,zD,zE,zF,zG];refine d9 rfl (aR (aB) (d9 rfl (aR (aG (c:=0) Tryz.underlying39 rfl bK rfl rfl) (d9 rfl ?_))));simp only[zA,zB,zC,zD,zE,zF,zG];refine ql rfl (fun u m=>((m.b 2 rfl).lies1 d4 rfl)) ?_;simp only[zA,zB,zC,zD,zE,zF,zG];refine d9 rfl (aR (aB) (d9 rfl ?_));simp only[zA,zB,zC,zD,zE,zF,zG];refine aR (aT Tryz.underlying22 aO rfl rfl (by omega) (by omega) (d7 (Int.toNat_natCast _))) (d9 rfl ?_);simp only[zA,zB,zC,zD,zE,zF,zG];refine ql rfl (fun u m=>(Lith.lies1 ((m.o 3 rfl).rows i _ hv2) aZ)) ?_;simp only[zA,zB,zC,zD,zE,zF,zG];refine d9 rfl (aR (aG (c:=0) Tryz.underlying39 rfl bK rfl rfl) (d9 rfl ?_));simp only[zA,zB,zC,zD,zE,zF,zG];refine ql rfl (fun u m=>((m.b 2 rfl).lies1 d4 rfl)) ?_;simp only[zA,zB,zC,zD,zE,zF,zG];refine d9 rfl (aR (aB) (d9 rfl ?_));simp only[zA,zB,zC,zD,zE,zF,zG];refine aR (eA rfl rfl (aL (by omega) (by omega))) (d9 rfl ?_);simp only[zA,zB,zC,zD,zE,zF,zG];refine aR (aT Tryz.underlying22 aO rfl rfl (by omega) (by omega) (d7 (show _ = i - 1 by omega))) (d9 rfl ?_);simp only[zA,zB,zC,zD,zE,zF,zG];refine ql rfl (fun u m=>(Lith.lies1 ((m.o 3 rfl).rows (i - 1) _ hu2) aZ)) ?_;simp only[zA,zB,zC,zD,zE,zF,zG];refine d9 rfl (aR (vT rfl rfl (by omega)) (d9 rfl (aR (aB) (d9 rfl (aR (aG (c:=0) Tryz.underlying39 rfl bK rfl rfl) (d9 rfl ?_))))));simp only[zA,zB,zC,zD,zE,zF,zG];refine ql rfl (fun u m=>((m.b 0 rfl).lies1 d4 rfl)) ?_;simp only[zA,zB,zC,zD,zE,zF,zG];refine d9 rfl (aR (aB) (d9 rfl ?_));simp only[zA,zB,zC,zD,zE,zF,zG];refine aR (aT Tryz.underlying22 aO rfl rfl (by omega) (by omega) (d7 (Int.toNat_natCast _))) (d9 rfl ?_);simp only[zA,zB,zC,zD,zE,zF,zG];refine ql rfl (fun u m=>(Lith.lies1 ((m.o 1 rfl).rows i _ hs2) aZ)) ?_;simp only[zA,zB,zC,zD,zE,zF,zG];refine d9 rfl (aR (aG (c:=0) Tryz.underlying39 rfl bK rfl rfl) (d9 rfl ?_));simp only[zA,zB,zC,zD,zE,zF,zG];refine ql rfl (fun u m=>((m.b 0 rfl).lies1 d4 rfl)) ?_;simp only[zA,zB,zC,zD,zE,zF,zG];refine d9 rfl (aR (aB) (d9 rfl ?_));simp only[zA,zB,zC,zD,zE,zF,zG];refine aR (eA rfl rfl (aL (by omega) (by omega))) (d9 rfl ?_);simp only[zA,zB,zC,zD,zE,zF,zG];refine aR (aT Tryz.underlying22 aO rfl rfl (by omega) (by omega) (d7 (show _ = i - 1 by omega))) (d9 rfl ?_);simp only[zA,zB,zC,zD,zE,zF,zG];refine ql rfl (fun u m=>(Lith.lies1 ((m.o 1 rfl).rows (i - 1) _ ht2) aZ)) ?_;simp only[zA,zB,zC,zD,zE,zF,zG];refine d9 rfl (aR (vT rfl rfl (by omega)) (d9 rfl (aR (cU rfl) (d9 rfl (aR (cQ rfl) (aR (cU rfl) ?_))))));simp only[zA,zB,zC,zD,zE,zF,zG];refine dW ?_;clear m; intro u m;refine k41 _ _ ?_;try clear k41 K41
               refine eM rfl (wp_skip (k34 _ _ ?_));try clear k34 K34
               refine wp_region_lit (aA (aB) ?_);simp only[zA,zB,zC,zD,zE,zF,zG];refine aA (aX rfl rfl (aL (by omega) (by omega))) (aA (aD) (aC ?_));simp only[zA,zB,zC,zD,zE,zF,zG];simp only[Exit.inBlock,Exit.then];refine ⟨n9 - (i + 1),_,?_,rfl,?_,?_⟩
               · omega
               · simp only[zQ,zR,zD,zE,aK,aQ,aM,aP,zF,zG]
               · simp only[zQ,zR,zD,zE]
                 exact ⟨i + 1,rfl,m,by omega,rfl⟩
       · skip
         refine wp_exit (k30 _ _ ?_);try clear k30 K30
         refine aF fun K42 k42=>wp_region_lit (aA (aB) (aA (aB) (aW rfl (aA (aG (c:=0) Tryz.underlying39 rfl aO rfl rfl) (aW rfl ?_)))));simp only[zA,zB,zC,zD,zE,zF,zG];refine aI rfl ((m.b 2 rfl).lies1 aZ rfl) ?_;simp only[zA,zB,zC,zD,zE,zF,zG];refine aW rfl (aA (aG (c:=0) Tryz.underlying39 rfl aO rfl rfl) (aW rfl ?_));simp only[zA,zB,zC,zD,zE,zF,zG];refine aI rfl ((m.b 0 rfl).lies1 aZ rfl) ?_;simp only[zA,zB,zC,zD,zE,zF,zG];refine aW rfl (aA (nW rfl rfl (htr.1)) (aA (cQ rfl) (aA (aB) (aW rfl (aA (aG (c:=3) Tryz.underlying39 rfl aS rfl rfl) ?_)))));simp only[zA,zB,zC,zD,zE,zF,zG];refine aW rfl (aI rfl ((m.b 2 rfl).lies bG aS rfl rfl) ?_);simp only[zA,zB,zC,zD,zE,zF,zG,zH,zI,zJ,zK,Nat.zero_add,Nat.reduceAdd,Nat.reduceMul,Int.reduceToNat];refine aW rfl (aA (aG (c:=3) Tryz.underlying39 rfl aS rfl rfl) (aW rfl ?_));simp only[zA,zB,zC,zD,zE,zF,zG];refine aI rfl ((m.b 0 rfl).lies bG aS rfl rfl) ?_;simp only[zA,zB,zC,zD,zE,zF,zG,zH,zI,zJ,zK,Nat.zero_add,Nat.reduceAdd,Nat.reduceMul,Int.reduceToNat];refine aW rfl (aA (qR (yN rfl rfl) (iA (decide_eq_true (by rw [htr.2.1]; exact ⟨rfl,rfl,rfl,rfl⟩)))) (aA (cQ rfl) (aA (aB) (aW rfl (aA (aG (c:=3) Tryz.underlying39 rfl aS rfl rfl) ?_)))));simp only[zA,zB,zC,zD,zE,zF,zG];refine aW rfl (aI rfl ((m.b 2 rfl).lies bG aS rfl rfl) ?_);simp only[zA,zB,zC,zD,zE,zF,zG,zH,zI,zJ,zK,Nat.zero_add,Nat.reduceAdd,Nat.reduceMul,Int.reduceToNat];refine aW rfl (aA (aG (c:=3) Tryz.underlying39 rfl aS rfl rfl) (aW rfl ?_));simp only[zA,zB,zC,zD,zE,zF,zG];refine aI rfl ((m.b 0 rfl).lies bG aS rfl rfl) ?_;simp only[zA,zB,zC,zD,zE,zF,zG,zH,zI,zJ,zK,Nat.zero_add,Nat.reduceAdd,Nat.reduceMul,Int.reduceToNat];refine aW rfl (aA (qR (yN rfl rfl) (iA (decide_eq_true (by rw [htr.2.2.1]; exact ⟨rfl,rfl,rfl,rfl⟩)))) (aA (cQ rfl) (aA (aB) (aW rfl (aA (aG (c:=0) Tryz.underlying39 rfl gA rfl rfl) ?_)))));simp only[zA,zB,zC,zD,zE,zF,zG];refine aW rfl (aI rfl ((m.b 2 rfl).lies1 j4 rfl) ?_);simp only[zA,zB,zC,zD,zE,zF,zG];refine aW rfl (aA (aG (c:=0) Tryz.underlying39 rfl gA rfl rfl) (aW rfl ?_));simp only[zA,zB,zC,zD,zE,zF,zG];refine aI rfl ((m.b 0 rfl).lies1 j4 rfl) ?_;simp only[zA,zB,zC,zD,zE,zF,zG];refine aW rfl (aA (qR (Jg Tryz.underlying4 rfl rfl) (iA (decide_eq_true htr.2.2.2.1))) (aA (cQ rfl) (aA (aD) (aC (k42 _ _ ?_)))));try clear k42 K42
         refine wp_ret ?_;simp only[zA,zB,zC,zD,zE,zF,zG];try simp only[Exit.inBlock,Exit.then,if_true]
         refine bT rfl rfl ?_;try simp only[zD,zE]
         exact ⟨_,rfl,m.ext,rfl⟩
end Go.Proofs.YtimjandkmfcmiaaGreatDoor
namespace Go.Lith
open Go.RowKit Go.ChangeShapes
variable {H : Type} {enc : TypeId × Value → H} {P : Program}
theorem uS (hl : laidOutB P = true) {W W' : World} (hb : cD W W') {sp : Nat → Bool} :
 ∀ {ts : List TypeId} {vs : List Value} {ds : List (DataW H)} {ps : List MemPlace},(ts.all fun t=>P.readableRec t && decide (t < P.types.size)) = true → DataW.TrodAll enc P W 0 (fun _=>true) true ts vs ds ps → (∀ p ∈ ps,sp p.block = true) → DataW.TrodAll enc P W' 0 sp true ts vs ds ps
 | [],[],[],_,_,h,_=>h
 | [],[],_ :: _,_,_,h,_=>h.elim
 | [],_ :: _,_,_,_,h,_=>h.elim
 | _ :: _,[],_,_,_,h,_=>h.elim
 | _ :: _,_ :: _,[],_,_,h,_=>h.elim
 | t :: ts,v :: vs,d :: ds,ps,hv,h,hs=>by
  obtain ⟨p,q,⟨n,h1⟩,h2,e⟩:=h;subst e;simp only[List.all_cons,Bool.and_eq_true,decide_eq_true_eq] at hv;have hlt:=DataW.trod_lt n _ _ _ h1;exact ⟨p,q,⟨n,DataW.trod_stays (kids_book hl hv.1.1) (book_sized hv.1.1) (fun h=>by cases h) ⟨hv.1.2,book_self t⟩ h1 (fun x hx=>Below.same hb (hlt x hx)) (fun x hx=>hs x (by simp [hx]))⟩,
   uS hl hb (by simpa using hv.2) h2 (fun x hx=>hs x (by simp [hx])),rfl⟩
theorem Ei {f : Func} {s : ChangeSpec} {apart fresh handsOn again : Bool} {W W' : World} {args : Array Value} {t : TypeId} {ds gs : List (DataW H)} {before : List MemPlace}
 (hl : laidOutB P = true) (hps : (f.params.toList.all fun t=>P.readableRec t && decide (t < P.types.size)) = true) (hv : s.vars = []) (hr : f.resultTypes = #[t]) (hu : P.underlying t = some .bool)
 (hW : DataW.Whole enc P f.params.toList s.vars apart W args.toList ds gs before) (hfn : (s.fn H (ds ++ gs)).results = [.lit (.bool true)] ∧ (s.fn H (ds ++ gs)).args = ds ∧ (s.fn H (ds ++ gs)).vars = []) (hb : cD W W') :
 s.post enc P f apart fresh handsOn again W args (.bool true) W':=by
 have hW0:=hW;obtain ⟨p,q,hA,hV,rfl,hz,hn⟩:=hW0;rw [hv] at hV;obtain ⟨rfl,rfl⟩:=trodVars_none hV;have hargs : ∀ sp : Nat → Bool,(∀ x ∈ p ++ [],sp x.block = true) → DataW.TrodAll enc P W' 0 sp true f.params.toList args.toList (s.fn H (ds ++ [])).args p:=fun sp hsp=>by
  rw [hfn.2.1];exact uS hl hb hps hA (fun x hx=>hsp x (by simp [hx]))
 have hvars : ∀ sp : Nat → Bool,DataW.TrodVars enc P W' sp s.vars (s.fn H (ds ++ [])).vars []:=fun sp=>by
  rw [hv,hfn.2.2];exact rfl
 have hres : ∀ (b : Nat) (sp : Nat → Bool) (hd : Bool),DataW.TrodAll enc P W' b sp hd f.resultTypes.toList ((Value.bool true).resultList f.resultTypes.size) (s.fn H (ds ++ [])).results []:=fun b sp hd=>by
  rw [hr,hfn.1];exact trodAll_cons_mk (shut_bool hu true) trodAll_mk0
 have hok : ∀ (j : Nat) (t : TypeId) (r : Value),f.resultTypes[j]? = some t → ((Value.bool true).resultList f.resultTypes.size)[j]? = some r → Value.okWide P W' .any 0 t r:=ok_one hr rfl (okWide_bool_mk hu _);have hlt : ∀ x ∈ p ++ [],x.block < W.heap.size:=hW.lt;have hold : ∀ x ∈ p ++ [],(fun b=>decide (b < W.heap.size)) x.block = true:=fun x hx=>by simpa using hlt x hx
 refine ⟨ds,[],p ++ [],[],p,[],hW,hres _ _ _,hargs _ hold,hvars _,Below.frame hb _,fun _=>?_⟩;refine ⟨hok,_,_,([] ++ p) ++ [],⟨[] ++ p,[],trodAll_append (hargs _ (fun _ _=>rfl)) (hres _ _ _),hvars _,rfl,?_,?_⟩,?_⟩
 · intro b off hp
   have h1 : MemPlace.cell b off ∈ p ++ []:=by simpa using hp
   rw [Below.frozen hb (p:=⟨b,off,none⟩) (hlt _ h1)];exact hz b off h1
 · intro ha
   simpa using hn ha
 · intro x hp _
   simpa using hp
end Go.Lith
namespace Go.Lith
open Go.RowKit Go.ChangeShapes
variable {H : Type} {enc : TypeId × Value → H} {P : Program} {w : World} {base : Nat} {spare : Nat → Bool} {held : Bool}
theorem I1 {n : Nat} {t e : TypeId} {fuel : Nat} {cs : List Value} {x : DataW H × List MemPlace} (hu : P.underlying t = some (.slice e)) (hi : jG P n e = true) (hc : P.cellsOf e = 3) (h : DataW.trod enc P w base spare held fuel t cs = some x) :
 ∃ (A : Option Addr) (len cap : Nat) (ps : List P3),cs = [.slice A len cap] ∧ len ≤ cap ∧ cap ≤ maxLen ∧ Am Tf 3 w A len ps:=by
 obtain ⟨A,len,cap,rfl,h1,h2,h3,h4⟩:=Ab hu hi hc h;obtain ⟨ps,h5,h6⟩:=pJ (p:=fun i (p : P3)=>∃ a,A = some a ∧ pS w (a.add (i * 3)) (Tf p)) len (fun i hi=>by
  obtain ⟨a,zs,rfl,_,hr,hl,hz⟩:=h4 i hi;obtain ⟨x,y,z,rfl⟩:=three hl;exact ⟨⟨x,y,z⟩,a,rfl,hr⟩)
 exact ⟨A,len,cap,ps,rfl,h1,h2,h5,fun i p hp=>h6 i p hp⟩
theorem Wl {n : Int} (h : (Lit.int .u8 n).wf = true) : ∃ q : Nat,n = (q : Int) ∧ q < 256:=by
 have:=bounds_u8 h;exact ⟨n.toNat,by omega,by omega⟩
theorem F6 {r : Reach} {b0 n : Nat} {t tI tH tB tR tS tP : TypeId} {fs : Array Field} {v : Value} {d : DataW H} {p : List MemPlace} (hs : P.underlying t = some (.struct fs)) (hf : fs.map (fun f=>(f.type,f.offset)) = #[(tI,0),(tI,1),(tH,2),(tB,3),(tH,4),(tR,5),(tS,12)]) (ct : P.cellsOf t = 13)
 (hI : jG P n tI = true) (cI : P.cellsOf tI = 1) (hH : P.underlying tH = some (.slice tI)) (cH : P.cellsOf tH = 1) (hB : P.underlying tB = some (.int .u8)) (cB : P.cellsOf tB = 1) (hR : jG P n tR = true) (cR : P.cellsOf tR = 7) (hS : P.underlying tS = some (.slice tP)) (cS : P.cellsOf tS = 1) (hP : jG P n tP = true) (cP : P.cellsOf tP = 3)
 (hv : Value.okWide P w r b0 t v) (h : DataW.Trod enc P w base spare held t v d p) :
 ∃ (kind bits : Int) (q : Nat) (r : e8) (HA ZA PA : Option Addr) (HN Hc ZN Zc PN Pc : Nat) (hz zs : List Int) (ss : List P3),v = .agg #[.int .i64 kind,.int .i64 bits,.slice HA HN Hc,.int .u8 (q : Int),.slice ZA ZN Zc,.int .i64 r.s.x,.int .i64 r.s.y,.int .i64 r.s.z,.int .i64 r.w,.int .i64 r.d.x,.int .i64 r.d.y,.int .i64 r.d.z,.slice PA PN Pc] ∧
  Iw kind ∧ Iw bits ∧ IR r ∧ cT w HA HN hz ∧ cT w ZA ZN zs ∧ Am Tf 3 w PA PN ss ∧ q < 256:=by
 obtain ⟨fuel,hfu⟩:=h;unfold Value.okWide at hv;rw [hs] at hv;obtain ⟨cs,rfl,hz,_⟩:=hv;obtain ⟨xs,m,_,_,hl,hxl,hx⟩:=DataW.trod_struct hs hfu;have field : ∀ (i : Nat) (ty : TypeId) (off : Nat),(#[(tI,0),(tI,1),(tH,2),(tB,3),(tH,4),(tR,5),(tS,12)] : Array (TypeId × Nat))[i]? = some (ty,off) → ∃ y,DataW.trod enc P w base spare held m ty ((cs.toList.drop off).take (P.cellsOf ty)) = some y:=fun i ty off hi=>by
  rw [← hf,Array.getElem?_map] at hi;cases hq : fs[i]? with
  | none=>rw [hq] at hi; cases hi
  | some f =>
   rw [hq] at hi;simp only[Option.map_some,Option.some.injEq,Prod.mk.injEq] at hi;obtain ⟨rfl,rfl⟩:=hi;have hi' : i < fs.size:=(Array.getElem?_eq_some_iff.1 hq).1;exact ⟨xs[i]'(by omega),(hx i f hq).trans (List.getElem?_eq_getElem (by omega))⟩
 rw [ct] at hz;obtain ⟨l⟩:=cs
 match l,hz with
 | [c0,c1,c2,c3,c4,c5,c6,c7,c8,c9,c10,c11,c12],_ =>
  obtain ⟨y0,h0⟩:=field 0 tI 0 rfl;obtain ⟨y1,h1⟩:=field 1 tI 1 rfl;obtain ⟨y2,h2⟩:=field 2 tH 2 rfl;obtain ⟨y3,h3⟩:=field 3 tB 3 rfl;obtain ⟨y4,h4⟩:=field 4 tH 4 rfl;obtain ⟨y5,h5⟩:=field 5 tR 5 rfl;obtain ⟨y6,h6⟩:=field 6 tS 12 rfl;simp only[cI,cH,cB,cR,cS] at h0 h1 h2 h3 h4 h5 h6;have e0:=(iV n tI m [c0] _ hI h0).2;have e1:=(iV n tI m [c1] _ hI h1).2;have e5:=(iV n tR m [c5,c6,c7,c8,c9,c10,c11] _ hR h5).2;obtain ⟨kind,rfl,k0⟩:=e0 c0 (by simp);obtain ⟨bits,rfl,k1⟩:=e1 c1 (by simp);obtain ⟨r5,rfl,k5⟩:=e5 c5 (by simp);obtain ⟨r6,rfl,k6⟩:=e5 c6 (by simp);obtain ⟨r7,rfl,k7⟩:=e5 c7 (by simp);obtain ⟨r8,rfl,k8⟩:=e5 c8 (by simp);obtain ⟨r9,rfl,k9⟩:=e5 c9 (by simp);obtain ⟨r10,rfl,k10⟩:=e5 c10 (by simp);obtain ⟨r11,rfl,k11⟩:=e5 c11 (by simp);obtain ⟨z3,hc3,_,wz⟩:=DataW.trod_int (cs:=[c3]) hB h3;obtain ⟨q,rfl,hq⟩:=Wl wz;obtain ⟨HA,HN,Hc,hz',hc2,_,_,_,hZ⟩:=wU (n:=n) (cs:=[c2]) hH hI cI h2;obtain ⟨ZA,ZN,Zc,zs,hc4,_,_,_,hZ2⟩:=wU (n:=n) (cs:=[c4]) hH hI cI h4;obtain ⟨PA,PN,Pc,ss,hc12,_,_,hS2⟩:=I1 (n:=n) (cs:=[c12]) hS hP cP h6;simp only[List.cons.injEq,and_true] at hc2 hc3 hc4 hc12;subst hc2;subst hc3;subst hc4;subst hc12;exact ⟨kind,bits,q,⟨⟨r5,r6,r7⟩,r8,⟨r9,r10,r11⟩⟩,HA,ZA,PA,HN,Hc,ZN,Zc,PN,Pc,hz',zs,ss,rfl,⟨k0⟩,⟨k1⟩,⟨⟨k5,k6,k7⟩,k8,⟨k9,k10,k11⟩⟩,hZ,hZ2,hS2,hq⟩
end Go.Lith
