/-
 Texts of one claim, laid together: W7, W8, W9, Ref1, Ref2, Ref3, Ref4, Ref5, Ref6, Ref7, Geo1, Exact, W10, Pack2, W11, Ref8, Exact2, Meas1, RefG1, V3, Wf, Wg, Wh, Wi, Surf1, Surf3, Surf1b.
-/
import Derived.Test.YtfohfflkhpfjeaaGreatDoorF5
set_option maxHeartbeats 8000000
set_option linter.unusedSimpArgs false
set_option linter.unusedVariables false
set_option linter.unusedSectionVars false
namespace Go.Proofs.YtfohfflkhpfjeaaGreatDoor
open Go.Proofs.Tryz
open Go.RowKit Go.Lith
abbrev eR:=@underlying166
set_option maxRecDepth 100000
attribute [local irreducible] wpList wpQuiet dC cS cR Code.wp
theorem Qt {fs gs : List T3} {N cap N2 cap2 : Nat} {A A2 : Option Addr} {g1 : Nat} {H R J M : Value} (w : World) (hB1 : fX w g1 [.slice A N cap,.slice A2 N2 cap2,H,R,M,J] 73) (hT : eG w A N fs) (hT2 : eG w A2 N2 gs) (hN : N ≤ 10000000) (hN2 : N2 ≤ 10000000) : eI prog 31 [.pointer (some ⟨g1,0,none⟩)] w (fun v _=>v = .int .i64 (if cV true fs ≠ 0 then cV true fs else cV true gs)):=by
 refine ⟨ae7,?_⟩;have m:=bR.refl w
 go_enter func31,ntmps31
 refine aD fun K1 k1=>wp_region_lit (aA (aF) (aG (k1 _ _ ?_)));refine aD fun K2 k2=>aD fun K3 k3=>wp_region_lit (aA (aB) (aA (cC rfl) (aA (aK (c:=0) gY rfl iG rfl rfl) ?_)));simp only[zz];refine aJ rfl ((hB1.ext m.ext).lies1 mL rfl) ?_;simp only[zz];refine gF m rfl rfl (yD _ (hT.ext m.ext) hN) ?_;clear m;rintro v u m rfl;refine aA (aF) (aG (k3 _ _ ?_));refine aD fun K4 k4=>wp_region_lit (aA (aB) (aA (nS rfl rfl) ?_));simp only[zz];refine aG (k4 _ _ ?_);refine cO rfl (fun hc1=>?_) (fun hc1=>?_)
 ·
  refine aD fun K5 k5=>wp_region_lit (aA (aB) (aA (aF) (aG (k5 _ _ ?_))));refine wp_ret ?_;simp only[zz];try simp only[Exit.inBlock,Exit.then,if_true]
  refine bS rfl rfl ?_;try simp only[zD,zE]
  exact ⟨_,rfl,m.ext,by rw [if_pos hc1]⟩
 ·
  refine wp_skip (k2 _ _ ?_);refine aD fun K6 k6=>wp_region_lit (aA (aB) (aA (cC rfl) (aA (aK (c:=0) gY rfl iG rfl rfl) ?_)));simp only[zz];refine aJ rfl ((hB1.ext m.ext).lies1 mL rfl) ?_;simp only[zz];refine gF m rfl rfl (yD _ (hT2.ext m.ext) hN2) ?_;clear m;rintro v u m rfl;refine aA (aF) (aG (k6 _ _ ?_));refine wp_ret ?_;simp only[zz];try simp only[Exit.inBlock,Exit.then,if_true]
  refine bS rfl rfl ?_;try simp only[zD,zE]
  exact ⟨_,rfl,m.ext,by rw [if_neg (fun h=>hc1 h)]⟩
def Bk (f c : List T3) : Int:=if aR f ≠ aR c then 30 else if nP f c (aR f) = true ∨ uC f c (aR f) = false then 30 else 0
theorem afY {f c : List T3} (h : ¬ aR f = aR c) : Bk f c = 30:=if_pos h
theorem acM {f c : List T3} (h : nP f c (aR f) = true ∨ uC f c (aR f) = false) : Bk f c = 30:=by
 unfold Bk;rw [if_pos h];split <;> rfl
theorem afZ {f c : List T3} (h1 : aR f = aR c) (h2 : nP f c (aR f) = false) (h3 : uC f c (aR f) = true) : Bk f c = 0:=by
 rw [Bk,if_neg (fun k=>k h1),if_neg];rintro (k | k)
 · rw [h2] at k;cases k
 · rw [h3] at k;cases k
theorem Wh {K V : Type} [DecidableEq K] : ∀ {xs : List (K × V)},(xs.map (·.1)).Nodup → lM [] xs = xs:=by
 intro xs;have key : ∀ (ys D : List (K × V)),((D ++ ys).map (·.1)).Nodup → lM D ys = D ++ ys:=by
  intro ys
  induction ys with
  | nil=>intro D _;rw [List.append_nil];rfl
  | cons y ys ih =>
   intro D h;have hy : y.1 ∉ D.map (·.1):=by
    rw [List.map_append,List.nodup_append] at h;exact fun k=>h.2.2 _ k _ (by simp) rfl
   have e : fJ D y.1 y.2 = D ++ [y]:=by
    have hm : mF D y.1 0 = none:=by
     cases hf : mF D y.1 0 with
     | none=>rfl
     | some q =>
      obtain ⟨p,_,hp,_⟩:=mN D y.1 0 q.1 q.2 hf;exact absurd (List.mem_map.2 ⟨_,List.mem_of_getElem? hp,rfl⟩) hy
    exact (mM D y.1 0 hm).2.1 y.2
   show lM (fJ D y.1 y.2) ys = _
   rw [e,ih (D ++ [y]) (by simpa using h)];simp
 exact key xs []
theorem Sr (f c : List T3) (rim : List E3) : uC f c rim = decide (vW f rim = vW c rim):=by
 rw [Bool.eq_iff_iff,decide_eq_true_eq];unfold uC vW;rw [List.all_eq_true,List.map_inj_left];exact ⟨fun h e he=>by rw [of_decide_eq_true (h e he)],fun h e he=>decide_eq_true (congrArg Prod.snd (h e he))⟩
theorem aay {f c : List T3} {es : Array MapEntry} {sn : Array Nat} {dn : List (E3 × Bool)} (h : kZ ed Value.bool (fG [] (kB c)) es sn dn []) (hno : ∀ y ∈ dn,Qg f (aR f) y.1 = false) : nP f c (aR f) = false:=by
 cases hj : nP f c (aR f) with
 | false=>rfl
 | true =>
  obtain ⟨e,he,hn⟩:=Hs.1 hj;have h1 : e ∈ (fG [] (kB c)).map (·.1):=(tY _ _ _).2 (.inr he);obtain ⟨y,hy,rfl⟩:=List.mem_map.1 h1;rw [hno y (h.done.mem_iff.2 hy)] at hn;cases hn
theorem aaz {f c : List T3} {es : Array MapEntry} {sn : Array Nat} {dn rs : List (E3 × Bool)} (h : kZ ed Value.bool (fG [] (kB c)) es sn dn rs) {y : E3 × Bool} (hy : y ∈ dn) (hn : Qg f (aR f) y.1 = true) : nP f c (aR f) = true:=by
 have h1 : y.1 ∈ (fG [] (kB c)).map (·.1):=List.mem_map.2 ⟨y,h.1.mem_iff.1 (List.mem_append_left _ hy),rfl⟩;exact Hs.2 ⟨y.1,((tY _ _ _).1 h1).resolve_left (by simp),hn⟩
theorem Wi {w0 w : World} {K : It} {fs gs : List T3} {N cap N2 cap2 : Nat} {A A2 : Option Addr} {g1 : Nat} {H R J M : Value} (m : bR w0 w [bI g1 [.slice A N cap,.slice A2 N2 cap2,H,R,M,J] 73,K]) (hT : eG w0 A N fs) (hT2 : eG w0 A2 N2 gs) (hN : N ≤ 10000000) (hN2 : N2 ≤ 10000000) (hf : cV true fs = 0) (hg : cV true gs = 0) : Sq prog 32 [.pointer (some ⟨g1,0,none⟩)] w fun v w'=>∃ A4 c4,v = .int .i64 (Bk fs gs) ∧ bR w0 w' [oI 57 6 A4 (aR fs).length c4 ((aR fs).flatMap bJ),bI g1 [.slice A N cap,.slice A2 N2 cap2,H,.slice A4 (aR fs).length c4,M,J] 73,K]:=by
 refine ⟨ae8,?_⟩;have hbl : (aR fs).length ≤ 30000000:=by have h1:=tN (all:=aP fs) (aP fs) [];have h2:=lG fs;have h3:=hT.len;simp only[List.length_nil] at h1;unfold aR;omega
 have hbn : (aR fs).Nodup:=(mV fs).nodup
 go_enter func32,ntmps32
 refine aD fun K1 k1=>wp_region_lit (aA (aF) (aG (k1 _ _ ?_)));refine aD fun K2 k2=>wp_region_lit (aA (aB) (aA (aB) (aA (cC rfl) ?_)));simp only[zz];refine aA (aK (c:=0) gY rfl iG rfl rfl) ?_;simp only[zz];refine aJ rfl ((m.b 0 rfl).lies1 mL rfl) ?_;simp only[zz];refine bK rfl rfl (Hu _ (hT.ext m.ext) hN) ?_;rintro v u e ⟨A4,c4,n4,hn4,rfl,hN⟩;replace m:=m.newO e hN;clear e hN;subst hn4;refine aA (cC rfl) (aA (aK (c:=0) gY rfl nB rfl rfl) ?_);simp only[zz];refine By (off:=3) m 1 rfl rfl rfl nB (dX rfl) ⟨rfl,rfl⟩ ?_;clear m;intro u m;simp only[zz,zy,zx,bG,Nat.reduceAdd] at m;refine aG (k2 _ _ ?_);refine aD fun K3 k3=>aD fun K4 k4=>?_;refine mh m [true,true,true] [(0,true),(1,true),(2,true),(4,true),(5,true),(6,true),(3,true),(7,true),(8,false),(9,false),(10,true)] aO (by kernel_rfl) (eE (fun _ _ _ _ _ h=>h)) (ol:=?_) ?hol ?_
 case hol=>simp only[zw,zQ,zR];try rfl
 clear m;intro u m;refine bO (aB) (bO (cC rfl) (bO (aK (c:=0) gY rfl nB rfl rfl) (bO (aB) ?_)));simp only[zz];refine bO (cC rfl) (bO (aK (c:=0) gY rfl iG rfl rfl) ?_);simp only[zz];refine dU rfl (fun u m=>((m.b 1 rfl).lies1 Do rfl)) ?_;simp only[zz];refine dU rfl (fun u m=>((m.b 1 rfl).lies1 mL rfl)) ?_;simp only[zz];refine dT (bK rfl rfl (Hu _ (hT2.ext m.ext) hN2) ?_);rintro v u e ⟨A5,c5,n5,hn5,rfl,hN⟩;replace m:=m.newO e hN;clear e hN;subst hn5;refine aG (⟨m.sel [false,true,true,true],?_⟩);refine dT ?_;simp only[zz];refine gF m rfl rfl (We _ ((m.o 1 rfl).lat pR (by decide)) ((m.o 0 rfl).lat pR (by decide)) (by omega)) ?_;clear m;rintro v u m rfl;refine aG (⟨m.sel [false,true,true,true],?_⟩);refine bO (gX rfl) (eF (k4 _ _ ?_));simp only[zz];refine eU rfl (fun hc1=>?_) (fun hc1=>?_)
 ·
  have hne : ¬ aR fs = aR gs:=by simpa using hc1
  refine aD fun K5 k5=>wp_region_lit (aA (aF) (aG (k5 _ _ ?_)));refine wp_ret ?_;simp only[zz];try simp only[Exit.inBlock,Exit.then,if_true]
  refine bS rfl rfl ?_;try simp only[zD,zE]
  exact ⟨_,rfl,_,_,by rw [afY hne],m.sel [false,true,true,true]⟩
 ·
  have hbe : aR fs = aR gs:=by simpa using hc1
  refine wp_skip (k3 _ _ ?_);refine aD fun K6 k6=>wp_region_lit (jJ m ?_);clear m;intro q9 u m;have hD9:=bV.nil (K:=P3) (V:=Bool) pt Value.bool;refine aA (aF) (aG (k6 _ _ ?_));refine aD fun K7 k7=>aD fun K8 k8=>wp_region_lit (aA (aB) (aA (cC rfl) ?_));simp only[zz];refine aA (aK (c:=0) gY rfl nB rfl rfl) ?_;simp only[zz];refine aJ rfl ((m.b 3 rfl).lies1 Do rfl) ?_;simp only[zz];refine aA (bF rfl fL rfl) (aA (aB) (aG (k8 _ _ ?_)));refine wp_block ?_;simp only[zz];try simp only[Nat.zero_add,Nat.reduceAdd,Nat.reduceMul,Int.reduceToNat]
  refine bM [33] [5,34,35,36,37,38,39,40,41,42,43] (fun n vs wl=>∃ (k : Nat) (es : Array MapEntry) (c : Nat),vs = [.int .i64 (k:Int)] ∧ bR w0 wl [mI q9 es c,oI 57 6 A4 (aR fs).length c4 ((aR fs).flatMap bJ),bI g1 [.slice A N cap,.slice A2 N2 cap2,H,.slice A4 (aR fs).length c4,M,J] 73,K] ∧ (bV pt Value.bool (fG [] (El ((aR fs).take k))) es c) ∧ (k ≤ (aR fs).length) ∧ (n = (aR fs).length - k)) ?_ ?_
  ·
   apply Exists.intro;simp only[zQ,zR,zD,zE];exact ⟨0,_,_,rfl,(m.sel [true,false,true,true,true]),hD9,Nat.zero_le _,rfl⟩
  ·
   intro n vs wr hI u;clear m;obtain ⟨k,es9,c9,rfl,m,hD9,hk,hn⟩:=hI;simp only[zu,zF,zG];refine aD fun K9 k9=>wp_region_lit (aA (cJ rfl rfl) (aG (k9 _ _ ?_)));refine aD fun K10 k10=>?_;simp only[zz];refine cO rfl (fun hc2=>?_) (fun hc2=>?_)
   ·
    obtain ⟨e,he⟩ : ∃ e,(aR fs)[k]? = some e:=⟨_,List.getElem?_eq_getElem (by omega)⟩
    obtain ⟨gO,rfl⟩:=(m.o 1 rfl).some (by omega);refine wp_skip (k10 _ _ ?_);refine aD fun K11 k11=>wp_block (aD fun K12 k12=>wp_region_lit (aA (aM fL cE rfl rfl (by omega) (by omega) (cA (Int.toNat_natCast _))) ?_));simp only[zz];refine aJ rfl (((m.o 1 rfl).at pR he).lies jV cE) ?_;simp only[zz];refine bC m rU rfl ?_;clear m;intro g3 u m;simp only[zz];refine aS m 0 rfl rfl rfl cE (dX rfl) rfl ?_;clear m;intro u m;simp only[zy,zx,bG,zF,zG,Nat.reduceAdd] at m;refine aG (k12 _ _ ?_);refine mh m [true,false,true,true,true] [(0,true),(1,true),(3,true),(4,true),(2,true),(5,true),(6,false),(7,false)] aO (by kernel_rfl) (eE (fun _ _ _ _ _ h=>h)) (ol:=?_) ?hol ?_
    case hol=>simp only[zw,zQ,zR];try rfl
    clear m;intro u m;refine bO (aB) (bO (aH jH aC rfl rfl (by decide) (by decide) rfl) (bO (aB) (bO (aH jH aC rfl rfl (by decide) (by decide) rfl) ?_)));simp only[zz];refine dU rfl (fun u m=>((m.b 0 rfl).lies aI aC rfl rfl)) ?_;simp only[zz,zy,Nat.zero_add,Nat.reduceAdd,Nat.reduceMul,Int.reduceToNat];refine dU rfl (fun u m=>((m.b 0 rfl).lies aI aC rfl rfl)) ?_;simp only[zz,zy,Nat.zero_add,Nat.reduceAdd,Nat.reduceMul,Int.reduceToNat];refine dT (eS (ek:=pt) (en:=Value.bool) (a:=e.1) (v:=true) m 1 rfl mD fW rfl rfl rfl hD9 ?_);clear m;intro es9 c9 u m hD';clear hD9;have hD9:=hD';clear hD';simp only[zF,zG] at m;rw [← lL] at hD9;refine aG (⟨m.sel [true,false,true,true,true],?_⟩);refine dT (eS (ek:=pt) (en:=Value.bool) (a:=e.2) (v:=true) m 1 rfl mD fW rfl rfl rfl hD9 ?_);clear m;intro es9 c9 u m hD';clear hD9;have hD9:=hD';clear hD';simp only[zF,zG] at m;rw [← lL] at hD9;refine aG (⟨m.sel [true,false,true,true,true],?_⟩);refine eF (k11 _ _ ?_);refine wp_region_lit (aA (aQ rfl rfl (aN (by omega) (by omega))) (aA (aB) (aG ?_)));simp only[zz];simp only[Exit.inBlock,Exit.then];refine ⟨(aR fs).length - (k + 1),_,?_,rfl,?_,?_⟩
    · omega
    · simp only[zz,zv]
    ·
     simp only[zQ,zR,zD,zE];exact ⟨k + 1,_,_,rfl,(m.sel [false,true,true,true,true]),by rw [Mu he];simpa [List.append_assoc] using hD9,by omega,rfl⟩
   ·
    obtain rfl : k = (aR fs).length:=by omega
    rw [List.take_length] at hD9;refine wp_exit (k7 _ _ ?_);refine aD fun K13 k13=>aD fun K14 k14=>?_;refine mh m [true,true,true,true] [(0,true),(1,true),(2,true),(4,true),(5,true),(6,true),(9,true),(10,true),(11,true),(13,true),(14,true),(15,true),(3,true),(7,true),(12,true),(16,true),(8,false),(17,false),(18,false),(19,true)] aO (by kernel_rfl) (eE (fun _ _ _ _ _ h=>h)) (ol:=?_) ?hol ?_
    case hol=>simp only[zw,zQ,zR];try rfl
    clear m;intro u m;refine bO (aB) (bO (cC rfl) (bO (aK (c:=0) gY rfl iG rfl rfl) (bO (aB) ?_)));simp only[zz];refine bO (cC rfl) (bO (aK (c:=0) gY rfl nB rfl rfl) (bO (aB) (bO (cC rfl) ?_)));simp only[zz];refine bO (aK (c:=0) gY rfl iG rfl rfl) (bO (aB) (bO (cC rfl) (bO (aK (c:=0) gY rfl nB rfl rfl) ?_)));simp only[zz];refine dU rfl (fun u m=>((m.b 2 rfl).lies1 mL rfl)) ?_;simp only[zz];refine dU rfl (fun u m=>((m.b 2 rfl).lies1 Do rfl)) ?_;simp only[zz];refine dU rfl (fun u m=>((m.b 2 rfl).lies1 mL rfl)) ?_;simp only[zz];refine dU rfl (fun u m=>((m.b 2 rfl).lies1 Do rfl)) ?_;simp only[zz];refine dT (bK rfl rfl (aaq (rim:=(aR fs)) _ (hT.ext m.ext) hN ((m.o 1 rfl).lat pR (by decide)) (by omega) (uG hf).1 (uG hf).2 (fun e he=>(oY.1 he).2)) ?_);rintro v u e ⟨g10,es10,c10,rfl,hM,hD10⟩;replace m:=m.plus hM;clear hM e;simp only[List.cons_append,List.nil_append] at m;refine aG (⟨m.sel [false,true,true,true,true],?_⟩);refine dT ?_;simp only[zz];refine bK rfl rfl (aaq (rim:=(aR fs)) _ (hT2.ext m.ext) hN2 ((m.o 2 rfl).lat pR (by decide)) (by omega) (uG hg).1 (uG hg).2 (fun e he=>(oY.1 (hbe ▸ he)).2)) ?_;rintro v u e ⟨g11,es11,c11,rfl,hM,hD11⟩;replace m:=m.plus hM;clear hM e;simp only[List.cons_append,List.nil_append] at m;rw [Wh (by rw [vA];exact hbn)] at hD10 hD11;refine aG (⟨m.sel [false,false,true,true,true,true],?_⟩);refine dT ?_;simp only[zz];refine gF m rfl rfl (abZ _ (m.p 1 rfl) hD10 (m.p 0 rfl) hD11 (by rw [vA,vA]) (by rw [vA];exact hbn)) ?_;clear m;rintro v u m rfl;refine aG (⟨m.sel [false,false,true,true,true,true],?_⟩);refine bO (gX rfl) (eF (k14 _ _ ?_));simp only[zz];refine eU rfl (fun hc3=>?_) (fun hc3=>?_)
    ·
     have hfan : uC fs gs (aR fs) = false:=by rw [Sr];simpa using hc3
     refine aD fun K15 k15=>wp_region_lit (aA (aF) (aG (k15 _ _ ?_)));refine wp_ret ?_;simp only[zz];try simp only[Exit.inBlock,Exit.then,if_true]
     refine bS rfl rfl ?_;try simp only[zD,zE]
     exact ⟨_,rfl,_,_,by rw [acM (.inr hfan)],m.sel [false,false,false,true,true,true]⟩
    ·
     have hfan : uC fs gs (aR fs) = true:=by rw [Sr];simpa using hc3
     refine wp_skip (k13 _ _ ?_);refine aD fun K16 k16=>wp_region_lit (aA (aB) (aA (cC rfl) (aA (aK (c:=0) gY rfl iG rfl rfl) ?_)));simp only[zz];refine aJ rfl ((m.b 4 rfl).lies1 mL rfl) ?_;simp only[zz];refine bK rfl rfl (Es _ (hT.ext m.ext) hN) ?_;rintro v u e ⟨g12,es12,c12,rfl,hM,hD12⟩;replace m:=m.plus hM;clear hM e;simp only[List.cons_append,List.nil_append] at m;refine aA (aF) (aG (k16 _ _ ?_));refine aD fun K17 k17=>aD fun K18 k18=>wp_region_lit (aA (aB) (aA (cC rfl) ?_));simp only[zz];refine aA (aK (c:=0) gY rfl iG rfl rfl) ?_;simp only[zz];refine aJ rfl ((m.b 5 rfl).lies1 mL rfl) ?_;simp only[zz];refine bK rfl rfl (Es _ (hT2.ext m.ext) hN2) ?_;rintro v u e ⟨g13,es13,c13,rfl,hM,hD13⟩;replace m:=m.plus hM;clear hM e;simp only[List.cons_append,List.nil_append] at m;simp only[zz];refine wK m mQ rfl (m.p 0 rfl) ?_;clear m;intro r1 u m;refine aG (k18 _ _ ?_);refine wp_block ?_;simp only[zz];try simp only[Nat.zero_add,Nat.reduceAdd,Nat.reduceMul,Int.reduceToNat]
     refine bM [] [2,7,75,76,77,78,79,80,81,82,83,84,85,86,87,88,89,90,91,92,93,94] (fun n vs wl=>∃ (dn rs : List (E3 × Bool)) (sn : Array Nat),vs = [] ∧ bR w0 wl [iI r1 g13 c13 sn,mI g13 es13 c13,mI g12 es12 c12,mI q9 es9 c9,oI 57 6 A4 (aR fs).length c4 ((aR fs).flatMap bJ),bI g1 [.slice A N cap,.slice A2 N2 cap2,H,.slice A4 (aR fs).length c4,M,J] 73,K] ∧ (kZ ed Value.bool (fG [] (kB gs)) es13 sn dn rs) ∧ (∀ y ∈ dn,Qg fs (aR fs) y.1 = false) ∧ (n = rs.length)) ?_ ?_
     ·
      apply Exists.intro;simp only[zQ,zR,zD,zE];exact ⟨[],_,#[],trivial,(m.sel [true,true,true,false,false,true,true,true,true]),kZ.start hD13,fun _ h=>(by cases h),rfl⟩
     ·
      intro n vs wr hI u;clear m;obtain ⟨dn,rs,sn,rfl,m,hT9,hno,hn⟩:=hI;simp only[zu,zF,zG];refine aD fun K19 k19=>wp_region_lit (Du m 0 rfl rfl (m.p 1 rfl) hD13 hT9 ?_);clear m;intro bb kk vv sn u m hN;simp only[zF,zG] at m;refine aA (rW rfl) (aG (k19 _ _ ?_));refine aD fun K20 k20=>?_;simp only[zz];refine eU rfl (fun hc4=>?_) (fun hc4=>?_)
      ·
       obtain ⟨kp,kb,rs2,hp,hT8⟩:=Dx hc4 hN;refine wp_skip (k20 _ _ ?_);refine wp_block (aD fun K21 k21=>wp_region_lit (eL (rX rfl (m.r 0 rfl) (m.p 1 rfl) hD13 hT8) ?_));simp only[zz];refine aA (aZ rfl rfl) ?_;simp only[zz];refine bC m rU rfl ?_;clear m;intro g4 u m;simp only[zz];refine aS m 0 rfl rfl rfl cE (dX rfl) rfl ?_;clear m;intro u m;simp only[zy,zx,bG,zF,zG,Nat.reduceAdd] at m;refine aG (k21 _ _ ?_);refine aD fun K22 k22=>wp_region_lit (aA (aB) (aA (aH jH aC rfl rfl (by decide) (by decide) rfl) ?_));simp only[zz];refine aJ rfl ((m.b 0 rfl).lies aI aC rfl rfl) ?_;simp only[zz,zy,Nat.zero_add,Nat.reduceAdd,Nat.reduceMul,Int.reduceToNat];refine eL (dZ (ek:=pt) (en:=Value.bool) (k:=kp.1) (v0:=false) mD kY fW rfl rfl (m.p 4 rfl) hD9) ?_;simp only[zz];refine aA (aB) (dO rfl (fun hb=>aB) (dO rfl (fun hb=>aH jH aC rfl rfl (by decide) (by decide) rfl) ?_));simp only[zz];refine iM rfl (fun hb=>cF (bH hb rfl) ((m.b 0 rfl).lies aI aC rfl rfl)) ?_;simp only[zz,zy,Nat.zero_add,Nat.reduceAdd,Nat.reduceMul,Int.reduceToNat];refine iM rfl (fun hb=>dZ (ek:=pt) (en:=Value.bool) (k:=kp.2) (v0:=false) mD kY fW (bH hb rfl) (bH hb rfl) (m.p 4 rfl) hD9) ?_;simp only[zz];refine aA (dA rfl rfl rfl) (aA (aB) (dO rfl (fun hb=>aB) ?_));simp only[zz];refine iM rfl (fun hb=>cF rfl ((m.b 0 rfl).full jV cE)) (iM rfl (fun hb=>dZ (ek:=ed) (en:=Value.bool) (k:=kp) (v0:=false) mQ kY mG (bH hb rfl) (bH hb rfl) (m.p 3 rfl) hD12) ?_);simp only[zz];refine dO rfl (fun hb=>gX (bH hb rfl)) (aA (dA rfl rfl rfl) (aG (k22 _ _ ?_)));simp only[zz];refine eU rfl (fun hc5=>?_) (fun hc5=>?_)
       ·
        have hnw : Qg fs (aR fs) kp = true:=by rw [Cd,Cd,uZ] at hc5;exact hc5
        have hj:=aaz hT8 (y:=(kp,kb)) (by simp) hnw;refine aD fun K23 k23=>wp_region_lit (aA (aF) (aG (k23 _ _ ?_)));refine wp_ret ?_;simp only[zz];try simp only[Exit.inBlock,Exit.then,if_true]
        refine bS rfl rfl ?_;try simp only[zD,zE]
        exact ⟨_,rfl,_,_,by rw [acM (.inl hj)],m.sel [false,false,false,false,false,true,true,true]⟩
       ·
        have hnw : Qg fs (aR fs) kp = false:=by rw [Cd,Cd,uZ] at hc5;exact hc5
        refine wp_skip ?_;simp only[Exit.inBlock,Exit.then];refine ⟨rs2.length,_,?_,rfl,?_,?_⟩
        · rw [hn,hp.length_eq];exact Nat.lt_succ_self _
        · simp only[zz,zv]
        ·
         simp only[zQ,zR,zD,zE];exact ⟨dn ++ [(kp,kb)],rs2,_,trivial,(m.sel [false,true,true,true,true,true,true,true]),hT8,fun y hy=>(List.mem_append.1 hy).elim (hno y) fun hy=>by obtain rfl:=List.mem_singleton.1 hy;exact hnw,rfl⟩
      ·
       obtain rfl:=Dw hc4 hN;refine wp_exit (k17 _ _ ?_);refine aD fun K24 k24=>wp_region_lit (aA (aF) (aG (k24 _ _ ?_)));refine wp_ret ?_;simp only[zz];try simp only[Exit.inBlock,Exit.then,if_true]
       refine bS rfl rfl ?_;try simp only[zD,zE]
       exact ⟨_,rfl,_,_,by rw [afZ hbe (aay hT9 hno) hfan],m.sel [false,false,false,false,true,true,true]⟩
end Go.Proofs.YtfohfflkhpfjeaaGreatDoor
namespace Go.Proofs.YtfohfflkhpfjeaaGreatDoor
open Go.Proofs.Tryz
open Go.RowKit Go.Lith
set_option maxRecDepth 100000
attribute [local irreducible] wpList wpQuiet dC cS cR Code.wp
theorem Ew {K V : Type} [DecidableEq K] (xs : List (K × V)) (x : K × V) : lM [] (xs ++ [x]) = fJ (lM [] xs) x.1 x.2:=Mp [] xs [x]
theorem ags {x y z : Bool} (h : ((!x || !y) || !z) = false) : (x && y && z) = true:=by revert h;cases x <;> cases y <;> cases z <;> decide
theorem agt {x y z : Bool} (h : ((!x || !y) || !z) = true) : (x && y && z) = false:=by revert h;cases x <;> cases y <;> cases z <;> decide
theorem agu {l x y z : Bool} (h : (((!l || !x) || !y) || !z) = false) : (l && x && y && z) = true:=by revert h;cases l <;> cases x <;> cases y <;> cases z <;> decide
theorem agv {l x y z : Bool} (h : (((!l || !x) || !y) || !z) = true) : (l && x && y && z) = false:=by revert h;cases l <;> cases x <;> cases y <;> cases z <;> decide
theorem yE {f c : List T3} {ms : List Mv} {rim : List E3} {i : Nat} {m : Mv} (hm : ms[i]? = some m) (h : pJ f c ms rim i m = false) : nQ f c ms rim = false:=by
 cases hh : nQ f c ms rim with
 | false=>rfl
 | true=>rw [sC.1 hh i m hm] at h;cases h
theorem Qu {w : World} {a : Addr} {e : E3} (h : jP w a (bJ e)) : jP w a [.int .i64 e.1.x,.int .i64 e.1.y,.int .i64 e.1.z,.int .i64 e.2.x,.int .i64 e.2.y,.int .i64 e.2.z]:=h
theorem aej {w0 w : World} {K : It} {fs gs : List T3} {ms : List Mv} {N cap N2 cap2 N3 cap3 c4 : Nat} {A A2 A3 A4 : Option Addr} {g1 q7 c7 : Nat} {es7 : Array MapEntry} {J : Value} (m : bR w0 w [oI 57 6 A4 (aR fs).length c4 ((aR fs).flatMap bJ),bI g1 [.slice A N cap,.slice A2 N2 cap2,.slice A3 N3 cap3,.slice A4 (aR fs).length c4,.map (some q7),J] 73,mI q7 es7 c7,K]) (hT : eG w0 A N fs) (hT2 : eG w0 A2 N2 gs) (hL3 : sR bJ 6 w0 A3 N3 ms) (hN : N ≤ 300000) (hN2 : N2 ≤ 300000) (hN3 : N3 ≤ 10000000) (hD7 : bV pt pt (lM [] ([] : List Mv)) es7 c7) : Sq prog 33 [.pointer (some ⟨g1,0,none⟩)] w fun v w'=>∃ es7 c7,v = .int .i64 (if nQ fs gs ms (aR fs) = true then 0 else 31) ∧ bR w0 w' [oI 57 6 A4 (aR fs).length c4 ((aR fs).flatMap bJ),bI g1 [.slice A N cap,.slice A2 N2 cap2,.slice A3 N3 cap3,.slice A4 (aR fs).length c4,.map (some q7),J] 73,mI q7 es7 c7,K] ∧ (nQ fs gs ms (aR fs) = true → bV pt pt (lM [] ms) es7 c7):=by
 refine ⟨ae9,?_⟩;have hbl : (aR fs).length ≤ 30000000:=by have h1:=tN (all:=aP fs) (aP fs) [];have h2:=lG fs;have h3:=hT.len;simp only[List.length_nil] at h1;unfold aR;omega
 have el3:=hL3.len
 go_enter func33,ntmps33
 refine aD fun K1 k1=>wp_region_lit (aA (aF) (aG (k1 _ _ ?_)));refine aD fun K2 k2=>wp_region_lit (aA (aB) (aA (cC rfl) (aA (aK (c:=0) gY rfl iG rfl rfl) ?_)));simp only[zz];refine aJ rfl ((m.b 1 rfl).lies1 mL rfl) ?_;simp only[zz];refine bK rfl rfl (Er _ (hT.ext m.ext) hN) ?_;rintro v u e ⟨A8,n8,cap8,_,rfl,hN,ps,rfl,hso,hmem⟩;replace m:=m.newO e hN;clear e hN;refine aA (aF) (aG (k2 _ _ ?_));refine aD fun K3 k3=>?_;simp only[zz];refine mh m [true,true,true,true,true] [(0,true),(2,true),(4,true),(5,true),(6,true),(7,true),(1,false),(3,false),(8,false),(9,false),(10,true),(11,true),(12,true)] aO (by kernel_rfl) (eE (fun _ _ _ _ _ h=>h)) (ol:=?_) ?hol ?_
 case hol=>simp only[zw,zQ,zR];try rfl
 clear m;intro u m;refine bO (aB) (bO (aB) (bO (aB) (bO (cC rfl) ?_)));simp only[zz];refine bO (aK (c:=0) gY rfl iG rfl rfl) ?_;simp only[zz];refine dU rfl (fun u m=>((m.b 2 rfl).lies1 mL rfl)) ?_;simp only[zz];refine dT (bK rfl rfl (aap _ ((m.o 0 rfl).lat Lv (by decide)) (Nat.le_trans (m.o 0 rfl).le (m.o 0 rfl).max)) ?_);rintro v u e ⟨q9,es9,c9,rfl,hM,hD9⟩;replace m:=m.plus hM;clear hM e;simp only[List.cons_append,List.nil_append] at m;refine aG (⟨m.sel [false,true,true,true,true,true],?_⟩);refine dT ?_;simp only[zz];refine bK rfl rfl (aap _ ((m.o 1 rfl).lat Lv (by decide)) (Nat.le_trans (m.o 1 rfl).le (m.o 1 rfl).max)) ?_;rintro v u e ⟨q10,es10,c10,rfl,hM,hD10⟩;replace m:=m.plus hM;clear hM e;simp only[List.cons_append,List.nil_append] at m;refine aG (⟨m.sel [false,false,true,true,true,true,true],?_⟩);refine dT ?_;simp only[zz];refine bK rfl rfl (Er _ (hT2.ext m.ext) hN2) ?_;rintro v u e ⟨A11,n11,cap11,_,rfl,hN,qs,rfl,hso2,hmem2⟩;replace m:=m.newO e hN;clear e hN;refine aG (⟨m.sel [false,false,false,true,true,true,true,true],?_⟩);refine dT ?_;simp only[zz];refine bK rfl rfl (aap _ ((m.o 0 rfl).lat Lv (by decide)) (Nat.le_trans (m.o 0 rfl).le (m.o 0 rfl).max)) ?_;rintro v u e ⟨q12,es12,c12,rfl,hM,hD12⟩;replace m:=m.plus hM;clear hM e;simp only[List.cons_append,List.nil_append] at m;refine aG (⟨m.sel [false,false,false,false,true,true,true,true,true],?_⟩);refine bO (aF) (bO (aF) (bO (aF) ?_));simp only[zz];refine eF (k3 _ _ ?_);refine aD fun K4 k4=>aD fun K5 k5=>wp_region_lit (aA (aB) (aA (cC rfl) (aA (aK (c:=0) gY rfl nB rfl rfl) ?_)));simp only[zz];refine aJ rfl ((m.b 6 rfl).lies1 Do rfl) ?_;simp only[zz];refine aA (bF rfl fL rfl) (aA (aB) (aG (k5 _ _ ?_)));refine wp_block ?_;simp only[zz];try simp only[Nat.zero_add,Nat.reduceAdd,Nat.reduceMul,Int.reduceToNat]
 refine bM [33] [8,34,35,36,37,38,39,40,41,42,43] (fun n vs wl=>∃ (k : Nat) (es : Array MapEntry) (cc : Nat),vs = [.int .i64 (k:Int)] ∧ bR w0 wl [mI q12 es12 c12,mI q10 es10 c10,mI q9 es cc,oI 57 6 A4 (aR fs).length c4 ((aR fs).flatMap bJ),bI g1 [.slice A N cap,.slice A2 N2 cap2,.slice A3 N3 cap3,.slice A4 (aR fs).length c4,.map (some q7),J] 73,mI q7 es7 c7,K] ∧ (bV pt Value.bool ((El ((aR fs).take k)).foldl oV (fG [] ps)) es cc) ∧ (k ≤ (aR fs).length) ∧ (n = (aR fs).length - k)) ?_ ?_
 ·
  apply Exists.intro;simp only[zQ,zR,zD,zE];exact ⟨0,_,_,rfl,(m.sel [true,false,true,true,false,true,true,true,true]),hD9,Nat.zero_le _,rfl⟩
 ·
  intro n vs wr hI u;clear m;obtain ⟨k,es9,c9,rfl,m,hD9,hk,hn⟩:=hI;simp only[zu,zF,zG];refine aD fun K6 k6=>wp_region_lit (aA (cJ rfl rfl) (aG (k6 _ _ ?_)));refine aD fun K7 k7=>?_;simp only[zz];refine cO rfl (fun hc1=>?_) (fun hc1=>?_)
  ·
   obtain ⟨e,he⟩ : ∃ e,(aR fs)[k]? = some e:=⟨_,List.getElem?_eq_getElem (by omega)⟩
   obtain ⟨gO,rfl⟩:=(m.o 3 rfl).some (by omega);refine wp_skip (k7 _ _ ?_);refine aD fun K8 k8=>wp_block (aD fun K9 k9=>wp_region_lit (aA (aM fL cE rfl rfl (by omega) (by omega) (cA (Int.toNat_natCast _))) ?_));simp only[zz];refine aJ rfl (((m.o 3 rfl).at pR he).lies jV cE) ?_;simp only[zz];refine bC m rU rfl ?_;clear m;intro g2 u m;simp only[zz];refine aS m 0 rfl rfl rfl cE (dX rfl) rfl ?_;clear m;intro u m;simp only[zy,zx,bG,zF,zG,Nat.reduceAdd] at m;refine aG (k9 _ _ ?_);refine aD fun K10 k10=>wp_region_lit (aA (aB) (aA (aH jH aC rfl rfl (by decide) (by decide) rfl) ?_));simp only[zz];refine aJ rfl ((m.b 0 rfl).lies aI aC rfl rfl) ?_;simp only[zz,zy,Nat.zero_add,Nat.reduceAdd,Nat.reduceMul,Int.reduceToNat];refine Ep (ek:=pt) (en:=Value.bool) (a:=e.1) m 3 rfl mD fW rfl rfl hD9 rfl ?_;clear m;intro es9 c9 u m hD';clear hD9;have hD9:=hD';clear hD';simp only[zF,zG] at m;refine aG (k10 _ _ ?_);refine wp_region_lit (aA (aB) (aA (aH jH aC rfl rfl (by decide) (by decide) rfl) ?_));simp only[zz];refine aJ rfl ((m.b 0 rfl).lies aI aC rfl rfl) ?_;simp only[zz,zy,Nat.zero_add,Nat.reduceAdd,Nat.reduceMul,Int.reduceToNat];refine Ep (ek:=pt) (en:=Value.bool) (a:=e.2) m 3 rfl mD fW rfl rfl hD9 rfl ?_;clear m;intro es9 c9 u m hD';clear hD9;have hD9:=hD';clear hD';simp only[zF,zG] at m;refine aG (k8 _ _ ?_);refine wp_region_lit (aA (aQ rfl rfl (aN (by omega) (by omega))) (aA (aB) (aG ?_)));simp only[zz];simp only[Exit.inBlock,Exit.then];refine ⟨(aR fs).length - (k + 1),_,?_,rfl,?_,?_⟩
   · omega
   · simp only[zz,zv]
   ·
    simp only[zQ,zR,zD,zE];exact ⟨k + 1,_,_,rfl,(m.sel [false,true,true,true,true,true,true,true]),by rw [Mu he,List.foldl_append];exact hD9,by omega,rfl⟩
  ·
   obtain rfl : k = (aR fs).length:=by omega
   rw [List.take_length] at hD9;refine wp_exit (k4 _ _ ?_);refine aD fun K11 k11=>aD fun K12 k12=>wp_region_lit (aA (aB) (aA (cC rfl) (aA (aK (c:=0) gY rfl tQ rfl rfl) ?_)));simp only[zz];refine aJ rfl ((m.b 4 rfl).lies1 Jn rfl) ?_;simp only[zz];refine aA (bF rfl jG rfl) (aA (aB) (aG (k12 _ _ ?_)));refine wp_block ?_;simp only[zz];try simp only[Nat.zero_add,Nat.reduceAdd,Nat.reduceMul,Int.reduceToNat]
   refine bM [49] [10,50,51,52,53,54,55,56] (fun n vs wl=>∃ (k : Nat) (es : Array MapEntry) (cc : Nat),vs = [.int .i64 (k:Int)] ∧ bR w0 wl [mI q12 es cc,mI q10 es10 c10,mI q9 es9 c9,oI 57 6 A4 (aR fs).length c4 ((aR fs).flatMap bJ),bI g1 [.slice A N cap,.slice A2 N2 cap2,.slice A3 N3 cap3,.slice A4 (aR fs).length c4,.map (some q7),J] 73,mI q7 es7 c7,K] ∧ (bV pt Value.bool (((ms.take k).map (·.1)).foldl oV (fG [] qs)) es cc) ∧ (k ≤ N3) ∧ (n = N3 - k)) ?_ ?_
   ·
    apply Exists.intro;simp only[zQ,zR,zD,zE];exact ⟨0,_,_,rfl,m,hD12,Nat.zero_le _,rfl⟩
   ·
    intro n vs wr hI u;clear m;obtain ⟨k,es12,c12,rfl,m,hD12,hk,hn⟩:=hI;simp only[zu,zF,zG];refine aD fun K13 k13=>wp_region_lit (aA (cJ rfl rfl) (aG (k13 _ _ ?_)));refine aD fun K14 k14=>?_;simp only[zz];refine cO rfl (fun hc2=>?_) (fun hc2=>?_)
    ·
     obtain ⟨mv,hmv,a3,rfl,hrow3⟩:=hL3.get (i:=k) (by omega);refine wp_skip (k14 _ _ ?_);refine aD fun K15 k15=>wp_block (aD fun K16 k16=>wp_region_lit (aA (aM jG eH rfl rfl (by omega) (by omega) (cA (Int.toNat_natCast _))) ?_));simp only[zz];refine aJ rfl ((Qu (hrow3.ext m.ext)).lies tS eH) ?_;simp only[zz];refine bC m rT rfl ?_;clear m;intro g2 u m;simp only[zz];refine aS m 0 rfl rfl rfl eH (dX rfl) rfl ?_;clear m;intro u m;simp only[zy,zx,bG,zF,zG,Nat.reduceAdd] at m;refine aG (k16 _ _ ?_);refine wp_region_lit (aA (aB) (aA (aK (c:=2) iL rfl aC rfl rfl) ?_));simp only[zz];refine aJ rfl ((m.b 0 rfl).lies aI aC rfl rfl) ?_;simp only[zz,zy,Nat.zero_add,Nat.reduceAdd,Nat.reduceMul,Int.reduceToNat];refine Ep (ek:=pt) (en:=Value.bool) (a:=mv.1) m 1 rfl mD fW rfl rfl hD12 rfl ?_;clear m;intro es12 c12 u m hD';clear hD12;have hD12:=hD';clear hD';simp only[zF,zG] at m;refine aG (k15 _ _ ?_);refine wp_region_lit (aA (aQ rfl rfl (aN (by omega) (by omega))) (aA (aB) (aG ?_)));simp only[zz];simp only[Exit.inBlock,Exit.then];refine ⟨N3 - (k + 1),_,?_,rfl,?_,?_⟩
     · omega
     · simp only[zz,zv]
     ·
      simp only[zQ,zR,zD,zE];exact ⟨k + 1,_,_,rfl,(m.sel [false,true,true,true,true,true,true,true]),by rw [dN hmv,List.map_append,List.foldl_append];exact hD12,by omega,rfl⟩
    ·
     have hkN : k = N3:=by omega
     rw [List.take_of_length_le (by omega)] at hD12;refine wp_exit (k11 _ _ ?_);refine aD fun K17 k17=>aD fun K18 k18=>wp_region_lit (aA (aB) (aA (cC rfl) (aA (aK (c:=0) gY rfl tQ rfl rfl) ?_)));simp only[zz];refine aJ rfl ((m.b 4 rfl).lies1 Jn rfl) ?_;simp only[zz];refine aA (bF rfl jG rfl) (aA (aB) (aG (k18 _ _ ?_)));refine wp_block ?_;simp only[zz];try simp only[Nat.zero_add,Nat.reduceAdd,Nat.reduceMul,Int.reduceToNat]
     refine bM [62] [2,11,12,63,64,65,66,67,68,69,70,71,72,73,74,75,76,77,78,79,80,81,82,83,84,85,86,87,88,89,90,91,92,93,94,95,96,97,98,99,100,101,102,103,104,105,106,107,108,109,110,111,112,113] (fun n vs wl=>∃ (k : Nat) (es : Array MapEntry) (cc : Nat),vs = [.int .i64 (k:Int)] ∧ bR w0 wl [mI q12 es12 c12,mI q10 es10 c10,mI q9 es9 c9,oI 57 6 A4 (aR fs).length c4 ((aR fs).flatMap bJ),bI g1 [.slice A N cap,.slice A2 N2 cap2,.slice A3 N3 cap3,.slice A4 (aR fs).length c4,.map (some q7),J] 73,mI q7 es cc,K] ∧ (bV pt pt (lM [] (ms.take k)) es cc) ∧ (∀ i mv,i < k → ms[i]? = some mv → pJ fs gs ms (aR fs) i mv = true) ∧ (k ≤ N3) ∧ (n = N3 - k)) ?_ ?_
     ·
      apply Exists.intro;simp only[zQ,zR,zD,zE];exact ⟨0,_,_,rfl,m,hD7,fun _ _ h=>absurd h (Nat.not_lt_zero _),Nat.zero_le _,rfl⟩
     ·
      intro n vs wr hI u;clear m;obtain ⟨k,es7,c7,rfl,m,hD7,hok,hk,hn⟩:=hI;simp only[zu,zF,zG];refine aD fun K19 k19=>wp_region_lit (aA (cJ rfl rfl) (aG (k19 _ _ ?_)));refine aD fun K20 k20=>?_;simp only[zz];refine cO rfl (fun hc3=>?_) (fun hc3=>?_)
      ·
       obtain ⟨mv,hmv,a3,rfl,hrow3⟩:=hL3.get (i:=k) (by omega);refine wp_skip (k20 _ _ ?_);refine aD fun K21 k21=>wp_block (aD fun K22 k22=>wp_region_lit (aA (aB) ?_));simp only[zz];refine aA (aM jG eH rfl rfl (by omega) (by omega) (cA (Int.toNat_natCast _))) ?_;simp only[zz];refine aJ rfl ((Qu (hrow3.ext m.ext)).lies tS eH) ?_;simp only[zz];refine bC m rT rfl ?_;clear m;intro g2 u m;refine aA (aF) ?_;simp only[zz];refine aS m 0 rfl rfl rfl eH (dX rfl) rfl ?_;clear m;intro u m;simp only[zy,zx,bG,zF,zG,Nat.reduceAdd] at m;refine aG (k22 _ _ ?_);refine aD fun K23 k23=>aD fun K24 k24=>?_;rcases Nat.eq_zero_or_pos k with hk0 | hk0
       ·
        refine mq m aO (by kernel_rfl) (aL (aB) ?_);simp only[zz];refine aL (yP rfl rfl (by omega)) (aL (aB) (fZ rfl (fZ rfl ?_)));simp only[zz];refine fZ rfl (fZ rfl (fZ rfl (fZ rfl ?_)));simp only[zz];refine fZ rfl (fZ rfl (fZ rfl (fZ rfl ?_)));simp only[zz];refine fZ rfl (fZ rfl (fZ rfl (aL (iT rfl) ?_)));simp only[zz];refine aL (aB) (fS rfl (aL (aB) (fS rfl (aL (aK (c:=2) iL rfl aC rfl rfl) (fS rfl ?_)))));simp only[zz];refine ql rfl (fun u m=>((m.b 0 rfl).lies aI aC rfl rfl)) ?_;simp only[zz,zy,Nat.zero_add,Nat.reduceAdd,Nat.reduceMul,Int.reduceToNat];refine fS rfl (vY (fun u m=>dZ (ek:=pt) (en:=Value.bool) (k:=mv.1) (v0:=false) mD kY fW rfl rfl (m.p 3 rfl) hD9) ?_);simp only[zz];refine fS rfl (aL (gX rfl) (aL (iT rfl) (aL (aB) (cY rfl (fun hb=>aB) ?_))));simp only[zz];refine cY rfl (fun hb=>aK (c:=2) iL rfl aC rfl rfl) ?_;simp only[zz];refine fP rfl (fun hb u m=>cF (bH hb rfl) ((m.b 0 rfl).lies aI aC rfl rfl)) ?_;simp only[zz,zy,Nat.zero_add,Nat.reduceAdd,Nat.reduceMul,Int.reduceToNat];refine fP rfl (fun hb u m=>dZ (ek:=pt) (en:=Value.bool) (k:=mv.2) (v0:=false) mD kY fW (bH hb rfl) (bH hb rfl) (m.p 2 rfl) hD10) ?_;simp only[zz];refine cY rfl (fun hb=>gX (bH hb rfl)) (aL (gU rfl rfl rfl) (aL (aB) (cY rfl (fun hb=>aB) ?_)));simp only[zz];refine cY rfl (fun hb=>aK (c:=2) iL rfl aC rfl rfl) ?_;simp only[zz];refine fP rfl (fun hb u m=>cF (bH hb rfl) ((m.b 0 rfl).lies aI aC rfl rfl)) ?_;simp only[zz,zy,Nat.zero_add,Nat.reduceAdd,Nat.reduceMul,Int.reduceToNat];refine fP rfl (fun hb u m=>dZ (ek:=pt) (en:=Value.bool) (k:=mv.2) (v0:=false) mD kY fW (bH hb rfl) (bH hb rfl) (m.p 1 rfl) hD12) ?_;simp only[zz];refine cY rfl (fun hb=>gX (bH hb rfl)) (aL (gU rfl rfl rfl) (dF ?_));clear m;intro u m;refine k24 _ _ ?_;simp only[zz];refine eU rfl (fun hc4=>?_) (fun hc4=>?_)
        ·
         have hmr : pJ fs gs ms (aR fs) k mv = false:=by rw [vB (rim:=(aR fs)) hmem hmem2,hk0];exact agt hc4
         refine aD fun K25 k25=>wp_region_lit (aA (aF) (aG (k25 _ _ ?_)));refine wp_ret ?_;simp only[zz];try simp only[Exit.inBlock,Exit.then,if_true]
         refine bS rfl rfl ?_;try simp only[zD,zE]
         exact ⟨_,rfl,_,_,by rw [if_neg (by rw [yE hmv hmr];exact Bool.false_ne_true)],m.sel [false,false,false,false,true,true,true,true],fun h=>by rw [yE hmv hmr] at h;cases h⟩
        ·
         have hmr : pJ fs gs ms (aR fs) k mv = true:=by rw [vB (rim:=(aR fs)) hmem hmem2,hk0];exact ags hc4
         have hok2 : ∀ i mv,i < k + 1 → ms[i]? = some mv → pJ fs gs ms (aR fs) i mv = true:=fun i mw hi hmw=>by
          rcases Nat.lt_or_ge i k with h | h
          · exact hok i mw h hmw
          ·
           obtain rfl : i = k:=by omega
           obtain rfl:=Option.some.inj (hmv.symm.trans hmw);exact hmr
         refine wp_skip (k23 _ _ ?_);refine mh m [true,true,true,true,true,true,false,true] [(0,true),(1,true),(2,true),(4,true),(6,true),(3,true),(5,true),(7,true),(8,false)] aO (by kernel_rfl) (eE (fun _ _ _ _ _ h=>h)) (ol:=?_) ?hol ?_
         case hol=>simp only[zw,zQ,zR];try rfl
         clear m;intro u m;refine bO (aB) (bO (cC rfl) (bO (aK (c:=0) gY rfl xO rfl rfl) (bO (aK (c:=2) iL rfl aC rfl rfl) ?_)));simp only[zz];refine bO (aK (c:=2) iL rfl aC rfl rfl) ?_;simp only[zz];refine dU rfl (fun u m=>((m.b 5 rfl).lies1 Po rfl)) ?_;simp only[zz];refine dU rfl (fun u m=>((m.b 0 rfl).lies aI aC rfl rfl)) ?_;simp only[zz,zy,Nat.zero_add,Nat.reduceAdd,Nat.reduceMul,Int.reduceToNat];refine dU rfl (fun u m=>((m.b 0 rfl).lies aI aC rfl rfl)) ?_;simp only[zz,zy,Nat.zero_add,Nat.reduceAdd,Nat.reduceMul,Int.reduceToNat];refine dT (eS (ek:=pt) (en:=pt) (a:=mv.1) (v:=mv.2) m 6 rfl underlying71 fW rfl rfl rfl hD7 ?_);clear m;intro es7 c7 u m hD';clear hD7;have hD7:=hD';clear hD';simp only[zF,zG] at m;refine aG (⟨m.sel [true,true,true,true,true,true,false,true],?_⟩);refine eF (k21 _ _ ?_);refine wp_region_lit (aA (aQ rfl rfl (aN (by omega) (by omega))) (aA (aB) (aG ?_)));simp only[zz];simp only[Exit.inBlock,Exit.then];refine ⟨N3 - (k + 1),_,?_,rfl,?_,?_⟩
         · omega
         · simp only[zz,zv]
         ·
          simp only[zQ,zR,zD,zE];exact ⟨k + 1,_,_,rfl,(m.sel [false,true,true,true,true,true,true,true]),by rw [dN hmv,Ew];exact hD7,hok2,by omega,rfl⟩
       ·
        obtain ⟨j,rfl⟩ : ∃ j,k = j + 1:=⟨k - 1,by omega⟩
        obtain ⟨mw,hmw,a4,ha4,hrow4⟩:=hL3.get (i:=j) (by omega);cases ha4;refine mq m aO (by kernel_rfl) (aL (aB) ?_);simp only[zz];refine aL (Co rfl rfl (by omega)) (aL (aB) (fS rfl (aL (aB) (fS rfl (aL (cC rfl) ?_)))));simp only[zz];refine fS rfl (aL (aK (c:=0) gY rfl tQ rfl rfl) (fS rfl ?_));simp only[zz];refine ql rfl (fun u m=>((m.b 5 rfl).lies1 Jn rfl)) ?_;simp only[zz];refine fS rfl (aL (aB) (fS rfl ?_));simp only[zz];refine aL (gL rfl rfl (aN (by omega) (by omega))) (fS rfl ?_);simp only[zz];refine aL (aM jG eH rfl rfl (by omega) (by omega) (cA (show Int.toNat (((j + 1 : Nat) : Int) - 1) = j by omega))) (fS rfl (aL (aK (c:=2) iL rfl aC rfl rfl) (fS rfl ?_)));simp only[zz];refine ql rfl (fun u m=>((((Qu (hrow4.ext m.ext)).sub 0).take 3).lies aI aC)) ?_;simp only[zz];refine fS rfl (aL (aK (c:=2) iL rfl aC rfl rfl) (fS rfl ?_));simp only[zz];refine ql rfl (fun u m=>((m.b 0 rfl).lies aI aC rfl rfl)) ?_;simp only[zz,zy,Nat.zero_add,Nat.reduceAdd,Nat.reduceMul,Int.reduceToNat];refine fS rfl (wU rfl rfl (vC.pure) (fS rfl (aL (gX rfl) (aL (gA rfl) (aL (aB) ?_)))));simp only[zz];refine cY rfl (fun hb=>aB) (cY rfl (fun hb=>aK (c:=2) iL rfl aC rfl rfl) ?_);simp only[zz];refine fP rfl (fun hb u m=>cF (bH hb rfl) ((m.b 0 rfl).lies aI aC rfl rfl)) ?_;simp only[zz,zy,Nat.zero_add,Nat.reduceAdd,Nat.reduceMul,Int.reduceToNat];refine fP rfl (fun hb u m=>dZ (ek:=pt) (en:=Value.bool) (k:=mv.1) (v0:=false) mD kY fW (bH hb rfl) (bH hb rfl) (m.p 3 rfl) hD9) ?_;simp only[zz];refine cY rfl (fun hb=>gX (bH hb rfl)) (aL (gU rfl rfl rfl) (aL (aB) (cY rfl (fun hb=>aB) ?_)));simp only[zz];refine cY rfl (fun hb=>aK (c:=2) iL rfl aC rfl rfl) ?_;simp only[zz];refine fP rfl (fun hb u m=>cF (bH hb rfl) ((m.b 0 rfl).lies aI aC rfl rfl)) ?_;simp only[zz,zy,Nat.zero_add,Nat.reduceAdd,Nat.reduceMul,Int.reduceToNat];refine fP rfl (fun hb u m=>dZ (ek:=pt) (en:=Value.bool) (k:=mv.2) (v0:=false) mD kY fW (bH hb rfl) (bH hb rfl) (m.p 2 rfl) hD10) ?_;simp only[zz];refine cY rfl (fun hb=>gX (bH hb rfl)) (aL (gU rfl rfl rfl) (aL (aB) (cY rfl (fun hb=>aB) ?_)));simp only[zz];refine cY rfl (fun hb=>aK (c:=2) iL rfl aC rfl rfl) ?_;simp only[zz];refine fP rfl (fun hb u m=>cF (bH hb rfl) ((m.b 0 rfl).lies aI aC rfl rfl)) ?_;simp only[zz,zy,Nat.zero_add,Nat.reduceAdd,Nat.reduceMul,Int.reduceToNat];refine fP rfl (fun hb u m=>dZ (ek:=pt) (en:=Value.bool) (k:=mv.2) (v0:=false) mD kY fW (bH hb rfl) (bH hb rfl) (m.p 1 rfl) hD12) ?_;simp only[zz];refine cY rfl (fun hb=>gX (bH hb rfl)) (aL (gU rfl rfl rfl) (dF ?_));clear m;intro u m;refine k24 _ _ ?_;simp only[zz];refine eU rfl (fun hc4=>?_) (fun hc4=>?_)
        ·
         have hmr : pJ fs gs ms (aR fs) (j + 1) mv = false:=by rw [vB (rim:=(aR fs)) hmem hmem2,Nat.add_sub_cancel,hmw];exact agv hc4
         refine aD fun K26 k26=>wp_region_lit (aA (aF) (aG (k26 _ _ ?_)));refine wp_ret ?_;simp only[zz];try simp only[Exit.inBlock,Exit.then,if_true]
         refine bS rfl rfl ?_;try simp only[zD,zE]
         exact ⟨_,rfl,_,_,by rw [if_neg (by rw [yE hmv hmr];exact Bool.false_ne_true)],m.sel [false,false,false,false,true,true,true,true],fun h=>by rw [yE hmv hmr] at h;cases h⟩
        ·
         have hmr : pJ fs gs ms (aR fs) (j + 1) mv = true:=by rw [vB (rim:=(aR fs)) hmem hmem2,Nat.add_sub_cancel,hmw];exact agu hc4
         have hok2 : ∀ i mv,i < j + 1 + 1 → ms[i]? = some mv → pJ fs gs ms (aR fs) i mv = true:=fun i mw hi hmw=>by
          rcases Nat.lt_or_ge i (j + 1) with h | h
          · exact hok i mw h hmw
          ·
           obtain rfl : i = j + 1:=by omega
           obtain rfl:=Option.some.inj (hmv.symm.trans hmw);exact hmr
         refine wp_skip (k23 _ _ ?_);refine mh m [true,true,true,true,true,true,false,true] [(0,true),(1,true),(2,true),(4,true),(6,true),(3,true),(5,true),(7,true),(8,false)] aO (by kernel_rfl) (eE (fun _ _ _ _ _ h=>h)) (ol:=?_) ?hol ?_
         case hol=>simp only[zw,zQ,zR];try rfl
         clear m;intro u m;refine bO (aB) (bO (cC rfl) (bO (aK (c:=0) gY rfl xO rfl rfl) (bO (aK (c:=2) iL rfl aC rfl rfl) ?_)));simp only[zz];refine bO (aK (c:=2) iL rfl aC rfl rfl) ?_;simp only[zz];refine dU rfl (fun u m=>((m.b 5 rfl).lies1 Po rfl)) ?_;simp only[zz];refine dU rfl (fun u m=>((m.b 0 rfl).lies aI aC rfl rfl)) ?_;simp only[zz,zy,Nat.zero_add,Nat.reduceAdd,Nat.reduceMul,Int.reduceToNat];refine dU rfl (fun u m=>((m.b 0 rfl).lies aI aC rfl rfl)) ?_;simp only[zz,zy,Nat.zero_add,Nat.reduceAdd,Nat.reduceMul,Int.reduceToNat];refine dT (eS (ek:=pt) (en:=pt) (a:=mv.1) (v:=mv.2) m 6 rfl underlying71 fW rfl rfl rfl hD7 ?_);clear m;intro es7 c7 u m hD';clear hD7;have hD7:=hD';clear hD';simp only[zF,zG] at m;refine aG (⟨m.sel [true,true,true,true,true,true,false,true],?_⟩);refine eF (k21 _ _ ?_);refine wp_region_lit (aA (aQ rfl rfl (aN (by omega) (by omega))) (aA (aB) (aG ?_)));simp only[zz];simp only[Exit.inBlock,Exit.then];refine ⟨N3 - (j + 1 + 1),_,?_,rfl,?_,?_⟩
         · omega
         · simp only[zz,zv]
         ·
          simp only[zQ,zR,zD,zE];exact ⟨j + 1 + 1,_,_,rfl,(m.sel [false,true,true,true,true,true,true,true]),by rw [dN hmv,Ew];exact hD7,hok2,by omega,rfl⟩
      ·
       have hkN : k = N3:=by omega
       rw [List.take_of_length_le (by omega)] at hD7;have hall : nQ fs gs ms (aR fs) = true:=sC.2 fun i mv hm=>hok i mv (by have:=(List.getElem?_eq_some_iff.1 hm).1;omega) hm;refine wp_exit (k17 _ _ ?_);refine aD fun K27 k27=>wp_region_lit (aA (aF) (aG (k27 _ _ ?_)));refine wp_ret ?_;simp only[zz];try simp only[Exit.inBlock,Exit.then,if_true]
       refine bS rfl rfl ?_;try simp only[zD,zE]
       exact ⟨_,rfl,_,_,by rw [if_pos hall],m.sel [false,false,false,true,true,true,true],fun _=>hD7⟩
end Go.Proofs.YtfohfflkhpfjeaaGreatDoor
namespace Go.Proofs.YtfohfflkhpfjeaaGreatDoor
open Go.Proofs.Tryz
open Go.RowKit Go.Lith
set_option maxRecDepth 100000
attribute [local irreducible] wpList wpQuiet dC cS cR Code.wp
theorem aaA : pV prog 53 tr:=by
 refine pV.agg (cs:=fun p=>#[.int .i64 p.a.x,.int .i64 p.a.y,.int .i64 p.a.z,.int .i64 p.b.x,.int .i64 p.b.y,.int .i64 p.b.z,.int .i64 p.c.x,.int .i64 p.c.y,.int .i64 p.c.z]) (fun _=>rfl) bL (fun e p=>?_) (fun p q=>?_) (fun p=>?_)
 ·
  refine qB.array (d:=9999) bL aC fun i hi=>?_;obtain rfl | rfl | rfl:=(by omega : i = 0 ∨ i = 1 ∨ i = 2)
  ·
   refine ⟨_,eP aI aC rfl,?_⟩;refine qB.struct (d:=9998) cN fun f hf=>?_;simp only[List.mem_cons,List.not_mem_nil,or_false] at hf;rcases hf with rfl | rfl | rfl
   · exact ⟨_,cX bQ rfl,qB.int (d:=9997) kJ⟩
   · exact ⟨_,cX bQ rfl,qB.int (d:=9997) kJ⟩
   · exact ⟨_,cX bQ rfl,qB.int (d:=9997) kJ⟩
  ·
   refine ⟨_,eP aI aC rfl,?_⟩;refine qB.struct (d:=9998) cN fun f hf=>?_;simp only[List.mem_cons,List.not_mem_nil,or_false] at hf;rcases hf with rfl | rfl | rfl
   · exact ⟨_,cX bQ rfl,qB.int (d:=9997) kJ⟩
   · exact ⟨_,cX bQ rfl,qB.int (d:=9997) kJ⟩
   · exact ⟨_,cX bQ rfl,qB.int (d:=9997) kJ⟩
  ·
   refine ⟨_,eP aI aC rfl,?_⟩;refine qB.struct (d:=9998) cN fun f hf=>?_;simp only[List.mem_cons,List.not_mem_nil,or_false] at hf;rcases hf with rfl | rfl | rfl
   · exact ⟨_,cX bQ rfl,qB.int (d:=9997) kJ⟩
   · exact ⟨_,cX bQ rfl,qB.int (d:=9997) kJ⟩
   · exact ⟨_,cX bQ rfl,qB.int (d:=9997) kJ⟩
 · exact (ad1 _).iff ⟨fun h=>Jy (P3.eq (h.1) (h.2.1) (h.2.2.1)) (P3.eq (h.2.2.2.1) (h.2.2.2.2.1) (h.2.2.2.2.2.1)) (P3.eq (h.2.2.2.2.2.2.1) (h.2.2.2.2.2.2.2.1) (h.2.2.2.2.2.2.2.2)),fun h=>by subst h;simp only[and_self]⟩
 · simp [tr,Instr.sameBits]
def Ai {K : Type} [DecidableEq K] (D : List (K × Bool)) (ks : List K) : List (K × Bool):=ks.foldl (fun D k=>fJ D k false) D
theorem Wj {K : Type} [DecidableEq K] (D : List (K × Bool)) (ks : List K) (k : K) : Ai D (ks ++ [k]) = fJ (Ai D ks) k false:=by unfold Ai;rw [List.foldl_append];rfl
theorem Ex {K : Type} [DecidableEq K] : ∀ (ks : List K) (D : List (K × Bool)) (a : K),cD (Ai D ks) a = if a ∈ ks then some false else cD D a
 | [],D,a=>by simp [Ai]
 | k :: ks,D,a=>by
  show cD (Ai (fJ D k false) ks) a = _
  rw [Ex ks,lI];by_cases h1 : a ∈ ks
  · rw [if_pos h1,if_pos (List.mem_cons_of_mem _ h1)]
  ·
   rw [if_neg h1];by_cases h2 : k = a
   · rw [if_pos h2,if_pos (by rw [h2];exact List.mem_cons_self ..)]
   · rw [if_neg h2,if_neg (fun h=>(List.mem_cons.1 h).elim (fun e=>h2 e.symm) h1)]
theorem wP {K : Type} [DecidableEq K] : ∀ (ks : List K) (D : List (K × Bool)),(D.map (·.1)).Nodup → ((Ai D ks).map (·.1)).Nodup
 | [],_,h=>h
 | k :: ks,D,h=>wP ks _ (wJ h k false)
theorem Nh {K : Type} [DecidableEq K] (ks hs : List K) (a : K) : (cD (Ai (fG [] ks) hs) a).getD false = decide (a ∈ ks ∧ a ∉ hs):=by
 rw [Ex];by_cases h : a ∈ hs
 · rw [if_pos h,decide_eq_false (fun k=>k.2 h)];rfl
 · rw [if_neg h,oZ,decide_eq_decide];exact ⟨fun k=>⟨k,h⟩,And.left⟩
theorem aaB {f c : List T3} {ms : List Mv} {i : Nat} {t : T3} (ht : f[i]? = some t) (h : ¬ Qi f c ms i t) : nR f c ms = false:=by
 cases hh : nR f c ms with
 | false=>rfl
 | true=>exact absurd ((Ae.1 hh).1 i t ht) h
theorem acN {x : T3} : ((decide (¬ (x.a.x = x.b.x ∧ x.a.y = x.b.y ∧ x.a.z = x.b.z)) && decide (¬ (x.b.x = x.c.x ∧ x.b.y = x.c.y ∧ x.b.z = x.c.z))) && decide (¬ (x.c.x = x.a.x ∧ x.c.y = x.a.y ∧ x.c.z = x.a.z))) = x.nd:=by
 simp only[T3.nd,iX,ne_eq]
theorem acO {f c : List T3} {ms : List Mv} {k : Nat} {t : T3} (hn : (t.img ms).nd = true) {b : Bool} (h : (!(cD (Ai (fG [] (c.map eD)) (mC ms (f.take k))) (eD (t.img ms))).getD false) = b) : Qi f c ms k t ↔ b = false:=by
 rw [Nh] at h;rw [Qi,hn,if_pos rfl,← h];simp
theorem acP {f c : List T3} {ms : List Mv} {k : Nat} {t : T3} (hn : (t.img ms).nd = false) {b : Bool} (h : ((!(cD (fG [] (kB c)) ((t.img ms).a,(t.img ms).b)).getD false) || (!(cD (fG [] (kB c)) ((t.img ms).b,(t.img ms).c)).getD false)) = b) : Qi f c ms k t ↔ b = false:=by
 rw [uZ,uZ] at h;rw [Qi,hn,if_neg Bool.false_ne_true,← h];simp
theorem ab4 {f c : List T3} {ms : List Mv} {es : Array MapEntry} {sn : Array Nat} {dn : List (T3 × Bool)} (h : kZ tr Value.bool (Ai (fG [] (c.map eD)) (mC ms f)) es sn dn []) (hno : ∀ y ∈ dn,y.2 = false) (hok : ∀ j t,f[j]? = some t → Qi f c ms j t) : nR f c ms = true:=by
 refine Ae.2 ⟨hok,fun u hu=>?_⟩;have hn:=wP (mC ms f) _ (mO (c.map eD) [] (by simp));have hg:=Ex (mC ms f) (fG [] (c.map eD)) (eD u);refine Decidable.byContradiction fun hx=>?_;rw [if_neg hx,xW,if_pos (List.mem_map.2 ⟨u,hu,rfl⟩)] at hg;have:=hno _ (h.done.mem_iff.2 (xT hg));cases this
theorem aaC {f c : List T3} {ms : List Mv} {es : Array MapEntry} {sn : Array Nat} {dn rs : List (T3 × Bool)} (h : kZ tr Value.bool (Ai (fG [] (c.map eD)) (mC ms f)) es sn dn rs) {y : T3} (hy : (y,true) ∈ dn) : nR f c ms = false:=by
 cases hh : nR f c ms with
 | false=>rfl
 | true =>
  have hn:=wP (mC ms f) _ (mO (c.map eD) [] (by simp));have hg:=lJ hn (h.1.mem_iff.1 (List.mem_append_left _ hy));have hg2:=Nh (c.map eD) (mC ms f) y;rw [hg] at hg2;obtain ⟨h1,h2⟩:=of_decide_eq_true hg2.symm;obtain ⟨u,hu,rfl⟩:=List.mem_map.1 h1;exact absurd ((Ae.1 hh).2 u hu) h2
theorem aek {ms : List Mv} {f : List T3} {k : Nat} {t : T3} (h : f[k]? = some t) (hn : (t.img ms).nd = true) : mC ms (f.take (k + 1)) = mC ms (f.take k) ++ [eD (t.img ms)]:=by rw [xZ h,hn];rfl
theorem ael {ms : List Mv} {f : List T3} {k : Nat} {t : T3} (h : f[k]? = some t) (hn : (t.img ms).nd = false) : mC ms (f.take (k + 1)) = mC ms (f.take k):=by rw [xZ h,hn];simp
theorem Ss {f c : List T3} {ms : List Mv} {k : Nat} {t : T3} (ht : f[k]? = some t) (h : Qi f c ms k t) (hok : ∀ i t,i < k → f[i]? = some t → Qi f c ms i t) : ∀ i t,i < k + 1 → f[i]? = some t → Qi f c ms i t:=fun i u hi hu=>by
 rcases Nat.lt_or_ge i k with h1 | h1
 · exact hok i u h1 hu
 ·
  obtain rfl : i = k:=by omega
  obtain rfl:=Option.some.inj (ht.symm.trans hu);exact h
theorem Ey {F G H R J : Value} {g1 q c : Nat} {es : Array MapEntry} {D : List (P3 × P3)} {p : P3} {ms : List Mv} (w : World) (hB1 : fX w g1 [F,G,H,R,.map (some q),J] 73) (hM : jO w q es c) (hD : bV pt pt D es c) (hi : ∀ p,(cD D p).getD p = dP ms p) :
 eI prog 75 [.pointer (some ⟨g1,0,none⟩),pt p] w (fun v _=>v = pt (dP ms p)):=(ab0 w hB1 hM hD).mono fun v w' _ h=>by rw [h,hi]
theorem ab5 {fs gs : List T3} {N cap N2 cap2 : Nat} {A A2 : Option Addr} {H R J : Value} {g1 q7 c7 : Nat} {es7 : Array MapEntry} {D : List (P3 × P3)} {ms : List Mv} (w : World) (hB1 : fX w g1 [.slice A N cap,.slice A2 N2 cap2,H,R,.map (some q7),J] 73) (hT : eG w A N fs) (hT2 : eG w A2 N2 gs) (hN : N ≤ 300000) (hN2 : N2 ≤ 300000) (hMq : jO w q7 es7 c7) (hD : bV pt pt D es7 c7) (himg : ∀ p,(cD D p).getD p = dP ms p) : eI prog 34 [.pointer (some ⟨g1,0,none⟩)] w (fun v _=>v = .int .i64 (if nR fs gs ms = true then 0 else 32)):=by
 refine ⟨afa,?_⟩;have m:=bR.refl w
 go_enter func34,ntmps34
 refine aD fun K1 k1=>wp_region_lit (aA (aF) (aG (k1 _ _ ?_)));refine aD fun K2 k2=>wp_region_lit ?_;simp only[zz];refine jJ m ?_;clear m;intro q8 u m;have hD8:=bV.nil (K:=T3) (V:=Bool) tr Value.bool;refine aA (aF) (aG (k2 _ _ ?_));refine aD fun K3 k3=>aD fun K4 k4=>wp_region_lit (aA (aB) (aA (cC rfl) ?_));simp only[zz];refine aA (aK (c:=0) gY rfl iG rfl rfl) ?_;simp only[zz];refine aJ rfl ((hB1.ext m.ext).lies1 mL rfl) ?_;simp only[zz];refine aA (bF rfl bZ rfl) (aA (aB) (aG (k4 _ _ ?_)));refine wp_block ?_;simp only[zz];try simp only[Nat.zero_add,Nat.reduceAdd,Nat.reduceMul,Int.reduceToNat]
 refine bM [18] [5,19,20,21,22,23,24,25] (fun n vs wl=>∃ (k : Nat) (es : Array MapEntry) (cc : Nat),vs = [.int .i64 (k:Int)] ∧ bR w wl [mI q8 es cc] ∧ (bV tr Value.bool (fG [] ((gs.take k).map eD)) es cc) ∧ (k ≤ N2) ∧ (n = N2 - k)) ?_ ?_
 ·
  apply Exists.intro;simp only[zQ,zR,zD,zE];exact ⟨0,_,_,rfl,m,hD8,Nat.zero_le _,rfl⟩
 ·
  intro n vs wr hI u;clear m;obtain ⟨k,es8,c8,rfl,m,hD8,hk,hn⟩:=hI;simp only[zu,zF,zG];refine aD fun K5 k5=>wp_region_lit (aA (cJ rfl rfl) (aG (k5 _ _ ?_)));refine aD fun K6 k6=>?_;simp only[zz];refine cO rfl (fun hc1=>?_) (fun hc1=>?_)
  ·
   obtain ⟨t,ht,_,a,rfl,hrow⟩:=hT2.get (i:=k) (by omega);refine wp_skip (k6 _ _ ?_);refine aD fun K7 k7=>wp_block (aD fun K8 k8=>wp_region_lit (aA (aM bZ aU rfl rfl (by omega) (by omega) (cA (Int.toNat_natCast _))) ?_));simp only[zz];refine aJ rfl ((hrow.ext m.ext).lies eQ aU) ?_;simp only[zz];refine bC m iY rfl ?_;clear m;intro g3 u m;simp only[zz];refine aS m 0 rfl rfl rfl aU (dX rfl) rfl ?_;clear m;intro u m;simp only[zy,zx,bG,zF,zG,Nat.reduceAdd] at m;refine aG (k8 _ _ ?_);refine wp_region_lit (aA (aB) ?_);simp only[zz];refine aJ rfl ((m.b 0 rfl).full eQ aU) ?_;simp only[zz];refine iV m rfl rfl (Hw (t:=t)) ?_;clear m;intro u m;simp only[zz];refine eS (ek:=tr) (en:=Value.bool) (a:=eD t) (v:=true) m 1 rfl underlying110 aaA rfl rfl rfl hD8 ?_;clear m;intro es8 c8 u m hD';clear hD8;have hD8:=hD';clear hD';simp only[zF,zG] at m;refine aG (k7 _ _ ?_);refine wp_region_lit (aA (aQ rfl rfl (aN (by omega) (by omega))) (aA (aB) (aG ?_)));simp only[zz];simp only[Exit.inBlock,Exit.then];refine ⟨N2 - (k + 1),_,?_,rfl,?_,?_⟩
   · omega
   · simp only[zz,zv]
   ·
    simp only[zQ,zR,zD,zE];exact ⟨k + 1,_,_,rfl,(m.sel [false,true]),by rw [dN ht,List.map_append,List.map_cons,List.map_nil,lL];exact hD8,by omega,rfl⟩
  ·
   have hkN : k = N2:=by omega
   rw [List.take_of_length_le (by rw [hT2.len];omega)] at hD8;refine wp_exit (k3 _ _ ?_);refine aD fun K9 k9=>wp_region_lit (aA (aB) (aA (cC rfl) (aA (aK (c:=0) gY rfl iG rfl rfl) ?_)));simp only[zz];refine aJ rfl ((hB1.ext m.ext).lies1 mL rfl) ?_;simp only[zz];refine bK rfl rfl (Es _ (hT2.ext m.ext) (by omega)) ?_;rintro v u e ⟨g9,es9,c9,rfl,hM,hD9⟩;replace m:=m.plus hM;clear hM e;simp only[List.cons_append,List.nil_append] at m;refine aA (aF) (aG (k9 _ _ ?_));refine aD fun K10 k10=>aD fun K11 k11=>wp_region_lit (aA (aB) (aA (cC rfl) ?_));simp only[zz];refine aA (aK (c:=0) gY rfl iG rfl rfl) ?_;simp only[zz];refine aJ rfl ((hB1.ext m.ext).lies1 mL rfl) ?_;simp only[zz];refine aA (bF rfl bZ rfl) (aA (aB) (aG (k11 _ _ ?_)));refine wp_block ?_;simp only[zz];try simp only[Nat.zero_add,Nat.reduceAdd,Nat.reduceMul,Int.reduceToNat]
   refine bM [36] [2,8,9,37,38,39,40,41,42,43,44,45,46,47,48,49,50,51,52,53,54,55,56,57,58,59,60,61,62,63,64,65,66,67,68,69,70,71,72,73,74,75,76,77,78,79,80,81,82,83,84,85,86,87,88,89,90,91,92,93,94,95,96,97,98] (fun n vs wl=>∃ (k : Nat) (es : Array MapEntry) (cc : Nat),vs = [.int .i64 (k:Int)] ∧ bR w wl [mI g9 es9 c9,mI q8 es cc] ∧ (bV tr Value.bool (Ai (fG [] (gs.map eD)) (mC ms (fs.take k))) es cc) ∧ (∀ i t,i < k → fs[i]? = some t → Qi fs gs ms i t) ∧ (k ≤ N) ∧ (n = N - k)) ?_ ?_
   ·
    apply Exists.intro;simp only[zQ,zR,zD,zE];exact ⟨0,_,_,rfl,m,hD8,fun _ _ h=>absurd h (Nat.not_lt_zero _),Nat.zero_le _,rfl⟩
   ·
    intro n vs wr hI u;clear m;obtain ⟨k,es8,c8,rfl,m,hD8,hok,hk,hn⟩:=hI;simp only[zu,zF,zG];refine aD fun K12 k12=>wp_region_lit (aA (cJ rfl rfl) (aG (k12 _ _ ?_)));refine aD fun K13 k13=>?_;simp only[zz];refine cO rfl (fun hc2=>?_) (fun hc2=>?_)
    ·
     obtain ⟨t,ht,_,a,rfl,hrow⟩:=hT.get (i:=k) (by omega);refine wp_skip (k13 _ _ ?_);refine aD fun K14 k14=>wp_block (aD fun K15 k15=>wp_region_lit (aA (aM bZ aU rfl rfl (by omega) (by omega) (cA (Int.toNat_natCast _))) ?_));simp only[zz];refine aJ rfl ((hrow.ext m.ext).lies eQ aU) ?_;simp only[zz];refine bC m iY rfl ?_;clear m;intro g3 u m;simp only[zz];refine aS m 0 rfl rfl rfl aU (dX rfl) rfl ?_;clear m;intro u m;simp only[zy,zx,bG,zF,zG,Nat.reduceAdd] at m;refine aG (k15 _ _ ?_);refine aD fun K16 k16=>?_;refine sL 14 [0,1,2,3,4,5,6,7,8,9,10,11,12] [⟨13,9,53,[.int .i64 0,.int .i64 0,.int .i64 0,.int .i64 0,.int .i64 0,.int .i64 0,.int .i64 0,.int .i64 0,.int .i64 0]⟩] aO (by kernel_rfl) (al1 ⟨_,_,_,rfl,by kernel_rfl,_,iY,rfl⟩) (ol:=?_) ?hol ?_
     case hol=>simp only[zw,zQ,zR];try rfl
     intro u e;replace m:=m.ext' e;clear e;refine iQ (aB) (iQ (aH bL aC rfl rfl (by decide) (by decide) rfl) ?_);simp only[zz];refine yT rfl (fun u e=>(((m.ext' e).b 0 rfl).lies aI aC rfl rfl)) ?_;simp only[zz,zy,Nat.zero_add,Nat.reduceAdd,Nat.reduceMul,Int.reduceToNat];refine Bx rfl rfl (fun u e=>Ey (p:=t.a) _ (hB1.ext (m.ext' e).ext) (hMq.ext (m.ext' e).ext) hD himg) (iQ (aB) (iQ (aH bL aC rfl rfl (by decide) (by decide) rfl) ?_));simp only[zz];refine yT rfl (fun u e=>(((m.ext' e).b 0 rfl).lies aI aC rfl rfl)) ?_;simp only[zz,zy,Nat.zero_add,Nat.reduceAdd,Nat.reduceMul,Int.reduceToNat];refine Bx rfl rfl (fun u e=>Ey (p:=t.b) _ (hB1.ext (m.ext' e).ext) (hMq.ext (m.ext' e).ext) hD himg) (iQ (aB) (iQ (aH bL aC rfl rfl (by decide) (by decide) rfl) ?_));simp only[zz];refine yT rfl (fun u e=>(((m.ext' e).b 0 rfl).lies aI aC rfl rfl)) ?_;simp only[zz,zy,Nat.zero_add,Nat.reduceAdd,Nat.reduceMul,Int.reduceToNat];refine Bx rfl rfl (fun u e=>Ey (p:=t.c) _ (hB1.ext (m.ext' e).ext) (hMq.ext (m.ext' e).ext) hD himg) (iQ (bN rfl rfl rfl) (acz ?_));simp only[zz];refine mf1 m ?_;clear m;intro g4 u m;simp only[zJ,zK,zF,zG];refine aS m 0 rfl rfl rfl aU (dX rfl) rfl ?_;clear m;intro u m;simp only[zy,zx,bG,zF,zG,Nat.reduceAdd] at m;refine aG (k16 _ _ ?_);refine aD fun K17 k17=>aD fun K18 k18=>wp_region_lit (aA (aH bL aC rfl rfl (by decide) (by decide) rfl) ?_);simp only[zz];refine aJ rfl ((m.b 0 rfl).lies aI aC rfl rfl) ?_;simp only[zz,zy,Nat.zero_add,Nat.reduceAdd,Nat.reduceMul,Int.reduceToNat];refine aA (aH bL aC rfl rfl (by decide) (by decide) rfl) ?_;simp only[zz];refine aJ rfl ((m.b 0 rfl).lies aI aC rfl rfl) ?_;simp only[zz,zy,Nat.zero_add,Nat.reduceAdd,Nat.reduceMul,Int.reduceToNat];refine aA (iD rfl rfl) (aA (aB) (dO rfl (fun hb=>aH bL aC rfl rfl (by decide) (by decide) rfl) ?_));simp only[zz];refine iM rfl (fun hb=>cF (bH hb rfl) ((m.b 0 rfl).lies aI aC rfl rfl)) ?_;simp only[zz,zy,Nat.zero_add,Nat.reduceAdd,Nat.reduceMul,Int.reduceToNat];refine dO rfl (fun hb=>aH bL aC rfl rfl (by decide) (by decide) rfl) ?_;simp only[zz];refine iM rfl (fun hb=>cF (bH hb rfl) ((m.b 0 rfl).lies aI aC rfl rfl)) ?_;simp only[zz,zy,Nat.zero_add,Nat.reduceAdd,Nat.reduceMul,Int.reduceToNat];refine dO rfl (fun hb=>iD (bH hb rfl) (bH hb rfl)) (aA (dA rfl rfl rfl) (aA (aB) (dO rfl (fun hb=>aH bL aC rfl rfl (by decide) (by decide) rfl) ?_)));simp only[zz];refine iM rfl (fun hb=>cF (bH hb rfl) ((m.b 0 rfl).lies aI aC rfl rfl)) ?_;simp only[zz,zy,Nat.zero_add,Nat.reduceAdd,Nat.reduceMul,Int.reduceToNat];refine dO rfl (fun hb=>aH bL aC rfl rfl (by decide) (by decide) rfl) ?_;simp only[zz];refine iM rfl (fun hb=>cF (bH hb rfl) ((m.b 0 rfl).lies aI aC rfl rfl)) ?_;simp only[zz,zy,Nat.zero_add,Nat.reduceAdd,Nat.reduceMul,Int.reduceToNat];refine dO rfl (fun hb=>iD (bH hb rfl) (bH hb rfl)) (aA (dA rfl rfl rfl) (aG (k18 _ _ ?_)));simp only[zz];refine eU rfl (fun hc3=>?_) (fun hc3=>?_)
     ·
      have hn : (t.img ms).nd = true:=acN.symm.trans hc3;refine aD fun K19 k19=>wp_region_lit (aJ rfl ((m.b 0 rfl).full eQ aU) ?_);simp only[zz];refine iV m rfl rfl (Hw (t:=t.img ms)) ?_;clear m;intro u m;simp only[zz];refine aS m 0 rfl rfl rfl aU (dX rfl) rfl ?_;clear m;intro u m;simp only[zy,zx,bG,zF,zG,Nat.reduceAdd] at m;refine aG (k19 _ _ ?_);refine aD fun K20 k20=>aD fun K21 k21=>wp_region_lit (aA (aB) ?_);simp only[zz];refine aJ rfl ((m.b 0 rfl).full eQ aU) ?_;simp only[zz];refine eL (dZ (ek:=tr) (en:=Value.bool) (k:=eD (t.img ms)) (v0:=false) underlying110 kY aaA rfl rfl (m.p 3 rfl) hD8) ?_;simp only[zz];refine aA (gX rfl) (aG (k21 _ _ ?_));simp only[zz];refine eU rfl (fun hc4=>?_) (fun hc4=>?_)
      ·
       have hnk:=aaB ht (mt (acO hn hc4).1 (by decide));refine aD fun K22 k22=>wp_region_lit (aA (aF) (aG (k22 _ _ ?_)));refine wp_ret ?_;simp only[zz];try simp only[Exit.inBlock,Exit.then,if_true]
       refine bS rfl rfl ?_;try simp only[zD,zE]
       exact ⟨_,rfl,m.ext,by rw [if_neg (by rw [hnk];exact Bool.false_ne_true)]⟩
      ·
       have hk2:=Ss ht ((acO hn hc4).2 rfl) hok;refine wp_skip (k20 _ _ ?_);refine aD fun K23 k23=>wp_region_lit (aA (aB) ?_);simp only[zz];refine aJ rfl ((m.b 0 rfl).full eQ aU) ?_;simp only[zz];refine eS (ek:=tr) (en:=Value.bool) (a:=eD (t.img ms)) (v:=false) m 3 rfl underlying110 aaA rfl rfl rfl hD8 ?_;clear m;intro es8 c8 u m hD';clear hD8;have hD8:=hD';clear hD';simp only[zF,zG] at m;refine aG (k23 _ _ ?_);refine wp_exit (k14 _ _ ?_);refine wp_region_lit (aA (aQ rfl rfl (aN (by omega) (by omega))) (aA (aB) (aG ?_)));simp only[zz];simp only[Exit.inBlock,Exit.then];refine ⟨N - (k + 1),_,?_,rfl,?_,?_⟩
       · omega
       · simp only[zz,zv]
       ·
        simp only[zQ,zR,zD,zE];exact ⟨k + 1,_,_,rfl,(m.sel [false,false,true,true]),by rw [aek ht hn,Wj];exact hD8,hk2,by omega,rfl⟩
     ·
      have hn : (t.img ms).nd = false:=acN.symm.trans hc3;refine wp_skip (k17 _ _ ?_);refine aD fun K24 k24=>wp_region_lit (aA (aB) (aA (aH bL aC rfl rfl (by decide) (by decide) rfl) ?_));simp only[zz];refine aJ rfl ((m.b 0 rfl).lies aI aC rfl rfl) ?_;simp only[zz,zy,Nat.zero_add,Nat.reduceAdd,Nat.reduceMul,Int.reduceToNat];refine aA (aH bL aC rfl rfl (by decide) (by decide) rfl) ?_;simp only[zz];refine aJ rfl ((m.b 0 rfl).lies aI aC rfl rfl) ?_;simp only[zz,zy,Nat.zero_add,Nat.reduceAdd,Nat.reduceMul,Int.reduceToNat];refine aA (bW rfl rfl) ?_;simp only[zz];refine eL (dZ (ek:=ed) (en:=Value.bool) (k:=((t.img ms).a,(t.img ms).b)) (v0:=false) mQ kY mG rfl rfl (m.p 2 rfl) hD9) ?_;simp only[zz];refine aA (gX rfl) (aA (aB) (gJ rfl (fun hb=>aB) (gJ rfl (fun hb=>aH bL aC rfl rfl (by decide) (by decide) rfl) ?_)));simp only[zz];refine mU rfl (fun hb=>cF (bH hb rfl) ((m.b 0 rfl).lies aI aC rfl rfl)) ?_;simp only[zz,zy,Nat.zero_add,Nat.reduceAdd,Nat.reduceMul,Int.reduceToNat];refine gJ rfl (fun hb=>aH bL aC rfl rfl (by decide) (by decide) rfl) ?_;simp only[zz];refine mU rfl (fun hb=>cF (bH hb rfl) ((m.b 0 rfl).lies aI aC rfl rfl)) ?_;simp only[zz,zy,Nat.zero_add,Nat.reduceAdd,Nat.reduceMul,Int.reduceToNat];refine gJ rfl (fun hb=>bW (afO hb rfl rfl) (afO hb rfl rfl)) ?_;simp only[zz];refine mU rfl (fun hb=>dZ (ek:=ed) (en:=Value.bool) (k:=((t.img ms).b,(t.img ms).c)) (v0:=false) mQ kY mG (bH hb rfl) (bH hb rfl) (m.p 2 rfl) hD9) ?_;simp only[zz];refine gJ rfl (fun hb=>gX (bH hb rfl)) (aA (gU rfl rfl rfl) (aG (k24 _ _ ?_)));simp only[zz];refine eU rfl (fun hc5=>?_) (fun hc5=>?_)
      ·
       have hnk:=aaB ht (mt (acP hn hc5).1 (by decide));refine aD fun K25 k25=>wp_region_lit (aA (aF) (aG (k25 _ _ ?_)));refine wp_ret ?_;simp only[zz];try simp only[Exit.inBlock,Exit.then,if_true]
       refine bS rfl rfl ?_;try simp only[zD,zE]
       exact ⟨_,rfl,m.ext,by rw [if_neg (by rw [hnk];exact Bool.false_ne_true)]⟩
      ·
       have hk2:=Ss ht ((acP hn hc5).2 rfl) hok;refine wp_skip (k14 _ _ ?_);refine wp_region_lit (aA (aQ rfl rfl (aN (by omega) (by omega))) (aA (aB) (aG ?_)));simp only[zz];simp only[Exit.inBlock,Exit.then];refine ⟨N - (k + 1),_,?_,rfl,?_,?_⟩
       · omega
       · simp only[zz,zv]
       ·
        simp only[zQ,zR,zD,zE];exact ⟨k + 1,_,_,rfl,(m.sel [false,false,true,true]),by rw [ael ht hn];exact hD8,hk2,by omega,rfl⟩
    ·
     have hkN : k = N:=by omega
     rw [List.take_of_length_le (by rw [hT.len];omega)] at hD8;have hall : ∀ i t,fs[i]? = some t → Qi fs gs ms i t:=fun i t ht=>hok i t (by have:=(List.getElem?_eq_some_iff.1 ht).1;rw [hT.len] at this;omega) ht;refine wp_exit (k10 _ _ ?_);refine aD fun K26 k26=>aD fun K27 k27=>wp_region_lit (aA (aB) ?_);simp only[zz];refine wK m underlying110 rfl (m.p 1 rfl) ?_;clear m;intro r1 u m;refine aG (k27 _ _ ?_);refine wp_block ?_;simp only[zz];try simp only[Nat.zero_add,Nat.reduceAdd,Nat.reduceMul,Int.reduceToNat]
     refine bM [] [2,11,101,102,103,104,105] (fun n vs wl=>∃ (dn rs : List (T3 × Bool)) (sn : Array Nat),vs = [] ∧ bR w wl [iI r1 q8 c8 sn,mI q8 es8 c8] ∧ (kZ tr Value.bool (Ai (fG [] (gs.map eD)) (mC ms (fs))) es8 sn dn rs) ∧ (∀ y ∈ dn,y.2 = false) ∧ (n = rs.length)) ?_ ?_
     ·
      apply Exists.intro;simp only[zQ,zR,zD,zE];exact ⟨[],_,#[],trivial,(m.sel [true,false,true]),kZ.start hD8,fun _ h=>(by cases h),rfl⟩
     ·
      intro n vs wr hI u;clear m;obtain ⟨dn,rs,sn,rfl,m,hT9,hno,hn⟩:=hI;simp only[zu,zF,zG];refine aD fun K28 k28=>wp_region_lit (Du m 0 rfl rfl (m.p 1 rfl) hD8 hT9 ?_);clear m;intro bb kk vv sn u m hN;simp only[zF,zG] at m;refine aA (rW rfl) (aG (k28 _ _ ?_));refine aD fun K29 k29=>?_;simp only[zz];refine eU rfl (fun hc6=>?_) (fun hc6=>?_)
      ·
       obtain ⟨kp,kb,rs2,hp,hT10⟩:=Dx hc6 hN;refine wp_skip (k29 _ _ ?_);refine wp_block (aD fun K30 k30=>wp_region_lit (eL (rX rfl (m.r 0 rfl) (m.p 1 rfl) hD8 hT10) ?_));simp only[zz];refine aA (aZ rfl rfl) (aA (aF) (aG (k30 _ _ ?_)));refine aD fun K31 k31=>wp_region_lit (aA (aB) (aG (k31 _ _ ?_)));simp only[zz];refine eU rfl (fun hc7=>?_) (fun hc7=>?_)
       ·
        have hnk:=aaC hT10 (y:=kp) (by rw [← hc7];simp);refine aD fun K32 k32=>wp_region_lit (aA (aF) (aG (k32 _ _ ?_)));refine wp_ret ?_;simp only[zz];try simp only[Exit.inBlock,Exit.then,if_true]
        refine bS rfl rfl ?_;try simp only[zD,zE]
        exact ⟨_,rfl,m.ext,by rw [if_neg (by rw [hnk];exact Bool.false_ne_true)]⟩
       ·
        skip
        refine wp_skip ?_;simp only[Exit.inBlock,Exit.then];refine ⟨rs2.length,_,?_,rfl,?_,?_⟩
        · rw [hn,hp.length_eq];exact Nat.lt_succ_self _
        · simp only[zz,zv]
        ·
         simp only[zQ,zR,zD,zE];exact ⟨dn ++ [(kp,kb)],rs2,_,trivial,m,hT10,fun y hy=>(List.mem_append.1 hy).elim (hno y) fun hy=>by obtain rfl:=List.mem_singleton.1 hy;exact hc7,rfl⟩
      ·
       obtain rfl:=Dw hc6 hN;refine wp_exit (k26 _ _ ?_);refine aD fun K33 k33=>wp_region_lit (aA (aF) (aG (k33 _ _ ?_)));refine wp_ret ?_;simp only[zz];try simp only[Exit.inBlock,Exit.then,if_true]
       refine bS rfl rfl ?_;try simp only[zD,zE]
       exact ⟨_,rfl,m.ext,by rw [if_pos (ab4 hT9 hno hall)]⟩
end Go.Proofs.YtfohfflkhpfjeaaGreatDoor
namespace Go.Proofs.YtfohfflkhpfjeaaGreatDoor
open Go.Proofs.Tryz
open Go.RowKit Go.Lith
set_option maxRecDepth 100000
attribute [local irreducible] wpList wpQuiet dC Code.wp
end Go.Proofs.YtfohfflkhpfjeaaGreatDoor
namespace Go.Proofs.YtfohfflkhpfjeaaGreatDoor
open Go.Proofs.Tryz
open Go.RowKit Go.Lith
set_option maxRecDepth 100000
attribute [local irreducible] wpList wpQuiet dC Code.wp
end Go.Proofs.YtfohfflkhpfjeaaGreatDoor
namespace Go.Proofs.YtfohfflkhpfjeaaGreatDoor
open Go.Proofs.Tryz
open Go.RowKit Go.Lith
set_option maxRecDepth 100000
attribute [local irreducible] wpList wpQuiet dC Code.wp
end Go.Proofs.YtfohfflkhpfjeaaGreatDoor
namespace Go.Proofs.YtfohfflkhpfjeaaGreatDoor
open Go.Proofs.Tryz
open Go.RowKit Go.Lith
set_option maxRecDepth 100000
attribute [local irreducible] wpList wpQuiet dC Code.wp
end Go.Proofs.YtfohfflkhpfjeaaGreatDoor
namespace Go.Proofs.YtfohfflkhpfjeaaGreatDoor
open Go.Proofs.Tryz
open Go.RowKit Go.Lith
set_option maxRecDepth 100000
attribute [local irreducible] wpList wpQuiet dC Code.wp
end Go.Proofs.YtfohfflkhpfjeaaGreatDoor
namespace Go.Proofs.YtfohfflkhpfjeaaGreatDoor
open Go.Proofs.Tryz
open Go.RowKit Go.Lith
set_option maxRecDepth 100000
attribute [local irreducible] wpList wpQuiet dC Code.wp
end Go.Proofs.YtfohfflkhpfjeaaGreatDoor
namespace Go.Proofs.YtfohfflkhpfjeaaGreatDoor
open Go.Proofs.Tryz
open Go.RowKit Go.Lith
set_option maxRecDepth 100000
attribute [local irreducible] wpList wpQuiet dC Code.wp
end Go.Proofs.YtfohfflkhpfjeaaGreatDoor
namespace Go.Proofs.YtfohfflkhpfjeaaGreatDoor
open Go.Proofs.Tryz
open Go.RowKit Go.Lith
set_option maxRecDepth 100000
attribute [local irreducible] wpList wpQuiet dC cS cR Code.wp
theorem af0 {p : P3} : kV prog 129 [pt p] (.int .i64 p.x):=by
 intro w;refine ⟨Ze,?_⟩;have m:=bR.refl w
 go_enter func129,ntmps129
 refine aD fun K1 k1=>wp_region_lit (eY m rfl ?_);clear m;intro g1 u m;refine aA (aF) (aG (k1 _ _ ?_));refine aD fun K2 k2=>wp_region_lit (aA (aK (c:=0) zY rfl bA rfl rfl) ?_);simp only[zz];refine aJ rfl ((m.b 0 rfl).lies1 bQ rfl) ?_;simp only[zz];refine aA (aF) (aG (k2 _ _ ?_));refine wp_ret ?_;simp only[zz];try simp only[Exit.inBlock,Exit.then,if_true]
 refine bS rfl rfl ?_;try simp only[zD,zE]
 exact ⟨_,rfl,m.ext,rfl⟩
theorem af1 {p : P3} : kV prog 130 [pt p] (.int .i64 p.y):=by
 intro w;refine ⟨Zf,?_⟩;have m:=bR.refl w
 go_enter func130,ntmps130
 refine aD fun K1 k1=>wp_region_lit (eY m rfl ?_);clear m;intro g1 u m;refine aA (aF) (aG (k1 _ _ ?_));refine aD fun K2 k2=>wp_region_lit (aA (aK (c:=0) zY rfl bA rfl rfl) ?_);simp only[zz];refine aJ rfl ((m.b 0 rfl).lies1 bQ rfl) ?_;simp only[zz];refine aA (aF) (aG (k2 _ _ ?_));refine wp_ret ?_;simp only[zz];try simp only[Exit.inBlock,Exit.then,if_true]
 refine bS rfl rfl ?_;try simp only[zD,zE]
 exact ⟨_,rfl,m.ext,rfl⟩
theorem af2 {p : P3} : kV prog 131 [pt p] (.int .i64 p.z):=by
 intro w;refine ⟨Zg,?_⟩;have m:=bR.refl w
 go_enter func131,ntmps131
 refine aD fun K1 k1=>wp_region_lit (eY m rfl ?_);clear m;intro g1 u m;refine aA (aF) (aG (k1 _ _ ?_));refine aD fun K2 k2=>wp_region_lit (aA (aK (c:=0) zY rfl bA rfl rfl) ?_);simp only[zz];refine aJ rfl ((m.b 0 rfl).lies1 bQ rfl) ?_;simp only[zz];refine aA (aF) (aG (k2 _ _ ?_));refine wp_ret ?_;simp only[zz];try simp only[Exit.inBlock,Exit.then,if_true]
 refine bS rfl rfl ?_;try simp only[zD,zE]
 exact ⟨_,rfl,m.ext,rfl⟩
theorem aem  : kV prog 111 [] (.agg #[.func (.func 129) #[] #[],.func (.func 130) #[] #[],.func (.func 131) #[] #[]]):=by
 intro w;refine ⟨Zd,?_⟩;have m:=bR.refl w
 go_enter func111,ntmps111
 refine aD fun K1 k1=>wp_region_lit (bC m Dr rfl ?_);clear m;intro g1 u m;refine aG (k1 _ _ ?_);refine aD fun K2 k2=>wp_region_lit (aA (pH rfl rfl rfl) ?_);simp only[zz];refine aS m 0 rfl rfl rfl uW (dX rfl) rfl ?_;clear m;intro u m;simp only[zy,zx,bG,zF,zG,Nat.reduceAdd] at m;refine aG (k2 _ _ ?_);refine wp_ret ?_;try simp only[Exit.inBlock,Exit.then,if_true]
 refine bS rfl ⟨_,rfl,((m.b 0 rfl).full Rx uW)⟩ ?_;try simp only[zD,zE]
 exact ⟨_,rfl,m.ext,rfl⟩
theorem Ni {p q : P3} [I3 p] [I3 q] : kV prog 112 [pt p,pt q] (wv (q.sub p)):=by
 intro w;refine ⟨adv,?_⟩;have m:=bR.refl w
 go_enter func112,ntmps112
 refine aD fun K1 k1=>wp_region_lit (eY m rfl ?_);clear m;intro g1 u m;simp only[zz];refine eY m rfl ?_;clear m;intro g2 u m;simp only[zz];refine bC m Ds rfl ?_;clear m;intro g3 u m;refine aG (k1 _ _ ?_);refine aD fun K2 k2=>wp_region_lit ?_;simp only[zz];refine bC m Ds rfl ?_;clear m;intro g4 u m;refine aG (k2 _ _ ?_);refine aD fun K3 k3=>aD fun K4 k4=>wp_region_lit ?_;simp only[zz];refine iV m rfl rfl (aem) ?_;clear m;intro u m;refine aA (aB) (aG (k4 _ _ ?_));refine wp_block (wp_loop_rounds 4 (cZ (aD fun K5 k5=>wp_region_lit (aA (bT (m:=0) (n:=3) rfl rfl (by decide)) (aG (k5 _ _ ?_))))));refine aD fun K6 k6=>cK rfl (wp_skip (k6 _ _ ?_));refine aD fun K7 k7=>wp_block (aD fun K8 k8=>wp_region_lit (aA (aB) ?_));simp only[zz];refine aA (vT rfl rfl) (aA (aF) (aA (aF) (aG (k8 _ _ ?_))));simp only[zz];refine gB m 11 aO (by kernel_rfl) ?_;simp only[zy];refine aL (aB) (aL (aB) ?_);simp only[zz];refine ql rfl (fun u m=>((m.b 2 rfl).full aI aC)) ?_;simp only[zz];refine wU rfl rfl (af0) ?_;simp only[zz];refine wU rfl rfl (wO Iw.h) (aL (aB) ?_);simp only[zz];refine ql rfl (fun u m=>((m.b 3 rfl).full aI aC)) ?_;simp only[zz];refine wU rfl rfl (af0) ?_;simp only[zz];refine wU rfl rfl (wO Iw.h) ?_;simp only[zz];refine wU rfl rfl (aax Bw.up Bw.up) (aL (aH pT bB rfl rfl (by decide) (by decide) rfl) (dF ?_));clear m;intro u m;simp only[zz];refine aS m 0 rfl rfl rfl bB (dX rfl) rfl ?_;clear m;intro u m;simp only[zy,zx,bG,zF,zG,Nat.reduceAdd] at m;refine aG (k7 _ _ ?_);refine wp_region_lit (aA (aQ (m:=0) (n:=1) (r:=1) rfl rfl (by decide)) (aA (aB) (aG (aT (aD fun K9 k9=>wp_region_lit (aA (bT (m:=1) (n:=3) rfl rfl (by decide)) (aG (k9 _ _ ?_))))))));refine aD fun K10 k10=>cK rfl (wp_skip (k10 _ _ ?_));refine aD fun K11 k11=>wp_block (aD fun K12 k12=>wp_region_lit (aA (aB) ?_));simp only[zz];refine aA (vU rfl rfl) (aA (aF) (aA (aF) (aG (k12 _ _ ?_))));simp only[zz];refine gB m 11 aO (by kernel_rfl) ?_;simp only[zy];refine aL (aB) (aL (aB) ?_);simp only[zz];refine ql rfl (fun u m=>((m.b 2 rfl).full aI aC)) ?_;simp only[zz];refine wU rfl rfl (af1) ?_;simp only[zz];refine wU rfl rfl (wO Iw.h) (aL (aB) ?_);simp only[zz];refine ql rfl (fun u m=>((m.b 3 rfl).full aI aC)) ?_;simp only[zz];refine wU rfl rfl (af1) ?_;simp only[zz];refine wU rfl rfl (wO Iw.h) ?_;simp only[zz];refine wU rfl rfl (aax Bw.up Bw.up) (aL (aH pT bB rfl rfl (by decide) (by decide) rfl) (dF ?_));clear m;intro u m;simp only[zz];refine aS m 0 rfl rfl rfl bB (dX rfl) rfl ?_;clear m;intro u m;simp only[zy,zx,bG,zF,zG,Nat.reduceAdd] at m;refine aG (k11 _ _ ?_);refine wp_region_lit (aA (aQ (m:=1) (n:=1) (r:=2) rfl rfl (by decide)) (aA (aB) (aG (aT (aD fun K13 k13=>wp_region_lit (aA (bT (m:=2) (n:=3) rfl rfl (by decide)) (aG (k13 _ _ ?_))))))));refine aD fun K14 k14=>cK rfl (wp_skip (k14 _ _ ?_));refine aD fun K15 k15=>wp_block (aD fun K16 k16=>wp_region_lit (aA (aB) ?_));simp only[zz];refine aA (vV rfl rfl) (aA (aF) (aA (aF) (aG (k16 _ _ ?_))));simp only[zz];refine gB m 11 aO (by kernel_rfl) ?_;simp only[zy];refine aL (aB) (aL (aB) ?_);simp only[zz];refine ql rfl (fun u m=>((m.b 2 rfl).full aI aC)) ?_;simp only[zz];refine wU rfl rfl (af2) ?_;simp only[zz];refine wU rfl rfl (wO Iw.h) (aL (aB) ?_);simp only[zz];refine ql rfl (fun u m=>((m.b 3 rfl).full aI aC)) ?_;simp only[zz];refine wU rfl rfl (af2) ?_;simp only[zz];refine wU rfl rfl (wO Iw.h) ?_;simp only[zz];refine wU rfl rfl (aax Bw.up Bw.up) (aL (aH pT bB rfl rfl (by decide) (by decide) rfl) (dF ?_));clear m;intro u m;simp only[zz];refine aS m 0 rfl rfl rfl bB (dX rfl) rfl ?_;clear m;intro u m;simp only[zy,zx,bG,zF,zG,Nat.reduceAdd] at m;refine aG (k15 _ _ ?_);refine wp_region_lit (aA (aQ (m:=2) (n:=1) (r:=3) rfl rfl (by decide)) (aA (aB) (aG (aT (aD fun K17 k17=>wp_region_lit (aA (fT (m:=3) (n:=3) rfl rfl (by decide)) (aG (k17 _ _ ?_))))))));refine aD fun K18 k18=>jM rfl (wp_exit (k3 _ _ ?_));refine aD fun K19 k19=>wp_region_lit ?_;simp only[zz];refine aJ rfl ((m.b 0 rfl).full Bz oH) ?_;simp only[zz];refine aS m 1 rfl rfl rfl oH (dX rfl) rfl ?_;clear m;intro u m;simp only[zy,zx,bG,zF,zG,Nat.reduceAdd] at m;refine aG (k19 _ _ ?_);refine wp_ret ?_;try simp only[Exit.inBlock,Exit.then,if_true]
 refine bS rfl ⟨_,rfl,((m.b 1 rfl).full Bz oH)⟩ ?_;try simp only[zD,zE]
 exact ⟨_,rfl,m.ext,rfl⟩
theorem aen {b : Int} (hb : Bd 1000000 b) : kV prog 79 [.agg #[.bool false,.string ⟨#[]⟩],W b] (W (0 + b)):=by
 rw [← adb];exact Ng (Rm _) hb
theorem Nj {u v : P3} (hu : Bv 400000 u) (hv : Bv 400000 v) : kV prog 113 [wv u,wv v] (W (u.dot v)):=by
 intro w;refine ⟨adw,?_⟩;have m:=bR.refl w
 go_enter func113,ntmps113
 refine aD fun K1 k1=>wp_region_lit (eY m rfl ?_);clear m;intro g1 u m;simp only[zz];refine eY m rfl ?_;clear m;intro g2 u m;simp only[zz];refine bC m jR rfl ?_;clear m;intro g3 u m;refine aG (k1 _ _ ?_);refine aD fun K2 k2=>wp_region_lit ?_;simp only[zz];refine bC m jR rfl ?_;clear m;intro g4 u m;refine aG (k2 _ _ ?_);refine aD fun K3 k3=>aD fun K4 k4=>wp_region_lit (aA (aB) (aG (k4 _ _ ?_)));refine wp_block (wp_loop_rounds 4 (cZ (aD fun K5 k5=>wp_region_lit (aA (bT (m:=0) (n:=3) rfl rfl (by decide)) (aG (k5 _ _ ?_))))));refine aD fun K6 k6=>cK rfl (wp_skip (k6 _ _ ?_));refine aD fun K7 k7=>wp_block (aD fun K8 k8=>wp_region_lit (aA (aB) ?_));simp only[zz];refine aA (aF) (aG (k8 _ _ ?_));simp only[zz];refine gB m 9 aO (by kernel_rfl) ?_;simp only[zy];refine ql rfl (fun u m=>((m.b 0 rfl).full dV bB)) ?_;simp only[zz];refine aL (aB) (aL (aH pT bB rfl rfl (by decide) (by decide) rfl) ?_);simp only[zz];refine ql rfl (fun u m=>((m.b 3 rfl).lies dV bB rfl rfl)) ?_;simp only[zz,zy,Nat.zero_add,Nat.reduceAdd,Nat.reduceMul,Int.reduceToNat];refine aL (aB) (aL (aH pT bB rfl rfl (by decide) (by decide) rfl) ?_);simp only[zz];refine ql rfl (fun u m=>((m.b 2 rfl).lies dV bB rfl rfl)) ?_;simp only[zz,zy,Nat.zero_add,Nat.reduceAdd,Nat.reduceMul,Int.reduceToNat];refine wU rfl rfl (Sp Bw.up Bw.up) ?_;simp only[zz];refine wU rfl rfl (aen Bw.up) (dF ?_);clear m;intro u m;simp only[zz];refine aS m 0 rfl rfl rfl bB (dX rfl) rfl ?_;clear m;intro u m;simp only[zy,zx,bG,zF,zG,Nat.reduceAdd] at m;refine aG (k7 _ _ ?_);refine wp_region_lit (aA (aQ (m:=0) (n:=1) (r:=1) rfl rfl (by decide)) (aA (aB) (aG (aT (aD fun K9 k9=>wp_region_lit (aA (bT (m:=1) (n:=3) rfl rfl (by decide)) (aG (k9 _ _ ?_))))))));refine aD fun K10 k10=>cK rfl (wp_skip (k10 _ _ ?_));refine aD fun K11 k11=>wp_block (aD fun K12 k12=>wp_region_lit (aA (aB) ?_));simp only[zz];refine aA (aF) (aG (k12 _ _ ?_));simp only[zz];refine gB m 9 aO (by kernel_rfl) ?_;simp only[zy];refine ql rfl (fun u m=>((m.b 0 rfl).full dV bB)) ?_;simp only[zz];refine aL (aB) (aL (aH pT bB rfl rfl (by decide) (by decide) rfl) ?_);simp only[zz];refine ql rfl (fun u m=>((m.b 3 rfl).lies dV bB rfl rfl)) ?_;simp only[zz,zy,Nat.zero_add,Nat.reduceAdd,Nat.reduceMul,Int.reduceToNat];refine aL (aB) (aL (aH pT bB rfl rfl (by decide) (by decide) rfl) ?_);simp only[zz];refine ql rfl (fun u m=>((m.b 2 rfl).lies dV bB rfl rfl)) ?_;simp only[zz,zy,Nat.zero_add,Nat.reduceAdd,Nat.reduceMul,Int.reduceToNat];refine wU rfl rfl (Sp Bw.up Bw.up) ?_;simp only[zz];refine wU rfl rfl (Ng Bw.up Bw.up) (dF ?_);clear m;intro u m;simp only[zz];refine aS m 0 rfl rfl rfl bB (dX rfl) rfl ?_;clear m;intro u m;simp only[zy,zx,bG,zF,zG,Nat.reduceAdd] at m;refine aG (k11 _ _ ?_);refine wp_region_lit (aA (aQ (m:=1) (n:=1) (r:=2) rfl rfl (by decide)) (aA (aB) (aG (aT (aD fun K13 k13=>wp_region_lit (aA (bT (m:=2) (n:=3) rfl rfl (by decide)) (aG (k13 _ _ ?_))))))));refine aD fun K14 k14=>cK rfl (wp_skip (k14 _ _ ?_));refine aD fun K15 k15=>wp_block (aD fun K16 k16=>wp_region_lit (aA (aB) ?_));simp only[zz];refine aA (aF) (aG (k16 _ _ ?_));simp only[zz];refine gB m 9 aO (by kernel_rfl) ?_;simp only[zy];refine ql rfl (fun u m=>((m.b 0 rfl).full dV bB)) ?_;simp only[zz];refine aL (aB) (aL (aH pT bB rfl rfl (by decide) (by decide) rfl) ?_);simp only[zz];refine ql rfl (fun u m=>((m.b 3 rfl).lies dV bB rfl rfl)) ?_;simp only[zz,zy,Nat.zero_add,Nat.reduceAdd,Nat.reduceMul,Int.reduceToNat];refine aL (aB) (aL (aH pT bB rfl rfl (by decide) (by decide) rfl) ?_);simp only[zz];refine ql rfl (fun u m=>((m.b 2 rfl).lies dV bB rfl rfl)) ?_;simp only[zz,zy,Nat.zero_add,Nat.reduceAdd,Nat.reduceMul,Int.reduceToNat];refine wU rfl rfl (Sp Bw.up Bw.up) ?_;simp only[zz];refine wU rfl rfl (Ng Bw.up Bw.up) (dF ?_);clear m;intro u m;simp only[zz];refine aS m 0 rfl rfl rfl bB (dX rfl) rfl ?_;clear m;intro u m;simp only[zy,zx,bG,zF,zG,Nat.reduceAdd] at m;refine aG (k15 _ _ ?_);refine wp_region_lit (aA (aQ (m:=2) (n:=1) (r:=3) rfl rfl (by decide)) (aA (aB) (aG (aT (aD fun K17 k17=>wp_region_lit (aA (fT (m:=3) (n:=3) rfl rfl (by decide)) (aG (k17 _ _ ?_))))))));refine aD fun K18 k18=>jM rfl (wp_exit (k3 _ _ ?_));refine aD fun K19 k19=>wp_region_lit ?_;simp only[zz];refine aJ rfl ((m.b 0 rfl).full dV bB) ?_;simp only[zz];refine aS m 1 rfl rfl rfl bB (dX rfl) rfl ?_;clear m;intro u m;simp only[zy,zx,bG,zF,zG,Nat.reduceAdd] at m;refine aG (k19 _ _ ?_);refine wp_ret ?_;try simp only[Exit.inBlock,Exit.then,if_true]
 refine bS rfl ⟨_,rfl,((m.b 1 rfl).full dV bB)⟩ ?_;try simp only[zD,zE]
 exact ⟨_,rfl,m.ext,by rw [← P3.dot0];rfl⟩
end Go.Proofs.YtfohfflkhpfjeaaGreatDoor
namespace Go.Proofs.YtfohfflkhpfjeaaGreatDoor
open Go.Proofs.Tryz
open Go.RowKit Go.Lith
set_option maxRecDepth 100000
attribute [local irreducible] wpList wpQuiet dC cS cR Code.wp
theorem ab6 {p q : P3} [I3 p] [I3 q] : kV prog 76 [pt p,pt q] (W ((q.sub p).dot (q.sub p))):=by
 intro w;refine ⟨afy,?_⟩;have m:=bR.refl w
 go_enter func76,ntmps76
 refine aD fun K1 k1=>wp_region_lit (eY m rfl ?_);clear m;intro g1 u m;simp only[zz];refine eY m rfl ?_;clear m;intro g2 u m;simp only[zz];refine bC m jR rfl ?_;clear m;intro g3 u m;refine aG (k1 _ _ ?_);refine aD fun K2 k2=>wp_region_lit ?_;simp only[zz];refine aJ rfl ((m.b 2 rfl).full aI aC) ?_;simp only[zz];refine aJ rfl ((m.b 1 rfl).full aI aC) ?_;simp only[zz];refine iV m rfl rfl (Ni) ?_;clear m;intro u m;simp only[zz];refine bC m Ds rfl ?_;clear m;intro g4 u m;simp only[zz];refine aS m 0 rfl rfl rfl oH (dX rfl) rfl ?_;clear m;intro u m;simp only[zy,zx,bG,zF,zG,Nat.reduceAdd] at m;refine aG (k2 _ _ ?_);refine aD fun K3 k3=>wp_region_lit (aJ rfl ((m.b 0 rfl).full Bz oH) ?_);simp only[zz];refine aJ rfl ((m.b 0 rfl).full Bz oH) ?_;simp only[zz];refine iV m rfl rfl (Nj Bv.of Bv.of) ?_;clear m;intro u m;simp only[zz];refine aS m 1 rfl rfl rfl bB (dX rfl) rfl ?_;clear m;intro u m;simp only[zy,zx,bG,zF,zG,Nat.reduceAdd] at m;refine aG (k3 _ _ ?_);refine wp_ret ?_;try simp only[Exit.inBlock,Exit.then,if_true]
 refine bS rfl ⟨_,rfl,((m.b 1 rfl).full dV bB)⟩ ?_;try simp only[zD,zE]
 exact ⟨_,rfl,m.ext,rfl⟩
end Go.Proofs.YtfohfflkhpfjeaaGreatDoor
namespace Go.Proofs.YtfohfflkhpfjeaaGreatDoor
open Go.Proofs.Tryz
open Go.RowKit Go.Lith
set_option maxRecDepth 100000
attribute [local irreducible] wpList wpQuiet dC cS cR Code.wp
theorem ab7 (m n : Int) : (if m < n then n else m) = max m n:=by split <;> omega
theorem ab8 {w : World} {a : Addr} {e : E3} (h : jP w a (bJ e)) : jP w a [.int .i64 e.1.x,.int .i64 e.1.y,.int .i64 e.1.z,.int .i64 e.2.x,.int .i64 e.2.y,.int .i64 e.2.z]:=h
theorem St (p q : P3) : (q.sub p).dot (q.sub p) = ((kO p q : Nat) : Int):=by unfold kO;have:=Yi (q.sub p);omega
theorem Ez {p q : P3} [I3 p] [I3 q] : Bd 200 ((kO p q : Nat) : Int):=by rw [← St];exact (Bw.up : Bd 200 ((q.sub p).dot (q.sub p)))
theorem aeo (n : Nat) : dG n ≤ n:=by
 obtain ⟨h,_⟩:=oP n;rcases Nat.eq_zero_or_pos (dG n) with e | e
 · omega
 · exact Nat.le_trans (Nat.le_mul_of_pos_left _ e) h
theorem Kh {n : Nat} (h : Bd 200 ((n : Nat) : Int)) : Bd 200 ((dG n : Nat) : Int):=by
 have h1 : (n : Int).natAbs < 2 ^ 200:=h;show (dG n : Int).natAbs < 2 ^ 200
 have:=aeo n;omega
theorem aaD {p q : P3} (h : dG (kO p q) * dG (kO p q) = kO p q) : ((dG (kO p q) : Nat) : Int) = pX p q:=by rw [pX,if_pos h,Int.add_zero]
theorem ab9 {p q : P3} (h : ¬ dG (kO p q) * dG (kO p q) = kO p q) : ((dG (kO p q) : Nat) : Int) + 1 = pX p q:=by rw [pX,if_neg h]
theorem aca {p q : P3} [I3 p] [I3 q] : Bd 250 (pX p q):=by
 have h : (dG (kO p q) : Int).natAbs < 2 ^ 200:=Kh Ez;show (pX p q).natAbs < 2 ^ 250
 have h2 : (2 : Nat) ^ 200 + 1 ≤ 2 ^ 250:=by decide
 unfold pX;split <;> omega
theorem acQ {r d : Nat} : (¬ (gT ((r : Int) * (r : Int)) = gT (d : Int) ∧ nX ((r : Int) * (r : Int)) = nX (d : Int))) ↔ ¬ r * r = d:=by
 rw [Yj];refine not_congr ⟨fun h=>?_,fun h=>by rw [← h];simp⟩;exact Int.ofNat_inj.1 (by rw [← h];simp)
theorem aaE {ms : List Mv} {k : Nat} {mv : Mv} {y0 y : Int} (hm : ms[k]? = some mv) (h : kP ms y0 = kP (ms.drop k) y) (hi : nJ (pX mv.1 mv.2)) : kP ms y0 = kP (ms.drop (k + 1)) (max y (pX mv.1 mv.2)):=by
 rw [h,List.drop_eq_getElem_cons (List.getElem?_eq_some_iff.1 hm).1,(List.getElem?_eq_some_iff.1 hm).2,kP,if_pos hi]
theorem acb {ms : List Mv} {k : Nat} {mv : Mv} {y0 y : Int} (hm : ms[k]? = some mv) (h : kP ms y0 = kP (ms.drop k) y) (hi : ¬ nJ (pX mv.1 mv.2)) : kP ms y0 = none:=by
 rw [h,List.drop_eq_getElem_cons (List.getElem?_eq_some_iff.1 hm).1,(List.getElem?_eq_some_iff.1 hm).2,kP,if_neg hi]
theorem Wk {w0 w : World} {K : It} {ms : List Mv} {N3 cap3 : Nat} {A3 : Option Addr} {F G R M : Value} {g1 : Nat} {y0 : Int} (m : bR w0 w [bI g1 [F,G,.slice A3 N3 cap3,R,M,.int .i64 y0] 73,K]) (hL3 : sR bJ 6 w0 A3 N3 ms) (hN3 : N3 ≤ 10000000) (hI : ∀ mv ∈ ms,I3 mv.1 ∧ I3 mv.2) : Sq prog 35 [.pointer (some ⟨g1,0,none⟩)] w fun v w'=>∃ y,v = .int .i64 (if (kP ms y0).isSome = true then 0 else 3) ∧ bR w0 w' [bI g1 [F,G,.slice A3 N3 cap3,R,M,.int .i64 y] 73,K] ∧ ∀ n,kP ms y0 = some n → n = y:=by
 refine ⟨afb,?_⟩
 go_enter func35,ntmps35
 refine aD fun K1 k1=>wp_region_lit (aA (aF) (aG (k1 _ _ ?_)));refine aD fun K2 k2=>aD fun K3 k3=>wp_region_lit (aA (aB) (aA (cC rfl) (aA (aK (c:=0) gY rfl tQ rfl rfl) ?_)));simp only[zz];refine aJ rfl ((m.b 0 rfl).lies1 Jn rfl) ?_;simp only[zz];refine aA (bF rfl jG rfl) (aA (aB) (aG (k3 _ _ ?_)));refine wp_block ?_;simp only[zz];try simp only[Nat.zero_add,Nat.reduceAdd,Nat.reduceMul,Int.reduceToNat]
 refine bM [15] [2,4,5,6,7,8,9,16,17,18,19,20,21,22,23,24,25,26,27,28,29,30,31,32,33,34,35,36,37,38,39,40,41,42,43,44,45,46,47,48,49,50,51,52,53] (fun n vs wl=>∃ (k : Nat) (y : Int),vs = [.int .i64 (k:Int)] ∧ bR w0 wl [bI g1 [F,G,.slice A3 N3 cap3,R,M,.int .i64 y] 73,K] ∧ (kP ms y0 = kP (ms.drop k) y) ∧ (k ≤ N3) ∧ (n = N3 - k)) ?_ ?_
 ·
  apply Exists.intro;simp only[zQ,zR,zD,zE];exact ⟨0,_,rfl,m,rfl,Nat.zero_le _,rfl⟩
 ·
  intro n vs wr hI u;clear m;obtain ⟨k,y,rfl,m,hme,hk,hn⟩:=hI;simp only[zu,zF,zG];refine aD fun K4 k4=>wp_region_lit (aA (cJ rfl rfl) (aG (k4 _ _ ?_)));refine aD fun K5 k5=>?_;simp only[zz];refine cO rfl (fun hc1=>?_) (fun hc1=>?_)
  ·
   obtain ⟨mv,hmv,a3,rfl,hrow3⟩:=hL3.get (i:=k) (by omega);haveI:=(hI mv (List.mem_of_getElem? hmv)).1;haveI:=(hI mv (List.mem_of_getElem? hmv)).2;refine wp_skip (k5 _ _ ?_);refine aD fun K6 k6=>wp_block (aD fun K7 k7=>wp_region_lit (aA (aM jG eH rfl rfl (by omega) (by omega) (cA (Int.toNat_natCast _))) ?_));simp only[zz];refine aJ rfl ((ab8 (hrow3.ext m.ext)).lies tS eH) ?_;simp only[zz];refine bC m rT rfl ?_;clear m;intro g2 u m;simp only[zz];refine aS m 0 rfl rfl rfl eH (dX rfl) rfl ?_;clear m;intro u m;simp only[zy,zx,bG,zF,zG,Nat.reduceAdd] at m;refine aG (k7 _ _ ?_);refine aD fun K8 k8=>wp_region_lit (aA (aK (c:=2) iL rfl aC rfl rfl) ?_);simp only[zz];refine aJ rfl ((m.b 0 rfl).lies aI aC rfl rfl) ?_;simp only[zz,zy,Nat.zero_add,Nat.reduceAdd,Nat.reduceMul,Int.reduceToNat];refine aA (aK (c:=2) iL rfl aC rfl rfl) ?_;simp only[zz];refine aJ rfl ((m.b 0 rfl).lies aI aC rfl rfl) ?_;simp only[zz,zy,Nat.zero_add,Nat.reduceAdd,Nat.reduceMul,Int.reduceToNat];refine iV m rfl rfl (ab6 (p:=mv.1) (q:=mv.2)) ?_;clear m;intro u m;simp only[zz];refine bC m jR rfl ?_;clear m;intro g3 u m;simp only[zz];refine aS m 0 rfl rfl rfl bB (dX rfl) rfl ?_;clear m;intro u m;simp only[zy,zx,bG,zF,zG,Nat.reduceAdd] at m;refine aG ?_;rw [St] at m;refine k8 _ _ ?_;refine aD fun K9 k9=>wp_region_lit (aJ rfl ((m.b 0 rfl).full dV bB) ?_);simp only[zz];refine iV m rfl rfl (aeh (a:=((kO mv.1 mv.2 : Nat) : Int)) (Ez.mono (by decide)) (by omega)) ?_;clear m;intro u m;refine aA (aB) (aA (aZ rfl rfl) (aA (aZ rfl rfl) ?_));simp only[zz];refine bC m jR rfl ?_;clear m;intro g4 u m;simp only[zz];refine aS m 0 rfl rfl rfl bB (dX rfl) rfl ?_;clear m;intro u m;simp only[zy,zx,bG,zF,zG,Nat.reduceAdd] at m;refine aA (aF) (aG ?_);simp only[zz];rw [Int.natAbs_natCast] at m;refine k9 _ _ ?_;refine aD fun K10 k10=>aD fun K11 k11=>mq m aO (by kernel_rfl) (ql rfl (fun u m=>((m.b 0 rfl).full dV bB)) ?_);simp only[zz];refine ql rfl (fun u m=>((m.b 0 rfl).full dV bB)) ?_;simp only[zz];refine wU rfl rfl (Sp (a:=((dG (kO mv.1 mv.2) : Nat) : Int)) (b:=((dG (kO mv.1 mv.2) : Nat) : Int)) ((Kh Ez).mono (by decide)) ((Kh Ez).mono (by decide))) ?_;simp only[zz];refine ql rfl (fun u m=>((m.b 1 rfl).full dV bB)) ?_;simp only[zz];refine aL (Ve rfl rfl) (dF ?_);clear m;intro u m;refine k11 _ _ ?_;simp only[zz];refine sD m 0 [] [34,35,36] (fun vs i=>vs = [] ∧ i = bI g4 [.bool (gT (pX mv.1 mv.2)),.string (nX (pX mv.1 mv.2))] 65) ?_ ?_
   ·
    refine cO rfl (fun hc2=>?_) (fun hc2=>?_)
    ·
     have hsq:=acQ.1 hc2;refine gB m 3 aO (by kernel_rfl) ?_;simp only[zy];refine ql rfl (fun u m=>((m.b 0 rfl).full dV bB)) ?_;simp only[zz];refine wU rfl rfl (wO (n:=1) (show nJ 1 by unfold nJ;decide)) ?_;simp only[zz];refine wU rfl rfl (Ng (a:=((dG (kO mv.1 mv.2) : Nat) : Int)) (b:=1) ((Kh Ez).mono (by decide)) Bw.up) (dF ?_);clear m;intro u m;simp only[zz];refine aS m 0 rfl rfl rfl bB (dX rfl) rfl ?_;clear m;intro u m;simp only[zy,zx,bG,zF,zG,Nat.reduceAdd] at m;refine aG ?_;rw [ab9 hsq] at m;simp only[Exit.inBlock,Exit.then];refine ⟨_,_,rfl,?_,m,?_⟩
     · simp only[zz,zv]
     ·
      simp only[zQ,zR,zD,zE];exact ⟨trivial,trivial⟩
    ·
     have hsq:=Classical.not_not.1 (mt acQ.2 hc2);refine wp_skip ?_;rw [aaD hsq] at m;simp only[Exit.inBlock,Exit.then];refine ⟨_,_,rfl,?_,m,?_⟩
     · simp only[zz,zv]
     ·
      simp only[zQ,zR,zD,zE];exact ⟨trivial,trivial⟩
   ·
    intro vs i wr m hI u;obtain ⟨rfl,rfl⟩:=hI;simp only[zF,zG] at m;simp only[zu,zF,zG];refine k10 _ _ ?_;refine aD fun K12 k12=>wp_region_lit (aJ rfl ((m.b 0 rfl).full dV bB) ?_);simp only[zz];refine iV m rfl rfl (aei (a:=pX mv.1 mv.2) (aca.mono (by decide))) ?_;clear m;intro u m;refine aA (aB) (aA (aZ rfl rfl) (aA (aZ rfl rfl) ?_));simp only[zz];refine aA (aF) (aA (aF) (aG (k12 _ _ ?_)));refine aD fun K13 k13=>aD fun K14 k14=>wp_region_lit (aA (aB) (aA (gX rfl) ?_));simp only[zz];refine aG (k14 _ _ ?_);refine eU rfl (fun hc3=>?_) (fun hc3=>?_)
    ·
     have hc3 : ¬ nJ (pX mv.1 mv.2):=by simpa using hc3
     have hno:=acb hmv hme hc3;refine aD fun K15 k15=>wp_region_lit (aA (aF) (aG (k15 _ _ ?_)));refine wp_ret ?_;simp only[zz];try simp only[Exit.inBlock,Exit.then,if_true]
     refine bS rfl rfl ?_;try simp only[zD,zE]
     exact ⟨_,rfl,_,by rw [hno];rfl,m.sel [false,false,false,true,true],fun n h=>by rw [hno] at h;cases h⟩
    ·
     have hc3 : nJ (pX mv.1 mv.2):=by simpa using hc3
     have hme2:=aaE hmv hme hc3;refine wp_skip (k13 _ _ ?_);rw [Wa,if_pos hc3];refine wp_region_lit (aA (aB) (aA (aB) (aA (cC rfl) (aA (aK (c:=0) gY rfl bA rfl rfl) ?_))));simp only[zz];refine aJ rfl ((m.b 3 rfl).lies1 bQ rfl) ?_;simp only[zz];refine aA (aB) (aA (aeB rfl rfl (ab7 _ _)) (aA (cC rfl) (aA (aK (c:=0) gY rfl bA rfl rfl) ?_)));simp only[zz];refine By (off:=5) m 3 rfl rfl rfl bA (dX rfl) ⟨rfl,rfl⟩ ?_;clear m;intro u m;simp only[zz,zy,zx,bG,Nat.reduceAdd] at m;refine aG (k6 _ _ ?_);refine wp_region_lit (aA (aQ rfl rfl (aN (by omega) (by omega))) (aA (aB) (aG ?_)));simp only[zz];simp only[Exit.inBlock,Exit.then];refine ⟨N3 - (k + 1),_,?_,rfl,?_,?_⟩
     · omega
     · simp only[zz,zv]
     ·
      simp only[zQ,zR,zD,zE];exact ⟨k + 1,_,rfl,(m.sel [false,false,false,true,true]),hme2,by omega,rfl⟩
  ·
   have hkN : k = N3:=by omega
   rw [List.drop_of_length_le (by rw [hL3.len];omega)] at hme;refine wp_exit (k2 _ _ ?_);refine aD fun K16 k16=>wp_region_lit (aA (aF) (aG (k16 _ _ ?_)));refine wp_ret ?_;simp only[zz];try simp only[Exit.inBlock,Exit.then,if_true]
   refine bS rfl rfl ?_;try simp only[zD,zE]
   exact ⟨_,rfl,_,by rw [hme];rfl,m.sel [true,true],fun n h=>by rw [hme] at h;cases h;rfl⟩
end Go.Proofs.YtfohfflkhpfjeaaGreatDoor
namespace Go.Lith
section
variable {w0 w : World} {x y z : It} {is : List It}
theorem bR.pack1 (m : bR w0 w (x :: is)) : bR w0 w [x,Hz is]:=bR.pack [x] m
theorem bR.unpack2 (m : bR w0 w [x,y,Hz is]) : bR w0 w (x :: y :: is):=bR.unpack [x,y] m
theorem bR.pack3 (m : bR w0 w (x :: y :: z :: is)) : bR w0 w [x,y,z,Hz is]:=bR.pack [x,y,z] m
theorem bR.unpack3 (m : bR w0 w [x,y,z,Hz is]) : bR w0 w (x :: y :: z :: is):=bR.unpack [x,y,z] m
end
end Go.Lith
namespace Go.Proofs.YtfohfflkhpfjeaaGreatDoor
open Go.Proofs.Tryz
open Go.RowKit Go.Lith
set_option maxRecDepth 100000
attribute [local irreducible] wpList wpQuiet dC cS cR Code.wp
section
variable {fs gs : List T3} {ms : List Mv}
theorem af3 (h : (if cV true fs ≠ 0 then cV true fs else cV true gs) ≠ 0) : iK fs gs ms = (0,if cV true fs ≠ 0 then cV true fs else cV true gs):=by
 unfold iK;by_cases h1 : cV true fs ≠ 0
 · rw [if_pos h1,if_pos h1]
 ·
  rw [if_neg h1] at h;rw [if_neg h1,if_neg h1,if_pos h]
theorem af4 (h : ¬ (if cV true fs ≠ 0 then cV true fs else cV true gs) ≠ 0) : cV true fs = 0 ∧ cV true gs = 0:=by
 by_cases h1 : cV true fs ≠ 0
 · rw [if_pos h1] at h;exact absurd h1 h
 · rw [if_neg h1] at h;exact ⟨Classical.not_not.1 h1,Classical.not_not.1 h⟩
theorem af5 (hf : cV true fs = 0) (hg : cV true gs = 0) (h : Bk fs gs ≠ 0) : iK fs gs ms = (0,Bk fs gs):=by
 rw [iK,if_neg (fun k=>k hf),if_neg (fun k=>k hg)];unfold Bk at h ⊢;split
 · rfl
 ·
  rename_i h1;rw [if_neg h1] at h;split
  · rfl
  · rename_i h2;rw [if_neg h2] at h;exact absurd rfl h
theorem af6 (h : ¬ Bk fs gs ≠ 0) : aR fs = aR gs ∧ ¬ (nP fs gs (aR fs) = true ∨ uC fs gs (aR fs) = false):=by
 unfold Bk at h;split at h
 · exact absurd (by decide) h
 ·
  rename_i h1;split at h
  · exact absurd (by decide) h
  · rename_i h2;exact ⟨Classical.not_not.1 h1,h2⟩
theorem Ki (hf : cV true fs = 0) (hg : cV true gs = 0) (hb : ¬ Bk fs gs ≠ 0) : iK fs gs ms = if nQ fs gs ms (aR fs) = false then ((0 : Int),(31 : Int)) else if nR fs gs ms = false then ((0 : Int),(32 : Int)) else match kP ms 0 with
 | some n=>(n,(0 : Int))
 | none=>((0 : Int),(3 : Int)):=by
 obtain ⟨h1,h2⟩:=af6 hb;rw [iK,if_neg (fun k=>k hf),if_neg (fun k=>k hg),if_neg (fun k=>k h1),if_neg h2];cases kP ms 0 <;> rfl
theorem aaF {b : Bool} {n : Int} (h : (if b = true then 0 else n) ≠ 0) : b = false:=by cases b with | false=>rfl | true=>exact absurd rfl h
theorem aaG {b : Bool} {n : Int} (hn : n ≠ 0) (h : ¬ (if b = true then 0 else n) ≠ 0) : b = true:=by cases b with | true=>rfl | false=>exact absurd hn h
end
theorem pB {fs gs : List T3} {ms : List Mv} {N cap N2 cap2 N3 cap3 : Nat} {A A2 A3 : Option Addr} (w : World) (hT : eG w A N fs) (hT2 : eG w A2 N2 gs) (hL3 : sR bJ 6 w A3 N3 ms) (hN : N ≤ 300000) (hN2 : N2 ≤ 300000) (hN3 : N3 ≤ 10000000) (hI : ∀ mv ∈ ms,I3 mv.1 ∧ I3 mv.2) : eI prog 17 [.slice A N cap,.slice A2 N2 cap2,.slice A3 N3 cap3] w (fun v _=>v = .tuple #[.int .i64 (iK fs gs ms).1,.int .i64 (iK fs gs ms).2]):=by
 refine ⟨aeY,?_⟩;have m:=bR.refl w
 go_enter func17,ntmps17
 refine aD fun K1 k1=>wp_region_lit (aA (aF) (aA (aF) (aG (k1 _ _ ?_))));refine aD fun K2 k2=>wp_region_lit (aA (aB) (aA (aB) ?_));simp only[zz];refine aA (aB) ?_;simp only[zz];refine jJ m ?_;clear m;intro q7 u m;have hD7:=bV.nil (K:=P3) (V:=P3) pt pt;refine aA (wI rfl rfl rfl rfl) ?_;simp only[zz];refine eY m rfl ?_;clear m;intro g2 u m;refine aA (aF) (aG (k2 _ _ ?_));refine aD fun K3 k3=>aD fun K4 k4=>wp_region_lit (aA (aB) ?_);simp only[zz];refine aA (oK) ?_;simp only[zz,List.map_toArray,List.map_cons,List.map_nil];refine aA (mB rfl) (aA (aB) ?_);simp only[zz];refine aA (oK) ?_;simp only[zz,List.map_toArray,List.map_cons,List.map_nil];refine aA (mB rfl) (aA (aB) ?_);simp only[zz];refine aA (oK) ?_;simp only[zz,List.map_toArray,List.map_cons,List.map_nil];refine aA (mB rfl) (aA (aB) ?_);simp only[zz];refine aA (oK) ?_;simp only[zz,List.map_toArray,List.map_cons,List.map_nil];refine aA (mB rfl) (aA (aB) ?_);simp only[zz];refine aA (oK) ?_;simp only[zz,List.map_toArray,List.map_cons,List.map_nil];refine aA (mB rfl) ?_;simp only[zz];refine Vi rfl rfl rfl rfl rfl ?_;intro u g3 e hg hB;replace m:=m.newB e hg hB;clear e hg hB;refine aA (bF rfl Dn rfl) (aA (aB) (aG (k4 _ _ ?_)));refine wp_block (wp_loop_rounds 6 (cZ (aD fun K5 k5=>wp_region_lit (aA (bT (m:=0) (n:=5) rfl rfl (by decide)) ?_))));simp only[zz];refine aG (k5 _ _ ?_);refine aD fun K6 k6=>cK rfl (wp_skip (k6 _ _ ?_));refine aD fun K7 k7=>wp_block (aD fun K8 k8=>wp_region_lit (aA (aM Dn gV rfl rfl (by decide) (by omega) rfl) ?_));simp only[zz];refine aJ rfl ((m.b 0 rfl).lies Dq gV rfl rfl) ?_;simp only[zz,zy,Nat.zero_add,Nat.reduceAdd,Nat.reduceMul,Int.reduceToNat];refine bC m uU rfl ?_;clear m;intro g4 u m;simp only[zz];refine aS m 0 rfl rfl rfl gV (dX rfl) rfl ?_;clear m;intro u m;simp only[zy,zx,bG,zF,zG,Nat.reduceAdd] at m;refine aG (k8 _ _ ?_);refine aD fun K9 k9=>wp_region_lit (aA (aK (c:=0) Dm rfl qL rfl rfl) ?_);simp only[zz];refine aJ rfl ((m.b 0 rfl).lies1 Dp rfl) ?_;simp only[zz];refine gF m rfl rfl (Qt _ (m.b 2 rfl) (hT.ext m.ext) (hT2.ext m.ext) (by omega) (by omega)) ?_;clear m;rintro v u m rfl;refine aA (aF) (aG (k9 _ _ ?_));refine aD fun K10 k10=>wp_region_lit (aA (aB) (aA (nS rfl rfl) ?_));simp only[zz];refine aG (k10 _ _ ?_);refine cO rfl (fun hc2=>?_) (fun hc2=>?_)
 ·
  refine aD fun K11 k11=>wp_region_lit (aA (aB) (aA (aF) (aA (aF) (aG (k11 _ _ ?_)))));refine wp_ret ?_;simp only[zz];try simp only[Exit.inBlock,Exit.then,if_true]
  refine nV rfl rfl rfl ?_;try simp only[zD,zE]
  exact ⟨_,rfl,m.ext,by rw [af3 hc2]⟩
 ·
  obtain ⟨hf,hg⟩:=af4 hc2;refine wp_skip (k7 _ _ ?_);refine wp_region_lit (aA (aQ (m:=0) (n:=1) (r:=1) rfl rfl (by decide)) (aA (aB) (aG (aT (aD fun K12 k12=>wp_region_lit (aA (bT (m:=1) (n:=5) rfl rfl (by decide)) (aG (k12 _ _ ?_))))))));refine aD fun K13 k13=>cK rfl (wp_skip (k13 _ _ ?_));refine aD fun K14 k14=>wp_block (aD fun K15 k15=>wp_region_lit ?_);simp only[zz];refine aA (aM Dn gV rfl rfl (by decide) (by omega) rfl) ?_;simp only[zz];refine aJ rfl ((m.b 1 rfl).lies Dq gV rfl rfl) ?_;simp only[zz,zy,Nat.zero_add,Nat.reduceAdd,Nat.reduceMul,Int.reduceToNat];refine bC m uU rfl ?_;clear m;intro g5 u m;simp only[zz];refine aS m 0 rfl rfl rfl gV (dX rfl) rfl ?_;clear m;intro u m;simp only[zy,zx,bG,zF,zG,Nat.reduceAdd] at m;refine aG (k15 _ _ ?_);refine aD fun K16 k16=>wp_region_lit (aA (aK (c:=0) Dm rfl qL rfl rfl) ?_);simp only[zz];refine aJ rfl ((m.b 0 rfl).lies1 Dp rfl) ?_;simp only[zz];replace m:=m.pull 3 rfl;simp only[wG,wH,zF,zG] at m;replace m:=m.pack1;refine Kg rfl rfl (Wi m (hT) (hT2) (by omega) (by omega) hf hg) ?_;clear m;rintro v u ⟨A4,c4,rfl,m⟩;simp only[zz];replace m:=m.unpack2;refine aA (aF) (aG (k16 _ _ ?_));refine aD fun K17 k17=>wp_region_lit (aA (aB) (aA (nS rfl rfl) (aG (k17 _ _ ?_))));simp only[zz];refine cO rfl (fun hc2=>?_) (fun hc2=>?_)
  ·
   refine aD fun K18 k18=>wp_region_lit (aA (aB) (aA (aF) (aA (aF) (aG (k18 _ _ ?_)))));refine wp_ret ?_;simp only[zz];try simp only[Exit.inBlock,Exit.then,if_true]
   refine nV rfl rfl rfl ?_;try simp only[zD,zE]
   exact ⟨_,rfl,m.ext,by rw [af5 hf hg hc2]⟩
  ·
   have hb:=hc2;refine wp_skip (k14 _ _ ?_);refine wp_region_lit (aA (aQ (m:=1) (n:=1) (r:=2) rfl rfl (by decide)) (aA (aB) (aG (aT (aD fun K19 k19=>wp_region_lit (aA (bT (m:=2) (n:=5) rfl rfl (by decide)) (aG (k19 _ _ ?_))))))));refine aD fun K20 k20=>cK rfl (wp_skip (k20 _ _ ?_));refine aD fun K21 k21=>wp_block (aD fun K22 k22=>wp_region_lit ?_);simp only[zz];refine aA (aM Dn gV rfl rfl (by decide) (by omega) rfl) ?_;simp only[zz];refine aJ rfl ((m.b 4 rfl).lies Dq gV rfl rfl) ?_;simp only[zz,zy,Nat.zero_add,Nat.reduceAdd,Nat.reduceMul,Int.reduceToNat];refine bC m uU rfl ?_;clear m;intro g6 u m;simp only[zz];refine aS m 0 rfl rfl rfl gV (dX rfl) rfl ?_;clear m;intro u m;simp only[zy,zx,bG,zF,zG,Nat.reduceAdd] at m;refine aG (k22 _ _ ?_);refine aD fun K23 k23=>wp_region_lit (aA (aK (c:=0) Dm rfl qL rfl rfl) ?_);simp only[zz];refine aJ rfl ((m.b 0 rfl).lies1 Dp rfl) ?_;simp only[zz];replace m:=m.pull 6 rfl;simp only[wG,wH,zF,zG] at m;replace m:=m.pull 3 rfl;simp only[wG,wH,zF,zG] at m;replace m:=m.pull 3 rfl;simp only[wG,wH,zF,zG] at m;replace m:=m.pack3;refine Kg rfl rfl (aej m hT hT2 hL3 hN hN2 hN3 hD7) ?_;clear m;rintro v u ⟨es7,c7,rfl,m,hD7i⟩;simp only[zz];replace m:=m.unpack3;refine aA (aF) (aG (k23 _ _ ?_));refine aD fun K24 k24=>wp_region_lit (aA (aB) (aA (nS rfl rfl) (aG (k24 _ _ ?_))));simp only[zz];refine cO rfl (fun hc2=>?_) (fun hc2=>?_)
   ·
    have hmv:=aaF hc2;refine aD fun K25 k25=>wp_region_lit (aA (aB) (aA (aF) (aA (aF) (aG (k25 _ _ ?_)))));refine wp_ret ?_;simp only[zz];try simp only[Exit.inBlock,Exit.then,if_true]
    refine nV rfl rfl rfl ?_;try simp only[zD,zE]
    exact ⟨_,rfl,m.ext,by rw [Ki hf hg hb,hmv];rfl⟩
   ·
    have hmv:=aaG (by decide) hc2;have hD7:=hD7i hmv;have himg:=abM (Mx hmv);refine wp_skip (k21 _ _ ?_);refine wp_region_lit (aA (aQ (m:=2) (n:=1) (r:=3) rfl rfl (by decide)) (aA (aB) (aG (aT (aD fun K26 k26=>wp_region_lit (aA (bT (m:=3) (n:=5) rfl rfl (by decide)) (aG (k26 _ _ ?_))))))));refine aD fun K27 k27=>cK rfl (wp_skip (k27 _ _ ?_));refine aD fun K28 k28=>wp_block (aD fun K29 k29=>wp_region_lit ?_);simp only[zz];refine aA (aM Dn gV rfl rfl (by decide) (by omega) rfl) ?_;simp only[zz];refine aJ rfl ((m.b 6 rfl).lies Dq gV rfl rfl) ?_;simp only[zz,zy,Nat.zero_add,Nat.reduceAdd,Nat.reduceMul,Int.reduceToNat];refine bC m uU rfl ?_;clear m;intro g7 u m;simp only[zz];refine aS m 0 rfl rfl rfl gV (dX rfl) rfl ?_;clear m;intro u m;simp only[zy,zx,bG,zF,zG,Nat.reduceAdd] at m;refine aG (k29 _ _ ?_);refine aD fun K30 k30=>wp_region_lit (aA (aK (c:=0) Dm rfl qL rfl rfl) ?_);simp only[zz];refine aJ rfl ((m.b 0 rfl).lies1 Dp rfl) ?_;simp only[zz];refine gF m rfl rfl (ab5 (ms:=ms) _ (m.b 2 rfl) (hT.ext m.ext) (hT2.ext m.ext) hN hN2 (m.p 3 rfl) hD7 himg) ?_;clear m;rintro v u m rfl;refine aA (aF) (aG (k30 _ _ ?_));refine aD fun K31 k31=>wp_region_lit (aA (aB) (aA (nS rfl rfl) ?_));simp only[zz];refine aG (k31 _ _ ?_);refine cO rfl (fun hc2=>?_) (fun hc2=>?_)
    ·
     have hcv:=aaF hc2;refine aD fun K32 k32=>wp_region_lit (aA (aB) (aA (aF) (aA (aF) (aG (k32 _ _ ?_)))));refine wp_ret ?_;simp only[zz];try simp only[Exit.inBlock,Exit.then,if_true]
     refine nV rfl rfl rfl ?_;try simp only[zD,zE]
     exact ⟨_,rfl,m.ext,by rw [Ki hf hg hb,hmv,hcv];rfl⟩
    ·
     have hcv:=aaG (by decide) hc2;refine wp_skip (k28 _ _ ?_);refine wp_region_lit (aA (aQ (m:=3) (n:=1) (r:=4) rfl rfl (by decide)) (aA (aB) (aG (aT (aD fun K33 k33=>wp_region_lit (aA (bT (m:=4) (n:=5) rfl rfl (by decide)) (aG (k33 _ _ ?_))))))));refine aD fun K34 k34=>cK rfl (wp_skip (k34 _ _ ?_));refine aD fun K35 k35=>wp_block (aD fun K36 k36=>wp_region_lit ?_);simp only[zz];refine aA (aM Dn gV rfl rfl (by decide) (by omega) rfl) ?_;simp only[zz];refine aJ rfl ((m.b 7 rfl).lies Dq gV rfl rfl) ?_;simp only[zz,zy,Nat.zero_add,Nat.reduceAdd,Nat.reduceMul,Int.reduceToNat];refine bC m uU rfl ?_;clear m;intro g8 u m;simp only[zz];refine aS m 0 rfl rfl rfl gV (dX rfl) rfl ?_;clear m;intro u m;simp only[zy,zx,bG,zF,zG,Nat.reduceAdd] at m;refine aG (k36 _ _ ?_);refine aD fun K37 k37=>wp_region_lit (aA (aK (c:=0) Dm rfl qL rfl rfl) ?_);simp only[zz];refine aJ rfl ((m.b 0 rfl).lies1 Dp rfl) ?_;simp only[zz];replace m:=m.pull 3 rfl;simp only[wG,wH,zF,zG] at m;replace m:=m.pack1;refine Kg rfl rfl (Wk m hL3 hN3 hI) ?_;clear m;rintro v u ⟨y,rfl,m,hme⟩;refine aA (aF) (aG (k37 _ _ ?_));refine aD fun K38 k38=>wp_region_lit (aA (aB) (aA (nS rfl rfl) ?_));simp only[zz];refine aG (k38 _ _ ?_);refine cO rfl (fun hc2=>?_) (fun hc2=>?_)
     ·
      have hm0 : kP ms 0 = none:=Option.not_isSome_iff_eq_none.1 (by rw [aaF hc2];exact Bool.false_ne_true);refine aD fun K39 k39=>wp_region_lit (aA (aB) (aA (aF) (aA (aF) (aG (k39 _ _ ?_)))));refine wp_ret ?_;simp only[zz];try simp only[Exit.inBlock,Exit.then,if_true]
      refine nV rfl rfl rfl ?_;try simp only[zD,zE]
      exact ⟨_,rfl,m.ext,by rw [Ki hf hg hb,hmv,hcv,hm0];rfl⟩
     ·
      have hm0:=aaG (by decide) hc2;obtain ⟨q,hq⟩:=Option.isSome_iff_exists.1 hm0;obtain rfl:=hme q hq;refine wp_skip (k35 _ _ ?_);refine wp_region_lit (aA (aQ (m:=4) (n:=1) (r:=5) rfl rfl (by decide)) (aA (aB) (aG (aT (aD fun K40 k40=>wp_region_lit (aA (fT (m:=5) (n:=5) rfl rfl (by decide)) (aG (k40 _ _ ?_))))))));refine aD fun K41 k41=>jM rfl (wp_exit (k3 _ _ ?_));refine aD fun K42 k42=>wp_region_lit (aA (aB) ?_);simp only[zz];refine aA (cC rfl) (aA (aK (c:=0) gY rfl bA rfl rfl) ?_);simp only[zz];refine aJ rfl ((m.b 0 rfl).lies1 bQ rfl) ?_;simp only[zz];refine aA (aF) (aA (aF) (aG (k42 _ _ ?_)));refine wp_ret ?_;simp only[zz];try simp only[Exit.inBlock,Exit.then,if_true]
      refine nV rfl rfl rfl ?_;try simp only[zD,zE]
      exact ⟨_,rfl,m.ext,by rw [Ki hf hg hb,hmv,hcv,hq];rfl⟩
end Go.Proofs.YtfohfflkhpfjeaaGreatDoor
namespace Go.Proofs.YtfohfflkhpfjeaaGreatDoor
open Go.Proofs.Tryz
open Go.RowKit Go.Lith
set_option maxRecDepth 100000
attribute [local irreducible] wpList wpQuiet dC Code.wp
end Go.Proofs.YtfohfflkhpfjeaaGreatDoor
namespace Go.Proofs.YtfohfflkhpfjeaaGreatDoor
open Go.Proofs.Tryz
open Go.RowKit Go.Lith
set_option maxRecDepth 100000
attribute [local irreducible] wpList wpQuiet dC cS cR Code.wp
end Go.Proofs.YtfohfflkhpfjeaaGreatDoor
namespace Go.Proofs.YtfohfflkhpfjeaaGreatDoor
open Go.Proofs.Tryz
open Go.RowKit Go.Lith
set_option maxRecDepth 100000
attribute [local irreducible] wpList wpQuiet dC cS cR Code.wp
end Go.Proofs.YtfohfflkhpfjeaaGreatDoor
namespace Go.Proofs.YtfohfflkhpfjeaaGreatDoor
open Go.Proofs.Tryz
open Go.RowKit Go.Lith
set_option maxRecDepth 100000
attribute [local irreducible] wpList wpQuiet dC cS cR Code.wp
end Go.Proofs.YtfohfflkhpfjeaaGreatDoor
namespace Go.Proofs.YtfohfflkhpfjeaaGreatDoor
open Go.Proofs.Tryz
open Go.RowKit Go.Lith
set_option maxRecDepth 100000
attribute [local irreducible] wpList wpQuiet dC cS cR Code.wp
section
variable {fs gs : List T3} {ms : List Mv}
end
end Go.Proofs.YtfohfflkhpfjeaaGreatDoor
namespace Go.Lith
open Go.RowKit
theorem P3.lt_asymm {p q : P3} (h : p.Lt q) : ¬ q.Lt p:=fun k=>P3.lt_irrefl _ (P3.lt_trans h k)
theorem Fa {t : T3} (h : t.nd = true) : eD ⟨t.b,t.c,t.a⟩ = eD t:=by
 unfold T3.nd at h;simp only[Bool.and_eq_true,decide_eq_true_eq] at h;obtain ⟨⟨h1,h2⟩,h3⟩:=h;unfold eD;simp only;rcases P3.lt_tri t.a t.b with ab | ab | ab
 · rcases P3.lt_tri t.b t.c with bc | bc | bc
   · have ac:=P3.lt_trans ab bc
     simp [ab,bc,ac,P3.lt_asymm ab,P3.lt_asymm bc,P3.lt_asymm ac]
   · exact absurd bc h2
   · rcases P3.lt_tri t.a t.c with ac | ac | ac
     · simp [ab,bc,ac,P3.lt_asymm ab,P3.lt_asymm bc,P3.lt_asymm ac]
     · exact absurd ac.symm h3
     · simp [ab,bc,ac,P3.lt_asymm ab,P3.lt_asymm bc,P3.lt_asymm ac]
 · exact absurd ab h1
 · rcases P3.lt_tri t.b t.c with bc | bc | bc
   · rcases P3.lt_tri t.a t.c with ac | ac | ac
     · simp [ab,bc,ac,P3.lt_asymm ab,P3.lt_asymm bc,P3.lt_asymm ac]
     · exact absurd ac.symm h3
     · simp [ab,bc,ac,P3.lt_asymm ab,P3.lt_asymm bc,P3.lt_asymm ac]
   · exact absurd bc h2
   · have ca:=P3.lt_trans bc ab
     simp [ab,bc,ca,P3.lt_asymm ab,P3.lt_asymm bc,P3.lt_asymm ca]
theorem Cf {t : T3} : (⟨t.b,t.c,t.a⟩ : T3).nd = t.nd:=by
 unfold T3.nd;simp only;cases decide (t.a ≠ t.b) <;> cases decide (t.b ≠ t.c) <;> cases decide (t.c ≠ t.a) <;> rfl
def pZ (t u : T3) : Prop:=u = t ∨ u = ⟨t.b,t.c,t.a⟩ ∨ u = ⟨t.c,t.a,t.b⟩
theorem uI {t u : T3} (h : pZ t u) (hn : t.nd = true) : eD u = eD t:=by
 rcases h with rfl | rfl | rfl
 · rfl
 · exact Fa hn
 · have h2:=Fa (t:=⟨t.b,t.c,t.a⟩) (by rw [Cf];exact hn)
   exact h2.trans (Fa hn)
theorem Su {t u : T3} (h : pZ t u) : u.nd = t.nd:=by
 rcases h with rfl | rfl | rfl
 · rfl
 · exact Cf
 · exact (Cf (t:=⟨t.b,t.c,t.a⟩)).trans Cf
theorem jW {t u : T3} (h : pZ t u) {e : E3} : e ∈ jS u ↔ e ∈ jS t:=by
 rcases h with rfl | rfl | rfl
 · exact Iff.rfl
 · simp only[jS,List.mem_cons,List.not_mem_nil,or_false]
   exact ⟨fun h=>h.elim (fun h=>.inr (.inl h)) fun h=>h.elim (fun h=>.inr (.inr h)) .inl,fun h=>h.elim (fun h=>.inr (.inr h)) fun h=>h.elim .inl fun h=>.inr (.inl h)⟩
 · simp only[jS,List.mem_cons,List.not_mem_nil,or_false]
   exact ⟨fun h=>h.elim (fun h=>.inr (.inr h)) fun h=>h.elim .inl fun h=>.inr (.inl h),fun h=>h.elim (fun h=>.inr (.inl h)) fun h=>h.elim (fun h=>.inr (.inr h)) .inl⟩
/-! ### Edges of a list in which triangles are changed -/
theorem qW (ts us : List T3) : aP (ts ++ us) = aP ts ++ aP us:=by unfold aP;rw [List.flatMap_append]
theorem Cg {α : Type} : ∀ {ts : List α} {k : Nat} {t : α},ts[k]? = some t → ts.Perm (t :: ts.eraseIdx k)
 | [],k,t,h=>by cases h
 | x :: ts,0,t,h=>by cases h;exact .refl _
 | x :: ts,k + 1,t,h=>(List.Perm.cons x (Cg (ts:=ts) (k:=k) h)).trans (List.Perm.swap ..)
theorem yF {α : Type} : ∀ {ts : List α} {k : Nat} {t u : α},ts[k]? = some t → (ts.set k u).Perm (u :: ts.eraseIdx k)
 | [],k,t,u,h=>by cases h
 | x :: ts,0,t,u,h=>.refl _
 | x :: ts,k + 1,t,u,h=>(List.Perm.cons x (yF (ts:=ts) (k:=k) (u:=u) h)).trans (List.Perm.swap ..)
theorem pC {ts us : List T3} (h : ts.Perm us) : (aP ts).Perm (aP us):=h.flatMap_right _
theorem wQ (t : T3) (ts : List T3) : aP (t :: ts) = jS t ++ aP ts:=rfl
structure Fb (p : P3) (X : E3 → Prop) (old new R fine fine' : List T3) : Prop where
 was : fine.Perm (old ++ R)
 now : fine'.Perm (new ++ R)
 edge : ∀ e : E3,e.1 ≠ p → e.2 ≠ p → (e ∈ aP new ↔ e ∈ aP old ∧ ¬ X e)
 xold : ∀ e,X e → e ∈ aP old
 xrev : ∀ e : E3,X e → X (e.2,e.1)
 back : ∀ e,e ∈ aP new → e.1 = p ∨ e.2 = p → (e.2,e.1) ∈ aP new
 fresh : ∀ t ∈ fine,t.has p = false
 nd : (aP new).Nodup
def nE (ts : List T3) (e : E3) : Prop:=e ∈ aP ts ∧ (e.2,e.1) ∉ aP ts
theorem yG {ts : List T3} {e : E3} : e ∈ aR ts ↔ nE ts e:=oY
theorem Nk {ts us : List T3} (h : ∀ e,nE ts e ↔ nE us e) : aR ts = aR us :=
 Az (mV ts) (mV us) fun e=>yG.trans ((h e).trans yG.symm)
theorem aaH {ts : List T3} {p : P3} (h : ∀ t ∈ ts,t.has p = false) {e : E3} (he : e ∈ aP ts) : e.1 ≠ p ∧ e.2 ≠ p:=by
 have k:=qT he;have no : p ∉ aY ts:=fun hp=>by
  obtain ⟨t,ht,hp⟩:=List.mem_flatMap.1 hp;have:=h t ht;rw [eA.2 (by simpa using hp)] at this;cases this
 exact ⟨fun e'=>no (e' ▸ k.1),fun e'=>no (e' ▸ k.2)⟩
section
variable {p : P3} {X : E3 → Prop} {old new R fine fine' : List T3}
theorem Fb.w (c : Fb p X old new R fine fine') (e : E3) : e ∈ aP fine ↔ e ∈ aP old ∨ e ∈ aP R:=by rw [(pC c.was).mem_iff,qW,List.mem_append]
theorem Fb.n (c : Fb p X old new R fine fine') (e : E3) : e ∈ aP fine' ↔ e ∈ aP new ∨ e ∈ aP R:=by rw [(pC c.now).mem_iff,qW,List.mem_append]
theorem Fb.dis (c : Fb p X old new R fine fine') (hn : (aP fine).Nodup) (e : E3) (h1 : e ∈ aP old) : e ∉ aP R:=fun h2=>by
 have:=(pC c.was).nodup_iff.1 hn;rw [qW] at this;exact (List.nodup_append.1 this).2.2 e h1 e h2 rfl
theorem Fb.np (c : Fb p X old new R fine fine') {e : E3} (he : e ∈ aP fine) : e.1 ≠ p ∧ e.2 ≠ p:=aaH c.fresh he
theorem Fb.stay (c : Fb p X old new R fine fine') (hn : (aP fine).Nodup) {e : E3} (h1 : e.1 ≠ p) (h2 : e.2 ≠ p) : e ∈ aP fine' ↔ e ∈ aP fine ∧ ¬ X e:=by
 rw [c.n,c.w,c.edge e h1 h2];constructor
 · rintro (k | k)
   · exact ⟨.inl k.1,k.2⟩
   · exact ⟨.inr k,fun x=>c.dis hn e (c.xold e x) k⟩
 · rintro ⟨k | k,x⟩
   · exact .inl ⟨k,x⟩
   · exact .inr k
theorem Fb.bord (c : Fb p X old new R fine fine') (hn : (aP fine).Nodup) (e : E3) : nE fine' e ↔ nE fine e:=by
 unfold nE;constructor
 · rintro ⟨h1,h2⟩
   have hp : e.1 ≠ p ∧ e.2 ≠ p:=by
    rcases (c.n e).1 h1 with k | k
    · exact ⟨fun q=>h2 ((c.n _).2 (.inl (c.back e k (.inl q)))),fun q=>h2 ((c.n _).2 (.inl (c.back e k (.inr q))))⟩
    · exact c.np ((c.w e).2 (.inr k))
   obtain ⟨k1,k2⟩:=(c.stay hn hp.1 hp.2).1 h1;exact ⟨k1,fun q=>h2 ((c.stay hn (e:=(e.2,e.1)) hp.2 hp.1).2 ⟨q,fun x=>k2 (c.xrev _ x)⟩)⟩
 · rintro ⟨h1,h2⟩
   have hp:=c.np h1;have hx : ¬ X e:=fun x=>h2 ((c.w _).2 (.inl (c.xold _ (c.xrev e x))));exact ⟨(c.stay hn hp.1 hp.2).2 ⟨h1,hx⟩,fun q=>h2 ((c.stay hn (e:=(e.2,e.1)) hp.2 hp.1).1 q).1⟩
theorem Fb.nodup (c : Fb p X old new R fine fine') (hn : (aP fine).Nodup) : (aP fine').Nodup:=by
 rw [(pC c.now).nodup_iff,qW,List.nodup_append];have hw:=(pC c.was).nodup_iff.1 hn;rw [qW,List.nodup_append] at hw;refine ⟨c.nd,hw.2.1,fun e h1 f h2 hef=>?_⟩;subst hef;have hp:=c.np ((c.w e).2 (.inr h2));exact c.dis hn e ((c.edge e hp.1 hp.2).1 h1).1 h2
end
/-! ### The two kinds of division -/
theorem acd {fine fine' R : List T3} {p a b d : P3} {t : T3} (ht : pZ ⟨a,b,d⟩ t) (hd : jN ⟨a,b,d⟩ = false) (hp : ∀ u ∈ fine,u.has p = false) (hw : fine.Perm (t :: R)) (hn : fine'.Perm (⟨a,b,p⟩ :: ⟨b,d,p⟩ :: ⟨d,a,p⟩ :: R)) :
 Fb p (fun _=>False) [t] [⟨a,b,p⟩,⟨b,d,p⟩,⟨d,a,p⟩] R fine fine':=by
 obtain ⟨h1,h2,h3⟩:=Gh hd;simp only at h1 h2 h3;have ho : ∀ e,e ∈ aP [t] ↔ e ∈ jS ⟨a,b,d⟩:=fun e=>by
  rw [wQ];simp only[aP,List.flatMap_nil,List.append_nil];exact jW ht
 have hm:=hp t (hw.mem_iff.2 (List.mem_cons_self ..));have hpp : p ≠ a ∧ p ≠ b ∧ p ≠ d:=by
  have : ∀ x,(x = a ∨ x = b ∨ x = d) → p ≠ x:=fun x hx e=>by
   have : t.has p = true:=by
    rw [eA,e];rcases ht with rfl | rfl | rfl <;> rcases hx with rfl | rfl | rfl <;> simp
   rw [hm] at this;cases this
  exact ⟨this a (.inl rfl),this b (.inr (.inl rfl)),this d (.inr (.inr rfl))⟩
 obtain ⟨p1,p2,p3⟩:=hpp;have hE : aP [⟨a,b,p⟩,⟨b,d,p⟩,⟨d,a,p⟩] = [(a,b),(b,p),(p,a),(b,d),(d,p),(p,b),(d,a),(a,p),(p,d)]:=rfl;refine ⟨hw,hn,fun e e1 e2=>?_,fun e x=>x.elim,fun e x=>x,fun e he hx=>?_,hp,?_⟩
 · rw [ho,hE]
   obtain ⟨x,y⟩:=e;simp only at e1 e2;simp only[jS,List.mem_cons,List.not_mem_nil,or_false,Prod.mk.injEq,not_false_eq_true,and_true];constructor
   · rintro (h | h | h | h | h | h | h | h | h)
     · exact .inl h
     · exact absurd h.2 e2
     · exact absurd h.1 e1
     · exact .inr (.inl h)
     · exact absurd h.2 e2
     · exact absurd h.1 e1
     · exact .inr (.inr h)
     · exact absurd h.2 e2
     · exact absurd h.1 e1
   · rintro (h | h | h)
     · exact .inl h
     · exact .inr (.inr (.inr (.inl h)))
     · exact .inr (.inr (.inr (.inr (.inr (.inr (.inl h))))))
 · rw [hE] at he ⊢
   obtain ⟨x,y⟩:=e;simp only[List.mem_cons,List.not_mem_nil,or_false,Prod.mk.injEq] at he hx ⊢;rcases he with h | h | h | h | h | h | h | h | h
   · rcases hx with hx | hx
     · exact absurd (hx.symm.trans h.1) p1
     · exact absurd (hx.symm.trans h.2) p2
   · exact .inr (.inr (.inr (.inr (.inr (.inl ⟨h.2,h.1⟩)))))
   · exact .inr (.inr (.inr (.inr (.inr (.inr (.inr (.inl ⟨h.2,h.1⟩)))))))
   · rcases hx with hx | hx
     · exact absurd (hx.symm.trans h.1) p2
     · exact absurd (hx.symm.trans h.2) p3
   · exact .inr (.inr (.inr (.inr (.inr (.inr (.inr (.inr ⟨h.2,h.1⟩)))))))
   · exact .inr (.inl ⟨h.2,h.1⟩)
   · rcases hx with hx | hx
     · exact absurd (hx.symm.trans h.1) p3
     · exact absurd (hx.symm.trans h.2) p1
   · exact .inr (.inr (.inl ⟨h.2,h.1⟩))
   · exact .inr (.inr (.inr (.inr (.inl ⟨h.2,h.1⟩))))
 · rw [hE]
   simp [h1,h2,h3,p1,p2,p3,Ne.symm h1,Ne.symm h2,Ne.symm h3,Ne.symm p1,Ne.symm p2,Ne.symm p3]
theorem jX {t u : T3} (h : pZ t u) (x : P3) : u.has x = t.has x:=by
 unfold T3.has;rcases h with rfl | rfl | rfl
 · rfl
 · simp only;cases decide (t.a = x) <;> cases decide (t.b = x) <;> cases decide (t.c = x) <;> rfl
 · simp only;cases decide (t.a = x) <;> cases decide (t.b = x) <;> cases decide (t.c = x) <;> rfl
theorem Aj {t : T3} {p : P3} (h : t.has p = false) : p ≠ t.a ∧ p ≠ t.b ∧ p ≠ t.c:=by
 refine ⟨fun e=>?_,fun e=>?_,fun e=>?_⟩ <;> (rw [eA.2 (by rw [e];simp)] at h;cases h)
theorem aaI {fine fine' R : List T3} {p a b d e : P3} {t o : T3} (ht : pZ ⟨a,b,d⟩ t) (ho : pZ ⟨b,a,e⟩ o) (hd : jN ⟨a,b,d⟩ = false) (he : jN ⟨b,a,e⟩ = false) (hde : d ≠ e) (hp : ∀ u ∈ fine,u.has p = false) (hw : fine.Perm (t :: o :: R))
 (hn : fine'.Perm (⟨a,p,d⟩ :: ⟨b,p,e⟩ :: ⟨p,b,d⟩ :: ⟨p,a,e⟩ :: R)) : Fb p (fun x=>x = (a,b) ∨ x = (b,a)) [t,o] [⟨a,p,d⟩,⟨b,p,e⟩,⟨p,b,d⟩,⟨p,a,e⟩] R fine fine':=by
 obtain ⟨h1,h2,h3⟩:=Gh hd;obtain ⟨_,h5,h6⟩:=Gh he;simp only at h1 h2 h3 h5 h6;have ho' : ∀ x,x ∈ aP [t,o] ↔ x ∈ jS ⟨a,b,d⟩ ∨ x ∈ jS ⟨b,a,e⟩:=fun x=>by
  rw [wQ,wQ,List.mem_append,List.mem_append];simp only[aP,List.flatMap_nil,List.not_mem_nil,or_false];exact or_congr (jW ht) (jW ho)
 obtain ⟨p1,p2,p3⟩:=Aj ((jX ht p).symm.trans (hp t (hw.mem_iff.2 (by simp))));obtain ⟨_,_,p4⟩:=Aj ((jX ho p).symm.trans (hp o (hw.mem_iff.2 (by simp))));simp only at p1 p2 p3 p4;have hE : aP [⟨a,p,d⟩,⟨b,p,e⟩,⟨p,b,d⟩,⟨p,a,e⟩] = [(a,p),(p,d),(d,a),(b,p),(p,e),(e,b),(p,b),(b,d),(d,p),(p,a),(a,e),(e,p)]:=rfl;refine ⟨hw,hn,fun x e1 e2=>?_,fun x hx=>?_,fun x hx=>?_,fun x he hx=>?_,hp,?_⟩
 · rw [ho',hE]
   obtain ⟨x,y⟩:=x;simp only at e1 e2;simp only[jS,List.mem_cons,List.not_mem_nil,or_false,Prod.mk.injEq]
   grind
 · rw [ho']
   rcases hx with rfl | rfl <;> simp [jS]
 · obtain ⟨x,y⟩:=x
   simp only[Prod.mk.injEq] at hx ⊢;exact hx.elim (fun h=>.inr ⟨h.2,h.1⟩) fun h=>.inl ⟨h.2,h.1⟩
 · rw [hE] at he ⊢
   obtain ⟨x,y⟩:=x;simp only[List.mem_cons,List.not_mem_nil,or_false,Prod.mk.injEq] at he hx ⊢
   grind
 · rw [hE]
   simp [h1,h2,h3,h5,h6,p1,p2,p3,p4,hde,Ne.symm h1,Ne.symm h2,Ne.symm h3,Ne.symm h5,Ne.symm h6,Ne.symm p1,Ne.symm p2,Ne.symm p3,Ne.symm p4,Ne.symm hde]
end Go.Lith
namespace Go.Lith
open Go.RowKit
def sF (t : T3) : List (E3 × P3):=[((t.a,t.b),t.c),((t.b,t.c),t.a),((t.c,t.a),t.b)]
theorem gS {ts : List T3} {x : E3 × P3} : x ∈ dS ts ↔ ∃ t ∈ ts,x ∈ sF t:=List.mem_flatMap
theorem sG {ts us : List T3} (h : ts.Perm us) {x : E3 × P3} : x ∈ dS ts ↔ x ∈ dS us:=by
 rw [gS,gS];exact exists_congr fun t=>and_congr h.mem_iff Iff.rfl
theorem Ak {ts us : List T3} {x : E3 × P3} : x ∈ dS (ts ++ us) ↔ x ∈ dS ts ∨ x ∈ dS us:=by
 unfold dS;rw [List.flatMap_append,List.mem_append]
def pK (ts : List T3) : Prop:=∀ a b x,((a,b),x) ∈ dS ts → ((b,a),x) ∉ dS ts
theorem qX {ts : List T3} {p x y z : P3} (h : ∀ t ∈ ts,t.has p = false) (hm : ((x,y),z) ∈ dS ts) : x ≠ p ∧ y ≠ p ∧ z ≠ p:=by
 obtain ⟨t,ht,hx⟩:=gS.1 hm;obtain ⟨h1,h2,h3⟩:=Aj (h t ht);simp only[sF,List.mem_cons,List.not_mem_nil,or_false,Prod.mk.injEq] at hx;rcases hx with ⟨⟨rfl,rfl⟩,rfl⟩ | ⟨⟨rfl,rfl⟩,rfl⟩ | ⟨⟨rfl,rfl⟩,rfl⟩
 · exact ⟨Ne.symm h1,Ne.symm h2,Ne.symm h3⟩
 · exact ⟨Ne.symm h2,Ne.symm h3,Ne.symm h1⟩
 · exact ⟨Ne.symm h3,Ne.symm h1,Ne.symm h2⟩
theorem Qv {p : P3} {old new R fine fine' : List T3} (hw : fine.Perm (old ++ R)) (hn : fine'.Perm (new ++ R)) (hf : ∀ t ∈ fine,t.has p = false) (h : pK fine) (hnew : pK new) (hp : ∀ x y z,((x,y),z) ∈ dS new → x = p ∨ y = p ∨ z = p) : pK fine':=fun a b x h1 h2=>by
 have hR : ∀ t ∈ R,t.has p = false:=fun t ht=>hf t (hw.mem_iff.2 (List.mem_append_right _ ht));rw [sG hn,Ak] at h1 h2;rcases h1 with h1 | h1
 · rcases h2 with h2 | h2
   · exact hnew a b x h1 h2
   · obtain ⟨k1,k2,k3⟩:=qX hR h2
     rcases hp _ _ _ h1 with k | k | k
     · exact k2 k
     · exact k1 k
     · exact k3 k
 · rcases h2 with h2 | h2
   · obtain ⟨k1,k2,k3⟩:=qX hR h1
     rcases hp _ _ _ h2 with k | k | k
     · exact k2 k
     · exact k1 k
     · exact k3 k
   · exact h a b x ((sG hw).2 (Ak.2 (.inr h1))) ((sG hw).2 (Ak.2 (.inr h2)))
/-! ### Images -/
theorem Kj {p v x : P3} : ∀ ms : List Mv,dP (ms ++ [(p,v)]) x = if x ∈ ms.map (·.1) then dP ms x else if p = x then v else x
 | []=>rfl
 | m :: ms=>by
  rw [List.cons_append,dP,dP,Kj ms];by_cases h : m.1 = x
  · rw [if_pos h,if_pos h,if_pos (by simp [h])]
  · rw [if_neg h,if_neg h]
    by_cases hm : x ∈ ms.map (·.1)
    · rw [if_pos hm,if_pos (by rw [List.map_cons];exact List.mem_cons_of_mem _ hm)]
    · have hm' : x ∉ (m :: ms).map (·.1):=by rw [List.map_cons,List.mem_cons];exact fun k=>k.elim (fun e=>h e.symm) hm
      rw [if_neg hm,if_neg hm']
theorem Qw {x : P3} : ∀ {ms : List Mv},x ∉ ms.map (·.1) → dP ms x = x
 | [],_=>rfl
 | m :: ms,h=>by
  rw [List.map_cons,List.mem_cons,not_or] at h;rw [dP,if_neg (fun e=>h.1 e.symm)];exact Qw h.2
theorem ace {p v x : P3} {ms : List Mv} (h : x ≠ p) : dP (ms ++ [(p,v)]) x = dP ms x:=by
 rw [Kj];split
 · rfl
 · rename_i k
   rw [if_neg (fun e=>h e.symm),Qw k]
theorem acf {p v : P3} {ms : List Mv} (h : p ∉ ms.map (·.1)) : dP (ms ++ [(p,v)]) p = v:=by rw [Kj,if_neg h,if_pos rfl]
section
variable {l fine fine' R : List T3} {ms : List Mv} {B B' : Int} {p : P3}
end
end Go.Lith
namespace Go.Lith
open Go.RowKit
theorem af7 {t : T3} {x : E3 × P3} : x ∈ sF (eD t) ↔ x ∈ sF t:=by
 unfold eD;split
 · simp only[sF,List.mem_cons,List.not_mem_nil,or_false]
   exact ⟨fun h=>h.elim (fun h=>.inr (.inr h)) fun h=>h.elim .inl fun h=>.inr (.inl h),fun h=>h.elim (fun h=>.inr (.inl h)) fun h=>h.elim (fun h=>.inr (.inr h)) .inl⟩
 · split
   · simp only[sF,List.mem_cons,List.not_mem_nil,or_false]
     exact ⟨fun h=>h.elim (fun h=>.inr (.inl h)) fun h=>h.elim (fun h=>.inr (.inr h)) .inl,fun h=>h.elim (fun h=>.inr (.inr h)) fun h=>h.elim .inl fun h=>.inr (.inl h)⟩
   · exact Iff.rfl
def Gj (ts : List T3) : Prop:=∀ t ∈ ts,∃ a b c d,b ≠ d ∧ (t = ⟨a,b,c⟩ ∧ ⟨a,c,d⟩ ∈ ts ∨ t = ⟨a,c,d⟩ ∧ ⟨a,b,c⟩ ∈ ts)
theorem Qx {ts : List T3} (hm : Gj ts) (hn : (aP ts).Nodup) : pK ts:=fun x y z h1 h2=>by
 obtain ⟨t,ht,hx⟩:=gS.1 h1
 -- what is turned of t is there as well
 have rev : ∀ p q r,((p,q),r) ∈ sF t → ((q,p),r) ∈ dS ts:=fun p q r hq=>by
  have h3:=fM h2;have h4:=fM h3;simp only[sF,List.mem_cons,List.not_mem_nil,or_false,Prod.mk.injEq] at hx hq;rcases hx with ⟨⟨rfl,rfl⟩,rfl⟩ | ⟨⟨rfl,rfl⟩,rfl⟩ | ⟨⟨rfl,rfl⟩,rfl⟩ <;> rcases hq with ⟨⟨rfl,rfl⟩,rfl⟩ | ⟨⟨rfl,rfl⟩,rfl⟩ | ⟨⟨rfl,rfl⟩,rfl⟩ <;> first | exact h2 | exact h3 | exact h4
 obtain ⟨a,b,c,d,hbd,⟨rfl,hmt⟩ | ⟨rfl,hmt⟩⟩:=hm t ht
 · have k1:=rev c a b (by simp [sF])
   have k2 : ((a,c),d) ∈ dS ts:=gS.2 ⟨_,hmt,by simp [sF]⟩;exact hbd (sB hn k1 k2)
 · have k1:=rev a c d (by simp [sF])
   have k2 : ((c,a),b) ∈ dS ts:=gS.2 ⟨_,hmt,by simp [sF]⟩;exact hbd (sB hn k2 k1)
end Go.Lith
namespace Go.Lith
open Go.RowKit
structure Q4 where
 a : Int
 b : Int
 c : Int
 d : Int
def q4C (q : Q4) : List Value:=[.int .i64 q.a,.int .i64 q.b,.int .i64 q.c,.int .i64 q.d]
class IQ (q : Q4) : Prop where
 a : nJ q.a
 b : nJ q.b
 c : nJ q.c
 d : nJ q.d
def aep (i : Nat) (q : Q4) : P3:=⟨100 + 50 * (i : Int) + q.b % 40,q.b.tdiv 40 % 200,q.c % 300 - 50⟩
def qY (i : Nat) (p : P3) : Prop:=100 + 50 * (i : Int) ≤ p.x ∧ p.x < 150 + 50 * (i : Int) ∧ 0 ≤ p.y ∧ p.y < 200 ∧ -50 ≤ p.z ∧ p.z < 250
theorem acg (i : Nat) (q : Q4) : qY i (aep i q):=by
 have h1:=lX (n:=q.b) (m:=40) (by decide);have h2:=lX (n:=q.b.tdiv 40) (m:=200) (by decide);have h3:=lX (n:=q.c) (m:=300) (by decide);refine ⟨?_,?_,?_,?_,?_,?_⟩ <;> (simp only[aep];omega)
theorem aaJ {z : Int} (h : nJ z) : IntKind.i64.wrap (z.tdiv 40) = z.tdiv 40 ∧ nJ (z.tdiv 40):=by
 obtain ⟨h1,h2⟩:=h;have hb : -9223372036854775808 ≤ z.tdiv 40 ∧ z.tdiv 40 < 9223372036854775808:=by
  rcases Int.le_total 0 z with hz | hz
  · rw [Int.tdiv_eq_ediv_of_nonneg hz];omega
  · have e : z.tdiv 40 = -((-z) / 40):=by
     rw [← Int.tdiv_eq_ediv_of_nonneg (show 0 ≤ -z by omega),Int.neg_tdiv,Int.neg_neg]
    rw [e];omega
 exact ⟨aN (by omega) (by omega),⟨by omega,by omega⟩⟩
def fB (e x a b : P3) : P3:=if x ≠ a ∧ x ≠ b then x else e
def qA (o : T3) (a b : P3) : P3:=fB (fB (fB (o.cor 0) (o.cor 0) a b) (o.cor 1) a b) (o.cor 2) a b
theorem aaK {e x a b : P3} (h : (decide (¬ (x.x = a.x ∧ x.y = a.y ∧ x.z = a.z)) && decide (¬ (x.x = b.x ∧ x.y = b.y ∧ x.z = b.z))) = true) : fB e x a b = x:=by
 simp only[iX,Bool.and_eq_true,decide_eq_true_eq] at h;exact if_pos h
theorem aaL {e x a b : P3} (h : (decide (¬ (x.x = a.x ∧ x.y = a.y ∧ x.z = a.z)) && decide (¬ (x.x = b.x ∧ x.y = b.y ∧ x.z = b.z))) = false) : fB e x a b = e:=by
 refine if_neg fun k=>?_;simp only[iX] at h;rw [decide_eq_true k.1,decide_eq_true k.2] at h;cases h
inductive aeq (rim : List E3) (i : Nat) (us : List T3) (ms : List Mv) : List T3 → List Mv → Prop
 | tri (k : Nat) (t : T3) (c : Nat) (p : P3) (ht : us[k]? = some t) (hc : c < 3) (hp : qY i p) :
  aeq rim i us ms (us.set k ⟨t.cor c,t.cor ((c + 1) % 3),p⟩ ++ [⟨t.cor ((c + 1) % 3),t.cor ((c + 2) % 3),p⟩,⟨t.cor ((c + 2) % 3),t.cor c,p⟩]) (ms ++ [(p,dP ms (t.cor c))])
 | edge (k j : Nat) (t o : T3) (x : P3) (c : Nat) (p : P3) (ht : us[k]? = some t) (hc : c < 3) (ho : us[j]? = some o) (hx : o.fnd (t.cor ((c + 1) % 3)) (t.cor c) = some x)
  (hb : ¬ (uB rim (t.cor c) = true ∧ uB rim (t.cor ((c + 1) % 3)) = true)) (hp : qY i p) :
  aeq rim i us ms (((us.set k ⟨t.cor c,p,t.cor ((c + 2) % 3)⟩).set j ⟨t.cor ((c + 1) % 3),p,qA o (t.cor c) (t.cor ((c + 1) % 3))⟩) ++ [⟨p,t.cor ((c + 1) % 3),t.cor ((c + 2) % 3)⟩,⟨p,t.cor c,qA o (t.cor c) (t.cor ((c + 1) % 3))⟩]) (ms ++ [(p,dP ms (t.cor c))])
inductive qZ (rim : List E3) (l : List T3) : Nat → List T3 → List Mv → Prop
 | nil : qZ rim l 0 l []
 | step {i : Nat} {us us' : List T3} {ms ms' : List Mv} (h : qZ rim l i us ms) (s : aeq rim i us ms us' ms') : qZ rim l (i + 1) us' ms'
theorem qZ.len {rim : List E3} {l us : List T3} {i : Nat} {ms : List Mv} (h : qZ rim l i us ms) : us.length = l.length + 2 * i ∧ ms.length = i:=by
 induction h with
 | nil=>exact ⟨rfl,rfl⟩
 | step h s ih=>cases s <;> (simp only[List.length_append,List.length_set,List.length_cons,List.length_nil];omega)
def vH (l : List T3) (i : Nat) (x : P3) : Prop:=x ∈ aY l ∨ ∃ j,j < i ∧ qY j x
theorem eZ {ts : List T3} {x : P3} : x ∈ aY ts ↔ ∃ t ∈ ts,x = t.cor 0 ∨ x = t.cor 1 ∨ x = t.cor 2:=by
 unfold aY;rw [List.mem_flatMap];exact exists_congr fun t=>and_congr Iff.rfl (by simp [T3.cor])
theorem iH {ts : List T3} {k c : Nat} {t : T3} (h : ts[k]? = some t) (hc : c < 3) : t.cor c ∈ aY ts:=by
 refine eZ.2 ⟨t,List.mem_of_getElem? h,?_⟩;obtain rfl | rfl | rfl : c = 0 ∨ c = 1 ∨ c = 2:=by omega
 · exact .inl rfl
 · exact .inr (.inl rfl)
 · exact .inr (.inr rfl)
theorem Sv (o : T3) (a b : P3) : ∃ c,c < 3 ∧ qA o a b = o.cor c:=by
 have h0 : ∃ c,c < 3 ∧ fB (o.cor 0) (o.cor 0) a b = o.cor c:=⟨0,by decide,by unfold fB;split <;> rfl⟩
 obtain ⟨c,hc,e⟩:=h0;have h1 : ∃ c,c < 3 ∧ fB (fB (o.cor 0) (o.cor 0) a b) (o.cor 1) a b = o.cor c:=by
  rw [e];unfold fB;split
  · exact ⟨1,by decide,rfl⟩
  · exact ⟨c,hc,rfl⟩
 obtain ⟨c,hc,e⟩:=h1;unfold qA;rw [e];unfold fB;split
 · exact ⟨2,by decide,rfl⟩
 · exact ⟨c,hc,rfl⟩
theorem rA {ts : List T3} {k : Nat} {u : T3} {x : P3} (h : x ∈ aY (ts.set k u)) : x ∈ aY ts ∨ x = u.a ∨ x = u.b ∨ x = u.c:=by
 obtain ⟨t,ht,hx⟩:=eZ.1 h;rcases List.mem_or_eq_of_mem_set ht with h | rfl
 · exact .inl (eZ.2 ⟨t,h,hx⟩)
 · exact .inr hx
theorem nF {ts us : List T3} {x : P3} : x ∈ aY (ts ++ us) ↔ x ∈ aY ts ∨ x ∈ aY us:=by unfold aY;rw [List.flatMap_append,List.mem_append]
theorem qZ.pts {rim : List E3} {l us : List T3} {i : Nat} {ms : List Mv} (h : qZ rim l i us ms) : (∀ x ∈ aY us,vH l i x) ∧ ∀ m ∈ ms,vH l i m.1 ∧ vH l i m.2:=by
 induction h with
 | nil=>exact ⟨fun x h=>.inl h,fun m h=>by cases h⟩
 | @step i us us' ms ms' h s ih =>
  obtain ⟨h1,h2⟩:=ih;have up : ∀ x,vH l i x → vH l (i + 1) x:=fun x h=>h.elim .inl fun ⟨j,hj,hx⟩=>.inr ⟨j,by omega,hx⟩;have img : ∀ (ms : List Mv) (x : P3),(∀ m ∈ ms,vH l i m.2) → vH l i x → vH l i (dP ms x):=by
   intro ms
   induction ms with
   | nil=>intro x _ h;exact h
   | cons m ms ih =>
    intro x hm hx;unfold dP;split
    · exact hm m (List.mem_cons_self ..)
    · exact ih x (fun m h=>hm m (List.mem_cons_of_mem _ h)) hx
  have mv : ∀ p a,qY i p → vH l i a → ∀ m ∈ ms ++ [(p,dP ms a)],vH l (i + 1) m.1 ∧ vH l (i + 1) m.2:=fun p a hp ha m hm=>by
   rcases List.mem_append.1 hm with hm | hm
   · exact ⟨up _ (h2 m hm).1,up _ (h2 m hm).2⟩
   · obtain rfl:=List.mem_singleton.1 hm
     exact ⟨.inr ⟨i,by omega,hp⟩,up _ (img ms a (fun m hm=>(h2 m hm).2) ha)⟩
  cases s with
  | tri k t c p ht hc hp =>
   have ha:=h1 _ (iH ht hc);have hb:=h1 _ (iH ht (show (c + 1) % 3 < 3 by omega));have hd:=h1 _ (iH ht (show (c + 2) % 3 < 3 by omega));refine ⟨fun x hx=>?_,mv p _ hp ha⟩;have hpp : vH l (i + 1) p:=.inr ⟨i,by omega,hp⟩;rcases nF.1 hx with hx | hx
   · rcases rA hx with hx | rfl | rfl | rfl
     · exact up _ (h1 x hx)
     · exact up _ ha
     · exact up _ hb
     · exact hpp
   · simp only[aY,List.flatMap_cons,List.flatMap_nil,List.append_nil,List.mem_append,List.mem_cons,List.not_mem_nil,or_false] at hx
     rcases hx with (rfl | rfl | rfl) | rfl | rfl | rfl
     · exact up _ hb
     · exact up _ hd
     · exact hpp
     · exact up _ hd
     · exact up _ ha
     · exact hpp
  | edge k j t o x0 c p ht hc ho hx0 hb0 hp =>
   have ha:=h1 _ (iH ht hc);have hb:=h1 _ (iH ht (show (c + 1) % 3 < 3 by omega));have hd:=h1 _ (iH ht (show (c + 2) % 3 < 3 by omega));obtain ⟨c2,hc2,e2⟩:=Sv o (t.cor c) (t.cor ((c + 1) % 3));have he:=h1 _ (iH ho hc2);rw [e2];refine ⟨fun x hx=>?_,mv p _ hp ha⟩;have hpp : vH l (i + 1) p:=.inr ⟨i,by omega,hp⟩;rcases nF.1 hx with hx | hx
   · rcases rA hx with hx | rfl | rfl | rfl
     · rcases rA hx with hx | rfl | rfl | rfl
       · exact up _ (h1 x hx)
       · exact up _ ha
       · exact hpp
       · exact up _ hd
     · exact up _ hb
     · exact hpp
     · exact up _ he
   · simp only[aY,List.flatMap_cons,List.flatMap_nil,List.append_nil,List.mem_append,List.mem_cons,List.not_mem_nil,or_false] at hx
     rcases hx with (rfl | rfl | rfl) | rfl | rfl | rfl
     · exact hpp
     · exact up _ hb
     · exact up _ hd
     · exact hpp
     · exact up _ ha
     · exact up _ he
def Fs (x : P3) : Prop:=-2000000 ≤ x.x ∧ x.x ≤ 2000000 ∧ -1000000 ≤ x.y ∧ x.y ≤ 1000000 ∧ -1000000 ≤ x.z ∧ x.z ≤ 1000000
theorem Fs.i3 {x : P3} (h : Fs x) : I3 x:=by
 obtain ⟨h1,h2,h3,h4,h5,h6⟩:=h;exact ⟨⟨by omega,by omega⟩,⟨by omega,by omega⟩,⟨by omega,by omega⟩⟩
theorem vH.mid {l : List T3} {i : Nat} {x : P3} (hl : ∀ x ∈ aY l,Fs x) (hi : i ≤ 100) (h : vH l i x) : Fs x:=by
 rcases h with h | ⟨j,hj,h1,h2,h3,h4,h5,h6⟩
 · exact hl x h
 · exact ⟨by omega,by omega,by omega,by omega,by omega,by omega⟩
theorem aaM {ts : List T3} (h : ∀ x ∈ aY ts,I3 x) : ∀ t ∈ ts,IT t:=fun t ht =>
 ⟨h _ (eZ.2 ⟨t,ht,.inl rfl⟩),h _ (eZ.2 ⟨t,ht,.inr (.inl rfl)⟩),h _ (eZ.2 ⟨t,ht,.inr (.inr rfl)⟩)⟩
theorem Qy {ts : List T3} (h : ∀ t ∈ ts,SmT 200 t) : ∀ x ∈ aY ts,Fs x:=fun x hx=>by
 obtain ⟨t,ht,hx⟩:=eZ.1 hx;have key : ∀ y,Sm 200 y → Fs y:=fun y ⟨⟨h1,h2⟩,⟨h3,h4⟩,h5,h6⟩=>⟨by omega,by omega,by omega,by omega,by omega,by omega⟩
 rcases hx with rfl | rfl | rfl
 · exact key _ (h t ht).1
 · exact key _ (h t ht).2.1
 · exact key _ (h t ht).2.2
end Go.Lith
namespace Go.Proofs.YtfohfflkhpfjeaaGreatDoor
open Go.Proofs.Tryz
open Go.RowKit Go.Lith
set_option maxRecDepth 100000
attribute [local irreducible] wpList wpQuiet dC cS cR Code.wp
theorem Sw {n k : Int} [Iw n] (h0 : 0 < k) (h1 : k < 4611686018427387904) : kV prog 29 [.int .i64 n,.int .i64 k] (.int .i64 (n % k)):=by
 intro w;refine ⟨ae5,?_⟩;have m:=bR.refl w;have hb:=Yo (n:=n) h0
 go_enter func29,ntmps29
 refine aD fun K1 k1=>wp_region_lit (aA (aF) (aG (k1 _ _ ?_)));refine aD fun K2 k2=>wp_region_lit (aA (aB) (aA (aB) ?_));simp only[zz];refine aA (dK rfl rfl (by omega) rfl) (aA (aB) ?_);simp only[zz];refine aA (aQ rfl rfl (aN (by omega) (by omega))) (aA (aB) ?_);simp only[zz];refine aA (dK rfl rfl (by omega) (Rs h0)) (aA (aF) (aG (k2 _ _ ?_)));refine wp_ret ?_;simp only[zz];try simp only[Exit.inBlock,Exit.then,if_true]
 refine bS rfl rfl ?_;try simp only[zD,zE]
 exact ⟨_,rfl,m.ext,rfl⟩
theorem sH {n k : Int} [Iw n] (h0 : 0 < k) (h1 : k < 4611686018427387904) : kV prog 21 [.int .i64 n,.int .i64 k] (.int .i64 (n % k)):=by
 intro w;refine ⟨ae2,?_⟩;have m:=bR.refl w;have hb:=Yo (n:=n) h0
 go_enter func21,ntmps21
 refine aD fun K1 k1=>wp_region_lit (aA (aF) (aG (k1 _ _ ?_)));refine aD fun K2 k2=>wp_region_lit (aA (aB) (aA (aB) ?_));simp only[zz];refine aA (dK rfl rfl (by omega) rfl) (aA (aB) ?_);simp only[zz];refine aA (aQ rfl rfl (aN (by omega) (by omega))) (aA (aB) ?_);simp only[zz];refine aA (dK rfl rfl (by omega) (Rs h0)) (aA (aF) (aG (k2 _ _ ?_)));refine wp_ret ?_;simp only[zz];try simp only[Exit.inBlock,Exit.then,if_true]
 refine bS rfl rfl ?_;try simp only[zD,zE]
 exact ⟨_,rfl,m.ext,rfl⟩
theorem Kk {x y N cap : Nat} {A : Option Addr} {zs : List Int} (w : World) (hZ : nK w A N zs) (hx : x ≤ 6) (hy : y ≤ 6) : eI prog 84 [.int .i64 (x : Int),.int .i64 (y : Int),.int .i64 10,.slice A N cap] w (fun v _=>v = pt (kA 10 zs x y)):=by
 refine ⟨afG,?_⟩;have m:=bR.refl w
 go_enter func84,ntmps84
 refine aD fun K1 k1=>wp_region_lit (bC m bP rfl ?_);clear m;intro g1 u m;refine aG (k1 _ _ ?_);refine aD fun K2 k2=>wp_region_lit (aA (aF) (aG (k2 _ _ ?_)));refine aD fun K3 k3=>aD fun K4 k4=>wp_region_lit (aA (aB) (aA (bF rfl xL rfl) ?_));simp only[zz];refine aA (sU rfl rfl) (aG (k4 _ _ ?_));simp only[zz];refine cO rfl (fun hc1=>?_) (fun hc1=>?_)
 ·
  have hi : (y * 7 + x) % N < N:=Nat.mod_lt _ (by omega);obtain ⟨z,hz,hzI,a,rfl,hcell⟩:=hZ.get hi;have hz6:=lX (n:=z) (m:=64) (by decide);refine wp_region_lit (aA (aB) (aA (aB) ?_));simp only[zz];refine aA (eT rfl rfl (aN (by omega) (by omega))) (aA (aB) ?_);simp only[zz];refine aA (aQ rfl rfl (aN (by omega) (by omega))) (aA (aB) (aA (bF rfl xL rfl) ?_));simp only[zz];refine aA (dK rfl rfl (by omega) (Gz (k:=y * 7 + x))) (aA (aM xL bA rfl rfl (Int.natCast_nonneg _) (Int.ofNat_lt.2 hi) (lT (Int.toNat_natCast _))) ?_);simp only[zz];refine aJ rfl (lies1 (m.ext.cell hcell) bQ) ?_;simp only[zz];refine iV m rfl rfl (Sw (n:=z) (k:=64) (by decide) (by decide)) ?_;clear m;intro u m;refine aA (aF) (aG (k3 _ _ ?_));refine aD fun K5 k5=>wp_region_lit (aA (aB) (aA (aB) ?_));simp only[zz];refine aA (eT rfl rfl (aN (by omega) (by omega))) (aA (aB) (aA (aB) ?_));simp only[zz];refine aA (eT rfl rfl (aN (by omega) (by omega))) (aA (aB) ?_);simp only[zz];refine aA (aQ rfl rfl (aN (by omega) (by omega))) (aA (cB rfl rfl rfl) ?_);simp only[zz];refine aS m 0 rfl rfl rfl aC (dX rfl) rfl ?_;clear m;intro u m;simp only[zy,zx,bG,zF,zG,Nat.reduceAdd] at m;refine aG (k5 _ _ ?_);refine wp_ret ?_;try simp only[Exit.inBlock,Exit.then,if_true]
  refine bS rfl ⟨_,rfl,((m.b 0 rfl).full aI aC)⟩ ?_;try simp only[zD,zE]
  exact ⟨_,rfl,m.ext,by simp only[pt,kA,Yq hZ.len hz]⟩
 ·
  refine wp_skip (k3 _ _ ?_);refine aD fun K6 k6=>wp_region_lit (aA (aB) (aA (aB) ?_));simp only[zz];refine aA (eT rfl rfl (aN (by omega) (by omega))) (aA (aB) (aA (aB) ?_));simp only[zz];refine aA (eT rfl rfl (aN (by omega) (by omega))) (aA (aB) (aA (aQ (m:=100) (n:=0) (r:=100) rfl rfl (by decide)) (aA (cB rfl rfl rfl) ?_)));simp only[zz];refine aS m 0 rfl rfl rfl aC (dX rfl) rfl ?_;clear m;intro u m;simp only[zy,zx,bG,zF,zG,Nat.reduceAdd] at m;refine aG (k6 _ _ ?_);refine wp_ret ?_;try simp only[Exit.inBlock,Exit.then,if_true]
  refine bS rfl ⟨_,rfl,((m.b 0 rfl).full aI aC)⟩ ?_;try simp only[zD,zE]
  exact ⟨_,rfl,m.ext,by simp [pt,kA,abw hZ.len hc1]⟩
theorem wR {a b c d : P3} (w : World) : eI prog 85 [pt a,pt b,pt c,pt d] w (TS 53 (lY a b c d) w):=by
 refine ⟨afH,?_⟩;have m:=bR.refl w
 go_enter func85,ntmps85
 refine aD fun K1 k1=>wp_region_lit (eY m rfl ?_);clear m;intro g1 u m;simp only[zz];refine eY m rfl ?_;clear m;intro g2 u m;simp only[zz];refine eY m rfl ?_;clear m;intro g3 u m;simp only[zz];refine eY m rfl ?_;clear m;intro g4 u m;refine aA (aF) (aG (k1 _ _ ?_));refine aD fun K2 k2=>wp_region_lit ?_;simp only[zz];refine aJ rfl ((m.b 3 rfl).full aI aC) ?_;simp only[zz];refine aJ rfl ((m.b 2 rfl).full aI aC) ?_;simp only[zz];refine aJ rfl ((m.b 1 rfl).full aI aC) ?_;simp only[zz];refine aA (bN rfl rfl rfl) ?_;simp only[zz];refine aJ rfl ((m.b 3 rfl).full aI aC) ?_;simp only[zz];refine aJ rfl ((m.b 1 rfl).full aI aC) ?_;simp only[zz];refine aJ rfl ((m.b 0 rfl).full aI aC) ?_;simp only[zz];refine aA (bN rfl rfl rfl) ?_;simp only[zz];refine uX rfl rfl ?_;intro u g5 e hg hB;replace m:=m.newB e hg hB;clear e hg hB;refine aA (aF) (aG (k2 _ _ ?_));refine wp_ret ?_;simp only[zz];try simp only[Exit.inBlock,Exit.then,if_true]
 refine bS rfl rfl ?_;try simp only[zD,zE]
 exact ⟨_,rfl,m.ext,⟨_,_,_,rfl,rfl,m.bo 0 rfl rfl (dX rfl)⟩⟩
theorem ach {n0 : Int} [Iw n0] {N cap : Nat} {A : Option Addr} {zs : List Int} (w : World) (hZ : nK w A N zs) : eI prog 43 [.int .i64 n0,.int .i64 10,.slice A N cap] w (TS 53 (wC 10 zs (1 + n0 % 6).toNat) w):=by
 refine ⟨afj,?_⟩;have m:=bR.refl w;have hb:=lX (n:=n0) (m:=6) (by decide);obtain ⟨q,hq⟩ : ∃ q : Nat,q = (1 + n0 % 6).toNat:=⟨_,rfl⟩
 rw [← hq];have hq2 : 1 + n0 % 6 = (q : Int):=by omega
 go_enter func43,ntmps43
 refine aD fun K1 k1=>wp_region_lit (aA (aF) (aG (k1 _ _ ?_)));refine aD fun K2 k2=>wp_region_lit (aA (aB) ?_);simp only[zz];refine iV m rfl rfl (Sw (n:=n0) (k:=6) (by decide) (by decide)) ?_;clear m;intro u m;simp only[zz];refine aA (aQ rfl rfl (aN (by omega) (by omega))) (aA (aF) (aG ?_));simp only[zz];rw [hq2];refine k2 _ _ ?_;refine aD fun K3 k3=>wp_region_lit (aA (aF) ?_);replace m:=m.nilO 53 9;refine aG (k3 _ _ ?_);refine aD fun K4 k4=>aD fun K5 k5=>wp_region_lit (aA (aF) (aG (k5 _ _ ?_)));refine wp_block ?_;simp only[zz];try simp only[Nat.zero_add,Nat.reduceAdd,Nat.reduceMul,Int.reduceToNat]
 refine bM [7,8] [9,10,11,12,13,17,18,19,20,21,22,23,24,25,26,27,28,29,30,31,32,33,34,35,36,37,38,39,40,41,42,43,44,45,46,47,48,49,50,51,52,53,54,55,56,57] (fun n vs wl=>∃ (A1 : Option Addr) (cap1 y : Nat),vs = [.slice A1 (eJ 10 zs q (y) (0)).length cap1,.int .i64 (y:Int)] ∧ bR w wl [oI 53 9 A1 (eJ 10 zs q (y) (0)).length cap1 ((eJ 10 zs q (y) (0)).flatMap aX)] ∧ (y ≤ q) ∧ (n = q - y)) ?_ ?_
 ·
  apply Exists.intro;simp only[zQ,zR,zD,zE];exact ⟨none,0,0,rfl,m,Nat.zero_le _,rfl⟩
 ·
  intro n vs wr hI u;clear m;obtain ⟨A1,cap1,y,rfl,m,hy,hn⟩:=hI;simp only[zu,zF,zG];refine aD fun K6 k6=>aD fun K7 k7=>wp_region_lit (aA (aB) (aA (aB) (aA (cJ rfl rfl) (aG (k7 _ _ ?_)))));simp only[zz];refine cO rfl (fun hc1=>?_) (fun hc1=>?_)
  ·
   refine wp_skip (k6 _ _ ?_);refine aD fun K8 k8=>wp_block (aD fun K9 k9=>wp_region_lit (aA (aF) (aG (k9 _ _ ?_))));refine wp_block ?_;simp only[zz];try simp only[Nat.zero_add,Nat.reduceAdd,Nat.reduceMul,Int.reduceToNat]
   refine bM [7,9] [10,11,12,13,22,23,24,25,26,27,28,29,30,31,32,33,34,35,36,37,38,39,40,41,42,43,44,45,46,47,48,49,50,51,52,53,54,55,56,57] (fun n vs wl=>∃ (A1 : Option Addr) (cap1 x : Nat),vs = [.slice A1 (eJ 10 zs q (y) (x)).length cap1,.int .i64 (x:Int)] ∧ bR w wl [oI 53 9 A1 (eJ 10 zs q (y) (x)).length cap1 ((eJ 10 zs q (y) (x)).flatMap aX)] ∧ (x ≤ q) ∧ (n = q - x)) ?_ ?_
   ·
    apply Exists.intro;simp only[zQ,zR,zD,zE];exact ⟨_,_,0,rfl,m,Nat.zero_le _,rfl⟩
   ·
    intro n vs wr hI u;clear m;obtain ⟨A1,cap1,x,rfl,m,hx,hn2⟩:=hI;simp only[zu,zF,zG];refine aD fun K10 k10=>aD fun K11 k11=>wp_region_lit (aA (aB) (aA (aB) (aA (cJ rfl rfl) (aG (k11 _ _ ?_)))));simp only[zz];refine cO rfl (fun hc2=>?_) (fun hc2=>?_)
    ·
     refine wp_skip (k10 _ _ ?_);refine aD fun K12 k12=>wp_block (aD fun K13 k13=>wp_region_lit (aA (aB) (aA (aB) (aA (aB) (aA (aB) ?_)))));simp only[zz];refine gF m rfl rfl (Kk (x:=x) (y:=y) _ (hZ.ext m.ext) (by omega) (by omega)) ?_;clear m;rintro v u m rfl;simp only[zz];refine bC m bP rfl ?_;clear m;intro g1 u m;simp only[zz];refine aS m 0 rfl rfl rfl aC (dX rfl) rfl ?_;clear m;intro u m;simp only[zy,zx,bG,zF,zG,Nat.reduceAdd] at m;refine aG (k13 _ _ ?_);refine aD fun K14 k14=>wp_region_lit (aA (aB) ?_);simp only[zz];refine aA (aQ rfl rfl (aN (by omega) (by omega))) (aA (aB) (aA (aB) (aA (aB) ?_)));simp only[zz];refine gF m rfl rfl (Kk (x:=x + 1) (y:=y) _ (hZ.ext m.ext) (by omega) (by omega)) ?_;clear m;rintro v u m rfl;simp only[zz];refine bC m bP rfl ?_;clear m;intro g2 u m;simp only[zz];refine aS m 0 rfl rfl rfl aC (dX rfl) rfl ?_;clear m;intro u m;simp only[zy,zx,bG,zF,zG,Nat.reduceAdd] at m;refine aG (k14 _ _ ?_);refine aD fun K15 k15=>wp_region_lit (aA (aB) ?_);simp only[zz];refine aA (aQ rfl rfl (aN (by omega) (by omega))) (aA (aB) ?_);simp only[zz];refine aA (aQ rfl rfl (aN (by omega) (by omega))) (aA (aB) (aA (aB) ?_));simp only[zz];refine gF m rfl rfl (Kk (x:=x + 1) (y:=y + 1) _ (hZ.ext m.ext) (by omega) (by omega)) ?_;clear m;rintro v u m rfl;simp only[zz];refine bC m bP rfl ?_;clear m;intro g3 u m;simp only[zz];refine aS m 0 rfl rfl rfl aC (dX rfl) rfl ?_;clear m;intro u m;simp only[zy,zx,bG,zF,zG,Nat.reduceAdd] at m;refine aG (k15 _ _ ?_);refine aD fun K16 k16=>wp_region_lit (aA (aB) (aA (aB) ?_));simp only[zz];refine aA (aQ rfl rfl (aN (by omega) (by omega))) (aA (aB) (aA (aB) ?_));simp only[zz];refine gF m rfl rfl (Kk (x:=x) (y:=y + 1) _ (hZ.ext m.ext) (by omega) (by omega)) ?_;clear m;rintro v u m rfl;simp only[zz];refine bC m bP rfl ?_;clear m;intro g4 u m;simp only[zz];refine aS m 0 rfl rfl rfl aC (dX rfl) rfl ?_;clear m;intro u m;simp only[zy,zx,bG,zF,zG,Nat.reduceAdd] at m;refine aG (k16 _ _ ?_);refine wp_region_lit (aA (aB) ?_);simp only[zz];refine aJ rfl ((m.b 3 rfl).full aI aC) ?_;simp only[zz];refine aJ rfl ((m.b 2 rfl).full aI aC) ?_;simp only[zz];refine aJ rfl ((m.b 1 rfl).full aI aC) ?_;simp only[zz];refine aJ rfl ((m.b 0 rfl).full aI aC) ?_;simp only[zz];refine bK rfl rfl (wR (a:=kA 10 zs x y) (b:=kA 10 zs (x + 1) y) (c:=kA 10 zs (x + 1) (y + 1)) (d:=kA 10 zs x (y + 1)) _) ?_;rintro v u e ⟨A2,cap2,_,rfl,rfl,hN⟩;replace m:=m.newO e hN;clear e hN;simp only[zz];refine dM m 5 rfl rfl bZ nM rfl (by decide) rfl rfl (m.o 0 rfl).own.1 (m.o 0 rfl).row (oQ _) (by have:=tL (s:=10) (zs:=zs) (n:=q) (y:=y) (x:=x) (by omega) (by omega) (by omega);show _ + 2 ≤ _;omega) (by have:=tL (s:=10) (zs:=zs) (n:=q) (y:=y) (x:=x) (by omega) (by omega) (by omega);show (_ + 2) * 72 ≤ _;omega) ?_;clear m;intro A1 cap1 u m;simp only[zF,zG] at m;rw [Yr,Ys] at m;rw [Ys];refine aA (aF) (aG (k12 _ _ ?_));refine wp_region_lit (aA (aB) ?_);simp only[zz];refine aA (aQ rfl rfl (aN (by omega) (by omega))) (aA (aF) (aG ?_));simp only[zz];simp only[Exit.inBlock,Exit.then];refine ⟨q - (x + 1),_,?_,rfl,?_,?_⟩
     · omega
     · simp only[zz,zv]
     ·
      simp only[zQ,zR,zD,zE];exact ⟨_,_,x + 1,rfl,(m.sel [false,false,false,false,false,true]),by omega,rfl⟩
    ·
     have hxq : x = q:=by omega
     rw [hxq,Ji] at m ⊢;refine wp_exit (k8 _ _ ?_);refine wp_region_lit (aA (aB) ?_);simp only[zz];refine aA (aQ rfl rfl (aN (by omega) (by omega))) (aA (aF) (aG ?_));simp only[zz];simp only[Exit.inBlock,Exit.then];refine ⟨q - (y + 1),_,?_,rfl,?_,?_⟩
     · omega
     · simp only[zz,zv]
     ·
      simp only[zQ,zR,zD,zE];exact ⟨_,_,y + 1,rfl,m,by omega,rfl⟩
  ·
   have hyq : y = q:=by omega
   rw [hyq,rQ] at m ⊢;refine wp_exit (k4 _ _ ?_);refine aD fun K17 k17=>wp_region_lit (aA (aB) (aA (aF) (aG (k17 _ _ ?_))));refine wp_ret ?_;simp only[zz];try simp only[Exit.inBlock,Exit.then,if_true]
   refine bS rfl rfl ?_;try simp only[zD,zE]
   exact ⟨_,rfl,m.ext,⟨_,_,_,rfl,rfl,(m.o 0 rfl)⟩⟩
end Go.Proofs.YtfohfflkhpfjeaaGreatDoor
namespace Go.Proofs.YtfohfflkhpfjeaaGreatDoor
open Go.Proofs.Tryz
open Go.RowKit Go.Lith
set_option maxRecDepth 100000
attribute [local irreducible] wpList wpQuiet dC cS cR Code.wp
end Go.Proofs.YtfohfflkhpfjeaaGreatDoor
namespace Go.Proofs.YtfohfflkhpfjeaaGreatDoor
open Go.Proofs.Tryz
open Go.RowKit Go.Lith
set_option maxRecDepth 100000
attribute [local irreducible] wpList wpQuiet dC cS cR Code.wp
theorem aer {p : P3} (w : World) (hp : Sm 100 p) : eI prog 83 [pt p,.int .i64 8] w (TS 53 (tK p 8) w):=by
 refine ⟨afF,?_⟩;have m:=bR.refl w;have hp1:=hp.1;have hp2:=hp.2.1;have hp3:=hp.2.2
 go_enter func83,ntmps83
 refine aD fun K1 k1=>wp_region_lit (eY m rfl ?_);clear m;intro g1 u m;refine aA (aF) (aG (k1 _ _ ?_));refine aD fun K2 k2=>wp_region_lit ?_;simp only[zz];refine bC m Zl rfl ?_;clear m;intro g2 u m;refine aG (k2 _ _ ?_);refine aD fun K3 k3=>aD fun K4 k4=>wp_region_lit (aA (aF) (aG (k4 _ _ ?_)));refine wp_block (wp_loop_rounds 9 (cZ (aD fun K5 k5=>aD fun K6 k6=>wp_region_lit (aA (aB) (aA (bT (m:=0) (n:=8) rfl rfl (by decide)) ?_)))));simp only[zz];refine aG (k6 _ _ ?_);refine cK rfl (wp_skip (k5 _ _ ?_));refine aD fun K7 k7=>wp_block (wp_region_lit (aA (aB) (aA (aK (c:=0) cN rfl bA rfl rfl) ?_)));simp only[zz];refine aJ rfl ((m.b 1 rfl).lies1 bQ rfl) ?_;simp only[zz];refine aA (aB) (aA (dK (m:=0) (n:=2) (r:=0) rfl rfl (by decide) (by decide)) (aA (aB) (aA (eT (m:=0) (n:=8) (r:=0) rfl rfl (by decide)) ?_)));simp only[zz];refine aA (aQ rfl rfl (aN (by omega) (by omega))) (aA (aK (c:=0) cN rfl bA rfl rfl) ?_);simp only[zz];refine aJ rfl ((m.b 1 rfl).lies1 bQ rfl) ?_;simp only[zz];refine aA (aB) (aA (jE (m:=0) (n:=2) (r:=0) rfl rfl (by decide) (by decide)) (aA (dK (m:=0) (n:=2) (r:=0) rfl rfl (by decide) (by decide)) (aA (aB) ?_)));simp only[zz];refine aA (eT (m:=0) (n:=8) (r:=0) rfl rfl (by decide)) ?_;simp only[zz];refine aA (aQ rfl rfl (aN (by omega) (by omega))) (aA (aK (c:=0) cN rfl bA rfl rfl) ?_);simp only[zz];refine aJ rfl ((m.b 1 rfl).lies1 bQ rfl) ?_;simp only[zz];refine aA (aB) (aA (jE (m:=0) (n:=4) (r:=0) rfl rfl (by decide) (by decide)) (aA (aB) (aA (eT (m:=0) (n:=8) (r:=0) rfl rfl (by decide)) ?_)));simp only[zz];refine aA (aQ rfl rfl (aN (by omega) (by omega))) (aA (cB rfl rfl rfl) (aA (aH eR aC rfl rfl (by decide) (by decide) rfl) ?_));simp only[zz];refine aS m 0 rfl rfl rfl aC (dX rfl) rfl ?_;clear m;intro u m;simp only[zy,zx,bG,zF,zG,Nat.reduceAdd] at m;refine aG (k7 _ _ ?_);refine wp_region_lit (aA (aB) (aA (aQ (m:=0) (n:=1) (r:=1) rfl rfl (by decide)) (aA (aF) (aG (aT (aD fun K8 k8=>aD fun K9 k9=>wp_region_lit (aA (aB) ?_)))))));simp only[zz];refine aA (bT (m:=1) (n:=8) rfl rfl (by decide)) (aG (k9 _ _ ?_));refine cK rfl (wp_skip (k8 _ _ ?_));refine aD fun K10 k10=>wp_block (wp_region_lit (aA (aB) (aA (aK (c:=0) cN rfl bA rfl rfl) ?_)));simp only[zz];refine aJ rfl ((m.b 1 rfl).lies1 bQ rfl) ?_;simp only[zz];refine aA (aB) (aA (dK (m:=1) (n:=2) (r:=1) rfl rfl (by decide) (by decide)) (aA (aB) (aA (eT (m:=1) (n:=8) (r:=8) rfl rfl (by decide)) ?_)));simp only[zz];refine aA (aQ rfl rfl (aN (by omega) (by omega))) (aA (aK (c:=0) cN rfl bA rfl rfl) ?_);simp only[zz];refine aJ rfl ((m.b 1 rfl).lies1 bQ rfl) ?_;simp only[zz];refine aA (aB) (aA (jE (m:=1) (n:=2) (r:=0) rfl rfl (by decide) (by decide)) (aA (dK (m:=0) (n:=2) (r:=0) rfl rfl (by decide) (by decide)) (aA (aB) ?_)));simp only[zz];refine aA (eT (m:=0) (n:=8) (r:=0) rfl rfl (by decide)) ?_;simp only[zz];refine aA (aQ rfl rfl (aN (by omega) (by omega))) (aA (aK (c:=0) cN rfl bA rfl rfl) ?_);simp only[zz];refine aJ rfl ((m.b 1 rfl).lies1 bQ rfl) ?_;simp only[zz];refine aA (aB) (aA (jE (m:=1) (n:=4) (r:=0) rfl rfl (by decide) (by decide)) (aA (aB) (aA (eT (m:=0) (n:=8) (r:=0) rfl rfl (by decide)) ?_)));simp only[zz];refine aA (aQ rfl rfl (aN (by omega) (by omega))) (aA (cB rfl rfl rfl) (aA (aH eR aC rfl rfl (by decide) (by decide) rfl) ?_));simp only[zz];refine aS m 0 rfl rfl rfl aC (dX rfl) rfl ?_;clear m;intro u m;simp only[zy,zx,bG,zF,zG,Nat.reduceAdd] at m;refine aG (k10 _ _ ?_);refine wp_region_lit (aA (aB) (aA (aQ (m:=1) (n:=1) (r:=2) rfl rfl (by decide)) (aA (aF) (aG (aT (aD fun K11 k11=>aD fun K12 k12=>wp_region_lit (aA (aB) ?_)))))));simp only[zz];refine aA (bT (m:=2) (n:=8) rfl rfl (by decide)) (aG (k12 _ _ ?_));refine cK rfl (wp_skip (k11 _ _ ?_));refine aD fun K13 k13=>wp_block (wp_region_lit (aA (aB) (aA (aK (c:=0) cN rfl bA rfl rfl) ?_)));simp only[zz];refine aJ rfl ((m.b 1 rfl).lies1 bQ rfl) ?_;simp only[zz];refine aA (aB) (aA (dK (m:=2) (n:=2) (r:=0) rfl rfl (by decide) (by decide)) (aA (aB) (aA (eT (m:=0) (n:=8) (r:=0) rfl rfl (by decide)) ?_)));simp only[zz];refine aA (aQ rfl rfl (aN (by omega) (by omega))) (aA (aK (c:=0) cN rfl bA rfl rfl) ?_);simp only[zz];refine aJ rfl ((m.b 1 rfl).lies1 bQ rfl) ?_;simp only[zz];refine aA (aB) (aA (jE (m:=2) (n:=2) (r:=1) rfl rfl (by decide) (by decide)) (aA (dK (m:=1) (n:=2) (r:=1) rfl rfl (by decide) (by decide)) (aA (aB) ?_)));simp only[zz];refine aA (eT (m:=1) (n:=8) (r:=8) rfl rfl (by decide)) ?_;simp only[zz];refine aA (aQ rfl rfl (aN (by omega) (by omega))) (aA (aK (c:=0) cN rfl bA rfl rfl) ?_);simp only[zz];refine aJ rfl ((m.b 1 rfl).lies1 bQ rfl) ?_;simp only[zz];refine aA (aB) (aA (jE (m:=2) (n:=4) (r:=0) rfl rfl (by decide) (by decide)) (aA (aB) (aA (eT (m:=0) (n:=8) (r:=0) rfl rfl (by decide)) ?_)));simp only[zz];refine aA (aQ rfl rfl (aN (by omega) (by omega))) (aA (cB rfl rfl rfl) (aA (aH eR aC rfl rfl (by decide) (by decide) rfl) ?_));simp only[zz];refine aS m 0 rfl rfl rfl aC (dX rfl) rfl ?_;clear m;intro u m;simp only[zy,zx,bG,zF,zG,Nat.reduceAdd] at m;refine aG (k13 _ _ ?_);refine wp_region_lit (aA (aB) (aA (aQ (m:=2) (n:=1) (r:=3) rfl rfl (by decide)) (aA (aF) (aG (aT (aD fun K14 k14=>aD fun K15 k15=>wp_region_lit (aA (aB) ?_)))))));simp only[zz];refine aA (bT (m:=3) (n:=8) rfl rfl (by decide)) (aG (k15 _ _ ?_));refine cK rfl (wp_skip (k14 _ _ ?_));refine aD fun K16 k16=>wp_block (wp_region_lit (aA (aB) (aA (aK (c:=0) cN rfl bA rfl rfl) ?_)));simp only[zz];refine aJ rfl ((m.b 1 rfl).lies1 bQ rfl) ?_;simp only[zz];refine aA (aB) (aA (dK (m:=3) (n:=2) (r:=1) rfl rfl (by decide) (by decide)) (aA (aB) (aA (eT (m:=1) (n:=8) (r:=8) rfl rfl (by decide)) ?_)));simp only[zz];refine aA (aQ rfl rfl (aN (by omega) (by omega))) (aA (aK (c:=0) cN rfl bA rfl rfl) ?_);simp only[zz];refine aJ rfl ((m.b 1 rfl).lies1 bQ rfl) ?_;simp only[zz];refine aA (aB) (aA (jE (m:=3) (n:=2) (r:=1) rfl rfl (by decide) (by decide)) (aA (dK (m:=1) (n:=2) (r:=1) rfl rfl (by decide) (by decide)) (aA (aB) ?_)));simp only[zz];refine aA (eT (m:=1) (n:=8) (r:=8) rfl rfl (by decide)) ?_;simp only[zz];refine aA (aQ rfl rfl (aN (by omega) (by omega))) (aA (aK (c:=0) cN rfl bA rfl rfl) ?_);simp only[zz];refine aJ rfl ((m.b 1 rfl).lies1 bQ rfl) ?_;simp only[zz];refine aA (aB) (aA (jE (m:=3) (n:=4) (r:=0) rfl rfl (by decide) (by decide)) (aA (aB) (aA (eT (m:=0) (n:=8) (r:=0) rfl rfl (by decide)) ?_)));simp only[zz];refine aA (aQ rfl rfl (aN (by omega) (by omega))) (aA (cB rfl rfl rfl) (aA (aH eR aC rfl rfl (by decide) (by decide) rfl) ?_));simp only[zz];refine aS m 0 rfl rfl rfl aC (dX rfl) rfl ?_;clear m;intro u m;simp only[zy,zx,bG,zF,zG,Nat.reduceAdd] at m;refine aG (k16 _ _ ?_);refine wp_region_lit (aA (aB) (aA (aQ (m:=3) (n:=1) (r:=4) rfl rfl (by decide)) (aA (aF) (aG (aT (aD fun K17 k17=>aD fun K18 k18=>wp_region_lit (aA (aB) ?_)))))));simp only[zz];refine aA (bT (m:=4) (n:=8) rfl rfl (by decide)) (aG (k18 _ _ ?_));refine cK rfl (wp_skip (k17 _ _ ?_));refine aD fun K19 k19=>wp_block (wp_region_lit (aA (aB) (aA (aK (c:=0) cN rfl bA rfl rfl) ?_)));simp only[zz];refine aJ rfl ((m.b 1 rfl).lies1 bQ rfl) ?_;simp only[zz];refine aA (aB) (aA (dK (m:=4) (n:=2) (r:=0) rfl rfl (by decide) (by decide)) (aA (aB) (aA (eT (m:=0) (n:=8) (r:=0) rfl rfl (by decide)) ?_)));simp only[zz];refine aA (aQ rfl rfl (aN (by omega) (by omega))) (aA (aK (c:=0) cN rfl bA rfl rfl) ?_);simp only[zz];refine aJ rfl ((m.b 1 rfl).lies1 bQ rfl) ?_;simp only[zz];refine aA (aB) (aA (jE (m:=4) (n:=2) (r:=2) rfl rfl (by decide) (by decide)) (aA (dK (m:=2) (n:=2) (r:=0) rfl rfl (by decide) (by decide)) (aA (aB) ?_)));simp only[zz];refine aA (eT (m:=0) (n:=8) (r:=0) rfl rfl (by decide)) ?_;simp only[zz];refine aA (aQ rfl rfl (aN (by omega) (by omega))) (aA (aK (c:=0) cN rfl bA rfl rfl) ?_);simp only[zz];refine aJ rfl ((m.b 1 rfl).lies1 bQ rfl) ?_;simp only[zz];refine aA (aB) (aA (jE (m:=4) (n:=4) (r:=1) rfl rfl (by decide) (by decide)) (aA (aB) (aA (eT (m:=1) (n:=8) (r:=8) rfl rfl (by decide)) ?_)));simp only[zz];refine aA (aQ rfl rfl (aN (by omega) (by omega))) (aA (cB rfl rfl rfl) (aA (aH eR aC rfl rfl (by decide) (by decide) rfl) ?_));simp only[zz];refine aS m 0 rfl rfl rfl aC (dX rfl) rfl ?_;clear m;intro u m;simp only[zy,zx,bG,zF,zG,Nat.reduceAdd] at m;refine aG (k19 _ _ ?_);refine wp_region_lit (aA (aB) (aA (aQ (m:=4) (n:=1) (r:=5) rfl rfl (by decide)) (aA (aF) (aG (aT (aD fun K20 k20=>aD fun K21 k21=>wp_region_lit (aA (aB) ?_)))))));simp only[zz];refine aA (bT (m:=5) (n:=8) rfl rfl (by decide)) (aG (k21 _ _ ?_));refine cK rfl (wp_skip (k20 _ _ ?_));refine aD fun K22 k22=>wp_block (wp_region_lit (aA (aB) (aA (aK (c:=0) cN rfl bA rfl rfl) ?_)));simp only[zz];refine aJ rfl ((m.b 1 rfl).lies1 bQ rfl) ?_;simp only[zz];refine aA (aB) (aA (dK (m:=5) (n:=2) (r:=1) rfl rfl (by decide) (by decide)) (aA (aB) (aA (eT (m:=1) (n:=8) (r:=8) rfl rfl (by decide)) ?_)));simp only[zz];refine aA (aQ rfl rfl (aN (by omega) (by omega))) (aA (aK (c:=0) cN rfl bA rfl rfl) ?_);simp only[zz];refine aJ rfl ((m.b 1 rfl).lies1 bQ rfl) ?_;simp only[zz];refine aA (aB) (aA (jE (m:=5) (n:=2) (r:=2) rfl rfl (by decide) (by decide)) (aA (dK (m:=2) (n:=2) (r:=0) rfl rfl (by decide) (by decide)) (aA (aB) ?_)));simp only[zz];refine aA (eT (m:=0) (n:=8) (r:=0) rfl rfl (by decide)) ?_;simp only[zz];refine aA (aQ rfl rfl (aN (by omega) (by omega))) (aA (aK (c:=0) cN rfl bA rfl rfl) ?_);simp only[zz];refine aJ rfl ((m.b 1 rfl).lies1 bQ rfl) ?_;simp only[zz];refine aA (aB) (aA (jE (m:=5) (n:=4) (r:=1) rfl rfl (by decide) (by decide)) (aA (aB) (aA (eT (m:=1) (n:=8) (r:=8) rfl rfl (by decide)) ?_)));simp only[zz];refine aA (aQ rfl rfl (aN (by omega) (by omega))) (aA (cB rfl rfl rfl) (aA (aH eR aC rfl rfl (by decide) (by decide) rfl) ?_));simp only[zz];refine aS m 0 rfl rfl rfl aC (dX rfl) rfl ?_;clear m;intro u m;simp only[zy,zx,bG,zF,zG,Nat.reduceAdd] at m;refine aG (k22 _ _ ?_);refine wp_region_lit (aA (aB) (aA (aQ (m:=5) (n:=1) (r:=6) rfl rfl (by decide)) (aA (aF) (aG (aT (aD fun K23 k23=>aD fun K24 k24=>wp_region_lit (aA (aB) ?_)))))));simp only[zz];refine aA (bT (m:=6) (n:=8) rfl rfl (by decide)) (aG (k24 _ _ ?_));refine cK rfl (wp_skip (k23 _ _ ?_));refine aD fun K25 k25=>wp_block (wp_region_lit (aA (aB) (aA (aK (c:=0) cN rfl bA rfl rfl) ?_)));simp only[zz];refine aJ rfl ((m.b 1 rfl).lies1 bQ rfl) ?_;simp only[zz];refine aA (aB) (aA (dK (m:=6) (n:=2) (r:=0) rfl rfl (by decide) (by decide)) (aA (aB) (aA (eT (m:=0) (n:=8) (r:=0) rfl rfl (by decide)) ?_)));simp only[zz];refine aA (aQ rfl rfl (aN (by omega) (by omega))) (aA (aK (c:=0) cN rfl bA rfl rfl) ?_);simp only[zz];refine aJ rfl ((m.b 1 rfl).lies1 bQ rfl) ?_;simp only[zz];refine aA (aB) (aA (jE (m:=6) (n:=2) (r:=3) rfl rfl (by decide) (by decide)) (aA (dK (m:=3) (n:=2) (r:=1) rfl rfl (by decide) (by decide)) (aA (aB) ?_)));simp only[zz];refine aA (eT (m:=1) (n:=8) (r:=8) rfl rfl (by decide)) ?_;simp only[zz];refine aA (aQ rfl rfl (aN (by omega) (by omega))) (aA (aK (c:=0) cN rfl bA rfl rfl) ?_);simp only[zz];refine aJ rfl ((m.b 1 rfl).lies1 bQ rfl) ?_;simp only[zz];refine aA (aB) (aA (jE (m:=6) (n:=4) (r:=1) rfl rfl (by decide) (by decide)) (aA (aB) (aA (eT (m:=1) (n:=8) (r:=8) rfl rfl (by decide)) ?_)));simp only[zz];refine aA (aQ rfl rfl (aN (by omega) (by omega))) (aA (cB rfl rfl rfl) (aA (aH eR aC rfl rfl (by decide) (by decide) rfl) ?_));simp only[zz];refine aS m 0 rfl rfl rfl aC (dX rfl) rfl ?_;clear m;intro u m;simp only[zy,zx,bG,zF,zG,Nat.reduceAdd] at m;refine aG (k25 _ _ ?_);refine wp_region_lit (aA (aB) (aA (aQ (m:=6) (n:=1) (r:=7) rfl rfl (by decide)) (aA (aF) (aG (aT (aD fun K26 k26=>aD fun K27 k27=>wp_region_lit (aA (aB) ?_)))))));simp only[zz];refine aA (bT (m:=7) (n:=8) rfl rfl (by decide)) (aG (k27 _ _ ?_));refine cK rfl (wp_skip (k26 _ _ ?_));refine aD fun K28 k28=>wp_block (wp_region_lit (aA (aB) (aA (aK (c:=0) cN rfl bA rfl rfl) ?_)));simp only[zz];refine aJ rfl ((m.b 1 rfl).lies1 bQ rfl) ?_;simp only[zz];refine aA (aB) (aA (dK (m:=7) (n:=2) (r:=1) rfl rfl (by decide) (by decide)) (aA (aB) (aA (eT (m:=1) (n:=8) (r:=8) rfl rfl (by decide)) ?_)));simp only[zz];refine aA (aQ rfl rfl (aN (by omega) (by omega))) (aA (aK (c:=0) cN rfl bA rfl rfl) ?_);simp only[zz];refine aJ rfl ((m.b 1 rfl).lies1 bQ rfl) ?_;simp only[zz];refine aA (aB) (aA (jE (m:=7) (n:=2) (r:=3) rfl rfl (by decide) (by decide)) (aA (dK (m:=3) (n:=2) (r:=1) rfl rfl (by decide) (by decide)) (aA (aB) ?_)));simp only[zz];refine aA (eT (m:=1) (n:=8) (r:=8) rfl rfl (by decide)) ?_;simp only[zz];refine aA (aQ rfl rfl (aN (by omega) (by omega))) (aA (aK (c:=0) cN rfl bA rfl rfl) ?_);simp only[zz];refine aJ rfl ((m.b 1 rfl).lies1 bQ rfl) ?_;simp only[zz];refine aA (aB) (aA (jE (m:=7) (n:=4) (r:=1) rfl rfl (by decide) (by decide)) (aA (aB) (aA (eT (m:=1) (n:=8) (r:=8) rfl rfl (by decide)) ?_)));simp only[zz];refine aA (aQ rfl rfl (aN (by omega) (by omega))) (aA (cB rfl rfl rfl) (aA (aH eR aC rfl rfl (by decide) (by decide) rfl) ?_));simp only[zz];refine aS m 0 rfl rfl rfl aC (dX rfl) rfl ?_;clear m;intro u m;simp only[zy,zx,bG,zF,zG,Nat.reduceAdd] at m;refine aG (k28 _ _ ?_);refine wp_region_lit (aA (aB) (aA (aQ (m:=7) (n:=1) (r:=8) rfl rfl (by decide)) (aA (aF) (aG (aT (aD fun K29 k29=>aD fun K30 k30=>wp_region_lit (aA (aB) ?_)))))));simp only[zz];refine aA (fT (m:=8) (n:=8) rfl rfl (by decide)) (aG (k30 _ _ ?_));refine jM rfl (wp_exit (k3 _ _ ?_));refine aD fun K31 k31=>?_;simp only[zz];change bR w _ [bI g2 [.int .i64 (bY p 8 0).x,.int .i64 (bY p 8 0).y,.int .i64 (bY p 8 0).z,.int .i64 (bY p 8 1).x,.int .i64 (bY p 8 1).y,.int .i64 (bY p 8 1).z,.int .i64 (bY p 8 2).x,.int .i64 (bY p 8 2).y,.int .i64 (bY p 8 2).z,.int .i64 (bY p 8 3).x,.int .i64 (bY p 8 3).y,.int .i64 (bY p 8 3).z,.int .i64 (bY p 8 4).x,.int .i64 (bY p 8 4).y,.int .i64 (bY p 8 4).z,.int .i64 (bY p 8 5).x,.int .i64 (bY p 8 5).y,.int .i64 (bY p 8 5).z,.int .i64 (bY p 8 6).x,.int .i64 (bY p 8 6).y,.int .i64 (bY p 8 6).z,.int .i64 (bY p 8 7).x,.int .i64 (bY p 8 7).y,.int .i64 (bY p 8 7).z] _,_] at m;refine wp_region_lit (aA (aH eR aC rfl rfl (by decide) (by decide) rfl) ?_);simp only[zz];refine aJ rfl ((m.b 0 rfl).lies aI aC rfl rfl) ?_;simp only[zz,zy,Nat.zero_add,Nat.reduceAdd,Nat.reduceMul,Int.reduceToNat];refine aA (aH eR aC rfl rfl (by decide) (by decide) rfl) ?_;simp only[zz];refine aJ rfl ((m.b 0 rfl).lies aI aC rfl rfl) ?_;simp only[zz,zy,Nat.zero_add,Nat.reduceAdd,Nat.reduceMul,Int.reduceToNat];refine aA (aH eR aC rfl rfl (by decide) (by decide) rfl) ?_;simp only[zz];refine aJ rfl ((m.b 0 rfl).lies aI aC rfl rfl) ?_;simp only[zz,zy,Nat.zero_add,Nat.reduceAdd,Nat.reduceMul,Int.reduceToNat];refine aA (aH eR aC rfl rfl (by decide) (by decide) rfl) ?_;simp only[zz];refine aJ rfl ((m.b 0 rfl).lies aI aC rfl rfl) ?_;simp only[zz,zy,Nat.zero_add,Nat.reduceAdd,Nat.reduceMul,Int.reduceToNat];refine bK rfl rfl (wR (a:=bY p 8 0) (b:=bY p 8 2) (c:=bY p 8 3) (d:=bY p 8 1) _) ?_;rintro v u e ⟨A1,cap1,_,rfl,rfl,hN⟩;replace m:=m.newO e hN;clear e hN;refine aA (aF) (aG (k31 _ _ ?_));refine aD fun K32 k32=>wp_region_lit (aA (aB) (aA (aH eR aC rfl rfl (by decide) (by decide) rfl) ?_));simp only[zz];refine aJ rfl ((m.b 1 rfl).lies aI aC rfl rfl) ?_;simp only[zz,zy,Nat.zero_add,Nat.reduceAdd,Nat.reduceMul,Int.reduceToNat];refine aA (aH eR aC rfl rfl (by decide) (by decide) rfl) ?_;simp only[zz];refine aJ rfl ((m.b 1 rfl).lies aI aC rfl rfl) ?_;simp only[zz,zy,Nat.zero_add,Nat.reduceAdd,Nat.reduceMul,Int.reduceToNat];refine aA (aH eR aC rfl rfl (by decide) (by decide) rfl) ?_;simp only[zz];refine aJ rfl ((m.b 1 rfl).lies aI aC rfl rfl) ?_;simp only[zz,zy,Nat.zero_add,Nat.reduceAdd,Nat.reduceMul,Int.reduceToNat];refine aA (aH eR aC rfl rfl (by decide) (by decide) rfl) ?_;simp only[zz];refine aJ rfl ((m.b 1 rfl).lies aI aC rfl rfl) ?_;simp only[zz,zy,Nat.zero_add,Nat.reduceAdd,Nat.reduceMul,Int.reduceToNat];refine bK rfl rfl (wR (a:=bY p 8 4) (b:=bY p 8 5) (c:=bY p 8 7) (d:=bY p 8 6) _) ?_;rintro v u e ⟨A2,cap2,_,rfl,rfl,hN⟩;replace m:=m.newO e hN;clear e hN;simp only[zz];refine dM m 1 rfl rfl bZ nM rfl (by decide) rfl rfl (m.o 0 rfl).own.1 (m.o 0 rfl).row (oQ _) (dX rfl) (dX rfl) ?_;clear m;intro A1 cap1 u m;simp only[zF,zG] at m;refine aA (aF) (aG (k32 _ _ ?_));refine aD fun K33 k33=>wp_region_lit (aA (aB) (aA (aH eR aC rfl rfl (by decide) (by decide) rfl) ?_));simp only[zz];refine aJ rfl ((m.b 2 rfl).lies aI aC rfl rfl) ?_;simp only[zz,zy,Nat.zero_add,Nat.reduceAdd,Nat.reduceMul,Int.reduceToNat];refine aA (aH eR aC rfl rfl (by decide) (by decide) rfl) ?_;simp only[zz];refine aJ rfl ((m.b 2 rfl).lies aI aC rfl rfl) ?_;simp only[zz,zy,Nat.zero_add,Nat.reduceAdd,Nat.reduceMul,Int.reduceToNat];refine aA (aH eR aC rfl rfl (by decide) (by decide) rfl) ?_;simp only[zz];refine aJ rfl ((m.b 2 rfl).lies aI aC rfl rfl) ?_;simp only[zz,zy,Nat.zero_add,Nat.reduceAdd,Nat.reduceMul,Int.reduceToNat];refine aA (aH eR aC rfl rfl (by decide) (by decide) rfl) ?_;simp only[zz];refine aJ rfl ((m.b 2 rfl).lies aI aC rfl rfl) ?_;simp only[zz,zy,Nat.zero_add,Nat.reduceAdd,Nat.reduceMul,Int.reduceToNat];refine bK rfl rfl (wR (a:=bY p 8 0) (b:=bY p 8 1) (c:=bY p 8 5) (d:=bY p 8 4) _) ?_;rintro v u e ⟨A3,cap3,_,rfl,rfl,hN⟩;replace m:=m.newO e hN;clear e hN;simp only[zz];refine dM m 2 rfl rfl bZ nM rfl (by decide) rfl rfl (m.o 0 rfl).own.1 (m.o 0 rfl).row (oQ _) (dX rfl) (dX rfl) ?_;clear m;intro A1 cap1 u m;simp only[zF,zG] at m;refine aA (aF) (aG (k33 _ _ ?_));refine aD fun K34 k34=>wp_region_lit (aA (aB) (aA (aH eR aC rfl rfl (by decide) (by decide) rfl) ?_));simp only[zz];refine aJ rfl ((m.b 3 rfl).lies aI aC rfl rfl) ?_;simp only[zz,zy,Nat.zero_add,Nat.reduceAdd,Nat.reduceMul,Int.reduceToNat];refine aA (aH eR aC rfl rfl (by decide) (by decide) rfl) ?_;simp only[zz];refine aJ rfl ((m.b 3 rfl).lies aI aC rfl rfl) ?_;simp only[zz,zy,Nat.zero_add,Nat.reduceAdd,Nat.reduceMul,Int.reduceToNat];refine aA (aH eR aC rfl rfl (by decide) (by decide) rfl) ?_;simp only[zz];refine aJ rfl ((m.b 3 rfl).lies aI aC rfl rfl) ?_;simp only[zz,zy,Nat.zero_add,Nat.reduceAdd,Nat.reduceMul,Int.reduceToNat];refine aA (aH eR aC rfl rfl (by decide) (by decide) rfl) ?_;simp only[zz];refine aJ rfl ((m.b 3 rfl).lies aI aC rfl rfl) ?_;simp only[zz,zy,Nat.zero_add,Nat.reduceAdd,Nat.reduceMul,Int.reduceToNat];refine bK rfl rfl (wR (a:=bY p 8 2) (b:=bY p 8 6) (c:=bY p 8 7) (d:=bY p 8 3) _) ?_;rintro v u e ⟨A4,cap4,_,rfl,rfl,hN⟩;replace m:=m.newO e hN;clear e hN;simp only[zz];refine dM m 3 rfl rfl bZ nM rfl (by decide) rfl rfl (m.o 0 rfl).own.1 (m.o 0 rfl).row (oQ _) (dX rfl) (dX rfl) ?_;clear m;intro A1 cap1 u m;simp only[zF,zG] at m;refine aA (aF) (aG (k34 _ _ ?_));refine aD fun K35 k35=>wp_region_lit (aA (aB) (aA (aH eR aC rfl rfl (by decide) (by decide) rfl) ?_));simp only[zz];refine aJ rfl ((m.b 4 rfl).lies aI aC rfl rfl) ?_;simp only[zz,zy,Nat.zero_add,Nat.reduceAdd,Nat.reduceMul,Int.reduceToNat];refine aA (aH eR aC rfl rfl (by decide) (by decide) rfl) ?_;simp only[zz];refine aJ rfl ((m.b 4 rfl).lies aI aC rfl rfl) ?_;simp only[zz,zy,Nat.zero_add,Nat.reduceAdd,Nat.reduceMul,Int.reduceToNat];refine aA (aH eR aC rfl rfl (by decide) (by decide) rfl) ?_;simp only[zz];refine aJ rfl ((m.b 4 rfl).lies aI aC rfl rfl) ?_;simp only[zz,zy,Nat.zero_add,Nat.reduceAdd,Nat.reduceMul,Int.reduceToNat];refine aA (aH eR aC rfl rfl (by decide) (by decide) rfl) ?_;simp only[zz];refine aJ rfl ((m.b 4 rfl).lies aI aC rfl rfl) ?_;simp only[zz,zy,Nat.zero_add,Nat.reduceAdd,Nat.reduceMul,Int.reduceToNat];refine bK rfl rfl (wR (a:=bY p 8 0) (b:=bY p 8 4) (c:=bY p 8 6) (d:=bY p 8 2) _) ?_;rintro v u e ⟨A5,cap5,_,rfl,rfl,hN⟩;replace m:=m.newO e hN;clear e hN;simp only[zz];refine dM m 4 rfl rfl bZ nM rfl (by decide) rfl rfl (m.o 0 rfl).own.1 (m.o 0 rfl).row (oQ _) (dX rfl) (dX rfl) ?_;clear m;intro A1 cap1 u m;simp only[zF,zG] at m;refine aA (aF) (aG (k35 _ _ ?_));refine aD fun K36 k36=>wp_region_lit (aA (aB) (aA (aH eR aC rfl rfl (by decide) (by decide) rfl) ?_));simp only[zz];refine aJ rfl ((m.b 5 rfl).lies aI aC rfl rfl) ?_;simp only[zz,zy,Nat.zero_add,Nat.reduceAdd,Nat.reduceMul,Int.reduceToNat];refine aA (aH eR aC rfl rfl (by decide) (by decide) rfl) ?_;simp only[zz];refine aJ rfl ((m.b 5 rfl).lies aI aC rfl rfl) ?_;simp only[zz,zy,Nat.zero_add,Nat.reduceAdd,Nat.reduceMul,Int.reduceToNat];refine aA (aH eR aC rfl rfl (by decide) (by decide) rfl) ?_;simp only[zz];refine aJ rfl ((m.b 5 rfl).lies aI aC rfl rfl) ?_;simp only[zz,zy,Nat.zero_add,Nat.reduceAdd,Nat.reduceMul,Int.reduceToNat];refine aA (aH eR aC rfl rfl (by decide) (by decide) rfl) ?_;simp only[zz];refine aJ rfl ((m.b 5 rfl).lies aI aC rfl rfl) ?_;simp only[zz,zy,Nat.zero_add,Nat.reduceAdd,Nat.reduceMul,Int.reduceToNat];refine bK rfl rfl (wR (a:=bY p 8 1) (b:=bY p 8 3) (c:=bY p 8 7) (d:=bY p 8 5) _) ?_;rintro v u e ⟨A6,cap6,_,rfl,rfl,hN⟩;replace m:=m.newO e hN;clear e hN;simp only[zz];refine dM m 5 rfl rfl bZ nM rfl (by decide) rfl rfl (m.o 0 rfl).own.1 (m.o 0 rfl).row (oQ _) (dX rfl) (dX rfl) ?_;clear m;intro A1 cap1 u m;simp only[zF,zG] at m;refine aA (aF) (aG (k36 _ _ ?_));refine wp_ret ?_;simp only[zz];try simp only[Exit.inBlock,Exit.then,if_true]
 refine bS rfl rfl ?_;try simp only[zD,zE]
 exact ⟨_,rfl,m.ext,⟨_,_,_,rfl,rfl,((m.o 5 rfl)).as (by simp only[tK,List.flatMap_append])⟩⟩
theorem aaN {b : Nat} (w : World) (hb : b < 134217728) : eI prog 42 [.int .i64 (b : Int),.int .i64 8,.agg #[.int .i64 4,.int .i64 5,.int .i64 6]] w (TS 53 (Pg b) w):=by
 refine ⟨afi,?_⟩;have m:=bR.refl w;have hb0:=hb
 go_enter func42,ntmps42
 refine aD fun K1 k1=>wp_region_lit (eY m rfl ?_);clear m;intro g1 u m;refine aA (aF) (aG (k1 _ _ ?_));refine aD fun K2 k2=>wp_region_lit (aA (aF) ?_);replace m:=m.nilO 53 9;refine aG (k2 _ _ ?_);refine aD fun K3 k3=>aD fun K4 k4=>wp_region_lit (aA (aF) ?_);simp only[zz];refine aG (k4 _ _ ?_);refine wp_block ?_;try simp only[Nat.zero_add,Nat.reduceAdd,Nat.reduceMul,Int.reduceToNat]
 refine bM [7,8] [9,10,11,12,13,14,15,16,17,18,19,20,21,22,23,24,25,26,27,28,29,30,31,32,33,34,35,36,37,38,39,40,41,42,43,44,45,46,47,48,49,50,51,52,53,54,55,56,57,58,59,60,61,62,63,64,65,66,67,68,69,70,71,72,73,74,75,76,77,78,79,80,81,82,83,84,85,86,87,88,89,90,91,92,93,94,95,96,97,98,99,100,101,102,103,104,105,106,107,108,109,110,111,112,113,114,115,116,117,118,119,120,121,122,123,124,125,126,127,128,129,130,131,132,133,134,135,136,137,138,139] (fun n vs wl=>∃ (A1 : Option Addr) (cap1 k : Nat),vs = [.slice A1 (fV b (k) (0)).length cap1,.int .i64 (k:Int)] ∧ bR w wl [oI 53 9 A1 (fV b (k) (0)).length cap1 ((fV b (k) (0)).flatMap aX),bI g1 [.int .i64 4,.int .i64 5,.int .i64 6] 48] ∧ (k ≤ 27) ∧ (n = 27 - k)) ?_ ?_
 ·
  apply Exists.intro;simp only[zQ,zR,zD,zE];exact ⟨none,0,0,rfl,m,Nat.zero_le _,rfl⟩
 ·
  intro n vs wr hI u;clear m;obtain ⟨A1,cap1,k,rfl,m,hk,hn⟩:=hI;simp only[zu,zF,zG];refine aD fun K5 k5=>aD fun K6 k6=>wp_region_lit (aA (aB) (aA (cJ rfl rfl) (aG (k6 _ _ ?_))));simp only[zz];refine cO rfl (fun hc1=>?_) (fun hc1=>?_)
  ·
   refine wp_skip (k5 _ _ ?_);refine aD fun K7 k7=>wp_block (aD fun K8 k8=>wp_region_lit (aA (aB) ?_));simp only[zz];refine aA (dK rfl rfl (by omega) (Gz (k:=k) (c:=3))) (aA (aF) (aG (k8 _ _ ?_)));refine aD fun K9 k9=>wp_region_lit (aA (aB) ?_);simp only[zz];refine aA (jE rfl rfl (by omega) (Nf (n:=3) (by omega))) ?_;simp only[zz];refine aA (dK rfl rfl (by omega) (Gz (k:=k / 3) (c:=3))) (aA (aF) (aG (k9 _ _ ?_)));refine aD fun K10 k10=>wp_region_lit (aA (aB) ?_);simp only[zz];refine aA (jE rfl rfl (by omega) (Nf (n:=9) (by omega))) (aA (aF) (aG (k10 _ _ ?_)));refine aD fun K11 k11=>aD fun K12 k12=>wp_region_lit (aA (aB) (aA (aB) ?_));simp only[zz];refine aA (vZ underlying113 kJ rfl (eM (by omega) (by omega))) ?_;simp only[zz];refine aA (pE rfl rfl (by omega) (aeJ (by omega) (by omega))) (aA (qC rfl rfl (aeK (Yp hb))) (aA (vJ rfl rfl) (aG (k12 _ _ ?_))));simp only[zz];refine cO rfl (fun hc2=>?_) (fun hc2=>?_)
   ·
    have hv : yU b k = false:=by unfold yU;exact decide_eq_false (by have:=hc2;simp only[Int.toNat_natCast] at this;omega)
    rw [Um hv] at m ⊢;refine wp_exit (k7 _ _ ?_);refine wp_region_lit (aA (aB) ?_);simp only[zz];refine aA (aQ rfl rfl (aN (by omega) (by omega))) (aA (aF) (aG ?_));simp only[zz];simp only[Exit.inBlock,Exit.then];refine ⟨27 - (k + 1),_,?_,rfl,?_,?_⟩
    · omega
    · simp only[zz,zv]
    ·
     simp only[zQ,zR,zD,zE];exact ⟨_,_,k + 1,rfl,m,by omega,rfl⟩
   ·
    have hv : yU b k = true:=by unfold yU;exact decide_eq_true (by have:=hc2;simp only[Int.toNat_natCast] at this;omega)
    refine wp_skip (k11 _ _ ?_);refine aD fun K13 k13=>wp_region_lit (aA (aK (c:=0) cN rfl bA rfl rfl) ?_);simp only[zz];refine aJ rfl ((m.b 1 rfl).lies1 bQ rfl) ?_;simp only[zz];refine aA (aB) (aA (aB) ?_);simp only[zz];refine aA (eT rfl rfl (aN (by omega) (by omega))) ?_;simp only[zz];refine aA (aQ rfl rfl (aN (by omega) (by omega))) (aA (aK (c:=0) cN rfl bA rfl rfl) ?_);simp only[zz];refine aJ rfl ((m.b 1 rfl).lies1 bQ rfl) ?_;simp only[zz];refine aA (aB) (aA (aB) ?_);simp only[zz];refine aA (eT rfl rfl (aN (by omega) (by omega))) ?_;simp only[zz];refine aA (aQ rfl rfl (aN (by omega) (by omega))) (aA (aK (c:=0) cN rfl bA rfl rfl) ?_);simp only[zz];refine aJ rfl ((m.b 1 rfl).lies1 bQ rfl) ?_;simp only[zz];refine aA (aB) (aA (aB) ?_);simp only[zz];refine aA (eT rfl rfl (aN (by omega) (by omega))) ?_;simp only[zz];refine aA (aQ rfl rfl (aN (by omega) (by omega))) (aA (cB rfl rfl rfl) ?_);simp only[zz];refine bC m bP rfl ?_;clear m;intro g2 u m;simp only[zz];refine aS m 0 rfl rfl rfl aC (dX rfl) rfl ?_;clear m;intro u m;simp only[zy,zx,bG,zF,zG,Nat.reduceAdd] at m;refine aG (k13 _ _ ?_);refine aD fun K14 k14=>wp_region_lit (aJ rfl ((m.b 0 rfl).full aI aC) ?_);simp only[zz];refine aA (aB) ?_;simp only[zz];refine bK rfl rfl (aer (p:=vP k) _ (acD (by omega))) ?_;rintro v u e ⟨A2,cap2,_,rfl,rfl,hN⟩;replace m:=m.newO e hN;clear e hN;obtain ⟨gc,rfl⟩:=(m.o 0 rfl).some (by rw [nZ];decide);rw [nZ] at m ⊢;refine aA (aF) (aG (k14 _ _ ?_));refine aD fun K15 k15=>wp_region_lit (aA (gR rfl rfl rfl) (aA (gR rfl rfl rfl) ?_));simp only[zz];refine aA (gR rfl rfl rfl) (aA (gR rfl rfl rfl) (aA (gR rfl rfl rfl) (aA (gR rfl rfl rfl) ?_)));simp only[zz];refine aA (qO rfl rfl rfl rfl rfl rfl) ?_;simp only[zz];refine bC m Ly rfl ?_;clear m;intro g3 u m;simp only[zz];refine aS m 0 rfl rfl rfl Ux (dX rfl) rfl ?_;clear m;intro u m;simp only[zy,zx,bG,zF,zG,Nat.reduceAdd] at m;refine aG (k15 _ _ ?_);refine aD fun K16 k16=>wp_region_lit (aA (aF) (aG (k16 _ _ ?_)));refine wp_block ?_;simp only[zz];try simp only[Nat.zero_add,Nat.reduceAdd,Nat.reduceMul,Int.reduceToNat]
    refine bM [7,15] [16,17,18,19,66,67,68,69,70,71,72,73,74,75,76,77,78,79,80,81,82,83,84,85,86,87,88,89,90,91,92,93,94,95,96,97,98,99,100,101,102,103,104,105,106,107,108,109,110,111,112,113,114,115,116,117,118,119,120,121,122,123,124,125,126,127,128,129,130,131,132,133,134,135,136,137,138,139] (fun n vs wl=>∃ (A1 : Option Addr) (cap1 f : Nat),vs = [.slice A1 (fV b (k) (f)).length cap1,.int .i64 (f:Int)] ∧ bR w wl [bI g3 uT 115,oI 53 9 (some ⟨gc,0,none⟩) 12 cap2 ((tK (vP k) 8).flatMap aX),oI 53 9 A1 (fV b (k) (f)).length cap1 ((fV b (k) (f)).flatMap aX),bI g1 [.int .i64 4,.int .i64 5,.int .i64 6] 48] ∧ (f ≤ 6) ∧ (n = 6 - f)) ?_ ?_
    ·
     apply Exists.intro;simp only[zQ,zR,zD,zE];exact ⟨_,_,0,rfl,(m.sel [true,true,false,true,true]),Nat.zero_le _,rfl⟩
    ·
     intro n vs wr hI u;clear m;obtain ⟨A1,cap1,f,rfl,m,hf6,hn2⟩:=hI;simp only[zu,zF,zG];refine aD fun K17 k17=>aD fun K18 k18=>wp_region_lit (aA (aB) (aA (cJ rfl rfl) (aG (k18 _ _ ?_))));simp only[zz];refine cO rfl (fun hc3=>?_) (fun hc3=>?_)
     ·
      have hf : f < 6:=by omega
      have hs:=aeO f;obtain ⟨t,u0,ht,hu,hpr⟩:=Yx (n:=k) hf;refine wp_skip (k17 _ _ ?_);refine aD fun K19 k19=>wp_block (aD fun K20 k20=>wp_region_lit (aA (aB) (aA (aB) ?_)));simp only[zz];refine aA (aH underlying115 xN rfl rfl (by omega) (by omega) (yR (Int.toNat_natCast _))) (aA (aH underlying26 bA rfl rfl (by decide) (by decide) rfl) ?_);simp only[zz];refine aJ rfl ((m.b 0 rfl).lies1 (i:=f * 3) bQ (aeL hf)) ?_;simp only[zz];refine aA (aQ rfl rfl (aN (by omega) (by omega))) (aA (aF) (aG (k20 _ _ ?_)));refine aD fun K21 k21=>wp_region_lit (aA (aB) (aA (aB) ?_));simp only[zz];refine aA (aH underlying115 xN rfl rfl (by omega) (by omega) (yR (Int.toNat_natCast _))) (aA (aH underlying26 bA rfl rfl (by decide) (by decide) rfl) ?_);simp only[zz];refine aJ rfl ((m.b 0 rfl).lies1 (i:=f * 3 + 1) bQ (aeM hf)) ?_;simp only[zz];refine aA (aQ rfl rfl (aN (by omega) (by omega))) (aA (aF) (aG (k21 _ _ ?_)));refine aD fun K22 k22=>wp_region_lit (aA (aB) (aA (aB) ?_));simp only[zz];refine aA (aH underlying115 xN rfl rfl (by omega) (by omega) (yR (Int.toNat_natCast _))) (aA (aH underlying26 bA rfl rfl (by decide) (by decide) rfl) ?_);simp only[zz];refine aJ rfl ((m.b 0 rfl).lies1 (i:=f * 3 + 2) bQ (aeN hf)) ?_;simp only[zz];refine aA (aQ rfl rfl (aN (by omega) (by omega))) (aA (aF) (aG (k22 _ _ ?_)));refine aD fun K23 k23=>wp_region_lit (aA (aB) (aA (vI rfl rfl) ?_));simp only[zz];refine aA (aB) (dO rfl (fun hb=>aB) (dO rfl (fun hb=>cJ (bH hb rfl) rfl) (aA (dA rfl rfl rfl) ?_)));simp only[zz];refine aA (aB) (dO rfl (fun hb=>aB) (dO rfl (fun hb=>vI (bH hb rfl) rfl) (aA (dA rfl rfl rfl) ?_)));simp only[zz];refine aA (aB) (dO rfl (fun hb=>aB) (dO rfl (fun hb=>cJ (bH hb rfl) rfl) (aA (dA rfl rfl rfl) ?_)));simp only[zz];refine aA (aB) (dO rfl (fun hb=>aB) (dO rfl (fun hb=>vI (bH hb rfl) rfl) (aA (dA rfl rfl rfl) ?_)));simp only[zz];refine aA (aB) (dO rfl (fun hb=>aB) (dO rfl (fun hb=>cJ (bH hb rfl) rfl) (aA (dA rfl rfl rfl) ?_)));simp only[zz];refine aA (aF) (aG (k23 _ _ ?_));refine aD fun K24 k24=>wp_region_lit (aA (aB) (aA (gX rfl) (aA (aB) ?_)));simp only[zz];refine gJ rfl (fun hb=>aB) (gJ rfl (fun hb=>aB) ?_);simp only[zz];refine gJ rfl (fun hb=>eT (bH hb rfl) rfl (aN (by omega) (by omega))) (gJ rfl (fun hb=>aB) ?_);simp only[zz];refine gJ rfl (fun hb=>aQ (bH hb rfl) (bH hb rfl) (aN (by omega) (by omega))) ?_;simp only[zz];refine gJ rfl (fun hb=>eT (bH hb rfl) rfl (aN (by omega) (by omega))) (gJ rfl (fun hb=>aB) ?_);simp only[zz];refine gJ rfl (fun hb=>aQ (bH hb rfl) (bH hb rfl) (aN (by omega) (by omega))) (gJ rfl (fun hb=>vZ underlying113 kJ (bH hb rfl) (eM (by have h:=vin hb;omega) (by have h:=vin hb;omega))) ?_);simp only[zz];refine gJ rfl (fun hb=>pE (bH hb rfl) (bH hb rfl) (by have h:=vin hb;omega) (aeJ (by have h:=vin hb;omega) (by have h:=vin hb;omega))) (gJ rfl (fun hb=>qC (bH hb rfl) rfl (aeK (Yp hb0))) (gJ rfl (fun hb=>vJ (bH hb rfl) rfl) (aA (gU rfl rfl rfl) ?_)));simp only[zz];refine aG (k24 _ _ ?_);refine kW rfl (fun hc4=>?_) (fun hc4=>?_)
      ·
       have hvf:=(Lp (b:=b) (n:=k) (f:=f)).symm.trans hc4;refine mh m [true,true,false,true] [(0,true),(1,true),(2,true),(3,true),(4,true),(6,true),(7,true),(8,true),(9,true),(10,true),(5,true),(11,true),(12,false),(13,false),(14,true)] aO (by kernel_rfl) (eE (fun _ _ _ _ _ h=>h)) (ol:=?_) ?hol ?_
       case hol=>simp only[zw,zQ,zR];try rfl
       clear m;intro u m;refine bO (aB) (bO (aB) (bO (aB) ?_));simp only[zz];refine bO (eT rfl rfl (aN (by omega) (by omega))) ?_;simp only[zz];refine bO (aM bZ aU rfl rfl (by omega) (by omega) (cA (show _ = 2 * f by omega))) (bO (aB) (bO (aB) ?_));simp only[zz];refine bO (eT rfl rfl (aN (by omega) (by omega))) ?_;simp only[zz];refine bO (aQ rfl rfl (aN (by omega) (by omega))) ?_;simp only[zz];refine bO (aM bZ aU rfl rfl (by omega) (by omega) (cA (show _ = 2 * f + 1 by omega))) ?_;simp only[zz];refine dU rfl (fun u m=>(((m.o 1 rfl).tri ht).lies eQ aU)) ?_;simp only[zz];refine dU rfl (fun u m=>(((m.o 1 rfl).tri hu).lies eQ aU)) ?_;simp only[zz];refine dT (uX rfl rfl ?_);intro u g4 e hg hB;replace m:=m.newB e hg hB;clear e hg hB;refine aG (⟨m.sel [false,true,true,false,true],?_⟩);refine dT ?_;simp only[zz];refine dM m 3 rfl rfl bZ nM rfl (by decide) rfl rfl rfl (m.b 0 rfl).rowsO (pD rfl) (by have:=yV (b:=b) (n:=k) (f:=f) (by omega) (by omega);omega) (by have:=yV (b:=b) (n:=k) (f:=f) (by omega) (by omega);omega) ?_;clear m;intro A1 cap1 u m;simp only[zF,zG] at m;rw [Uq hpr hvf,Ru hf hvf] at m;rw [Ru hf hvf];refine aG (⟨m.sel [false,true,true,false,true],?_⟩);refine bO (aF) (eF (k19 _ _ ?_));refine wp_region_lit (aA (aB) ?_);simp only[zz];refine aA (aQ rfl rfl (aN (by omega) (by omega))) (aA (aF) (aG ?_));simp only[zz];simp only[Exit.inBlock,Exit.then];refine ⟨6 - (f + 1),_,?_,rfl,?_,?_⟩
       · omega
       · simp only[zz,zv]
       ·
        simp only[zQ,zR,zD,zE];exact ⟨_,_,f + 1,rfl,(m.sel [false,true,true,true,true]),by omega,rfl⟩
      ·
       have hvf:=(Lp (b:=b) (n:=k) (f:=f)).symm.trans hc4;rw [← Pi hvf] at m ⊢;refine wp_skip (k19 _ _ ?_);refine wp_region_lit (aA (aB) ?_);simp only[zz];refine aA (aQ rfl rfl (aN (by omega) (by omega))) (aA (aF) (aG ?_));simp only[zz];simp only[Exit.inBlock,Exit.then];refine ⟨6 - (f + 1),_,?_,rfl,?_,?_⟩
       · omega
       · simp only[zz,zv]
       ·
        simp only[zQ,zR,zD,zE];exact ⟨_,_,f + 1,rfl,m,by omega,rfl⟩
     ·
      have hfq : f = 6:=by omega
      rw [hfq,Ph hv] at m ⊢;refine wp_exit (k7 _ _ ?_);refine wp_region_lit (aA (aB) ?_);simp only[zz];refine aA (aQ rfl rfl (aN (by omega) (by omega))) (aA (aF) (aG ?_));simp only[zz];simp only[Exit.inBlock,Exit.then];refine ⟨27 - (k + 1),_,?_,rfl,?_,?_⟩
      · omega
      · simp only[zz,zv]
      ·
       simp only[zQ,zR,zD,zE];exact ⟨_,_,k + 1,rfl,(m.sel [false,false,true,true]),by omega,rfl⟩
  ·
   have hkq : k = 27:=by omega
   rw [hkq,Dg] at m ⊢;refine wp_exit (k3 _ _ ?_);refine aD fun K25 k25=>wp_region_lit (aA (aB) (aA (aF) (aG (k25 _ _ ?_))));refine wp_ret ?_;simp only[zz];try simp only[Exit.inBlock,Exit.then,if_true]
   refine bS rfl rfl ?_;try simp only[zD,zE]
   exact ⟨_,rfl,m.ext,⟨_,_,_,rfl,rfl,(m.o 0 rfl)⟩⟩
theorem aes {kind bits : Int} [Iw kind] [Iw bits] {N cap : Nat} {A : Option Addr} {zs : List Int} (w : World) (hZ : nK w A N zs) : eI prog 22 [.int .i64 kind,.int .i64 bits,.slice A N cap] w (TS 53 (gC kind bits zs) w):=by
 refine ⟨ae3,?_⟩;have m:=bR.refl w;have hbb:=lX (n:=bits) (m:=134217728) (by decide);haveI : Iw (kind.tdiv 3):=⟨(Lr (Iw.h (n:=kind))).2⟩
 go_enter func22,ntmps22
 refine aD fun K1 k1=>wp_region_lit (aA (aF) (aG (k1 _ _ ?_)));refine aD fun K2 k2=>aD fun K3 k3=>wp_region_lit (aA (aB) ?_);simp only[zz];refine iV m rfl rfl (sH (n:=kind) (k:=3) (by decide) (by decide)) ?_;clear m;intro u m;refine aA (vJ rfl rfl) (aG (k3 _ _ ?_));simp only[zz];refine cO rfl (fun hc1=>?_) (fun hc1=>?_)
 ·
  refine aD fun K4 k4=>wp_region_lit (aA (aB) ?_);simp only[zz];refine iV m rfl rfl (sH (n:=bits) (k:=134217728) (by decide) (by decide)) ?_;clear m;intro u m;refine aA (cB rfl rfl rfl) ?_;simp only[zz];rw [show bits % 134217728 = (((bits % 134217728).toNat : Nat) : Int) by omega];refine bK rfl rfl (aaN (b:=(bits % 134217728).toNat) _ (by omega)) ?_;rintro v u e ⟨A1,cap1,_,rfl,rfl,hN⟩;replace m:=m.newO e hN;clear e hN;refine aA (aF) (aG (k4 _ _ ?_));refine wp_ret ?_;simp only[zz];try simp only[Exit.inBlock,Exit.then,if_true]
  refine bS rfl rfl ?_;try simp only[zD,zE]
  exact ⟨_,rfl,m.ext,by rw [gC,if_pos hc1];exact ⟨_,_,_,rfl,rfl,(m.o 0 rfl)⟩⟩
 ·
  refine wp_skip (k2 _ _ ?_);refine aD fun K5 k5=>wp_region_lit (aA (aB) ?_);simp only[zz];refine aA (jE rfl rfl (by omega) (Lr (Iw.h (n:=kind))).1) (aA (aB) ?_);simp only[zz];refine bK rfl rfl (ach (n0:=kind.tdiv 3) _ (hZ.ext m.ext)) ?_;rintro v u e ⟨A1,cap1,_,rfl,rfl,hN⟩;replace m:=m.newO e hN;clear e hN;refine aA (aF) (aG (k5 _ _ ?_));refine wp_ret ?_;simp only[zz];try simp only[Exit.inBlock,Exit.then,if_true]
  refine bS rfl rfl ?_;try simp only[zD,zE]
  exact ⟨_,rfl,m.ext,by rw [gC,if_neg hc1];exact ⟨_,_,_,rfl,rfl,(m.o 0 rfl)⟩⟩
end Go.Proofs.YtfohfflkhpfjeaaGreatDoor
