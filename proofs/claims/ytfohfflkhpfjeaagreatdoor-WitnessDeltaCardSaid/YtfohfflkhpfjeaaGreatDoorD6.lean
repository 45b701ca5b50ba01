/-
 Texts of one claim, laid together: W9, Ref1, Ref2, Ref3, Ref4, Ref5, Ref6, Ref7, Geo1, Exact, W10, Pack2, W11, Ref8, Exact2, Meas1, RefG1, V3, Wf, Wg, Wh, Wi, Surf1.
-/
import Derived.Test.YtfohfflkhpfjeaaGreatDoorD5
set_option maxHeartbeats 8000000
set_option linter.unusedSimpArgs false
set_option linter.unusedVariables false
set_option linter.unusedSectionVars false
namespace Go.Proofs.YtfohfflkhpfjeaaGreatDoor
open Go.Proofs.Tryz
open Go.RowKit Go.Lith
set_option maxRecDepth 100000
attribute [local irreducible] wpList wpQuiet dD cO cF Code.wp
theorem Xq : pJ prog 53 tr:=by
 refine pJ.agg (cs:=fun p=>#[.int .i64 p.a.x,.int .i64 p.a.y,.int .i64 p.a.z,.int .i64 p.b.x,.int .i64 p.b.y,.int .i64 p.b.z,.int .i64 p.c.x,.int .i64 p.c.y,.int .i64 p.c.z]) (fun _=>rfl) bO (fun e p=>?_) (fun p q=>?_) (fun p=>?_)
 ·
  refine pQ.array (d:=9999) bO aG fun i hi=>?_;obtain rfl | rfl | rfl:=(by omega : i = 0 ∨ i = 1 ∨ i = 2)
  ·
   refine ⟨_,eW aK aG rfl,?_⟩;refine pQ.struct (d:=9998) cB fun f hf=>?_;simp only[List.mem_cons,List.not_mem_nil,or_false] at hf;rcases hf with rfl | rfl | rfl
   · exact ⟨_,dG bF rfl,pQ.int (d:=9997) iN⟩
   · exact ⟨_,dG bF rfl,pQ.int (d:=9997) iN⟩
   · exact ⟨_,dG bF rfl,pQ.int (d:=9997) iN⟩
  ·
   refine ⟨_,eW aK aG rfl,?_⟩;refine pQ.struct (d:=9998) cB fun f hf=>?_;simp only[List.mem_cons,List.not_mem_nil,or_false] at hf;rcases hf with rfl | rfl | rfl
   · exact ⟨_,dG bF rfl,pQ.int (d:=9997) iN⟩
   · exact ⟨_,dG bF rfl,pQ.int (d:=9997) iN⟩
   · exact ⟨_,dG bF rfl,pQ.int (d:=9997) iN⟩
  ·
   refine ⟨_,eW aK aG rfl,?_⟩;refine pQ.struct (d:=9998) cB fun f hf=>?_;simp only[List.mem_cons,List.not_mem_nil,or_false] at hf;rcases hf with rfl | rfl | rfl
   · exact ⟨_,dG bF rfl,pQ.int (d:=9997) iN⟩
   · exact ⟨_,dG bF rfl,pQ.int (d:=9997) iN⟩
   · exact ⟨_,dG bF rfl,pQ.int (d:=9997) iN⟩
 · exact (abY _).iff ⟨fun h=>Wl (P3.eq (h.1) (h.2.1) (h.2.2.1)) (P3.eq (h.2.2.2.1) (h.2.2.2.2.1) (h.2.2.2.2.2.1)) (P3.eq (h.2.2.2.2.2.2.1) (h.2.2.2.2.2.2.2.1) (h.2.2.2.2.2.2.2.2)),fun h=>by subst h;simp only[and_self]⟩
 · simp [tr,Instr.sameBits]
def yF {K : Type} [DecidableEq K] (D : List (K × Bool)) (ks : List K) : List (K × Bool):=ks.foldl (fun D k=>fT D k false) D
theorem Sw {K : Type} [DecidableEq K] (D : List (K × Bool)) (ks : List K) (k : K) : yF D (ks ++ [k]) = fT (yF D ks) k false:=by unfold yF;rw [List.foldl_append];rfl
theorem Dm {K : Type} [DecidableEq K] : ∀ (ks : List K) (D : List (K × Bool)) (a : K),cP (yF D ks) a = if a ∈ ks then some false else cP D a
 | [],D,a=>by simp [yF]
 | k :: ks,D,a=>by
  show cP (yF (fT D k false) ks) a = _
  rw [Dm ks,lH];by_cases h1 : a ∈ ks
  · rw [if_pos h1,if_pos (List.mem_cons_of_mem _ h1)]
  ·
   rw [if_neg h1];by_cases h2 : k = a
   · rw [if_pos h2,if_pos (by rw [h2];exact List.mem_cons_self ..)]
   · rw [if_neg h2,if_neg (fun h=>(List.mem_cons.1 h).elim (fun e=>h2 e.symm) h1)]
theorem vR {K : Type} [DecidableEq K] : ∀ (ks : List K) (D : List (K × Bool)),(D.map (·.1)).Nodup → ((yF D ks).map (·.1)).Nodup
 | [],_,h=>h
 | k :: ks,D,h=>vR ks _ (vM h k false)
theorem Ll {K : Type} [DecidableEq K] (ks hs : List K) (a : K) : (cP (yF (fP [] ks) hs) a).getD false = decide (a ∈ ks ∧ a ∉ hs):=by
 rw [Dm];by_cases h : a ∈ hs
 · rw [if_pos h,decide_eq_false (fun k=>k.2 h)];rfl
 · rw [if_neg h,oL,decide_eq_decide];exact ⟨fun k=>⟨k,h⟩,And.left⟩
theorem Xr {f c : List T3} {ms : List Mv} {i : Nat} {t : T3} (ht : f[i]? = some t) (h : ¬ No f c ms i t) : pM f c ms = false:=by
 cases hh : pM f c ms with
 | false=>rfl
 | true=>exact absurd ((yB.1 hh).1 i t ht) h
theorem aaV {x : T3} : ((decide (¬ (x.a.x = x.b.x ∧ x.a.y = x.b.y ∧ x.a.z = x.b.z)) && decide (¬ (x.b.x = x.c.x ∧ x.b.y = x.c.y ∧ x.b.z = x.c.z))) && decide (¬ (x.c.x = x.a.x ∧ x.c.y = x.a.y ∧ x.c.z = x.a.z))) = x.nd:=by
 simp only[T3.nd,jX,ne_eq]
theorem aaW {f c : List T3} {ms : List Mv} {k : Nat} {t : T3} (hn : (t.img ms).nd = true) {b : Bool} (h : (!(cP (yF (fP [] (c.map iY)) (mO ms (f.take k))) (iY (t.img ms))).getD false) = b) : No f c ms k t ↔ b = false:=by
 rw [Ll] at h;rw [No,hn,if_pos rfl,← h];simp
theorem aaX {f c : List T3} {ms : List Mv} {k : Nat} {t : T3} (hn : (t.img ms).nd = false) {b : Bool} (h : ((!(cP (fP [] (kK c)) ((t.img ms).a,(t.img ms).b)).getD false) || (!(cP (fP [] (kK c)) ((t.img ms).b,(t.img ms).c)).getD false)) = b) : No f c ms k t ↔ b = false:=by
 rw [uF,uF] at h;rw [No,hn,if_neg Bool.false_ne_true,← h];simp
theorem aas {f c : List T3} {ms : List Mv} {es : Array MapEntry} {sn : Array Nat} {dn : List (T3 × Bool)} (h : lB tr Value.bool (yF (fP [] (c.map iY)) (mO ms f)) es sn dn []) (hno : ∀ y ∈ dn,y.2 = false) (hok : ∀ j t,f[j]? = some t → No f c ms j t) : pM f c ms = true:=by
 refine yB.2 ⟨hok,fun u hu=>?_⟩;have hn:=vR (mO ms f) _ (mK (c.map iY) [] (by simp));have hg:=Dm (mO ms f) (fP [] (c.map iY)) (iY u);refine Decidable.byContradiction fun hx=>?_;rw [if_neg hx,wU,if_pos (List.mem_map.2 ⟨u,hu,rfl⟩)] at hg;have:=hno _ (h.done.mem_iff.2 (wR hg));cases this
theorem Xs {f c : List T3} {ms : List Mv} {es : Array MapEntry} {sn : Array Nat} {dn rs : List (T3 × Bool)} (h : lB tr Value.bool (yF (fP [] (c.map iY)) (mO ms f)) es sn dn rs) {y : T3} (hy : (y,true) ∈ dn) : pM f c ms = false:=by
 cases hh : pM f c ms with
 | false=>rfl
 | true =>
  have hn:=vR (mO ms f) _ (mK (c.map iY) [] (by simp));have hg:=lI hn (h.1.mem_iff.1 (List.mem_append_left _ hy));have hg2:=Ll (c.map iY) (mO ms f) y;rw [hg] at hg2;obtain ⟨h1,h2⟩:=of_decide_eq_true hg2.symm;obtain ⟨u,hu,rfl⟩:=List.mem_map.1 h1;exact absurd ((yB.1 hh).2 u hu) h2
theorem acj {ms : List Mv} {f : List T3} {k : Nat} {t : T3} (h : f[k]? = some t) (hn : (t.img ms).nd = true) : mO ms (f.take (k + 1)) = mO ms (f.take k) ++ [iY (t.img ms)]:=by rw [wW h,hn];rfl
theorem ack {ms : List Mv} {f : List T3} {k : Nat} {t : T3} (h : f[k]? = some t) (hn : (t.img ms).nd = false) : mO ms (f.take (k + 1)) = mO ms (f.take k):=by rw [wW h,hn];simp
theorem Pp {f c : List T3} {ms : List Mv} {k : Nat} {t : T3} (ht : f[k]? = some t) (h : No f c ms k t) (hok : ∀ i t,i < k → f[i]? = some t → No f c ms i t) : ∀ i t,i < k + 1 → f[i]? = some t → No f c ms i t:=fun i u hi hu=>by
 rcases Nat.lt_or_ge i k with h1 | h1
 · exact hok i u h1 hu
 ·
  obtain rfl : i = k:=by omega
  obtain rfl:=Option.some.inj (ht.symm.trans hu);exact h
theorem Dn {F G H R J : Value} {g1 q c : Nat} {es : Array MapEntry} {D : List (P3 × P3)} {p : P3} {ms : List Mv} (w : World) (hB1 : fQ w g1 [F,G,H,R,.map (some q),J] 73) (hM : jN w q es c) (hD : bZ pt pt D es c) (hi : ∀ p,(cP D p).getD p = kA ms p) :
 eE prog 75 [.pointer (some ⟨g1,0,none⟩),pt p] w (fun v _=>v = pt (kA ms p)):=(aao w hB1 hM hD).mono fun v w' _ h=>by rw [h,hi]
theorem aat {fs gs : List T3} {N cap N2 cap2 : Nat} {A A2 : Option Addr} {H R J : Value} {g1 q7 c7 : Nat} {es7 : Array MapEntry} {D : List (P3 × P3)} {ms : List Mv} (w : World) (hB1 : fQ w g1 [.slice A N cap,.slice A2 N2 cap2,H,R,.map (some q7),J] 73) (hT : dZ w A N fs) (hT2 : dZ w A2 N2 gs) (hN : N ≤ 300000) (hN2 : N2 ≤ 300000) (hMq : jN w q7 es7 c7) (hD : bZ pt pt D es7 c7) (himg : ∀ p,(cP D p).getD p = kA ms p) : eE prog 34 [.pointer (some ⟨g1,0,none⟩)] w (fun v _=>v = .int .i64 (if pM fs gs ms = true then 0 else 32)):=by
 refine ⟨ac7,?_⟩;have m:=bS.refl w
 go_enter func34,ntmps34
 refine aC fun K1 k1=>wp_region_lit (aA (aF) (aD (k1 _ _ ?_)));refine aC fun K2 k2=>wp_region_lit ?_;simp only[zz];refine jL m ?_;clear m;intro q8 u m;have hD8:=bZ.nil (K:=T3) (V:=Bool) tr Value.bool;refine aA (aF) (aD (k2 _ _ ?_));refine aC fun K3 k3=>aC fun K4 k4=>wp_region_lit (aA (aB) (aA (cN rfl) ?_));simp only[zz];refine aA (aJ (c:=0) iA rfl iJ rfl rfl) ?_;simp only[zz];refine aI rfl ((hB1.ext m.ext).lies1 mG rfl) ?_;simp only[zz];refine aA (bC rfl cC rfl) (aA (aB) (aD (k4 _ _ ?_)));refine wp_block ?_;simp only[zz];try simp only[Nat.zero_add,Nat.reduceAdd,Nat.reduceMul,Int.reduceToNat]
 refine bN [18] [5,19,20,21,22,23,24,25] (fun n vs wl=>∃ (k : Nat) (es : Array MapEntry) (cc : Nat),vs = [.int .i64 (k:Int)] ∧ bS w wl [mI q8 es cc] ∧ (bZ tr Value.bool (fP [] ((gs.take k).map iY)) es cc) ∧ (k ≤ N2) ∧ (n = N2 - k)) ?_ ?_
 ·
  apply Exists.intro;simp only[zQ,zR,zD,zE];exact ⟨0,_,_,rfl,m,hD8,Nat.zero_le _,rfl⟩
 ·
  intro n vs wr hI u;clear m;obtain ⟨k,es8,c8,rfl,m,hD8,hk,hn⟩:=hI;simp only[zu,zF,zG];refine aC fun K5 k5=>wp_region_lit (aA (cS rfl rfl) (aD (k5 _ _ ?_)));refine aC fun K6 k6=>?_;simp only[zz];refine cD rfl (fun hc1=>?_) (fun hc1=>?_)
  ·
   obtain ⟨t,ht,_,a,rfl,hrow⟩:=hT2.get (i:=k) (by omega);refine wp_skip (k6 _ _ ?_);refine aC fun K7 k7=>wp_block (aC fun K8 k8=>wp_region_lit (aA (aL cC aV rfl rfl (by omega) (by omega) (dP (Int.toNat_natCast _))) ?_));simp only[zz];refine aI rfl ((hrow.ext m.ext).lies eJ aV) ?_;simp only[zz];refine aY m iR rfl ?_;clear m;intro g3 u m;simp only[zz];refine aQ m 0 rfl rfl rfl aV (dH rfl) rfl ?_;clear m;intro u m;simp only[zy,zx,bB,zF,zG,Nat.reduceAdd] at m;refine aD (k8 _ _ ?_);refine wp_region_lit (aA (aB) ?_);simp only[zz];refine aI rfl ((m.b 0 rfl).full eJ aV) ?_;simp only[zz];refine cW m rfl rfl (Gd (t:=t)) ?_;clear m;intro u m;simp only[zz];refine eZ (ek:=tr) (en:=Value.bool) (a:=iY t) (v:=true) m 1 rfl underlying110 Xq rfl rfl rfl hD8 ?_;clear m;intro es8 c8 u m hD';clear hD8;have hD8:=hD';clear hD';simp only[zF,zG] at m;refine aD (k7 _ _ ?_);refine wp_region_lit (aA (aR rfl rfl (aM (by omega) (by omega))) (aA (aB) (aD ?_)));simp only[zz];simp only[Exit.inBlock,Exit.then];refine ⟨N2 - (k + 1),_,?_,rfl,?_,?_⟩
   · omega
   · simp only[zz,zv]
   ·
    simp only[zQ,zR,zD,zE];exact ⟨k + 1,_,_,rfl,(m.sel [false,true]),by rw [eR ht,List.map_append,List.map_cons,List.map_nil,lJ];exact hD8,by omega,rfl⟩
  ·
   have hkN : k = N2:=by omega
   rw [List.take_of_length_le (by rw [hT2.len];omega)] at hD8;refine wp_exit (k3 _ _ ?_);refine aC fun K9 k9=>wp_region_lit (aA (aB) (aA (cN rfl) (aA (aJ (c:=0) iA rfl iJ rfl rfl) ?_)));simp only[zz];refine aI rfl ((hB1.ext m.ext).lies1 mG rfl) ?_;simp only[zz];refine bE rfl rfl (Dg _ (hT2.ext m.ext) (by omega)) ?_;rintro v u e ⟨g9,es9,c9,rfl,hM,hD9⟩;replace m:=m.plus hM;clear hM e;simp only[List.cons_append,List.nil_append] at m;refine aA (aF) (aD (k9 _ _ ?_));refine aC fun K10 k10=>aC fun K11 k11=>wp_region_lit (aA (aB) (aA (cN rfl) ?_));simp only[zz];refine aA (aJ (c:=0) iA rfl iJ rfl rfl) ?_;simp only[zz];refine aI rfl ((hB1.ext m.ext).lies1 mG rfl) ?_;simp only[zz];refine aA (bC rfl cC rfl) (aA (aB) (aD (k11 _ _ ?_)));refine wp_block ?_;simp only[zz];try simp only[Nat.zero_add,Nat.reduceAdd,Nat.reduceMul,Int.reduceToNat]
   refine bN [36] [2,8,9,37,38,39,40,41,42,43,44,45,46,47,48,49,50,51,52,53,54,55,56,57,58,59,60,61,62,63,64,65,66,67,68,69,70,71,72,73,74,75,76,77,78,79,80,81,82,83,84,85,86,87,88,89,90,91,92,93,94,95,96,97,98] (fun n vs wl=>∃ (k : Nat) (es : Array MapEntry) (cc : Nat),vs = [.int .i64 (k:Int)] ∧ bS w wl [mI g9 es9 c9,mI q8 es cc] ∧ (bZ tr Value.bool (yF (fP [] (gs.map iY)) (mO ms (fs.take k))) es cc) ∧ (∀ i t,i < k → fs[i]? = some t → No fs gs ms i t) ∧ (k ≤ N) ∧ (n = N - k)) ?_ ?_
   ·
    apply Exists.intro;simp only[zQ,zR,zD,zE];exact ⟨0,_,_,rfl,m,hD8,fun _ _ h=>absurd h (Nat.not_lt_zero _),Nat.zero_le _,rfl⟩
   ·
    intro n vs wr hI u;clear m;obtain ⟨k,es8,c8,rfl,m,hD8,hok,hk,hn⟩:=hI;simp only[zu,zF,zG];refine aC fun K12 k12=>wp_region_lit (aA (cS rfl rfl) (aD (k12 _ _ ?_)));refine aC fun K13 k13=>?_;simp only[zz];refine cD rfl (fun hc2=>?_) (fun hc2=>?_)
    ·
     obtain ⟨t,ht,_,a,rfl,hrow⟩:=hT.get (i:=k) (by omega);refine wp_skip (k13 _ _ ?_);refine aC fun K14 k14=>wp_block (aC fun K15 k15=>wp_region_lit (aA (aL cC aV rfl rfl (by omega) (by omega) (dP (Int.toNat_natCast _))) ?_));simp only[zz];refine aI rfl ((hrow.ext m.ext).lies eJ aV) ?_;simp only[zz];refine aY m iR rfl ?_;clear m;intro g3 u m;simp only[zz];refine aQ m 0 rfl rfl rfl aV (dH rfl) rfl ?_;clear m;intro u m;simp only[zy,zx,bB,zF,zG,Nat.reduceAdd] at m;refine aD (k15 _ _ ?_);refine aC fun K16 k16=>?_;refine nI 14 [0,1,2,3,4,5,6,7,8,9,10,11,12] [⟨13,9,53,[.int .i64 0,.int .i64 0,.int .i64 0,.int .i64 0,.int .i64 0,.int .i64 0,.int .i64 0,.int .i64 0,.int .i64 0]⟩] aP (by kernel_rfl) (al1 ⟨_,_,_,rfl,by kernel_rfl,_,iR,rfl⟩) (ol:=?_) ?hol ?_
     case hol=>simp only[zw,zQ,zR];try rfl
     intro u e;replace m:=m.ext' e;clear e;refine iV (aB) (iV (aH bO aG rfl rfl (by decide) (by decide) rfl) ?_);simp only[zz];refine sP rfl (fun u e=>(((m.ext' e).b 0 rfl).lies aK aG rfl rfl)) ?_;simp only[zz,zy,Nat.zero_add,Nat.reduceAdd,Nat.reduceMul,Int.reduceToNat];refine Ag rfl rfl (fun u e=>Dn (p:=t.a) _ (hB1.ext (m.ext' e).ext) (hMq.ext (m.ext' e).ext) hD himg) (iV (aB) (iV (aH bO aG rfl rfl (by decide) (by decide) rfl) ?_));simp only[zz];refine sP rfl (fun u e=>(((m.ext' e).b 0 rfl).lies aK aG rfl rfl)) ?_;simp only[zz,zy,Nat.zero_add,Nat.reduceAdd,Nat.reduceMul,Int.reduceToNat];refine Ag rfl rfl (fun u e=>Dn (p:=t.b) _ (hB1.ext (m.ext' e).ext) (hMq.ext (m.ext' e).ext) hD himg) (iV (aB) (iV (aH bO aG rfl rfl (by decide) (by decide) rfl) ?_));simp only[zz];refine sP rfl (fun u e=>(((m.ext' e).b 0 rfl).lies aK aG rfl rfl)) ?_;simp only[zz,zy,Nat.zero_add,Nat.reduceAdd,Nat.reduceMul,Int.reduceToNat];refine Ag rfl rfl (fun u e=>Dn (p:=t.c) _ (hB1.ext (m.ext' e).ext) (hMq.ext (m.ext' e).ext) hD himg) (iV (bJ rfl rfl rfl) (Up ?_));simp only[zz];refine mf1 m ?_;clear m;intro g4 u m;simp only[zJ,zK,zF,zG];refine aQ m 0 rfl rfl rfl aV (dH rfl) rfl ?_;clear m;intro u m;simp only[zy,zx,bB,zF,zG,Nat.reduceAdd] at m;refine aD (k16 _ _ ?_);refine aC fun K17 k17=>aC fun K18 k18=>wp_region_lit (aA (aH bO aG rfl rfl (by decide) (by decide) rfl) ?_);simp only[zz];refine aI rfl ((m.b 0 rfl).lies aK aG rfl rfl) ?_;simp only[zz,zy,Nat.zero_add,Nat.reduceAdd,Nat.reduceMul,Int.reduceToNat];refine aA (aH bO aG rfl rfl (by decide) (by decide) rfl) ?_;simp only[zz];refine aI rfl ((m.b 0 rfl).lies aK aG rfl rfl) ?_;simp only[zz,zy,Nat.zero_add,Nat.reduceAdd,Nat.reduceMul,Int.reduceToNat];refine aA (iF rfl rfl) (aA (aB) (dS rfl (fun hb=>aH bO aG rfl rfl (by decide) (by decide) rfl) ?_));simp only[zz];refine iQ rfl (fun hb=>dI (bW hb rfl) ((m.b 0 rfl).lies aK aG rfl rfl)) ?_;simp only[zz,zy,Nat.zero_add,Nat.reduceAdd,Nat.reduceMul,Int.reduceToNat];refine dS rfl (fun hb=>aH bO aG rfl rfl (by decide) (by decide) rfl) ?_;simp only[zz];refine iQ rfl (fun hb=>dI (bW hb rfl) ((m.b 0 rfl).lies aK aG rfl rfl)) ?_;simp only[zz,zy,Nat.zero_add,Nat.reduceAdd,Nat.reduceMul,Int.reduceToNat];refine dS rfl (fun hb=>iF (bW hb rfl) (bW hb rfl)) (aA (dV rfl rfl rfl) (aA (aB) (dS rfl (fun hb=>aH bO aG rfl rfl (by decide) (by decide) rfl) ?_)));simp only[zz];refine iQ rfl (fun hb=>dI (bW hb rfl) ((m.b 0 rfl).lies aK aG rfl rfl)) ?_;simp only[zz,zy,Nat.zero_add,Nat.reduceAdd,Nat.reduceMul,Int.reduceToNat];refine dS rfl (fun hb=>aH bO aG rfl rfl (by decide) (by decide) rfl) ?_;simp only[zz];refine iQ rfl (fun hb=>dI (bW hb rfl) ((m.b 0 rfl).lies aK aG rfl rfl)) ?_;simp only[zz,zy,Nat.zero_add,Nat.reduceAdd,Nat.reduceMul,Int.reduceToNat];refine dS rfl (fun hb=>iF (bW hb rfl) (bW hb rfl)) (aA (dV rfl rfl rfl) (aD (k18 _ _ ?_)));simp only[zz];refine fB rfl (fun hc3=>?_) (fun hc3=>?_)
     ·
      have hn : (t.img ms).nd = true:=aaV.symm.trans hc3;refine aC fun K19 k19=>wp_region_lit (aI rfl ((m.b 0 rfl).full eJ aV) ?_);simp only[zz];refine cW m rfl rfl (Gd (t:=t.img ms)) ?_;clear m;intro u m;simp only[zz];refine aQ m 0 rfl rfl rfl aV (dH rfl) rfl ?_;clear m;intro u m;simp only[zy,zx,bB,zF,zG,Nat.reduceAdd] at m;refine aD (k19 _ _ ?_);refine aC fun K20 k20=>aC fun K21 k21=>wp_region_lit (aA (aB) ?_);simp only[zz];refine aI rfl ((m.b 0 rfl).full eJ aV) ?_;simp only[zz];refine eL (eB (ek:=tr) (en:=Value.bool) (k:=iY (t.img ms)) (v0:=false) underlying110 lA Xq rfl rfl (m.p 3 rfl) hD8) ?_;simp only[zz];refine aA (iO rfl) (aD (k21 _ _ ?_));simp only[zz];refine fB rfl (fun hc4=>?_) (fun hc4=>?_)
      ·
       have hnk:=Xr ht (mt (aaW hn hc4).1 (by decide));refine aC fun K22 k22=>wp_region_lit (aA (aF) (aD (k22 _ _ ?_)));refine wp_ret ?_;simp only[zz];try simp only[Exit.inBlock,Exit.then,if_true]
       refine bP rfl rfl ?_;try simp only[zD,zE]
       exact ⟨_,rfl,m.ext,by rw [if_neg (by rw [hnk];exact Bool.false_ne_true)]⟩
      ·
       have hk2:=Pp ht ((aaW hn hc4).2 rfl) hok;refine wp_skip (k20 _ _ ?_);refine aC fun K23 k23=>wp_region_lit (aA (aB) ?_);simp only[zz];refine aI rfl ((m.b 0 rfl).full eJ aV) ?_;simp only[zz];refine eZ (ek:=tr) (en:=Value.bool) (a:=iY (t.img ms)) (v:=false) m 3 rfl underlying110 Xq rfl rfl rfl hD8 ?_;clear m;intro es8 c8 u m hD';clear hD8;have hD8:=hD';clear hD';simp only[zF,zG] at m;refine aD (k23 _ _ ?_);refine wp_exit (k14 _ _ ?_);refine wp_region_lit (aA (aR rfl rfl (aM (by omega) (by omega))) (aA (aB) (aD ?_)));simp only[zz];simp only[Exit.inBlock,Exit.then];refine ⟨N - (k + 1),_,?_,rfl,?_,?_⟩
       · omega
       · simp only[zz,zv]
       ·
        simp only[zQ,zR,zD,zE];exact ⟨k + 1,_,_,rfl,(m.sel [false,false,true,true]),by rw [acj ht hn,Sw];exact hD8,hk2,by omega,rfl⟩
     ·
      have hn : (t.img ms).nd = false:=aaV.symm.trans hc3;refine wp_skip (k17 _ _ ?_);refine aC fun K24 k24=>wp_region_lit (aA (aB) (aA (aH bO aG rfl rfl (by decide) (by decide) rfl) ?_));simp only[zz];refine aI rfl ((m.b 0 rfl).lies aK aG rfl rfl) ?_;simp only[zz,zy,Nat.zero_add,Nat.reduceAdd,Nat.reduceMul,Int.reduceToNat];refine aA (aH bO aG rfl rfl (by decide) (by decide) rfl) ?_;simp only[zz];refine aI rfl ((m.b 0 rfl).lies aK aG rfl rfl) ?_;simp only[zz,zy,Nat.zero_add,Nat.reduceAdd,Nat.reduceMul,Int.reduceToNat];refine aA (cA rfl rfl) ?_;simp only[zz];refine eL (eB (ek:=ed) (en:=Value.bool) (k:=((t.img ms).a,(t.img ms).b)) (v0:=false) mP lA mB rfl rfl (m.p 2 rfl) hD9) ?_;simp only[zz];refine aA (iO rfl) (aA (aB) (gN rfl (fun hb=>aB) (gN rfl (fun hb=>aH bO aG rfl rfl (by decide) (by decide) rfl) ?_)));simp only[zz];refine mT rfl (fun hb=>dI (bW hb rfl) ((m.b 0 rfl).lies aK aG rfl rfl)) ?_;simp only[zz,zy,Nat.zero_add,Nat.reduceAdd,Nat.reduceMul,Int.reduceToNat];refine gN rfl (fun hb=>aH bO aG rfl rfl (by decide) (by decide) rfl) ?_;simp only[zz];refine mT rfl (fun hb=>dI (bW hb rfl) ((m.b 0 rfl).lies aK aG rfl rfl)) ?_;simp only[zz,zy,Nat.zero_add,Nat.reduceAdd,Nat.reduceMul,Int.reduceToNat];refine gN rfl (fun hb=>cA (adY hb rfl rfl) (adY hb rfl rfl)) ?_;simp only[zz];refine mT rfl (fun hb=>eB (ek:=ed) (en:=Value.bool) (k:=((t.img ms).b,(t.img ms).c)) (v0:=false) mP lA mB (bW hb rfl) (bW hb rfl) (m.p 2 rfl) hD9) ?_;simp only[zz];refine gN rfl (fun hb=>iO (bW hb rfl)) (aA (iW rfl rfl rfl) (aD (k24 _ _ ?_)));simp only[zz];refine fB rfl (fun hc5=>?_) (fun hc5=>?_)
      ·
       have hnk:=Xr ht (mt (aaX hn hc5).1 (by decide));refine aC fun K25 k25=>wp_region_lit (aA (aF) (aD (k25 _ _ ?_)));refine wp_ret ?_;simp only[zz];try simp only[Exit.inBlock,Exit.then,if_true]
       refine bP rfl rfl ?_;try simp only[zD,zE]
       exact ⟨_,rfl,m.ext,by rw [if_neg (by rw [hnk];exact Bool.false_ne_true)]⟩
      ·
       have hk2:=Pp ht ((aaX hn hc5).2 rfl) hok;refine wp_skip (k14 _ _ ?_);refine wp_region_lit (aA (aR rfl rfl (aM (by omega) (by omega))) (aA (aB) (aD ?_)));simp only[zz];simp only[Exit.inBlock,Exit.then];refine ⟨N - (k + 1),_,?_,rfl,?_,?_⟩
       · omega
       · simp only[zz,zv]
       ·
        simp only[zQ,zR,zD,zE];exact ⟨k + 1,_,_,rfl,(m.sel [false,false,true,true]),by rw [ack ht hn];exact hD8,hk2,by omega,rfl⟩
    ·
     have hkN : k = N:=by omega
     rw [List.take_of_length_le (by rw [hT.len];omega)] at hD8;have hall : ∀ i t,fs[i]? = some t → No fs gs ms i t:=fun i t ht=>hok i t (by have:=(List.getElem?_eq_some_iff.1 ht).1;rw [hT.len] at this;omega) ht;refine wp_exit (k10 _ _ ?_);refine aC fun K26 k26=>aC fun K27 k27=>wp_region_lit (aA (aB) ?_);simp only[zz];refine vN m underlying110 rfl (m.p 1 rfl) ?_;clear m;intro r1 u m;refine aD (k27 _ _ ?_);refine wp_block ?_;simp only[zz];try simp only[Nat.zero_add,Nat.reduceAdd,Nat.reduceMul,Int.reduceToNat]
     refine bN [] [2,11,101,102,103,104,105] (fun n vs wl=>∃ (dn rs : List (T3 × Bool)) (sn : Array Nat),vs = [] ∧ bS w wl [iI r1 q8 c8 sn,mI q8 es8 c8] ∧ (lB tr Value.bool (yF (fP [] (gs.map iY)) (mO ms (fs))) es8 sn dn rs) ∧ (∀ y ∈ dn,y.2 = false) ∧ (n = rs.length)) ?_ ?_
     ·
      apply Exists.intro;simp only[zQ,zR,zD,zE];exact ⟨[],_,#[],trivial,(m.sel [true,false,true]),lB.start hD8,fun _ h=>(by cases h),rfl⟩
     ·
      intro n vs wr hI u;clear m;obtain ⟨dn,rs,sn,rfl,m,hT9,hno,hn⟩:=hI;simp only[zu,zF,zG];refine aC fun K28 k28=>wp_region_lit (Cg m 0 rfl rfl (m.p 1 rfl) hD8 hT9 ?_);clear m;intro bb kk vv sn u m hN;simp only[zF,zG] at m;refine aA (rK rfl) (aD (k28 _ _ ?_));refine aC fun K29 k29=>?_;simp only[zz];refine fB rfl (fun hc6=>?_) (fun hc6=>?_)
      ·
       obtain ⟨kp,kb,rs2,hp,hT10⟩:=Cj hc6 hN;refine wp_skip (k29 _ _ ?_);refine wp_block (aC fun K30 k30=>wp_region_lit (eL (rL rfl (m.r 0 rfl) (m.p 1 rfl) hD8 hT10) ?_));simp only[zz];refine aA (bL rfl rfl) (aA (aF) (aD (k30 _ _ ?_)));refine aC fun K31 k31=>wp_region_lit (aA (aB) (aD (k31 _ _ ?_)));simp only[zz];refine fB rfl (fun hc7=>?_) (fun hc7=>?_)
       ·
        have hnk:=Xs hT10 (y:=kp) (by rw [← hc7];simp);refine aC fun K32 k32=>wp_region_lit (aA (aF) (aD (k32 _ _ ?_)));refine wp_ret ?_;simp only[zz];try simp only[Exit.inBlock,Exit.then,if_true]
        refine bP rfl rfl ?_;try simp only[zD,zE]
        exact ⟨_,rfl,m.ext,by rw [if_neg (by rw [hnk];exact Bool.false_ne_true)]⟩
       ·
        skip
        refine wp_skip ?_;simp only[Exit.inBlock,Exit.then];refine ⟨rs2.length,_,?_,rfl,?_,?_⟩
        · rw [hn,hp.length_eq];exact Nat.lt_succ_self _
        · simp only[zz,zv]
        ·
         simp only[zQ,zR,zD,zE];exact ⟨dn ++ [(kp,kb)],rs2,_,trivial,m,hT10,fun y hy=>(List.mem_append.1 hy).elim (hno y) fun hy=>by obtain rfl:=List.mem_singleton.1 hy;exact hc7,rfl⟩
      ·
       obtain rfl:=Ci hc6 hN;refine wp_exit (k26 _ _ ?_);refine aC fun K33 k33=>wp_region_lit (aA (aF) (aD (k33 _ _ ?_)));refine wp_ret ?_;simp only[zz];try simp only[Exit.inBlock,Exit.then,if_true]
       refine bP rfl rfl ?_;try simp only[zD,zE]
       exact ⟨_,rfl,m.ext,by rw [if_pos (aas hT9 hno hall)]⟩
end Go.Proofs.YtfohfflkhpfjeaaGreatDoor
namespace Go.Proofs.YtfohfflkhpfjeaaGreatDoor
open Go.Proofs.Tryz
open Go.RowKit Go.Lith
set_option maxRecDepth 100000
attribute [local irreducible] wpList wpQuiet dD Code.wp
theorem Ic {A : Option Addr} {xs : List Nat} {b na cap : Nat} (w : World) (hS : dK w b A na cap xs) : eE prog 94 [.slice A na cap] w (fun v _=>v = .slice A (trim xs).length cap):=by
 skip
 refine ⟨adQ,?_⟩;have hX:=cZ.refl w;obtain rfl:=hS.eq;have hl:=hS.len;have hle:=hS.le;have hcp:=hS.cap
 go_enter func94,ntmps94
 refine aC (fun K1 hK1=>wp_region_lit (aA (aF) ?_));simp only[zz];refine aD (hK1 _ _ ?_);refine aC (fun K2 hK2=>wp_block ?_);refine bN [0] [3,4,5,6,7,8,9,10,11,12,13,14,15,16,17,18,19] (fun n vs wl=>∃ (k : Nat),vs = [.slice A k cap] ∧ (cZ w wl) ∧ (k ≤ xs.length) ∧ (trim (xs.take k) = trim xs) ∧ (n = k)) ?_ ?_
 ·
  apply Exists.intro;simp only[zQ,zR,zD,zE];exact ⟨xs.length,rfl,hX,Nat.le_refl _,by rw [List.take_length],rfl⟩
 ·
  intro n vs wr hI u;obtain ⟨k,rfl,hX,hk,ht,hn⟩:=hI;simp only[zu,zF,zG];refine aC (fun K3 hK3=>aC (fun K4 hK4=>?_));by_cases hk0 : 0 < k
  ·
   obtain ⟨a,rfl,hcell,hlt⟩:=(hS.ext hX).get (show k - 1 < xs.length by omega);refine wp_region_lit (aA (aB) (aA (bC rfl bY rfl) (aA (vB rfl rfl (by omega)) ?_)));simp only[zz];refine aA (aB) ?_;simp only[zz];refine bM rfl (aA (aB) ?_);simp only[zz];refine bM rfl (aA (aB) ?_);simp only[zz];refine bM rfl (aA (bC rfl bY rfl) ?_);simp only[zz];refine bM rfl (aA (eI rfl rfl (aM (by omega) (by omega))) ?_);simp only[zz];refine bM rfl (aA (aL bY aT rfl rfl (by omega) (by omega) (fW (show _ = k - 1 by omega))) ?_);simp only[zz];refine bM rfl (aI rfl (lies1 hcell bF) ?_);simp only[zz];refine bM rfl (aA (kL rfl rfl) (aA (eF rfl) ?_));simp only[zz];refine aD (hK4 _ _ ?_);refine cD rfl (fun hc1=>?_) (fun hc1=>?_)
   ·
    refine wp_skip ?_;refine hK3 _ _ (wp_block (wp_region_lit (aA (aB) (aA (aB) (aA (bC rfl bY rfl) ?_)))));simp only[zz];refine aA (eI rfl rfl (aM (by omega) (by omega))) (aA (kB bY aT rfl rfl (show _ = k - 1 by omega) (by omega) (by omega)) (aA (aF) ?_));simp only[zz];refine aD ?_;simp only[Exit.inBlock,Exit.then];refine ⟨k - 1,_,?_,rfl,?_,?_⟩
    · omega
    · simp only[zz,zv]
    ·
     simp only[zQ,zR,zD,zE];exact ⟨k - 1,rfl,hX,by omega,Er hk0 (by omega) hc1 ht,rfl⟩
   ·
    refine wp_exit ?_;refine hK2 _ _ (aC (fun K5 hK5=>wp_region_lit (aA (aB) (aA (aF) ?_))));simp only[zz];refine aD (hK5 _ _ ?_);refine wp_ret ?_;try simp only[Exit.inBlock,Exit.then]
    refine bP rfl rfl ?_;try simp only[zD,zE]
    exact ⟨_,rfl,hX,by rw [← Im hk0 (by omega) hc1 ht]⟩
  ·
   obtain rfl : k = 0:=by omega
   refine wp_region_lit (aA (aB) (aA (bC rfl bY rfl) (aA (sF rfl rfl (by omega)) ?_)));simp only[zz];refine aA (aB) ?_;simp only[zz];refine dA rfl ?_;simp only[zz];refine dA rfl ?_;simp only[zz];refine dA rfl ?_;simp only[zz];refine dA rfl ?_;simp only[zz];refine dA rfl ?_;simp only[zz];refine dA rfl ?_;simp only[zz];refine dA rfl ?_;simp only[zz];refine aA (gF rfl) ?_;simp only[zz];refine aD (hK4 _ _ ?_);refine iT rfl (wp_exit ?_);refine hK2 _ _ (aC (fun K6 hK6=>wp_region_lit (aA (aB) (aA (aF) ?_))));simp only[zz];refine aD (hK6 _ _ ?_);refine wp_ret ?_;try simp only[Exit.inBlock,Exit.then]
   refine bP rfl rfl ?_;try simp only[zD,zE]
   exact ⟨_,rfl,hX,by rw [← Io ht]⟩
theorem Sx {A B : Option Addr} {xs ys : List Nat} {b b2 na nb ca cb : Nat} (w : World) (hS : dK w b A na ca xs) (hR : dK w b2 B nb cb ys) (tx : eY xs) (ty : eY ys) : eE prog 61 [.slice A na ca,.slice B nb cb] w (fun v _=>v = .int .i64 (Iq (val 65536 xs) (val 65536 ys))):=by
 skip
 refine ⟨adr,?_⟩;have hX:=cZ.refl w;obtain rfl:=hS.eq;obtain rfl:=hR.eq;have hl:=hS.len;have hl2:=hR.len
 go_enter func61,ntmps61
 refine aC (fun K1 hK1=>wp_region_lit (aA (aF) ?_));simp only[zz];refine aD (hK1 _ _ ?_);refine aC (fun K2 hK2=>aC (fun K3 hK3=>wp_region_lit (aA (aB) (aA (bC rfl bY rfl) (aA (aB) ?_)))));simp only[zz];refine aA (bC rfl bY rfl) (aA (mV rfl rfl) ?_);simp only[zz];refine aD (hK3 _ _ ?_);refine cD rfl (fun hc1=>?_) (fun hc1=>?_)
 ·
  refine aC (fun K4 hK4=>aC (fun K5 hK5=>wp_region_lit (aA (aB) (aA (bC rfl bY rfl) (aA (aB) ?_)))));simp only[zz];refine aA (bC rfl bY rfl) (aA (cS rfl rfl) ?_);simp only[zz];refine aD (hK5 _ _ ?_);refine cD rfl (fun hc2=>?_) (fun hc2=>?_)
  ·
   refine aC (fun K6 hK6=>wp_region_lit (aA (aF) ?_));simp only[zz];refine aD (hK6 _ _ ?_);refine wp_ret ?_;try simp only[Exit.inBlock,Exit.then]
   refine bP rfl rfl ?_;try simp only[zD,zE]
   exact ⟨_,rfl,hX,by rw [Iq,if_pos (iU (by omega) hS.digs hR.digs ty (by omega))]⟩
  ·
   refine wp_skip ?_;refine hK4 _ _ (aC (fun K7 hK7=>wp_region_lit (aA (aF) ?_)));simp only[zz];refine aD (hK7 _ _ ?_);refine wp_ret ?_;try simp only[Exit.inBlock,Exit.then]
   refine bP rfl rfl ?_;try simp only[zD,zE]
   exact ⟨_,rfl,hX,by have:=iU (B:=65536) (by omega) hR.digs hS.digs tx (by omega);rw [Iq,if_neg (by omega),if_pos this]⟩
 ·
  refine wp_skip ?_;refine hK2 _ _ (aC (fun K8 hK8=>aC (fun K9 hK9=>wp_region_lit (aA (aB) (aA (bC rfl bY rfl) (aA (eI rfl rfl (aM (by omega) (by omega))) ?_))))));simp only[zz];refine aA (aF) ?_;simp only[zz];refine aD (hK9 _ _ ?_);refine wp_block (bN [5] [4,19,20,21,22,23,24,25,26,27,28,29,30,31,32,33,34,35,36,37,38,39,40] (fun n vs wl=>∃ (k : Nat),vs = [.int .i64 ((k:Int) - 1)] ∧ (cZ w wl) ∧ (k ≤ xs.length) ∧ (xs.drop k = ys.drop k) ∧ (n = k)) ?_ ?_)
  ·
   apply Exists.intro;simp only[zQ,zR,zD,zE];exact ⟨xs.length,rfl,hX,Nat.le_refl _,by rw [List.drop_length,show xs.length = ys.length by omega,List.drop_length],rfl⟩
  ·
   intro n vs wr hI u;obtain ⟨k,rfl,hX,hk,hd,hn⟩:=hI;simp only[zu,zF,zG];refine aC (fun K10 hK10=>aC (fun K11 hK11=>wp_region_lit (aA (aB) (aA (oR rfl rfl) ?_))));simp only[zz];refine aD (hK11 _ _ ?_);refine cD rfl (fun hc3=>?_) (fun hc3=>?_)
   ·
    refine wp_skip ?_;refine hK10 _ _ (aC (fun K12 hK12=>wp_block (aC (fun K13 hK13=>?_))));obtain ⟨a,rfl,hca,_⟩:=(hS.ext hX).get (show k - 1 < xs.length by omega);obtain ⟨b,rfl,hcb,_⟩:=(hR.ext hX).get (show k - 1 < ys.length by omega);refine gQ aP (by kernel_rfl) (aN (aB) (aN (aB) (aN (aL bY aT rfl rfl (by omega) (by omega) (fW (show _ = k - 1 by omega))) ?_)));simp only[zz];refine gW rfl (fun _ hE'=>(lies1 (hE'.cell hca) bF)) ?_;simp only[zz];refine aN (aB) (aN (aB) (aN (aL bY aT rfl rfl (by omega) (by omega) (fW (show _ = k - 1 by omega))) ?_));simp only[zz];refine gW rfl (fun _ hE'=>(lies1 (hE'.cell hcb) bF)) ?_;simp only[zz];refine aN (mV rfl rfl) ?_;simp only[zz];refine dN ?_;intro w1 hE;replace hX:=hX.trans hE;clear hE;refine hK13 _ _ (cD rfl (fun hc4=>?_) (fun hc4=>?_))
    ·
     refine aC (fun K14 hK14=>aC (fun K15 hK15=>?_));have hca:=(hS.ext hX).at (show k - 1 < xs.length by omega);have hcb:=(hR.ext hX).at (show k - 1 < ys.length by omega);refine gQ aP (by kernel_rfl) (aN (aB) (aN (aB) (aN (aL bY aT rfl rfl (by omega) (by omega) (fW (show _ = k - 1 by omega))) ?_)));simp only[zz];refine gW rfl (fun _ hE'=>(lies1 (hE'.cell hca) bF)) ?_;simp only[zz];refine aN (aB) (aN (aB) (aN (aL bY aT rfl rfl (by omega) (by omega) (fW (show _ = k - 1 by omega))) ?_));simp only[zz];refine gW rfl (fun _ hE'=>(lies1 (hE'.cell hcb) bF)) ?_;simp only[zz];refine aN (cS rfl rfl) ?_;simp only[zz];refine dN ?_;intro w2 hE;replace hX:=hX.trans hE;clear hE;refine hK15 _ _ (cD rfl (fun hc5=>?_) (fun hc5=>?_))
     ·
      refine aC (fun K16 hK16=>wp_region_lit (aA (aF) ?_));simp only[zz];refine aD (hK16 _ _ ?_);refine wp_ret ?_;try simp only[Exit.inBlock,Exit.then]
      refine bP rfl rfl ?_;try simp only[zD,zE]
      exact ⟨_,rfl,hX,by rw [Iq,if_pos (Li hS.digs (by omega) (by omega) (by omega) hd hc5)]⟩
     ·
      refine wp_skip ?_;refine hK14 _ _ (aC (fun K17 hK17=>wp_region_lit (aA (aF) ?_)));simp only[zz];refine aD (hK17 _ _ ?_);refine wp_ret ?_;try simp only[Exit.inBlock,Exit.then]
      refine bP rfl rfl ?_;try simp only[zD,zE]
      exact ⟨_,rfl,hX,by have:=Li hR.digs (by omega) (by omega) (by omega) hd.symm (by omega);rw [Iq,if_neg (by omega),if_pos this]⟩
    ·
     refine wp_skip ?_;refine hK12 _ _ (wp_region_lit (aA (aB) (aA (eI rfl rfl (aM (by omega) (by omega))) (aA (aF) ?_))));simp only[zz];refine aD ?_;rw [show ((k:Int) - 1 - 1) = ((k - 1 : Nat) : Int) - 1 by omega];simp only[Exit.inBlock,Exit.then];refine ⟨k - 1,_,?_,rfl,?_,?_⟩
     · omega
     · simp only[zz,zv]
     ·
      simp only[zQ,zR,zD,zE];exact ⟨k - 1,rfl,hX,by omega,Xe (by omega) (by omega) (by omega) hd (by omega),rfl⟩
   ·
    refine wp_exit ?_;refine hK8 _ _ (aC (fun K18 hK18=>wp_region_lit (aA (aF) ?_)));simp only[zz];refine aD (hK18 _ _ ?_);refine wp_ret ?_;try simp only[Exit.inBlock,Exit.then]
    refine bP rfl rfl ?_;try simp only[zD,zE]
    exact ⟨_,rfl,hX,by have h0 : k = 0:=(by omega);subst h0;simp only[List.drop_zero] at hd;rw [hd,Iq,if_neg (by omega),if_neg (by omega)]⟩
theorem acl {A B : Option Addr} {xs ys : List Nat} {na nb ca cb : Nat} (w : World) (hS : dK w w.heap.size A na ca xs) (hR : dK w w.heap.size B nb cb ys) (hlx : xs.length ≤ 1000000000000) (hly : ys.length ≤ 1000000000000) : eE prog 60 [.slice A na ca,.slice B nb cb] w (acd (val 65536 xs + val 65536 ys) (max xs.length ys.length + 1)):=by
 skip
 refine ⟨adq,?_⟩;have hX:=cZ.refl w;obtain rfl:=hS.eq;obtain rfl:=hR.eq;obtain ⟨M,hM⟩ : ∃ M,M = max xs.length ys.length:=⟨_,rfl⟩
 rw [← hM]
 go_enter func60,ntmps60
 refine aC (fun K1 hK1=>wp_region_lit (aA (aF) ?_));simp only[zz];refine aD (hK1 _ _ ?_);refine aC (fun K2 hK2=>wp_region_lit (aA (aF) ?_));simp only[zz];obtain ⟨b5,hb5e,hb5l⟩:=hX.base;have hS5:=rT.of hX hb5e;have hO5:=jG.nil_of hX b5 3 1;clear hb5e;refine aD (hK2 _ _ ?_);refine aC (fun K3 hK3=>wp_region_lit (aA (aF) ?_));simp only[zz];refine aD (hK3 _ _ ?_);refine aC (fun K4 hK4=>aC (fun K5 hK5=>wp_region_lit (aA (aF) ?_)));simp only[zz];refine aD (hK5 _ _ ?_);refine wp_block (bN [5,6,7] [8,9,10,11,12,13,14,15,16,17,18,19,20,21,22,23,24,25,26,27,28,29,30,31,32,33,34,35,36,37,38,39,40,41,42,43,44,45,46,47,48,49,50,51,52] (fun n vs wl=>∃ (i c : Nat) (os : List Nat) (v5 : Value),vs = [v5,.int .i64 (c:Int),.int .i64 (i:Int)] ∧ (cZ w wl) ∧ (dK wl w.heap.size A xs.length ca xs) ∧ (dK wl w.heap.size B ys.length cb ys) ∧ (rT wl b5) ∧ (jG wl b5 3 1 v5 os.length (os.map tJ)) ∧ (os.length = i) ∧ (val 65536 os + 65536 ^ i * c = val 65536 (xs.take i) + val 65536 (ys.take i)) ∧ (cJ 65536 os) ∧ (c ≤ 1) ∧ (i ≤ M + 1) ∧ (i = M + 1 → c = 0) ∧ (n = M + 1 - i)) ?_ ?_)
 ·
  apply Exists.intro;simp only[zQ,zR,zD,zE];exact ⟨0,0,[],_,rfl,hX,hS,hR,hS5,hO5,rfl,by simp [val],jV _,by omega,by omega,fun _=>rfl,rfl⟩
 ·
  intro n vs wr hI u;obtain ⟨i,c,os,v5,rfl,hX,hS,hR,hS5,hO5,hlo,hv,hd,hc,hi,hic,hn⟩:=hI;simp only[zu,zF,zG];refine aC (fun K6 hK6=>aC (fun K7 hK7=>?_));rcases (show i < xs.length ∨ (¬ i < xs.length ∧ i < ys.length) ∨ (¬ i < xs.length ∧ ¬ i < ys.length ∧ 0 < c) ∨ (¬ i < xs.length ∧ ¬ i < ys.length ∧ c = 0) by omega) with hw | ⟨hw,hw2⟩ | ⟨hw,hw2,hw3⟩ | ⟨hw,hw2,rfl⟩
  ·
   refine wp_region_lit (aA (aB) (aA (aB) (aA (bC rfl bY rfl) ?_)));simp only[zz];refine aA (bT rfl rfl (by omega)) (aA (aB) ?_);simp only[zz];refine fG rfl ?_;simp only[zz];refine fG rfl ?_;simp only[zz];refine fG rfl ?_;simp only[zz];refine fG rfl ?_;simp only[zz];refine aA (eF rfl) (aA (aB) ?_);simp only[zz];refine fG rfl ?_;simp only[zz];refine fG rfl ?_;simp only[zz];refine aA (eF rfl) ?_;simp only[zz];refine aD (hK7 _ _ ?_);refine cG rfl (wp_skip ?_);refine hK6 _ _ (aC (fun K8 hK8=>wp_block (aC (fun K9 hK9=>wp_region_lit (aA (aB) (aA (aF) ?_))))));simp only[zz];refine aD (hK9 _ _ ?_);refine aC (fun K10 hK10=>aC (fun K11 hK11=>wp_region_lit (aA (aB) (aA (aB) (aA (bC rfl bY rfl) ?_)))));simp only[zz];refine aA (bT rfl rfl (by omega)) ?_;simp only[zz];refine aD (hK11 _ _ ?_);refine cG rfl ?_;obtain ⟨a,rfl,hca,hla⟩:=hS.get (show i < xs.length by omega);refine wp_region_lit (aA (aB) (aA (aB) (aA (aB) ?_)));simp only[zz];refine aA (aL bY aT rfl rfl (by omega) (by omega) (fW (Int.toNat_natCast _))) ?_;simp only[zz];refine aI rfl (lies1 hca bF) ?_;simp only[zz];refine aA (aR rfl rfl (aM (by omega) (by omega))) (aA (aF) ?_);simp only[zz];refine aD ?_;obtain ⟨s1,hs1⟩ : ∃ s1 : Nat,s1 = c + xs[i]:=⟨_,rfl⟩
   rw [show ((c:Int) + (xs[i]:Int)) = (s1:Int) by omega];have hs2 : s1 = c + xs[i]?.getD 0:=by rw [List.getElem?_eq_getElem (by omega)];exact hs1
   have hs3 : s1 < 65537:=by omega
   refine hK10 _ _ ?_;refine aC (fun K12 hK12=>aC (fun K13 hK13=>wp_region_lit (aA (aB) (aA (aB) (aA (bC rfl bY rfl) ?_)))));simp only[zz];refine aA (cS rfl rfl) ?_;simp only[zz];refine aD (hK13 _ _ ?_);refine cD rfl (fun hc3=>?_) (fun hc3=>?_)
   ·
    obtain ⟨a2,rfl,hcb,hlb⟩:=hR.get (show i < ys.length by omega);refine wp_region_lit (aA (aB) (aA (aB) (aA (aB) ?_)));simp only[zz];refine aA (aL bY aT rfl rfl (by omega) (by omega) (fW (Int.toNat_natCast _))) ?_;simp only[zz];refine aI rfl (lies1 hcb bF) ?_;simp only[zz];refine aA (aR rfl rfl (aM (by omega) (by omega))) (aA (aF) ?_);simp only[zz];refine aD ?_;obtain ⟨s,hs⟩ : ∃ s : Nat,s = s1 + ys[i]:=⟨_,rfl⟩
    rw [show ((s1:Int) + (ys[i]:Int)) = (s:Int) by omega];have hs4 : s = c + xs[i]?.getD 0 + ys[i]?.getD 0:=by rw [List.getElem?_eq_getElem (l:=ys) (by omega)];simp only[Option.getD_some];omega
    have hs5 : s < 131072:=by omega
    refine hK12 _ _ ?_;refine aC (fun K14 hK14=>wp_region_lit (aA (aB) (aA (aB) (aA (dJ rfl rfl (by omega) (kE (n:=65536))) ?_))));simp only[zz];refine eU bY (z:=.int .i64 0) (by kernel_rfl) rfl (by simp only[zz];rfl) (by rfl) ?_;intro w1 g1 hE hg1 hB1;have hG1:=Nat.le_trans hX.size hg1
    (try replace hS:=hS.ext hE);(try replace hR:=hR.ext hE);(try replace hS5:=hS5.ext hE);(try replace hO5:=hO5.ext hE);replace hX:=hX.trans hE
    clear hE hg1;simp only[zz];refine fL rfl bY qC rfl (by decide) rfl hO5 rfl (news:=_) rfl hB1.row0 (by simp [Value.oneCell']) (by omega) (by omega) hS5.h ?_;clear hO5;intro v5 w2 hO5 hGr _
    (try replace hS:=hS.grew hGr (by first | trivial | omega));(try replace hR:=hR.grew hGr (by first | trivial | omega));(try replace hS5:=hS5.grew hGr (by first | trivial | omega));replace hX:=hX.grown hGr hb5l
    clear hGr;replace hO5:=hO5.snoc;simp only[zz];refine aA (aF) ?_;simp only[zz];refine aD (hK14 _ _ ?_);refine wp_region_lit (aA (aB) (aA (gE rfl rfl (by omega) (lQ (n:=65536) (by omega))) (aA (aF) ?_)));simp only[zz];refine aD (hK8 _ _ ?_);refine wp_region_lit (aA (aB) (aA (aR rfl rfl (aM (by omega) (by omega))) (aA (aF) ?_)));simp only[zz];refine aD ?_;obtain ⟨r1,r2⟩:=rU hlo hv hd hs4;rw [show ((i:Int) + 1) = ((i + 1 : Nat) : Int) by omega];simp only[Exit.inBlock,Exit.then];refine ⟨M + 1 - (i + 1),_,?_,rfl,?_,?_⟩
    · omega
    · simp only[zz,zv]
    ·
     simp only[zQ,zR,zD,zE];exact ⟨i + 1,s / 65536,os ++ [s % 65536],v5,rfl,hX,hS,hR,hS5,hO5,by simp;omega,r1,r2,by omega,by omega,fun h=>by rw [List.getElem?_eq_none (l:=xs) (by omega),List.getElem?_eq_none (l:=ys) (by omega)] at hs4;simp at hs4;omega,rfl⟩
   ·
    obtain ⟨s,hs⟩ : ∃ s : Nat,s = s1:=⟨_,rfl⟩
    rw [← hs];have hs4 : s = c + xs[i]?.getD 0 + ys[i]?.getD 0:=by rw [List.getElem?_eq_none (l:=ys) (by omega)];simp only[Option.getD_none];omega
    have hs5 : s < 131072:=by omega
    refine wp_skip ?_;refine hK12 _ _ (aC (fun K15 hK15=>wp_region_lit (aA (aB) (aA (aB) (aA (dJ rfl rfl (by omega) (kE (n:=65536))) ?_)))));simp only[zz];refine eU bY (z:=.int .i64 0) (by kernel_rfl) rfl (by simp only[zz];rfl) (by rfl) ?_;intro w1 g1 hE hg1 hB1;have hG1:=Nat.le_trans hX.size hg1
    (try replace hS:=hS.ext hE);(try replace hR:=hR.ext hE);(try replace hS5:=hS5.ext hE);(try replace hO5:=hO5.ext hE);replace hX:=hX.trans hE
    clear hE hg1;simp only[zz];refine fL rfl bY qC rfl (by decide) rfl hO5 rfl (news:=_) rfl hB1.row0 (by simp [Value.oneCell']) (by omega) (by omega) hS5.h ?_;clear hO5;intro v5 w2 hO5 hGr _
    (try replace hS:=hS.grew hGr (by first | trivial | omega));(try replace hR:=hR.grew hGr (by first | trivial | omega));(try replace hS5:=hS5.grew hGr (by first | trivial | omega));replace hX:=hX.grown hGr hb5l
    clear hGr;replace hO5:=hO5.snoc;simp only[zz];refine aA (aF) ?_;simp only[zz];refine aD (hK15 _ _ ?_);refine wp_region_lit (aA (aB) (aA (gE rfl rfl (by omega) (lQ (n:=65536) (by omega))) (aA (aF) ?_)));simp only[zz];refine aD (hK8 _ _ ?_);refine wp_region_lit (aA (aB) (aA (aR rfl rfl (aM (by omega) (by omega))) (aA (aF) ?_)));simp only[zz];refine aD ?_;obtain ⟨r1,r2⟩:=rU hlo hv hd hs4;rw [show ((i:Int) + 1) = ((i + 1 : Nat) : Int) by omega];simp only[Exit.inBlock,Exit.then];refine ⟨M + 1 - (i + 1),_,?_,rfl,?_,?_⟩
    · omega
    · simp only[zz,zv]
    ·
     simp only[zQ,zR,zD,zE];exact ⟨i + 1,s / 65536,os ++ [s % 65536],v5,rfl,hX,hS,hR,hS5,hO5,by simp;omega,r1,r2,by omega,by omega,fun h=>by rw [List.getElem?_eq_none (l:=xs) (by omega),List.getElem?_eq_none (l:=ys) (by omega)] at hs4;simp at hs4;omega,rfl⟩
  ·
   refine wp_region_lit (aA (aB) (aA (aB) (aA (bC rfl bY rfl) ?_)));simp only[zz];refine aA (eG rfl rfl (by omega)) (aA (aB) ?_);simp only[zz];refine bM rfl (aA (aB) ?_);simp only[zz];refine bM rfl (aA (aB) ?_);simp only[zz];refine bM rfl (aA (bC rfl bY rfl) ?_);simp only[zz];refine bM rfl (aA (bT rfl rfl (by omega)) (aA (gF rfl) (aA (aB) ?_)));simp only[zz];refine fG rfl ?_;simp only[zz];refine fG rfl ?_;simp only[zz];refine aA (eF rfl) ?_;simp only[zz];refine aD (hK7 _ _ ?_);refine cG rfl (wp_skip ?_);refine hK6 _ _ (aC (fun K16 hK16=>wp_block (aC (fun K17 hK17=>wp_region_lit (aA (aB) (aA (aF) ?_))))));simp only[zz];refine aD ?_;obtain ⟨s1,hs1⟩ : ∃ s1 : Nat,s1 = c:=⟨_,rfl⟩
   rw [← hs1];have hs2 : s1 = c + xs[i]?.getD 0:=by rw [List.getElem?_eq_none (by omega)];exact hs1
   have hs3 : s1 < 65537:=by omega
   refine hK17 _ _ ?_;refine aC (fun K18 hK18=>aC (fun K19 hK19=>wp_region_lit (aA (aB) (aA (aB) (aA (bC rfl bY rfl) ?_)))));simp only[zz];refine aA (eG rfl rfl (by omega)) ?_;simp only[zz];refine aD (hK19 _ _ ?_);refine iT rfl (wp_skip ?_);refine hK18 _ _ (aC (fun K20 hK20=>aC (fun K21 hK21=>wp_region_lit (aA (aB) (aA (aB) (aA (bC rfl bY rfl) ?_))))));simp only[zz];refine aA (bT rfl rfl (by omega)) ?_;simp only[zz];refine aD (hK21 _ _ ?_);refine cG rfl ?_;obtain ⟨a2,rfl,hcb,hlb⟩:=hR.get (show i < ys.length by omega);refine wp_region_lit (aA (aB) (aA (aB) (aA (aB) ?_)));simp only[zz];refine aA (aL bY aT rfl rfl (by omega) (by omega) (fW (Int.toNat_natCast _))) ?_;simp only[zz];refine aI rfl (lies1 hcb bF) ?_;simp only[zz];refine aA (aR rfl rfl (aM (by omega) (by omega))) (aA (aF) ?_);simp only[zz];refine aD ?_;obtain ⟨s,hs⟩ : ∃ s : Nat,s = s1 + ys[i]:=⟨_,rfl⟩
   rw [show ((s1:Int) + (ys[i]:Int)) = (s:Int) by omega];have hs4 : s = c + xs[i]?.getD 0 + ys[i]?.getD 0:=by rw [List.getElem?_eq_getElem (l:=ys) (by omega)];simp only[Option.getD_some];omega
   have hs5 : s < 131072:=by omega
   refine hK20 _ _ ?_;refine aC (fun K22 hK22=>wp_region_lit (aA (aB) (aA (aB) (aA (dJ rfl rfl (by omega) (kE (n:=65536))) ?_))));simp only[zz];refine eU bY (z:=.int .i64 0) (by kernel_rfl) rfl (by simp only[zz];rfl) (by rfl) ?_;intro w1 g1 hE hg1 hB1;have hG1:=Nat.le_trans hX.size hg1
   (try replace hS:=hS.ext hE);(try replace hR:=hR.ext hE);(try replace hS5:=hS5.ext hE);(try replace hO5:=hO5.ext hE);replace hX:=hX.trans hE
   clear hE hg1;simp only[zz];refine fL rfl bY qC rfl (by decide) rfl hO5 rfl (news:=_) rfl hB1.row0 (by simp [Value.oneCell']) (by omega) (by omega) hS5.h ?_;clear hO5;intro v5 w2 hO5 hGr _
   (try replace hS:=hS.grew hGr (by first | trivial | omega));(try replace hR:=hR.grew hGr (by first | trivial | omega));(try replace hS5:=hS5.grew hGr (by first | trivial | omega));replace hX:=hX.grown hGr hb5l
   clear hGr;replace hO5:=hO5.snoc;simp only[zz];refine aA (aF) ?_;simp only[zz];refine aD (hK22 _ _ ?_);refine wp_region_lit (aA (aB) (aA (gE rfl rfl (by omega) (lQ (n:=65536) (by omega))) (aA (aF) ?_)));simp only[zz];refine aD (hK16 _ _ ?_);refine wp_region_lit (aA (aB) (aA (aR rfl rfl (aM (by omega) (by omega))) (aA (aF) ?_)));simp only[zz];refine aD ?_;obtain ⟨r1,r2⟩:=rU hlo hv hd hs4;rw [show ((i:Int) + 1) = ((i + 1 : Nat) : Int) by omega];simp only[Exit.inBlock,Exit.then];refine ⟨M + 1 - (i + 1),_,?_,rfl,?_,?_⟩
   · omega
   · simp only[zz,zv]
   ·
    simp only[zQ,zR,zD,zE];exact ⟨i + 1,s / 65536,os ++ [s % 65536],v5,rfl,hX,hS,hR,hS5,hO5,by simp;omega,r1,r2,by omega,by omega,fun h=>by rw [List.getElem?_eq_none (l:=xs) (by omega),List.getElem?_eq_none (l:=ys) (by omega)] at hs4;simp at hs4;omega,rfl⟩
  ·
   refine wp_region_lit (aA (aB) (aA (aB) (aA (bC rfl bY rfl) ?_)));simp only[zz];refine aA (eG rfl rfl (by omega)) (aA (aB) ?_);simp only[zz];refine bM rfl (aA (aB) ?_);simp only[zz];refine bM rfl (aA (aB) ?_);simp only[zz];refine bM rfl (aA (bC rfl bY rfl) ?_);simp only[zz];refine bM rfl (aA (eG rfl rfl (by omega)) (aA (gF rfl) (aA (aB) ?_)));simp only[zz];refine bM rfl (aA (aB) ?_);simp only[zz];refine bM rfl (aA (vB rfl rfl (by omega)) (aA (gF rfl) ?_));simp only[zz];refine aD (hK7 _ _ ?_);refine cG rfl (wp_skip ?_);refine hK6 _ _ (aC (fun K23 hK23=>wp_block (aC (fun K24 hK24=>wp_region_lit (aA (aB) (aA (aF) ?_))))));simp only[zz];refine aD ?_;obtain ⟨s1,hs1⟩ : ∃ s1 : Nat,s1 = c:=⟨_,rfl⟩
   rw [← hs1];have hs2 : s1 = c + xs[i]?.getD 0:=by rw [List.getElem?_eq_none (by omega)];exact hs1
   have hs3 : s1 < 65537:=by omega
   refine hK24 _ _ ?_;refine aC (fun K25 hK25=>aC (fun K26 hK26=>wp_region_lit (aA (aB) (aA (aB) (aA (bC rfl bY rfl) ?_)))));simp only[zz];refine aA (eG rfl rfl (by omega)) ?_;simp only[zz];refine aD (hK26 _ _ ?_);refine iT rfl (wp_skip ?_);refine hK25 _ _ (aC (fun K27 hK27=>aC (fun K28 hK28=>wp_region_lit (aA (aB) (aA (aB) (aA (bC rfl bY rfl) ?_))))));simp only[zz];refine aA (eG rfl rfl (by omega)) ?_;simp only[zz];refine aD (hK28 _ _ ?_);refine iT rfl (wp_skip ?_);refine hK27 _ _ (aC (fun K29 hK29=>?_));obtain ⟨s,hs⟩ : ∃ s : Nat,s = s1:=⟨_,rfl⟩
   rw [← hs];have hs4 : s = c + xs[i]?.getD 0 + ys[i]?.getD 0:=by rw [List.getElem?_eq_none (l:=ys) (by omega)];simp only[Option.getD_none];omega
   have hs5 : s < 131072:=by omega
   refine wp_region_lit (aA (aB) (aA (aB) (aA (dJ rfl rfl (by omega) (kE (n:=65536))) ?_)));simp only[zz];refine eU bY (z:=.int .i64 0) (by kernel_rfl) rfl (by simp only[zz];rfl) (by rfl) ?_;intro w1 g1 hE hg1 hB1;have hG1:=Nat.le_trans hX.size hg1
   (try replace hS:=hS.ext hE);(try replace hR:=hR.ext hE);(try replace hS5:=hS5.ext hE);(try replace hO5:=hO5.ext hE);replace hX:=hX.trans hE
   clear hE hg1;simp only[zz];refine fL rfl bY qC rfl (by decide) rfl hO5 rfl (news:=_) rfl hB1.row0 (by simp [Value.oneCell']) (by omega) (by omega) hS5.h ?_;clear hO5;intro v5 w2 hO5 hGr _
   (try replace hS:=hS.grew hGr (by first | trivial | omega));(try replace hR:=hR.grew hGr (by first | trivial | omega));(try replace hS5:=hS5.grew hGr (by first | trivial | omega));replace hX:=hX.grown hGr hb5l
   clear hGr;replace hO5:=hO5.snoc;simp only[zz];refine aA (aF) ?_;simp only[zz];refine aD (hK29 _ _ ?_);refine wp_region_lit (aA (aB) (aA (gE rfl rfl (by omega) (lQ (n:=65536) (by omega))) (aA (aF) ?_)));simp only[zz];refine aD (hK23 _ _ ?_);refine wp_region_lit (aA (aB) (aA (aR rfl rfl (aM (by omega) (by omega))) (aA (aF) ?_)));simp only[zz];refine aD ?_;obtain ⟨r1,r2⟩:=rU hlo hv hd hs4;rw [show ((i:Int) + 1) = ((i + 1 : Nat) : Int) by omega];simp only[Exit.inBlock,Exit.then];refine ⟨M + 1 - (i + 1),_,?_,rfl,?_,?_⟩
   · omega
   · simp only[zz,zv]
   ·
    simp only[zQ,zR,zD,zE];exact ⟨i + 1,s / 65536,os ++ [s % 65536],v5,rfl,hX,hS,hR,hS5,hO5,by simp;omega,r1,r2,by omega,by omega,fun h=>by rw [List.getElem?_eq_none (l:=xs) (by omega),List.getElem?_eq_none (l:=ys) (by omega)] at hs4;simp at hs4;omega,rfl⟩
  ·
   refine wp_region_lit (aA (aB) (aA (aB) (aA (bC rfl bY rfl) ?_)));simp only[zz];refine aA (eG rfl rfl (by omega)) (aA (aB) ?_);simp only[zz];refine bM rfl (aA (aB) ?_);simp only[zz];refine bM rfl (aA (aB) ?_);simp only[zz];refine bM rfl (aA (bC rfl bY rfl) ?_);simp only[zz];refine bM rfl (aA (eG rfl rfl (by omega)) (aA (gF rfl) (aA (aB) ?_)));simp only[zz];refine bM rfl (aA (aB) ?_);simp only[zz];refine bM rfl (aA (sF rfl rfl (by omega)) (aA (gF rfl) ?_));simp only[zz];refine aD (hK7 _ _ ?_);refine iT rfl (wp_exit ?_);refine hK4 _ _ (aC (fun K30 hK30=>wp_region_lit (aA (aB) (aA (aF) ?_))));simp only[zz];refine aD (hK30 _ _ ?_);refine wp_ret ?_;try simp only[Exit.inBlock,Exit.then]
   refine bP rfl rfl ?_;try simp only[zD,zE]
   (obtain ⟨A5,c5,rfl,hD,_⟩:=dK.of_owns hO5 rfl hd (by omega));exact ⟨_,rfl,hX,A5,c5,os,rfl,hD,by rw [List.take_of_length_le (by omega),List.take_of_length_le (by omega)] at hv;simpa using hv,by omega⟩
end Go.Proofs.YtfohfflkhpfjeaaGreatDoor
namespace Go.Proofs.YtfohfflkhpfjeaaGreatDoor
open Go.Proofs.Tryz
open Go.RowKit Go.Lith
set_option maxRecDepth 100000
attribute [local irreducible] wpList wpQuiet dD Code.wp
theorem Pq {A B : Option Addr} {xs ys : List Nat} {na nb ca cb : Nat} (w : World) (hS : dK w w.heap.size A na ca xs) (hR : dK w w.heap.size B nb cb ys) (hle : ys.length ≤ xs.length) (hge : val 65536 ys ≤ val 65536 xs) (hlx : xs.length ≤ 1000000000000) : eE prog 62 [.slice A na ca,.slice B nb cb] w (fun v w'=>pN (val 65536 xs - val 65536 ys) v w' ∧ pW w v):=by
 skip
 refine ⟨ads,?_⟩;have hX:=cZ.refl w;obtain rfl:=hS.eq;obtain rfl:=hR.eq
 go_enter func62,ntmps62
 refine aC (fun K1 hK1=>wp_region_lit (aA (aF) ?_));simp only[zz];refine aD (hK1 _ _ ?_);refine aC (fun K2 hK2=>wp_region_lit (aA (aF) ?_));simp only[zz];obtain ⟨b5,hb5e,hb5l⟩:=hX.base;have hS5:=rT.of hX hb5e;have hO5:=jG.nil_of hX b5 3 1;clear hb5e;refine aD (hK2 _ _ ?_);refine aC (fun K3 hK3=>wp_region_lit (aA (aF) ?_));simp only[zz];refine aD (hK3 _ _ ?_);refine aC (fun K4 hK4=>aC (fun K5 hK5=>wp_region_lit (aA (aF) ?_)));simp only[zz];refine aD (hK5 _ _ ?_);refine wp_block (bN [5,6,7] [8,9,10,11,12,13,14,15,16,17,18,19,20,21,22,23,24,25,26,27,28,29,30,31,32,33,34,35,36,37,38] (fun n vs wl=>∃ (i c : Nat) (os : List Nat) (v5 : Value),vs = [v5,.int .i64 (c:Int),.int .i64 (i:Int)] ∧ (cZ w wl) ∧ (dK wl w.heap.size A xs.length ca xs) ∧ (dK wl w.heap.size B ys.length cb ys) ∧ (rT wl b5) ∧ (jG wl b5 3 1 v5 os.length (os.map tJ)) ∧ (os.length = i) ∧ (val 65536 os + val 65536 (ys.take i) = val 65536 (xs.take i) + 65536 ^ i * c) ∧ (cJ 65536 os) ∧ (c ≤ 1) ∧ (i ≤ xs.length) ∧ (n = xs.length - i)) ?_ ?_)
 ·
  apply Exists.intro;simp only[zQ,zR,zD,zE];exact ⟨0,0,[],_,rfl,hX,hS,hR,hS5,hO5,rfl,by simp [val],jV _,by omega,by omega,rfl⟩
 ·
  intro n vs wr hI u;obtain ⟨i,c,os,v5,rfl,hX,hS,hR,hS5,hO5,hlo,hv,hd,hc,hi,hn⟩:=hI;simp only[zu,zF,zG];refine aC (fun K6 hK6=>aC (fun K7 hK7=>wp_region_lit (aA (aB) (aA (aB) (aA (bC rfl bY rfl) ?_)))));simp only[zz];refine aA (cS rfl rfl) ?_;simp only[zz];refine aD (hK7 _ _ ?_);refine cD rfl (fun hc1=>?_) (fun hc1=>?_)
  ·
   refine wp_skip ?_;refine hK6 _ _ (aC (fun K8 hK8=>wp_block (aC (fun K9 hK9=>?_))));obtain ⟨a,rfl,hca,hla⟩:=hS.get (show i < xs.length by omega);have hyd : ys[i]?.getD 0 < 65536:=by
    rcases Nat.lt_or_ge i ys.length with h | h
    · rw [List.getElem?_eq_getElem h];exact hR.lt h
    · rw [List.getElem?_eq_none h];decide
   refine wp_region_lit (aA (aB) (aA (aB) (aA (aL bY aT rfl rfl (by omega) (by omega) (fW (Int.toNat_natCast _))) ?_)));simp only[zz];refine aI rfl (lies1 hca bF) ?_;simp only[zz];refine aA (aB) (aA (eI rfl rfl (aM (by omega) (by omega))) (aA (aF) ?_));simp only[zz];refine aD (hK9 _ _ ?_);refine aC (fun K10 hK10=>aC (fun K11 hK11=>wp_region_lit (aA (aB) (aA (aB) (aA (bC rfl bY rfl) ?_)))));simp only[zz];refine aA (cS rfl rfl) ?_;simp only[zz];refine aD (hK11 _ _ ?_);refine cD rfl (fun hc2=>?_) (fun hc2=>?_)
   ·
    obtain ⟨a2,rfl,hcb,hlb⟩:=hR.get (show i < ys.length by omega);refine wp_region_lit (aA (aB) (aA (aB) (aA (aB) ?_)));simp only[zz];refine aA (aL bY aT rfl rfl (by omega) (by omega) (fW (Int.toNat_natCast _))) ?_;simp only[zz];refine aI rfl (lies1 hcb bF) ?_;simp only[zz];refine aA (eI rfl rfl (aM (by omega) (by omega))) (aA (aF) ?_);simp only[zz];refine aD ?_;obtain ⟨e,he⟩ : ∃ e : Int,e = (xs[i] : Int) - (c : Int) - (ys[i] : Int):=⟨_,rfl⟩
    rw [← he];have he2 : e = (xs[i] : Int) - (c : Int) - ((ys[i]?.getD 0 : Nat) : Int):=by rw [List.getElem?_eq_getElem (by omega)];exact he
    refine hK10 _ _ ?_;refine aC (fun K12 hK12=>wp_region_lit (aA (aF) ?_));simp only[zz];refine aD (hK12 _ _ ?_);refine aC (fun K13 hK13=>aC (fun K14 hK14=>wp_region_lit (aA (aB) (aA (cS rfl rfl) ?_))));simp only[zz];refine aD (hK14 _ _ ?_);refine cD rfl (fun hc3=>?_) (fun hc3=>?_)
    ·
     obtain ⟨s,hs⟩ : ∃ s : Nat,(s : Int) = e + 65536:=⟨(e + 65536).toNat,by omega⟩
     have hs6 : s + ys[i]?.getD 0 + c = xs[i] + 65536 * 1:=by omega
     have hs7 : s < 65536:=by omega
     refine aC (fun K15 hK15=>wp_region_lit (aA (aB) (aA (xL (aR rfl rfl (aM (by omega) (by omega))) (Tm hs.symm)) (aA (aF) ?_))));simp only[zz];refine aD (hK15 _ _ ?_);refine wp_region_lit (aA (aF) ?_);simp only[zz];refine aD (hK13 _ _ ?_);refine wp_region_lit (aA (aB) (aA (aB) ?_));simp only[zz];refine eU bY (z:=.int .i64 0) (by kernel_rfl) rfl (by simp only[zz];rfl) (by rfl) ?_;intro w1 g1 hE hg1 hB1;have hG1:=Nat.le_trans hX.size hg1
     (try replace hS:=hS.ext hE);(try replace hR:=hR.ext hE);(try replace hS5:=hS5.ext hE);(try replace hO5:=hO5.ext hE);replace hX:=hX.trans hE
     clear hE hg1;simp only[zz];refine fL rfl bY qC rfl (by decide) rfl hO5 rfl (news:=_) rfl hB1.row0 (by simp [Value.oneCell']) (by omega) (by omega) hS5.h ?_;clear hO5;intro v5 w2 hO5 hGr _
     (try replace hS:=hS.grew hGr (by first | trivial | omega));(try replace hR:=hR.grew hGr (by first | trivial | omega));(try replace hS5:=hS5.grew hGr (by first | trivial | omega));replace hX:=hX.grown hGr hb5l
     clear hGr;replace hO5:=hO5.snoc;simp only[zz];refine aA (aF) ?_;simp only[zz];refine aD (hK8 _ _ ?_);refine wp_region_lit (aA (aB) (aA (aR rfl rfl (aM (by omega) (by omega))) (aA (aF) ?_)));simp only[zz];refine aD ?_;obtain ⟨r1,r2⟩:=pB (by omega) hlo hv hd hs6 hs7;rw [show ((i:Int) + 1) = ((i + 1 : Nat) : Int) by omega];simp only[Exit.inBlock,Exit.then];refine ⟨xs.length - (i + 1),_,?_,rfl,?_,?_⟩
     · omega
     · simp only[zz,zv]
     ·
      simp only[zQ,zR,zD,zE];exact ⟨i + 1,1,os ++ [s],v5,rfl,hX,hS,hR,hS5,hO5,by simp;omega,r1,r2,by omega,by omega,rfl⟩
    ·
     obtain ⟨s,hs⟩ : ∃ s : Nat,(s : Int) = e:=⟨e.toNat,by omega⟩
     rw [← hs];have hs6 : s + ys[i]?.getD 0 + c = xs[i] + 65536 * 0:=by omega
     have hs7 : s < 65536:=by omega
     refine wp_skip ?_;refine hK13 _ _ (wp_region_lit (aA (aB) (aA (aB) ?_)));simp only[zz];refine eU bY (z:=.int .i64 0) (by kernel_rfl) rfl (by simp only[zz];rfl) (by rfl) ?_;intro w1 g1 hE hg1 hB1;have hG1:=Nat.le_trans hX.size hg1
     (try replace hS:=hS.ext hE);(try replace hR:=hR.ext hE);(try replace hS5:=hS5.ext hE);(try replace hO5:=hO5.ext hE);replace hX:=hX.trans hE
     clear hE hg1;simp only[zz];refine fL rfl bY qC rfl (by decide) rfl hO5 rfl (news:=_) rfl hB1.row0 (by simp [Value.oneCell']) (by omega) (by omega) hS5.h ?_;clear hO5;intro v5 w2 hO5 hGr _
     (try replace hS:=hS.grew hGr (by first | trivial | omega));(try replace hR:=hR.grew hGr (by first | trivial | omega));(try replace hS5:=hS5.grew hGr (by first | trivial | omega));replace hX:=hX.grown hGr hb5l
     clear hGr;replace hO5:=hO5.snoc;simp only[zz];refine aA (aF) ?_;simp only[zz];refine aD (hK8 _ _ ?_);refine wp_region_lit (aA (aB) (aA (aR rfl rfl (aM (by omega) (by omega))) (aA (aF) ?_)));simp only[zz];refine aD ?_;obtain ⟨r1,r2⟩:=pB (by omega) hlo hv hd hs6 hs7;rw [show ((i:Int) + 1) = ((i + 1 : Nat) : Int) by omega];simp only[Exit.inBlock,Exit.then];refine ⟨xs.length - (i + 1),_,?_,rfl,?_,?_⟩
     · omega
     · simp only[zz,zv]
     ·
      simp only[zQ,zR,zD,zE];exact ⟨i + 1,0,os ++ [s],v5,rfl,hX,hS,hR,hS5,hO5,by simp;omega,r1,r2,by omega,by omega,rfl⟩
   ·
    obtain ⟨e,he⟩ : ∃ e : Int,e = (xs[i] : Int) - (c : Int):=⟨_,rfl⟩
    rw [← he];have he2 : e = (xs[i] : Int) - (c : Int) - ((ys[i]?.getD 0 : Nat) : Int):=by rw [List.getElem?_eq_none (by omega)];simp only[Option.getD_none];omega
    refine wp_skip ?_;refine hK10 _ _ (aC (fun K16 hK16=>wp_region_lit (aA (aF) ?_)));simp only[zz];refine aD (hK16 _ _ ?_);refine aC (fun K17 hK17=>aC (fun K18 hK18=>wp_region_lit (aA (aB) (aA (cS rfl rfl) ?_))));simp only[zz];refine aD (hK18 _ _ ?_);refine cD rfl (fun hc3=>?_) (fun hc3=>?_)
    ·
     obtain ⟨s,hs⟩ : ∃ s : Nat,(s : Int) = e + 65536:=⟨(e + 65536).toNat,by omega⟩
     have hs6 : s + ys[i]?.getD 0 + c = xs[i] + 65536 * 1:=by omega
     have hs7 : s < 65536:=by omega
     refine aC (fun K19 hK19=>wp_region_lit (aA (aB) (aA (xL (aR rfl rfl (aM (by omega) (by omega))) (Tm hs.symm)) (aA (aF) ?_))));simp only[zz];refine aD (hK19 _ _ ?_);refine wp_region_lit (aA (aF) ?_);simp only[zz];refine aD (hK17 _ _ ?_);refine wp_region_lit (aA (aB) (aA (aB) ?_));simp only[zz];refine eU bY (z:=.int .i64 0) (by kernel_rfl) rfl (by simp only[zz];rfl) (by rfl) ?_;intro w1 g1 hE hg1 hB1;have hG1:=Nat.le_trans hX.size hg1
     (try replace hS:=hS.ext hE);(try replace hR:=hR.ext hE);(try replace hS5:=hS5.ext hE);(try replace hO5:=hO5.ext hE);replace hX:=hX.trans hE
     clear hE hg1;simp only[zz];refine fL rfl bY qC rfl (by decide) rfl hO5 rfl (news:=_) rfl hB1.row0 (by simp [Value.oneCell']) (by omega) (by omega) hS5.h ?_;clear hO5;intro v5 w2 hO5 hGr _
     (try replace hS:=hS.grew hGr (by first | trivial | omega));(try replace hR:=hR.grew hGr (by first | trivial | omega));(try replace hS5:=hS5.grew hGr (by first | trivial | omega));replace hX:=hX.grown hGr hb5l
     clear hGr;replace hO5:=hO5.snoc;simp only[zz];refine aA (aF) ?_;simp only[zz];refine aD (hK8 _ _ ?_);refine wp_region_lit (aA (aB) (aA (aR rfl rfl (aM (by omega) (by omega))) (aA (aF) ?_)));simp only[zz];refine aD ?_;obtain ⟨r1,r2⟩:=pB (by omega) hlo hv hd hs6 hs7;rw [show ((i:Int) + 1) = ((i + 1 : Nat) : Int) by omega];simp only[Exit.inBlock,Exit.then];refine ⟨xs.length - (i + 1),_,?_,rfl,?_,?_⟩
     · omega
     · simp only[zz,zv]
     ·
      simp only[zQ,zR,zD,zE];exact ⟨i + 1,1,os ++ [s],v5,rfl,hX,hS,hR,hS5,hO5,by simp;omega,r1,r2,by omega,by omega,rfl⟩
    ·
     obtain ⟨s,hs⟩ : ∃ s : Nat,(s : Int) = e:=⟨e.toNat,by omega⟩
     rw [← hs];have hs6 : s + ys[i]?.getD 0 + c = xs[i] + 65536 * 0:=by omega
     have hs7 : s < 65536:=by omega
     refine wp_skip ?_;refine hK17 _ _ (wp_region_lit (aA (aB) (aA (aB) ?_)));simp only[zz];refine eU bY (z:=.int .i64 0) (by kernel_rfl) rfl (by simp only[zz];rfl) (by rfl) ?_;intro w1 g1 hE hg1 hB1;have hG1:=Nat.le_trans hX.size hg1
     (try replace hS:=hS.ext hE);(try replace hR:=hR.ext hE);(try replace hS5:=hS5.ext hE);(try replace hO5:=hO5.ext hE);replace hX:=hX.trans hE
     clear hE hg1;simp only[zz];refine fL rfl bY qC rfl (by decide) rfl hO5 rfl (news:=_) rfl hB1.row0 (by simp [Value.oneCell']) (by omega) (by omega) hS5.h ?_;clear hO5;intro v5 w2 hO5 hGr _
     (try replace hS:=hS.grew hGr (by first | trivial | omega));(try replace hR:=hR.grew hGr (by first | trivial | omega));(try replace hS5:=hS5.grew hGr (by first | trivial | omega));replace hX:=hX.grown hGr hb5l
     clear hGr;replace hO5:=hO5.snoc;simp only[zz];refine aA (aF) ?_;simp only[zz];refine aD (hK8 _ _ ?_);refine wp_region_lit (aA (aB) (aA (aR rfl rfl (aM (by omega) (by omega))) (aA (aF) ?_)));simp only[zz];refine aD ?_;obtain ⟨r1,r2⟩:=pB (by omega) hlo hv hd hs6 hs7;rw [show ((i:Int) + 1) = ((i + 1 : Nat) : Int) by omega];simp only[Exit.inBlock,Exit.then];refine ⟨xs.length - (i + 1),_,?_,rfl,?_,?_⟩
     · omega
     · simp only[zz,zv]
     ·
      simp only[zQ,zR,zD,zE];exact ⟨i + 1,0,os ++ [s],v5,rfl,hX,hS,hR,hS5,hO5,by simp;omega,r1,r2,by omega,by omega,rfl⟩
  ·
   refine wp_exit ?_;refine hK4 _ _ (aC (fun K20 hK20=>?_));obtain rfl : i = xs.length:=by omega
   obtain ⟨A5,c5,rfl,hD,hbn⟩:=dK.of_owns hO5 rfl hd (by omega);refine wp_region_lit (aA (aB) ?_);simp only[zz];refine bE rfl rfl (Ic _ hD) ?_;rintro v w1 hE rfl
   (try replace hD:=hD.ext hE);replace hX:=hX.trans hE
   clear hE;simp only[zz];refine aA (aF) ?_;simp only[zz];refine aD (hK20 _ _ ?_);refine wp_ret ?_;try simp only[Exit.inBlock,Exit.then]
   refine bP rfl rfl ?_;try simp only[zD,zE]
   exact ⟨_,rfl,hX,pN.of_trim hD (Si hle hlo hd hv hge),fun a n c e=>by cases e;exact Nat.le_trans hb5l (hbn _ rfl)⟩
theorem aau {A B : Option Addr} {xs ys : List Nat} {na nb ca cb : Nat} (w : World) (hS : dK w w.heap.size A na ca xs) (hR : dK w w.heap.size B nb cb ys) (hlx : xs.length ≤ 1000000000000) (hly : ys.length ≤ 1000000000000) : eE prog 93 [.slice A na ca,.slice B nb cb] w (fun v w'=>pN (val 65536 xs * val 65536 ys) v w' ∧ pW w v):=by
 skip
 refine ⟨adP,?_⟩;have hX:=cZ.refl w;obtain rfl:=hS.eq;obtain rfl:=hR.eq
 go_enter func93,ntmps93
 refine aC (fun K1 hK1=>wp_region_lit (aA (aF) ?_));simp only[zz];refine aD (hK1 _ _ ?_);refine aC (fun K2 hK2=>wp_region_lit (aA (aB) (aA (bC rfl bY rfl) (aA (aB) ?_))));simp only[zz];refine aA (bC rfl bY rfl) (aA (aR rfl rfl (aM (by omega) (by omega))) ?_);simp only[zz];refine kU bY qC rfl rfl rfl (show _ = xs.length + ys.length by omega) (show _ = xs.length + ys.length by omega) (by omega) (by omega) (by omega) (by omega) ?_;intro w1 g1 hE hg1 hB1;have hG1:=Nat.le_trans hX.size hg1
 (try replace hS:=hS.ext hE);(try replace hR:=hR.ext hE);replace hX:=hX.trans hE
 clear hE hg1;simp only[zz];refine aA (aF) ?_;simp only[zz];refine aD ?_;rw [Em] at hB1;refine hK2 _ _ (aC (fun K3 hK3=>aC (fun K4 hK4=>wp_region_lit (aA (aF) ?_))));simp only[zz];refine aD (hK4 _ _ ?_);refine wp_block (bN [6] [7,8,9,16,17,18,19,20,21,22,23,24,25,26,27,28,29,30,31,32,33,34,35,36,37,38,39,40,41,42,43,44,45,46,47,48,49,50,51,52,53,54,55,56,57,58,59,60,61] (fun n vs wl=>∃ (i : Nat) (os : List Nat),vs = [.int .i64 (i:Int)] ∧ (cZ w wl) ∧ (dK wl w.heap.size A xs.length ca xs) ∧ (dK wl w.heap.size B ys.length cb ys) ∧ (fQ wl g1 (os.map tJ) 3) ∧ (i ≤ xs.length) ∧ (os.length = xs.length + ys.length) ∧ (val 65536 os = val 65536 (xs.take i) * val 65536 ys) ∧ (os.drop (i + ys.length) = List.replicate (xs.length - i) 0) ∧ (cJ 65536 os) ∧ (n = xs.length - i)) ?_ ?_)
 ·
  apply Exists.intro;simp only[zQ,zR,zD,zE];exact ⟨0,List.replicate (xs.length + ys.length) 0,rfl,hX,hS,hR,hB1,by omega,by simp,by rw [eH,List.take_zero];simp only[val,Nat.zero_mul],by rw [List.drop_replicate];congr 1;omega,fun x hx=>by rw [List.eq_of_mem_replicate hx];decide,rfl⟩
 ·
  intro n vs wr hI u;obtain ⟨i,os,rfl,hX,hS,hR,hB1,hi,hlo,hv,hz,hd,hn⟩:=hI;simp only[zu,zF,zG];refine aC (fun K5 hK5=>aC (fun K6 hK6=>wp_region_lit (aA (aB) (aA (aB) (aA (bC rfl bY rfl) ?_)))));simp only[zz];refine aA (cS rfl rfl) ?_;simp only[zz];refine aD (hK6 _ _ ?_);refine cD rfl (fun hc1=>?_) (fun hc1=>?_)
  ·
   refine wp_skip ?_;refine hK5 _ _ (aC (fun K7 hK7=>wp_block (aC (fun K8 hK8=>wp_region_lit (aA (aF) ?_)))));simp only[zz];refine aD (hK8 _ _ ?_);refine aC (fun K9 hK9=>aC (fun K10 hK10=>wp_region_lit (aA (aF) ?_)));simp only[zz];refine aD (hK10 _ _ ?_);refine wp_block (bN [7,8] [9,22,23,24,25,26,27,28,29,30,31,32,33,34,35,36,37,38,39,40,41,42,43,44,45,46,47,48,49,50,51,52,53,54] (fun n vs wl=>∃ (k c : Nat) (os : List Nat),vs = [.int .i64 (c:Int),.int .i64 (k:Int)] ∧ (cZ w wl) ∧ (dK wl w.heap.size A xs.length ca xs) ∧ (dK wl w.heap.size B ys.length cb ys) ∧ (fQ wl g1 (os.map tJ) 3) ∧ (k ≤ ys.length) ∧ (os.length = xs.length + ys.length) ∧ (val 65536 os + 65536 ^ (i + k) * c = val 65536 (xs.take i) * val 65536 ys + 65536 ^ i * (xs[i] * val 65536 (ys.take k))) ∧ (os.drop (i + ys.length) = List.replicate (xs.length - i) 0) ∧ (cJ 65536 os) ∧ (c < 65536) ∧ (n = ys.length - k)) ?_ ?_)
   ·
    apply Exists.intro;simp only[zQ,zR,zD,zE];exact ⟨0,0,os,rfl,hX,hS,hR,hB1,by omega,hlo,by rw [List.take_zero,hv];simp only[val,Nat.mul_zero],hz,hd,by omega,rfl⟩
   ·
    intro n vs wr hI u;obtain ⟨k,c,os,rfl,hX,hS,hR,hB1,hk,hlo,hv2,hz,hd,hc,hn2⟩:=hI;simp only[zu,zF,zG];refine aC (fun K11 hK11=>aC (fun K12 hK12=>wp_region_lit (aA (aB) (aA (aB) (aA (bC rfl bY rfl) ?_)))));simp only[zz];refine aA (cS rfl rfl) ?_;simp only[zz];refine aD (hK12 _ _ ?_);refine cD rfl (fun hc2=>?_) (fun hc2=>?_)
    ·
     refine wp_skip ?_;refine hK11 _ _ (aC (fun K13 hK13=>wp_block (aC (fun K14 hK14=>?_))));obtain ⟨a,rfl,hca,hla⟩:=hS.get (show i < xs.length by omega);obtain ⟨a2,rfl,hcb,hlb⟩:=hR.get (show k < ys.length by omega);have hco:=hB1.digit (show i + k < os.length by omega);have hlo2:=hd.get (List.getElem?_eq_getElem (show i + k < os.length by omega));obtain ⟨hm0,hm1⟩:=Sk hla hlb;refine gQ aP (by kernel_rfl) (aN (aB) (aN (aB) (aN (aB) ?_)));simp only[zz];refine aN (aR rfl rfl (aM (by omega) (by omega))) (aN (aL bY aT rfl rfl (by omega) (by omega) (eM (show _ = i + k by omega))) ?_);simp only[zz];refine gW rfl (fun _ hE'=>(lies1 (hE'.cell hco) bF)) ?_;simp only[zz];refine aN (aB) (aN (aB) (aN (aL bY aT rfl rfl (by omega) (by omega) (fW (Int.toNat_natCast _))) ?_));simp only[zz];refine gW rfl (fun _ hE'=>(lies1 (hE'.cell hca) bF)) ?_;simp only[zz];refine aN (aB) (aN (aB) (aN (aL bY aT rfl rfl (by omega) (by omega) (fW (Int.toNat_natCast _))) ?_));simp only[zz];refine gW rfl (fun _ hE'=>(lies1 (hE'.cell hcb) bF)) ?_;simp only[zz];refine aN (eO rfl rfl (aM (by omega) (by omega))) (aN (aR rfl rfl (aM (by omega) (by omega))) (aN (aB) ?_));simp only[zz];refine aN (aR rfl rfl (aM (by omega) (by omega))) (aN (aF) ?_);simp only[zz];refine dN ?_;intro w2 hE;replace hB1:=hB1.ext hE;(try replace hS:=hS.ext hE);(try replace hR:=hR.ext hE);replace hX:=hX.trans hE;clear hE;obtain ⟨s,hs⟩ : ∃ s,s = os[i + k] + xs[i] * ys[k] + c:=⟨_,rfl⟩
     have hsI : (↑os[i + k] + ↑xs[i] * ↑ys[k] + ↑c : Int) = (s : Int):=by rw [hs];simp
     rw [hsI];have hs64 : s < 4294967296:=by have:=Lh hla hlb;omega
     refine hK14 _ _ ?_;refine aC (fun K15 hK15=>wp_region_lit (aA (aB) (aA (aB) (aA (aB) ?_))));simp only[zz];refine aA (aR rfl rfl (aM (by omega) (by omega))) (aA (aB) (aA (dJ rfl rfl (by omega) (kE (n:=65536))) ?_));simp only[zz];refine aA (aL bY aT rfl rfl (by omega) (by omega) (eM (show _ = i + k by omega))) ?_;simp only[zz];refine cK rfl (by simp only[zz];rfl) (by exact aT) hB1 (by simp;omega) (by simp [Value.oneCell']) ?_;clear hB1;intro w3 hC hB1
     (try replace hS:=hS.chg hC (by first | assumption | rfl));(try replace hR:=hR.chg hC (by first | assumption | rfl));replace hX:=hX.chg hC hG1
     clear hC;rw [xB (by omega)] at hB1;refine aD (hK15 _ _ ?_);refine wp_region_lit (aA (aB) (aA (gE rfl rfl (by omega) (lQ (n:=65536) (by omega))) (aA (aF) ?_)));simp only[zz];refine aD (hK13 _ _ ?_);refine wp_region_lit (aA (aB) (aA (aR rfl rfl (aM (by omega) (by omega))) (aA (aF) ?_)));simp only[zz];refine aD ?_;have r1:=Lg (by omega) (by omega) hlo hv2 hs;rw [show ((k:Int) + 1) = ((k + 1 : Nat) : Int) by omega];simp only[Exit.inBlock,Exit.then];refine ⟨ys.length - (k + 1),_,?_,rfl,?_,?_⟩
     · omega
     · simp only[zz,zv]
     ·
      simp only[zQ,zR,zD,zE];exact ⟨k + 1,s / 65536,os.set (i + k) (s % 65536),rfl,hX,hS,hR,hB1,by omega,by simpa using hlo,r1,by rw [mY (by omega)];exact hz,hd.set (by omega),by omega,rfl⟩
    ·
     refine wp_exit ?_;refine hK9 _ _ ?_;obtain rfl : k = ys.length:=by omega
     refine wp_region_lit (aA (aB) (aA (aB) (aA (aB) ?_)));simp only[zz];refine aA (bC rfl bY rfl) (aA (aR rfl rfl (aM (by omega) (by omega))) (aA (aB) ?_));simp only[zz];refine aA (aL bY aT rfl rfl (by omega) (by omega) (eM (show _ = i + ys.length by omega))) ?_;simp only[zz];refine cK rfl (by simp only[zz];rfl) (by exact aT) hB1 (by simp;omega) (by simp [Value.oneCell']) ?_;clear hB1;intro w2 hC hB1
     (try replace hS:=hS.chg hC (by first | assumption | rfl));(try replace hR:=hR.chg hC (by first | assumption | rfl));replace hX:=hX.chg hC hG1
     clear hC;rw [xB (by omega)] at hB1;refine aD (hK7 _ _ ?_);refine wp_region_lit (aA (aB) (aA (aR rfl rfl (aM (by omega) (by omega))) (aA (aF) ?_)));simp only[zz];refine aD ?_;obtain ⟨r1,r2⟩:=Sj (by omega) hlo hv2 hz;rw [show ((i:Int) + 1) = ((i + 1 : Nat) : Int) by omega];simp only[Exit.inBlock,Exit.then];refine ⟨xs.length - (i + 1),_,?_,rfl,?_,?_⟩
     · omega
     · simp only[zz,zv]
     ·
      simp only[zQ,zR,zD,zE];exact ⟨i + 1,os.set (i + ys.length) c,rfl,hX,hS,hR,hB1,by omega,by simpa using hlo,r1,r2,hd.set (by omega),rfl⟩
  ·
   refine wp_exit ?_;refine hK3 _ _ (aC (fun K16 hK16=>?_));obtain rfl : i = xs.length:=by omega
   refine wp_region_lit (aA (aB) ?_);simp only[zz];rw [← hlo];refine bE rfl rfl (Ic _ (dK.of_blk hB1 hd rfl (by omega))) ?_;rintro v w2 hE rfl;replace hB1:=hB1.ext hE;replace hX:=hX.trans hE;clear hE;simp only[zz];refine aA (aF) ?_;simp only[zz];refine aD (hK16 _ _ ?_);refine wp_ret ?_;try simp only[Exit.inBlock,Exit.then]
   refine bP rfl rfl ?_;try simp only[zD,zE]
   exact ⟨_,rfl,hX,pN.of_trim (dK.of_blk hB1 hd rfl (by omega)) (by rw [hv,List.take_length]),fun a n c e=>by cases e;exact hG1⟩
end Go.Proofs.YtfohfflkhpfjeaaGreatDoor
namespace Go.Proofs.YtfohfflkhpfjeaaGreatDoor
open Go.Proofs.Tryz
open Go.RowKit Go.Lith
set_option maxRecDepth 100000
attribute [local irreducible] wpList wpQuiet dD Code.wp
end Go.Proofs.YtfohfflkhpfjeaaGreatDoor
namespace Go.Proofs.YtfohfflkhpfjeaaGreatDoor
open Go.Proofs.Tryz
open Go.RowKit Go.Lith
set_option maxRecDepth 100000
attribute [local irreducible] wpList wpQuiet dD Code.wp
theorem tP {neg : Bool} {s : ByteArray} (w : World) (hs : s.size ≤ 1000000000000) : eE prog 58 [.agg #[.bool neg,.string s]] w (pN (Yw s)):=by
 skip
 refine ⟨ado,?_⟩;have hX:=cZ.refl w;have hbl:=pF s;have hbd:=yJ s
 go_enter func58,ntmps58
 refine aC (fun K1 hK1=>wp_region_lit ?_);refine lX (by simp only[zz];rfl) ?_;intro w1 g1 hE hg1 hB1;have hG1:=Nat.le_trans hX.size hg1;replace hX:=hX.trans hE;clear hE hg1;simp only[zz];refine aA (aF) ?_;simp only[zz];refine aD (hK1 _ _ ?_);refine aC (fun K2 hK2=>wp_region_lit (aA (aF) ?_));simp only[zz];obtain ⟨b3,hb3e,hb3l⟩:=hX.base;have hS3:=rT.of hX hb3e;have hO3:=jG.nil_of hX b3 3 1;have hl3_1 : g1 < b3:=by rw [hb3e];exact hB1.lt
 clear hb3e;refine aD (hK2 _ _ ?_);refine aC (fun K3 hK3=>wp_region_lit (aA (aJ (c:=0) gR rfl oY rfl rfl) ?_));simp only[zz];refine aI rfl (hB1.lies1 wK rfl) ?_;simp only[zz];refine aA (nZ rfl oO rfl) (aA (aF) ?_);simp only[zz];refine aD (hK3 _ _ ?_);refine aC (fun K4 hK4=>aC (fun K5 hK5=>wp_region_lit (aA (aB) (aA (aF) ?_))));simp only[zz];refine aD (hK5 _ _ ?_);refine wp_block (bN [3,5] [6,11,12,13,14,15,16,17,18,19,20,21,22,23,24,25,26,27,28,29,30,31,32,33,34,35] (fun n vs wl=>∃ (k : Nat) (os : List Nat) (v3 : Value),vs = [v3,.int .i64 ((s.size : Int) - 2 * (k : Int))] ∧ (cZ w wl) ∧ (fQ wl g1 [.bool neg,.string s] 65) ∧ (rT wl b3) ∧ (jG wl b3 3 1 v3 os.length (os.map tJ)) ∧ (os.length = k) ∧ (val 65536 os = val 256 ((kX s).take (2 * k))) ∧ (cJ 65536 os) ∧ (2 * k ≤ s.size + 1) ∧ (n = s.size - 2 * k)) ?_ ?_)
 ·
  rw [show ((s.size : Int)) = (s.size : Int) - 2 * ((0 : Nat) : Int) by omega];apply Exists.intro;simp only[zQ,zR,zD,zE];exact ⟨0,[],_,rfl,hX,hB1,hS3,hO3,rfl,by simp [val],jV _,by omega,rfl⟩
 ·
  intro n vs wr hI u;obtain ⟨k,os,v3,rfl,hX,hB1,hS3,hO3,hlo,hv,hd,hk,hn⟩:=hI;simp only[zu,zF,zG];refine aC (fun K6 hK6=>aC (fun K7 hK7=>wp_region_lit (aA (aB) (aA (oQ rfl rfl) ?_))));simp only[zz];refine aD (hK7 _ _ ?_);refine cD rfl (fun hc1=>?_) (fun hc1=>?_)
  ·
   refine wp_skip ?_;refine hK6 _ _ (aC (fun K8 hK8=>wp_block (aC (fun K9 hK9=>?_))));obtain ⟨y1,hb1,hp1,hy1⟩:=vC (show 2 * k + 1 + (s.size - 2 * k - 1) = s.size by omega);have hy1l : y1.toNat < 256:=y1.toNat_lt;refine wp_region_lit (aA (aJ (c:=0) gR rfl oY rfl rfl) ?_);simp only[zz];refine aI rfl (hB1.lies1 wK rfl) ?_;simp only[zz];refine aA (aB) (aA (eI rfl rfl (aM (by omega) (by omega))) ?_);simp only[zz];refine aA ((mD oO rfl rfl (by omega) (by rw [show ((s.size : Int) - 2 * (k : Int) - 1).toNat = s.size - 2 * k - 1 by omega];exact hb1))) ?_;simp only[zz];refine aA (jM iN Ej rfl (aM (by omega) (by omega))) (aA (aF) ?_);simp only[zz];refine aD (hK9 _ _ ?_);refine aC (fun K10 hK10=>aC (fun K11 hK11=>wp_region_lit (aA (aB) (aA (oQ rfl rfl) ?_))));simp only[zz];refine aD (hK11 _ _ ?_);refine cD rfl (fun hc2=>?_) (fun hc2=>?_)
   ·
    obtain ⟨y2,hb2,hp2,hy2⟩:=vC (show 2 * k + 1 + 1 + (s.size - 2 * k - 2) = s.size by omega);have hy2l : y2.toNat < 256:=y2.toNat_lt;refine wp_region_lit (aA (aB) (aA (aJ (c:=0) gR rfl oY rfl rfl) ?_));simp only[zz];refine aI rfl (hB1.lies1 wK rfl) ?_;simp only[zz];refine aA (aB) (aA (eI rfl rfl (aM (by omega) (by omega))) ?_);simp only[zz];refine aA ((mD oO rfl rfl (by omega) (by rw [show ((s.size : Int) - 2 * (k : Int) - 2).toNat = s.size - 2 * k - 2 by omega];exact hb2))) ?_;simp only[zz];refine aA (jM iN Ej rfl (aM (by omega) (by omega))) (aA (eO rfl rfl (aM (by omega) (by omega))) (aA (aR rfl rfl (aM (by omega) (by omega))) ?_));simp only[zz];refine aA (aF) ?_;simp only[zz];refine aD ?_;obtain ⟨d,hd1⟩ : ∃ d : Nat,d = y1.toNat + 256 * y2.toNat:=⟨_,rfl⟩
    rw [show ((y1.toNat : Int) + 256 * (y2.toNat : Int)) = (d : Int) by omega];have hd2 : d = (kX s)[2 * k] + 256 * ((kX s)[2 * k + 1]?.getD 0):=by rw [List.getElem?_eq_getElem hp2,hy1];simp only[Option.getD_some];rw [hy2];exact hd1
    refine hK10 _ _ ?_;refine wp_region_lit (aA (aB) (aA (aB) ?_));simp only[zz];refine eU bY (z:=.int .i64 0) (by kernel_rfl) rfl (by simp only[zz];rfl) (by rfl) ?_;intro w2 g2 hE hg2 hB2;have hG2:=Nat.le_trans hX.size hg2;have hN2_1 : g2 ≠ g1:=Nat.ne_of_gt (Nat.lt_of_lt_of_le hB1.lt hg2);replace hB1:=hB1.ext hE;(try replace hS3:=hS3.ext hE);(try replace hO3:=hO3.ext hE);replace hX:=hX.trans hE;clear hE hg2;simp only[zz];refine fL rfl bY qC rfl (by decide) rfl hO3 rfl (news:=_) rfl hB2.row0 (by simp [Value.oneCell']) (by omega) (by omega) hS3.h ?_;clear hO3;intro v3 w3 hO3 hGr _;replace hB1:=hB1.grew hGr hl3_1;(try replace hS3:=hS3.grew hGr (by first | trivial | omega));replace hX:=hX.grown hGr hb3l;clear hGr;replace hO3:=hO3.snoc;simp only[zz];refine aA (aF) ?_;simp only[zz];refine aD (hK8 _ _ ?_);refine wp_region_lit (aA (aB) (aA (eI rfl rfl (aM (by omega) (by omega))) (aA (aF) ?_)));simp only[zz];refine aD ?_;obtain ⟨r1,r2⟩:=xD hlo hv (by omega) hd2 hbd hd;rw [show ((s.size : Int) - 2 * (k : Int) - 2) = (s.size : Int) - 2 * ((k + 1 : Nat) : Int) by omega];simp only[Exit.inBlock,Exit.then];refine ⟨s.size - 2 * (k + 1),_,?_,rfl,?_,?_⟩
    · omega
    · simp only[zz,zv]
    ·
     simp only[zQ,zR,zD,zE];exact ⟨k + 1,os ++ [d],v3,rfl,hX,hB1,hS3,hO3,by simp;omega,r1,r2,by omega,rfl⟩
   ·
    obtain ⟨d,hd1⟩ : ∃ d : Nat,d = y1.toNat:=⟨_,rfl⟩
    rw [← hd1];have hd2 : d = (kX s)[2 * k] + 256 * ((kX s)[2 * k + 1]?.getD 0):=by rw [List.getElem?_eq_none (by omega),hy1];simp only[Option.getD_none];omega
    refine wp_skip ?_;refine hK10 _ _ (wp_region_lit (aA (aB) (aA (aB) ?_)));simp only[zz];refine eU bY (z:=.int .i64 0) (by kernel_rfl) rfl (by simp only[zz];rfl) (by rfl) ?_;intro w2 g2 hE hg2 hB2;have hG2:=Nat.le_trans hX.size hg2;have hN2_1 : g2 ≠ g1:=Nat.ne_of_gt (Nat.lt_of_lt_of_le hB1.lt hg2);replace hB1:=hB1.ext hE;(try replace hS3:=hS3.ext hE);(try replace hO3:=hO3.ext hE);replace hX:=hX.trans hE;clear hE hg2;simp only[zz];refine fL rfl bY qC rfl (by decide) rfl hO3 rfl (news:=_) rfl hB2.row0 (by simp [Value.oneCell']) (by omega) (by omega) hS3.h ?_;clear hO3;intro v3 w3 hO3 hGr _;replace hB1:=hB1.grew hGr hl3_1;(try replace hS3:=hS3.grew hGr (by first | trivial | omega));replace hX:=hX.grown hGr hb3l;clear hGr;replace hO3:=hO3.snoc;simp only[zz];refine aA (aF) ?_;simp only[zz];refine aD (hK8 _ _ ?_);refine wp_region_lit (aA (aB) (aA (eI rfl rfl (aM (by omega) (by omega))) (aA (aF) ?_)));simp only[zz];refine aD ?_;obtain ⟨r1,r2⟩:=xD hlo hv (by omega) hd2 hbd hd;rw [show ((s.size : Int) - 2 * (k : Int) - 2) = (s.size : Int) - 2 * ((k + 1 : Nat) : Int) by omega];simp only[Exit.inBlock,Exit.then];refine ⟨s.size - 2 * (k + 1),_,?_,rfl,?_,?_⟩
    · omega
    · simp only[zz,zv]
    ·
     simp only[zQ,zR,zD,zE];exact ⟨k + 1,os ++ [d],v3,rfl,hX,hB1,hS3,hO3,by simp;omega,r1,r2,by omega,rfl⟩
  ·
   refine wp_exit ?_;refine hK4 _ _ (aC (fun K12 hK12=>?_));obtain ⟨A3,c3,rfl,hD,_⟩:=dK.of_owns hO3 rfl hd (by omega);refine wp_region_lit (aA (aB) ?_);simp only[zz];refine bE rfl rfl (Ic _ hD) ?_;rintro v w2 hE rfl
   (try replace hD:=hD.ext hE);replace hX:=hX.trans hE
   clear hE;simp only[zz];refine aA (aF) ?_;simp only[zz];refine aD (hK12 _ _ ?_);refine wp_ret ?_;try simp only[Exit.inBlock,Exit.then]
   refine bP rfl rfl ?_;try simp only[zD,zE]
   exact ⟨_,rfl,hX,pN.of_trim hD (by rw [hv,List.take_of_length_le (by omega)];rfl)⟩
theorem rV {A : Option Addr} {xs : List Nat} {b na cap : Nat} {neg : Bool} (w : World) (hS : dK w b A na cap xs) (hl : xs.length ≤ 100000000000) : eE prog 59 [.bool neg,.slice A na cap] w (fun v _=>v = W (Eb neg (val 65536 xs))):=by
 skip
 refine ⟨adp,?_⟩;have hX:=cZ.refl w;obtain rfl:=hS.eq;have hlt:=oC xs;have hT : dK w w.heap.size A (trim xs).length cap (trim xs):=by
  have h:=(hS.take (trim xs).length).here;rwa [← gM] at h
 have htr:=qY xs;have hvx:=pU 65536 xs;obtain ⟨ys,hys⟩ : ∃ ys,ys = trim xs:=⟨_,rfl⟩
 rw [← hys] at hT htr hlt hvx;have hyd:=hT.digs;have h2l:=Sl ys
 go_enter func59,ntmps59
 refine aC (fun K1 hK1=>wp_region_lit ?_);refine jA cL rfl ?_;intro w1 g1 hE hg1 hB1;have hG1:=Nat.le_trans hX.size hg1
 (try replace hT:=hT.ext hE);replace hX:=hX.trans hE
 clear hE hg1;simp only[zz];refine aD (hK1 _ _ ?_);refine aC (fun K2 hK2=>wp_region_lit (aA (aB) ?_));simp only[zz];refine bE rfl rfl (Ic _ (hS.ext hX)) ?_;rintro v w2 hE rfl;replace hB1:=hB1.ext hE;(try replace hT:=hT.ext hE);replace hX:=hX.trans hE;clear hE;rw [← hys];clear hys;simp only[zz];refine aA (aF) ?_;simp only[zz];refine aD (hK2 _ _ ?_);refine aC (fun K3 hK3=>aC (fun K4 hK4=>?_));by_cases hy0 : ys = []
 ·
  subst hy0;refine wp_region_lit (aA (aB) (aA (bC rfl bY rfl) (aA (sG rfl rfl (by rfl)) ?_)));simp only[zz];refine aD (hK4 _ _ ?_);refine cG rfl (aC (fun K5 hK5=>wp_region_lit (aA (oZ) ?_)));simp only[zz];refine cK rfl (by simp only[zz];rfl) (by exact aO) hB1 (by simp) (by simp [Value.oneCell']) ?_;clear hB1;intro w3 hC hB1;replace hX:=hX.chg hC hG1;clear hC;simp only[zy,zx,bB,Nat.reduceAdd] at hB1;refine aD (hK5 _ _ ?_);refine wp_ret ?_;try simp only[Exit.inBlock,Exit.then]
  refine bP rfl ⟨_,rfl,(hB1.lies bG aO rfl rfl)⟩ ?_;try simp only[zD,zE]
  exact ⟨_,rfl,hX,by rw [← hvx];cases neg <;> rfl⟩
 ·
  have hyl : 0 < ys.length:=List.length_pos_iff.2 hy0;have htop:=sI htr hyl;refine wp_region_lit (aA (aB) (aA (bC rfl bY rfl) (aA (Tl rfl rfl (by omega)) ?_)));simp only[zz];refine aD (hK4 _ _ ?_);refine iT rfl (wp_skip ?_);refine hK3 _ _ (aC (fun K6 hK6=>wp_region_lit (aA (aF) ?_)));simp only[zz];obtain ⟨b5,hb5e,hb5l⟩:=hX.base;have hS5:=rT.of hX hb5e;have hO5:=jG.nil_of hX b5 5 1;have hl5_1 : g1 < b5:=by rw [hb5e];exact hB1.lt
  clear hb5e;refine aD (hK6 _ _ ?_);refine aC (fun K7 hK7=>aC (fun K8 hK8=>wp_region_lit (aA (aB) (aA (bC rfl bY rfl) (aA (eI rfl rfl (aM (by omega) (by omega))) ?_)))));simp only[zz];refine aA (aF) ?_;simp only[zz];refine aD (hK8 _ _ ?_);refine wp_block (bN [5,6] [16,17,18,19,20,21,22,23,24,25,26,27,28,29,30,31,32,33,34,35,36,37,38,39,40,41,42,43,44,45,46,47,48,49] (fun n vs wl=>∃ (k : Nat) (os : List UInt8) (v5 : Value),vs = [v5,.int .i64 ((k:Int) - 1)] ∧ (cZ w wl) ∧ (fQ wl g1 [.bool false,.string ⟨#[]⟩] 65) ∧ (dK wl w.heap.size A ys.length cap ys) ∧ (rT wl b5) ∧ (jG wl b5 5 1 v5 os.length (os.map Yx)) ∧ (os = kS ys k) ∧ (k ≤ ys.length) ∧ (k < ys.length → kS ys k ≠ []) ∧ (os.length ≤ 2 * ys.length) ∧ (n = k)) ?_ ?_)
  ·
   apply Exists.intro;simp only[zQ,zR,zD,zE];exact ⟨ys.length,[],_,rfl,hX,hB1,hT,hS5,hO5,(Ge ys).symm,by omega,fun h=>absurd h (by omega),by simp,rfl⟩
  ·
   intro n vs wr hI u;obtain ⟨k,os,v5,rfl,hX,hB1,hT,hS5,hO5,hos,hk,hne,hosl,hn⟩:=hI;simp only[zu,zF,zG];refine aC (fun K9 hK9=>aC (fun K10 hK10=>wp_region_lit (aA (aB) (aA (oR rfl rfl) ?_))));simp only[zz];refine aD (hK10 _ _ ?_);refine cD rfl (fun hc2=>?_) (fun hc2=>?_)
   ·
    refine wp_skip ?_;refine hK9 _ _ (aC (fun K11 hK11=>wp_block (aC (fun K12 hK12=>aC (fun K13 hK13=>?_)))));obtain ⟨a,rfl,hca,hla⟩:=hT.get (show k - 1 < ys.length by omega);rcases (show k < ys.length ∨ k = ys.length by omega) with hkl | hkl
    ·
     obtain ⟨r1,r2⟩:=Nv (show 0 < k by omega) (by omega) (hne hkl);refine wp_region_lit (aA (aB) (aA (aB) (aA (bC rfl bY rfl) ?_)));simp only[zz];refine aA (eI rfl rfl (aM (by omega) (by omega))) (aA (bT rfl rfl (by omega)) (aA (aB) ?_));simp only[zz];refine fG rfl ?_;simp only[zz];refine fG rfl ?_;simp only[zz];refine fG rfl ?_;simp only[zz];refine fG rfl ?_;simp only[zz];refine fG rfl ?_;simp only[zz];refine aA (eF rfl) ?_;simp only[zz];refine aD (hK13 _ _ ?_);refine cG rfl ?_;have hca:=hT.at (show k - 1 < ys.length by omega);refine wp_region_lit (aA (aB) (aA (aB) (aA (aB) ?_)));simp only[zz];refine aA (aL bY aT rfl rfl (by omega) (by omega) (fW (show _ = k - 1 by omega))) ?_;simp only[zz];refine aI rfl (lies1 hca bF) ?_;simp only[zz];refine aA (gE rfl rfl (by omega) (lQ (n:=256) (by omega))) (aA (jM Ej iN rfl (tL (by omega))) ?_);simp only[zz];refine eU kY (z:=.int .u8 0) (by kernel_rfl) rfl (by simp only[zz];rfl) (by rfl) ?_;intro w3 g2 hE hg2 hB2;have hG2:=Nat.le_trans hX.size hg2;have hN2_1 : g2 ≠ g1:=Nat.ne_of_gt (Nat.lt_of_lt_of_le hB1.lt hg2);replace hB1:=hB1.ext hE;(try replace hT:=hT.ext hE);(try replace hS5:=hS5.ext hE);(try replace hO5:=hO5.ext hE);replace hX:=hX.trans hE;clear hE hg2;simp only[zz];refine fL rfl kY Fl rfl (by decide) rfl hO5 rfl (news:=_) rfl hB2.row0 (by simp [Value.oneCell']) (by omega) (by omega) hS5.h ?_;clear hO5;intro v5 w4 hO5 hGr _;replace hB1:=hB1.grew hGr hl5_1;(try replace hT:=hT.grew hGr (by first | trivial | omega));(try replace hS5:=hS5.grew hGr (by first | trivial | omega));replace hX:=hX.grown hGr hb5l;clear hGr;replace hO5:=hO5.snoc8 (by omega);simp only[zz];refine aA (aF) ?_;simp only[zz];refine aD (hK12 _ _ ?_);have hca:=hT.at (show k - 1 < ys.length by omega);refine wp_region_lit (aA (aB) (aA (aB) (aA (aB) ?_)));simp only[zz];refine aA (aL bY aT rfl rfl (by omega) (by omega) (fW (show _ = k - 1 by omega))) ?_;simp only[zz];refine aI rfl (lies1 hca bF) ?_;simp only[zz];refine aA (dJ rfl rfl (by omega) (kE (n:=256))) (aA (jM Ej iN rfl (tL (by omega))) ?_);simp only[zz];refine eU kY (z:=.int .u8 0) (by kernel_rfl) rfl (by simp only[zz];rfl) (by rfl) ?_;intro w5 g3 hE hg3 hB3;have hG3:=Nat.le_trans hX.size hg3;have hN3_1 : g3 ≠ g1:=Nat.ne_of_gt (Nat.lt_of_lt_of_le hB1.lt hg3);replace hB1:=hB1.ext hE;(try replace hT:=hT.ext hE);(try replace hS5:=hS5.ext hE);(try replace hO5:=hO5.ext hE);replace hX:=hX.trans hE;clear hE hg3;simp only[zz];refine fL rfl kY Fl rfl (by decide) rfl hO5 rfl (news:=_) rfl hB3.row0 (by simp [Value.oneCell']) (by first | omega | (simp;omega)) (by first | omega | (simp;omega)) hS5.h ?_;clear hO5;intro v5 w6 hO5 hGr _;replace hB1:=hB1.grew hGr hl5_1;(try replace hT:=hT.grew hGr (by first | trivial | omega));(try replace hS5:=hS5.grew hGr (by first | trivial | omega));replace hX:=hX.grown hGr hb5l;clear hGr;replace hO5:=hO5.snoc8 (by omega);simp only[zz];refine aA (aF) ?_;simp only[zz];refine aD (hK11 _ _ ?_);refine wp_region_lit (aA (aB) (aA (eI rfl rfl (aM (by omega) (by omega))) (aA (aF) ?_)));simp only[zz];refine aD ?_;have hos2 : os ++ [UInt8.ofNat (ys[k - 1] / 256)] ++ [UInt8.ofNat (ys[k - 1] % 256)] = kS ys (k - 1):=by rw [r1,hos]
     rw [show ((k:Int) - 1 - 1) = ((k - 1 : Nat) : Int) - 1 by omega];simp only[Exit.inBlock,Exit.then];refine ⟨k - 1,_,?_,rfl,?_,?_⟩
     · omega
     · simp only[zz,zv]
     ·
      simp only[zQ,zR,zD,zE];exact ⟨k - 1,os ++ [UInt8.ofNat (ys[k - 1] / 256)] ++ [UInt8.ofNat (ys[k - 1] % 256)],v5,rfl,hX,hB1,hT,hS5,hO5,hos2,by omega,fun _=>r2,by rw [hos2];exact h2l _,rfl⟩
    ·
     subst hkl;obtain ⟨f1,f2⟩:=Lk (by omega) htop hla;have hos0 : os = []:=by rw [hos];exact Ge ys
     refine wp_region_lit (aA (aB) (aA (aB) (aA (bC rfl bY rfl) ?_)));simp only[zz];refine aA (eI rfl rfl (aM (by omega) (by omega))) (aA (eG rfl rfl (by omega)) (aA (aB) ?_));simp only[zz];refine bM rfl (aA (aB) ?_);simp only[zz];refine bM rfl (aA (aB) ?_);simp only[zz];refine bM rfl (aA (aL bY aT rfl rfl (by omega) (by omega) (fW (show _ = ys.length - 1 by omega))) ?_);simp only[zz];refine bM rfl (aI rfl (lies1 hca bF) ?_);simp only[zz];refine bM rfl (aA (oR rfl rfl) (aA (gF rfl) ?_));simp only[zz];refine aD (hK13 _ _ ?_);refine cD rfl (fun hc3=>?_) (fun hc3=>?_)
     ·
      have hca:=hT.at (show ys.length - 1 < ys.length by omega);refine wp_region_lit (aA (aB) (aA (aB) (aA (aB) ?_)));simp only[zz];refine aA (aL bY aT rfl rfl (by omega) (by omega) (fW (show _ = ys.length - 1 by omega))) ?_;simp only[zz];refine aI rfl (lies1 hca bF) ?_;simp only[zz];refine aA (gE rfl rfl (by omega) (lQ (n:=256) (by omega))) (aA (jM Ej iN rfl (tL (by omega))) ?_);simp only[zz];refine eU kY (z:=.int .u8 0) (by kernel_rfl) rfl (by simp only[zz];rfl) (by rfl) ?_;intro w3 g2 hE hg2 hB2;have hG2:=Nat.le_trans hX.size hg2;have hN2_1 : g2 ≠ g1:=Nat.ne_of_gt (Nat.lt_of_lt_of_le hB1.lt hg2);replace hB1:=hB1.ext hE;(try replace hT:=hT.ext hE);(try replace hS5:=hS5.ext hE);(try replace hO5:=hO5.ext hE);replace hX:=hX.trans hE;clear hE hg2;simp only[zz];refine fL rfl kY Fl rfl (by decide) rfl hO5 rfl (news:=_) rfl hB2.row0 (by simp [Value.oneCell']) (by omega) (by omega) hS5.h ?_;clear hO5;intro v5 w4 hO5 hGr _;replace hB1:=hB1.grew hGr hl5_1;(try replace hT:=hT.grew hGr (by first | trivial | omega));(try replace hS5:=hS5.grew hGr (by first | trivial | omega));replace hX:=hX.grown hGr hb5l;clear hGr;replace hO5:=hO5.snoc8 (by omega);simp only[zz];refine aA (aF) ?_;simp only[zz];refine aD (hK12 _ _ ?_);have hca:=hT.at (show ys.length - 1 < ys.length by omega);refine wp_region_lit (aA (aB) (aA (aB) (aA (aB) ?_)));simp only[zz];refine aA (aL bY aT rfl rfl (by omega) (by omega) (fW (show _ = ys.length - 1 by omega))) ?_;simp only[zz];refine aI rfl (lies1 hca bF) ?_;simp only[zz];refine aA (dJ rfl rfl (by omega) (kE (n:=256))) (aA (jM Ej iN rfl (tL (by omega))) ?_);simp only[zz];refine eU kY (z:=.int .u8 0) (by kernel_rfl) rfl (by simp only[zz];rfl) (by rfl) ?_;intro w5 g3 hE hg3 hB3;have hG3:=Nat.le_trans hX.size hg3;have hN3_1 : g3 ≠ g1:=Nat.ne_of_gt (Nat.lt_of_lt_of_le hB1.lt hg3);replace hB1:=hB1.ext hE;(try replace hT:=hT.ext hE);(try replace hS5:=hS5.ext hE);(try replace hO5:=hO5.ext hE);replace hX:=hX.trans hE;clear hE hg3;simp only[zz];refine fL rfl kY Fl rfl (by decide) rfl hO5 rfl (news:=_) rfl hB3.row0 (by simp [Value.oneCell']) (by first | omega | (simp;omega)) (by first | omega | (simp;omega)) hS5.h ?_;clear hO5;intro v5 w6 hO5 hGr _;replace hB1:=hB1.grew hGr hl5_1;(try replace hT:=hT.grew hGr (by first | trivial | omega));(try replace hS5:=hS5.grew hGr (by first | trivial | omega));replace hX:=hX.grown hGr hb5l;clear hGr;replace hO5:=hO5.snoc8 (by omega);simp only[zz];refine aA (aF) ?_;simp only[zz];refine aD (hK11 _ _ ?_);refine wp_region_lit (aA (aB) (aA (eI rfl rfl (aM (by omega) (by omega))) (aA (aF) ?_)));simp only[zz];refine aD ?_;have hos2 : os ++ [UInt8.ofNat (ys[ys.length - 1] / 256)] ++ [UInt8.ofNat (ys[ys.length - 1] % 256)] = kS ys (ys.length - 1):=by rw [f1,if_pos (by omega),hos0];rfl
      rw [show ((ys.length:Int) - 1 - 1) = ((ys.length - 1 : Nat) : Int) - 1 by omega];simp only[Exit.inBlock,Exit.then];refine ⟨ys.length - 1,_,?_,rfl,?_,?_⟩
      · omega
      · simp only[zz,zv]
      ·
       simp only[zQ,zR,zD,zE];exact ⟨ys.length - 1,os ++ [UInt8.ofNat (ys[ys.length - 1] / 256)] ++ [UInt8.ofNat (ys[ys.length - 1] % 256)],v5,rfl,hX,hB1,hT,hS5,hO5,hos2,by omega,fun _=>f2,by rw [hos2];exact h2l _,rfl⟩
     ·
      refine wp_skip ?_;refine hK12 _ _ ?_;have hca:=hT.at (show ys.length - 1 < ys.length by omega);refine wp_region_lit (aA (aB) (aA (aB) (aA (aB) ?_)));simp only[zz];refine aA (aL bY aT rfl rfl (by omega) (by omega) (fW (show _ = ys.length - 1 by omega))) ?_;simp only[zz];refine aI rfl (lies1 hca bF) ?_;simp only[zz];refine aA (dJ rfl rfl (by omega) (kE (n:=256))) (aA (jM Ej iN rfl (tL (by omega))) ?_);simp only[zz];refine eU kY (z:=.int .u8 0) (by kernel_rfl) rfl (by simp only[zz];rfl) (by rfl) ?_;intro w3 g2 hE hg2 hB2;have hG2:=Nat.le_trans hX.size hg2;have hN2_1 : g2 ≠ g1:=Nat.ne_of_gt (Nat.lt_of_lt_of_le hB1.lt hg2);replace hB1:=hB1.ext hE;(try replace hT:=hT.ext hE);(try replace hS5:=hS5.ext hE);(try replace hO5:=hO5.ext hE);replace hX:=hX.trans hE;clear hE hg2;simp only[zz];refine fL rfl kY Fl rfl (by decide) rfl hO5 rfl (news:=_) rfl hB2.row0 (by simp [Value.oneCell']) (by first | omega | (simp;omega)) (by first | omega | (simp;omega)) hS5.h ?_;clear hO5;intro v5 w4 hO5 hGr _;replace hB1:=hB1.grew hGr hl5_1;(try replace hT:=hT.grew hGr (by first | trivial | omega));(try replace hS5:=hS5.grew hGr (by first | trivial | omega));replace hX:=hX.grown hGr hb5l;clear hGr;replace hO5:=hO5.snoc8 (by omega);simp only[zz];refine aA (aF) ?_;simp only[zz];refine aD (hK11 _ _ ?_);refine wp_region_lit (aA (aB) (aA (eI rfl rfl (aM (by omega) (by omega))) (aA (aF) ?_)));simp only[zz];refine aD ?_;have hos2 : os ++ [UInt8.ofNat (ys[ys.length - 1] % 256)] = kS ys (ys.length - 1):=by rw [f1,if_neg (by omega),hos0]
      rw [show ((ys.length:Int) - 1 - 1) = ((ys.length - 1 : Nat) : Int) - 1 by omega];simp only[Exit.inBlock,Exit.then];refine ⟨ys.length - 1,_,?_,rfl,?_,?_⟩
      · omega
      · simp only[zz,zv]
      ·
       simp only[zQ,zR,zD,zE];exact ⟨ys.length - 1,os ++ [UInt8.ofNat (ys[ys.length - 1] % 256)],v5,rfl,hX,hB1,hT,hS5,hO5,hos2,by omega,fun _=>f2,by rw [hos2];exact h2l _,rfl⟩
   ·
    refine wp_exit ?_;refine hK7 _ _ (aC (fun K14 hK14=>wp_region_lit (aA (aB) (aA (aB) ?_))));simp only[zz];refine eL (Bb kY Ej oO rfl hO5) ?_;simp only[zz];refine aA (oG rfl rfl) ?_;simp only[zz];refine cK rfl (by simp only[zz];rfl) (by exact aO) hB1 (by simp) (by simp [Value.oneCell']) ?_;clear hB1;intro w3 hC hB1;replace hX:=hX.chg hC hG1;clear hC;simp only[zy,zx,bB,Nat.reduceAdd] at hB1;refine aD (hK14 _ _ ?_);refine wp_ret ?_;try simp only[Exit.inBlock,Exit.then]
    refine bP rfl ⟨_,rfl,(hB1.lies bG aO rfl rfl)⟩ ?_;try simp only[zD,zE]
    exact ⟨_,rfl,hX,by (obtain rfl : k = 0:=by omega);(have hV : val 65536 ys ≠ 0:=Nat.ne_of_gt (vZ (by omega) htr hy0));rw [hos,Nw hyd neg,← hvx];simp [Lith.W,Gx,hV]⟩
end Go.Proofs.YtfohfflkhpfjeaaGreatDoor
namespace Go.Proofs.YtfohfflkhpfjeaaGreatDoor
open Go.Proofs.Tryz
open Go.RowKit Go.Lith
set_option maxRecDepth 100000
attribute [local irreducible] wpList wpQuiet dD Code.wp
theorem Sy {k : Nat} {a b : Int} (ha : Bd k a) (hb : Bd k b) : (digs 65536 (a * b).natAbs).length ≤ k + k:=qR (Bd.mul ha hb)
theorem acm {a : Int} (ha : Bd 1000000 a) : jB prog 98 [W a] (W (-a)):=by
 intro w;refine ⟨adT,?_⟩;have hX:=cZ.refl w;have hla : (digs 65536 a.natAbs).length ≤ 1000000:=qR ha
 go_enter func98,ntmps98
 refine aC (fun K1 hK1=>wp_region_lit ?_);refine lX (by simp only[zz];rfl) ?_;intro w1 g1 hE hg1 hB1;have hG1:=Nat.le_trans hX.size hg1;replace hX:=hX.trans hE;clear hE hg1;simp only[zz];refine jA cL rfl ?_;intro w2 g2 hE hg2 hB2;have hG2:=Nat.le_trans hX.size hg2;have hN2_1 : g2 ≠ g1:=Nat.ne_of_gt (Nat.lt_of_lt_of_le hB1.lt hg2);replace hB1:=hB1.ext hE;replace hX:=hX.trans hE;clear hE hg2;simp only[zz];refine aD (hK1 _ _ ?_);refine aC (fun K2 hK2=>?_);refine dT [(0,true),(1,true),(2,true),(3,true),(4,false),(5,false),(6,false)] aP (by kernel_rfl) (dB (fun _ _ _ _ _ h=>h)) (ol:=?_) ?hol ?_
 case hol=>simp only[zw,zQ,zR];try rfl
 intro w3 hE;replace hB1:=hB1.ext hE;replace hB2:=hB2.ext hE;replace hX:=hX.trans hE;clear hE;refine ⟨_,(kN.blk hB1 kN.nil),?_⟩;refine aW (aJ (c:=0) gR rfl fV rfl rfl) ?_;simp only[zz];refine bQ rfl (fun _ ⟨hB1,_⟩=>(hB1.lies1 jY rfl)) ?_;simp only[zz];refine aW (iO rfl) ?_;simp only[zz];refine bQ rfl (fun _ ⟨hB1,_⟩=>(hB1.lies bG aO rfl rfl)) ?_;simp only[zz];refine bU (bE rfl rfl (tP _ (iE ha)) ?_);rintro v w4 hE ⟨A1,c1,rfl,hD1⟩;replace hB1:=hB1.ext hE;replace hB2:=hB2.ext hE;replace hX:=hX.trans hE;clear hE;rw [gT] at hD1 ⊢;simp only[zz];refine aD (⟨⟨hB1,trivial⟩,?_⟩);refine bU (bE rfl rfl (rV _ hD1 (Nat.le_trans hla (by decide))) ?_);rintro v w5 hE rfl;replace hB1:=hB1.ext hE;replace hB2:=hB2.ext hE;replace hX:=hX.trans hE;clear hE;simp only[gJ];simp only[zz];refine aD (⟨⟨hB1,trivial⟩,?_⟩);refine bU ?_;refine cK rfl (by simp only[zz];rfl) (by exact aO) hB2 (by simp) (by simp [Value.oneCell']) ?_;clear hB2;intro w6 hC hB2;replace hB1:=hB1.chg hC (by first | exact hN1_2 | exact Ne.symm hN2_1);replace hX:=hX.chg hC hG2;clear hC;simp only[zy,zx,bB,Nat.reduceAdd] at hB2;refine aD (⟨⟨hB1,trivial⟩,?_⟩);refine dF ?_;rw [Oe] at hB2;refine hK2 _ _ (wp_ret ?_);try simp only[Exit.inBlock,Exit.then]
 refine bP rfl ⟨_,rfl,(hB2.lies bG aO rfl rfl)⟩ ?_;try simp only[zD,zE]
 exact ⟨_,rfl,hX,rfl⟩
theorem yG {a b : Int} (ha : Bd 1000000 a) (hb : Bd 1000000 b) : jB prog 28 [W a,W b] (W (a + b)):=by
 intro w;refine ⟨ac2,?_⟩;have hX:=cZ.refl w;have hla : (digs 65536 a.natAbs).length ≤ 1000000:=qR ha;have hlb : (digs 65536 b.natAbs).length ≤ 1000000:=qR hb
 go_enter func28,ntmps28
 refine aC (fun K1 hK1=>wp_region_lit ?_);refine lX (by simp only[zz];rfl) ?_;intro w1 g1 hE hg1 hB1;have hG1:=Nat.le_trans hX.size hg1;replace hX:=hX.trans hE;clear hE hg1;simp only[zz];refine lX (by simp only[zz];rfl) ?_;intro w2 g2 hE hg2 hB2;have hG2:=Nat.le_trans hX.size hg2;have hN2_1 : g2 ≠ g1:=Nat.ne_of_gt (Nat.lt_of_lt_of_le hB1.lt hg2);replace hB1:=hB1.ext hE;replace hX:=hX.trans hE;clear hE hg2;simp only[zz];refine jA cL rfl ?_;intro w3 g3 hE hg3 hB3;have hG3:=Nat.le_trans hX.size hg3;have hN3_1 : g3 ≠ g1:=Nat.ne_of_gt (Nat.lt_of_lt_of_le hB1.lt hg3);have hN3_2 : g3 ≠ g2:=Nat.ne_of_gt (Nat.lt_of_lt_of_le hB2.lt hg3);replace hB1:=hB1.ext hE;replace hB2:=hB2.ext hE;replace hX:=hX.trans hE;clear hE hg3;simp only[zz];refine aD (hK1 _ _ ?_);refine aC (fun K2 hK2=>wp_region_lit ?_);refine aI rfl (hB1.lies bG aO rfl rfl) ?_;simp only[zz];refine bE rfl rfl (tP _ (iE ha)) ?_;rintro v w4 hE ⟨A1,c1,rfl,hD1⟩;replace hB1:=hB1.ext hE;replace hB2:=hB2.ext hE;replace hB3:=hB3.ext hE;replace hX:=hX.trans hE;clear hE;rw [gT] at hD1 ⊢;simp only[zz];refine aA (aF) ?_;simp only[zz];refine aD (hK2 _ _ ?_);refine aC (fun K3 hK3=>wp_region_lit ?_);refine aI rfl (hB2.lies bG aO rfl rfl) ?_;simp only[zz];refine bE rfl rfl (tP _ (iE hb)) ?_;rintro v w5 hE ⟨A2,c2,rfl,hD2⟩;replace hB1:=hB1.ext hE;replace hB2:=hB2.ext hE;replace hB3:=hB3.ext hE;(try replace hD1:=hD1.ext hE);replace hX:=hX.trans hE;clear hE;rw [gT] at hD2 ⊢;simp only[zz];refine aA (aF) ?_;simp only[zz];refine aD (hK3 _ _ ?_);refine aC (fun K4 hK4=>aC (fun K5 hK5=>wp_region_lit (aA (aJ (c:=0) gR rfl fV rfl rfl) ?_)));simp only[zz];refine aI rfl (hB1.lies1 jY rfl) ?_;simp only[zz];refine aA (aJ (c:=0) gR rfl fV rfl rfl) ?_;simp only[zz];refine aI rfl (hB2.lies1 jY rfl) ?_;simp only[zz];refine aA (Ud Mq rfl rfl) ?_;simp only[zz];refine aD (hK5 _ _ ?_);refine cD rfl (fun hc1=>?_) (fun hc1=>?_)
 ·
  refine aC (fun K6 hK6=>?_);refine dT [(0,true),(2,true),(3,true),(1,true),(4,false),(5,false),(6,false)] aP (by kernel_rfl) (dB (fun _ _ _ _ _ h=>h)) (ol:=?_) ?hol ?_
  case hol=>simp only[zw,zQ,zR];try rfl
  intro w6 hE;replace hB1:=hB1.ext hE;replace hB3:=hB3.ext hE;(try replace hD1:=hD1.ext hE);(try replace hD2:=hD2.ext hE);replace hX:=hX.trans hE;clear hE;refine ⟨_,(kN.blk hB1 kN.nil),?_⟩;refine aW (aJ (c:=0) gR rfl fV rfl rfl) (aW (aB) (aW (aB) ?_));simp only[zz];refine bQ rfl (fun _ ⟨hB1,_⟩=>(hB1.lies1 jY rfl)) ?_;simp only[zz];refine bU (bE rfl rfl (acl _ hD1.here hD2.here (Nat.le_trans hla (by decide)) (Nat.le_trans hlb (by decide))) ?_);rintro v w7 hE ⟨A3,c3,os,rfl,hD3,hv3,hl3⟩;replace hB1:=hB1.ext hE;replace hB3:=hB3.ext hE;replace hX:=hX.trans hE;clear hE;simp only[gJ] at hv3;simp only[zz];refine aD (⟨⟨hB1,trivial⟩,?_⟩);refine bU (bE rfl rfl (rV _ hD3 (by omega)) ?_);rintro v w8 hE rfl;replace hB1:=hB1.ext hE;replace hB3:=hB3.ext hE;replace hX:=hX.trans hE;clear hE;rw [hv3];simp only[zz];refine aD (⟨⟨hB1,trivial⟩,?_⟩);refine bU ?_;refine cK rfl (by simp only[zz];rfl) (by exact aO) hB3 (by simp) (by simp [Value.oneCell']) ?_;clear hB3;intro w9 hC hB3;replace hB1:=hB1.chg hC (by first | exact hN1_3 | exact Ne.symm hN3_1);replace hX:=hX.chg hC hG3;clear hC;simp only[zy,zx,bB,Nat.reduceAdd] at hB3;refine aD (⟨⟨hB1,trivial⟩,?_⟩);refine dF ?_;rw [Of hc1] at hB3;refine hK6 _ _ (wp_ret ?_);try simp only[Exit.inBlock,Exit.then]
  refine bP rfl ⟨_,rfl,(hB3.lies bG aO rfl rfl)⟩ ?_;try simp only[zD,zE]
  exact ⟨_,rfl,hX,rfl⟩
 ·
  refine wp_skip ?_;refine hK4 _ _ (aC (fun K7 hK7=>aC (fun K8 hK8=>wp_region_lit (aA (aB) (aA (aB) ?_)))));simp only[zz];refine bE rfl rfl (Sx _ hD1 hD2 (tK _) (tK _)) ?_;rintro v w6 hE rfl;replace hB1:=hB1.ext hE;replace hB2:=hB2.ext hE;replace hB3:=hB3.ext hE;(try replace hD1:=hD1.ext hE);(try replace hD2:=hD2.ext hE);replace hX:=hX.trans hE;clear hE;simp only[gJ];simp only[zz];refine aA (oR rfl rfl) ?_;simp only[zz];refine aD (hK8 _ _ ?_);refine cD rfl (fun hc2=>?_) (fun hc2=>?_)
  ·
   have hge:=rD.1 hc2;refine aC (fun K9 hK9=>?_);refine dT [(0,true),(2,true),(3,true),(1,true),(4,false),(5,false),(6,false)] aP (by kernel_rfl) (dB (fun _ _ _ _ _ h=>h)) (ol:=?_) ?hol ?_
   case hol=>simp only[zw,zQ,zR];try rfl
   intro w7 hE;replace hB1:=hB1.ext hE;replace hB3:=hB3.ext hE;(try replace hD1:=hD1.ext hE);(try replace hD2:=hD2.ext hE);replace hX:=hX.trans hE;clear hE;refine ⟨_,(kN.blk hB1 kN.nil),?_⟩;refine aW (aJ (c:=0) gR rfl fV rfl rfl) (aW (aB) (aW (aB) ?_));simp only[zz];refine bQ rfl (fun _ ⟨hB1,_⟩=>(hB1.lies1 jY rfl)) ?_;simp only[zz];refine bU ?_;refine bE rfl rfl (Pq _ hD1.here hD2.here (xC hge) (by simp only[gJ];omega) (Nat.le_trans hla (by decide))) ?_;rintro v w8 hE ⟨⟨A3,c3,rfl,hD3⟩,_⟩;replace hB1:=hB1.ext hE;replace hB3:=hB3.ext hE;replace hX:=hX.trans hE;clear hE;simp only[gJ] at hD3 ⊢;have hl3:=xC (Nat.sub_le a.natAbs b.natAbs);simp only[zz];refine aD (⟨⟨hB1,trivial⟩,?_⟩);refine bU (bE rfl rfl (rV _ hD3 (Nat.le_trans hl3 (Nat.le_trans hla (by decide)))) ?_);rintro v w9 hE rfl;replace hB1:=hB1.ext hE;replace hB3:=hB3.ext hE;replace hX:=hX.trans hE;clear hE;simp only[gJ];simp only[zz];refine aD (⟨⟨hB1,trivial⟩,?_⟩);refine bU ?_;refine cK rfl (by simp only[zz];rfl) (by exact aO) hB3 (by simp) (by simp [Value.oneCell']) ?_;clear hB3;intro w10 hC hB3;replace hB1:=hB1.chg hC (by first | exact hN1_3 | exact Ne.symm hN3_1);replace hX:=hX.chg hC hG3;clear hC;simp only[zy,zx,bB,Nat.reduceAdd] at hB3;refine aD (⟨⟨hB1,trivial⟩,?_⟩);refine dF ?_;rw [Uj hc1 hge] at hB3;refine hK9 _ _ (wp_ret ?_);try simp only[Exit.inBlock,Exit.then]
   refine bP rfl ⟨_,rfl,(hB3.lies bG aO rfl rfl)⟩ ?_;try simp only[zD,zE]
   exact ⟨_,rfl,hX,rfl⟩
  ·
   have hlt : a.natAbs < b.natAbs:=Nat.lt_of_not_le fun h=>hc2 (rD.2 h);refine wp_skip (hK7 _ _ ?_);refine aC (fun K10 hK10=>?_);refine dT [(0,true),(2,true),(3,true),(1,true),(4,false),(5,false),(6,false)] aP (by kernel_rfl) (dB (fun _ _ _ _ _ h=>h)) (ol:=?_) ?hol ?_
   case hol=>simp only[zw,zQ,zR];try rfl
   intro w7 hE;replace hB2:=hB2.ext hE;replace hB3:=hB3.ext hE;(try replace hD1:=hD1.ext hE);(try replace hD2:=hD2.ext hE);replace hX:=hX.trans hE;clear hE;refine ⟨_,(kN.blk hB2 kN.nil),?_⟩;refine aW (aJ (c:=0) gR rfl fV rfl rfl) (aW (aB) (aW (aB) ?_));simp only[zz];refine bQ rfl (fun _ ⟨hB2,_⟩=>(hB2.lies1 jY rfl)) ?_;simp only[zz];refine bU ?_;refine bE rfl rfl (Pq _ hD2.here hD1.here (xC (Nat.le_of_lt hlt)) (by simp only[gJ];omega) (Nat.le_trans hlb (by decide))) ?_;rintro v w8 hE ⟨⟨A3,c3,rfl,hD3⟩,_⟩;replace hB2:=hB2.ext hE;replace hB3:=hB3.ext hE;replace hX:=hX.trans hE;clear hE;simp only[gJ] at hD3 ⊢;have hl3:=xC (Nat.sub_le b.natAbs a.natAbs);simp only[zz];refine aD (⟨⟨hB2,trivial⟩,?_⟩);refine bU (bE rfl rfl (rV _ hD3 (Nat.le_trans hl3 (Nat.le_trans hlb (by decide)))) ?_);rintro v w9 hE rfl;replace hB2:=hB2.ext hE;replace hB3:=hB3.ext hE;replace hX:=hX.trans hE;clear hE;simp only[gJ];simp only[zz];refine aD (⟨⟨hB2,trivial⟩,?_⟩);refine bU ?_;refine cK rfl (by simp only[zz];rfl) (by exact aO) hB3 (by simp) (by simp [Value.oneCell']) ?_;clear hB3;intro w10 hC hB3;replace hB2:=hB2.chg hC (by first | exact hN2_3 | exact Ne.symm hN3_2);replace hX:=hX.chg hC hG3;clear hC;simp only[zy,zx,bB,Nat.reduceAdd] at hB3;refine aD (⟨⟨hB2,trivial⟩,?_⟩);refine dF ?_;rw [Ui hc1 hlt] at hB3;refine hK10 _ _ (wp_ret ?_);try simp only[Exit.inBlock,Exit.then]
   refine bP rfl ⟨_,rfl,(hB3.lies bG aO rfl rfl)⟩ ?_;try simp only[zD,zE]
   exact ⟨_,rfl,hX,rfl⟩
theorem Xt {a b : Int} (ha : Bd 1000000 a) (hb : Bd 1000000 b) : jB prog 56 [W a,W b] (W (a - b)):=by
 intro w;refine ⟨adm,?_⟩;have hX:=cZ.refl w
 go_enter func56,ntmps56
 refine aC (fun K1 hK1=>wp_region_lit ?_);refine lX (by simp only[zz];rfl) ?_;intro w1 g1 hE hg1 hB1;have hG1:=Nat.le_trans hX.size hg1;replace hX:=hX.trans hE;clear hE hg1;simp only[zz];refine lX (by simp only[zz];rfl) ?_;intro w2 g2 hE hg2 hB2;have hG2:=Nat.le_trans hX.size hg2;have hN2_1 : g2 ≠ g1:=Nat.ne_of_gt (Nat.lt_of_lt_of_le hB1.lt hg2);replace hB1:=hB1.ext hE;replace hX:=hX.trans hE;clear hE hg2;simp only[zz];refine jA cL rfl ?_;intro w3 g3 hE hg3 hB3;have hG3:=Nat.le_trans hX.size hg3;have hN3_1 : g3 ≠ g1:=Nat.ne_of_gt (Nat.lt_of_lt_of_le hB1.lt hg3);have hN3_2 : g3 ≠ g2:=Nat.ne_of_gt (Nat.lt_of_lt_of_le hB2.lt hg3);replace hB1:=hB1.ext hE;replace hB2:=hB2.ext hE;replace hX:=hX.trans hE;clear hE hg3;simp only[zz];refine aD (hK1 _ _ ?_);refine aC (fun K2 hK2=>?_);refine gV 4 aP (by kernel_rfl) ?_;simp only[zy];refine gW rfl (fun _ hE'=>((hB1.ext hE').lies bG aO rfl rfl)) ?_;simp only[zz];refine gW rfl (fun _ hE'=>((hB2.ext hE').lies bG aO rfl rfl)) ?_;simp only[zz];refine zY rfl rfl (acm hb) ?_;simp only[zz];refine zY rfl rfl (yG ha hb.neg) ?_;simp only[zz];refine dN ?_;intro w4 hE;replace hB3:=hB3.ext hE;replace hX:=hX.trans hE;clear hE;refine cK rfl (by simp only[zz];rfl) (by exact aO) hB3 (by simp) (by simp [Value.oneCell']) ?_;clear hB3;intro w5 hC hB3;replace hX:=hX.chg hC hG3;clear hC;simp only[zy,zx,bB,Nat.reduceAdd] at hB3;refine aD ?_;rw [← Int.sub_eq_add_neg] at hB3;refine hK2 _ _ (wp_ret ?_);try simp only[Exit.inBlock,Exit.then]
 refine bP rfl ⟨_,rfl,(hB3.lies bG aO rfl rfl)⟩ ?_;try simp only[zD,zE]
 exact ⟨_,rfl,hX,rfl⟩
theorem Do {a b : Int} (ha : Bd 1000000 a) (hb : Bd 1000000 b) : jB prog 51 [W a,W b] (W (a * b)):=by
 intro w;refine ⟨adi,?_⟩;have hX:=cZ.refl w;have hla : (digs 65536 a.natAbs).length ≤ 1000000:=qR ha;have hlb : (digs 65536 b.natAbs).length ≤ 1000000:=qR hb;have hls:=Sy ha hb
 go_enter func51,ntmps51
 refine aC (fun K1 hK1=>wp_region_lit ?_);refine lX (by simp only[zz];rfl) ?_;intro w1 g1 hE hg1 hB1;have hG1:=Nat.le_trans hX.size hg1;replace hX:=hX.trans hE;clear hE hg1;simp only[zz];refine lX (by simp only[zz];rfl) ?_;intro w2 g2 hE hg2 hB2;have hG2:=Nat.le_trans hX.size hg2;have hN2_1 : g2 ≠ g1:=Nat.ne_of_gt (Nat.lt_of_lt_of_le hB1.lt hg2);replace hB1:=hB1.ext hE;replace hX:=hX.trans hE;clear hE hg2;simp only[zz];refine jA cL rfl ?_;intro w3 g3 hE hg3 hB3;have hG3:=Nat.le_trans hX.size hg3;have hN3_1 : g3 ≠ g1:=Nat.ne_of_gt (Nat.lt_of_lt_of_le hB1.lt hg3);have hN3_2 : g3 ≠ g2:=Nat.ne_of_gt (Nat.lt_of_lt_of_le hB2.lt hg3);replace hB1:=hB1.ext hE;replace hB2:=hB2.ext hE;replace hX:=hX.trans hE;clear hE hg3;simp only[zz];refine aD (hK1 _ _ ?_);refine aC (fun K2 hK2=>?_);refine dT [(0,true),(2,true),(1,true),(3,true),(4,true),(5,true),(7,true),(6,false),(8,false),(9,false),(10,false),(11,false)] aP (by kernel_rfl) (dB (fun _ _ _ _ _ h=>h)) (ol:=?_) ?hol ?_
 case hol=>simp only[zw,zQ,zR];try rfl
 intro w4 hE;replace hB1:=hB1.ext hE;replace hB2:=hB2.ext hE;replace hB3:=hB3.ext hE;replace hX:=hX.trans hE;clear hE;refine ⟨_,(kN.blk hB1 (kN.blk hB2 kN.nil)),?_⟩;refine aW (aJ (c:=0) gR rfl fV rfl rfl) (aW (aJ (c:=0) gR rfl fV rfl rfl) ?_);simp only[zz];refine bQ rfl (fun _ ⟨hB1,hB2,_⟩=>(hB1.lies1 jY rfl)) ?_;simp only[zz];refine bQ rfl (fun _ ⟨hB1,hB2,_⟩=>(hB2.lies1 jY rfl)) ?_;simp only[zz];refine aW (Ue Mq rfl rfl) ?_;simp only[zz];refine bQ rfl (fun _ ⟨hB1,hB2,_⟩=>(hB1.lies bG aO rfl rfl)) ?_;simp only[zz];refine bQ rfl (fun _ ⟨hB1,hB2,_⟩=>(hB2.lies bG aO rfl rfl)) ?_;simp only[zz];refine bU (bE rfl rfl (tP _ (iE ha)) ?_);rintro v w5 hE ⟨A1,c1,rfl,hD1⟩;replace hB1:=hB1.ext hE;replace hB2:=hB2.ext hE;replace hB3:=hB3.ext hE;replace hX:=hX.trans hE;clear hE;rw [gT] at hD1 ⊢;simp only[zz];refine aD (⟨⟨hB1,hB2,trivial⟩,?_⟩);refine bU (bE rfl rfl (tP _ (iE hb)) ?_);rintro v w6 hE ⟨A2,c2,rfl,hD2⟩;replace hB1:=hB1.ext hE;replace hB2:=hB2.ext hE;replace hB3:=hB3.ext hE;(try replace hD1:=hD1.ext hE);replace hX:=hX.trans hE;clear hE;rw [gT] at hD2 ⊢;simp only[zz];refine aD (⟨⟨hB1,hB2,trivial⟩,?_⟩);refine bU (bE rfl rfl (aau _ hD1.here hD2.here (Nat.le_trans hla (by decide)) (Nat.le_trans hlb (by decide))) ?_);rintro v w7 hE ⟨⟨A3,c3,rfl,hD3⟩,_⟩;replace hB1:=hB1.ext hE;replace hB2:=hB2.ext hE;replace hB3:=hB3.ext hE;replace hX:=hX.trans hE;clear hE;simp only[gJ] at hD3 ⊢;rw [← Int.natAbs_mul] at hD3 ⊢;simp only[zz];refine aD (⟨⟨hB1,hB2,trivial⟩,?_⟩);refine bU (bE rfl rfl (rV _ hD3 (Nat.le_trans hls (by decide))) ?_);rintro v w8 hE rfl;replace hB1:=hB1.ext hE;replace hB2:=hB2.ext hE;replace hB3:=hB3.ext hE;replace hX:=hX.trans hE;clear hE;simp only[gJ];simp only[zz];refine aD (⟨⟨hB1,hB2,trivial⟩,?_⟩);refine bU ?_;refine cK rfl (by simp only[zz];rfl) (by exact aO) hB3 (by simp) (by simp [Value.oneCell']) ?_;clear hB3;intro w9 hC hB3;replace hB1:=hB1.chg hC (by first | exact hN1_3 | exact Ne.symm hN3_1);replace hB2:=hB2.chg hC (by first | exact hN2_3 | exact Ne.symm hN3_2);replace hX:=hX.chg hC hG3;clear hC;simp only[zy,zx,bB,Nat.reduceAdd] at hB3;refine aD (⟨⟨hB1,hB2,trivial⟩,?_⟩);refine dF ?_;rw [Int.natAbs_mul,Og] at hB3;refine hK2 _ _ (wp_ret ?_);try simp only[Exit.inBlock,Exit.then]
 refine bP rfl ⟨_,rfl,(hB3.lies bG aO rfl rfl)⟩ ?_;try simp only[zD,zE]
 exact ⟨_,rfl,hX,rfl⟩
theorem pC {n : Int} (h : nO n) : jB prog 52 [.int .i64 n] (W n):=by
 intro w;refine ⟨adj,?_⟩;have hX:=cZ.refl w;have hna:=h.natAbs
 go_enter func52,ntmps52
 refine aC (fun K1 hK1=>wp_region_lit ?_);refine jA cL rfl ?_;intro w1 g1 hE hg1 hB1;have hG1:=Nat.le_trans hX.size hg1;replace hX:=hX.trans hE;clear hE hg1;simp only[zz];refine aD (hK1 _ _ ?_);refine aC (fun K2 hK2=>wp_region_lit (aA (aF) ?_));simp only[zz];obtain ⟨b3,hb3e,hb3l⟩:=hX.base;have hS3:=rT.of hX hb3e;have hO3:=jG.nil_of hX b3 3 1;have hl3_1 : g1 < b3:=by rw [hb3e];exact hB1.lt
 clear hb3e;refine aD (hK2 _ _ ?_);refine aC (fun K3 hK3=>?_);rcases (show n < 0 ∨ 0 ≤ n by omega) with h0 | h0
 ·
  have hwn : true = gI n:=(decide_eq_true h0).symm;refine wp_region_lit (aA (aB) (aA (jM pG iN rfl (Oh h h0)) (aA (aF) ?_)));simp only[zz];refine aD (hK3 _ _ ?_);refine aC (fun K4 hK4=>aC (fun K5 hK5=>wp_region_lit (aA (aB) (aA (bT rfl rfl (by omega)) ?_))));simp only[zz];refine aD (hK5 _ _ ?_);refine cG rfl (wp_region_lit (aA (aB) (aA (Tg rfl (Ex hna (by omega))) (aA (aF) ?_))));simp only[zz];refine aD (hK4 _ _ ?_);refine aC (fun K6 hK6=>wp_block ?_);refine bN [3,4] [11,12,13,14,15,16,17,18,19,20] (fun k vs wl=>∃ (m : Nat) (os : List Nat) (v3 : Value),vs = [v3,.int .u64 (m : Int)] ∧ (cZ w wl) ∧ (fQ wl g1 [.bool false,.string ⟨#[]⟩] 65) ∧ (rT wl b3) ∧ (jG wl b3 3 1 v3 os.length (os.map tJ)) ∧ (val 65536 os + 65536 ^ os.length * m = n.natAbs) ∧ (cJ 65536 os) ∧ (m ≤ 9223372036854775808) ∧ (os.length + m ≤ 9223372036854775808 + 64) ∧ (m < 2 ^ (64 - os.length)) ∧ (os.length ≤ 64) ∧ (k = m)) ?_ ?_
  ·
   apply Exists.intro;simp only[zQ,zR,zD,zE];exact ⟨n.natAbs,[],_,rfl,hX,hB1,hS3,hO3,by simp [val],jV _,hna,by simp;omega,by simp;omega,by simp,rfl⟩
  ·
   intro n vs wr hI u;obtain ⟨m,os,v3,rfl,hX,hB1,hS3,hO3,hv,hd,hm,hol,hol2,hol3,hn⟩:=hI;simp only[zu,zF,zG];refine aC (fun K7 hK7=>aC (fun K8 hK8=>wp_region_lit (aA (aB) (aA (oQ rfl rfl) ?_))));simp only[zz];refine aD (hK8 _ _ ?_);refine cD rfl (fun hc2=>?_) (fun hc2=>?_)
   ·
    refine wp_skip ?_;refine hK7 _ _ (wp_block (aC (fun K9 hK9=>wp_region_lit (aA (aB) (aA (aB) (aA (dJ rfl rfl (by omega) (kE (n:=65536))) ?_))))));simp only[zz];refine aA (jM iN pG rfl (aM (by omega) (by omega))) ?_;simp only[zz];refine eU bY (z:=.int .i64 0) (by kernel_rfl) rfl (by simp only[zz];rfl) (by rfl) ?_;intro w2 g2 hE hg2 hB2;have hG2:=Nat.le_trans hX.size hg2;have hN2_1 : g2 ≠ g1:=Nat.ne_of_gt (Nat.lt_of_lt_of_le hB1.lt hg2);replace hB1:=hB1.ext hE;(try replace hS3:=hS3.ext hE);(try replace hO3:=hO3.ext hE);replace hX:=hX.trans hE;clear hE hg2;simp only[zz];refine fL rfl bY qC rfl (by decide) rfl hO3 rfl (news:=_) rfl hB2.row0 (by simp [Value.oneCell']) (by omega) (by omega) hS3.h ?_;clear hO3;intro v3 w3 hO3 hGr _;replace hB1:=hB1.grew hGr hl3_1;(try replace hS3:=hS3.grew hGr (by first | trivial | omega));replace hX:=hX.grown hGr hb3l;clear hGr;replace hO3:=hO3.snoc;simp only[zz];refine aA (aF) ?_;simp only[zz];refine aD (hK9 _ _ ?_);refine wp_region_lit (aA (aB) (aA (gE rfl rfl (by omega) (Ac (n:=65536) (by omega))) (aA (aF) ?_)));simp only[zz];refine aD ?_;have r:=De hv hd hol2 hol3 (show 0 < m by omega);simp only[Exit.inBlock,Exit.then];refine ⟨m / 65536,_,?_,rfl,?_,?_⟩
    · omega
    · simp only[zz,zv]
    ·
     simp only[zQ,zR,zD,zE];exact ⟨m / 65536,os ++ [m % 65536],v3,rfl,hX,hB1,hS3,hO3,r.1,r.2.1,by omega,by simp;omega,r.2.2.1,r.2.2.2,rfl⟩
   ·
    refine wp_exit ?_;refine hK6 _ _ (aC (fun K10 hK10=>?_));obtain rfl : m = 0:=by omega
    rw [Nat.mul_zero,Nat.add_zero] at hv;obtain ⟨A3,c3,rfl,hD,_⟩:=dK.of_owns hO3 rfl hd (by omega);refine wp_region_lit (aA (aB) (aA (bT rfl rfl (by omega)) (aA (aB) ?_)));simp only[zz];refine bE rfl rfl (rV _ hD (by omega)) ?_;rintro v w2 hE rfl;replace hB1:=hB1.ext hE;replace hX:=hX.trans hE;clear hE;rw [hv,hwn,wD];simp only[zz];refine cK rfl (by simp only[zz];rfl) (by exact aO) hB1 (by simp) (by simp [Value.oneCell']) ?_;clear hB1;intro w3 hC hB1;replace hX:=hX.chg hC hG1;clear hC;simp only[zy,zx,bB,Nat.reduceAdd] at hB1;refine aD (hK10 _ _ ?_);refine wp_ret ?_;try simp only[Exit.inBlock,Exit.then]
    refine bP rfl ⟨_,rfl,(hB1.lies bG aO rfl rfl)⟩ ?_;try simp only[zD,zE]
    exact ⟨_,rfl,hX,rfl⟩
 ·
  have hwn : false = gI n:=(decide_eq_false (by omega)).symm;refine wp_region_lit (aA (aB) (aA (jM pG iN rfl (Uk h h0)) (aA (aF) ?_)));simp only[zz];refine aD (hK3 _ _ ?_);refine aC (fun K11 hK11=>aC (fun K12 hK12=>wp_region_lit (aA (aB) (aA (eG rfl rfl (by omega)) ?_))));simp only[zz];refine aD (hK12 _ _ ?_);refine iT rfl (wp_skip ?_);refine hK11 _ _ (aC (fun K13 hK13=>wp_block ?_));refine bN [3,4] [11,12,13,14,15,16,17,18,19,20] (fun k vs wl=>∃ (m : Nat) (os : List Nat) (v3 : Value),vs = [v3,.int .u64 (m : Int)] ∧ (cZ w wl) ∧ (fQ wl g1 [.bool false,.string ⟨#[]⟩] 65) ∧ (rT wl b3) ∧ (jG wl b3 3 1 v3 os.length (os.map tJ)) ∧ (val 65536 os + 65536 ^ os.length * m = n.natAbs) ∧ (cJ 65536 os) ∧ (m ≤ 9223372036854775808) ∧ (os.length + m ≤ 9223372036854775808 + 64) ∧ (m < 2 ^ (64 - os.length)) ∧ (os.length ≤ 64) ∧ (k = m)) ?_ ?_
  ·
   apply Exists.intro;simp only[zQ,zR,zD,zE];exact ⟨n.natAbs,[],_,rfl,hX,hB1,hS3,hO3,by simp [val],jV _,hna,by simp;omega,by simp;omega,by simp,rfl⟩
  ·
   intro n vs wr hI u;obtain ⟨m,os,v3,rfl,hX,hB1,hS3,hO3,hv,hd,hm,hol,hol2,hol3,hn⟩:=hI;simp only[zu,zF,zG];refine aC (fun K14 hK14=>aC (fun K15 hK15=>wp_region_lit (aA (aB) (aA (oQ rfl rfl) ?_))));simp only[zz];refine aD (hK15 _ _ ?_);refine cD rfl (fun hc2=>?_) (fun hc2=>?_)
   ·
    refine wp_skip ?_;refine hK14 _ _ (wp_block (aC (fun K16 hK16=>wp_region_lit (aA (aB) (aA (aB) (aA (dJ rfl rfl (by omega) (kE (n:=65536))) ?_))))));simp only[zz];refine aA (jM iN pG rfl (aM (by omega) (by omega))) ?_;simp only[zz];refine eU bY (z:=.int .i64 0) (by kernel_rfl) rfl (by simp only[zz];rfl) (by rfl) ?_;intro w2 g2 hE hg2 hB2;have hG2:=Nat.le_trans hX.size hg2;have hN2_1 : g2 ≠ g1:=Nat.ne_of_gt (Nat.lt_of_lt_of_le hB1.lt hg2);replace hB1:=hB1.ext hE;(try replace hS3:=hS3.ext hE);(try replace hO3:=hO3.ext hE);replace hX:=hX.trans hE;clear hE hg2;simp only[zz];refine fL rfl bY qC rfl (by decide) rfl hO3 rfl (news:=_) rfl hB2.row0 (by simp [Value.oneCell']) (by omega) (by omega) hS3.h ?_;clear hO3;intro v3 w3 hO3 hGr _;replace hB1:=hB1.grew hGr hl3_1;(try replace hS3:=hS3.grew hGr (by first | trivial | omega));replace hX:=hX.grown hGr hb3l;clear hGr;replace hO3:=hO3.snoc;simp only[zz];refine aA (aF) ?_;simp only[zz];refine aD (hK16 _ _ ?_);refine wp_region_lit (aA (aB) (aA (gE rfl rfl (by omega) (Ac (n:=65536) (by omega))) (aA (aF) ?_)));simp only[zz];refine aD ?_;have r:=De hv hd hol2 hol3 (show 0 < m by omega);simp only[Exit.inBlock,Exit.then];refine ⟨m / 65536,_,?_,rfl,?_,?_⟩
    · omega
    · simp only[zz,zv]
    ·
     simp only[zQ,zR,zD,zE];exact ⟨m / 65536,os ++ [m % 65536],v3,rfl,hX,hB1,hS3,hO3,r.1,r.2.1,by omega,by simp;omega,r.2.2.1,r.2.2.2,rfl⟩
   ·
    refine wp_exit ?_;refine hK13 _ _ (aC (fun K17 hK17=>?_));obtain rfl : m = 0:=by omega
    rw [Nat.mul_zero,Nat.add_zero] at hv;obtain ⟨A3,c3,rfl,hD,_⟩:=dK.of_owns hO3 rfl hd (by omega);refine wp_region_lit (aA (aB) (aA (eG rfl rfl (by omega)) (aA (aB) ?_)));simp only[zz];refine bE rfl rfl (rV _ hD (by omega)) ?_;rintro v w2 hE rfl;replace hB1:=hB1.ext hE;replace hX:=hX.trans hE;clear hE;rw [hv,hwn,wD];simp only[zz];refine cK rfl (by simp only[zz];rfl) (by exact aO) hB1 (by simp) (by simp [Value.oneCell']) ?_;clear hB1;intro w3 hC hB1;replace hX:=hX.chg hC hG1;clear hC;simp only[zy,zx,bB,Nat.reduceAdd] at hB1;refine aD (hK17 _ _ ?_);refine wp_ret ?_;try simp only[Exit.inBlock,Exit.then]
    refine bP rfl ⟨_,rfl,(hB1.lies bG aO rfl rfl)⟩ ?_;try simp only[zD,zE]
    exact ⟨_,rfl,hX,rfl⟩
end Go.Proofs.YtfohfflkhpfjeaaGreatDoor
namespace Go.Proofs.YtfohfflkhpfjeaaGreatDoor
open Go.Proofs.Tryz
open Go.RowKit Go.Lith
set_option maxRecDepth 100000
attribute [local irreducible] wpList wpQuiet dD Code.wp
end Go.Proofs.YtfohfflkhpfjeaaGreatDoor
namespace Go.Proofs.YtfohfflkhpfjeaaGreatDoor
open Go.Proofs.Tryz
open Go.RowKit Go.Lith
set_option maxRecDepth 100000
attribute [local irreducible] wpList wpQuiet dD Code.wp
end Go.Proofs.YtfohfflkhpfjeaaGreatDoor
namespace Go.Proofs.YtfohfflkhpfjeaaGreatDoor
open Go.Proofs.Tryz
open Go.RowKit Go.Lith
set_option maxRecDepth 100000
attribute [local irreducible] wpList wpQuiet dD cO cF Code.wp
theorem ad9 {p : P3} : jB prog 129 [pt p] (.int .i64 p.x):=by
 intro w;refine ⟨Vm,?_⟩;have m:=bS.refl w
 go_enter func129,ntmps129
 refine aC fun K1 k1=>wp_region_lit (fA m rfl ?_);clear m;intro g1 u m;refine aA (aF) (aD (k1 _ _ ?_));refine aC fun K2 k2=>wp_region_lit (aA (aJ (c:=0) xV rfl aT rfl rfl) ?_);simp only[zz];refine aI rfl ((m.b 0 rfl).lies1 bF rfl) ?_;simp only[zz];refine aA (aF) (aD (k2 _ _ ?_));refine wp_ret ?_;simp only[zz];try simp only[Exit.inBlock,Exit.then,if_true]
 refine bP rfl rfl ?_;try simp only[zD,zE]
 exact ⟨_,rfl,m.ext,rfl⟩
theorem aea {p : P3} : jB prog 130 [pt p] (.int .i64 p.y):=by
 intro w;refine ⟨Vn,?_⟩;have m:=bS.refl w
 go_enter func130,ntmps130
 refine aC fun K1 k1=>wp_region_lit (fA m rfl ?_);clear m;intro g1 u m;refine aA (aF) (aD (k1 _ _ ?_));refine aC fun K2 k2=>wp_region_lit (aA (aJ (c:=0) xV rfl aT rfl rfl) ?_);simp only[zz];refine aI rfl ((m.b 0 rfl).lies1 bF rfl) ?_;simp only[zz];refine aA (aF) (aD (k2 _ _ ?_));refine wp_ret ?_;simp only[zz];try simp only[Exit.inBlock,Exit.then,if_true]
 refine bP rfl rfl ?_;try simp only[zD,zE]
 exact ⟨_,rfl,m.ext,rfl⟩
theorem aeb {p : P3} : jB prog 131 [pt p] (.int .i64 p.z):=by
 intro w;refine ⟨Vo,?_⟩;have m:=bS.refl w
 go_enter func131,ntmps131
 refine aC fun K1 k1=>wp_region_lit (fA m rfl ?_);clear m;intro g1 u m;refine aA (aF) (aD (k1 _ _ ?_));refine aC fun K2 k2=>wp_region_lit (aA (aJ (c:=0) xV rfl aT rfl rfl) ?_);simp only[zz];refine aI rfl ((m.b 0 rfl).lies1 bF rfl) ?_;simp only[zz];refine aA (aF) (aD (k2 _ _ ?_));refine wp_ret ?_;simp only[zz];try simp only[Exit.inBlock,Exit.then,if_true]
 refine bP rfl rfl ?_;try simp only[zD,zE]
 exact ⟨_,rfl,m.ext,rfl⟩
theorem acn  : jB prog 111 [] (.agg #[.func (.func 129) #[] #[],.func (.func 130) #[] #[],.func (.func 131) #[] #[]]):=by
 intro w;refine ⟨Vl,?_⟩;have m:=bS.refl w
 go_enter func111,ntmps111
 refine aC fun K1 k1=>wp_region_lit (aY m Cc rfl ?_);clear m;intro g1 u m;refine aD (k1 _ _ ?_);refine aC fun K2 k2=>wp_region_lit (aA (pA rfl rfl rfl) ?_);simp only[zz];refine aQ m 0 rfl rfl rfl uB (dH rfl) rfl ?_;clear m;intro u m;simp only[zy,zx,bB,zF,zG,Nat.reduceAdd] at m;refine aD (k2 _ _ ?_);refine wp_ret ?_;try simp only[Exit.inBlock,Exit.then,if_true]
 refine bP rfl ⟨_,rfl,((m.b 0 rfl).full Ov uB)⟩ ?_;try simp only[zD,zE]
 exact ⟨_,rfl,m.ext,rfl⟩
theorem Lm {p q : P3} [I3 p] [I3 q] : jB prog 112 [pt p,pt q] (wv (q.sub p)):=by
 intro w;refine ⟨abp,?_⟩;have m:=bS.refl w
 go_enter func112,ntmps112
 refine aC fun K1 k1=>wp_region_lit (fA m rfl ?_);clear m;intro g1 u m;simp only[zz];refine fA m rfl ?_;clear m;intro g2 u m;simp only[zz];refine aY m Cd rfl ?_;clear m;intro g3 u m;refine aD (k1 _ _ ?_);refine aC fun K2 k2=>wp_region_lit ?_;simp only[zz];refine aY m Cd rfl ?_;clear m;intro g4 u m;refine aD (k2 _ _ ?_);refine aC fun K3 k3=>aC fun K4 k4=>wp_region_lit ?_;simp only[zz];refine cW m rfl rfl (acn) ?_;clear m;intro u m;refine aA (aB) (aD (k4 _ _ ?_));refine wp_block (wp_loop_rounds 4 (dQ (aC fun K5 k5=>wp_region_lit (aA (bT (m:=0) (n:=3) rfl rfl (by decide)) (aD (k5 _ _ ?_))))));refine aC fun K6 k6=>cG rfl (wp_skip (k6 _ _ ?_));refine aC fun K7 k7=>wp_block (aC fun K8 k8=>wp_region_lit (aA (aB) ?_));simp only[zz];refine aA (uT rfl rfl) (aA (aF) (aA (aF) (aD (k8 _ _ ?_))));simp only[zz];refine fO m 11 aP (by kernel_rfl) ?_;simp only[zy];refine aN (aB) (aN (aB) ?_);simp only[zz];refine ql rfl (fun u m=>((m.b 2 rfl).full aK aG)) ?_;simp only[zz];refine sB rfl rfl (ad9) ?_;simp only[zz];refine sB rfl rfl (pP Iw.h) (aN (aB) ?_);simp only[zz];refine ql rfl (fun u m=>((m.b 3 rfl).full aK aG)) ?_;simp only[zz];refine sB rfl rfl (ad9) ?_;simp only[zz];refine sB rfl rfl (pP Iw.h) ?_;simp only[zz];refine sB rfl rfl (Dk Bw.up Bw.up) (aN (aH pH aO rfl rfl (by decide) (by decide) rfl) (dN ?_));clear m;intro u m;simp only[zz];refine aQ m 0 rfl rfl rfl aO (dH rfl) rfl ?_;clear m;intro u m;simp only[zy,zx,bB,zF,zG,Nat.reduceAdd] at m;refine aD (k7 _ _ ?_);refine wp_region_lit (aA (aR (m:=0) (n:=1) (r:=1) rfl rfl (by decide)) (aA (aB) (aD (aU (aC fun K9 k9=>wp_region_lit (aA (bT (m:=1) (n:=3) rfl rfl (by decide)) (aD (k9 _ _ ?_))))))));refine aC fun K10 k10=>cG rfl (wp_skip (k10 _ _ ?_));refine aC fun K11 k11=>wp_block (aC fun K12 k12=>wp_region_lit (aA (aB) ?_));simp only[zz];refine aA (uU rfl rfl) (aA (aF) (aA (aF) (aD (k12 _ _ ?_))));simp only[zz];refine fO m 11 aP (by kernel_rfl) ?_;simp only[zy];refine aN (aB) (aN (aB) ?_);simp only[zz];refine ql rfl (fun u m=>((m.b 2 rfl).full aK aG)) ?_;simp only[zz];refine sB rfl rfl (aea) ?_;simp only[zz];refine sB rfl rfl (pP Iw.h) (aN (aB) ?_);simp only[zz];refine ql rfl (fun u m=>((m.b 3 rfl).full aK aG)) ?_;simp only[zz];refine sB rfl rfl (aea) ?_;simp only[zz];refine sB rfl rfl (pP Iw.h) ?_;simp only[zz];refine sB rfl rfl (Dk Bw.up Bw.up) (aN (aH pH aO rfl rfl (by decide) (by decide) rfl) (dN ?_));clear m;intro u m;simp only[zz];refine aQ m 0 rfl rfl rfl aO (dH rfl) rfl ?_;clear m;intro u m;simp only[zy,zx,bB,zF,zG,Nat.reduceAdd] at m;refine aD (k11 _ _ ?_);refine wp_region_lit (aA (aR (m:=1) (n:=1) (r:=2) rfl rfl (by decide)) (aA (aB) (aD (aU (aC fun K13 k13=>wp_region_lit (aA (bT (m:=2) (n:=3) rfl rfl (by decide)) (aD (k13 _ _ ?_))))))));refine aC fun K14 k14=>cG rfl (wp_skip (k14 _ _ ?_));refine aC fun K15 k15=>wp_block (aC fun K16 k16=>wp_region_lit (aA (aB) ?_));simp only[zz];refine aA (uV rfl rfl) (aA (aF) (aA (aF) (aD (k16 _ _ ?_))));simp only[zz];refine fO m 11 aP (by kernel_rfl) ?_;simp only[zy];refine aN (aB) (aN (aB) ?_);simp only[zz];refine ql rfl (fun u m=>((m.b 2 rfl).full aK aG)) ?_;simp only[zz];refine sB rfl rfl (aeb) ?_;simp only[zz];refine sB rfl rfl (pP Iw.h) (aN (aB) ?_);simp only[zz];refine ql rfl (fun u m=>((m.b 3 rfl).full aK aG)) ?_;simp only[zz];refine sB rfl rfl (aeb) ?_;simp only[zz];refine sB rfl rfl (pP Iw.h) ?_;simp only[zz];refine sB rfl rfl (Dk Bw.up Bw.up) (aN (aH pH aO rfl rfl (by decide) (by decide) rfl) (dN ?_));clear m;intro u m;simp only[zz];refine aQ m 0 rfl rfl rfl aO (dH rfl) rfl ?_;clear m;intro u m;simp only[zy,zx,bB,zF,zG,Nat.reduceAdd] at m;refine aD (k15 _ _ ?_);refine wp_region_lit (aA (aR (m:=2) (n:=1) (r:=3) rfl rfl (by decide)) (aA (aB) (aD (aU (aC fun K17 k17=>wp_region_lit (aA (eG (m:=3) (n:=3) rfl rfl (by decide)) (aD (k17 _ _ ?_))))))));refine aC fun K18 k18=>iT rfl (wp_exit (k3 _ _ ?_));refine aC fun K19 k19=>wp_region_lit ?_;simp only[zz];refine aI rfl ((m.b 0 rfl).full Aj nW) ?_;simp only[zz];refine aQ m 1 rfl rfl rfl nW (dH rfl) rfl ?_;clear m;intro u m;simp only[zy,zx,bB,zF,zG,Nat.reduceAdd] at m;refine aD (k19 _ _ ?_);refine wp_ret ?_;try simp only[Exit.inBlock,Exit.then,if_true]
 refine bP rfl ⟨_,rfl,((m.b 1 rfl).full Aj nW)⟩ ?_;try simp only[zD,zE]
 exact ⟨_,rfl,m.ext,rfl⟩
theorem aco {b : Int} (hb : Bd 1000000 b) : jB prog 79 [.agg #[.bool false,.string ⟨#[]⟩],W b] (W (0 + b)):=by
 rw [← aa6];exact yV (Od _) hb
theorem Ln {u v : P3} (hu : Bv 400000 u) (hv : Bv 400000 v) : jB prog 113 [wv u,wv v] (W (u.dot v)):=by
 intro w;refine ⟨abq,?_⟩;have m:=bS.refl w
 go_enter func113,ntmps113
 refine aC fun K1 k1=>wp_region_lit (fA m rfl ?_);clear m;intro g1 u m;simp only[zz];refine fA m rfl ?_;clear m;intro g2 u m;simp only[zz];refine aY m cL rfl ?_;clear m;intro g3 u m;refine aD (k1 _ _ ?_);refine aC fun K2 k2=>wp_region_lit ?_;simp only[zz];refine aY m cL rfl ?_;clear m;intro g4 u m;refine aD (k2 _ _ ?_);refine aC fun K3 k3=>aC fun K4 k4=>wp_region_lit (aA (aB) (aD (k4 _ _ ?_)));refine wp_block (wp_loop_rounds 4 (dQ (aC fun K5 k5=>wp_region_lit (aA (bT (m:=0) (n:=3) rfl rfl (by decide)) (aD (k5 _ _ ?_))))));refine aC fun K6 k6=>cG rfl (wp_skip (k6 _ _ ?_));refine aC fun K7 k7=>wp_block (aC fun K8 k8=>wp_region_lit (aA (aB) ?_));simp only[zz];refine aA (aF) (aD (k8 _ _ ?_));simp only[zz];refine fO m 9 aP (by kernel_rfl) ?_;simp only[zy];refine ql rfl (fun u m=>((m.b 0 rfl).full bG aO)) ?_;simp only[zz];refine aN (aB) (aN (aH pH aO rfl rfl (by decide) (by decide) rfl) ?_);simp only[zz];refine ql rfl (fun u m=>((m.b 3 rfl).lies bG aO rfl rfl)) ?_;simp only[zz,zy,Nat.zero_add,Nat.reduceAdd,Nat.reduceMul,Int.reduceToNat];refine aN (aB) (aN (aH pH aO rfl rfl (by decide) (by decide) rfl) ?_);simp only[zz];refine ql rfl (fun u m=>((m.b 2 rfl).lies bG aO rfl rfl)) ?_;simp only[zz,zy,Nat.zero_add,Nat.reduceAdd,Nat.reduceMul,Int.reduceToNat];refine sB rfl rfl (Gf Bw.up Bw.up) ?_;simp only[zz];refine sB rfl rfl (aco Bw.up) (dN ?_);clear m;intro u m;simp only[zz];refine aQ m 0 rfl rfl rfl aO (dH rfl) rfl ?_;clear m;intro u m;simp only[zy,zx,bB,zF,zG,Nat.reduceAdd] at m;refine aD (k7 _ _ ?_);refine wp_region_lit (aA (aR (m:=0) (n:=1) (r:=1) rfl rfl (by decide)) (aA (aB) (aD (aU (aC fun K9 k9=>wp_region_lit (aA (bT (m:=1) (n:=3) rfl rfl (by decide)) (aD (k9 _ _ ?_))))))));refine aC fun K10 k10=>cG rfl (wp_skip (k10 _ _ ?_));refine aC fun K11 k11=>wp_block (aC fun K12 k12=>wp_region_lit (aA (aB) ?_));simp only[zz];refine aA (aF) (aD (k12 _ _ ?_));simp only[zz];refine fO m 9 aP (by kernel_rfl) ?_;simp only[zy];refine ql rfl (fun u m=>((m.b 0 rfl).full bG aO)) ?_;simp only[zz];refine aN (aB) (aN (aH pH aO rfl rfl (by decide) (by decide) rfl) ?_);simp only[zz];refine ql rfl (fun u m=>((m.b 3 rfl).lies bG aO rfl rfl)) ?_;simp only[zz,zy,Nat.zero_add,Nat.reduceAdd,Nat.reduceMul,Int.reduceToNat];refine aN (aB) (aN (aH pH aO rfl rfl (by decide) (by decide) rfl) ?_);simp only[zz];refine ql rfl (fun u m=>((m.b 2 rfl).lies bG aO rfl rfl)) ?_;simp only[zz,zy,Nat.zero_add,Nat.reduceAdd,Nat.reduceMul,Int.reduceToNat];refine sB rfl rfl (Gf Bw.up Bw.up) ?_;simp only[zz];refine sB rfl rfl (yV Bw.up Bw.up) (dN ?_);clear m;intro u m;simp only[zz];refine aQ m 0 rfl rfl rfl aO (dH rfl) rfl ?_;clear m;intro u m;simp only[zy,zx,bB,zF,zG,Nat.reduceAdd] at m;refine aD (k11 _ _ ?_);refine wp_region_lit (aA (aR (m:=1) (n:=1) (r:=2) rfl rfl (by decide)) (aA (aB) (aD (aU (aC fun K13 k13=>wp_region_lit (aA (bT (m:=2) (n:=3) rfl rfl (by decide)) (aD (k13 _ _ ?_))))))));refine aC fun K14 k14=>cG rfl (wp_skip (k14 _ _ ?_));refine aC fun K15 k15=>wp_block (aC fun K16 k16=>wp_region_lit (aA (aB) ?_));simp only[zz];refine aA (aF) (aD (k16 _ _ ?_));simp only[zz];refine fO m 9 aP (by kernel_rfl) ?_;simp only[zy];refine ql rfl (fun u m=>((m.b 0 rfl).full bG aO)) ?_;simp only[zz];refine aN (aB) (aN (aH pH aO rfl rfl (by decide) (by decide) rfl) ?_);simp only[zz];refine ql rfl (fun u m=>((m.b 3 rfl).lies bG aO rfl rfl)) ?_;simp only[zz,zy,Nat.zero_add,Nat.reduceAdd,Nat.reduceMul,Int.reduceToNat];refine aN (aB) (aN (aH pH aO rfl rfl (by decide) (by decide) rfl) ?_);simp only[zz];refine ql rfl (fun u m=>((m.b 2 rfl).lies bG aO rfl rfl)) ?_;simp only[zz,zy,Nat.zero_add,Nat.reduceAdd,Nat.reduceMul,Int.reduceToNat];refine sB rfl rfl (Gf Bw.up Bw.up) ?_;simp only[zz];refine sB rfl rfl (yV Bw.up Bw.up) (dN ?_);clear m;intro u m;simp only[zz];refine aQ m 0 rfl rfl rfl aO (dH rfl) rfl ?_;clear m;intro u m;simp only[zy,zx,bB,zF,zG,Nat.reduceAdd] at m;refine aD (k15 _ _ ?_);refine wp_region_lit (aA (aR (m:=2) (n:=1) (r:=3) rfl rfl (by decide)) (aA (aB) (aD (aU (aC fun K17 k17=>wp_region_lit (aA (eG (m:=3) (n:=3) rfl rfl (by decide)) (aD (k17 _ _ ?_))))))));refine aC fun K18 k18=>iT rfl (wp_exit (k3 _ _ ?_));refine aC fun K19 k19=>wp_region_lit ?_;simp only[zz];refine aI rfl ((m.b 0 rfl).full bG aO) ?_;simp only[zz];refine aQ m 1 rfl rfl rfl aO (dH rfl) rfl ?_;clear m;intro u m;simp only[zy,zx,bB,zF,zG,Nat.reduceAdd] at m;refine aD (k19 _ _ ?_);refine wp_ret ?_;try simp only[Exit.inBlock,Exit.then,if_true]
 refine bP rfl ⟨_,rfl,((m.b 1 rfl).full bG aO)⟩ ?_;try simp only[zD,zE]
 exact ⟨_,rfl,m.ext,by rw [← P3.dot0];rfl⟩
end Go.Proofs.YtfohfflkhpfjeaaGreatDoor
namespace Go.Proofs.YtfohfflkhpfjeaaGreatDoor
open Go.Proofs.Tryz
open Go.RowKit Go.Lith
set_option maxRecDepth 100000
attribute [local irreducible] wpList wpQuiet dD cO cF Code.wp
theorem aav {p q : P3} [I3 p] [I3 q] : jB prog 76 [pt p,pt q] (W ((q.sub p).dot (q.sub p))):=by
 intro w;refine ⟨adE,?_⟩;have m:=bS.refl w
 go_enter func76,ntmps76
 refine aC fun K1 k1=>wp_region_lit (fA m rfl ?_);clear m;intro g1 u m;simp only[zz];refine fA m rfl ?_;clear m;intro g2 u m;simp only[zz];refine aY m cL rfl ?_;clear m;intro g3 u m;refine aD (k1 _ _ ?_);refine aC fun K2 k2=>wp_region_lit ?_;simp only[zz];refine aI rfl ((m.b 2 rfl).full aK aG) ?_;simp only[zz];refine aI rfl ((m.b 1 rfl).full aK aG) ?_;simp only[zz];refine cW m rfl rfl (Lm) ?_;clear m;intro u m;simp only[zz];refine aY m Cd rfl ?_;clear m;intro g4 u m;simp only[zz];refine aQ m 0 rfl rfl rfl nW (dH rfl) rfl ?_;clear m;intro u m;simp only[zy,zx,bB,zF,zG,Nat.reduceAdd] at m;refine aD (k2 _ _ ?_);refine aC fun K3 k3=>wp_region_lit (aI rfl ((m.b 0 rfl).full Aj nW) ?_);simp only[zz];refine aI rfl ((m.b 0 rfl).full Aj nW) ?_;simp only[zz];refine cW m rfl rfl (Ln Bv.of Bv.of) ?_;clear m;intro u m;simp only[zz];refine aQ m 1 rfl rfl rfl aO (dH rfl) rfl ?_;clear m;intro u m;simp only[zy,zx,bB,zF,zG,Nat.reduceAdd] at m;refine aD (k3 _ _ ?_);refine wp_ret ?_;try simp only[Exit.inBlock,Exit.then,if_true]
 refine bP rfl ⟨_,rfl,((m.b 1 rfl).full bG aO)⟩ ?_;try simp only[zD,zE]
 exact ⟨_,rfl,m.ext,rfl⟩
end Go.Proofs.YtfohfflkhpfjeaaGreatDoor
namespace Go.Proofs.YtfohfflkhpfjeaaGreatDoor
open Go.Proofs.Tryz
open Go.RowKit Go.Lith
set_option maxRecDepth 100000
attribute [local irreducible] wpList wpQuiet dD cO cF Code.wp
theorem aaw (m n : Int) : (if m < n then n else m) = max m n:=by split <;> omega
theorem aax {w : World} {a : Addr} {e : E3} (h : mC w a (bV e)) : mC w a [.int .i64 e.1.x,.int .i64 e.1.y,.int .i64 e.1.z,.int .i64 e.2.x,.int .i64 e.2.y,.int .i64 e.2.z]:=h
theorem Pr (p q : P3) : (q.sub p).dot (q.sub p) = ((qS p q : Nat) : Int):=by unfold qS;have:=aa9 (q.sub p);omega
theorem Dp {p q : P3} [I3 p] [I3 q] : Bd 200 ((qS p q : Nat) : Int):=by rw [← Pr];exact (Bw.up : Bd 200 ((q.sub p).dot (q.sub p)))
theorem acp (n : Nat) : fI n ≤ n:=by
 obtain ⟨h,_⟩:=vF n;rcases Nat.eq_zero_or_pos (fI n) with e | e
 · omega
 · exact Nat.le_trans (Nat.le_mul_of_pos_left _ e) h
theorem Ie {n : Nat} (h : Bd 200 ((n : Nat) : Int)) : Bd 200 ((fI n : Nat) : Int):=by
 have h1 : (n : Int).natAbs < 2 ^ 200:=h;show (fI n : Int).natAbs < 2 ^ 200
 have:=acp n;omega
theorem Xu {p q : P3} (h : fI (qS p q) * fI (qS p q) = qS p q) : ((fI (qS p q) : Nat) : Int) = tN p q:=by rw [tN,if_pos h,Int.add_zero]
theorem aay {p q : P3} (h : ¬ fI (qS p q) * fI (qS p q) = qS p q) : ((fI (qS p q) : Nat) : Int) + 1 = tN p q:=by rw [tN,if_neg h]
theorem aaz {p q : P3} [I3 p] [I3 q] : Bd 250 (tN p q):=by
 have h : (fI (qS p q) : Int).natAbs < 2 ^ 200:=Ie Dp;show (tN p q).natAbs < 2 ^ 250
 have h2 : (2 : Nat) ^ 200 + 1 ≤ 2 ^ 250:=by decide
 unfold tN;split <;> omega
theorem aaY {r d : Nat} : (¬ (gI ((r : Int) * (r : Int)) = gI (d : Int) ∧ lN ((r : Int) * (r : Int)) = lN (d : Int))) ↔ ¬ r * r = d:=by
 rw [Bn];refine not_congr ⟨fun h=>?_,fun h=>by rw [← h];simp⟩;exact Int.ofNat_inj.1 (by rw [← h];simp)
theorem Xv {ms : List Mv} {k : Nat} {mv : Mv} {y0 y : Int} (hm : ms[k]? = some mv) (h : mA ms y0 = mA (ms.drop k) y) (hi : nO (tN mv.1 mv.2)) : mA ms y0 = mA (ms.drop (k + 1)) (max y (tN mv.1 mv.2)):=by
 rw [h,List.drop_eq_getElem_cons (List.getElem?_eq_some_iff.1 hm).1,(List.getElem?_eq_some_iff.1 hm).2,mA,if_pos hi]
theorem aaA {ms : List Mv} {k : Nat} {mv : Mv} {y0 y : Int} (hm : ms[k]? = some mv) (h : mA ms y0 = mA (ms.drop k) y) (hi : ¬ nO (tN mv.1 mv.2)) : mA ms y0 = none:=by
 rw [h,List.drop_eq_getElem_cons (List.getElem?_eq_some_iff.1 hm).1,(List.getElem?_eq_some_iff.1 hm).2,mA,if_neg hi]
theorem Sz {w0 w : World} {K : It} {ms : List Mv} {N3 cap3 : Nat} {A3 : Option Addr} {F G R M : Value} {g1 : Nat} {y0 : Int} (m : bS w0 w [bI g1 [F,G,.slice A3 N3 cap3,R,M,.int .i64 y0] 73,K]) (hL3 : uN bV 6 w0 A3 N3 ms) (hN3 : N3 ≤ 10000000) (hI : ∀ mv ∈ ms,I3 mv.1 ∧ I3 mv.2) : Pn prog 35 [.pointer (some ⟨g1,0,none⟩)] w fun v w'=>∃ y,v = .int .i64 (if (mA ms y0).isSome = true then 0 else 3) ∧ bS w0 w' [bI g1 [F,G,.slice A3 N3 cap3,R,M,.int .i64 y] 73,K] ∧ ∀ n,mA ms y0 = some n → n = y:=by
 refine ⟨ac8,?_⟩
 go_enter func35,ntmps35
 refine aC fun K1 k1=>wp_region_lit (aA (aF) (aD (k1 _ _ ?_)));refine aC fun K2 k2=>aC fun K3 k3=>wp_region_lit (aA (aB) (aA (cN rfl) (aA (aJ (c:=0) iA rfl sY rfl rfl) ?_)));simp only[zz];refine aI rfl ((m.b 0 rfl).lies1 Hk rfl) ?_;simp only[zz];refine aA (bC rfl oX rfl) (aA (aB) (aD (k3 _ _ ?_)));refine wp_block ?_;simp only[zz];try simp only[Nat.zero_add,Nat.reduceAdd,Nat.reduceMul,Int.reduceToNat]
 refine bN [15] [2,4,5,6,7,8,9,16,17,18,19,20,21,22,23,24,25,26,27,28,29,30,31,32,33,34,35,36,37,38,39,40,41,42,43,44,45,46,47,48,49,50,51,52,53] (fun n vs wl=>∃ (k : Nat) (y : Int),vs = [.int .i64 (k:Int)] ∧ bS w0 wl [bI g1 [F,G,.slice A3 N3 cap3,R,M,.int .i64 y] 73,K] ∧ (mA ms y0 = mA (ms.drop k) y) ∧ (k ≤ N3) ∧ (n = N3 - k)) ?_ ?_
 ·
  apply Exists.intro;simp only[zQ,zR,zD,zE];exact ⟨0,_,rfl,m,rfl,Nat.zero_le _,rfl⟩
 ·
  intro n vs wr hI u;clear m;obtain ⟨k,y,rfl,m,hme,hk,hn⟩:=hI;simp only[zu,zF,zG];refine aC fun K4 k4=>wp_region_lit (aA (cS rfl rfl) (aD (k4 _ _ ?_)));refine aC fun K5 k5=>?_;simp only[zz];refine cD rfl (fun hc1=>?_) (fun hc1=>?_)
  ·
   obtain ⟨mv,hmv,a3,rfl,hrow3⟩:=hL3.get (i:=k) (by omega);haveI:=(hI mv (List.mem_of_getElem? hmv)).1;haveI:=(hI mv (List.mem_of_getElem? hmv)).2;refine wp_skip (k5 _ _ ?_);refine aC fun K6 k6=>wp_block (aC fun K7 k7=>wp_region_lit (aA (aL oX jK rfl rfl (by omega) (by omega) (dP (Int.toNat_natCast _))) ?_));simp only[zz];refine aI rfl ((aax (hrow3.ext m.ext)).lies Ms jK) ?_;simp only[zz];refine aY m wL rfl ?_;clear m;intro g2 u m;simp only[zz];refine aQ m 0 rfl rfl rfl jK (dH rfl) rfl ?_;clear m;intro u m;simp only[zy,zx,bB,zF,zG,Nat.reduceAdd] at m;refine aD (k7 _ _ ?_);refine aC fun K8 k8=>wp_region_lit (aA (aJ (c:=2) lF rfl aG rfl rfl) ?_);simp only[zz];refine aI rfl ((m.b 0 rfl).lies aK aG rfl rfl) ?_;simp only[zz,zy,Nat.zero_add,Nat.reduceAdd,Nat.reduceMul,Int.reduceToNat];refine aA (aJ (c:=2) lF rfl aG rfl rfl) ?_;simp only[zz];refine aI rfl ((m.b 0 rfl).lies aK aG rfl rfl) ?_;simp only[zz,zy,Nat.zero_add,Nat.reduceAdd,Nat.reduceMul,Int.reduceToNat];refine cW m rfl rfl (aav (p:=mv.1) (q:=mv.2)) ?_;clear m;intro u m;simp only[zz];refine aY m cL rfl ?_;clear m;intro g3 u m;simp only[zz];refine aQ m 0 rfl rfl rfl aO (dH rfl) rfl ?_;clear m;intro u m;simp only[zy,zx,bB,zF,zG,Nat.reduceAdd] at m;refine aD ?_;rw [Pr] at m;refine k8 _ _ ?_;refine aC fun K9 k9=>wp_region_lit (aI rfl ((m.b 0 rfl).full bG aO) ?_);simp only[zz];refine cW m rfl rfl (acg (a:=((qS mv.1 mv.2 : Nat) : Int)) (Dp.mono (by decide)) (by omega)) ?_;clear m;intro u m;refine aA (aB) (aA (bL rfl rfl) (aA (bL rfl rfl) ?_));simp only[zz];refine aY m cL rfl ?_;clear m;intro g4 u m;simp only[zz];refine aQ m 0 rfl rfl rfl aO (dH rfl) rfl ?_;clear m;intro u m;simp only[zy,zx,bB,zF,zG,Nat.reduceAdd] at m;refine aA (aF) (aD ?_);simp only[zz];rw [Int.natAbs_natCast] at m;refine k9 _ _ ?_;refine aC fun K10 k10=>aC fun K11 k11=>mq m aP (by kernel_rfl) (ql rfl (fun u m=>((m.b 0 rfl).full bG aO)) ?_);simp only[zz];refine ql rfl (fun u m=>((m.b 0 rfl).full bG aO)) ?_;simp only[zz];refine sB rfl rfl (Gf (a:=((fI (qS mv.1 mv.2) : Nat) : Int)) (b:=((fI (qS mv.1 mv.2) : Nat) : Int)) ((Ie Dp).mono (by decide)) ((Ie Dp).mono (by decide))) ?_;simp only[zz];refine ql rfl (fun u m=>((m.b 1 rfl).full bG aO)) ?_;simp only[zz];refine aN (Rn rfl rfl) (dN ?_);clear m;intro u m;refine k11 _ _ ?_;simp only[zz];refine rR m 0 [] [34,35,36] (fun vs i=>vs = [] ∧ i = bI g4 [.bool (gI (tN mv.1 mv.2)),.string (lN (tN mv.1 mv.2))] 65) ?_ ?_
   ·
    refine cD rfl (fun hc2=>?_) (fun hc2=>?_)
    ·
     have hsq:=aaY.1 hc2;refine fO m 3 aP (by kernel_rfl) ?_;simp only[zy];refine ql rfl (fun u m=>((m.b 0 rfl).full bG aO)) ?_;simp only[zz];refine sB rfl rfl (pP (n:=1) (show nO 1 by unfold nO;decide)) ?_;simp only[zz];refine sB rfl rfl (yV (a:=((fI (qS mv.1 mv.2) : Nat) : Int)) (b:=1) ((Ie Dp).mono (by decide)) Bw.up) (dN ?_);clear m;intro u m;simp only[zz];refine aQ m 0 rfl rfl rfl aO (dH rfl) rfl ?_;clear m;intro u m;simp only[zy,zx,bB,zF,zG,Nat.reduceAdd] at m;refine aD ?_;rw [aay hsq] at m;simp only[Exit.inBlock,Exit.then];refine ⟨_,_,rfl,?_,m,?_⟩
     · simp only[zz,zv]
     ·
      simp only[zQ,zR,zD,zE];exact ⟨trivial,trivial⟩
    ·
     have hsq:=Classical.not_not.1 (mt aaY.2 hc2);refine wp_skip ?_;rw [Xu hsq] at m;simp only[Exit.inBlock,Exit.then];refine ⟨_,_,rfl,?_,m,?_⟩
     · simp only[zz,zv]
     ·
      simp only[zQ,zR,zD,zE];exact ⟨trivial,trivial⟩
   ·
    intro vs i wr m hI u;obtain ⟨rfl,rfl⟩:=hI;simp only[zF,zG] at m;simp only[zu,zF,zG];refine k10 _ _ ?_;refine aC fun K12 k12=>wp_region_lit (aI rfl ((m.b 0 rfl).full bG aO) ?_);simp only[zz];refine cW m rfl rfl (ach (a:=tN mv.1 mv.2) (aaz.mono (by decide))) ?_;clear m;intro u m;refine aA (aB) (aA (bL rfl rfl) (aA (bL rfl rfl) ?_));simp only[zz];refine aA (aF) (aA (aF) (aD (k12 _ _ ?_)));refine aC fun K13 k13=>aC fun K14 k14=>wp_region_lit (aA (aB) (aA (iO rfl) ?_));simp only[zz];refine aD (k14 _ _ ?_);refine fB rfl (fun hc3=>?_) (fun hc3=>?_)
    ·
     have hc3 : ¬ nO (tN mv.1 mv.2):=by simpa using hc3
     have hno:=aaA hmv hme hc3;refine aC fun K15 k15=>wp_region_lit (aA (aF) (aD (k15 _ _ ?_)));refine wp_ret ?_;simp only[zz];try simp only[Exit.inBlock,Exit.then,if_true]
     refine bP rfl rfl ?_;try simp only[zD,zE]
     exact ⟨_,rfl,_,by rw [hno];rfl,m.sel [false,false,false,true,true],fun n h=>by rw [hno] at h;cases h⟩
    ·
     have hc3 : nO (tN mv.1 mv.2):=by simpa using hc3
     have hme2:=Xv hmv hme hc3;refine wp_skip (k13 _ _ ?_);rw [Sn,if_pos hc3];refine wp_region_lit (aA (aB) (aA (aB) (aA (cN rfl) (aA (aJ (c:=0) iA rfl aT rfl rfl) ?_))));simp only[zz];refine aI rfl ((m.b 3 rfl).lies1 bF rfl) ?_;simp only[zz];refine aA (aB) (aA (acy rfl rfl (aaw _ _)) (aA (cN rfl) (aA (aJ (c:=0) iA rfl aT rfl rfl) ?_)));simp only[zz];refine Ol (off:=5) m 3 rfl rfl rfl aT (dH rfl) ⟨rfl,rfl⟩ ?_;clear m;intro u m;simp only[zz,zy,zx,bB,Nat.reduceAdd] at m;refine aD (k6 _ _ ?_);refine wp_region_lit (aA (aR rfl rfl (aM (by omega) (by omega))) (aA (aB) (aD ?_)));simp only[zz];simp only[Exit.inBlock,Exit.then];refine ⟨N3 - (k + 1),_,?_,rfl,?_,?_⟩
     · omega
     · simp only[zz,zv]
     ·
      simp only[zQ,zR,zD,zE];exact ⟨k + 1,_,rfl,(m.sel [false,false,false,true,true]),hme2,by omega,rfl⟩
  ·
   have hkN : k = N3:=by omega
   rw [List.drop_of_length_le (by rw [hL3.len];omega)] at hme;refine wp_exit (k2 _ _ ?_);refine aC fun K16 k16=>wp_region_lit (aA (aF) (aD (k16 _ _ ?_)));refine wp_ret ?_;simp only[zz];try simp only[Exit.inBlock,Exit.then,if_true]
   refine bP rfl rfl ?_;try simp only[zD,zE]
   exact ⟨_,rfl,_,by rw [hme];rfl,m.sel [true,true],fun n h=>by rw [hme] at h;cases h;rfl⟩
end Go.Proofs.YtfohfflkhpfjeaaGreatDoor
namespace Go.Lith
section
variable {w0 w : World} {x y z : It} {is : List It}
theorem bS.pack1 (m : bS w0 w (x :: is)) : bS w0 w [x,Gg is]:=bS.pack [x] m
theorem bS.unpack2 (m : bS w0 w [x,y,Gg is]) : bS w0 w (x :: y :: is):=bS.unpack [x,y] m
theorem bS.pack3 (m : bS w0 w (x :: y :: z :: is)) : bS w0 w [x,y,z,Gg is]:=bS.pack [x,y,z] m
theorem bS.unpack3 (m : bS w0 w [x,y,z,Gg is]) : bS w0 w (x :: y :: z :: is):=bS.unpack [x,y,z] m
end
end Go.Lith
namespace Go.Proofs.YtfohfflkhpfjeaaGreatDoor
open Go.Proofs.Tryz
open Go.RowKit Go.Lith
set_option maxRecDepth 100000
attribute [local irreducible] wpList wpQuiet dD cO cF Code.wp
section
variable {fs gs : List T3} {ms : List Mv}
theorem aec (h : (if eA true fs ≠ 0 then eA true fs else eA true gs) ≠ 0) : nN fs gs ms = (0,if eA true fs ≠ 0 then eA true fs else eA true gs):=by
 unfold nN;by_cases h1 : eA true fs ≠ 0
 · rw [if_pos h1,if_pos h1]
 ·
  rw [if_neg h1] at h;rw [if_neg h1,if_neg h1,if_pos h]
theorem aed (h : ¬ (if eA true fs ≠ 0 then eA true fs else eA true gs) ≠ 0) : eA true fs = 0 ∧ eA true gs = 0:=by
 by_cases h1 : eA true fs ≠ 0
 · rw [if_pos h1] at h;exact absurd h1 h
 · rw [if_neg h1] at h;exact ⟨Classical.not_not.1 h1,Classical.not_not.1 h⟩
theorem aee (hf : eA true fs = 0) (hg : eA true gs = 0) (h : zW fs gs ≠ 0) : nN fs gs ms = (0,zW fs gs):=by
 rw [nN,if_neg (fun k=>k hf),if_neg (fun k=>k hg)];unfold zW at h ⊢;split
 · rfl
 ·
  rename_i h1;rw [if_neg h1] at h;split
  · rfl
  · rename_i h2;rw [if_neg h2] at h;exact absurd rfl h
theorem aef (h : ¬ zW fs gs ≠ 0) : aS fs = aS gs ∧ ¬ (pL fs gs (aS fs) = true ∨ wV fs gs (aS fs) = false):=by
 unfold zW at h;split at h
 · exact absurd (by decide) h
 ·
  rename_i h1;split at h
  · exact absurd (by decide) h
  · rename_i h2;exact ⟨Classical.not_not.1 h1,h2⟩
theorem If (hf : eA true fs = 0) (hg : eA true gs = 0) (hb : ¬ zW fs gs ≠ 0) : nN fs gs ms = if oM fs gs ms (aS fs) = false then ((0 : Int),(31 : Int)) else if pM fs gs ms = false then ((0 : Int),(32 : Int)) else match mA ms 0 with
 | some n=>(n,(0 : Int))
 | none=>((0 : Int),(3 : Int)):=by
 obtain ⟨h1,h2⟩:=aef hb;rw [nN,if_neg (fun k=>k hf),if_neg (fun k=>k hg),if_neg (fun k=>k h1),if_neg h2];cases mA ms 0 <;> rfl
theorem Xw {b : Bool} {n : Int} (h : (if b = true then 0 else n) ≠ 0) : b = false:=by cases b with | false=>rfl | true=>exact absurd rfl h
theorem Xx {b : Bool} {n : Int} (hn : n ≠ 0) (h : ¬ (if b = true then 0 else n) ≠ 0) : b = true:=by cases b with | true=>rfl | false=>exact absurd hn h
end
theorem xG {fs gs : List T3} {ms : List Mv} {N cap N2 cap2 N3 cap3 : Nat} {A A2 A3 : Option Addr} (w : World) (hT : dZ w A N fs) (hT2 : dZ w A2 N2 gs) (hL3 : uN bV 6 w A3 N3 ms) (hN : N ≤ 300000) (hN2 : N2 ≤ 300000) (hN3 : N3 ≤ 10000000) (hI : ∀ mv ∈ ms,I3 mv.1 ∧ I3 mv.2) : eE prog 17 [.slice A N cap,.slice A2 N2 cap2,.slice A3 N3 cap3] w (fun v _=>v = .tuple #[.int .i64 (nN fs gs ms).1,.int .i64 (nN fs gs ms).2]):=by
 refine ⟨acU,?_⟩;have m:=bS.refl w
 go_enter func17,ntmps17
 refine aC fun K1 k1=>wp_region_lit (aA (aF) (aA (aF) (aD (k1 _ _ ?_))));refine aC fun K2 k2=>wp_region_lit (aA (aB) (aA (aB) ?_));simp only[zz];refine aA (aB) ?_;simp only[zz];refine jL m ?_;clear m;intro q7 u m;have hD7:=bZ.nil (K:=P3) (V:=P3) pt pt;refine aA (vL rfl rfl rfl rfl) ?_;simp only[zz];refine fA m rfl ?_;clear m;intro g2 u m;refine aA (aF) (aD (k2 _ _ ?_));refine aC fun K3 k3=>aC fun K4 k4=>wp_region_lit (aA (aB) ?_);simp only[zz];refine aA (nY) ?_;simp only[zz,List.map_toArray,List.map_cons,List.map_nil];refine aA (lU rfl) (aA (aB) ?_);simp only[zz];refine aA (nY) ?_;simp only[zz,List.map_toArray,List.map_cons,List.map_nil];refine aA (lU rfl) (aA (aB) ?_);simp only[zz];refine aA (nY) ?_;simp only[zz,List.map_toArray,List.map_cons,List.map_nil];refine aA (lU rfl) (aA (aB) ?_);simp only[zz];refine aA (nY) ?_;simp only[zz,List.map_toArray,List.map_cons,List.map_nil];refine aA (lU rfl) (aA (aB) ?_);simp only[zz];refine aA (nY) ?_;simp only[zz,List.map_toArray,List.map_cons,List.map_nil];refine aA (lU rfl) ?_;simp only[zz];refine Rr rfl rfl rfl rfl rfl ?_;intro u g3 e hg hB;replace m:=m.newB e hg hB;clear e hg hB;refine aA (bC rfl By rfl) (aA (aB) (aD (k4 _ _ ?_)));refine wp_block (wp_loop_rounds 6 (dQ (aC fun K5 k5=>wp_region_lit (aA (bT (m:=0) (n:=5) rfl rfl (by decide)) ?_))));simp only[zz];refine aD (k5 _ _ ?_);refine aC fun K6 k6=>cG rfl (wp_skip (k6 _ _ ?_));refine aC fun K7 k7=>wp_block (aC fun K8 k8=>wp_region_lit (aA (aL By gX rfl rfl (by decide) (by omega) rfl) ?_));simp only[zz];refine aI rfl ((m.b 0 rfl).lies Cb gX rfl rfl) ?_;simp only[zz,zy,Nat.zero_add,Nat.reduceAdd,Nat.reduceMul,Int.reduceToNat];refine aY m tZ rfl ?_;clear m;intro g4 u m;simp only[zz];refine aQ m 0 rfl rfl rfl gX (dH rfl) rfl ?_;clear m;intro u m;simp only[zy,zx,bB,zF,zG,Nat.reduceAdd] at m;refine aD (k8 _ _ ?_);refine aC fun K9 k9=>wp_region_lit (aA (aJ (c:=0) Bx rfl qD rfl rfl) ?_);simp only[zz];refine aI rfl ((m.b 0 rfl).lies1 Ca rfl) ?_;simp only[zz];refine fF m rfl rfl (Oa _ (m.b 2 rfl) (hT.ext m.ext) (hT2.ext m.ext) (by omega) (by omega)) ?_;clear m;rintro v u m rfl;refine aA (aF) (aD (k9 _ _ ?_));refine aC fun K10 k10=>wp_region_lit (aA (aB) (aA (mV rfl rfl) ?_));simp only[zz];refine aD (k10 _ _ ?_);refine cD rfl (fun hc2=>?_) (fun hc2=>?_)
 ·
  refine aC fun K11 k11=>wp_region_lit (aA (aB) (aA (aF) (aA (aF) (aD (k11 _ _ ?_)))));refine wp_ret ?_;simp only[zz];try simp only[Exit.inBlock,Exit.then,if_true]
  refine pS rfl rfl rfl ?_;try simp only[zD,zE]
  exact ⟨_,rfl,m.ext,by rw [aec hc2]⟩
 ·
  obtain ⟨hf,hg⟩:=aed hc2;refine wp_skip (k7 _ _ ?_);refine wp_region_lit (aA (aR (m:=0) (n:=1) (r:=1) rfl rfl (by decide)) (aA (aB) (aD (aU (aC fun K12 k12=>wp_region_lit (aA (bT (m:=1) (n:=5) rfl rfl (by decide)) (aD (k12 _ _ ?_))))))));refine aC fun K13 k13=>cG rfl (wp_skip (k13 _ _ ?_));refine aC fun K14 k14=>wp_block (aC fun K15 k15=>wp_region_lit ?_);simp only[zz];refine aA (aL By gX rfl rfl (by decide) (by omega) rfl) ?_;simp only[zz];refine aI rfl ((m.b 1 rfl).lies Cb gX rfl rfl) ?_;simp only[zz,zy,Nat.zero_add,Nat.reduceAdd,Nat.reduceMul,Int.reduceToNat];refine aY m tZ rfl ?_;clear m;intro g5 u m;simp only[zz];refine aQ m 0 rfl rfl rfl gX (dH rfl) rfl ?_;clear m;intro u m;simp only[zy,zx,bB,zF,zG,Nat.reduceAdd] at m;refine aD (k15 _ _ ?_);refine aC fun K16 k16=>wp_region_lit (aA (aJ (c:=0) Bx rfl qD rfl rfl) ?_);simp only[zz];refine aI rfl ((m.b 0 rfl).lies1 Ca rfl) ?_;simp only[zz];replace m:=m.pull 3 rfl;simp only[vJ,vK,zF,zG] at m;replace m:=m.pack1;refine Ib rfl rfl (Sv m (hT) (hT2) (by omega) (by omega) hf hg) ?_;clear m;rintro v u ⟨A4,c4,rfl,m⟩;simp only[zz];replace m:=m.unpack2;refine aA (aF) (aD (k16 _ _ ?_));refine aC fun K17 k17=>wp_region_lit (aA (aB) (aA (mV rfl rfl) (aD (k17 _ _ ?_))));simp only[zz];refine cD rfl (fun hc2=>?_) (fun hc2=>?_)
  ·
   refine aC fun K18 k18=>wp_region_lit (aA (aB) (aA (aF) (aA (aF) (aD (k18 _ _ ?_)))));refine wp_ret ?_;simp only[zz];try simp only[Exit.inBlock,Exit.then,if_true]
   refine pS rfl rfl rfl ?_;try simp only[zD,zE]
   exact ⟨_,rfl,m.ext,by rw [aee hf hg hc2]⟩
  ·
   have hb:=hc2;refine wp_skip (k14 _ _ ?_);refine wp_region_lit (aA (aR (m:=1) (n:=1) (r:=2) rfl rfl (by decide)) (aA (aB) (aD (aU (aC fun K19 k19=>wp_region_lit (aA (bT (m:=2) (n:=5) rfl rfl (by decide)) (aD (k19 _ _ ?_))))))));refine aC fun K20 k20=>cG rfl (wp_skip (k20 _ _ ?_));refine aC fun K21 k21=>wp_block (aC fun K22 k22=>wp_region_lit ?_);simp only[zz];refine aA (aL By gX rfl rfl (by decide) (by omega) rfl) ?_;simp only[zz];refine aI rfl ((m.b 4 rfl).lies Cb gX rfl rfl) ?_;simp only[zz,zy,Nat.zero_add,Nat.reduceAdd,Nat.reduceMul,Int.reduceToNat];refine aY m tZ rfl ?_;clear m;intro g6 u m;simp only[zz];refine aQ m 0 rfl rfl rfl gX (dH rfl) rfl ?_;clear m;intro u m;simp only[zy,zx,bB,zF,zG,Nat.reduceAdd] at m;refine aD (k22 _ _ ?_);refine aC fun K23 k23=>wp_region_lit (aA (aJ (c:=0) Bx rfl qD rfl rfl) ?_);simp only[zz];refine aI rfl ((m.b 0 rfl).lies1 Ca rfl) ?_;simp only[zz];replace m:=m.pull 6 rfl;simp only[vJ,vK,zF,zG] at m;replace m:=m.pull 3 rfl;simp only[vJ,vK,zF,zG] at m;replace m:=m.pull 3 rfl;simp only[vJ,vK,zF,zG] at m;replace m:=m.pack3;refine Ib rfl rfl (aci m hT hT2 hL3 hN hN2 hN3 hD7) ?_;clear m;rintro v u ⟨es7,c7,rfl,m,hD7i⟩;simp only[zz];replace m:=m.unpack3;refine aA (aF) (aD (k23 _ _ ?_));refine aC fun K24 k24=>wp_region_lit (aA (aB) (aA (mV rfl rfl) (aD (k24 _ _ ?_))));simp only[zz];refine cD rfl (fun hc2=>?_) (fun hc2=>?_)
   ·
    have hmv:=Xw hc2;refine aC fun K25 k25=>wp_region_lit (aA (aB) (aA (aF) (aA (aF) (aD (k25 _ _ ?_)))));refine wp_ret ?_;simp only[zz];try simp only[Exit.inBlock,Exit.then,if_true]
    refine pS rfl rfl rfl ?_;try simp only[zD,zE]
    exact ⟨_,rfl,m.ext,by rw [If hf hg hb,hmv];rfl⟩
   ·
    have hmv:=Xx (by decide) hc2;have hD7:=hD7i hmv;have himg:=Zz (Kx hmv);refine wp_skip (k21 _ _ ?_);refine wp_region_lit (aA (aR (m:=2) (n:=1) (r:=3) rfl rfl (by decide)) (aA (aB) (aD (aU (aC fun K26 k26=>wp_region_lit (aA (bT (m:=3) (n:=5) rfl rfl (by decide)) (aD (k26 _ _ ?_))))))));refine aC fun K27 k27=>cG rfl (wp_skip (k27 _ _ ?_));refine aC fun K28 k28=>wp_block (aC fun K29 k29=>wp_region_lit ?_);simp only[zz];refine aA (aL By gX rfl rfl (by decide) (by omega) rfl) ?_;simp only[zz];refine aI rfl ((m.b 6 rfl).lies Cb gX rfl rfl) ?_;simp only[zz,zy,Nat.zero_add,Nat.reduceAdd,Nat.reduceMul,Int.reduceToNat];refine aY m tZ rfl ?_;clear m;intro g7 u m;simp only[zz];refine aQ m 0 rfl rfl rfl gX (dH rfl) rfl ?_;clear m;intro u m;simp only[zy,zx,bB,zF,zG,Nat.reduceAdd] at m;refine aD (k29 _ _ ?_);refine aC fun K30 k30=>wp_region_lit (aA (aJ (c:=0) Bx rfl qD rfl rfl) ?_);simp only[zz];refine aI rfl ((m.b 0 rfl).lies1 Ca rfl) ?_;simp only[zz];refine fF m rfl rfl (aat (ms:=ms) _ (m.b 2 rfl) (hT.ext m.ext) (hT2.ext m.ext) hN hN2 (m.p 3 rfl) hD7 himg) ?_;clear m;rintro v u m rfl;refine aA (aF) (aD (k30 _ _ ?_));refine aC fun K31 k31=>wp_region_lit (aA (aB) (aA (mV rfl rfl) ?_));simp only[zz];refine aD (k31 _ _ ?_);refine cD rfl (fun hc2=>?_) (fun hc2=>?_)
    ·
     have hcv:=Xw hc2;refine aC fun K32 k32=>wp_region_lit (aA (aB) (aA (aF) (aA (aF) (aD (k32 _ _ ?_)))));refine wp_ret ?_;simp only[zz];try simp only[Exit.inBlock,Exit.then,if_true]
     refine pS rfl rfl rfl ?_;try simp only[zD,zE]
     exact ⟨_,rfl,m.ext,by rw [If hf hg hb,hmv,hcv];rfl⟩
    ·
     have hcv:=Xx (by decide) hc2;refine wp_skip (k28 _ _ ?_);refine wp_region_lit (aA (aR (m:=3) (n:=1) (r:=4) rfl rfl (by decide)) (aA (aB) (aD (aU (aC fun K33 k33=>wp_region_lit (aA (bT (m:=4) (n:=5) rfl rfl (by decide)) (aD (k33 _ _ ?_))))))));refine aC fun K34 k34=>cG rfl (wp_skip (k34 _ _ ?_));refine aC fun K35 k35=>wp_block (aC fun K36 k36=>wp_region_lit ?_);simp only[zz];refine aA (aL By gX rfl rfl (by decide) (by omega) rfl) ?_;simp only[zz];refine aI rfl ((m.b 7 rfl).lies Cb gX rfl rfl) ?_;simp only[zz,zy,Nat.zero_add,Nat.reduceAdd,Nat.reduceMul,Int.reduceToNat];refine aY m tZ rfl ?_;clear m;intro g8 u m;simp only[zz];refine aQ m 0 rfl rfl rfl gX (dH rfl) rfl ?_;clear m;intro u m;simp only[zy,zx,bB,zF,zG,Nat.reduceAdd] at m;refine aD (k36 _ _ ?_);refine aC fun K37 k37=>wp_region_lit (aA (aJ (c:=0) Bx rfl qD rfl rfl) ?_);simp only[zz];refine aI rfl ((m.b 0 rfl).lies1 Ca rfl) ?_;simp only[zz];replace m:=m.pull 3 rfl;simp only[vJ,vK,zF,zG] at m;replace m:=m.pack1;refine Ib rfl rfl (Sz m hL3 hN3 hI) ?_;clear m;rintro v u ⟨y,rfl,m,hme⟩;refine aA (aF) (aD (k37 _ _ ?_));refine aC fun K38 k38=>wp_region_lit (aA (aB) (aA (mV rfl rfl) ?_));simp only[zz];refine aD (k38 _ _ ?_);refine cD rfl (fun hc2=>?_) (fun hc2=>?_)
     ·
      have hm0 : mA ms 0 = none:=Option.not_isSome_iff_eq_none.1 (by rw [Xw hc2];exact Bool.false_ne_true);refine aC fun K39 k39=>wp_region_lit (aA (aB) (aA (aF) (aA (aF) (aD (k39 _ _ ?_)))));refine wp_ret ?_;simp only[zz];try simp only[Exit.inBlock,Exit.then,if_true]
      refine pS rfl rfl rfl ?_;try simp only[zD,zE]
      exact ⟨_,rfl,m.ext,by rw [If hf hg hb,hmv,hcv,hm0];rfl⟩
     ·
      have hm0:=Xx (by decide) hc2;obtain ⟨q,hq⟩:=Option.isSome_iff_exists.1 hm0;obtain rfl:=hme q hq;refine wp_skip (k35 _ _ ?_);refine wp_region_lit (aA (aR (m:=4) (n:=1) (r:=5) rfl rfl (by decide)) (aA (aB) (aD (aU (aC fun K40 k40=>wp_region_lit (aA (eG (m:=5) (n:=5) rfl rfl (by decide)) (aD (k40 _ _ ?_))))))));refine aC fun K41 k41=>iT rfl (wp_exit (k3 _ _ ?_));refine aC fun K42 k42=>wp_region_lit (aA (aB) ?_);simp only[zz];refine aA (cN rfl) (aA (aJ (c:=0) iA rfl aT rfl rfl) ?_);simp only[zz];refine aI rfl ((m.b 0 rfl).lies1 bF rfl) ?_;simp only[zz];refine aA (aF) (aA (aF) (aD (k42 _ _ ?_)));refine wp_ret ?_;simp only[zz];try simp only[Exit.inBlock,Exit.then,if_true]
      refine pS rfl rfl rfl ?_;try simp only[zD,zE]
      exact ⟨_,rfl,m.ext,by rw [If hf hg hb,hmv,hcv,hq];rfl⟩
end Go.Proofs.YtfohfflkhpfjeaaGreatDoor
namespace Go.Proofs.YtfohfflkhpfjeaaGreatDoor
open Go.Proofs.Tryz
open Go.RowKit Go.Lith
set_option maxRecDepth 100000
attribute [local irreducible] wpList wpQuiet dD Code.wp
end Go.Proofs.YtfohfflkhpfjeaaGreatDoor
namespace Go.Proofs.YtfohfflkhpfjeaaGreatDoor
open Go.Proofs.Tryz
open Go.RowKit Go.Lith
set_option maxRecDepth 100000
attribute [local irreducible] wpList wpQuiet dD cO cF Code.wp
end Go.Proofs.YtfohfflkhpfjeaaGreatDoor
namespace Go.Proofs.YtfohfflkhpfjeaaGreatDoor
open Go.Proofs.Tryz
open Go.RowKit Go.Lith
set_option maxRecDepth 100000
attribute [local irreducible] wpList wpQuiet dD cO cF Code.wp
end Go.Proofs.YtfohfflkhpfjeaaGreatDoor
namespace Go.Proofs.YtfohfflkhpfjeaaGreatDoor
open Go.Proofs.Tryz
open Go.RowKit Go.Lith
set_option maxRecDepth 100000
attribute [local irreducible] wpList wpQuiet dD cO cF Code.wp
end Go.Proofs.YtfohfflkhpfjeaaGreatDoor
namespace Go.Proofs.YtfohfflkhpfjeaaGreatDoor
open Go.Proofs.Tryz
open Go.RowKit Go.Lith
set_option maxRecDepth 100000
attribute [local irreducible] wpList wpQuiet dD cO cF Code.wp
section
variable {fs gs : List T3} {ms : List Mv}
end
end Go.Proofs.YtfohfflkhpfjeaaGreatDoor
namespace Go.Lith
open Go.RowKit
/-! ### Edges of a list in which triangles are changed -/
section
variable {p : P3} {X : E3 → Prop} {old new R fine fine' : List T3}
end
/-! ### The two kinds of division -/
end Go.Lith
namespace Go.Lith
open Go.RowKit
/-! ### Images -/
section
variable {l fine fine' R : List T3} {ms : List Mv} {B B' : Int} {p : P3}
end
end Go.Lith
namespace Go.Lith
open Go.RowKit
end Go.Lith
namespace Go.Lith
open Go.RowKit
structure Q4 where
 a : Int
 b : Int
 c : Int
 d : Int
def q4C (q : Q4) : List Value:=[.int .i64 q.a,.int .i64 q.b,.int .i64 q.c,.int .i64 q.d]
class IQ (q : Q4) : Prop where
 a : nO q.a
 b : nO q.b
 c : nO q.c
 d : nO q.d
def acq (i : Nat) (q : Q4) : P3:=⟨100 + 50 * (i : Int) + q.b % 40,q.b.tdiv 40 % 200,q.c % 300 - 50⟩
def Gh (i : Nat) (p : P3) : Prop:=100 + 50 * (i : Int) ≤ p.x ∧ p.x < 150 + 50 * (i : Int) ∧ 0 ≤ p.y ∧ p.y < 200 ∧ -50 ≤ p.z ∧ p.z < 250
theorem aaB (i : Nat) (q : Q4) : Gh i (acq i q):=by
 have h1:=mU (n:=q.b) (m:=40) (by decide);have h2:=mU (n:=q.b.tdiv 40) (m:=200) (by decide);have h3:=mU (n:=q.c) (m:=300) (by decide);refine ⟨?_,?_,?_,?_,?_,?_⟩ <;> (simp only[acq];omega)
theorem Xy {z : Int} (h : nO z) : IntKind.i64.wrap (z.tdiv 40) = z.tdiv 40 ∧ nO (z.tdiv 40):=by
 obtain ⟨h1,h2⟩:=h;have hb : -9223372036854775808 ≤ z.tdiv 40 ∧ z.tdiv 40 < 9223372036854775808:=by
  rcases Int.le_total 0 z with hz | hz
  · rw [Int.tdiv_eq_ediv_of_nonneg hz];omega
  · have e : z.tdiv 40 = -((-z) / 40):=by
     rw [← Int.tdiv_eq_ediv_of_nonneg (show 0 ≤ -z by omega),Int.neg_tdiv,Int.neg_neg]
    rw [e];omega
 exact ⟨aM (by omega) (by omega),⟨by omega,by omega⟩⟩
def iK (e x a b : P3) : P3:=if x ≠ a ∧ x ≠ b then x else e
def vS (o : T3) (a b : P3) : P3:=iK (iK (iK (o.cor 0) (o.cor 0) a b) (o.cor 1) a b) (o.cor 2) a b
theorem Xz {e x a b : P3} (h : (decide (¬ (x.x = a.x ∧ x.y = a.y ∧ x.z = a.z)) && decide (¬ (x.x = b.x ∧ x.y = b.y ∧ x.z = b.z))) = true) : iK e x a b = x:=by
 simp only[jX,Bool.and_eq_true,decide_eq_true_eq] at h;exact if_pos h
theorem Ya {e x a b : P3} (h : (decide (¬ (x.x = a.x ∧ x.y = a.y ∧ x.z = a.z)) && decide (¬ (x.x = b.x ∧ x.y = b.y ∧ x.z = b.z))) = false) : iK e x a b = e:=by
 refine if_neg fun k=>?_;simp only[jX] at h;rw [decide_eq_true k.1,decide_eq_true k.2] at h;cases h
inductive acr (rim : List E3) (i : Nat) (us : List T3) (ms : List Mv) : List T3 → List Mv → Prop
 | tri (k : Nat) (t : T3) (c : Nat) (p : P3) (ht : us[k]? = some t) (hc : c < 3) (hp : Gh i p) :
  acr rim i us ms (us.set k ⟨t.cor c,t.cor ((c + 1) % 3),p⟩ ++ [⟨t.cor ((c + 1) % 3),t.cor ((c + 2) % 3),p⟩,⟨t.cor ((c + 2) % 3),t.cor c,p⟩]) (ms ++ [(p,kA ms (t.cor c))])
 | edge (k j : Nat) (t o : T3) (x : P3) (c : Nat) (p : P3) (ht : us[k]? = some t) (hc : c < 3) (ho : us[j]? = some o) (hx : o.fnd (t.cor ((c + 1) % 3)) (t.cor c) = some x)
  (hb : ¬ (Ct rim (t.cor c) = true ∧ Ct rim (t.cor ((c + 1) % 3)) = true)) (hp : Gh i p) :
  acr rim i us ms (((us.set k ⟨t.cor c,p,t.cor ((c + 2) % 3)⟩).set j ⟨t.cor ((c + 1) % 3),p,vS o (t.cor c) (t.cor ((c + 1) % 3))⟩) ++ [⟨p,t.cor ((c + 1) % 3),t.cor ((c + 2) % 3)⟩,⟨p,t.cor c,vS o (t.cor c) (t.cor ((c + 1) % 3))⟩]) (ms ++ [(p,kA ms (t.cor c))])
inductive yH (rim : List E3) (l : List T3) : Nat → List T3 → List Mv → Prop
 | nil : yH rim l 0 l []
 | step {i : Nat} {us us' : List T3} {ms ms' : List Mv} (h : yH rim l i us ms) (s : acr rim i us ms us' ms') : yH rim l (i + 1) us' ms'
theorem yH.len {rim : List E3} {l us : List T3} {i : Nat} {ms : List Mv} (h : yH rim l i us ms) : us.length = l.length + 2 * i ∧ ms.length = i:=by
 induction h with
 | nil=>exact ⟨rfl,rfl⟩
 | step h s ih=>cases s <;> (simp only[List.length_append,List.length_set,List.length_cons,List.length_nil];omega)
def vT (l : List T3) (i : Nat) (x : P3) : Prop:=x ∈ cY l ∨ ∃ j,j < i ∧ Gh j x
theorem lW {ts : List T3} {x : P3} : x ∈ cY ts ↔ ∃ t ∈ ts,x = t.cor 0 ∨ x = t.cor 1 ∨ x = t.cor 2:=by
 unfold cY;rw [List.mem_flatMap];exact exists_congr fun t=>and_congr Iff.rfl (by simp [T3.cor])
theorem oN {ts : List T3} {k c : Nat} {t : T3} (h : ts[k]? = some t) (hc : c < 3) : t.cor c ∈ cY ts:=by
 refine lW.2 ⟨t,List.mem_of_getElem? h,?_⟩;obtain rfl | rfl | rfl : c = 0 ∨ c = 1 ∨ c = 2:=by omega
 · exact .inl rfl
 · exact .inr (.inl rfl)
 · exact .inr (.inr rfl)
theorem aaC (o : T3) (a b : P3) : ∃ c,c < 3 ∧ vS o a b = o.cor c:=by
 have h0 : ∃ c,c < 3 ∧ iK (o.cor 0) (o.cor 0) a b = o.cor c:=⟨0,by decide,by unfold iK;split <;> rfl⟩
 obtain ⟨c,hc,e⟩:=h0;have h1 : ∃ c,c < 3 ∧ iK (iK (o.cor 0) (o.cor 0) a b) (o.cor 1) a b = o.cor c:=by
  rw [e];unfold iK;split
  · exact ⟨1,by decide,rfl⟩
  · exact ⟨c,hc,rfl⟩
 obtain ⟨c,hc,e⟩:=h1;unfold vS;rw [e];unfold iK;split
 · exact ⟨2,by decide,rfl⟩
 · exact ⟨c,hc,rfl⟩
theorem Dq {ts : List T3} {k : Nat} {u : T3} {x : P3} (h : x ∈ cY (ts.set k u)) : x ∈ cY ts ∨ x = u.a ∨ x = u.b ∨ x = u.c:=by
 obtain ⟨t,ht,hx⟩:=lW.1 h;rcases List.mem_or_eq_of_mem_set ht with h | rfl
 · exact .inl (lW.2 ⟨t,h,hx⟩)
 · exact .inr hx
theorem Lo {ts us : List T3} {x : P3} : x ∈ cY (ts ++ us) ↔ x ∈ cY ts ∨ x ∈ cY us:=by unfold cY;rw [List.flatMap_append,List.mem_append]
theorem yH.pts {rim : List E3} {l us : List T3} {i : Nat} {ms : List Mv} (h : yH rim l i us ms) : (∀ x ∈ cY us,vT l i x) ∧ ∀ m ∈ ms,vT l i m.1 ∧ vT l i m.2:=by
 induction h with
 | nil=>exact ⟨fun x h=>.inl h,fun m h=>by cases h⟩
 | @step i us us' ms ms' h s ih =>
  obtain ⟨h1,h2⟩:=ih;have up : ∀ x,vT l i x → vT l (i + 1) x:=fun x h=>h.elim .inl fun ⟨j,hj,hx⟩=>.inr ⟨j,by omega,hx⟩;have img : ∀ (ms : List Mv) (x : P3),(∀ m ∈ ms,vT l i m.2) → vT l i x → vT l i (kA ms x):=by
   intro ms
   induction ms with
   | nil=>intro x _ h;exact h
   | cons m ms ih =>
    intro x hm hx;unfold kA;split
    · exact hm m (List.mem_cons_self ..)
    · exact ih x (fun m h=>hm m (List.mem_cons_of_mem _ h)) hx
  have mv : ∀ p a,Gh i p → vT l i a → ∀ m ∈ ms ++ [(p,kA ms a)],vT l (i + 1) m.1 ∧ vT l (i + 1) m.2:=fun p a hp ha m hm=>by
   rcases List.mem_append.1 hm with hm | hm
   · exact ⟨up _ (h2 m hm).1,up _ (h2 m hm).2⟩
   · obtain rfl:=List.mem_singleton.1 hm
     exact ⟨.inr ⟨i,by omega,hp⟩,up _ (img ms a (fun m hm=>(h2 m hm).2) ha)⟩
  cases s with
  | tri k t c p ht hc hp =>
   have ha:=h1 _ (oN ht hc);have hb:=h1 _ (oN ht (show (c + 1) % 3 < 3 by omega));have hd:=h1 _ (oN ht (show (c + 2) % 3 < 3 by omega));refine ⟨fun x hx=>?_,mv p _ hp ha⟩;have hpp : vT l (i + 1) p:=.inr ⟨i,by omega,hp⟩;rcases Lo.1 hx with hx | hx
   · rcases Dq hx with hx | rfl | rfl | rfl
     · exact up _ (h1 x hx)
     · exact up _ ha
     · exact up _ hb
     · exact hpp
   · simp only[cY,List.flatMap_cons,List.flatMap_nil,List.append_nil,List.mem_append,List.mem_cons,List.not_mem_nil,or_false] at hx
     rcases hx with (rfl | rfl | rfl) | rfl | rfl | rfl
     · exact up _ hb
     · exact up _ hd
     · exact hpp
     · exact up _ hd
     · exact up _ ha
     · exact hpp
  | edge k j t o x0 c p ht hc ho hx0 hb0 hp =>
   have ha:=h1 _ (oN ht hc);have hb:=h1 _ (oN ht (show (c + 1) % 3 < 3 by omega));have hd:=h1 _ (oN ht (show (c + 2) % 3 < 3 by omega));obtain ⟨c2,hc2,e2⟩:=aaC o (t.cor c) (t.cor ((c + 1) % 3));have he:=h1 _ (oN ho hc2);rw [e2];refine ⟨fun x hx=>?_,mv p _ hp ha⟩;have hpp : vT l (i + 1) p:=.inr ⟨i,by omega,hp⟩;rcases Lo.1 hx with hx | hx
   · rcases Dq hx with hx | rfl | rfl | rfl
     · rcases Dq hx with hx | rfl | rfl | rfl
       · exact up _ (h1 x hx)
       · exact up _ ha
       · exact hpp
       · exact up _ hd
     · exact up _ hb
     · exact hpp
     · exact up _ he
   · simp only[cY,List.flatMap_cons,List.flatMap_nil,List.append_nil,List.mem_append,List.mem_cons,List.not_mem_nil,or_false] at hx
     rcases hx with (rfl | rfl | rfl) | rfl | rfl | rfl
     · exact hpp
     · exact up _ hb
     · exact up _ hd
     · exact hpp
     · exact up _ ha
     · exact up _ he
def Yb (x : P3) : Prop:=-2000000 ≤ x.x ∧ x.x ≤ 2000000 ∧ -1000000 ≤ x.y ∧ x.y ≤ 1000000 ∧ -1000000 ≤ x.z ∧ x.z ≤ 1000000
theorem Yb.i3 {x : P3} (h : Yb x) : I3 x:=by
 obtain ⟨h1,h2,h3,h4,h5,h6⟩:=h;exact ⟨⟨by omega,by omega⟩,⟨by omega,by omega⟩,⟨by omega,by omega⟩⟩
theorem vT.mid {l : List T3} {i : Nat} {x : P3} (hl : ∀ x ∈ cY l,Yb x) (hi : i ≤ 100) (h : vT l i x) : Yb x:=by
 rcases h with h | ⟨j,hj,h1,h2,h3,h4,h5,h6⟩
 · exact hl x h
 · exact ⟨by omega,by omega,by omega,by omega,by omega,by omega⟩
theorem aeg {ts : List T3} (h : ∀ x ∈ cY ts,I3 x) : ∀ t ∈ ts,IT t:=fun t ht =>
 ⟨h _ (lW.2 ⟨t,ht,.inl rfl⟩),h _ (lW.2 ⟨t,ht,.inr (.inl rfl)⟩),h _ (lW.2 ⟨t,ht,.inr (.inr rfl)⟩)⟩
theorem Yc {ts : List T3} (h : ∀ t ∈ ts,Yh 200 t) : ∀ x ∈ cY ts,Yb x:=fun x hx=>by
 obtain ⟨t,ht,hx⟩:=lW.1 hx;have key : ∀ y,Sm 200 y → Yb y:=fun y ⟨⟨h1,h2⟩,⟨h3,h4⟩,h5,h6⟩=>⟨by omega,by omega,by omega,by omega,by omega,by omega⟩
 rcases hx with rfl | rfl | rfl
 · exact key _ (h t ht).1
 · exact key _ (h t ht).2.1
 · exact key _ (h t ht).2.2
end Go.Lith
namespace Go.Proofs.YtfohfflkhpfjeaaGreatDoor
open Go.Proofs.Tryz
open Go.RowKit Go.Lith
set_option maxRecDepth 100000
attribute [local irreducible] wpList wpQuiet dD cO cF Code.wp
theorem xH {n k : Int} [Iw n] (h0 : 0 < k) (h1 : k < 4611686018427387904) : jB prog 29 [.int .i64 n,.int .i64 k] (.int .i64 (n % k)):=by
 intro w;refine ⟨ac3,?_⟩;have m:=bS.refl w;have hb:=Ux (n:=n) h0
 go_enter func29,ntmps29
 refine aC fun K1 k1=>wp_region_lit (aA (aF) (aD (k1 _ _ ?_)));refine aC fun K2 k2=>wp_region_lit (aA (aB) (aA (aB) ?_));simp only[zz];refine aA (dJ rfl rfl (by omega) rfl) (aA (aB) ?_);simp only[zz];refine aA (aR rfl rfl (aM (by omega) (by omega))) (aA (aB) ?_);simp only[zz];refine aA (dJ rfl rfl (by omega) (Om h0)) (aA (aF) (aD (k2 _ _ ?_)));refine wp_ret ?_;simp only[zz];try simp only[Exit.inBlock,Exit.then,if_true]
 refine bP rfl rfl ?_;try simp only[zD,zE]
 exact ⟨_,rfl,m.ext,rfl⟩
theorem rW {n k : Int} [Iw n] (h0 : 0 < k) (h1 : k < 4611686018427387904) : jB prog 21 [.int .i64 n,.int .i64 k] (.int .i64 (n % k)):=by
 intro w;refine ⟨acX,?_⟩;have m:=bS.refl w;have hb:=Ux (n:=n) h0
 go_enter func21,ntmps21
 refine aC fun K1 k1=>wp_region_lit (aA (aF) (aD (k1 _ _ ?_)));refine aC fun K2 k2=>wp_region_lit (aA (aB) (aA (aB) ?_));simp only[zz];refine aA (dJ rfl rfl (by omega) rfl) (aA (aB) ?_);simp only[zz];refine aA (aR rfl rfl (aM (by omega) (by omega))) (aA (aB) ?_);simp only[zz];refine aA (dJ rfl rfl (by omega) (Om h0)) (aA (aF) (aD (k2 _ _ ?_)));refine wp_ret ?_;simp only[zz];try simp only[Exit.inBlock,Exit.then,if_true]
 refine bP rfl rfl ?_;try simp only[zD,zE]
 exact ⟨_,rfl,m.ext,rfl⟩
theorem Ig {x y N cap : Nat} {A : Option Addr} {zs : List Int} (w : World) (hZ : nJ w A N zs) (hx : x ≤ 6) (hy : y ≤ 6) : eE prog 84 [.int .i64 (x : Int),.int .i64 (y : Int),.int .i64 10,.slice A N cap] w (fun v _=>v = pt (mZ 10 zs x y)):=by
 refine ⟨adM,?_⟩;have m:=bS.refl w
 go_enter func84,ntmps84
 refine aC fun K1 k1=>wp_region_lit (aY m bK rfl ?_);clear m;intro g1 u m;refine aD (k1 _ _ ?_);refine aC fun K2 k2=>wp_region_lit (aA (aF) (aD (k2 _ _ ?_)));refine aC fun K3 k3=>aC fun K4 k4=>wp_region_lit (aA (aB) (aA (bC rfl bY rfl) ?_));simp only[zz];refine aA (oQ rfl rfl) (aD (k4 _ _ ?_));simp only[zz];refine cD rfl (fun hc1=>?_) (fun hc1=>?_)
 ·
  have hi : (y * 7 + x) % N < N:=Nat.mod_lt _ (by omega);obtain ⟨z,hz,hzI,a,rfl,hcell⟩:=hZ.get hi;have hz6:=mU (n:=z) (m:=64) (by decide);refine wp_region_lit (aA (aB) (aA (aB) ?_));simp only[zz];refine aA (eO rfl rfl (aM (by omega) (by omega))) (aA (aB) ?_);simp only[zz];refine aA (aR rfl rfl (aM (by omega) (by omega))) (aA (aB) (aA (bC rfl bY rfl) ?_));simp only[zz];refine aA (dJ rfl rfl (by omega) (Jk (k:=y * 7 + x))) (aA (aL bY aT rfl rfl (Int.natCast_nonneg _) (Int.ofNat_lt.2 hi) (fW (Int.toNat_natCast _))) ?_);simp only[zz];refine aI rfl (lies1 (m.ext.cell hcell) bF) ?_;simp only[zz];refine cW m rfl rfl (xH (n:=z) (k:=64) (by decide) (by decide)) ?_;clear m;intro u m;refine aA (aF) (aD (k3 _ _ ?_));refine aC fun K5 k5=>wp_region_lit (aA (aB) (aA (aB) ?_));simp only[zz];refine aA (eO rfl rfl (aM (by omega) (by omega))) (aA (aB) (aA (aB) ?_));simp only[zz];refine aA (eO rfl rfl (aM (by omega) (by omega))) (aA (aB) ?_);simp only[zz];refine aA (aR rfl rfl (aM (by omega) (by omega))) (aA (dC rfl rfl rfl) ?_);simp only[zz];refine aQ m 0 rfl rfl rfl aG (dH rfl) rfl ?_;clear m;intro u m;simp only[zy,zx,bB,zF,zG,Nat.reduceAdd] at m;refine aD (k5 _ _ ?_);refine wp_ret ?_;try simp only[Exit.inBlock,Exit.then,if_true]
  refine bP rfl ⟨_,rfl,((m.b 0 rfl).full aK aG)⟩ ?_;try simp only[zD,zE]
  exact ⟨_,rfl,m.ext,by simp only[pt,mZ,Uz hZ.len hz]⟩
 ·
  refine wp_skip (k3 _ _ ?_);refine aC fun K6 k6=>wp_region_lit (aA (aB) (aA (aB) ?_));simp only[zz];refine aA (eO rfl rfl (aM (by omega) (by omega))) (aA (aB) (aA (aB) ?_));simp only[zz];refine aA (eO rfl rfl (aM (by omega) (by omega))) (aA (aB) (aA (aR (m:=100) (n:=0) (r:=100) rfl rfl (by decide)) (aA (dC rfl rfl rfl) ?_)));simp only[zz];refine aQ m 0 rfl rfl rfl aG (dH rfl) rfl ?_;clear m;intro u m;simp only[zy,zx,bB,zF,zG,Nat.reduceAdd] at m;refine aD (k6 _ _ ?_);refine wp_ret ?_;try simp only[Exit.inBlock,Exit.then,if_true]
  refine bP rfl ⟨_,rfl,((m.b 0 rfl).full aK aG)⟩ ?_;try simp only[zD,zE]
  exact ⟨_,rfl,m.ext,by simp [pt,mZ,Zg hZ.len hc1]⟩
theorem vU {a b c d : P3} (w : World) : eE prog 85 [pt a,pt b,pt c,pt d] w (TS 53 (rZ a b c d) w):=by
 refine ⟨adN,?_⟩;have m:=bS.refl w
 go_enter func85,ntmps85
 refine aC fun K1 k1=>wp_region_lit (fA m rfl ?_);clear m;intro g1 u m;simp only[zz];refine fA m rfl ?_;clear m;intro g2 u m;simp only[zz];refine fA m rfl ?_;clear m;intro g3 u m;simp only[zz];refine fA m rfl ?_;clear m;intro g4 u m;refine aA (aF) (aD (k1 _ _ ?_));refine aC fun K2 k2=>wp_region_lit ?_;simp only[zz];refine aI rfl ((m.b 3 rfl).full aK aG) ?_;simp only[zz];refine aI rfl ((m.b 2 rfl).full aK aG) ?_;simp only[zz];refine aI rfl ((m.b 1 rfl).full aK aG) ?_;simp only[zz];refine aA (bJ rfl rfl rfl) ?_;simp only[zz];refine aI rfl ((m.b 3 rfl).full aK aG) ?_;simp only[zz];refine aI rfl ((m.b 1 rfl).full aK aG) ?_;simp only[zz];refine aI rfl ((m.b 0 rfl).full aK aG) ?_;simp only[zz];refine aA (bJ rfl rfl rfl) ?_;simp only[zz];refine uD rfl rfl ?_;intro u g5 e hg hB;replace m:=m.newB e hg hB;clear e hg hB;refine aA (aF) (aD (k2 _ _ ?_));refine wp_ret ?_;simp only[zz];try simp only[Exit.inBlock,Exit.then,if_true]
 refine bP rfl rfl ?_;try simp only[zD,zE]
 exact ⟨_,rfl,m.ext,⟨_,_,_,rfl,rfl,m.bo 0 rfl rfl (dH rfl)⟩⟩
theorem aaD {n0 : Int} [Iw n0] {N cap : Nat} {A : Option Addr} {zs : List Int} (w : World) (hZ : nJ w A N zs) : eE prog 43 [.int .i64 n0,.int .i64 10,.slice A N cap] w (TS 53 (xQ 10 zs (1 + n0 % 6).toNat) w):=by
 refine ⟨adh,?_⟩;have m:=bS.refl w;have hb:=mU (n:=n0) (m:=6) (by decide);obtain ⟨q,hq⟩ : ∃ q : Nat,q = (1 + n0 % 6).toNat:=⟨_,rfl⟩
 rw [← hq];have hq2 : 1 + n0 % 6 = (q : Int):=by omega
 go_enter func43,ntmps43
 refine aC fun K1 k1=>wp_region_lit (aA (aF) (aD (k1 _ _ ?_)));refine aC fun K2 k2=>wp_region_lit (aA (aB) ?_);simp only[zz];refine cW m rfl rfl (xH (n:=n0) (k:=6) (by decide) (by decide)) ?_;clear m;intro u m;simp only[zz];refine aA (aR rfl rfl (aM (by omega) (by omega))) (aA (aF) (aD ?_));simp only[zz];rw [hq2];refine k2 _ _ ?_;refine aC fun K3 k3=>wp_region_lit (aA (aF) ?_);replace m:=m.nilO 53 9;refine aD (k3 _ _ ?_);refine aC fun K4 k4=>aC fun K5 k5=>wp_region_lit (aA (aF) (aD (k5 _ _ ?_)));refine wp_block ?_;simp only[zz];try simp only[Nat.zero_add,Nat.reduceAdd,Nat.reduceMul,Int.reduceToNat]
 refine bN [7,8] [9,10,11,12,13,17,18,19,20,21,22,23,24,25,26,27,28,29,30,31,32,33,34,35,36,37,38,39,40,41,42,43,44,45,46,47,48,49,50,51,52,53,54,55,56,57] (fun n vs wl=>∃ (A1 : Option Addr) (cap1 y : Nat),vs = [.slice A1 (eK 10 zs q (y) (0)).length cap1,.int .i64 (y:Int)] ∧ bS w wl [oI 53 9 A1 (eK 10 zs q (y) (0)).length cap1 ((eK 10 zs q (y) (0)).flatMap aX)] ∧ (y ≤ q) ∧ (n = q - y)) ?_ ?_
 ·
  apply Exists.intro;simp only[zQ,zR,zD,zE];exact ⟨none,0,0,rfl,m,Nat.zero_le _,rfl⟩
 ·
  intro n vs wr hI u;clear m;obtain ⟨A1,cap1,y,rfl,m,hy,hn⟩:=hI;simp only[zu,zF,zG];refine aC fun K6 k6=>aC fun K7 k7=>wp_region_lit (aA (aB) (aA (aB) (aA (cS rfl rfl) (aD (k7 _ _ ?_)))));simp only[zz];refine cD rfl (fun hc1=>?_) (fun hc1=>?_)
  ·
   refine wp_skip (k6 _ _ ?_);refine aC fun K8 k8=>wp_block (aC fun K9 k9=>wp_region_lit (aA (aF) (aD (k9 _ _ ?_))));refine wp_block ?_;simp only[zz];try simp only[Nat.zero_add,Nat.reduceAdd,Nat.reduceMul,Int.reduceToNat]
   refine bN [7,9] [10,11,12,13,22,23,24,25,26,27,28,29,30,31,32,33,34,35,36,37,38,39,40,41,42,43,44,45,46,47,48,49,50,51,52,53,54,55,56,57] (fun n vs wl=>∃ (A1 : Option Addr) (cap1 x : Nat),vs = [.slice A1 (eK 10 zs q (y) (x)).length cap1,.int .i64 (x:Int)] ∧ bS w wl [oI 53 9 A1 (eK 10 zs q (y) (x)).length cap1 ((eK 10 zs q (y) (x)).flatMap aX)] ∧ (x ≤ q) ∧ (n = q - x)) ?_ ?_
   ·
    apply Exists.intro;simp only[zQ,zR,zD,zE];exact ⟨_,_,0,rfl,m,Nat.zero_le _,rfl⟩
   ·
    intro n vs wr hI u;clear m;obtain ⟨A1,cap1,x,rfl,m,hx,hn2⟩:=hI;simp only[zu,zF,zG];refine aC fun K10 k10=>aC fun K11 k11=>wp_region_lit (aA (aB) (aA (aB) (aA (cS rfl rfl) (aD (k11 _ _ ?_)))));simp only[zz];refine cD rfl (fun hc2=>?_) (fun hc2=>?_)
    ·
     refine wp_skip (k10 _ _ ?_);refine aC fun K12 k12=>wp_block (aC fun K13 k13=>wp_region_lit (aA (aB) (aA (aB) (aA (aB) (aA (aB) ?_)))));simp only[zz];refine fF m rfl rfl (Ig (x:=x) (y:=y) _ (hZ.ext m.ext) (by omega) (by omega)) ?_;clear m;rintro v u m rfl;simp only[zz];refine aY m bK rfl ?_;clear m;intro g1 u m;simp only[zz];refine aQ m 0 rfl rfl rfl aG (dH rfl) rfl ?_;clear m;intro u m;simp only[zy,zx,bB,zF,zG,Nat.reduceAdd] at m;refine aD (k13 _ _ ?_);refine aC fun K14 k14=>wp_region_lit (aA (aB) ?_);simp only[zz];refine aA (aR rfl rfl (aM (by omega) (by omega))) (aA (aB) (aA (aB) (aA (aB) ?_)));simp only[zz];refine fF m rfl rfl (Ig (x:=x + 1) (y:=y) _ (hZ.ext m.ext) (by omega) (by omega)) ?_;clear m;rintro v u m rfl;simp only[zz];refine aY m bK rfl ?_;clear m;intro g2 u m;simp only[zz];refine aQ m 0 rfl rfl rfl aG (dH rfl) rfl ?_;clear m;intro u m;simp only[zy,zx,bB,zF,zG,Nat.reduceAdd] at m;refine aD (k14 _ _ ?_);refine aC fun K15 k15=>wp_region_lit (aA (aB) ?_);simp only[zz];refine aA (aR rfl rfl (aM (by omega) (by omega))) (aA (aB) ?_);simp only[zz];refine aA (aR rfl rfl (aM (by omega) (by omega))) (aA (aB) (aA (aB) ?_));simp only[zz];refine fF m rfl rfl (Ig (x:=x + 1) (y:=y + 1) _ (hZ.ext m.ext) (by omega) (by omega)) ?_;clear m;rintro v u m rfl;simp only[zz];refine aY m bK rfl ?_;clear m;intro g3 u m;simp only[zz];refine aQ m 0 rfl rfl rfl aG (dH rfl) rfl ?_;clear m;intro u m;simp only[zy,zx,bB,zF,zG,Nat.reduceAdd] at m;refine aD (k15 _ _ ?_);refine aC fun K16 k16=>wp_region_lit (aA (aB) (aA (aB) ?_));simp only[zz];refine aA (aR rfl rfl (aM (by omega) (by omega))) (aA (aB) (aA (aB) ?_));simp only[zz];refine fF m rfl rfl (Ig (x:=x) (y:=y + 1) _ (hZ.ext m.ext) (by omega) (by omega)) ?_;clear m;rintro v u m rfl;simp only[zz];refine aY m bK rfl ?_;clear m;intro g4 u m;simp only[zz];refine aQ m 0 rfl rfl rfl aG (dH rfl) rfl ?_;clear m;intro u m;simp only[zy,zx,bB,zF,zG,Nat.reduceAdd] at m;refine aD (k16 _ _ ?_);refine wp_region_lit (aA (aB) ?_);simp only[zz];refine aI rfl ((m.b 3 rfl).full aK aG) ?_;simp only[zz];refine aI rfl ((m.b 2 rfl).full aK aG) ?_;simp only[zz];refine aI rfl ((m.b 1 rfl).full aK aG) ?_;simp only[zz];refine aI rfl ((m.b 0 rfl).full aK aG) ?_;simp only[zz];refine bE rfl rfl (vU (a:=mZ 10 zs x y) (b:=mZ 10 zs (x + 1) y) (c:=mZ 10 zs (x + 1) (y + 1)) (d:=mZ 10 zs x (y + 1)) _) ?_;rintro v u e ⟨A2,cap2,_,rfl,rfl,hN⟩;replace m:=m.newO e hN;clear e hN;simp only[zz];refine eC m 5 rfl rfl cC jZ rfl (by decide) rfl rfl (m.o 0 rfl).own.1 (m.o 0 rfl).row (kP _) (by have:=sT (s:=10) (zs:=zs) (n:=q) (y:=y) (x:=x) (by omega) (by omega) (by omega);show _ + 2 ≤ _;omega) (by have:=sT (s:=10) (zs:=zs) (n:=q) (y:=y) (x:=x) (by omega) (by omega) (by omega);show (_ + 2) * 72 ≤ _;omega) ?_;clear m;intro A1 cap1 u m;simp only[zF,zG] at m;rw [Va,Vb] at m;rw [Vb];refine aA (aF) (aD (k12 _ _ ?_));refine wp_region_lit (aA (aB) ?_);simp only[zz];refine aA (aR rfl rfl (aM (by omega) (by omega))) (aA (aF) (aD ?_));simp only[zz];simp only[Exit.inBlock,Exit.then];refine ⟨q - (x + 1),_,?_,rfl,?_,?_⟩
     · omega
     · simp only[zz,zv]
     ·
      simp only[zQ,zR,zD,zE];exact ⟨_,_,x + 1,rfl,(m.sel [false,false,false,false,false,true]),by omega,rfl⟩
    ·
     have hxq : x = q:=by omega
     rw [hxq,Hf] at m ⊢;refine wp_exit (k8 _ _ ?_);refine wp_region_lit (aA (aB) ?_);simp only[zz];refine aA (aR rfl rfl (aM (by omega) (by omega))) (aA (aF) (aD ?_));simp only[zz];simp only[Exit.inBlock,Exit.then];refine ⟨q - (y + 1),_,?_,rfl,?_,?_⟩
     · omega
     · simp only[zz,zv]
     ·
      simp only[zQ,zR,zD,zE];exact ⟨_,_,y + 1,rfl,m,by omega,rfl⟩
  ·
   have hyq : y = q:=by omega
   rw [hyq,rH] at m ⊢;refine wp_exit (k4 _ _ ?_);refine aC fun K17 k17=>wp_region_lit (aA (aB) (aA (aF) (aD (k17 _ _ ?_))));refine wp_ret ?_;simp only[zz];try simp only[Exit.inBlock,Exit.then,if_true]
   refine bP rfl rfl ?_;try simp only[zD,zE]
   exact ⟨_,rfl,m.ext,⟨_,_,_,rfl,rfl,(m.o 0 rfl)⟩⟩
end Go.Proofs.YtfohfflkhpfjeaaGreatDoor
